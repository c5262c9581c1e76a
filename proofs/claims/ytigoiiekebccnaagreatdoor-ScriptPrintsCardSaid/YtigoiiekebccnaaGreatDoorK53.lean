/- A part of the proof: contracts of functions and plain laws (LawW). -/
import Derived.Test.YtigoiiekebccnaaGreatDoorK51
import Derived.Test.YtigoiiekebccnaaGreatDoorK52
set_option linter.unusedVariables false
set_option linter.unusedSimpArgs false
set_option linter.unnecessarySimpa false
set_option maxHeartbeats 25600000
set_option maxRecDepth 100000
namespace Go.Proofs.YtigoiiekebccnaaGreatDoor
open Go.ChangeShapes Go.WideShapes Go.ChangeAt Go.RowKit Go.Deep
open Go.DataW renaming trod->auD,Trod->auG
open List renaming mem_append_right->auE,mem_range->auF,range->auH
section
variable{H:Type}{enc:TypeId×Value->H}{P:Program}{w:World}{t e ei:TypeId}{v:Value}{d:DataW H}{ps:List MemPlace}{k:IntKind}{f0 f1:Field}
 (he:P.underlying e=some (.struct #[f0,f1])) (o0:f0.offset=0) (o1:f1.offset=1) (k0:P.cellsOf f0.type=1) (k1:P.cellsOf f1.type=1) (hce:P.cellsOf e=2)
 (u0:P.underlying f0.type=some .string) (u1:P.underlying f1.type=some (.slice ei)) (hei:P.underlying ei=some (.int k)) (hcei:P.cellsOf ei=1)
include he o0 o1 k0 k1 hce u0 u1 hei hcei
theorem aqO{m:Nat}{cs:List Value}{y:DataW H×List MemPlace}(h:auD enc P w 0 (fun _=>true) true m e cs=some y):
 ∃(s:ByteArray) (p:Option Addr) (xs:List Int) (c:Nat),cs=[.string s,.slice p xs.length c]/\(xs.length<=c/\c<=maxLen/\∀(j:Nat) x,xs[j]? =some x->∃lb lo,p=some ⟨lb,lo,none⟩/\w.cell? ⟨lb,lo+j,none⟩=some (.int k x))/\
  ∀(w':World) (sp:Nat->Bool),(∀b,b<w.heap.size->w'.heap[b]? =w.heap[b]?)->(∀p∈y.2,p.block<w.heap.size)->(∀p∈y.2,sp p.block=true)->∃n,auD enc P w' 0 sp true n e cs=some y:=by
 obtain⟨y0,y1,m',rfl,hl,hy0,hy1⟩:=trod_struct2 he h;rw[hce]at hl
 match cs,hl with
 |[c0,c1],_=>
  rw[o0,k0]at hy0;rw[o1,k1]at hy1;replace hy0:auD enc P w 0 (fun _=>true) true m' f0.type [c0]=some y0:=hy0;replace hy1:auD enc P w 0 (fun _=>true) true m' f1.type [c1]=some y1:=hy1;obtain⟨s,e0,rfl,hs⟩:=DataW.trod_string u0 hy0;obtain rfl:c0=.string s:=by simpa using e0
  obtain⟨p,xs,c,rfl,h1,h2,h3⟩:=arF u1 hei hcei hy1;refine⟨s,p,xs,c,rfl,⟨h1,h2,h3⟩,fun w' sp hh hlt hsp=> ?_⟩;have hr:auG enc P w 0 (fun _=>true) true f1.type (.slice p xs.length c) y1.1 y1.2:=⟨m',hy1⟩;obtain⟨n,hn⟩:=arY u1 (arC hei) (by rw[hcei];decide) hh hr (fun q hq=>hlt q (auE _ hq)) (fun q hq=>hsp q (auE _ hq));replace hn:auD enc P w' 0 sp true n f1.type [.slice p xs.length c]=some (y1.1,y1.2):=hn;refine⟨n+1,?_⟩;refine trod_struct2_mk (y0:=(.lit (.string s.data.toList),[])) (y1:=(y1.1,y1.2)) he (by rw[hce];rfl) ?_ ?_
  . rw[o0,k0]
    show auD enc P w' 0 sp true n f0.type [.string s]=_
    cases n with
    |zero=>simp[auD]at hn
    |succ n=>simp[auD,u0,hs]
  . rw[o1,k1];exact hn
theorem aq9{r:Reach}{b0:Nat}(ht:P.underlying t=some (.slice e))(hk:k=.i64)(hval:Value.okWide P w r b0 t v)(h:auG enc P w 0 (fun _=>true) true t v d ps):
 (∃l,StepsO w v l)/\∀(w':World) (sp:Nat->Bool),(∀b,b<w.heap.size->w'.heap[b]? =w.heap[b]?)->(∀p∈ps,p.block<w.heap.size)->(∀p∈ps,sp p.block=true)->auG enc P w' 0 sp true t v d ps:=by
 subst hk;obtain⟨fuel,h⟩:=h;have hv:v.cells.toList=[v]:=by
  unfold Value.okWide at hval;rw[ht]at hval
  cases v with
  |agg cs=>simp[Cell.okWide,Cell.ok,ht]at hval
  |_=>rfl
 rw[hv]at h;rcases open_slice ht h with ⟨hc,hx⟩|⟨a,len,cap,m,n,D,Pl,hc,h0,hl,hm,hmm,hx,hi⟩
 . simp only[List.cons.injEq,and_true]at hc
   subst hc;simp only[Prod.mk.injEq]at hx;obtain⟨rfl,rfl⟩:=hx;refine⟨⟨[],none,0,rfl,fun j x hj=>by simp at hj⟩,fun w' sp _ _ _=> ?_⟩;exact shut_slice_nil ht
 . simp only[List.cons.injEq,and_true]at hc
   subst hc;simp only[if_true]at hmm;subst hmm;simp only[Prod.mk.injEq]at hx;obtain⟨rfl,rfl⟩:=hx;rw[hce]at hi|-;refine⟨?_,fun w' sp hh hlt hsp=> ?_⟩
   . have hall:∀i,i<len->∃x:Stp,∃u,w.cell? (a.add (i*2))=some (.string x.1)/\w.cell? (a.add (i*2+1))=some u/\IntS w u x.2:=fun i hlt=>by
      obtain⟨cs,q1,q2⟩:=hi i (by omega);obtain⟨s,p,xs,c,rfl,hI,-⟩:=aqO he o0 o1 k0 k1 hce u0 u1 hei hcei q2;obtain⟨-,-,hcl⟩:=World.cells?_some q1;have z0:=hcl 0 (by decide);have z1:=hcl 1 (by decide);rw[Addr.add_zero']at z0;refine⟨(s,xs),.slice p xs.length c,z0,?_,p,c,rfl,hI⟩;rw[<-Go.Deep.add_add];exact z1
     obtain⟨f,hf⟩:=choose_lt hall;refine⟨(auH len).map f,some a,m,by simp,fun j x hj=> ?_⟩;simp only[List.getElem?_map,Option.map_eq_some_iff]at hj;obtain⟨i,hj,rfl⟩:=hj;have hlt:j<len:=by
      have:=(List.getElem?_eq_some_iff.1 hj).1;simpa using this
     rw[List.getElem?_range hlt]at hj;obtain rfl:=Option.some.inj hj;obtain⟨u,q1,q2,q3⟩:=hf j hlt;obtain⟨b,off,spot⟩:=a;have hspot:spot=none:=by
      obtain⟨_,q0,-⟩:=hf 0 (by omega);have h8:=World.cell?_spot q0;simpa[Addr.add]using h8
     subst hspot;rw[Go.WideShapes.add_plain]at q1 q2;exact⟨b,off,u,rfl,q1,by rw[Nat.add_assoc];exact q2,q3⟩
   . have hin:∀i,i<m->MemPlace.cell a.block (a.off+0)∈MemPlace.row a (m*2)++(auH m).flatMap Pl:=fun i hlt=>by
      refine List.mem_append_left _ ?_;unfold MemPlace.row;exact List.mem_map.2 ⟨0,auF.2 (by omega),rfl⟩
     have hPl:∀i,i<m->∀q∈Pl i,q∈MemPlace.row a (m*2)++(auH m).flatMap Pl:=fun i hlt q hq=>auE _ (List.mem_flatMap.2 ⟨i,auF.2 hlt,hq⟩);have hread:∀i,i<m->∃cs n,w'.cells? 0 (a.add (i*P.cellsOf e)) (P.cellsOf e)=some cs/\auD enc P w' 0 sp true n e cs=some (D i,Pl i):=fun i hlt'=>by
      obtain⟨cs,h1,h2⟩:=hi i hlt';obtain⟨s,p,xs,c,rfl,-,hre⟩:=aqO he o0 o1 k0 k1 hce u0 u1 hei hcei h2;obtain⟨n',hn'⟩:=hre w' sp hh (fun q hq=>hlt q (hPl i hlt' q hq)) (fun q hq=>hsp q (hPl i hlt' q hq));rw[hce];refine⟨_,n',aqA hh h1 (Or.inr ?_),hn'⟩;have:=hlt _ (hin i hlt');have e:(a.add (i*2)).block=a.block:=by unfold Addr.add;split<;>rfl
      rw[e];exact this
     cases hs:sp a.block with
     |true=>
      have:=shut_slice_whole_cells ht (Nat.zero_le _) hl hm hs D Pl hread;rw[hce]at this;exact this
     |false=>
      have h0:m=0:=by
       rcases Nat.eq_zero_or_pos m with h|h
       . exact h
       . have:=hsp _ (hin 0 h);rw[show(MemPlace.cell a.block (a.off+0)).block=a.block from rfl]at this;rw[hs]at this;cases this
      subst h0;obtain rfl:len=0:=by omega
      have:=shut_slice_cells (enc:=enc) (held:=true) ht (Nat.zero_le _) (Nat.le_refl 0) hm hs D Pl (fun i hi=>by omega) (w:=w') (base:=0);show∃n,auD enc P w' 0 sp true n t [Value.slice (some a) 0 0]=some (_,_);simpa using this
end
end Go.Proofs.YtigoiiekebccnaaGreatDoor
