/- A part of the proof: contracts of functions and plain laws (WalkB, FrD, DagC, Ex). -/
import Derived.Test.YtjdgaogkioabeaaGreatDoorK12
import Derived.DeepKeys4
import Derived.Test.YtjdgaogkioabeaaGreatDoorK07
import Derived.Deep.AppendLies
import Derived.Test.YtjdgaogkioabeaaGreatDoorK11
set_option linter.unusedVariables false
set_option linter.unusedSimpArgs false
set_option maxHeartbeats 25600000
set_option maxRecDepth 100000
namespace Go.Proofs.YtjdgaogkioabeaaGreatDoor
section
open Go.RowKit Go.Maps
open _root_.Array renaming getElem?_eq_some_iff->azW,getElem_modify->az1
open Go.Act renaming put->azX
open Go.RowKit.Below renaming heap_setCell->azU,refl->azV
open Go.World renaming cell?_of_block->azT,setCell->azZ,cell?->az0,block_lt_of_cell?->az4
open List renaming setIfInBounds_toArray->azP,set_cons_zero->azQ,set_cons_succ->azR,getElem?_append_left->az2,getElem?_eq_some_iff->az3
open List.cons renaming injEq->az5
open Nat renaming lt_of_lt_of_le->azY,le_trans->az7,lt_or_ge->az8,zero_le->az9
open Option.some renaming inj->azS,injEq->az6
variable{st vis:List Nat}{ns:List Nd}{B c g gv i mb:Nat}{S:Nat->Prop}{n:Nd}{A:Option Addr}{T:TypeId}{sv:Value}{m m':Value->Option Value}{b w' w1 w2 w3:World}
structure Fr(S:Nat->Prop)(w w':World):Prop where
 os:w'.os=w.os
 tape:w'.tape=w.tape
 output:w'.output=w.output
 size:w.heap.size<=w'.heap.size
 block:∀b,b<w.heap.size->¬S b->w'.heap[b]? =w.heap[b]?
theorem Fr.of_below {w:World}(h:Below w.heap.size w w'):Fr S w w':=⟨h.os,h.tape,h.output,h.size,fun b hb _=>h.block b hb⟩
theorem Fr.trans {a c:World}(h:Fr S a b)(k:Fr S b c):Fr S a c:=
 ⟨k.os.trans h.os,k.tape.trans h.tape,k.output.trans h.output,az7 h.size k.size,fun i hi hs=>(k.block i (azY hi h.size) hs).trans (h.block i hi hs)⟩
theorem Fr.of_grown {a:World}{row:Option Nat}(h:a.grownBy b row)(hs:∀i,row=some i->S i):Fr S a b:=
 ⟨h.os,h.tape,h.output,h.size,fun i hi h'=>h.block i hi (fun e=>h' (hs i e.symm))⟩
theorem Fr.setCell {a:World}(h:Fr S a b)(hg:S g)(u:Value):Fr S a (b.setCell ⟨g,i,none⟩ u):=
 ⟨h.os,h.tape,h.output,by simpa[azZ]using h.size,fun k hk hs=>by
   rw[azU _ _ _ _ (fun e=>hs (by simp at e;rw[e];exact hg))];exact h.block k hk hs⟩
theorem Fr.below {a:World}(h:Fr S a b)(hB:B<=a.heap.size)(hS:∀i,S i->B<=i):Below B a b:=
 ⟨h.os,h.tape,h.output,h.size,fun i hi=>h.block i (azY hi hB) (fun hs=>by have:=hS i hs;omega)⟩
def VB(gs mb:Nat)(sv:Value)(b:Nat):Prop:=b=gs\/b=mb\/sv.ownBlock=some b
def nW(w:World)(gv gs mb:Nat)(sv:Value)(vis st:List Nat)(i:Nat)(e:Ending)(w':World):Prop:=
 e=.returned (.tuple #[])/\Fr (VB gs mb sv) w w'/\∃sv',(sv'.ownBlock=sv.ownBlock\/∃b,sv'.ownBlock=some b/\w.heap.size<=b)/\
  (if i∈vis then VS w' gv gs mb sv' vis st else VS w' gv gs mb sv' (i::vis) (st++[i]))
theorem pY(sv:Value):sv.ownBlock=none\/sv.ownBlock≠none:=by
 cases sv.ownBlock
 . exact Or.inl rfl
 . exact Or.inr (by simp)
theorem jG{w:World}{u:Value}(h:w.heap[g]? =some (.cells #[u] T (0,0))):∀j x,[u][j]? =some x->w.cell? ((⟨g,0,none⟩:Addr).add j)=some x:=by
 intro j x hx
 cases j with
 |zero=>simp at hx;subst hx;simp[az0,Addr.add,h]
 |succ j=>simp at hx
theorem ae5{n:Nat}(h:n<=1000000):n+1<=maxLen:=by unfold maxLen;omega
theorem yL{n:Nat}(h:n<=1000000):(n+1)*8<=140737488355328:=by omega
theorem adZ{gs:Nat}(h:w1.heap[gs]? =some (.cells #[sv] T (0,0)))(hb:Below w1.heap.size w1 w2)(hg:w2.grownBy w3 sv.ownBlock)(hn:sv.ownBlock≠some gs):w3.cell? ⟨gs,0,none⟩=some sv/\w3.frozen? ⟨gs,0,none⟩=false:=by
 have h2:=hbl h hb;have h3:=(hg.block gs (aG h2) (fun e=>hn e.symm)).trans h2;exact⟨by simp[az0,h3],by simp[World.frozen?,h3]⟩
theorem ag2{w:World}{gs cap:Nat}(hV:VS w gv gs mb sv vis st)(hnv:¬i∈vis)(hM:MapP Tryz.prog 3 w mb m)(h4:∀j:Nat,m (.int .i64 (j:Int))=if j∈vis then some (.int .i64 1)else none)
 (h6:gv≠gs) (h7:mb≠gs) (h8:mb≠gv) (h9:sv.ownBlock≠some gs) (h10:sv.ownBlock≠some gv) (h11:sv.ownBlock≠some mb)
 (hu:Upd m (.int .i64 (i:Int)) (some (.int .i64 1)) m') (hM1:MapP Tryz.prog 3 w1 mb m') (hgr:w.grownBy w1 (some mb)) (hsz:w1.heap.size=w.heap.size) (hb2:Below w1.heap.size w1 w2)
 (hO:w3.ownsRow 0 3 1 (.slice (some ⟨g,0,none⟩) (st.length+1) cap) (st.length+1) (bM st++[.int .i64 (i:Int)])) (hg3:w2.grownBy w3 sv.ownBlock) (hat:sv.ownBlock=some g\/g=w2.heap.size):
 nW w gv gs mb sv vis st i (.returned (.tuple #[])) (w3.setCell ⟨gs,0,none⟩ (.slice (some ⟨g,0,none⟩) (st.length+1) cap)):=by
 obtain⟨m0,q1,q2,-⟩:=hV;have hs2:=hb2.size;have lgv:=aG q1;have lgs:=aG q2;have lmb:=hM.lt;have hg_gs:g≠gs:=fun e=>hat.elim (fun h=>h9 (by rw[<-e];exact h)) (fun h=>by omega);have hg_gv:g≠gv:=fun e=>hat.elim (fun h=>h10 (by rw[<-e];exact h)) (fun h=>by omega);have hg_mb:g≠mb:=fun e=>hat.elim (fun h=>h11 (by rw[<-e];exact h)) (fun h=>by omega);have far:∀b,b<w.heap.size->b≠mb->sv.ownBlock≠some b->w3.heap[b]? =w.heap[b]? :=fun b hb h1 h2=>
  (hg3.block b (by omega) (fun e=>h2 e.symm)).trans ((hb2.block b (by omega)).trans (hgr.block b hb (fun e=>h1 (azS e))))
 have e1:=(far gv lgv (fun e=>h8 e.symm) h10).trans q1;have e2:=(far gs lgs (fun e=>h7 e.symm) h9).trans q2;have eM:w3.heap[mb]? =w1.heap[mb]? :=(hg3.block mb (by omega) (fun e=>h11 e.symm)).trans (hb2.block mb (by omega));refine⟨rfl,?_,.slice (some ⟨g,0,none⟩) (st.length+1) cap,?_,?_⟩
 . refine Fr.setCell ?_ (Or.inl rfl) _
   refine(Fr.of_grown hgr (fun b e=>Or.inr (Or.inl (azS e).symm))).trans ((Fr.of_below hb2).trans (Fr.of_grown hg3 (fun b e=>Or.inr (Or.inr e))))
 . rcases hat with h|h
   . exact Or.inl (by rw[h];rfl)
   . exact Or.inr ⟨g,rfl,by omega⟩
 . rw[if_neg hnv]
   refine⟨m',?_,?_,?_,?_,?_,h6,h7,h8,?_,?_,?_⟩
   . rw[azU _ _ _ _ (by simpa using h6)];exact e1
   . have hg':gs<w3.heap.size:=aG e2
     have h':w3.heap[gs]=.cells #[sv] 147 (0,0):=(azW.1 e2).2;simp[azZ,hg',az1,h']
   . exact hM1.keep ((by rw[azU _ _ _ _ (by simpa using h7)];exact eM))
   . intro j
     by_cases hj:j=i
     . subst hj;rw[hu.1];simp
     . rw[hu.2 _ (fun e=>hj (by injection e with _ e;omega)),h4 j]
       by_cases hjv:j∈vis
       . rw[if_pos hjv,if_pos (List.mem_cons_of_mem _ hjv)]
       . rw[if_neg hjv,if_neg (fun h=>(List.mem_cons.1 h).elim hj hjv)]
   . have hk:=hO.kept (grownBy_set (World.grownBy.refl w3 (some gs)) (i:=0) (.slice (some ⟨g,0,none⟩) (st.length+1) cap)) (Or.inr (fun e=>hg_gs (azS e)))
     simpa[bM]using hk
   . exact fun e=>hg_gs (azS e)
   . exact fun e=>hg_gv (azS e)
   . exact fun e=>hg_mb (azS e)
theorem yM{w:World}{gs:Nat}(h:VS w gv gs mb sv vis st)(hi:i<=1000000)(hst:st.length<=1000000):
 Calls Tryz.prog 113 #[.int .i64 i,.pointer (some ⟨gv,0,none⟩),.pointer (some ⟨gs,0,none⟩)] w (nW w gv gs mb sv vis st i):=by
 obtain⟨m,h1,h2,h3,h4,h5,h6,h7,h8,h9,h10,h11⟩:=id h;have HV:=hdd h;have H3:=hdd h3;have H5:=hdd h5;have c1:w.cell? ⟨gv,0,none⟩=some (.map (some mb)):=by simp[az0,h1]
 have c2:w.cell? ⟨gs,0,none⟩=some sv:=by simp[az0,h2]
 have hkey:keyOf Tryz.prog 3 (.int .i64 (i:Int))=some (.int .i64 (i:Int)):=kC (by omega);have h4i:=h4 i;have HST:=hdd hst;have H4:=hdd h4;have HVI:=hdd hi;by_cases hv:i∈vis
 . rw[if_pos hv]at h4i
   have HP:Hid (nW w gv gs mb sv vis st i (.returned (.tuple #[])) w):=hdd ⟨rfl,Fr.of_below (azV _ _),sv,Or.inl rfl,by rw[if_pos hv];exact HV.out⟩;clear h h1 h2 h3 h4 h5 h6 h7 h8 h9 h10 h11 hv hi hst;go_enter Tryz.func113,Tryz.ntmps113
   have hv2:(m (.int .i64 (i:Int))).getD (.int .i64 0)=.int .i64 1:=by rw[h4i];rfl
   go_wp2_with (first
    |(at_lookup
      refine aZ _ rfl _ _ _ rfl _ _ aO bY (fD _) mb m rfl H3.out (.int .i64 (i:Int)) _ rfl hkey (.int .i64 1) hv2 ?_))
   go_end0
   exact HP.out
 . rw[if_neg hv]at h4i
   have HNV:=hdd hv;obtain⟨i0,hi0,hz0,hz1,hz2⟩:=info_parts vM;have hv2:(m (.int .i64 (i:Int))).getD (.int .i64 0)=.int .i64 0:=by rw[h4i];rfl
   obtain⟨m',hu⟩:=kR m (.int .i64 (i:Int)) (some (.int .i64 1));have HC:∀w1,w.grownBy w1 (some mb)->w1.heap[gv]? =some (.cells #[.map (some mb)] 174 (0,0))/\w1.heap[gs]? =some (.cells #[sv] 147 (0,0))/\w1.cell? ⟨gv,0,none⟩=some (.map (some mb))/\w1.cell? ⟨gs,0,none⟩=some sv:=by
    intro w1 hg;have e1:=(hg.block gv (aG h1) (fun e=>h8 (azS e).symm)).trans h1;have e2:=(hg.block gs (aG h2) (fun e=>h7 (azS e).symm)).trans h2;exact⟨e1,e2,by simp[az0,e1],by simp[az0,e2]⟩
   have HCC:=hdd HC;have H6:=hdd h6;have H7:=hdd h7;have H8:=hdd h8;have H9:=hdd h9;have HU:=hdd hu;have HKEY:=hdd hkey;have HV2:=hdd hv2;have H10:=hdd h10;have H11:=hdd h11;clear h h4i h10 h11 hst h4 hi h5 h3 HC h1 h2 h6 h7 h8 h9 hu hkey hv2 hv;go_enter Tryz.func113,Tryz.ntmps113
   go_wp2_with (first
    |(at_lookup
      refine aZ _ rfl _ _ _ rfl _ _ aO bY (fD _) mb m rfl H3.out (.int .i64 (i:Int)) _ rfl HKEY.out (.int .i64 0) HV2.out ?_)
    |(at_mapUpdate
      refine eG _ rfl _ _ _ _ rfl _ _ aO bY mb m m' rfl H3.out (.int .i64 (i:Int)) (.int .i64 1) _ rfl rfl HKEY.out HU.out ?_;intro w1 HM1 hgr hsz;obtain⟨g1,g2,d1,d2⟩:=HCC.out w1 hgr;have HG1:=hdd g1;have HG2:=hdd g2;have HGR:=hdd hgr;have HSZ:=hdd hsz;have HO1:=hdd (H5.out.kept hgr (Or.inr H11.out));obtain⟨w2,hw2,hb2,hs2,q2⟩:=pro1 w1 (.cells #[.int .i64 (i:Int)] 3);have HB2:=hdd hb2;have HS2:=hdd hs2;have HQ2:=hdd q2;have d1:=cbl d1 hb2;have d2:=cbl d2 hb2;clear g1 g2 hgr hsz hb2 hs2 q2)
    |(at_builtin
      go_loud (
      refine wpList_append_lies _ rfl _ _ 147 rfl 0 3 i0 (.int .i64 0) 1 8 mV hi0 hz0 hz1 hz2 rfl (by decide) sv st.length (bM st) rfl (HO1.out.kept (bI HB2.out) (pY sv)) ⟨w1.heap.size,0,none⟩ 1 1 [.int .i64 (i:Int)] rfl rfl (jG HQ2.out) (by simp[Value.oneCell']) (by decide) (ae5 HST.out) (yL HST.out) (az9 _) w2.heap.size rfl ?_;intro g cap w3 hown3 hgrow3 hat hlt;obtain⟨x2,f2⟩:=adZ HG2.out HB2.out hgrow3 H9.out;have HO3:=hdd hown3;have HG3:=hdd hgrow3;have HAT:=hdd hat;clear hown3 hgrow3 hat hlt)))
   go_end0
   exact ag2 HV.out HNV.out H3.out H4.out H6.out H7.out H8.out H9.out H10.out H11.out HU.out HM1.out HGR.out HSZ.out HB2.out HO3.out HG3.out HAT.out
def DagB(w:World)(g b:Nat):Prop:=b=g\/∃v mb T,w.heap[g]? =some (.cells #[v,.map (some mb)] T (0,0))/\(v.ownBlock=some b\/mb=b)
def DS(g:Nat)(w w':World):Prop:=Fr (DagB w g) w w'/\∀b,b<w.heap.size->¬DagB w g b->¬DagB w' g b
theorem DS.refl (g:Nat)(w:World):DS g w w:=⟨Fr.of_below (azV _ _),fun _ _ h=>h⟩
theorem DS.size {w:World}(h:DS g w w'):w.heap.size<=w'.heap.size:=h.1.size
theorem DS.trans {a c:World}(h:DS g a b)(k:DS g b c):DS g a c:=
 ⟨⟨k.1.os.trans h.1.os,k.1.tape.trans h.1.tape,k.1.output.trans h.1.output,az7 h.1.size k.1.size,fun i hi hn=>(k.1.block i (azY hi h.1.size) (h.2 i hi hn)).trans (h.1.block i hi hn)⟩,
   fun i hi hn=>k.2 i (azY hi h.1.size) (h.2 i hi hn)⟩
theorem DagB.congr {b:Nat}{w:World}(e:w'.heap[g]? =w.heap[g]?):DagB w' g b↔DagB w g b:=by unfold DagB;rw[e]
theorem DS.of_below {w:World}(hg:g<w.heap.size)(h:Below w.heap.size w w'):DS g w w':=
 ⟨Fr.of_below h,fun b _ hn hd=>hn ((DagB.congr (h.block g hg)).1 hd)⟩
theorem DS.heap {b:Nat}{w:World}(h:DS g w w')(hb:b<w.heap.size)(hn:¬DagB w g b):w'.heap[b]? =w.heap[b]? :=h.1.block b hb hn
theorem DS.cell {w:World}{a:Addr}{v:Value}(h:DS g w w')(hc:w.cell? a=some v)(hn:¬DagB w g a.block):w'.cell? a=some v:=
 (azT (h.1.block a.block (az4 w a hc) hn)).trans hc
theorem DagP.dagB {w:World}{b:Nat}(h:DagP w g ns)(hb:DagB w g b):b<w.heap.size:=by
 obtain⟨v,mb,m,h1,h2,h3,-⟩:=h;rcases hb with rfl|⟨v',mb',T,e,hb⟩
 . exact aG h1
 . rw[h1]at e
   simp only[az6,Obj.cells.injEq,Array.mk.injEq,az5,Value.map.injEq,and_true]at e;obtain⟨⟨rfl,rfl⟩,-⟩:=e;rcases hb with hb|rfl
   . exact jZ h2 b hb
   . exact h3.lt
def ae6(B g:Nat)(w:World):Prop:=∀b,DagB w g b->B<=b
theorem DS.hi {w:World}(h:DS g w w')(hB:B<=w.heap.size)(hh:ae6 B g w):ae6 B g w':=fun b hb=>by
 rcases az8 b B with hlt|hge
 . exact absurd hb (h.2 b (by omega) (fun hd=>by have:=hh b hd;omega))
 . exact hge
theorem DS.below {w:World}(h:DS g w w')(hB:B<=w.heap.size)(hh:ae6 B g w):Below B w w':=
 h.1.below hB hh
section
variable{P:Program}(w:World){ops:Array Oper}{o:Oper}{a:Act}{K:Act->World->Prop}{Q:Exit->Act->World->Prop}{E:Prop}
theorem ajY(hg:o.guard=none)(mo x v:Operand)(t:TypeId)(hop:o.op=Op.mapUpdate t mo x v)
 (k e:TypeId) (K':Keyed P k) (ht:P.underlying t=some (.map k e)) (b:Nat) (m m':Value->Option Value)
 (hm:a.eval mo=.map (some b)) (hown:MapP P k w b m) (key val:Value) (kl:Lit) (hx:a.eval x=key) (hv:a.eval v=val) (hkey:keyOf P k key=some kl) (hu:Upd m key (some val) m')
 (hK:∀w',Hid (MapP P k w' b m')->w.grownBy w' (some b)->w'.heap.size=w.heap.size->K (a.put o.dst undef) w'):if Region.wanted o (yielded ops a.tmps)=true then Oper.wp P o a w K Q else E:=by
 have hw:Region.wanted o (yielded ops a.tmps)=true:=by simp[Region.wanted,hg]
 rw[if_pos hw];obtain⟨w',hrun,r1,r2,r3⟩:=hown.store K' ht hkey hu;unfold Oper.wp;simp[execOp,hop,hm,hx,hv,hrun,Result.andThen];exact hK w' (hdd r1) r2 r3
end
theorem zX:laidOutB Tryz.prog=true:=by kernel_rfl
theorem amS:(166:TypeId)<Tryz.prog.types.size:=of_decide_eq_true (by kernel_rfl)
theorem ajZ:(match Tryz.prog.underlying 166 with|some (.array _ _)|some (.struct _)=>true|_=>false)=true:=by kernel_rfl
theorem qY:Keyed Tryz.prog 166:=Keyed.of_law (deep_law_laid zX (m:=3) (by omega) amS (by kernel_rfl) ajZ)
theorem tY:Tryz.prog.underlying 64=some (.map 166 3):=by kernel_rfl
theorem yN:Tryz.prog.underlying 27=some (.slice 102):=by kernel_rfl
theorem yO:(Tryz.prog.info? 102).map (fun i=>(i.zero,i.size,i.bytes))=some (some (.agg #[.int .i64 0,.float .f64 0,.int .i64 0,.int .i64 0]),4,32):=by kernel_rfl
theorem abS:Tryz.prog.keyType 166=true:=by kernel_rfl
theorem yP:Tryz.prog.cellsOf 166=4:=by kernel_rfl
theorem ag3:Tryz.prog.cellsOf 3=1:=by kernel_rfl
theorem ag4:Tryz.prog.cellsOf 142=1:=by kernel_rfl
theorem amT:Tryz.prog.underlying 142=some (.int .u64):=by kernel_rfl
theorem ad1:∃d,Tryz.prog.types.size=d+2:=⟨Tryz.prog.types.size-2,by
 have h:decide (2<=Tryz.prog.types.size)=true:=by kernel_rfl
 have:=of_decide_eq_true h;omega⟩
def Sm64(i:Int):Prop:=-9223372036854775808<=i/\i<9223372036854775808
theorem wf_i64{i:Int}(h:Sm64 i):(Lit.int .i64 i).wf=true:=by
 have e1:IntKind.i64.min=-9223372036854775808:=rfl;have e2:IntKind.i64.max=9223372036854775807:=rfl;unfold Sm64 at h;simp[Lit.wf,e1,e2];omega
theorem wf_u64{n:Nat}(h:n<18446744073709551616):(Lit.int .u64 (n:Int)).wf=true:=by
 have e1:IntKind.u64.min=0:=rfl;have e2:IntKind.u64.max=18446744073709551615:=rfl;simp[Lit.wf,e1,e2];omega
theorem aj0(hk:Sm64 n.kind)(ha:Sm64 n.a)(hb:Sm64 n.b)(hv:n.val<18446744073709551616):∃kl,keyOf Tryz.prog 166 (keyV n)=some kl:=by
 obtain⟨d,hd⟩:=ad1;have hu:=Tryz.underlying166;have hf:(keyV n).formed Tryz.prog 166=true:=by simp[Value.formed,hu,yP,keyV]
 have hl:∃ls,Tryz.prog.keyLits (Tryz.prog.types.size+1) 166 (keyV n).cells.toList=some ls:=by
  rw[hd];exact⟨_,by simp[Program.keyLits,hu,keyV,Value.cells,yP,ag3,ag4,zW,amT,wf_i64 hk,wf_i64 ha,wf_i64 hb,wf_u64 hv];rfl⟩
 obtain⟨ls,hl⟩:=hl;exact⟨.string (keyBytes ls),by rw[keyOf,hu];simp only[abS,hf,hl,Bool.and_self,if_true,Option.map_some]⟩
theorem aj1{n':Nd}(h:keyV n=keyV n'):n=n':=by
 obtain⟨k,v,a,b⟩:=n;obtain⟨k',v',a',b'⟩:=n';simp only[keyV,Value.agg.injEq,Array.mk.injEq,az5,Value.int.injEq,true_and,and_true]at h;obtain⟨rfl,rfl,rfl,hv⟩:=h;have:v=v':=by omega
 rw[this]
def DagO(w:World)(g:Nat)(ns:List Nd)(A:Option Addr)(c mb:Nat)(m:Value->Option Value):Prop:=
 w.heap[g]? =some (.cells #[.slice A ns.length c,.map (some mb)] 66 (0,0))/\w.ownsRow 0 102 4 (.slice A ns.length c) ns.length (eP ns)/\MapP Tryz.prog 166 w mb m/\
  KeyOk ns m/\(Value.slice A ns.length c).ownBlock≠some g/\mb≠g/\(Value.slice A ns.length c).ownBlock≠some mb/\ns.length<=20000/\∀n∈ns,n.val<18446744073709551616
theorem DagP.opened {w:World}(h:DagP w g ns):∃A c mb m,DagO w g ns A c mb m:=by
 obtain⟨v,mb,m,h1,h2,h3⟩:=h;rcases id h2.2 with ⟨rfl,hn⟩|⟨r,cap,cur,rfl,-⟩
 . exact⟨none,0,mb,m,by rw[hn];exact h1,by rw[hn];rw[hn]at h2;exact h2,h3.1,h3.2.1,by simp[Value.ownBlock],h3.2.2.2.1,by simp[Value.ownBlock],h3.2.2.2.2.2.1,h3.2.2.2.2.2.2⟩
 . exact⟨_,cap,mb,m,h1,h2,h3.1,h3.2.1,h3.2.2.1,h3.2.2.2.1,h3.2.2.2.2.1,h3.2.2.2.2.2.1,h3.2.2.2.2.2.2⟩
theorem DagO.dag {w:World}(h:DagO w g ns A c mb m):DagP w g ns:=by
 obtain⟨h1,h2,h3,h4,h5,h6,h7,h8,h9⟩:=h;exact⟨_,mb,m,h1,h2,h3,h4,h5,h6,h7,h8,h9⟩
theorem DagO.dagB {w:World}{b:Nat}(h:DagO w g ns A c mb m)(hb:¬DagB w g b):b≠g/\b≠mb/\(Value.slice A ns.length c).ownBlock≠some b:=by
 obtain⟨h1,-⟩:=h;exact⟨fun e=>hb (Or.inl e),fun e=>hb (Or.inr ⟨_,mb,_,h1,Or.inr e.symm⟩),fun e=>hb (Or.inr ⟨_,mb,_,h1,Or.inl e⟩)⟩
theorem DagO.below {w:World}(h:DagO w g ns A c mb m)(hb:Below w.heap.size w w'):DagO w' g ns A c mb m:=by
 obtain⟨h1,h2,h3,h4,h5,h6,h7,h8,h9⟩:=h;refine⟨hbl h1 hb,h2.kept (bI (row:=none) hb) ?_,h3.below hb h3.lt,h4,h5,h6,h7,h8,h9⟩
 cases hv:(Value.slice A ns.length c).ownBlock
 . exact Or.inl rfl
 . exact Or.inr (by simp)
theorem vN(ns:List Nd)(n:Nd):eP (ns++[n])=eP ns++gD n:=by simp[eP]
def aj2(w:World)(g:Nat)(ns:List Nd)(n:Nd)(e:Ending)(w':World):Prop:=
 ∃(i:Nat) (ns':List Nd),e=.returned (.tuple #[.int .i64 (i:Int),.nilIface])/\DagP w' g ns'/\ns'[i]? =some n/\(ns'=ns\/ns'=ns++[n])/\DS g w w'
theorem grownBy_refl(w:World)(row:Option Nat):w.grownBy w row:=⟨rfl,rfl,rfl,Nat.le_refl _,fun _ _ _=>rfl⟩
theorem amU{w wA wB wD wE:World}{r cap:Nat}(h:DagO w g ns A c mb m)(hA:Below w.heap.size w wA)
 (hO:wB.ownsRow 0 102 4 (.slice (some ⟨r,0,none⟩) (ns.length+1) cap) (ns.length+1) (eP ns++gD n)) (hB:wA.grownBy wB (Value.slice A ns.length c).ownBlock) (hat:(Value.slice A ns.length c).ownBlock=some r\/r=wA.heap.size)
 (hD:Below wB.heap.size (wB.setCell ⟨g,0,none⟩ (.slice (some ⟨r,0,none⟩) (ns.length+1) cap)) wD) (hM:MapP Tryz.prog 166 wE mb m') (hE:wD.grownBy wE (some mb)) (hu:Upd m (keyV n) (some (.int .i64 (ns.length:Int))) m')
 (hl:ns.length<20000) (hv:n.val<18446744073709551616) (hno:m (keyV n)=none):
 aj2 w g ns n (.returned (.tuple #[.int .i64 (ns.length:Int),.nilIface])) wE:=by
 obtain⟨h1,h2,h3,h4,h5,h6,h7,h8,h9⟩:=id h;have lg:=aG h1;have lm:=h3.lt;have sA:=hA.size;have sB:=hB.size;have hrg:r≠g:=fun e=>hat.elim (fun h=>h5 (by rw[<-e];exact h)) (fun h=>by omega);have hrm:r≠mb:=fun e=>hat.elim (fun h=>h7 (by rw[<-e];exact h)) (fun h=>by omega);have hrB:r<wB.heap.size:=(hO.lt r rfl).2;have szC:(wB.setCell ⟨g,0,none⟩ (.slice (some ⟨r,0,none⟩) (ns.length+1) cap)).heap.size=wB.heap.size:=by simp[azZ]
 have far:∀b,b<w.heap.size->b≠g->b≠mb->(Value.slice A ns.length c).ownBlock≠some b->wE.heap[b]? =w.heap[b]? :=fun b hb q1 q2 q3=>
  (hE.block b (by have:=hD.size;omega) (fun e=>q2 (azS e))).trans ((hD.block b (by omega)).trans ((azU wB _ _ b (by simpa using q1)).trans ((hB.block b (by omega) (fun e=>q3 e.symm)).trans (hA.block b hb))))
 have eg:wB.heap[g]? =some (.cells #[.slice A ns.length c,.map (some mb)] 66 (0,0)):=(hB.block g (by omega) (fun e=>h5 e.symm)).trans ((hA.block g lg).trans h1);have eC:(wB.setCell ⟨g,0,none⟩ (.slice (some ⟨r,0,none⟩) (ns.length+1) cap)).heap[g]? =some (.cells #[.slice (some ⟨r,0,none⟩) (ns.length+1) cap,.map (some mb)] 66 (0,0)):=by
  have hg:g<wB.heap.size:=aG eg;have h':wB.heap[g]=.cells #[.slice A ns.length c,.map (some mb)] 66 (0,0):=(azW.1 eg).2;simp[azZ,hg,az1,h']
 have eE:wE.heap[g]? =some (.cells #[.slice (some ⟨r,0,none⟩) (ns.length+1) cap,.map (some mb)] 66 (0,0)):=
  (hE.block g (by have:=hD.size;omega) (fun e=>h6 (azS e).symm)).trans ((hD.block g (by omega)).trans eC)
 have hO1:=hO.kept (grownBy_set (grownBy_refl wB (some g)) (i:=0) (.slice (some ⟨r,0,none⟩) (ns.length+1) cap)) (Or.inr (fun e=>hrg (azS e)));have hO2:=hO1.kept (bI (row:=none) (by rw[szC];exact hD)) (Or.inr (by simp[Value.ownBlock]));have hO3:=hO2.kept hE (Or.inr (fun e=>hrm (azS e)));have sz:w.heap.size<=wE.heap.size:=by have:=hD.size;have:=hE.size;omega
 refine⟨ns.length,ns++[n],rfl,⟨.slice (some ⟨r,0,none⟩) (ns.length+1) cap,mb,m',?_,?_,hM,?_,?_,h6,?_,by simp;omega,?_⟩,by simp,Or.inr rfl,⟨⟨?_,?_,?_,sz,?_⟩,?_⟩⟩
 . exact eE
 . rw[vN];simpa using hO3
 . refine⟨fun key val hk=> ?_,fun i n' hi=> ?_⟩
   . by_cases hkn:key=keyV n
     . subst hkn
       rw[hu.1]at hk;exact⟨ns.length,n,by simp,(azS hk).symm,rfl⟩
     . rw[hu.2 key hkn]at hk
       obtain⟨i,n',q1,q2,q3⟩:=h4.1 key val hk;exact⟨i,n',by rw[az2 (az3.1 q1).1];exact q1,q2,q3⟩
   . rcases az8 i ns.length with hlt|hge
     . rw[az2 hlt]at hi
       have h1:=h4.2 i n' hi;rw[hu.2 _ (fun e=>by rw[e,hno]at h1;cases h1)];exact h1
     . have hie:=(az3.1 hi).1
       rw[List.length_append,List.length_singleton]at hie;have:i=ns.length:=by omega
       subst this;rw[List.getElem?_append_right nlr,Nat.sub_self]at hi;have:n=n':=azS hi;rw[<-this];exact hu.1
 . exact fun e=>hrg (azS e)
 . exact fun e=>hrm (azS e)
 . intro x hx
   rcases List.mem_append.1 hx with hx|hx
   . exact h9 x hx
   . simp at hx;rw[hx];exact hv
 . exact hE.os.trans (hD.os.trans (hB.os.trans hA.os))
 . exact hE.tape.trans (hD.tape.trans (hB.tape.trans hA.tape))
 . exact hE.output.trans (hD.output.trans (hB.output.trans hA.output))
 . intro b hb hn
   obtain⟨q1,q2,q3⟩:=h.dagB hn;exact far b hb q1 q2 q3
 . rintro b hb hn(rfl|⟨v',mb',T',e,hd⟩)
   . exact(h.dagB hn).1 rfl
   . obtain⟨q1,q2,q3⟩:=h.dagB hn
     rw[eE]at e;simp only[az6,Obj.cells.injEq,Array.mk.injEq,az5,Value.map.injEq,and_true]at e;obtain⟨⟨rfl,rfl⟩,-⟩:=e;rcases hd with hd|rfl
     . have:r=b:=azS hd
       subst this;exact hat.elim q3 (fun h=>by omega)
     . exact q2 rfl
theorem oJ{w:World}{a b c d:Value}(h:w.heap[g]? =some (.cells #[a,b,c,d] T (0,0))):∀j x,[a,b,c,d][j]? =some x->w.cell? ((⟨g,0,none⟩:Addr).add j)=some x:=by
 intro j x hx;rcases j with _|_|_|_|j
 all_goals first|(simp at hx;subst hx;simp[az0,Addr.add,h])|(simp at hx)
theorem amV{w w5 w6:World}(h:DagO w g ns A c mb m)(h5:DagO w5 g ns A c mb m)(hg:w5.grownBy w6 (Value.slice A ns.length c).ownBlock)(hs:w.heap.size<=w5.heap.size)(nv:Value):
 w6.heap[g]? =some (.cells #[.slice A ns.length c,.map (some mb)] 66 (0,0))/\(w6.setCell ⟨g,0,none⟩ nv).heap[g]? =some (.cells #[nv,.map (some mb)] 66 (0,0))/\MapP Tryz.prog 166 (w6.setCell ⟨g,0,none⟩ nv) mb m/\
  ∀b,w.heap.size<=b->b<w5.heap.size->w6.heap[b]? =w5.heap[b]? /\(w6.setCell ⟨g,0,none⟩ nv).heap[b]? =w5.heap[b]? :=by
 obtain⟨h1,h2,h3,h4,h5',h6,h7,h8,h9⟩:=id h;have lg:=aG h1;have lm:=h3.lt;have eg:=(hg.block g (by omega) (fun e=>h5' e.symm)).trans h5.1;have em:w6.heap[mb]? =w5.heap[mb]? :=hg.block mb (by omega) (fun e=>h7 e.symm);refine⟨eg,?_,h5.2.2.1.keep ((azU w6 _ _ mb (by simpa using h6)).trans em),fun b hb hlt=> ?_⟩
 . have hgl:g<w6.heap.size:=aG eg
   have h':w6.heap[g]=.cells #[.slice A ns.length c,.map (some mb)] 66 (0,0):=(azW.1 eg).2;simp[azZ,hgl,az1,h']
 . have e:=hg.block b hlt (fun e=>by have:=jZ h2 b e.symm;omega)
   exact⟨e,(azU w6 _ _ b (by simp;omega)).trans e⟩
theorem amW{w:World}(hd:DagP w g ns)(hn:NdIn n ns.length)(hv:n.val<18446744073709551616)(hl:ns.length<20000):
 Calls Tryz.prog 80 #[.pointer (some ⟨g,0,none⟩),jY n] w (aj2 w g ns n):=by
 obtain⟨A,c,mb,m,ho⟩:=hd.opened;obtain⟨w1,hw1,hb1,hs1,b1⟩:=pro1 w (.cells (gD n).toArray 102);have hkey:∃kl,keyOf Tryz.prog 166 (keyV n)=some kl:=by
  have hk:Sm64 n.kind/\Sm64 n.a/\Sm64 n.b:=by
   rcases hn.1 with ⟨q1,q2,q3⟩|⟨q1,q2,q3,q4⟩|⟨q1,q2,q3,q4⟩<;>unfold Sm64<;>omega
  exact aj0 hk.1 hk.2.1 hk.2.2 hv
 obtain⟨kl,hkey⟩:=hkey;have HO:=hdd ho;have HO1:=hdd (ho.below hb1);have HB1:=hdd hb1;have HT:=hdd (agY (hd.below hb1) hn hv);have HKO:Hid (∀w',Calls Tryz.prog 98 #[.agg #[.int .i64 n.kind,.float .f64 n.val,.int .i64 n.a,.int .i64 n.b]] w' (RetV w' (keyV n))):=hdd fun w'=>agW;have HKEY:=hdd hkey;obtain⟨kind,val,na,nb⟩:=n;simp only[gD,jY]at b1 hw1|-;obtain⟨c0,c1,c2,c3⟩:=aD b1;obtain⟨g0,g1,gf0,gf1⟩:=aC HO1.out.1;have HLEN:=hdd hl;have HV:=hdd hv;have hlI:(ns.length:Int)<20000:=by omega
 have hl0:(0:Int)<=(ns.length:Int):=by omega
 have hneq:=fun(w:World) (r:Option Nat)=>run_neq_map_nil w _ _ _ r tY;clear hd hn hb1 hs1 b1 ho hkey hv hl
 cases hmk:m (keyV ⟨kind,val,na,nb⟩)with
 |some v=>
  obtain⟨i,n',q1,rfl,q3⟩:=HO.out.2.2.2.1.1 _ _ hmk;have q4:=aj1 q3;subst q4;have HQ:=hdd q1;have HMS:Hid ((m (keyV ⟨kind,val,na,nb⟩)).getD (.int .i64 0)=.int .i64 (i:Int)):=hdd (by rw[hmk];rfl);have HMI:Hid ((m (keyV ⟨kind,val,na,nb⟩)).isSome=true):=hdd (by rw[hmk];rfl);clear hmk q1 q3;go_enter Tryz.func80,Tryz.ntmps80
  go_wp2_with fail
  refine HT.out.mono ?_;rintro e w2⟨rfl,hb2⟩;replace c0:=cbl c0 hb2;replace c1:=cbl c1 hb2;replace c2:=cbl c2 hb2;replace c3:=cbl c3 hb2;replace g0:=cbl g0 hb2;replace g1:=cbl g1 hb2;have HB2:=hdd (aB HB1.out hb2);have HD2:=hdd (((HO1.out.below hb2).below (azV _ _).drew));clear hb2 gf0 gf1;go_wp2_with fail
  have hdr:Below w2.heap.size w2 w2.drew:=(azV _ _).drew;replace c0:=cbl c0 hdr;replace c1:=cbl c1 hdr;replace c2:=cbl c2 hdr;replace c3:=cbl c3 hdr;replace g0:=cbl g0 hdr;replace g1:=cbl g1 hdr;clear hdr
  go_region_held3 (fun w'=>w'.cell? ⟨g,1,none⟩=some (.map (some mb))/\w'.cell? ⟨w.heap.size,0,none⟩=some (.int .i64 kind)/\w'.cell? ⟨w.heap.size,1,none⟩=some (.float .f64 val)/\w'.cell? ⟨w.heap.size,2,none⟩=some (.int .i64 na)/\w'.cell? ⟨w.heap.size,3,none⟩=some (.int .i64 nb)) (go_keep)
   (first
   |(go_at_call 98
     refine(HKO.out _).mono ?_;rintro e w4⟨rfl,hb4⟩;have c0:=cbl c0 hb4;have c1:=cbl c1 hb4;have c2:=cbl c2 hb4;have c3:=cbl c3 hb4;have g0:=cbl g0 hb4;have g1:=cbl g1 hb4;have hlk:=(HD2.out.below hb4).2.2.1.look qY tY (fD w4) HKEY.out true;rw[if_pos rfl,HMS.out,HMI.out]at hlk;unfold keyV at*;have HBF:=hdd (aB (aB HB2.out (azV _ _).drew) hb4);have HDF:=hdd (HD2.out.below hb4);clear hb4))
  go_wp2
  go_ret2
  exact⟨i,ns,rfl,HDF.out.dag,HQ.out,Or.inl rfl,DS.of_below HO.out.dag.glt HBF.out⟩
 |none=>
  have HMS:Hid ((m (keyV ⟨kind,val,na,nb⟩)).getD (.int .i64 0)=.int .i64 0):=hdd (by rw[hmk];rfl);have HMI:Hid ((m (keyV ⟨kind,val,na,nb⟩)).isSome=false):=hdd (by rw[hmk];rfl);obtain⟨m',hu⟩:=kR m (keyV ⟨kind,val,na,nb⟩) (some (.int .i64 (ns.length:Int)));have HU:=hdd hu;have HNO:=hdd hmk;obtain⟨i0,hi0,hz0,hz1,hz2⟩:=info_parts yO;have HI0:=hdd hi0;have HZ0:=hdd hz0;have HZ1:=hdd hz1;have HZ2:=hdd hz2;clear hmk hu hi0 hz0 hz1 hz2;go_enter Tryz.func80,Tryz.ntmps80
  go_wp2_with fail
  refine HT.out.mono ?_;rintro e w2⟨rfl,hb2⟩;replace c0:=cbl c0 hb2;replace c1:=cbl c1 hb2;replace c2:=cbl c2 hb2;replace c3:=cbl c3 hb2;replace g0:=cbl g0 hb2;replace g1:=cbl g1 hb2;have HB2:=hdd (aB HB1.out hb2);have HD2:=hdd (((HO1.out.below hb2).below (azV _ _).drew));clear hb2 gf0 gf1;go_wp2_with fail
  have hdr:Below w2.heap.size w2 w2.drew:=(azV _ _).drew;replace c0:=cbl c0 hdr;replace c1:=cbl c1 hdr;replace c2:=cbl c2 hdr;replace c3:=cbl c3 hdr;replace g0:=cbl g0 hdr;replace g1:=cbl g1 hdr;clear hdr
  go_region_held3 (fun w'=>w'.cell? ⟨g,1,none⟩=some (.map (some mb))/\w'.cell? ⟨w.heap.size,0,none⟩=some (.int .i64 kind)/\w'.cell? ⟨w.heap.size,1,none⟩=some (.float .f64 val)/\w'.cell? ⟨w.heap.size,2,none⟩=some (.int .i64 na)/\w'.cell? ⟨w.heap.size,3,none⟩=some (.int .i64 nb)) (go_keep)
   (first
   |(go_at_call 98
     refine(HKO.out _).mono ?_;rintro e w4⟨rfl,hb4⟩;have c0:=cbl c0 hb4;have c1:=cbl c1 hb4;have c2:=cbl c2 hb4;have c3:=cbl c3 hb4;have g0:=cbl g0 hb4;have g1:=cbl g1 hb4;have hlk:=(HD2.out.below hb4).2.2.1.look qY tY (fD w4) HKEY.out true;rw[if_pos rfl,HMS.out,HMI.out]at hlk;unfold keyV at*;have HBF:=hdd (aB (aB HB2.out (azV _ _).drew) hb4);have HDF:=hdd (HD2.out.below hb4);clear hb4))
  clear hlk;go_wp2_with fail
  refine wp_region_noPanic ?_;refine lH (fun w'=>w'.cell? ⟨g,0,none⟩=some (.slice A ns.length c)/\w'.cell? ⟨w.heap.size,0,none⟩=some (.int .i64 kind)/\w'.cell? ⟨w.heap.size,1,none⟩=some (.float .f64 val)/\w'.cell? ⟨w.heap.size,2,none⟩=some (.int .i64 na)/\w'.cell? ⟨w.heap.size,3,none⟩=some (.int .i64 nb)) 10 (by kernel_rfl) ?_;have hSd:(fun w':World=>w'.cell? ⟨g,0,none⟩=some (.slice A ns.length c)/\w'.cell? ⟨w.heap.size,0,none⟩=some (.int .i64 kind)/\w'.cell? ⟨w.heap.size,1,none⟩=some (.float .f64 val)/\w'.cell? ⟨w.heap.size,2,none⟩=some (.int .i64 na)/\w'.cell? ⟨w.heap.size,3,none⟩=some (.int .i64 nb)) w4.drew:=⟨g0,c0,c1,c2,c3⟩;refine aP 0 (.pointer (some ⟨g,0,none⟩)) rfl (by kernel_rfl) (by kernel_rfl) (by kernel_rfl) (by kernel_rfl) (fun _ _ _ h=>h) (by rfl) ?_ (by assumption) ?_
  . intro w' hSw;(try dsimp only at hSw);go_split_ands;go_simp;all_goals first|rfl|done
  try simp only[azX,azP,azQ,azR]
  refine aP 1 (.pointer (some ⟨g,0,none⟩)) rfl (by kernel_rfl) (by kernel_rfl) (by kernel_rfl) (by kernel_rfl) (fun _ _ _ h=>h) (by rfl) ?_ (by assumption) ?_
  . intro w' hSw;(try dsimp only at hSw);go_split_ands;go_simp;all_goals first|rfl|done
  try simp only[azX,azP,azQ,azR]
  refine aP 2 (.pointer (some ⟨g,0,none⟩)) rfl (by kernel_rfl) (by kernel_rfl) (by kernel_rfl) (by kernel_rfl) (fun _ _ _ h=>h) (by rfl) ?_ (by assumption) ?_
  . intro w' hSw;(try dsimp only at hSw);go_split_ands;go_simp;all_goals first|rfl|done
  try simp only[azX,azP,azQ,azR]
  refine aP 3 (.pointer (some ⟨g,0,none⟩)) rfl (by kernel_rfl) (by kernel_rfl) (by kernel_rfl) (by kernel_rfl) (fun _ _ _ h=>h) (by rfl) ?_ (by assumption) ?_
  . intro w' hSw;(try dsimp only at hSw);go_split_ands;go_simp;all_goals first|rfl|done
  try simp only[azX,azP,azQ,azR]
  refine aP 4 (.slice A ns.length c) rfl (by kernel_rfl) (by kernel_rfl) (by kernel_rfl) (by kernel_rfl) (fun _ _ _ h=>h) (by rfl) ?_ (by assumption) ?_
  . intro w' hSw;(try dsimp only at hSw);go_split_ands;go_simp;all_goals first|rfl|done
  try simp only[azX,azP,azQ,azR]
  refine aP 5 (.agg #[.int .i64 kind,.float .f64 val,.int .i64 na,.int .i64 nb]) rfl (by kernel_rfl) (by kernel_rfl) (by kernel_rfl) (by kernel_rfl) (fun _ _ _ h=>h) (by rfl) ?_ (by assumption) ?_
  . intro w' hSw;(try dsimp only at hSw);go_split_ands;go_simp;all_goals first|rfl|done
  try simp only[azX,azP,azQ,azR]
  obtain⟨w5,hw5,hb5,hs5,b5⟩:=pro1 w4.drew (.cells #[.int .i64 kind,.float .f64 val,.int .i64 na,.int .i64 nb] 102);have hdr4:Below w4.heap.size w4 w4.drew:=(azV _ _).drew;have h45:Below w4.heap.size w4 w5:=aB hdr4 hb5;have HD5:=hdd (HDF.out.below h45);replace c0:=cbl c0 h45;replace c1:=cbl c1 h45;replace c2:=cbl c2 h45;replace c3:=cbl c3 h45;replace g0:=cbl g0 h45;replace g1:=cbl g1 h45;have HB5:=hdd (aB HBF.out h45);have HC5:=hdd (oJ b5);have HS5:Hid (w5.heap.size=w4.heap.size+1):=hdd hs5;clear hb5 hs5 b5 hdr4 h45;refine dX 6 (by kernel_rfl) rfl fun K hK=> ?_;go_simp;refine hK.out _ _ (fun _=>⟨g0,c0,c1,c2,c3⟩) ?_;clear hK
  try simp only[azX,azP,azQ,azR]
  refine dX 7 (by kernel_rfl) rfl fun K hK=> ?_;refine step_append_lies _ rfl _ _ 27 rfl 0 102 i0 (.agg #[.int .i64 0,.float .f64 0,.int .i64 0,.int .i64 0]) 4 32 yN HI0.out HZ0.out HZ1.out HZ2.out rfl (by decide) (.slice A ns.length c) ns.length (eP ns) rfl HD5.out.2.1 ⟨w4.heap.size,0,none⟩ 1 1 [.int .i64 kind,.float .f64 val,.int .i64 na,.int .i64 nb] rfl rfl HC5.out (by simp[Value.oneCell']) (by decide) (by have:=HLEN.out;unfold maxLen;omega) (by have:=HLEN.out;omega) (az9 _) w5.heap.size rfl ?_;intro r cap w6 hown6 hgr6 hat6 hlt6;have hm:=amV HO.out HD5.out hgr6 HB5.out.size (.slice (some ⟨r,0,none⟩) (ns.length+1) cap);obtain⟨q1,q2,q3,q4⟩:=hm;obtain⟨q4,q5⟩:=q4 w.heap.size nlr (az4 w5 _ c0);obtain⟨w7,hw7⟩:∃w7,w6.setCell ⟨g,0,none⟩ (.slice (some ⟨r,0,none⟩) (ns.length+1) cap)=w7:=⟨_,rfl⟩;obtain⟨g0',g1',gf0',-⟩:=aC q1;have d0:=(azT (a:=⟨w.heap.size,0,none⟩) q4).trans c0;have d1:=(azT (a:=⟨w.heap.size,1,none⟩) q4).trans c1
  have d2:=(azT (a:=⟨w.heap.size,2,none⟩) q4).trans c2;have d3:=(azT (a:=⟨w.heap.size,3,none⟩) q4).trans c3;have HO6:=hdd hown6;have HG6:=hdd hgr6;have HA6:=hdd hat6;have HW7:=hdd hw7;rw[hw7]at q2 q3 q5;have HQ2:=hdd q2;have HQ3:=hdd q3;have HQ5:=hdd q5;refine hK.out _ _ (fun _=>⟨g0',d0,d1,d2,d3⟩) ?_;clear hK hown6 hgr6 hat6 hlt6 q1 q2 q3 q4 q5
  try simp only[azX,azP,azQ,azR]
  refine dX 8 (by kernel_rfl) rfl fun K hK=> ?_;go_simp;refine hK.out _ _ (fun _=>⟨g0',d0,d1,d2,d3⟩) ?_;clear hK
  try simp only[azX,azP,azQ,azR]
  refine dX 9 (by kernel_rfl) rfl fun K hK=> ?_;go_simp;refine hK.out _ _ (fun _=>⟨g0',d0,d1,d2,d3⟩) ?_;clear hK
  try simp only[azX,azP,azQ,azR]
  refine dX 10 (by kernel_rfl) rfl fun K hK=> ?_;go_simp;refine hK.out _ _ (fun h=>absurd rfl h) ?_;clear hK;refine nR (by kernel_rfl) ?_;refine NoPanic.normal ?_;obtain⟨p0,p1,-,-⟩:=aC HQ2.out;have e0:=(azT (a:=⟨w.heap.size,0,none⟩) HQ5.out).trans c0;have e1:=(azT (a:=⟨w.heap.size,1,none⟩) HQ5.out).trans c1;have e2:=(azT (a:=⟨w.heap.size,2,none⟩) HQ5.out).trans c2;have e3:=(azT (a:=⟨w.heap.size,3,none⟩) HQ5.out).trans c3;clear d0 d1 d2 d3 g0' g1' gf0' c0 c1 c2 c3 g0 g1 hw5;go_wp2_with fail
  refine wp_region_noPanic ?_;refine lH (fun w'=>w'.cell? ⟨g,1,none⟩=some (.map (some mb))/\w'.cell? ⟨w.heap.size,0,none⟩=some (.int .i64 kind)/\w'.cell? ⟨w.heap.size,1,none⟩=some (.float .f64 val)/\w'.cell? ⟨w.heap.size,2,none⟩=some (.int .i64 na)/\w'.cell? ⟨w.heap.size,3,none⟩=some (.int .i64 nb)) 7 (by kernel_rfl) ?_;have hSd2:(fun w':World=>w'.cell? ⟨g,1,none⟩=some (.map (some mb))/\w'.cell? ⟨w.heap.size,0,none⟩=some (.int .i64 kind)/\w'.cell? ⟨w.heap.size,1,none⟩=some (.float .f64 val)/\w'.cell? ⟨w.heap.size,2,none⟩=some (.int .i64 na)/\w'.cell? ⟨w.heap.size,3,none⟩=some (.int .i64 nb)) w7.drew:=⟨p1,e0,e1,e2,e3⟩;refine aP 0 (.pointer (some ⟨g,0,none⟩)) rfl (by kernel_rfl) (by kernel_rfl) (by kernel_rfl) (by kernel_rfl) (fun _ _ _ h=>h) (by rfl) ?_ (by assumption) ?_
  . intro w' hSw;(try dsimp only at hSw);go_split_ands;go_simp;all_goals first|rfl|done
  try simp only[azX,azP,azQ,azR]
  refine aP 1 (.pointer (some ⟨g,0,none⟩)) rfl (by kernel_rfl) (by kernel_rfl) (by kernel_rfl) (by kernel_rfl) (fun _ _ _ h=>h) (by rfl) ?_ (by assumption) ?_
  . intro w' hSw;(try dsimp only at hSw);go_split_ands;go_simp;all_goals first|rfl|done
  try simp only[azX,azP,azQ,azR]
  refine aP 2 (.pointer (some ⟨g,1,none⟩)) rfl (by kernel_rfl) (by kernel_rfl) (by kernel_rfl) (by kernel_rfl) (fun _ _ _ h=>h) (by rfl) ?_ (by assumption) ?_
  . intro w' hSw;(try dsimp only at hSw);go_split_ands;go_simp;all_goals first|rfl|done
  try simp only[azX,azP,azQ,azR]
  refine aP 3 (.map (some mb)) rfl (by kernel_rfl) (by kernel_rfl) (by kernel_rfl) (by kernel_rfl) (fun _ _ _ h=>h) (by rfl) ?_ (by assumption) ?_
  . intro w' hSw;(try dsimp only at hSw);go_split_ands;go_simp;all_goals first|rfl|done
  try simp only[azX,azP,azQ,azR]
  refine aP 4 (.agg #[.int .i64 kind,.float .f64 val,.int .i64 na,.int .i64 nb]) rfl (by kernel_rfl) (by kernel_rfl) (by kernel_rfl) (by kernel_rfl) (fun _ _ _ h=>h) (by rfl) ?_ (by assumption) ?_
  . intro w' hSw;(try dsimp only at hSw);go_split_ands;go_simp;all_goals first|rfl|done
  try simp only[azX,azP,azQ,azR]
  refine aP 6 (.int .i64 (ns.length:Int)) rfl (by kernel_rfl) (by kernel_rfl) (by kernel_rfl) (by kernel_rfl) (fun _ _ _ h=>h) (by rfl) ?_ (by assumption) ?_
  . intro w' hSw;(try dsimp only at hSw);go_split_ands;go_simp;all_goals first|rfl|done
  try simp only[azX,azP,azQ,azR]
  refine dX 5 (by kernel_rfl) rfl fun K hK=> ?_;go_simp;refine(HKO.out _).mono ?_;rintro e w8⟨rfl,hb8⟩;have h78:Below w7.heap.size w7 w8:=aB (azV _ _).drew hb8;have HB8:=hdd h78;have HM8:=hdd (HQ3.out.below h78 HQ3.out.lt);replace p0:=cbl p0 h78;replace p1:=cbl p1 h78;replace e0:=cbl e0 h78;replace e1:=cbl e1 h78;replace e2:=cbl e2 h78;replace e3:=cbl e3 h78;clear h78 hb8;refine hK.out _ _ (fun _=>⟨p1,e0,e1,e2,e3⟩) ?_;clear hK
  try simp only[azX,azP,azQ,azR]
  refine dX 7 (by kernel_rfl) rfl fun K hK=> ?_;refine ajY _ rfl _ _ _ _ rfl _ _ qY tY mb m m' rfl HM8.out (.agg #[.int .i64 kind,.int .i64 na,.int .i64 nb,.int .u64 (val:Int)]) (.int .i64 (ns.length:Int)) kl rfl rfl HKEY.out HU.out ?_;intro w9 HM9 hgr9 hsz9;have HG9:=hdd hgr9;refine hK.out _ _ (fun h=>absurd rfl h) ?_;clear hK hgr9 hsz9;refine nR (by kernel_rfl) ?_;refine NoPanic.normal ?_;go_wp2
  go_ret2
  refine amU HO.out HB5.out HO6.out HG6.out HA6.out ?_ HM9.out HG9.out HU.out HLEN.out HV.out HNO.out;rw[HW7.out];have hz:w7.heap.size=w6.heap.size:=by rw[<-HW7.out];simp[azZ]
  rw[<-hz];exact HB8.out
end
section
open List renaming getElem?_eq_some_iff->baA,getElem?_append_left->baB,prefix_rfl->baC
variable{ns ns':List Nd}{i j k:Nat}{n:Nd}
inductive Ex where
 |leaf (v:Nat)
 |add (a b:Ex)
 |sub (a b:Ex)
 |mul (a b:Ex)
 |div (a b:Ex)
 |root (a:Ex)
def Is(ns:List Nd):Ex->Nat->Prop
 | .leaf v,k=>ns[k]? =some ⟨0,v,0,0⟩
 | .add a b,k=>∃i j:Nat,ns[k]? =some ⟨1,0,i,j⟩/\i<k/\j<k/\Is ns a i/\Is ns b j
 | .sub a b,k=>∃i j:Nat,ns[k]? =some ⟨2,0,i,j⟩/\i<k/\j<k/\Is ns a i/\Is ns b j
 | .mul a b,k=>∃i j:Nat,ns[k]? =some ⟨3,0,i,j⟩/\i<k/\j<k/\Is ns a i/\Is ns b j
 | .div a b,k=>∃i j:Nat,ns[k]? =some ⟨4,0,i,j⟩/\i<k/\j<k/\Is ns a i/\Is ns b j
 | .root a,k=>∃i:Nat,ns[k]? =some ⟨5,0,i,0⟩/\i<k/\Is ns a i
theorem Is.lt {e:Ex}(h:Is ns e k):k<ns.length:=by
 cases e<;>simp only[Is]at h
 . exact(baA.1 h).1
 all_goals first
  |(obtain⟨i,j,h,-⟩:=h;exact(baA.1 h).1)
  |(obtain⟨i,h,-⟩:=h;exact(baA.1 h).1)
theorem jJ(hp:ns<+:ns')(h:ns[k]? =some n):ns'[k]? =some n:=by
 obtain⟨l,rfl⟩:=hp;rw[baB (baA.1 h).1];exact h
theorem Is.mono (hp:ns<+:ns'):∀{e:Ex} {k:Nat},Is ns e k->Is ns' e k:=by
 intro e
 induction e with
 |leaf v=>intro k h;exact jJ hp h
 |add a b iha ihb=>intro k h;obtain⟨i,j,h1,h2,h3,h4,h5⟩:=h;exact⟨i,j,jJ hp h1,h2,h3,iha h4,ihb h5⟩
 |sub a b iha ihb=>intro k h;obtain⟨i,j,h1,h2,h3,h4,h5⟩:=h;exact⟨i,j,jJ hp h1,h2,h3,iha h4,ihb h5⟩
 |mul a b iha ihb=>intro k h;obtain⟨i,j,h1,h2,h3,h4,h5⟩:=h;exact⟨i,j,jJ hp h1,h2,h3,iha h4,ihb h5⟩
 |div a b iha ihb=>intro k h;obtain⟨i,j,h1,h2,h3,h4,h5⟩:=h;exact⟨i,j,jJ hp h1,h2,h3,iha h4,ihb h5⟩
 |root a iha=>intro k h;obtain⟨i,h1,h2,h3⟩:=h;exact⟨i,jJ hp h1,h2,iha h3⟩
def AllIs(P:Ex->Prop)(ns:List Nd):Prop:=∀k,k<ns.length->∃e,Is ns e k/\P e
def opE(kind:Int)(a b:Ex):Ex:=if kind=1 then .add a b else if kind=2 then .sub a b else if kind=3 then .mul a b else .div a b
def vO(kind:Int):Prop:=kind=1\/kind=2\/kind=3\/kind=4
theorem Is.opE {kind:Int}(hk:vO kind){a b:Ex}(h:ns[k]? =some ⟨kind,0,i,j⟩)(hi:i<k)(hj:j<k)(ha:Is ns a i)(hb:Is ns b j):Is ns (opE kind a b) k:=by
 rcases hk with rfl|rfl|rfl|rfl<;>exact⟨i,j,h,hi,hj,ha,hb⟩
theorem AllIs.before {P:Ex->Prop}(h:AllIs P ns)(hn:ns[k]? =some n):(n.kind=0/\n.a=0/\n.b=0)\/(vO n.kind/\n.val=0/\∃i j:Nat,n.a=i/\n.b=j/\i<k/\j<k)\/(n.kind=5/\n.val=0/\n.b=0/\∃i:Nat,n.a=i/\i<k):=by
 obtain⟨e,he,-⟩:=h k (baA.1 hn).1
 cases e with
 |leaf v=>simp only[Is,hn]at he;cases he;exact Or.inl ⟨rfl,rfl,rfl⟩
 |root a=>obtain⟨i,h1,h2,h3⟩:=he;rw[hn]at h1;cases h1;exact Or.inr (Or.inr ⟨rfl,rfl,rfl,i,rfl,h2⟩)
 |add a b=>obtain⟨i,j,h1,h2,h3,-⟩:=he;rw[hn]at h1;cases h1;exact Or.inr (Or.inl ⟨Or.inl rfl,rfl,i,j,rfl,rfl,h2,h3⟩)
 |sub a b=>obtain⟨i,j,h1,h2,h3,-⟩:=he;rw[hn]at h1;cases h1;exact Or.inr (Or.inl ⟨Or.inr (Or.inl rfl),rfl,i,j,rfl,rfl,h2,h3⟩)
 |mul a b=>obtain⟨i,j,h1,h2,h3,-⟩:=he;rw[hn]at h1;cases h1;exact Or.inr (Or.inl ⟨Or.inr (Or.inr (Or.inl rfl)),rfl,i,j,rfl,rfl,h2,h3⟩)
 |div a b=>obtain⟨i,j,h1,h2,h3,-⟩:=he;rw[hn]at h1;cases h1;exact Or.inr (Or.inl ⟨Or.inr (Or.inr (Or.inr rfl)),rfl,i,j,rfl,rfl,h2,h3⟩)
theorem AllIs.snoc {P:Ex->Prop}(h:AllIs P ns){e:Ex}(he:Is (ns++[n]) e ns.length)(hP:P e):AllIs P (ns++[n]):=by
 intro k hk;rw[List.length_append]at hk;by_cases hkn:k<ns.length
 . obtain⟨e,h1,h2⟩:=h k hkn
   exact⟨e,h1.mono ⟨[n],rfl⟩,h2⟩
 . have:k=ns.length:=by simp at hk;omega
   subst this;exact⟨e,he,hP⟩
theorem ao3{P:Ex->Prop}{kind:Int}(hk:vO kind){a b:Ex}(h:AllIs P ns)(ha:Is ns a i)(hb:Is ns b j)(hn:ns'[k]? =some ⟨kind,0,i,j⟩)(hns:ns'=ns\/ns'=ns++[⟨kind,0,i,j⟩])(hP:P (opE kind a b)):
 Is ns' (Go.Proofs.YtjdgaogkioabeaaGreatDoor.opE kind a b) k/\AllIs P ns'/\ns<+:ns':=by
 by_cases hkl:k<ns.length
 . have hnk:ns[k]? =some ⟨kind,0,i,j⟩:=by
    rcases hns with rfl|rfl
    . exact hn
    . rwa[baB hkl]at hn
   have hb4:i<k/\j<k:=by
    rcases h.before hnk with ⟨h0,-⟩|⟨-,-,i',j',e1,e2,h1,h2⟩|⟨h5,-⟩
    . rcases hk with rfl|rfl|rfl|rfl<;>simp at h0
    . simp at e1 e2;omega
    . rcases hk with rfl|rfl|rfl|rfl<;>simp at h5
   have hI:Is ns (Go.Proofs.YtjdgaogkioabeaaGreatDoor.opE kind a b) k:=Is.opE hk hnk hb4.1 hb4.2 ha hb;rcases hns with rfl|rfl
   . exact⟨hI,h,baC⟩
   . have hp:ns<+:ns++[⟨kind,0,i,j⟩]:=⟨_,rfl⟩
     exact⟨hI.mono hp,h.snoc (Is.opE hk (by simp) ha.lt hb.lt (ha.mono hp) (hb.mono hp)) hP,hp⟩
 . rcases hns with rfl|rfl
   . exact absurd (baA.1 hn).1 hkl
   . have hp:ns<+:ns++[⟨kind,0,i,j⟩]:=⟨_,rfl⟩
     have:k=ns.length:=by have:=(baA.1 hn).1;simp at this;omega
     subst this;have hI:=Is.opE hk hn ha.lt hb.lt (ha.mono hp) (hb.mono hp);exact⟨hI,h.snoc hI hP,hp⟩
theorem aj3{P:Ex->Prop}{v:Nat}(h:AllIs P ns)(hn:ns'[k]? =some ⟨0,v,0,0⟩)(hns:ns'=ns\/ns'=ns++[⟨0,v,0,0⟩])(hP:P (.leaf v)):
 Is ns' (.leaf v) k/\AllIs P ns'/\ns<+:ns':=by
 rcases hns with rfl|rfl
 . exact⟨hn,h,baC⟩
 . exact⟨hn,h.snoc (show Is _ (.leaf v) _ by simp[Is]) hP,⟨_,rfl⟩⟩
end
end Go.Proofs.YtjdgaogkioabeaaGreatDoor
