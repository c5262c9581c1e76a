/- A part of the proof: contracts of functions and plain laws (WalkB, FrD). -/
import Derived.Test.YtigoiiekebccnaaGreatDoorK13
import Derived.Test.YtigoiiekebccnaaGreatDoorK12
import Derived.DeepKeys4
set_option linter.unusedVariables false
set_option linter.unusedSimpArgs false
set_option linter.unnecessarySimpa false
set_option maxHeartbeats 25600000
set_option maxRecDepth 100000
namespace Go.Proofs.YtigoiiekebccnaaGreatDoor
open Go.RowKit Go.Maps
open Go.World renaming cell?->azN,setCell->azO
open Nat renaming lt_of_lt_of_le->azM,le_trans->azP
open Option.some renaming inj->azL,injEq->azQ
variable{st vis:List Nat}{B g gv i mb n:Nat}{S:Nat->Prop}{T:TypeId}{sv:Value}{b c w' w1 w2 w3:World}
structure Fr(S:Nat->Prop)(w w':World):Prop where
 os:w'.os=w.os
 tape:w'.tape=w.tape
 output:w'.output=w.output
 size:w.heap.size<=w'.heap.size
 block:∀b,b<w.heap.size->¬S b->w'.heap[b]? =w.heap[b]?
theorem Fr.of_below {w:World}(h:Below w.heap.size w w'):Fr S w w':=⟨h.os,h.tape,h.output,h.size,fun b hb _=>h.block b hb⟩
theorem Fr.trans {a:World}(h:Fr S a b)(k:Fr S b c):Fr S a c:=
 ⟨k.os.trans h.os,k.tape.trans h.tape,k.output.trans h.output,azP h.size k.size,fun i hi hs=>(k.block i (azM hi h.size) hs).trans (h.block i hi hs)⟩
theorem Fr.of_grown {a:World}{row:Option Nat}(h:a.grownBy b row)(hs:∀i,row=some i->S i):Fr S a b:=
 ⟨h.os,h.tape,h.output,h.size,fun i hi h'=>h.block i hi (fun e=>h' (hs i e.symm))⟩
theorem Fr.setCell {a:World}(h:Fr S a b)(hg:S g)(u:Value):Fr S a (b.setCell ⟨g,i,none⟩ u):=
 ⟨h.os,h.tape,h.output,by simpa[azO]using h.size,fun k hk hs=>by
   rw[Below.heap_setCell _ _ _ _ (fun e=>hs (by simp at e;rw[e];exact hg))];exact h.block k hk hs⟩
theorem Fr.below {a:World}(h:Fr S a b)(hB:B<=a.heap.size)(hS:∀i,S i->B<=i):Below B a b:=
 ⟨h.os,h.tape,h.output,h.size,fun i hi=>h.block i (azM hi hB) (fun hs=>by have:=hS i hs;omega)⟩
def VB(gs mb:Nat)(sv:Value)(b:Nat):Prop:=b=gs\/b=mb\/sv.ownBlock=some b
def nJ(w:World)(gv gs mb:Nat)(sv:Value)(vis st:List Nat)(i:Nat)(e:Ending)(w':World):Prop:=
 e=.returned (.tuple #[])/\Fr (VB gs mb sv) w w'/\∃sv',(sv'.ownBlock=sv.ownBlock\/∃b,sv'.ownBlock=some b/\w.heap.size<=b)/\
  (if i∈vis then VS w' gv gs mb sv' vis st else VS w' gv gs mb sv' (i::vis) (st++[i]))
theorem pO(sv:Value):sv.ownBlock=none\/sv.ownBlock≠none:=by
 cases sv.ownBlock
 . exact Or.inl rfl
 . exact Or.inr (by simp)
theorem dM{w:World}{u:Value}(h:w.heap[g]? =some (.cells #[u] T (0,0))):∀j x,[u][j]? =some x->w.cell? ((⟨g,0,none⟩:Addr).add j)=some x:=by
 intro j x hx
 cases j with
 |zero=>simp at hx;subst hx;simp[azN,Addr.add,h]
 |succ j=>simp at hx
theorem aeY(h:n<=1000000):n+1<=maxLen:=by unfold maxLen;omega
theorem xZ(h:n<=1000000):(n+1)*8<=140737488355328:=by omega
theorem adQ{gs:Nat}(h:w1.heap[gs]? =some (.cells #[sv] T (0,0)))(hb:Below w1.heap.size w1 w2)(hg:w2.grownBy w3 sv.ownBlock)(hn:sv.ownBlock≠some gs):w3.cell? ⟨gs,0,none⟩=some sv/\w3.frozen? ⟨gs,0,none⟩=false:=by
 have h2:=hbl h hb;have h3:=(hg.block gs (aD h2) (fun e=>hn e.symm)).trans h2;exact⟨by simp[azN,h3],by simp[World.frozen?,h3]⟩
theorem agJ{w:World}{gs cap:Nat}{m m':Value->Option Value}(hV:VS w gv gs mb sv vis st)(hnv:¬i∈vis)(hM:MapP Tryz.prog 3 w mb m)(h4:∀j:Nat,m (.int .i64 (j:Int))=if j∈vis then some (.int .i64 1)else none)
 (h6:gv≠gs) (h7:mb≠gs) (h8:mb≠gv) (h9:sv.ownBlock≠some gs) (h10:sv.ownBlock≠some gv) (h11:sv.ownBlock≠some mb)
 (hu:Upd m (.int .i64 (i:Int)) (some (.int .i64 1)) m') (hM1:MapP Tryz.prog 3 w1 mb m') (hgr:w.grownBy w1 (some mb)) (hsz:w1.heap.size=w.heap.size) (hb2:Below w1.heap.size w1 w2)
 (hO:w3.ownsRow 0 3 1 (.slice (some ⟨g,0,none⟩) (st.length+1) cap) (st.length+1) (bE st++[.int .i64 (i:Int)])) (hg3:w2.grownBy w3 sv.ownBlock) (hat:sv.ownBlock=some g\/g=w2.heap.size):
 nJ w gv gs mb sv vis st i (.returned (.tuple #[])) (w3.setCell ⟨gs,0,none⟩ (.slice (some ⟨g,0,none⟩) (st.length+1) cap)):=by
 obtain⟨m0,q1,q2,-⟩:=hV;have hs2:=hb2.size;have lgv:=aD q1;have lgs:=aD q2;have lmb:=hM.lt;have hg_gs:g≠gs:=fun e=>hat.elim (fun h=>h9 (by rw[<-e];exact h)) (fun h=>by omega);have hg_gv:g≠gv:=fun e=>hat.elim (fun h=>h10 (by rw[<-e];exact h)) (fun h=>by omega);have hg_mb:g≠mb:=fun e=>hat.elim (fun h=>h11 (by rw[<-e];exact h)) (fun h=>by omega);have far:∀b,b<w.heap.size->b≠mb->sv.ownBlock≠some b->w3.heap[b]? =w.heap[b]? :=fun b hb h1 h2=>
  (hg3.block b (by omega) (fun e=>h2 e.symm)).trans ((hb2.block b (by omega)).trans (hgr.block b hb (fun e=>h1 (azL e))))
 have e1:=(far gv lgv (fun e=>h8 e.symm) h10).trans q1;have e2:=(far gs lgs (fun e=>h7 e.symm) h9).trans q2;have eM:w3.heap[mb]? =w1.heap[mb]? :=(hg3.block mb (by omega) (fun e=>h11 e.symm)).trans (hb2.block mb (by omega));refine⟨rfl,?_,.slice (some ⟨g,0,none⟩) (st.length+1) cap,?_,?_⟩
 . refine Fr.setCell ?_ (Or.inl rfl) _
   refine(Fr.of_grown hgr (fun b e=>Or.inr (Or.inl (azL e).symm))).trans ((Fr.of_below hb2).trans (Fr.of_grown hg3 (fun b e=>Or.inr (Or.inr e))))
 . rcases hat with h|h
   . exact Or.inl (by rw[h];rfl)
   . exact Or.inr ⟨g,rfl,by omega⟩
 . rw[if_neg hnv]
   refine⟨m',?_,?_,?_,?_,?_,h6,h7,h8,?_,?_,?_⟩
   . rw[Below.heap_setCell _ _ _ _ (by simpa using h6)];exact e1
   . have hg':gs<w3.heap.size:=aD e2
     have h':w3.heap[gs]=.cells #[sv] 25 (0,0):=(Array.getElem?_eq_some_iff.1 e2).2;simp[azO,hg',Array.getElem_modify,h']
   . exact hM1.keep ((by rw[Below.heap_setCell _ _ _ _ (by simpa using h7)];exact eM))
   . intro j
     by_cases hj:j=i
     . subst hj;rw[hu.1];simp
     . rw[hu.2 _ (fun e=>hj (by injection e with _ e;omega)),h4 j]
       by_cases hjv:j∈vis
       . rw[if_pos hjv,if_pos (List.mem_cons_of_mem _ hjv)]
       . rw[if_neg hjv,if_neg (fun h=>(List.mem_cons.1 h).elim hj hjv)]
   . have hk:=hO.kept (grownBy_set (World.grownBy.refl w3 (some gs)) (i:=0) (.slice (some ⟨g,0,none⟩) (st.length+1) cap)) (Or.inr (fun e=>hg_gs (azL e)))
     simpa[bE]using hk
   . exact fun e=>hg_gs (azL e)
   . exact fun e=>hg_gv (azL e)
   . exact fun e=>hg_mb (azL e)
theorem x8{w:World}{gs:Nat}(h:VS w gv gs mb sv vis st)(hi:i<=1000000)(hst:st.length<=1000000):
 Calls Tryz.prog 294 #[.int .i64 i,.pointer (some ⟨gv,0,none⟩),.pointer (some ⟨gs,0,none⟩)] w (nJ w gv gs mb sv vis st i):=by
 obtain⟨m,h1,h2,h3,h4,h5,h6,h7,h8,h9,h10,h11⟩:=id h;have HV:=hdd h;have H3:=hdd h3;have H5:=hdd h5;have c1:w.cell? ⟨gv,0,none⟩=some (.map (some mb)):=by simp[azN,h1]
 have c2:w.cell? ⟨gs,0,none⟩=some sv:=by simp[azN,h2]
 have hkey:keyOf Tryz.prog 3 (.int .i64 (i:Int))=some (.int .i64 (i:Int)):=jQ (by omega);have h4i:=h4 i;have HST:=hdd hst;have H4:=hdd h4;have HVI:=hdd hi;by_cases hv:i∈vis
 . rw[if_pos hv]at h4i
   have HP:Hid (nJ w gv gs mb sv vis st i (.returned (.tuple #[])) w):=hdd ⟨rfl,Fr.of_below (Below.refl _ _),sv,Or.inl rfl,by rw[if_pos hv];exact HV.out⟩;clear h h1 h2 h3 h4 h5 h6 h7 h8 h9 h10 h11 hv hi hst;go_enter Tryz.func294,Tryz.ntmps294
   have hv2:(m (.int .i64 (i:Int))).getD (.int .i64 0)=.int .i64 1:=by rw[h4i];rfl
   go_wp2_with (first
    |(at_lookup
      refine aV _ rfl _ _ _ rfl _ _ aJ bU (dW _) mb m rfl H3.out (.int .i64 (i:Int)) _ rfl hkey (.int .i64 1) hv2 ?_))
   go_end0
   exact HP.out
 . rw[if_neg hv]at h4i
   have HNV:=hdd hv;obtain⟨i0,hi0,hz0,hz1,hz2⟩:=info_parts pM;have hv2:(m (.int .i64 (i:Int))).getD (.int .i64 0)=.int .i64 0:=by rw[h4i];rfl
   obtain⟨m',hu⟩:=kF m (.int .i64 (i:Int)) (some (.int .i64 1));have HC:∀w1,w.grownBy w1 (some mb)->w1.heap[gv]? =some (.cells #[.map (some mb)] 343 (0,0))/\w1.heap[gs]? =some (.cells #[sv] 25 (0,0))/\w1.cell? ⟨gv,0,none⟩=some (.map (some mb))/\w1.cell? ⟨gs,0,none⟩=some sv:=by
    intro w1 hg;have e1:=(hg.block gv (aD h1) (fun e=>h8 (azL e).symm)).trans h1;have e2:=(hg.block gs (aD h2) (fun e=>h7 (azL e).symm)).trans h2;exact⟨e1,e2,by simp[azN,e1],by simp[azN,e2]⟩
   have HCC:=hdd HC;have H6:=hdd h6;have H7:=hdd h7;have H8:=hdd h8;have H9:=hdd h9;have HU:=hdd hu;have HKEY:=hdd hkey;have HV2:=hdd hv2;have H10:=hdd h10;have H11:=hdd h11;clear h h4i h10 h11 hst h4 hi h5 h3 HC h1 h2 h6 h7 h8 h9 hu hkey hv2 hv;go_enter Tryz.func294,Tryz.ntmps294
   go_wp2_with (first
    |(at_lookup
      refine aV _ rfl _ _ _ rfl _ _ aJ bU (dW _) mb m rfl H3.out (.int .i64 (i:Int)) _ rfl HKEY.out (.int .i64 0) HV2.out ?_)
    |(at_mapUpdate
      refine dR _ rfl _ _ _ _ rfl _ _ aJ bU mb m m' rfl H3.out (.int .i64 (i:Int)) (.int .i64 1) _ rfl rfl HKEY.out HU.out ?_;intro w1 HM1 hgr hsz;obtain⟨g1,g2,d1,d2⟩:=HCC.out w1 hgr;have HG1:=hdd g1;have HG2:=hdd g2;have HGR:=hdd hgr;have HSZ:=hdd hsz;have HO1:=hdd (H5.out.kept hgr (Or.inr H11.out));obtain⟨w2,hw2,hb2,hs2,q2⟩:=pro1 w1 (.cells #[.int .i64 (i:Int)] 3);have HB2:=hdd hb2;have HS2:=hdd hs2;have HQ2:=hdd q2;have d1:=cbl d1 hb2;have d2:=cbl d2 hb2;clear g1 g2 hgr hsz hb2 hs2 q2)
    |(at_builtin
      go_loud (
      refine wpList_append_lies _ rfl _ _ 25 rfl 0 3 i0 (.int .i64 0) 1 8 kK hi0 hz0 hz1 hz2 rfl (by decide) sv st.length (bE st) rfl (HO1.out.kept (aH HB2.out) (pO sv)) ⟨w1.heap.size,0,none⟩ 1 1 [.int .i64 (i:Int)] rfl rfl (dM HQ2.out) (by simp[Value.oneCell']) (by decide) (aeY HST.out) (xZ HST.out) (Nat.zero_le _) w2.heap.size rfl ?_;intro g cap w3 hown3 hgrow3 hat hlt;obtain⟨x2,f2⟩:=adQ HG2.out HB2.out hgrow3 H9.out;have HO3:=hdd hown3;have HG3:=hdd hgrow3;have HAT:=hdd hat;clear hown3 hgrow3 hat hlt)))
   go_end0
   exact agJ HV.out HNV.out H3.out H4.out H6.out H7.out H8.out H9.out H10.out H11.out HU.out HM1.out HGR.out HSZ.out HB2.out HO3.out HG3.out HAT.out
def DagB(w:World)(g b:Nat):Prop:=b=g\/∃v mo T,w.heap[g]? =some (.cells #[v,.map mo] T (0,0))/\(v.ownBlock=some b\/mo=some b)
def DS(g:Nat)(w w':World):Prop:=Fr (DagB w g) w w'/\∀b,b<w.heap.size->¬DagB w g b->¬DagB w' g b
theorem DS.refl (g:Nat)(w:World):DS g w w:=⟨Fr.of_below (Below.refl _ _),fun _ _ h=>h⟩
theorem DS.size {w:World}(h:DS g w w'):w.heap.size<=w'.heap.size:=h.1.size
theorem DS.trans {a:World}(h:DS g a b)(k:DS g b c):DS g a c:=
 ⟨⟨k.1.os.trans h.1.os,k.1.tape.trans h.1.tape,k.1.output.trans h.1.output,azP h.1.size k.1.size,fun i hi hn=>(k.1.block i (azM hi h.1.size) (h.2 i hi hn)).trans (h.1.block i hi hn)⟩,
   fun i hi hn=>k.2 i (azM hi h.1.size) (h.2 i hi hn)⟩
theorem DagB.congr {b:Nat}{w:World}(e:w'.heap[g]? =w.heap[g]?):DagB w' g b↔DagB w g b:=by unfold DagB;rw[e]
theorem DS.of_below {w:World}(hg:g<w.heap.size)(h:Below w.heap.size w w'):DS g w w':=
 ⟨Fr.of_below h,fun b _ hn hd=>hn ((DagB.congr (h.block g hg)).1 hd)⟩
theorem DS.heap {b:Nat}{w:World}(h:DS g w w')(hb:b<w.heap.size)(hn:¬DagB w g b):w'.heap[b]? =w.heap[b]? :=h.1.block b hb hn
theorem DS.cell {w:World}{a:Addr}{v:Value}(h:DS g w w')(hc:w.cell? a=some v)(hn:¬DagB w g a.block):w'.cell? a=some v:=
 (World.cell?_of_block (h.1.block a.block (World.block_lt_of_cell? w a hc) hn)).trans hc
theorem DagP.dagB {w:World}{b:Nat}{ns:List Nd}(h:DagP w g ns)(hb:DagB w g b):b<w.heap.size:=by
 have hm:∃v mo,w.heap[g]? =some (.cells #[v,.map mo] 153 (0,0))/\w.ownsRow 0 206 4 v ns.length (bT ns)/\∀mb,mo=some mb->mb<w.heap.size:=by
  rcases h with ⟨v,mb,m,h1,h2,h3,-⟩|⟨v,h1,h2,-⟩
  . exact⟨v,_,h1,h2,fun b hb=>by cases hb;exact h3.lt⟩
  . exact⟨v,_,h1,h2,fun b hb=>by cases hb⟩
 obtain⟨v,mo,h1,h2,h3⟩:=hm;rcases hb with rfl|⟨v',mo',T,e,hb⟩
 . exact aD h1
 . rw[h1]at e
   simp only[azQ,Obj.cells.injEq,Array.mk.injEq,List.cons.injEq,Value.map.injEq,and_true]at e;obtain⟨⟨rfl,rfl⟩,-⟩:=e;rcases hb with hb|hb
   . exact fT h2 b hb
   . exact h3 b hb
def aeZ(B g:Nat)(w:World):Prop:=∀b,DagB w g b->B<=b
theorem DS.hi {w:World}(h:DS g w w')(hB:B<=w.heap.size)(hh:aeZ B g w):aeZ B g w':=fun b hb=>by
 rcases Nat.lt_or_ge b B with hlt|hge
 . exact absurd hb (h.2 b (by omega) (fun hd=>by have:=hh b hd;omega))
 . exact hge
theorem DS.below {w:World}(h:DS g w w')(hB:B<=w.heap.size)(hh:aeZ B g w):Below B w w':=
 h.1.below hB hh
section
variable{P:Program}(w:World){ops:Array Oper}{o:Oper}{a:Act}{K:Act->World->Prop}{Q:Exit->Act->World->Prop}{E:Prop}
theorem ajQ(hg:o.guard=none)(mo x v:Operand)(t:TypeId)(hop:o.op=Op.mapUpdate t mo x v)
 (k e:TypeId) (K':Keyed P k) (ht:P.underlying t=some (.map k e)) (b:Nat) (m m':Value->Option Value)
 (hm:a.eval mo=.map (some b)) (hown:MapP P k w b m) (key val:Value) (kl:Lit) (hx:a.eval x=key) (hv:a.eval v=val) (hkey:keyOf P k key=some kl) (hu:Upd m key (some val) m')
 (hK:∀w',Hid (MapP P k w' b m')->w.grownBy w' (some b)->w'.heap.size=w.heap.size->K (a.put o.dst undef) w'):if Region.wanted o (yielded ops a.tmps)=true then Oper.wp P o a w K Q else E:=by
 have hw:Region.wanted o (yielded ops a.tmps)=true:=by simp[Region.wanted,hg]
 rw[if_pos hw];obtain⟨w',hrun,r1,r2,r3⟩:=hown.store K' ht hkey hu;unfold Oper.wp;simp[execOp,hop,hm,hx,hv,hrun,Result.andThen];exact hK w' (hdd r1) r2 r3
end
theorem zI:laidOutB Tryz.prog=true:=by kernel_rfl
theorem amJ:(318:TypeId)<Tryz.prog.types.size:=of_decide_eq_true (by kernel_rfl)
theorem ajR:(match Tryz.prog.underlying 318 with|some (.array _ _)|some (.struct _)=>true|_=>false)=true:=by kernel_rfl
theorem nL:Keyed Tryz.prog 318:=Keyed.of_law (deep_law_laid zI (m:=3) (by omega) amJ (by kernel_rfl) ajR)
theorem nM:Tryz.prog.underlying 151=some (.map 318 3):=by kernel_rfl
theorem x9:Tryz.prog.underlying 150=some (.slice 206):=by kernel_rfl
theorem yB:(Tryz.prog.info? 206).map (fun i=>(i.zero,i.size,i.bytes))=some (some (.agg #[.int .i64 0,.float .f64 0,.int .i64 0,.int .i64 0]),4,32):=by kernel_rfl
theorem abL:Tryz.prog.keyType 318=true:=by kernel_rfl
theorem yC:Tryz.prog.cellsOf 318=4:=by kernel_rfl
theorem agK:Tryz.prog.cellsOf 3=1:=by kernel_rfl
theorem agL:Tryz.prog.cellsOf 198=1:=by kernel_rfl
theorem amK:Tryz.prog.underlying 198=some (.int .u64):=by kernel_rfl
theorem adR:∃d,Tryz.prog.types.size=d+2:=⟨Tryz.prog.types.size-2,by
 have h:decide (2<=Tryz.prog.types.size)=true:=by kernel_rfl
 have:=of_decide_eq_true h;omega⟩
def Sm64(i:Int):Prop:=-9223372036854775808<=i/\i<9223372036854775808
theorem wf_i64{i:Int}(h:Sm64 i):(Lit.int .i64 i).wf=true:=by
 have e1:IntKind.i64.min=-9223372036854775808:=rfl;have e2:IntKind.i64.max=9223372036854775807:=rfl;unfold Sm64 at h;simp[Lit.wf,e1,e2];omega
theorem wf_u64(h:n<18446744073709551616):(Lit.int .u64 (n:Int)).wf=true:=by
 have e1:IntKind.u64.min=0:=rfl;have e2:IntKind.u64.max=18446744073709551615:=rfl;simp[Lit.wf,e1,e2];omega
theorem abM{n:Nd}(hk:Sm64 n.kind)(ha:Sm64 n.a)(hb:Sm64 n.b)(hv:n.val<18446744073709551616):∃kl,keyOf Tryz.prog 318 (keyV n)=some kl:=by
 obtain⟨d,hd⟩:=adR;have hu:=Tryz.underlying318;have hf:(keyV n).formed Tryz.prog 318=true:=by simp[Value.formed,hu,yC,keyV]
 have hl:∃ls,Tryz.prog.keyLits (Tryz.prog.types.size+1) 318 (keyV n).cells.toList=some ls:=by
  rw[hd];exact⟨_,by simp[Program.keyLits,hu,keyV,Value.cells,yC,agK,agL,zH,amK,wf_i64 hk,wf_i64 ha,wf_i64 hb,wf_u64 hv];rfl⟩
 obtain⟨ls,hl⟩:=hl;exact⟨.string (keyBytes ls),by rw[keyOf,hu];simp only[abL,hf,hl,Bool.and_self,if_true,Option.map_some]⟩
theorem ajS{n n':Nd}(h:keyV n=keyV n'):n=n':=by
 obtain⟨k,v,a,b⟩:=n;obtain⟨k',v',a',b'⟩:=n';simp only[keyV,Value.agg.injEq,Array.mk.injEq,List.cons.injEq,Value.int.injEq,true_and,and_true]at h;obtain⟨rfl,rfl,rfl,hv⟩:=h;have:v=v':=by omega
 rw[this]
end Go.Proofs.YtigoiiekebccnaaGreatDoor
