/- A part of the proof: contracts of functions and plain laws (WalkB, FlA, FlB, FlC, FlD, SymM, ErA, ErB). -/
import Derived.Test.YtkpodipoegbclaaGreatDoorK12
import Derived.LaidEql
import Derived.Lib.IfaceEq
import Derived.Stop.Asserts
import Derived.Recover
import Derived.Defers
import Derived.Test.YtkpodipoegbclaaGreatDoorK01
import Derived.Test.YtkpodipoegbclaaGreatDoorK07
set_option linter.unusedVariables false
set_option linter.unusedSimpArgs false
set_option maxHeartbeats 25600000
set_option maxRecDepth 100000
namespace Go.Proofs.YtkpodipoegbclaaGreatDoor
section
open Go.RowKit Go.Maps
open Go.World renaming cell?->axE,setCell->axF
open Option.some renaming inj->axD
variable{st vis:List Nat}{g gv i mb n:Nat}{S:Nat->Prop}{T:TypeId}{sv:Value}{a b w w1 w2 w3:World}
structure Fr(S:Nat->Prop)(w w':World):Prop where
 os:w'.os=w.os
 tape:w'.tape=w.tape
 output:w'.output=w.output
 size:w.heap.size<=w'.heap.size
 block:∀b,b<w.heap.size->¬S b->w'.heap[b]? =w.heap[b]?
theorem Fr.of_below {w':World}(h:Below w.heap.size w w'):Fr S w w':=⟨h.os,h.tape,h.output,h.size,fun b hb _=>h.block b hb⟩
theorem Fr.trans {c:World}(h:Fr S a b)(k:Fr S b c):Fr S a c:=
 ⟨k.os.trans h.os,k.tape.trans h.tape,k.output.trans h.output,Nat.le_trans h.size k.size,fun i hi hs=>(k.block i (Nat.lt_of_lt_of_le hi h.size) hs).trans (h.block i hi hs)⟩
theorem Fr.of_grown {row:Option Nat}(h:a.grownBy b row)(hs:∀i,row=some i->S i):Fr S a b:=
 ⟨h.os,h.tape,h.output,h.size,fun i hi h'=>h.block i hi (fun e=>h' (hs i e.symm))⟩
theorem Fr.setCell (h:Fr S a b)(hg:S g)(u:Value):Fr S a (b.setCell ⟨g,i,none⟩ u):=
 ⟨h.os,h.tape,h.output,by simpa[axF]using h.size,fun k hk hs=>by
   rw[Below.heap_setCell _ _ _ _ (fun e=>hs (by simp at e;rw[e];exact hg))];exact h.block k hk hs⟩
theorem Fr.below {B:Nat}(h:Fr S a b)(hB:B<=a.heap.size)(hS:∀i,S i->B<=i):Below B a b:=
 ⟨h.os,h.tape,h.output,h.size,fun i hi=>h.block i (Nat.lt_of_lt_of_le hi hB) (fun hs=>by have:=hS i hs;omega)⟩
def VB(gs mb:Nat)(sv:Value)(b:Nat):Prop:=b=gs\/b=mb\/sv.ownBlock=some b
def nD(w:World)(gv gs mb:Nat)(sv:Value)(vis st:List Nat)(i:Nat)(e:Ending)(w':World):Prop:=
 e=.returned (.tuple #[])/\Fr (VB gs mb sv) w w'/\∃sv',(sv'.ownBlock=sv.ownBlock\/∃b,sv'.ownBlock=some b/\w.heap.size<=b)/\
  (if i∈vis then VS w' gv gs mb sv' vis st else VS w' gv gs mb sv' (i::vis) (st++[i]))
theorem o7(sv:Value):sv.ownBlock=none\/sv.ownBlock≠none:=by
 cases sv.ownBlock
 . exact Or.inl rfl
 . exact Or.inr (by simp)
theorem dN{u:Value}(h:w.heap[g]? =some (.cells #[u] T (0,0))):∀j x,[u][j]? =some x->w.cell? ((⟨g,0,none⟩:Addr).add j)=some x:=by
 intro j x hx
 cases j with
 |zero=>simp at hx;subst hx;simp[axE,Addr.add,h]
 |succ j=>simp at hx
theorem aeA(h:n<=1000000):n+1<=maxLen:=by unfold maxLen;omega
theorem xP(h:n<=1000000):(n+1)*8<=140737488355328:=by omega
theorem ac4{gs:Nat}(h:w1.heap[gs]? =some (.cells #[sv] T (0,0)))(hb:Below w1.heap.size w1 w2)(hg:w2.grownBy w3 sv.ownBlock)(hn:sv.ownBlock≠some gs):w3.cell? ⟨gs,0,none⟩=some sv/\w3.frozen? ⟨gs,0,none⟩=false:=by
 have h2:=hbl h hb;have h3:=(hg.block gs (aG h2) (fun e=>hn e.symm)).trans h2;exact⟨by simp[axE,h3],by simp[World.frozen?,h3]⟩
theorem afY{gs cap:Nat}{m m':Value->Option Value}(hV:VS w gv gs mb sv vis st)(hnv:¬i∈vis)(hM:MapP Tryz.prog 3 w mb m)(h4:∀j:Nat,m (.int .i64 (j:Int))=if j∈vis then some (.int .i64 1)else none)
 (h6:gv≠gs) (h7:mb≠gs) (h8:mb≠gv) (h9:sv.ownBlock≠some gs) (h10:sv.ownBlock≠some gv) (h11:sv.ownBlock≠some mb)
 (hu:Upd m (.int .i64 (i:Int)) (some (.int .i64 1)) m') (hM1:MapP Tryz.prog 3 w1 mb m') (hgr:w.grownBy w1 (some mb)) (hsz:w1.heap.size=w.heap.size) (hb2:Below w1.heap.size w1 w2)
 (hO:w3.ownsRow 0 3 1 (.slice (some ⟨g,0,none⟩) (st.length+1) cap) (st.length+1) (aF st++[.int .i64 (i:Int)])) (hg3:w2.grownBy w3 sv.ownBlock) (hat:sv.ownBlock=some g\/g=w2.heap.size):
 nD w gv gs mb sv vis st i (.returned (.tuple #[])) (w3.setCell ⟨gs,0,none⟩ (.slice (some ⟨g,0,none⟩) (st.length+1) cap)):=by
 obtain⟨m0,q1,q2,-⟩:=hV;have hs2:=hb2.size;have lgv:=aG q1;have lgs:=aG q2;have lmb:=hM.lt;have hg_gs:g≠gs:=fun e=>hat.elim (fun h=>h9 (by rw[<-e];exact h)) (fun h=>by omega);have hg_gv:g≠gv:=fun e=>hat.elim (fun h=>h10 (by rw[<-e];exact h)) (fun h=>by omega);have hg_mb:g≠mb:=fun e=>hat.elim (fun h=>h11 (by rw[<-e];exact h)) (fun h=>by omega);have far:∀b,b<w.heap.size->b≠mb->sv.ownBlock≠some b->w3.heap[b]? =w.heap[b]? :=fun b hb h1 h2=>
  (hg3.block b (by omega) (fun e=>h2 e.symm)).trans ((hb2.block b (by omega)).trans (hgr.block b hb (fun e=>h1 (axD e))))
 have e1:=(far gv lgv (fun e=>h8 e.symm) h10).trans q1;have e2:=(far gs lgs (fun e=>h7 e.symm) h9).trans q2;have eM:w3.heap[mb]? =w1.heap[mb]? :=(hg3.block mb (by omega) (fun e=>h11 e.symm)).trans (hb2.block mb (by omega));refine⟨rfl,?_,.slice (some ⟨g,0,none⟩) (st.length+1) cap,?_,?_⟩
 . refine Fr.setCell ?_ (Or.inl rfl) _
   refine(Fr.of_grown hgr (fun b e=>Or.inr (Or.inl (axD e).symm))).trans ((Fr.of_below hb2).trans (Fr.of_grown hg3 (fun b e=>Or.inr (Or.inr e))))
 . rcases hat with h|h
   . exact Or.inl (by rw[h];rfl)
   . exact Or.inr ⟨g,rfl,by omega⟩
 . rw[if_neg hnv]
   refine⟨m',?_,?_,?_,?_,?_,h6,h7,h8,?_,?_,?_⟩
   . rw[Below.heap_setCell _ _ _ _ (by simpa using h6)];exact e1
   . have hg':gs<w3.heap.size:=aG e2
     have h':w3.heap[gs]=.cells #[sv] 48 (0,0):=(Array.getElem?_eq_some_iff.1 e2).2;simp[axF,hg',Array.getElem_modify,h']
   . exact hM1.keep ((by rw[Below.heap_setCell _ _ _ _ (by simpa using h7)];exact eM))
   . intro j
     by_cases hj:j=i
     . subst hj;rw[hu.1];simp
     . rw[hu.2 _ (fun e=>hj (by injection e with _ e;omega)),h4 j]
       by_cases hjv:j∈vis
       . rw[if_pos hjv,if_pos (List.mem_cons_of_mem _ hjv)]
       . rw[if_neg hjv,if_neg (fun h=>(List.mem_cons.1 h).elim hj hjv)]
   . have hk:=hO.kept (grownBy_set (World.grownBy.refl w3 (some gs)) (i:=0) (.slice (some ⟨g,0,none⟩) (st.length+1) cap)) (Or.inr (fun e=>hg_gs (axD e)))
     simpa[aF]using hk
   . exact fun e=>hg_gs (axD e)
   . exact fun e=>hg_gv (axD e)
   . exact fun e=>hg_mb (axD e)
theorem xQ{gs:Nat}(h:VS w gv gs mb sv vis st)(hi:i<=1000000)(hst:st.length<=1000000):
 Calls Tryz.prog 193 #[.int .i64 i,.pointer (some ⟨gv,0,none⟩),.pointer (some ⟨gs,0,none⟩)] w (nD w gv gs mb sv vis st i):=by
 obtain⟨m,h1,h2,h3,h4,h5,h6,h7,h8,h9,h10,h11⟩:=id h;have HV:=hdd h;have H3:=hdd h3;have H5:=hdd h5;have c1:w.cell? ⟨gv,0,none⟩=some (.map (some mb)):=by simp[axE,h1]
 have c2:w.cell? ⟨gs,0,none⟩=some sv:=by simp[axE,h2]
 have hkey:keyOf Tryz.prog 3 (.int .i64 (i:Int))=some (.int .i64 (i:Int)):=jP (by omega);have h4i:=h4 i;have HST:=hdd hst;have H4:=hdd h4;have HVI:=hdd hi;by_cases hv:i∈vis
 . rw[if_pos hv]at h4i
   have HP:Hid (nD w gv gs mb sv vis st i (.returned (.tuple #[])) w):=hdd ⟨rfl,Fr.of_below (Below.refl _ _),sv,Or.inl rfl,by rw[if_pos hv];exact HV.out⟩;clear h h1 h2 h3 h4 h5 h6 h7 h8 h9 h10 h11 hv hi hst;go_enter Tryz.func193,Tryz.ntmps193
   have hv2:(m (.int .i64 (i:Int))).getD (.int .i64 0)=.int .i64 1:=by rw[h4i];rfl
   go_wp2_with (first
    |(at_lookup
      refine aV _ rfl _ _ _ rfl _ _ aJ bR (eF _) mb m rfl H3.out (.int .i64 (i:Int)) _ rfl hkey (.int .i64 1) hv2 ?_))
   go_end0
   exact HP.out
 . rw[if_neg hv]at h4i
   have HNV:=hdd hv;obtain⟨i0,hi0,hz0,hz1,hz2⟩:=info_parts o6;have hv2:(m (.int .i64 (i:Int))).getD (.int .i64 0)=.int .i64 0:=by rw[h4i];rfl
   obtain⟨m',hu⟩:=kF m (.int .i64 (i:Int)) (some (.int .i64 1));have HC:∀w1,w.grownBy w1 (some mb)->w1.heap[gv]? =some (.cells #[.map (some mb)] 240 (0,0))/\w1.heap[gs]? =some (.cells #[sv] 48 (0,0))/\w1.cell? ⟨gv,0,none⟩=some (.map (some mb))/\w1.cell? ⟨gs,0,none⟩=some sv:=by
    intro w1 hg;have e1:=(hg.block gv (aG h1) (fun e=>h8 (axD e).symm)).trans h1;have e2:=(hg.block gs (aG h2) (fun e=>h7 (axD e).symm)).trans h2;exact⟨e1,e2,by simp[axE,e1],by simp[axE,e2]⟩
   have HCC:=hdd HC;have H6:=hdd h6;have H7:=hdd h7;have H8:=hdd h8;have H9:=hdd h9;have HU:=hdd hu;have HKEY:=hdd hkey;have HV2:=hdd hv2;have H10:=hdd h10;have H11:=hdd h11;clear h h4i h10 h11 hst h4 hi h5 h3 HC h1 h2 h6 h7 h8 h9 hu hkey hv2 hv;go_enter Tryz.func193,Tryz.ntmps193
   go_wp2_with (first
    |(at_lookup
      refine aV _ rfl _ _ _ rfl _ _ aJ bR (eF _) mb m rfl H3.out (.int .i64 (i:Int)) _ rfl HKEY.out (.int .i64 0) HV2.out ?_)
    |(at_mapUpdate
      refine dS _ rfl _ _ _ _ rfl _ _ aJ bR mb m m' rfl H3.out (.int .i64 (i:Int)) (.int .i64 1) _ rfl rfl HKEY.out HU.out ?_;intro w1 HM1 hgr hsz;obtain⟨g1,g2,d1,d2⟩:=HCC.out w1 hgr;have HG1:=hdd g1;have HG2:=hdd g2;have HGR:=hdd hgr;have HSZ:=hdd hsz;have HO1:=hdd (H5.out.kept hgr (Or.inr H11.out));obtain⟨w2,hw2,hb2,hs2,q2⟩:=pro1 w1 (.cells #[.int .i64 (i:Int)] 3);have HB2:=hdd hb2;have HS2:=hdd hs2;have HQ2:=hdd q2;have d1:=cbl d1 hb2;have d2:=cbl d2 hb2;clear g1 g2 hgr hsz hb2 hs2 q2)
    |(at_builtin
      go_loud (
      refine wpList_append_lies _ rfl _ _ 48 rfl 0 3 i0 (.int .i64 0) 1 8 jE hi0 hz0 hz1 hz2 rfl (by decide) sv st.length (aF st) rfl (HO1.out.kept (bM HB2.out) (o7 sv)) ⟨w1.heap.size,0,none⟩ 1 1 [.int .i64 (i:Int)] rfl rfl (dN HQ2.out) (by simp[Value.oneCell']) (by decide) (aeA HST.out) (xP HST.out) (Nat.zero_le _) w2.heap.size rfl ?_;intro g cap w3 hown3 hgrow3 hat hlt;obtain⟨x2,f2⟩:=ac4 HG2.out HB2.out hgrow3 H9.out;have HO3:=hdd hown3;have HG3:=hdd hgrow3;have HAT:=hdd hat;clear hown3 hgrow3 hat hlt)))
   go_end0
   exact afY HV.out HNV.out H3.out H4.out H6.out H7.out H8.out H9.out H10.out H11.out HU.out HM1.out HGR.out HSZ.out HB2.out HO3.out HG3.out HAT.out
end
section
open Go.RowKit Go.Maps Go.Stop Go.Extern
open Go.Instr renaming typeAssert->axG
open Go.World renaming cell?_of_block->axH,cell?_setCell_same->axI
variable{j k:Int}{b n:Nat}{S T:Nat->Prop}{v:Value}{w w':World}
inductive ErK(S:Nat->Prop)(w:World):Nat->Value->Int->Prop
 |kind {k:Int}:1<=k->k<=7->ErK S w 0 (.iface 124 (.int .i64 k)) k
 |inn {n b:Nat} {v:Value} {k:Int}:S b->w.cell? ⟨b,1,none⟩=some v->ErK S w n v k->ErK S w (n+1) (.iface 160 (.pointer (some ⟨b,0,none⟩))) k
 |att {n b:Nat} {v:Value} {k:Int}:S b->w.cell? ⟨b,1,none⟩=some v->ErK S w n v k->ErK S w (n+1) (.iface 117 (.pointer (some ⟨b,0,none⟩))) k
theorem ErK.block (h:w.cell? ⟨b,1,none⟩=some v):b<w.heap.size:=World.block_lt_of_cell? w _ h
theorem ErK.keep (h:ErK S w n v k)(hb:∀b,S b->b<w.heap.size->w'.cell? ⟨b,1,none⟩=w.cell? ⟨b,1,none⟩):ErK S w' n v k:=by
 induction h with
 |kind h1 h2=>exact .kind h1 h2
 |inn h0 h1 _ ih=>exact .inn h0 ((hb _ h0 (ErK.block h1)).trans h1) ih
 |att h0 h1 _ ih=>exact .att h0 ((hb _ h0 (ErK.block h1)).trans h1) ih
theorem ErK.mono (h:ErK S w n v k)(hb:∀b,S b->b<w.heap.size->T b):ErK T w n v k:=by
 induction h with
 |kind h1 h2=>exact .kind h1 h2
 |inn h0 h1 _ ih=>exact .inn (hb _ h0 (ErK.block h1)) h1 ih
 |att h0 h1 _ ih=>exact .att (hb _ h0 (ErK.block h1)) h1 ih
theorem ErK.low (h:ErK S w n v k)(hb:Below w.heap.size w w'):ErK S w' n v k:=
 h.keep fun _ _ hl=>axH (hb.block _ hl)
theorem ErK.bound (h:ErK S w n v k):1<=k/\k<=7:=by
 induction h with
 |kind h1 h2=>exact⟨h1,h2⟩
 |inn _ _ _ ih=>exact ih
 |att _ _ _ ih=>exact ih
theorem ErK.det (h:ErK S w n v k):∀{m:Nat} {j:Int},ErK T w m v j->n=m:=by
 induction h with
 |kind h1 h2=>intro m j h;cases h;rfl
 |inn _ h1 _ ih=>
  intro m j h;cases h with
  |inn _ g1 g2=>rw[h1]at g1;cases g1;rw[ih g2]
 |att _ h1 _ ih=>
  intro m j h;cases h with
  |att _ g1 g2=>rw[h1]at g1;cases g1;rw[ih g2]
noncomputable def edep(w:World)(v:Value):Nat:=by
 classical
 exact if h:∃n k,ErK (fun _=>True) w n v k then Classical.choose h else 0
theorem ErK.edep (h:ErK S w n v k):edep w v=n:=by
 unfold Go.Proofs.YtkpodipoegbclaaGreatDoor.edep;have hx:∃n k,ErK (fun _=>True) w n v k:=⟨n,k,h.mono fun _ _ _=>trivial⟩;rw[dif_pos hx];obtain⟨j,hj⟩:=Classical.choose_spec hx;exact hj.det h
theorem aa4(h:w.cell? ⟨b,1,none⟩=some v):
 Calls Tryz.prog 309 #[.pointer (some ⟨b,0,none⟩)] w (fun e w'=>e=.returned v/\w'=w):=by
 go_enter Tryz.func309,Tryz.ntmps309
 go_wp2;go_ret;exact⟨rfl,rfl⟩
theorem aa5(h:w.cell? ⟨b,1,none⟩=some v):
 Calls Tryz.prog 306 #[.pointer (some ⟨b,0,none⟩)] w (fun e w'=>e=.returned v/\w'=w):=by
 go_enter Tryz.func306,Tryz.ntmps306
 go_wp2;go_ret;exact⟨rfl,rfl⟩
theorem o8(v:Value)(xT:TypeId)(w:World):(axG (.iface 124 v) xT 203 true).run Tryz.prog w=.ok (.tuple #[.nilIface,.bool false]) w:=run_typeAssert_lacksB Tryz.underlying203 (by kernel_rfl) (by kernel_rfl) v xT w
theorem nL(v:Value)(xT:TypeId)(w:World):(axG (.iface 124 v) xT 204 true).run Tryz.prog w=.ok (.tuple #[.nilIface,.bool false]) w:=run_typeAssert_lacksB Tryz.underlying204 (by kernel_rfl) (by kernel_rfl) v xT w
theorem aiO(v:Value)(xT:TypeId)(w:World):(axG (.iface 124 v) xT 201 true).run Tryz.prog w=.ok (.tuple #[.nilIface,.bool false]) w:=run_typeAssert_lacksB Tryz.underlying201 (by kernel_rfl) (by kernel_rfl) v xT w
theorem rJ(v:Value)(xT:TypeId)(w:World):(axG (.iface 160 v) xT 203 true).run Tryz.prog w=.ok (.tuple #[.iface 160 v,.bool true]) w:=run_typeAssert_hasB Tryz.underlying203 (by kernel_rfl) v xT w
theorem am3(v:Value)(xT:TypeId)(w:World):(axG (.iface 160 v) xT 201 true).run Tryz.prog w=.ok (.tuple #[.nilIface,.bool false]) w:=run_typeAssert_lacksB Tryz.underlying201 (by kernel_rfl) (by kernel_rfl) v xT w
theorem rM(v:Value)(xT:TypeId)(w:World):(axG (.iface 117 v) xT 203 true).run Tryz.prog w=.ok (.tuple #[.iface 117 v,.bool true]) w:=run_typeAssert_hasB Tryz.underlying203 (by kernel_rfl) v xT w
theorem am4(v:Value)(xT:TypeId)(w:World):(axG (.iface 117 v) xT 201 true).run Tryz.prog w=.ok (.tuple #[.nilIface,.bool false]) w:=run_typeAssert_lacksB Tryz.underlying201 (by kernel_rfl) (by kernel_rfl) v xT w
theorem lS (v : Value) (w : World) : (Go.method 382 160 v "Unwrap").run Tryz.prog w = .ok (309, v) w := by kernel_rfl
theorem lT (v : Value) (w : World) : (Go.method 382 117 v "Unwrap").run Tryz.prog w = .ok (306, v) w := by kernel_rfl
theorem afZ{s:Nat}{c:Int}(h:ErK S w n v k)(hc:w.cell? ⟨s,0,none⟩=some (.int .i64 c))(hz:w.frozen? ⟨s,0,none⟩=false)(hc0:0<=c)(hcn:c+n<16777216)(hs:∀b,(∃v,w.cell? ⟨b,1,none⟩=some v)->b≠s):
 Calls Tryz.prog 120 #[v,.int .i64 0,.pointer (some ⟨s,0,none⟩)] w (fun e w'=>e=.returned (.bool false)/\Fr (fun b=>b=s) w w'):=by
 have HS:=hdd hs;have nK:=o8;have nKs:=nL;have uI:=rJ;have uA:=rM;have mI:=lS;have mA:=lT;have HH:=hdd h;have HC:=hdd hc;have HZ:=hdd hz;clear hs h hc hz;go_enter Tryz.func120,Tryz.ntmps120
 go_wp2_with fail
 go_loopw [0] (fun v' wr=>∃n':Nat,n'<=n/\Hid (ErK S w n' v' k)/\Hid (Fr (fun b=>b=s) w wr)/\Hid (wr.cell? ⟨s,0,none⟩=some (.int .i64 (c+(n-n':Nat))))/\Hid (wr.frozen? ⟨s,0,none⟩=false)) (fun v' _=>edep w v')
 case atStart=>exact⟨n,Nat.le_refl _,HH,hdd (Fr.of_below (Below.refl _ _)),hdd (by rw[Nat.sub_self];simpa using HC.out),HZ⟩
 case round=>
  obtain⟨n',hn',HE,HF,HCC,HZZ⟩:=hrel;have cs:=HCC.out;have fs:=HZZ.out;have hle:¬(c+((n-n':Nat):Int)+1>16777216):=by omega
  have hE:=HE.out;clear HE
  cases hE with
  |kind h1 h2=>
   go_wp2_with fail
   go_ret;exact⟨rfl,Fr.setCell HF.out rfl _⟩
  |@inn n1 b v1 k h0 h1 h2=>
   have HE2:=hdd h2;have HED:Hid (edep w (.iface 160 (.pointer (some ⟨b,0,none⟩)))=n1+1/\edep w v1=n1):=hdd ⟨(ErK.inn h0 h1 h2).edep,h2.edep⟩;have hbs:b≠s:=HS.out b ⟨_,h1⟩;have h1r:wr.cell? ⟨b,1,none⟩=some v1:=(axH (HF.out.block b (ErK.block h1) (fun h=>hbs h))).trans h1;have HU:Hid (∀u,Calls Tryz.prog 309 #[.pointer (some ⟨b,0,none⟩)] (wr.setCell ⟨s,0,none⟩ u) (fun e w''=>e=.returned v1/\w''=wr.setCell ⟨s,0,none⟩ u)):=hdd fun u=>aa4 ((axH (Below.heap_setCell wr _ u b hbs)).trans h1r);clear h0 h1 h2 h1r hbs;go_wp2_with fail
   refine(HU.out _).mono ?_;rintro e w2⟨rfl,rfl⟩;go_wp2_with fail
   go_roundw
   case rel=>
    refine⟨n1,by omega,HE2,hdd (Fr.setCell HF.out rfl _),hdd ?_,hdd (by simp[fs])⟩;have:((n-n1:Nat):Int)=((n-(n1+1):Nat):Int)+1:=by omega
    rw[this,<-Int.add_assoc];exact axI _ _ _ cs
   case measure=>have:=HED.out;simp[this]
  |@att n1 b v1 k h0 h1 h2=>
   have HE2:=hdd h2;have HED:Hid (edep w (.iface 117 (.pointer (some ⟨b,0,none⟩)))=n1+1/\edep w v1=n1):=hdd ⟨(ErK.att h0 h1 h2).edep,h2.edep⟩;have hbs:b≠s:=HS.out b ⟨_,h1⟩;have h1r:wr.cell? ⟨b,1,none⟩=some v1:=(axH (HF.out.block b (ErK.block h1) (fun h=>hbs h))).trans h1;have HU:Hid (∀u,Calls Tryz.prog 306 #[.pointer (some ⟨b,0,none⟩)] (wr.setCell ⟨s,0,none⟩ u) (fun e w''=>e=.returned v1/\w''=wr.setCell ⟨s,0,none⟩ u)):=hdd fun u=>aa5 ((axH (Below.heap_setCell wr _ u b hbs)).trans h1r);clear h0 h1 h2 h1r hbs;go_wp2_with fail
   refine(HU.out _).mono ?_;rintro e w2⟨rfl,rfl⟩;go_wp2_with fail
   go_roundw
   case rel=>
    refine⟨n1,by omega,HE2,hdd (Fr.setCell HF.out rfl _),hdd ?_,hdd (by simp[fs])⟩;have:((n-n1:Nat):Int)=((n-(n1+1):Nat):Int)+1:=by omega
    rw[this,<-Int.add_assoc];exact axI _ _ _ cs
   case measure=>have:=HED.out;simp[this]
theorem rO(h:ErK S w n v k)(hn:n<16777216):
 Calls Tryz.prog 75 #[v] w (fun e w'=>e=.returned (.bool false)/\Below w.heap.size w w'):=by
 have hb1:Below w.heap.size w (w.alloc (.cells #[.int .i64 0] 3)):=Below.alloc (Below.refl _ _) nlr _;have h1:=h.low hb1;have HL:=hdd (afZ (s:=w.heap.size) (c:=0) h1 (by simp) (by simp) (by omega) (by omega) (fun b hb=>by
  obtain⟨v',hv'⟩:=hb;intro hbs;subst hbs;simp at hv'))
 have HB:=hdd hb1;clear h h1 hb1;go_enter Tryz.func75,Tryz.ntmps75
 go_wp2_with fail
 refine HL.out.mono ?_;rintro e w2⟨rfl,hf⟩;have HB2:Hid (Below w.heap.size w w2):=hdd (HB.out.trans (hf.below HB.out.size (fun i hi=>by omega)));go_wp2_with fail
 go_ret;exact⟨rfl,HB2.out⟩
theorem aiP(v:Value)(w:World):(Extern.ReflectliteType.typeOf #[.iface 124 v]).run Tryz.prog w=.ok (.iface 199 (.agg #[.pointer (some ⟨8,124,none⟩)])) w:=by kernel_rfl
def cmpX (args : Array Value) : Sem Value := Extern.ReflectliteType.method (fun t => do Extern.Rtype.noPackHeld "Comparable" t; pure (.bool (← typeInfo t).comparable)) args
theorem zA(w:World):(cmpX #[.agg #[.pointer (some ⟨8,124,none⟩)]]).run Tryz.prog w=.ok (.bool true) w:=by kernel_rfl
theorem nU (v : Value) (w : World) : (Go.method 382 199 v "Comparable").run Tryz.prog w = .ok (315, v) w := by kernel_rfl
theorem ak3(a b:Int)(w:World):(binOp .eql 35 (.iface 124 (.int .i64 a)) (.iface 124 (.int .i64 b))).run Tryz.prog w=.ok (.bool (a==b)) w:=
 Lib.run_eql_iface_int w a b Tryz.underlying35 (by kernel_rfl) Tryz.underlying124
theorem aiQ(h:ErK S w n v k):
 Calls Tryz.prog 84 #[v,.iface 124 (.int .i64 j),.bool true] w (fun e w'=>e=.returned (.bool (k==j))/\w'=w):=by
 have nK:=o8;have nKs:=nL;have iK:=aiO;have iI:=am3;have iA:=am4;have uI:=rJ;have uA:=rM;have mI:=lS;have mA:=lT;have eq:=ak3;have eI:∀(p x:Value) (w:World),(binOp .eql 35 (.iface 160 p) (.iface 124 x)).run Tryz.prog w=.ok (.bool false) w:=fun p x w=>run_eql_iface_types (P:=Tryz.prog) _ _ p x Tryz.underlying35 (by decide) w;have eA:∀(p x:Value) (w:World),(binOp .eql 35 (.iface 117 p) (.iface 124 x)).run Tryz.prog w=.ok (.bool false) w:=fun p x w=>run_eql_iface_types (P:=Tryz.prog) _ _ p x Tryz.underlying35 (by decide) w;have HH:=hdd h;clear h;go_enter Tryz.func84,Tryz.ntmps84
 go_wp2_with fail
 go_loopw [0] (fun v' wr=>∃n':Nat,n'<=n/\Hid (ErK S w n' v' k)/\wr=w) (fun v' _=>edep w v')
 case atStart=>exact⟨n,Nat.le_refl _,HH,rfl⟩
 case round=>
  obtain⟨n',hn',HE,rfl⟩:=hrel;have hE:=HE.out;clear HE
  cases hE with
  |kind h1 h2=>
   go_wp2_with fail
   all_goals go_ret
   all_goals exact⟨by simp_all,rfl⟩
  |@inn n1 b v1 k h0 h1 h2=>
   have HE2:=hdd h2;have HED:Hid (edep wr (.iface 160 (.pointer (some ⟨b,0,none⟩)))=n1+1/\edep wr v1=n1):=hdd ⟨(ErK.inn h0 h1 h2).edep,h2.edep⟩;have HU:=hdd (aa4 h1);have hnn:∃t x,v1=.iface t x:=by cases h2<;>exact⟨_,_,rfl⟩
   obtain⟨vt,vx,hvv⟩:=hnn;subst hvv;clear h0 h1 h2;go_wp2_with fail
   refine HU.out.mono ?_;rintro e w2⟨rfl,rfl⟩;go_wp2_with fail
   go_roundw
   case rel=>exact⟨n1,by omega,HE2,trivial⟩
   case measure=>have:=HED.out;simp[this]
  |@att n1 b v1 k h0 h1 h2=>
   have HE2:=hdd h2;have HED:Hid (edep wr (.iface 117 (.pointer (some ⟨b,0,none⟩)))=n1+1/\edep wr v1=n1):=hdd ⟨(ErK.att h0 h1 h2).edep,h2.edep⟩;have HU:=hdd (aa5 h1);have hnn:∃t x,v1=.iface t x:=by cases h2<;>exact⟨_,_,rfl⟩
   obtain⟨vt,vx,hvv⟩:=hnn;subst hvv;clear h0 h1 h2;go_wp2_with fail
   refine HU.out.mono ?_;rintro e w2⟨rfl,rfl⟩;go_wp2_with fail
   go_roundw
   case rel=>exact⟨n1,by omega,HE2,trivial⟩
   case measure=>have:=HED.out;simp[this]
theorem am5(h:ErK S w n v k):
 Calls Tryz.prog 35 #[v,.iface 124 (.int .i64 j)] w (fun e w'=>e=.returned (.bool (k==j))/\w'=w):=by
 have hnn:∃t x,v=.iface t x:=by cases h<;>exact⟨_,_,rfl⟩
 obtain⟨vt,vx,rfl⟩:=hnn;have h8:=@run_callFunc_extern Tryz.prog 83 _ Extern.ReflectliteType.typeOf Tryz.func83 (by kernel_rfl) (by kernel_rfl) (by kernel_rfl) (by kernel_rfl);have h32:=@run_callFunc_extern Tryz.prog 315 _ cmpX Tryz.func315 (by kernel_rfl) (by kernel_rfl) (by kernel_rfl) (by kernel_rfl);have tT:=aiP;have cT:=zA;have mR:=nU;have HH:=hdd (aiQ (j:=j) h);clear h;go_enter Tryz.func35,Tryz.ntmps35
 go_wp2_with fail
 refine HH.out.mono ?_;rintro e w2⟨rfl,rfl⟩;go_wp2_with fail
 go_ret;exact⟨rfl,rfl⟩
theorem af0(p:Addr)(w:World):
 CallsD Tryz.prog 78 #[.pointer (some p)] .returning w fun e u' w'=>e=.returned (.tuple #[])/\u'=.returning/\w'=w:=by
 refine callsD_of_wpS Tryz.func78 rfl fun c₀ cs hu=> ?_;apply wpS_seq;apply wpS_region;simp[wpOpsS,go_sem,recoverD,hu,Tryz.ntmps78,Exit.thenS];refine wpS_cond (t:=false) (by simp[Act.eval,Array.replicate]) ?_;simp only[Bool.false_eq_true,if_false];refine wpS_of_wp (wp_skip ?_)
 cases c₀
 simp_all[bodyPostS,results,Tryz.results78]
theorem uT(h:ErK S w n v k)(hn:n<16777216):
 Calls Tryz.prog 31 #[v] w (fun e w'=>e=.returned (.int .i64 k)/\Below w.heap.size w w'):=by
 have hmf:∀(fn:Fn) (first cap:Array Value) (w:World),(Instr.makeFunc fn first cap).run Tryz.prog w=.ok (.func fn first cap) w:=fun _ _ _ _=>rfl;have hnn:∃t x,v=.iface t x:=by cases h<;>exact⟨_,_,rfl⟩
 obtain⟨vt,vx,rfl⟩:=hnn;have hbd:=h.bound;obtain⟨w1,hw1,hb1,hs1,b1⟩:=pro1 w (.cells #[.int .i64 0] 3);have HE1:=hdd (rO (h.low hb1) hn);have HB1:=hdd hb1;have HIS:Hid (∀w' j,Below w.heap.size w w'->Calls Tryz.prog 35 #[.iface vt vx,.iface 124 (.int .i64 j)] w' (fun e w''=>e=.returned (.bool (k==j))/\w''=w')):=hdd fun w' j h'=>am5 (h.low h');clear h
 go_enter_defers Tryz.func31,Tryz.ntmps31
 have c0:w1.cell? ⟨w.heap.size,0,none⟩=some (.int .i64 0):=by simp[<-hw1]
 have z0:w1.frozen? ⟨w.heap.size,0,none⟩=false:=by simp[<-hw1]
 go_wp2_with fail
 refine HE1.out.mono ?_;rintro e w2⟨rfl,hb2⟩;have c2:w2.cell? ⟨w.heap.size,0,none⟩=some (.int .i64 0):=cell_below c0 hb2 (by omega);have z2:w2.frozen? ⟨w.heap.size,0,none⟩=false:=(hb2.frozen (by simp[hs1])).trans z0;have HB2:=hdd (HB1.out.trans (hb2.mono HB1.out.size));clear hb2 c0 z0;go_wp2_with fail
 go_loopw [3] (fun i wr=>∃j:Int,1<=j/\j<=k/\i=.int .i64 j/\wr=w2) (fun i _=>(8-intOf i).toNat)
 case atStart=>exact⟨1,by omega,hbd.1,rfl,rfl⟩
 case round=>
  obtain⟨j,hj1,hjk,rfl,rfl⟩:=hrel;have h7:j<=7:=by omega
  go_wp2_with fail
  refine(HIS.out _ j HB2.out).mono ?_;rintro e w3⟨rfl,rfl⟩;by_cases hkj:k=j
  . subst hkj
    have hbk:(k==k)=true:=by simp
    rw[hbk];go_wp2_with fail
    refine leaves_cons (f:=78) (args:=#[.pointer (some ⟨w.heap.size,0,none⟩)]) (by simp) (by simp[go_sem]) ?_;refine(af0 ⟨w.heap.size,0,none⟩ _).mono ?_;rintro e u' w''⟨rfl,rfl,rfl⟩;have HF:=HB2.out.setCell (p:=⟨w.heap.size,0,none⟩) nlr (.int .i64 k);simp[Leaves,settle,results,Tryz.results31,go_sem,c2];exact HF
  . have hbk:(k==j)=false:=by simp[hkj]
    rw[hbk];go_wp2_with fail
    go_roundw
    case rel=>exact⟨j+1,by omega,by omega,by go_num,trivial⟩
    case measure=>simp[intOf];omega
end
section
open Go.RowKit
variable{k:Nat}{v:Value}
section
variable{P:Program}{w:World}{b off:Nat}{T:TypeId}{cs:List Value}
theorem bZ(h:w.heap[b]? =some (.cells cs.toArray T (0,0)))(hv:cs[k]? =some v):w.cell? ⟨b,k,none⟩=some v:=by
 simp[World.cell?,h,hv]
theorem uU(h:w.heap[b]? =some (.cells cs.toArray T (0,0))):(w.setCell ⟨b,k,none⟩ v).heap[b]? =some (.cells (cs.set k v).toArray T (0,0)):=by
 have hg:b<w.heap.size:=(Array.getElem?_eq_some_iff.1 h).1;have h':w.heap[b]=.cells cs.toArray T (0,0):=(Array.getElem?_eq_some_iff.1 h).2;simp[World.setCell,hg,Array.getElem_modify,h']
def splice(cs:List Value)(k:Nat)(vs:List Value):List Value:=cs.take k++vs++cs.drop (k+vs.length)
theorem sN(w:World)(row:Option Nat):w.grownBy w row:=⟨rfl,rfl,rfl,Nat.le_refl _,fun _ _ _=>rfl⟩
end
end
section
open Go.RowKit Go.Maps Go.Stop Go.Extern Go.Extern.Stop
open Go.Result renaming andThen->axL
open Go.World renaming cell?_alloc_lt->axJ,frozen?_alloc_old->axK,block_lt_of_cell?->axM,cell?_of_block->axN,frozen?->axO
variable{w:World}
def ErTy(w:World):Prop:=w.cell? ⟨0,0,none⟩=some (.iface 199 (.agg #[.pointer (some ⟨8,35,none⟩)]))
theorem ErTy.low {w':World}(h:ErTy w)(hb:Below w.heap.size w w'):ErTy w':=(axN (hb.block _ (axM w _ h))).trans h
theorem wQ(t:Addr)(w:World):(ReflectliteValue.unpack (.iface 121 (.pointer (some t)))).run Tryz.prog w
 =.ok (.agg #[.pointer (some ⟨8,121,none⟩),.pointer (some ⟨w.heap.size,0,none⟩),.int .u64 150]) (w.alloc (.cells #[.pointer (some t)] 121)):=by kernel_rfl
theorem ac5 (a : Addr) (w : World) : (ReflectliteValue.methodAny (ReflectliteValue.valueError "reflectlite.Value.Type" 0) (fun t _ _ _ => ReflectliteType.toType t) #[.agg #[.pointer (some ⟨8, 121, none⟩), .pointer (some a), .int .u64 150]]).run Tryz.prog w
 =.ok (.iface 199 (.agg #[.pointer (some ⟨8,121,none⟩)])) w:=by kernel_rfl
theorem uV (h : Value) (w : World) : (Go.method 382 199 (.agg #[h]) "Kind").run Tryz.prog w = .ok (300, h) w := by kernel_rfl
theorem ac6(w:World):((ReflectliteType.abiMethod fun t=>(fun a:Nat=>Value.int IntKind.u8 (a:Int)) <$> Rtype.kind t) #[.pointer (some ⟨8,121,none⟩)]).run Tryz.prog w=.ok (.int .u8 22) w:=by kernel_rfl
theorem ac7(w:World):((ReflectliteType.abiMethod fun t=>(fun a:Nat=>Value.int IntKind.u8 (a:Int)) <$> Rtype.kind t) #[.pointer (some ⟨8,117,none⟩)]).run Tryz.prog w=.ok (.int .u8 22) w:=by kernel_rfl
/-! ### THE ENTRIES THAT READ OR WRITE MEMORY: laws with a premise on the cell (after Derived/Lib/ReflectliteSlice.lean's manner: each unfolding a lemma of its own, by rfl) -/
theorem rlm(z:Sem Value)(f:TypeId->Addr->Nat->Nat->Sem Value)(v:Value):
 ReflectliteValue.method z f #[v]=(do match<-ReflectliteValue.parts v with|none=>z|some (t,a,fl)=>f t a fl (fl%32)):=rfl
theorem rP(a:Addr)(w:World):(ReflectliteValue.parts (.agg #[.pointer (some ⟨8,121,none⟩),.pointer (some a),.int .u64 150])).run Tryz.prog w=.ok (some (121,a,150)) w:=by kernel_rfl
theorem aa6(a p:Addr)(W:World)(ha:W.cell? a=some (.pointer (some p))):
 (ReflectliteValue.method (ReflectliteValue.valueError "reflectlite.Value.IsNil" 0) ReflectliteValue.isNil #[.agg #[.pointer (some ⟨8, 121, none⟩), .pointer (some a), .int .u64 150]]).run Tryz.prog W = .ok (.bool false) W := by
 rw[rlm];simp only[Sem.run_bind,rP,axL];simp[ReflectliteValue.isNil,loadVar,isAgg,underlying,Tryz.underlying121,ha,axL]
theorem uW (h : Value) (w : World) : (Go.method 382 199 (.agg #[h]) "Elem").run Tryz.prog w = .ok (316, .agg #[h]) w := by kernel_rfl
theorem lU (h : Value) (w : World) : (Go.method 382 199 (.agg #[h]) "Implements").run Tryz.prog w = .ok (317, .agg #[h]) w := by kernel_rfl
theorem kY (h : Value) (w : World) : (Go.method 382 199 (.agg #[h]) "AssignableTo").run Tryz.prog w = .ok (314, .agg #[h]) w := by kernel_rfl
theorem ac8(w:World):(ReflectliteType.method ReflectliteType.elem #[.agg #[.pointer (some ⟨8,121,none⟩)]]).run Tryz.prog w=.ok (.iface 199 (.agg #[.pointer (some ⟨8,117,none⟩)])) w:=by kernel_rfl
theorem qK (w : World) : (ReflectliteType.relation "Implements" ReflectliteType.implements_ #[.agg #[.pointer (some ⟨8, 117, none⟩)], .iface 199 (.agg #[.pointer (some ⟨8, 35, none⟩)])]).run Tryz.prog w = .ok (.bool true) w := by kernel_rfl
theorem zB(v:Value)(w:World):(ReflectliteType.typeOf #[.iface 117 v]).run Tryz.prog w=.ok (.iface 199 (.agg #[.pointer (some ⟨8,117,none⟩)])) w:=by kernel_rfl
theorem qL (w : World) : (ReflectliteType.relation "AssignableTo" ReflectliteType.assignableTo #[.agg #[.pointer (some ⟨8, 117, none⟩)], .iface 199 (.agg #[.pointer (some ⟨8, 117, none⟩)])]).run Tryz.prog w = .ok (.bool true) w := by kernel_rfl
theorem wR(e:Addr)(w:World):(ReflectliteValue.unpack (.iface 117 (.pointer (some e)))).run Tryz.prog w
 =.ok (.agg #[.pointer (some ⟨8,117,none⟩),.pointer (some ⟨w.heap.size,0,none⟩),.int .u64 150]) (w.alloc (.cells #[.pointer (some e)] 117)):=by kernel_rfl
theorem zC(w:World):(Rtype.elem? 121).run Tryz.prog w=.ok (some 117) w:=by kernel_rfl
theorem aiR(p:Addr)(w:World):(ReflectliteValue.mk 117 p ReflectliteValue.flagAddr).run Tryz.prog w=.ok (.agg #[.pointer (some ⟨8,117,none⟩),.pointer (some p),.int .u64 406]) w:=by kernel_rfl
theorem aa7(a p:Addr)(W:World)(ha:W.cell? a=some (.pointer (some p))):
 (ReflectliteValue.method (ReflectliteValue.valueError "reflectlite.Value.Elem" 0) ReflectliteValue.elem #[.agg #[.pointer (some ⟨8, 121, none⟩), .pointer (some a), .int .u64 150]]).run Tryz.prog W
   =.ok (.agg #[.pointer (some ⟨8,117,none⟩),.pointer (some p),.int .u64 406]) W:=by
 rw[rlm];simp only[Sem.run_bind,rP,axL];simp[ReflectliteValue.elem,loadVar,isAgg,underlying,Tryz.underlying121,ha,axL,zC,aiR]
theorem rls(v x:Value):ReflectliteValue.set #[v,x]=(do
 let (some (dst,a,fl),some (src,b,_)):=(<-ReflectliteValue.parts v,<-ReflectliteValue.parts x)
  | unsupported (.noEntry "extern/(internal/reflectlite.Value).Set.zeroValue")
 if fl / ReflectliteValue.flagAddr % 2 == 0 then unsupported (.noEntry "extern/(internal/reflectlite.Value).Set.unaddressable")
 let val<-loadVar src b
 if<-Rtype.directlyAssignable dst src then storeVar dst a val
 else if<-Rtype.implements dst src then
  if (<-Rtype.kind src)==20 then
   match val with
   | .nilIface => unsupported (.noEntry "extern/reflectlite: a nil value of one interface type handed on as a value of another")
   |_=>storeVar dst a val
  else storeVar dst a (.iface src val)
 else panicString ("reflectlite.Set: value of type " ++ (← Rtype.spelt src) ++ " is not assignable to type " ++ (← Rtype.spelt dst))
 pure (.tuple #[])):=rfl
theorem zD(a:Addr)(w:World):(ReflectliteValue.parts (.agg #[.pointer (some ⟨8,117,none⟩),.pointer (some a),.int .u64 406])).run Tryz.prog w=.ok (some (117,a,406)) w:=by kernel_rfl
theorem aa8(a:Addr)(w:World):(ReflectliteValue.parts (.agg #[.pointer (some ⟨8,117,none⟩),.pointer (some a),.int .u64 150])).run Tryz.prog w=.ok (some (117,a,150)) w:=by kernel_rfl
theorem zF(w:World):(Rtype.directlyAssignable 117 117).run Tryz.prog w=.ok true w:=by kernel_rfl
theorem af1(ta b e:Addr)(old:Value)(W:World)(hb:W.cell? b=some (.pointer (some e)))(ht:W.cell? ta=some old)(hf:W.frozen? ta=false):
 (ReflectliteValue.set #[.agg #[.pointer (some ⟨8,117,none⟩),.pointer (some ta),.int .u64 406],.agg #[.pointer (some ⟨8,117,none⟩),.pointer (some b),.int .u64 150]]).run Tryz.prog W
   =.ok (.tuple #[]) (W.setCell ta (.pointer (some e))):=by
 rw[rls];simp only[Sem.run_bind,zD,aa8,axL];simp[ReflectliteValue.flagAddr,loadVar,isAgg,underlying,Tryz.underlying117,hb,axL,zF,storeVar,Value.cells,storeCells,Addr.add];rw[run_store Tryz.prog W ta _ _ (by rfl)];simp[ht,hf]
theorem am6(e t:Addr)(old:Value)(w:World)(hg:w.cell? ⟨0,0,none⟩=some (.iface 199 (.agg #[.pointer (some ⟨8,35,none⟩)])))(ht0:w.cell? t=some old)(hf0:w.frozen? t=false):
 Calls Tryz.prog 77 #[.iface 117 (.pointer (some e)),.iface 121 (.pointer (some t))] w fun ev w'=>ev=.returned (.bool true)/\w'=((((w.alloc (.cells #[.pointer (some t)] 121)).alloc (.cells #[.pointer (some ⟨8,121,none⟩),.pointer (some ⟨w.heap.size,0,none⟩),.int .u64 150] 188)).alloc (.cells #[.pointer (some ⟨8,121,none⟩),.pointer (some ⟨w.heap.size,0,none⟩),.int .u64 150] 188)).alloc (.cells #[.pointer (some e)] 117)).setCell t (.pointer (some e)):=by
 have h6:=@run_callFunc_extern Tryz.prog 122 _ (fun args=>ReflectliteValue.unpack (args.getD 0 (.tuple #[]))) Tryz.func122 (by kernel_rfl) (by kernel_rfl) (by kernel_rfl) (by kernel_rfl);have h7 := @run_callFunc_extern Tryz.prog 123 _ (ReflectliteValue.methodAny (ReflectliteValue.valueError "reflectlite.Value.Type" 0) (fun t _ _ _ => ReflectliteType.toType t)) Tryz.func123 (by kernel_rfl) (by kernel_rfl) (by kernel_rfl) (by kernel_rfl)
 have h8 := @run_callFunc_extern Tryz.prog 124 _ (ReflectliteValue.method (ReflectliteValue.valueError "reflectlite.Value.IsNil" 0) ReflectliteValue.isNil) Tryz.func124 (by kernel_rfl) (by kernel_rfl) (by kernel_rfl) (by kernel_rfl)
 have h27:=@run_callFunc_extern Tryz.prog 300 _ (ReflectliteType.abiMethod fun t=>do pure (.int .u8 (<-Rtype.kind t))) Tryz.func300 (by kernel_rfl) (by kernel_rfl) (by kernel_rfl) (by kernel_rfl);have h37:=@run_callFunc_extern Tryz.prog 316 _ (ReflectliteType.method ReflectliteType.elem) Tryz.func316 (by kernel_rfl) (by kernel_rfl) (by kernel_rfl) (by kernel_rfl);have h38 := @run_callFunc_extern Tryz.prog 317 _ (ReflectliteType.relation "Implements" ReflectliteType.implements_) Tryz.func317 (by kernel_rfl) (by kernel_rfl) (by kernel_rfl) (by kernel_rfl)
 have h10:=@run_callFunc_extern Tryz.prog 83 _ ReflectliteType.typeOf Tryz.func83 (by kernel_rfl) (by kernel_rfl) (by kernel_rfl) (by kernel_rfl);have h35 := @run_callFunc_extern Tryz.prog 314 _ (ReflectliteType.relation "AssignableTo" ReflectliteType.assignableTo) Tryz.func314 (by kernel_rfl) (by kernel_rfl) (by kernel_rfl) (by kernel_rfl)
 have h11 := @run_callFunc_extern Tryz.prog 173 _ (ReflectliteValue.method (ReflectliteValue.valueError "reflectlite.Value.Elem" 0) ReflectliteValue.elem) Tryz.func173 (by kernel_rfl) (by kernel_rfl) (by kernel_rfl) (by kernel_rfl)
 have h12:=@run_callFunc_extern Tryz.prog 174 _ ReflectliteValue.set Tryz.func174 (by kernel_rfl) (by kernel_rfl) (by kernel_rfl) (by kernel_rfl);have tO:=zB;have mA:=kY;have a25:=qL;have v25:=wR;have f6:=wQ;have f7:=ac5;have mK:=uV;have mE:=uW;have mI:=lU;have k27:=ac6;have k25:=ac7;have e27:=ac8;have i25:=qK;have n8:=aa6 ⟨w.heap.size,0,none⟩ t ((w.alloc (.cells #[.pointer (some t)] 121)).alloc (.cells #[.pointer (some ⟨8,121,none⟩),.pointer (some ⟨w.heap.size,0,none⟩),.int .u64 150] 188)) (by simp);have hlt:0<w.heap.size:=axM w _ hg;have hg2:((w.alloc (.cells #[.pointer (some t)] 121)).alloc (.cells #[.pointer (some ⟨8,121,none⟩),.pointer (some ⟨w.heap.size,0,none⟩),.int .u64 150] 188)).cell? ⟨0,0,none⟩=some (.iface 199 (.agg #[.pointer (some ⟨8,35,none⟩)])):=by
  rw[axJ _ _ ⟨0,0,none⟩ (by first|(simp;done)|(simp;omega)),axJ _ _ ⟨0,0,none⟩ hlt];exact hg
 have htl:t.block<w.heap.size:=by
  rcases Nat.lt_or_ge t.block w.heap.size with h|h
  . exact h
  . simp[World.cell?,Array.getElem?_eq_none h]at ht0
 have el:=aa7 ⟨w.heap.size,0,none⟩ t (((w.alloc (.cells #[.pointer (some t)] 121)).alloc (.cells #[.pointer (some ⟨8,121,none⟩),.pointer (some ⟨w.heap.size,0,none⟩),.int .u64 150] 188)).alloc (.cells #[.pointer (some ⟨8,121,none⟩),.pointer (some ⟨w.heap.size,0,none⟩),.int .u64 150] 188)) (by rw[axJ _ _ ⟨w.heap.size,0,none⟩ (by simp;omega)];simp);have st:=af1 t ⟨w.heap.size+1+1+1,0,none⟩ e old ((((w.alloc (.cells #[.pointer (some t)] 121)).alloc (.cells #[.pointer (some ⟨8,121,none⟩),.pointer (some ⟨w.heap.size,0,none⟩),.int .u64 150] 188)).alloc (.cells #[.pointer (some ⟨8,121,none⟩),.pointer (some ⟨w.heap.size,0,none⟩),.int .u64 150] 188)).alloc (.cells #[.pointer (some e)] 117))
  (by rw[World.cell?_alloc_at _ _ _ _ (by simp)];rfl)
  (by rw[axJ _ _ t (by simp;omega),axJ _ _ t (by simp;omega),axJ _ _ t (by simp;omega),axJ _ _ t htl];exact ht0)
  (by rw[axK _ _ t (by simp;omega),axK _ _ t (by simp;omega),axK _ _ t (by simp;omega),axK _ _ t (Nat.ne_of_lt htl)];exact hf0)
 go_enter Tryz.func77,Tryz.ntmps77
 go_wp2;refine wp_loop_rounds 1 ?_;rw[rounds_succ];go_wp2;go_ret;exact⟨rfl,rfl⟩
theorem anT{e:Addr}{t:Nat}{w0:World}{old:Value}(hT:ErTy w)(hb:Below w0.heap.size w0 w)(ht:w0.heap.size<=t)(h0:w.heap[t]? =some (.cells #[old] 117 (0,0))):
 Calls Tryz.prog 77 #[.iface 117 (.pointer (some e)),.iface 121 (.pointer (some ⟨t,0,none⟩))] w fun ev w'=>ev=.returned (.bool true)/\Below w0.heap.size w0 w'/\w'.heap[t]? =some (.cells #[.pointer (some e)] 117 (0,0))/\∀b,b≠t->b<w.heap.size->w'.heap[b]? =w.heap[b]? :=by
 refine(am6 e ⟨t,0,none⟩ old w hT (bZ (k:=0) h0 rfl) (by simp[axO,h0])).mono ?_;rintro ev w'⟨rfl,rfl⟩;have h4:=fun(o1 o2 o3 o4:Obj)=>(((((Below.refl w.heap.size w).alloc nlr o1).alloc (by simp) o2).alloc (by simp;omega) o3).alloc (by simp;omega) o4);refine⟨rfl,?_,?_,?_⟩
 . exact(hb.trans ((h4 _ _ _ _).mono hb.size)).setCell ht _
 . exact uU (cs:=[old]) (k:=0) (aC h0 (h4 _ _ _ _) (aG h0))
 . intro b hne hlt
   rw[Below.heap_setCell _ _ _ _ (by simpa using hne)];exact(h4 _ _ _ _).block _ hlt
theorem ac9(p q:Addr)(w:World):
 CallsD Tryz.prog 74 #[.pointer (some p),.pointer (some q)] .returning w fun e u' w'=>e=.returned (.tuple #[])/\u'=.returning/\w'=w:=by
 refine callsD_of_wpS Tryz.func74 rfl fun c₀ cs hu=> ?_;apply wpS_seq;apply wpS_region;simp[wpOpsS,go_sem,recoverD,hu,Tryz.ntmps74,Exit.thenS];refine wpS_cond (t:=false) (by simp[Act.eval,Array.replicate]) ?_;simp only[Bool.false_eq_true,if_false];refine wpS_of_wp (wp_skip ?_)
 cases c₀
 simp_all[bodyPostS,results,Tryz.results74]
theorem uX{S:Nat->Prop}{n b:Nat}{k i:Int}(h:ErK S w n (.iface 117 (.pointer (some ⟨b,0,none⟩))) k)(hn:n<16777216)(hi:w.cell? ⟨b,0,none⟩=some (.int .i64 i))(hT:ErTy w):
 Calls Tryz.prog 29 #[.iface 117 (.pointer (some ⟨b,0,none⟩))] w (fun e w'=>e=.returned (.tuple #[.int .i64 i,.bool true])/\Below w.heap.size w w'):=by
 have hmf:∀(fn:Fn) (first cap:Array Value) (w:World),(Instr.makeFunc fn first cap).run Tryz.prog w=.ok (.func fn first cap) w:=fun _ _ _ _=>rfl;obtain⟨w3,hw3,hb3,hs3,b1,b2,b3⟩:=pro3 w (.cells #[.int .i64 0] 3) (.cells #[.bool false] 4) (.cells #[.pointer none] 117);have HE1:=hdd (rO (h.low hb3) hn);have HB3:=hdd hb3;have HT3:=hdd (hT.low hb3);have HI:=hdd (cbl hi hb3);have B1:=hdd b1;have B2:=hdd b2;have B3:=hdd b3;have HBL:=hdd (axM w _ hi);clear h hn hi hT hb3 b1 b2 b3
 go_enter_defers Tryz.func29,Tryz.ntmps29
 have c0:w3.cell? ⟨w.heap.size,0,none⟩=some (.int .i64 0):=bZ (k:=0) B1.out rfl;go_wp2_with fail
 refine HE1.out.mono ?_;rintro e w4⟨rfl,hb4⟩;have HB4:=hdd (HB3.out.trans (hb4.mono HB3.out.size));have C1:=hbl B1.out hb4;have C2:=hbl B2.out hb4;have C3:=hbl B3.out hb4;have HAS:=hdd (anT (e:=⟨b,0,none⟩) (HT3.out.low hb4) HB4.out (Nat.le_add_right _ 2) C3);have HI4:=hdd (cell_below HI.out hb4 nlr);have D1:=hdd C1;have D2:=hdd C2;have hs4:w.heap.size+3<=w4.heap.size:=by have:=hb4.size;omega
 have HS4:=hdd hs4;clear hb4 HE1 B1 B2 B3 HI HT3 C1 C2 C3 c0 hs4;go_wp2_with fail
 refine HAS.out.mono ?_;rintro e w5⟨rfl,hb5,h5,hk5⟩;have E1:=(hk5 w.heap.size (by omega) (by have:=HS4.out;omega)).trans D1.out;have E2:=(hk5 (w.heap.size+1) (by omega) (by have:=HS4.out;omega)).trans D2.out;have c0:=bZ (k:=0) (v:=.int .i64 0) E1 rfl;have c1:=bZ (k:=0) (v:=.bool false) E2 rfl;have c2:=bZ (k:=0) (v:=.pointer (some ⟨b,0,none⟩)) h5 rfl;have z0:w5.frozen? ⟨w.heap.size,0,none⟩=false:=by simp[axO,E1]
 have z1:w5.frozen? ⟨w.heap.size+1,0,none⟩=false:=by simp[axO,E2]
 have hbi:w5.cell? ⟨b,0,none⟩=some (.int .i64 i):=by
  have:=HBL.out;rw[axN (hk5 b (by omega) (by have:=HS4.out;omega))];exact HI4.out
 have n1:w.heap.size≠w.heap.size+1:=by omega
 have HF:Hid (Below w.heap.size w ((w5.setCell ⟨w.heap.size,0,none⟩ (.int .i64 i)).setCell ⟨w.heap.size+1,0,none⟩ (.bool true))):=hdd ((hb5.setCell (p:=⟨w.heap.size,0,none⟩) nlr _).setCell (p:=⟨w.heap.size+1,0,none⟩) (Nat.le_succ _) _);clear hb5 h5 hk5 HAS E1 E2 D1 D2 HI4 HB4 HB3;go_wp2_with fail
 refine leaves_cons (f:=74) (args:=#[.pointer (some ⟨w.heap.size,0,none⟩),.pointer (some ⟨w.heap.size+1,0,none⟩)]) (by simp) (by simp[go_sem]) ?_;refine(ac9 ⟨w.heap.size,0,none⟩ ⟨w.heap.size+1,0,none⟩ _).mono ?_;rintro e u' w''⟨rfl,rfl,rfl⟩;simp[Leaves,settle,results,Tryz.results29,go_sem,c0,c1];exact HF.out
end
end Go.Proofs.YtkpodipoegbclaaGreatDoor
