/- A part of the proof: contracts of functions and plain laws (TwW). -/
import Derived.Test.YtgodkfgnhpnhcaaGreatDoorK37
import Derived.Test.YtgodkfgnhpnhcaaGreatDoorK34
set_option linter.unusedVariables false
set_option linter.unusedSimpArgs false
set_option maxHeartbeats 25600000
set_option maxRecDepth 100000
namespace Go.Proofs.YtgodkfgnhpnhcaaGreatDoor
open Go.RowKit Go.Maps
open List renaming setIfInBounds_toArray->beV,set->beW
theorem wF{w:World}{p0 p1 q0 q1 o0 o1 k:Int}(hT:Tab w)(htb:1<w.heap.size):
 Calls Tryz.prog 6 #[.agg #[.int .i64 p0,.int .i64 p1],.agg #[.int .i64 q0,.int .i64 q1],.agg #[.int .i64 o0,.int .i64 o1],.int .i64 k] w (RetV w (.bool true)):=by
 obtain⟨w2,hw2,hb2,hs2,b1,b2,b3⟩:=pro3 w (.cells #[.int .i64 p0,.int .i64 p1] 22) (.cells #[.int .i64 q0,.int .i64 q1] 22) (.cells #[.int .i64 o0,.int .i64 o1] 22);have HA:=hdd (aeB (hT.below hb2) (Nat.lt_of_lt_of_le htb hb2.size));have HT:=hdd (And.intro hT htb);have HB2:=hdd hb2;have HK:Hid (∀w3,Below w2.heap.size w2 w3->∀p∈[(w.heap.size,(.cells #[.int .i64 p0,.int .i64 p1] 22:Obj)),(w.heap.size+1,.cells #[.int .i64 q0,.int .i64 q1] 22),(w.heap.size+2,.cells #[.int .i64 o0,.int .i64 o1] 22)],w3.heap[p.1]? =some p.2/\w.heap.size<=p.1):=hdd fun w3 h p hp=>by
  simp only[List.mem_cons,List.not_mem_nil,or_false]at hp;rcases hp with rfl|rfl|rfl
  . exact⟨hbl b1 h,Nat.le_refl _⟩
  . exact⟨hbl b2 h,Nat.le_add_right _ _⟩
  . exact⟨hbl b3 h,Nat.le_add_right _ _⟩
 obtain⟨ka,kb,KK,mk1,mk2,mk3,mk4,mk5⟩:=mod9 k;obtain⟨s,hs3,hall⟩:=ajZ ⟨mk4,mk5⟩ (bC (v:=p0) (n:=20) (by decide) (by decide)) (bC (v:=p1) (n:=20) (by decide) (by decide)) (bC (v:=q0) (n:=20) (by decide) (by decide)) (bC (v:=q1) (n:=20) (by decide) (by decide)) (bC (v:=o0) (n:=20) (by decide) (by decide)) (bC (v:=o1) (n:=20) (by decide) (by decide));have TT:=hdd (hall _ _ _ _ _ _ _ rfl rfl rfl rfl rfl rfl rfl);have FK:=hdd (jL (k:=KK) (by omega));have MK:=hdd (And.intro mk1 (And.intro mk2 mk3));have F0:Hid ((∀w,Calls Tryz.prog 18 #[.int .i64 p0,.int .i64 20] w (RetV w (.float .f64 (fl (p0.tmod 20)))))/\fl (p0.tmod 20)<18446744073709551616/\fin (fl (p0.tmod 20))):=hdd ⟨fun w=>lK,(jL (bC (by decide) (by decide))).1,(jL (bC (by decide) (by decide))).2.1⟩;have F1:Hid ((∀w,Calls Tryz.prog 18 #[.int .i64 p1,.int .i64 20] w (RetV w (.float .f64 (fl (p1.tmod 20)))))/\fl (p1.tmod 20)<18446744073709551616/\fin (fl (p1.tmod 20))):=hdd ⟨fun w=>lK,(jL (bC (by decide) (by decide))).1,(jL (bC (by decide) (by decide))).2.1⟩
 have F2:Hid ((∀w,Calls Tryz.prog 18 #[.int .i64 q0,.int .i64 20] w (RetV w (.float .f64 (fl (q0.tmod 20)))))/\fl (q0.tmod 20)<18446744073709551616/\fin (fl (q0.tmod 20))):=hdd ⟨fun w=>lK,(jL (bC (by decide) (by decide))).1,(jL (bC (by decide) (by decide))).2.1⟩;have F3:Hid ((∀w,Calls Tryz.prog 18 #[.int .i64 q1,.int .i64 20] w (RetV w (.float .f64 (fl (q1.tmod 20)))))/\fl (q1.tmod 20)<18446744073709551616/\fin (fl (q1.tmod 20))):=hdd ⟨fun w=>lK,(jL (bC (by decide) (by decide))).1,(jL (bC (by decide) (by decide))).2.1⟩;have F4:Hid ((∀w,Calls Tryz.prog 18 #[.int .i64 o0,.int .i64 20] w (RetV w (.float .f64 (fl (o0.tmod 20)))))/\fl (o0.tmod 20)<18446744073709551616/\fin (fl (o0.tmod 20))):=hdd ⟨fun w=>lK,(jL (bC (by decide) (by decide))).1,(jL (bC (by decide) (by decide))).2.1⟩;have F5:Hid ((∀w,Calls Tryz.prog 18 #[.int .i64 o1,.int .i64 20] w (RetV w (.float .f64 (fl (o1.tmod 20)))))/\fl (o1.tmod 20)<18446744073709551616/\fin (fl (o1.tmod 20))):=hdd ⟨fun w=>lK,(jL (bC (by decide) (by decide))).1,(jL (bC (by decide) (by decide))).2.1⟩
 have hs3:=hdd hs3;clear hT htb hb2 hs2 b1 b2 b3 hall mk1 mk2 mk3 mk4 mk5;go_enter Tryz.func6,Tryz.ntmps6
 go_wp2_with fail
 refine HA.out.mono ?_;rintro e w3⟨rfl,hb3⟩;have HN:=hdd (zJ (w0:=w) (aB HB2.out hb3) (HK.out w3 hb3) (by simp) HT.out.1 HT.out.2);clear hb3 HK HA;go_wp2_with fail
 refine HN.out.mono ?_;rintro e W1⟨g,rfl,hR⟩;have R1:=hdd hR;clear hR HN;dsimp only
 try rw[show w.heap.size+1+1=w.heap.size+2 from rfl]
 generalize w.heap.size+2=bo at R1|-;generalize w.heap.size+1=bq at R1|-
 go_upto_region 6 with fail
 refine Spec.run (S:=⟨_,fun i=>([.w (.c (.v (.pointer (some ⟨g,0,none⟩)))),.w (.c (.v (.int .i64 k))),.w (.c (.v (.int .i64 ka))),.w (.c (.v (.int .i64 kb))),.w (.c (.v (.int .i64 KK))),.w (.c (.v (.float .f64 (fl KK)))),numS g 3,numS g 4,.w (.c (.ptr 5 0)),noS]:List SV).getD i noS,fun n=>([none,none,none,some 6,some 7,some 8]:List (Option Nat)).getD n none,
  [(3,(.leaf (fl KK))),(4,(.root (.leaf (fl KK))))],[⟨0,22,[.v (.int .i64 p0),.v (.int .i64 p1)],none⟩,⟨1,22,[.v (.int .i64 q0),.v (.int .i64 q1)],none⟩,⟨2,22,[.v (.int .i64 o0),.v (.int .i64 o1)],none⟩,⟨5,27,[.v (.pointer none),.v (.int .i64 0)],some (9,numC g 4)⟩],
  fun i=>([0,0,0,0,0,0,1,1,0,0]:List Nat).getD i 0,fun i=>([[],[],[1],[1,2],[1,2,3],[1,2,3,4],[0,1,2,3,4,5],[0,1,2,3,4,5,6],[],[0,1,2,3,4,5,6,7,8]]:List (List Nat)).getD i [],[(9,.w (.c (.v (.pointer (some ⟨g,0,none⟩))))),(3,.w (.c (.v (.int .i64 k))))]⟩)
  (W:=runW (bs w) g) (ν0:=fun n=>([w.heap.size,bq,bo]:List Nat).getD n 0) (c0:=0)
  (fs:=fun ν=>[(31,.pointer (some ⟨g,0,none⟩)),(32,(.int .i64 k)),(33,(.int .i64 ka)),(34,(.int .i64 kb)),(35,(.int .i64 KK)),(36,(.float .f64 (fl KK))),(37,numV g (ν 3)),(38,numV g (ν 4)),(10,.pointer (some ⟨(ν 5),0,none⟩))]) 10 2 [] []
  ⟨Spec.wf_of (by kernel_rfl),dG (by kernel_rfl),bJ ⟨rfl,rfl,trivial⟩⟩ R1.out (Run.nodup R1.out) (by decide)
  (fun b hM=>aA (aA (aA (aA (aA (aA (aA (aA (aA (aA bT
    (aD b))
    (aD b))
    (aD b (hv:=fun ν w=>ac3 rfl rfl rfl rfl (MK.out.1 w))))
    (aD b (hv:=fun ν w=>ac3 rfl rfl rfl rfl (MK.out.2.1 w))))
    (aD b (hv:=fun ν w=>ac3 rfl rfl rfl rfl (MK.out.2.2 w))))
    (aD b (hv:=fun ν w=>alV rfl rfl (aj0 KK w))))
    (aL b (c_of hM FK.out.1 FK.out.2.1 rfl rfl rfl rfl)))
    (aL b (am5 hM m0 rfl rfl rfl rfl rfl)))
    (cZ b m3))
    (eT b 2 m3)) ?_
 intro ν W2 hν hR;replace hR:Run (bs w) g 2 [((.leaf (fl KK)),ν 3),((.root (.leaf (fl KK))),ν 4)] [((ν 0),.cells #[(.int .i64 p0),(.int .i64 p1)] 22),((ν 1),.cells #[(.int .i64 q0),(.int .i64 q1)] 22),((ν 2),.cells #[(.int .i64 o0),(.int .i64 o1)] 22),((ν 5),numO g (ν 4))] W2:=hR;have e0:ν 0=w.heap.size:=hν 0 rfl;have e1:ν 1=bq:=hν 1 rfl;have e2:ν 2=bo:=hν 2 rfl;simp only[e0,e1,e2]at hR|-;clear hν e0 e1 e2;generalize ν 3=n1 at hR|-;generalize ν 4=n2 at hR|-;generalize ν 5=b3 at hR|-;have R2:=hdd hR;clear hR R1;simp only[putL,beV,beW]
 go_upto_region 7 with fail
 refine Spec.run (S:=⟨_,fun i=>([.w (.c (.v (.pointer (some ⟨g,0,none⟩)))),.w (.c (.ptr 0 0)),.w (.c (.v (.int .i64 p0))),.w (.c (.v (.float .f64 (fl (p0.tmod 20))))),numS g 5,.w (.c (.v (.pointer (some ⟨g,0,none⟩)))),.w (.c (.ptr 0 1)),.w (.c (.v (.int .i64 p1))),.w (.c (.v (.float .f64 (fl (p1.tmod 20))))),numS g 6,numS g 3,.w (.c (.sl 7 1)),numS g 8,aW g 5 8,.w (.c (.ptr 9 0)),noS]:List SV).getD i noS,fun n=>([none,none,none,none,none,some 4,some 9,some 11,some 12,some 14]:List (Option Nat)).getD n none,
  [(3,(.root (.leaf (fl KK)))),(5,(.leaf (fl (p0.tmod 20)))),(6,(.leaf (fl (p1.tmod 20)))),(8,(.add (.leaf (fl (p1.tmod 20))) (.root (.leaf (fl KK)))))],[⟨0,22,[.v (.int .i64 p0),.v (.int .i64 p1)],none⟩,⟨1,22,[.v (.int .i64 q0),.v (.int .i64 q1)],none⟩,⟨2,22,[.v (.int .i64 o0),.v (.int .i64 o1)],none⟩,⟨4,27,numC g 3,none⟩,⟨7,27,numC g 3,none⟩,⟨9,29,[.v (.pointer none),.v (.int .i64 0),.v (.pointer none),.v (.int .i64 0)],some (15,aX g 5 8)⟩],
  fun i=>([0,0,0,0,1,0,0,0,0,1,0,0,1,0,0,0]:List Nat).getD i 0,fun i=>([[],[],[1],[1,2],[0,1,2,3],[],[],[6],[6,7],[5,6,7,8],[],[10],[5,6,7,8,9,10,11],[0,1,2,3,4,5,6,7,8,9,10,11,12],[],[0,1,2,3,4,5,6,7,8,9,10,11,12,13,14]]:List (List Nat)).getD i [],[(9,.w (.c (.v (.pointer (some ⟨g,0,none⟩))))),(4,.w (.c (.ptr 0 0))),(10,.w (.c (.ptr 4 0)))]⟩)
  (W:=runW (bs w) g) (ν0:=fun n=>([w.heap.size,bq,bo,n2,b3]:List Nat).getD n 0) (c0:=2)
  (fs:=fun ν=>[(39,.pointer (some ⟨g,0,none⟩)),(40,.pointer (some ⟨(ν 0),0,none⟩)),(41,(.int .i64 p0)),(42,(.float .f64 (fl (p0.tmod 20)))),(43,numV g (ν 5)),(44,.pointer (some ⟨g,0,none⟩)),(45,.pointer (some ⟨(ν 0),1,none⟩)),(46,(.int .i64 p1)),(47,(.float .f64 (fl (p1.tmod 20)))),(48,numV g (ν 6)),(49,numV g (ν 3)),(50,.slice (some ⟨(ν 7),0,none⟩) 1 1),(51,numV g (ν 8)),(52,aN g (ν 5) (ν 8)),(11,.pointer (some ⟨(ν 9),0,none⟩))]) 16 5 [false] []
  ⟨Spec.wf_of (by kernel_rfl),dG (by kernel_rfl),bJ ⟨rfl,rfl,rfl,trivial⟩⟩ R2.out (Run.nodup R2.out) (by decide)
  (fun b hM=>aA (aA (aA (aA (aA (aA (aA (aA (aA (aA (aA (aA (aA (aA (aA (aA bT
    (aD b))
    (aD b))
    (iF b m0))
    (aL b (kY hM rfl rfl rfl F0.out.1)))
    (aL b (c_of hM F0.out.2.1 F0.out.2.2 rfl rfl rfl rfl)))
    (aD b))
    (aD b))
    (iF b m0))
    (aL b (kY hM rfl rfl rfl F1.out.1)))
    (aL b (c_of hM F1.out.2.1 F1.out.2.2 rfl rfl rfl rfl)))
    (aI b 2 m3))
    (iG b m4))
    (aL b (xV hM m2 m0 rfl rfl m4 rfl rfl rfl rfl rfl rfl rfl rfl)))
    (aD b))
    (cZ b m5))
    (eT b 4 m5)) ?_
 intro ν W3 hν hR;replace hR:Run (bs w) g 5 [((.root (.leaf (fl KK))),ν 3),((.leaf (fl (p0.tmod 20))),ν 5),((.leaf (fl (p1.tmod 20))),ν 6),((.add (.leaf (fl (p1.tmod 20))) (.root (.leaf (fl KK)))),ν 8)] [((ν 0),.cells #[(.int .i64 p0),(.int .i64 p1)] 22),((ν 1),.cells #[(.int .i64 q0),(.int .i64 q1)] 22),((ν 2),.cells #[(.int .i64 o0),(.int .i64 o1)] 22),((ν 4),numO g (ν 3)),((ν 7),numO g (ν 3)),((ν 9),aV g (ν 5) (ν 8))] W3:=hR;have e0:ν 0=w.heap.size:=hν 0 rfl;have e1:ν 1=bq:=hν 1 rfl;have e2:ν 2=bo:=hν 2 rfl;have e3:ν 3=n2:=hν 3 rfl;have e4:ν 4=b3:=hν 4 rfl;simp only[e0,e1,e2,e3,e4]at hR|-;clear hν e0 e1 e2 e3 e4;generalize ν 5=n4 at hR|-;generalize ν 6=n5 at hR|-;generalize ν 7=b6 at hR|-;generalize ν 8=n7 at hR|-;generalize ν 9=b8 at hR|-;have R3:=hdd hR;clear hR R2;simp only[putL,beV,beW]
 go_upto_region 8 with fail
 refine Spec.run (S:=⟨_,fun i=>([.w (.c (.v (.pointer (some ⟨g,0,none⟩)))),.w (.c (.ptr 0 0)),.w (.c (.v (.int .i64 q0))),.w (.c (.v (.float .f64 (fl (q0.tmod 20))))),numS g 7,.w (.c (.v (.pointer (some ⟨g,0,none⟩)))),.w (.c (.ptr 0 1)),.w (.c (.v (.int .i64 q1))),.w (.c (.v (.float .f64 (fl (q1.tmod 20))))),numS g 8,aW g 7 8,.w (.c (.ptr 9 0)),noS]:List SV).getD i noS,fun n=>([none,none,none,none,none,none,none,some 4,some 9,some 11]:List (Option Nat)).getD n none,
  [(2,(.root (.leaf (fl KK)))),(4,(.leaf (fl (p0.tmod 20)))),(5,(.add (.leaf (fl (p1.tmod 20))) (.root (.leaf (fl KK))))),(7,(.leaf (fl (q0.tmod 20)))),(8,(.leaf (fl (q1.tmod 20))))],[⟨0,22,[.v (.int .i64 q0),.v (.int .i64 q1)],none⟩,⟨1,22,[.v (.int .i64 o0),.v (.int .i64 o1)],none⟩,⟨3,27,numC g 2,none⟩,⟨6,29,aX g 4 5,none⟩,⟨9,29,[.v (.pointer none),.v (.int .i64 0),.v (.pointer none),.v (.int .i64 0)],some (12,aX g 7 8)⟩],
  fun i=>([0,0,0,0,1,0,0,0,0,1,0,0,0]:List Nat).getD i 0,fun i=>([[],[],[1],[1,2],[0,1,2,3],[],[],[6],[6,7],[5,6,7,8],[0,1,2,3,4,5,6,7,8,9],[],[0,1,2,3,4,5,6,7,8,9,10,11]]:List (List Nat)).getD i [],[(9,.w (.c (.v (.pointer (some ⟨g,0,none⟩))))),(5,.w (.c (.ptr 0 0)))]⟩)
  (W:=runW (bs w) g) (ν0:=fun n=>([bq,bo,n2,b3,n4,n7,b8]:List Nat).getD n 0) (c0:=5)
  (fs:=fun ν=>[(53,.pointer (some ⟨g,0,none⟩)),(54,.pointer (some ⟨(ν 0),0,none⟩)),(55,(.int .i64 q0)),(56,(.float .f64 (fl (q0.tmod 20)))),(57,numV g (ν 7)),(58,.pointer (some ⟨g,0,none⟩)),(59,.pointer (some ⟨(ν 0),1,none⟩)),(60,(.int .i64 q1)),(61,(.float .f64 (fl (q1.tmod 20)))),(62,numV g (ν 8)),(63,aN g (ν 7) (ν 8)),(12,.pointer (some ⟨(ν 9),0,none⟩))]) 13 7 [true,true,false] [false,true,true,true,false]
  ⟨Spec.wf_of (by kernel_rfl),dG (by kernel_rfl),bJ ⟨rfl,rfl,trivial⟩⟩ R3.out (Run.nodup R3.out) (by decide)
  (fun b hM=>aA (aA (aA (aA (aA (aA (aA (aA (aA (aA (aA (aA (aA bT
    (aD b))
    (aD b))
    (iF b m0))
    (aL b (kY hM rfl rfl rfl F2.out.1)))
    (aL b (c_of hM F2.out.2.1 F2.out.2.2 rfl rfl rfl rfl)))
    (aD b))
    (aD b))
    (iF b m0))
    (aL b (kY hM rfl rfl rfl F3.out.1)))
    (aL b (c_of hM F3.out.2.1 F3.out.2.2 rfl rfl rfl rfl)))
    (aD b))
    (cZ b m4))
    (eT b 4 m4)) ?_
 intro ν W4 hν hR;replace hR:Run (bs w) g 7 [((.root (.leaf (fl KK))),ν 2),((.leaf (fl (p0.tmod 20))),ν 4),((.add (.leaf (fl (p1.tmod 20))) (.root (.leaf (fl KK)))),ν 5),((.leaf (fl (q0.tmod 20))),ν 7),((.leaf (fl (q1.tmod 20))),ν 8)] [((ν 0),.cells #[(.int .i64 q0),(.int .i64 q1)] 22),((ν 1),.cells #[(.int .i64 o0),(.int .i64 o1)] 22),((ν 3),numO g (ν 2)),((ν 6),aV g (ν 4) (ν 5)),((ν 9),aV g (ν 7) (ν 8))] W4:=hR;have e0:ν 0=bq:=hν 0 rfl;have e1:ν 1=bo:=hν 1 rfl;have e2:ν 2=n2:=hν 2 rfl;have e3:ν 3=b3:=hν 3 rfl;have e4:ν 4=n4:=hν 4 rfl;have e5:ν 5=n7:=hν 5 rfl;have e6:ν 6=b8:=hν 6 rfl;simp only[e0,e1,e2,e3,e4,e5,e6]at hR|-;clear hν e0 e1 e2 e3 e4 e5 e6;generalize ν 7=n9 at hR|-;generalize ν 8=n10 at hR|-;generalize ν 9=b11 at hR|-;have R4:=hdd hR;clear hR R3;simp only[putL,beV,beW]
 go_upto_region 9 with fail
 refine Spec.run (S:=⟨_,fun i=>([.w (.c (.v (.pointer (some ⟨g,0,none⟩)))),.w (.c (.ptr 0 0)),.w (.c (.v (.int .i64 o0))),.w (.c (.v (.float .f64 (fl (o0.tmod 20))))),numS g 9,numS g 1,numS g 10,.w (.c (.v (.pointer (some ⟨g,0,none⟩)))),.w (.c (.ptr 0 1)),.w (.c (.v (.int .i64 o1))),.w (.c (.v (.float .f64 (fl (o1.tmod 20))))),numS g 11,aW g 10 11,.w (.c (.ptr 12 0)),noS]:List SV).getD i noS,fun n=>([none,none,none,none,none,none,none,none,none,some 4,some 6,some 11,some 13]:List (Option Nat)).getD n none,
  [(1,(.root (.leaf (fl KK)))),(3,(.leaf (fl (p0.tmod 20)))),(4,(.add (.leaf (fl (p1.tmod 20))) (.root (.leaf (fl KK))))),(6,(.leaf (fl (q0.tmod 20)))),(7,(.leaf (fl (q1.tmod 20)))),(9,(.leaf (fl (o0.tmod 20)))),(10,(.sub (.leaf (fl (o0.tmod 20))) (.root (.leaf (fl KK))))),(11,(.leaf (fl (o1.tmod 20))))],[⟨0,22,[.v (.int .i64 o0),.v (.int .i64 o1)],none⟩,⟨2,27,numC g 1,none⟩,⟨5,29,aX g 3 4,none⟩,⟨8,29,aX g 6 7,none⟩,⟨12,29,[.v (.pointer none),.v (.int .i64 0),.v (.pointer none),.v (.int .i64 0)],some (14,aX g 10 11)⟩],
  fun i=>([0,0,0,0,1,0,1,0,0,0,0,1,0,0,0]:List Nat).getD i 0,fun i=>([[],[],[1],[1,2],[0,1,2,3],[],[0,1,2,3,4,5],[],[],[8],[8,9],[7,8,9,10],[0,1,2,3,4,5,6,7,8,9,10,11],[],[0,1,2,3,4,5,6,7,8,9,10,11,12,13]]:List (List Nat)).getD i [],[(9,.w (.c (.v (.pointer (some ⟨g,0,none⟩))))),(6,.w (.c (.ptr 0 0))),(10,.w (.c (.ptr 2 0)))]⟩)
  (W:=runW (bs w) g) (ν0:=fun n=>([bo,n2,b3,n4,n7,b8,n9,n10,b11]:List Nat).getD n 0) (c0:=7)
  (fs:=fun ν=>[(64,.pointer (some ⟨g,0,none⟩)),(65,.pointer (some ⟨(ν 0),0,none⟩)),(66,(.int .i64 o0)),(67,(.float .f64 (fl (o0.tmod 20)))),(68,numV g (ν 9)),(69,numV g (ν 1)),(70,numV g (ν 10)),(71,.pointer (some ⟨g,0,none⟩)),(72,.pointer (some ⟨(ν 0),1,none⟩)),(73,(.int .i64 o1)),(74,(.float .f64 (fl (o1.tmod 20)))),(75,numV g (ν 11)),(76,aN g (ν 10) (ν 11)),(13,.pointer (some ⟨(ν 12),0,none⟩))]) 15 10 [] [false]
  ⟨Spec.wf_of (by kernel_rfl),dG (by kernel_rfl),bJ ⟨rfl,rfl,rfl,trivial⟩⟩ R4.out (Run.nodup R4.out) (by decide)
  (fun b hM=>aA (aA (aA (aA (aA (aA (aA (aA (aA (aA (aA (aA (aA (aA (aA bT
    (aD b))
    (aD b))
    (iF b m0))
    (aL b (kY hM rfl rfl rfl F4.out.1)))
    (aL b (c_of hM F4.out.2.1 F4.out.2.2 rfl rfl rfl rfl)))
    (aI b 2 m1))
    (aL b (qI hM m5 m0 rfl rfl rfl rfl rfl rfl)))
    (aD b))
    (aD b))
    (iF b m0))
    (aL b (kY hM rfl rfl rfl F5.out.1)))
    (aL b (c_of hM F5.out.2.1 F5.out.2.2 rfl rfl rfl rfl)))
    (aD b))
    (cZ b m4))
    (eT b 4 m4)) ?_
 intro ν W5 hν hR;replace hR:Run (bs w) g 10 [((.root (.leaf (fl KK))),ν 1),((.leaf (fl (p0.tmod 20))),ν 3),((.add (.leaf (fl (p1.tmod 20))) (.root (.leaf (fl KK)))),ν 4),((.leaf (fl (q0.tmod 20))),ν 6),((.leaf (fl (q1.tmod 20))),ν 7),((.leaf (fl (o0.tmod 20))),ν 9),((.sub (.leaf (fl (o0.tmod 20))) (.root (.leaf (fl KK)))),ν 10),((.leaf (fl (o1.tmod 20))),ν 11)] [((ν 0),.cells #[(.int .i64 o0),(.int .i64 o1)] 22),((ν 2),numO g (ν 1)),((ν 5),aV g (ν 3) (ν 4)),((ν 8),aV g (ν 6) (ν 7)),((ν 12),aV g (ν 10) (ν 11))] W5:=hR;have e0:ν 0=bo:=hν 0 rfl;have e1:ν 1=n2:=hν 1 rfl;have e2:ν 2=b3:=hν 2 rfl;have e3:ν 3=n4:=hν 3 rfl;have e4:ν 4=n7:=hν 4 rfl;have e5:ν 5=b8:=hν 5 rfl;have e6:ν 6=n9:=hν 6 rfl;have e7:ν 7=n10:=hν 7 rfl;have e8:ν 8=b11:=hν 8 rfl;simp only[e0,e1,e2,e3,e4,e5,e6,e7,e8]at hR|-;clear hν e0 e1 e2 e3 e4 e5 e6 e7 e8;generalize ν 9=n12 at hR|-;generalize ν 10=n13 at hR|-;generalize ν 11=n14 at hR|-;generalize ν 12=b15 at hR|-;have R5:=hdd hR;clear hR R4;simp only[putL,beV,beW]
 go_upto_region 10 with fail
 refine Spec.run (S:=⟨_,fun i=>([aW g 2 3,aW g 5 6,aW g 8 9,.tup [.c (.v (.int .i64 s)),.c (.v .nilIface)],.tup [.c (.v (.int .i64 s)),.c (.v .nilIface)],.w (.c (.v (.int .i64 s))),.w (.c (.v .nilIface)),.w (.c (.v (.int .i64 s))),.w (.c (.v .nilIface))]:List SV).getD i noS,fun n=>([none,none,none,none,none,none,none,none,none,none,none]:List (Option Nat)).getD n none,
  [(0,(.root (.leaf (fl KK)))),(2,(.leaf (fl (p0.tmod 20)))),(3,(.add (.leaf (fl (p1.tmod 20))) (.root (.leaf (fl KK))))),(5,(.leaf (fl (q0.tmod 20)))),(6,(.leaf (fl (q1.tmod 20)))),(8,(.sub (.leaf (fl (o0.tmod 20))) (.root (.leaf (fl KK))))),(9,(.leaf (fl (o1.tmod 20))))],[⟨1,27,numC g 0,none⟩,⟨4,29,aX g 2 3,none⟩,⟨7,29,aX g 5 6,none⟩,⟨10,29,aX g 8 9,none⟩],
  fun i=>([0,0,0,7,0,0,0,0,0]:List Nat).getD i 0,fun i=>([[],[],[],[0,1,2],[0,1,2,3],[0,1,2,3,4],[0,1,2,3,4],[0,1,2,3,4,5],[0,1,2,3,4,6]]:List (List Nat)).getD i [],[(11,.w (.c (.ptr 4 0))),(12,.w (.c (.ptr 7 0))),(13,.w (.c (.ptr 10 0)))]⟩)
  (W:=runW (bs w) g) (ν0:=fun n=>([n2,b3,n4,n7,b8,n9,n10,b11,n13,n14,b15]:List Nat).getD n 0) (c0:=10)
  (fs:=fun ν=>[(78,aN g (ν 2) (ν 3)),(79,aN g (ν 5) (ν 6)),(80,aN g (ν 8) (ν 9)),(81,.tuple #[(.int .i64 s),.nilIface]),(77,.tuple #[(.int .i64 s),.nilIface]),(82,(.int .i64 s)),(83,.nilIface),(14,(.int .i64 s)),(15,.nilIface)]) 9 17 [true,true,true,true,true,false] [false]
  ⟨Spec.wf_of (by kernel_rfl),dG (by kernel_rfl),bJ ⟨rfl,rfl,rfl,trivial⟩⟩ R5.out (Run.nodup R5.out) (by decide)
  (fun b hM=>aA (aA (aA (aA (aA (aA (aA (aA (aA bT
    (aI b 4 m1))
    (aI b 4 m2))
    (aI b 4 m3))
    (aL b (rE hM m1 m2 rfl rfl m3 m4 rfl rfl m5 m6 rfl rfl rfl rfl rfl TT.out.1)))
    (aD b))
    (aD b))
    (aD b))
    (aD b))
    (aD b)) ?_
 intro ν W6 hν hR;replace hR:Run (bs w) g 17 [((.root (.leaf (fl KK))),ν 0),((.leaf (fl (p0.tmod 20))),ν 2),((.add (.leaf (fl (p1.tmod 20))) (.root (.leaf (fl KK)))),ν 3),((.leaf (fl (q0.tmod 20))),ν 5),((.leaf (fl (q1.tmod 20))),ν 6),((.sub (.leaf (fl (o0.tmod 20))) (.root (.leaf (fl KK)))),ν 8),((.leaf (fl (o1.tmod 20))),ν 9)] [((ν 1),numO g (ν 0)),((ν 4),aV g (ν 2) (ν 3)),((ν 7),aV g (ν 5) (ν 6)),((ν 10),aV g (ν 8) (ν 9))] W6:=hR;have e0:ν 0=n2:=hν 0 rfl;have e1:ν 1=b3:=hν 1 rfl;have e2:ν 2=n4:=hν 2 rfl;have e3:ν 3=n7:=hν 3 rfl;have e4:ν 4=b8:=hν 4 rfl;have e5:ν 5=n9:=hν 5 rfl;have e6:ν 6=n10:=hν 6 rfl;have e7:ν 7=b11:=hν 7 rfl;have e8:ν 8=n13:=hν 8 rfl;have e9:ν 9=n14:=hν 9 rfl;have e10:ν 10=b15:=hν 10 rfl;simp only[e0,e1,e2,e3,e4,e5,e6,e7,e8,e9,e10]at hR|-;clear hν e0 e1 e2 e3 e4 e5 e6 e7 e8 e9 e10;have R6:=hdd hR;clear hR R5;simp only[putL,beV,beW]
 go_upto_region 11 with fail
 refine Spec.run (S:=⟨_,fun i=>([aW g 5 6,aW g 8 9,aW g 2 3,.tup [.c (.v (.int .i64 s)),.c (.v .nilIface)],.tup [.c (.v (.int .i64 s)),.c (.v .nilIface)],.w (.c (.v (.int .i64 s))),.w (.c (.v .nilIface)),.w (.c (.v (.int .i64 s))),.w (.c (.v .nilIface))]:List SV).getD i noS,fun n=>([none,none,none,none,none,none,none,none,none,none,none]:List (Option Nat)).getD n none,
  [(0,(.root (.leaf (fl KK)))),(2,(.leaf (fl (p0.tmod 20)))),(3,(.add (.leaf (fl (p1.tmod 20))) (.root (.leaf (fl KK))))),(5,(.leaf (fl (q0.tmod 20)))),(6,(.leaf (fl (q1.tmod 20)))),(8,(.sub (.leaf (fl (o0.tmod 20))) (.root (.leaf (fl KK))))),(9,(.leaf (fl (o1.tmod 20))))],[⟨1,27,numC g 0,none⟩,⟨4,29,aX g 2 3,none⟩,⟨7,29,aX g 5 6,none⟩,⟨10,29,aX g 8 9,none⟩],
  fun i=>([0,0,0,7,0,0,0,0,0]:List Nat).getD i 0,fun i=>([[],[],[],[0,1,2],[0,1,2,3],[0,1,2,3,4],[0,1,2,3,4],[0,1,2,3,4,5],[0,1,2,3,4,6]]:List (List Nat)).getD i [],[(12,.w (.c (.ptr 7 0))),(13,.w (.c (.ptr 10 0))),(11,.w (.c (.ptr 4 0)))]⟩)
  (W:=runW (bs w) g) (ν0:=fun n=>([n2,b3,n4,n7,b8,n9,n10,b11,n13,n14,b15]:List Nat).getD n 0) (c0:=17)
  (fs:=fun ν=>[(85,aN g (ν 5) (ν 6)),(86,aN g (ν 8) (ν 9)),(87,aN g (ν 2) (ν 3)),(88,.tuple #[(.int .i64 s),.nilIface]),(84,.tuple #[(.int .i64 s),.nilIface]),(89,(.int .i64 s)),(90,.nilIface),(16,(.int .i64 s)),(17,.nilIface)]) 9 24 [] []
  ⟨Spec.wf_of (by kernel_rfl),dG (by kernel_rfl),bJ ⟨rfl,rfl,rfl,trivial⟩⟩ R6.out (Run.nodup R6.out) (by decide)
  (fun b hM=>aA (aA (aA (aA (aA (aA (aA (aA (aA bT
    (aI b 4 m2))
    (aI b 4 m3))
    (aI b 4 m1))
    (aL b (rE hM m3 m4 rfl rfl m5 m6 rfl rfl m1 m2 rfl rfl rfl rfl rfl TT.out.2.1)))
    (aD b))
    (aD b))
    (aD b))
    (aD b))
    (aD b)) ?_
 intro ν W7 hν hR;replace hR:Run (bs w) g 24 [((.root (.leaf (fl KK))),ν 0),((.leaf (fl (p0.tmod 20))),ν 2),((.add (.leaf (fl (p1.tmod 20))) (.root (.leaf (fl KK)))),ν 3),((.leaf (fl (q0.tmod 20))),ν 5),((.leaf (fl (q1.tmod 20))),ν 6),((.sub (.leaf (fl (o0.tmod 20))) (.root (.leaf (fl KK)))),ν 8),((.leaf (fl (o1.tmod 20))),ν 9)] [((ν 1),numO g (ν 0)),((ν 4),aV g (ν 2) (ν 3)),((ν 7),aV g (ν 5) (ν 6)),((ν 10),aV g (ν 8) (ν 9))] W7:=hR;have e0:ν 0=n2:=hν 0 rfl;have e1:ν 1=b3:=hν 1 rfl;have e2:ν 2=n4:=hν 2 rfl;have e3:ν 3=n7:=hν 3 rfl;have e4:ν 4=b8:=hν 4 rfl;have e5:ν 5=n9:=hν 5 rfl;have e6:ν 6=n10:=hν 6 rfl;have e7:ν 7=b11:=hν 7 rfl;have e8:ν 8=n13:=hν 8 rfl;have e9:ν 9=n14:=hν 9 rfl;have e10:ν 10=b15:=hν 10 rfl;simp only[e0,e1,e2,e3,e4,e5,e6,e7,e8,e9,e10]at hR|-;clear hν e0 e1 e2 e3 e4 e5 e6 e7 e8 e9 e10;have R7:=hdd hR;clear hR R6;simp only[putL,beV,beW]
 go_upto_region 12 with fail
 refine Spec.run (S:=⟨_,fun i=>([aW g 5 6,aW g 2 3,aW g 8 9,.tup [.c (.v (.int .i64 (-s))),.c (.v .nilIface)],.tup [.c (.v (.int .i64 (-s))),.c (.v .nilIface)],.w (.c (.v (.int .i64 (-s)))),.w (.c (.v .nilIface)),.w (.c (.v (.int .i64 (-s)))),.w (.c (.v .nilIface))]:List SV).getD i noS,fun n=>([none,none,none,none,none,none,none,none,none,none,none]:List (Option Nat)).getD n none,
  [(0,(.root (.leaf (fl KK)))),(2,(.leaf (fl (p0.tmod 20)))),(3,(.add (.leaf (fl (p1.tmod 20))) (.root (.leaf (fl KK))))),(5,(.leaf (fl (q0.tmod 20)))),(6,(.leaf (fl (q1.tmod 20)))),(8,(.sub (.leaf (fl (o0.tmod 20))) (.root (.leaf (fl KK))))),(9,(.leaf (fl (o1.tmod 20))))],[⟨1,27,numC g 0,none⟩,⟨4,29,aX g 2 3,none⟩,⟨7,29,aX g 5 6,none⟩,⟨10,29,aX g 8 9,none⟩],
  fun i=>([0,0,0,7,0,0,0,0,0]:List Nat).getD i 0,fun i=>([[],[],[],[0,1,2],[0,1,2,3],[0,1,2,3,4],[0,1,2,3,4],[0,1,2,3,4,5],[0,1,2,3,4,6]]:List (List Nat)).getD i [],[(12,.w (.c (.ptr 7 0))),(11,.w (.c (.ptr 4 0))),(13,.w (.c (.ptr 10 0)))]⟩)
  (W:=runW (bs w) g) (ν0:=fun n=>([n2,b3,n4,n7,b8,n9,n10,b11,n13,n14,b15]:List Nat).getD n 0) (c0:=24)
  (fs:=fun ν=>[(92,aN g (ν 5) (ν 6)),(93,aN g (ν 2) (ν 3)),(94,aN g (ν 8) (ν 9)),(95,.tuple #[(.int .i64 (-s)),.nilIface]),(91,.tuple #[(.int .i64 (-s)),.nilIface]),(96,(.int .i64 (-s))),(97,.nilIface),(18,(.int .i64 (-s))),(19,.nilIface)]) 9 31 [] []
  ⟨Spec.wf_of (by kernel_rfl),dG (by kernel_rfl),bJ ⟨rfl,rfl,rfl,trivial⟩⟩ R7.out (Run.nodup R7.out) (by decide)
  (fun b hM=>aA (aA (aA (aA (aA (aA (aA (aA (aA bT
    (aI b 4 m2))
    (aI b 4 m1))
    (aI b 4 m3))
    (aL b (rE hM m3 m4 rfl rfl m1 m2 rfl rfl m5 m6 rfl rfl rfl rfl rfl TT.out.2.2.1)))
    (aD b))
    (aD b))
    (aD b))
    (aD b))
    (aD b)) ?_
 intro ν W8 hν hR;replace hR:Run (bs w) g 31 [((.root (.leaf (fl KK))),ν 0),((.leaf (fl (p0.tmod 20))),ν 2),((.add (.leaf (fl (p1.tmod 20))) (.root (.leaf (fl KK)))),ν 3),((.leaf (fl (q0.tmod 20))),ν 5),((.leaf (fl (q1.tmod 20))),ν 6),((.sub (.leaf (fl (o0.tmod 20))) (.root (.leaf (fl KK)))),ν 8),((.leaf (fl (o1.tmod 20))),ν 9)] [((ν 1),numO g (ν 0)),((ν 4),aV g (ν 2) (ν 3)),((ν 7),aV g (ν 5) (ν 6)),((ν 10),aV g (ν 8) (ν 9))] W8:=hR;have e0:ν 0=n2:=hν 0 rfl;have e1:ν 1=b3:=hν 1 rfl;have e2:ν 2=n4:=hν 2 rfl;have e3:ν 3=n7:=hν 3 rfl;have e4:ν 4=b8:=hν 4 rfl;have e5:ν 5=n9:=hν 5 rfl;have e6:ν 6=n10:=hν 6 rfl;have e7:ν 7=b11:=hν 7 rfl;have e8:ν 8=n13:=hν 8 rfl;have e9:ν 9=n14:=hν 9 rfl;have e10:ν 10=b15:=hν 10 rfl;simp only[e0,e1,e2,e3,e4,e5,e6,e7,e8,e9,e10]at hR|-;clear hν e0 e1 e2 e3 e4 e5 e6 e7 e8 e9 e10;have R8:=hdd hR;clear hR R7;simp only[putL,beV,beW]
 go_upto_region 13 with fail
 refine Spec.run (S:=⟨_,fun i=>([aW g 2 3,aW g 5 6,aW g 2 3,aW g 5 6,aW g 11 12,.tup [.c (.v (.int .i64 0)),.c (.v .nilIface)],.tup [.c (.v (.int .i64 0)),.c (.v .nilIface)],.w (.c (.v (.int .i64 0))),.w (.c (.v .nilIface)),.w (.c (.v (.int .i64 0))),.w (.c (.v .nilIface))]:List SV).getD i noS,fun n=>([none,none,none,none,none,none,none,none,none,none,none,some 4,some 4]:List (Option Nat)).getD n none,
  [(0,(.root (.leaf (fl KK)))),(2,(.leaf (fl (p0.tmod 20)))),(3,(.add (.leaf (fl (p1.tmod 20))) (.root (.leaf (fl KK))))),(5,(.leaf (fl (q0.tmod 20)))),(6,(.leaf (fl (q1.tmod 20)))),(8,(.sub (.leaf (fl (o0.tmod 20))) (.root (.leaf (fl KK))))),(9,(.leaf (fl (o1.tmod 20)))),(11,(midE (.leaf (fl (p0.tmod 20))) (.leaf (fl (q0.tmod 20))))),(12,(midE (.add (.leaf (fl (p1.tmod 20))) (.root (.leaf (fl KK)))) (.leaf (fl (q1.tmod 20)))))],[⟨1,27,numC g 0,none⟩,⟨4,29,aX g 2 3,none⟩,⟨7,29,aX g 5 6,none⟩,⟨10,29,aX g 8 9,none⟩],
  fun i=>([0,0,0,0,6,7,0,0,0,0,0]:List Nat).getD i 0,fun i=>([[],[],[],[],[2,3],[0,1,2,3,4],[0,1,2,3,4,5],[0,1,2,3,4,5,6],[0,1,2,3,4,5,6],[0,1,2,3,4,5,6,7],[0,1,2,3,4,5,6,8]]:List (List Nat)).getD i [],[(11,.w (.c (.ptr 4 0))),(12,.w (.c (.ptr 7 0)))]⟩)
  (W:=runW (bs w) g) (ν0:=fun n=>([n2,b3,n4,n7,b8,n9,n10,b11,n13,n14,b15]:List Nat).getD n 0) (c0:=31)
  (fs:=fun ν=>[(99,aN g (ν 2) (ν 3)),(100,aN g (ν 5) (ν 6)),(101,aN g (ν 2) (ν 3)),(102,aN g (ν 5) (ν 6)),(103,aN g (ν 11) (ν 12)),(104,.tuple #[(.int .i64 0),.nilIface]),(98,.tuple #[(.int .i64 0),.nilIface]),(105,(.int .i64 0)),(106,.nilIface),(20,(.int .i64 0)),(21,.nilIface)]) 11 44 [] []
  ⟨Spec.wf_of (by kernel_rfl),dG (by kernel_rfl),bJ ⟨rfl,rfl,trivial⟩⟩ R8.out (Run.nodup R8.out) (by decide)
  (fun b hM=>aA (aA (aA (aA (aA (aA (aA (aA (aA (aA (aA bT
    (aI b 4 m1))
    (aI b 4 m2))
    (aI b 4 m1))
    (aI b 4 m2))
    (aL b (abS hM m1 m2 rfl rfl m3 m4 rfl rfl rfl rfl rfl rfl (by decide) rfl)))
    (aL b (rE hM m1 m2 rfl rfl m3 m4 rfl rfl m7 m8 rfl rfl rfl rfl rfl TT.out.2.2.2.1)))
    (aD b))
    (aD b))
    (aD b))
    (aD b))
    (aD b)) ?_
 intro ν W9 hν hR;replace hR:Run (bs w) g 44 [((.root (.leaf (fl KK))),ν 0),((.leaf (fl (p0.tmod 20))),ν 2),((.add (.leaf (fl (p1.tmod 20))) (.root (.leaf (fl KK)))),ν 3),((.leaf (fl (q0.tmod 20))),ν 5),((.leaf (fl (q1.tmod 20))),ν 6),((.sub (.leaf (fl (o0.tmod 20))) (.root (.leaf (fl KK)))),ν 8),((.leaf (fl (o1.tmod 20))),ν 9),((midE (.leaf (fl (p0.tmod 20))) (.leaf (fl (q0.tmod 20)))),ν 11),((midE (.add (.leaf (fl (p1.tmod 20))) (.root (.leaf (fl KK)))) (.leaf (fl (q1.tmod 20)))),ν 12)] [((ν 1),numO g (ν 0)),((ν 4),aV g (ν 2) (ν 3)),((ν 7),aV g (ν 5) (ν 6)),((ν 10),aV g (ν 8) (ν 9))] W9:=hR;have e0:ν 0=n2:=hν 0 rfl;have e1:ν 1=b3:=hν 1 rfl;have e2:ν 2=n4:=hν 2 rfl;have e3:ν 3=n7:=hν 3 rfl;have e4:ν 4=b8:=hν 4 rfl;have e5:ν 5=n9:=hν 5 rfl;have e6:ν 6=n10:=hν 6 rfl;have e7:ν 7=b11:=hν 7 rfl;have e8:ν 8=n13:=hν 8 rfl;have e9:ν 9=n14:=hν 9 rfl;have e10:ν 10=b15:=hν 10 rfl;simp only[e0,e1,e2,e3,e4,e5,e6,e7,e8,e9,e10]at hR|-;clear hν e0 e1 e2 e3 e4 e5 e6 e7 e8 e9 e10;generalize ν 11=n16 at hR|-
 generalize ν 12=n17 at hR|-;have R9:=hdd hR;clear hR R8;simp only[putL,beV,beW]
 go_upto_region 14 with fail
 refine Spec.run (S:=⟨_,fun i=>([aW g 2 3,aW g 2 3,aW g 8 9,.tup [.c (.v (.int .i64 0)),.c (.v .nilIface)],.tup [.c (.v (.int .i64 0)),.c (.v .nilIface)],.w (.c (.v (.int .i64 0))),.w (.c (.v .nilIface)),.w (.c (.v (.int .i64 0))),.w (.c (.v .nilIface))]:List SV).getD i noS,fun n=>([none,none,none,none,none,none,none,none,none,none,none]:List (Option Nat)).getD n none,
  [(0,(.root (.leaf (fl KK)))),(2,(.leaf (fl (p0.tmod 20)))),(3,(.add (.leaf (fl (p1.tmod 20))) (.root (.leaf (fl KK))))),(5,(.leaf (fl (q0.tmod 20)))),(6,(.leaf (fl (q1.tmod 20)))),(8,(.sub (.leaf (fl (o0.tmod 20))) (.root (.leaf (fl KK))))),(9,(.leaf (fl (o1.tmod 20))))],[⟨1,27,numC g 0,none⟩,⟨4,29,aX g 2 3,none⟩,⟨7,29,aX g 5 6,none⟩,⟨10,29,aX g 8 9,none⟩],
  fun i=>([0,0,0,7,0,0,0,0,0]:List Nat).getD i 0,fun i=>([[],[],[],[0,1,2],[0,1,2,3],[0,1,2,3,4],[0,1,2,3,4],[0,1,2,3,4,5],[0,1,2,3,4,6]]:List (List Nat)).getD i [],[(11,.w (.c (.ptr 4 0))),(13,.w (.c (.ptr 10 0)))]⟩)
  (W:=runW (bs w) g) (ν0:=fun n=>([n2,b3,n4,n7,b8,n9,n10,b11,n13,n14,b15]:List Nat).getD n 0) (c0:=44)
  (fs:=fun ν=>[(108,aN g (ν 2) (ν 3)),(109,aN g (ν 2) (ν 3)),(110,aN g (ν 8) (ν 9)),(111,.tuple #[(.int .i64 0),.nilIface]),(107,.tuple #[(.int .i64 0),.nilIface]),(112,(.int .i64 0)),(113,.nilIface),(22,(.int .i64 0)),(23,.nilIface)]) 9 51 [true,true,true,true,true,true,true,false,false] []
  ⟨Spec.wf_of (by kernel_rfl),dG (by kernel_rfl),bJ ⟨rfl,rfl,trivial⟩⟩ R9.out (Run.nodup R9.out) (by decide)
  (fun b hM=>aA (aA (aA (aA (aA (aA (aA (aA (aA bT
    (aI b 4 m1))
    (aI b 4 m1))
    (aI b 4 m3))
    (aL b (rE hM m1 m2 rfl rfl m1 m2 rfl rfl m5 m6 rfl rfl rfl rfl rfl TT.out.2.2.2.2.1)))
    (aD b))
    (aD b))
    (aD b))
    (aD b))
    (aD b)) ?_
 intro ν W10 hν hR;replace hR:Run (bs w) g 51 [((.root (.leaf (fl KK))),ν 0),((.leaf (fl (p0.tmod 20))),ν 2),((.add (.leaf (fl (p1.tmod 20))) (.root (.leaf (fl KK)))),ν 3),((.leaf (fl (q0.tmod 20))),ν 5),((.leaf (fl (q1.tmod 20))),ν 6),((.sub (.leaf (fl (o0.tmod 20))) (.root (.leaf (fl KK)))),ν 8),((.leaf (fl (o1.tmod 20))),ν 9)] [((ν 1),numO g (ν 0)),((ν 4),aV g (ν 2) (ν 3)),((ν 7),aV g (ν 5) (ν 6)),((ν 10),aV g (ν 8) (ν 9))] W10:=hR;have e0:ν 0=n2:=hν 0 rfl;have e1:ν 1=b3:=hν 1 rfl;have e2:ν 2=n4:=hν 2 rfl;have e3:ν 3=n7:=hν 3 rfl;have e4:ν 4=b8:=hν 4 rfl;have e5:ν 5=n9:=hν 5 rfl;have e6:ν 6=n10:=hν 6 rfl;have e7:ν 7=b11:=hν 7 rfl;have e8:ν 8=n13:=hν 8 rfl;have e9:ν 9=n14:=hν 9 rfl;have e10:ν 10=b15:=hν 10 rfl;simp only[e0,e1,e2,e3,e4,e5,e6,e7,e8,e9,e10]at hR|-;clear hν e0 e1 e2 e3 e4 e5 e6 e7 e8 e9 e10;have R10:=hdd hR;clear hR R9;simp only[putL,beV,beW]
 go_upto_region 15 with fail
 refine Spec.run (S:=⟨_,fun i=>([aW g 2 3,numS g 0,aW g 11 12,aW g 5 6,numS g 0,aW g 13 14,aW g 8 9,numS g 0,aW g 15 16,.tup [.c (.v (.int .i64 s)),.c (.v .nilIface)],.tup [.c (.v (.int .i64 s)),.c (.v .nilIface)],.w (.c (.v (.int .i64 s))),.w (.c (.v .nilIface)),.w (.c (.v (.int .i64 s))),.w (.c (.v .nilIface))]:List SV).getD i noS,fun n=>([none,none,none,none,none,none,none,none,none,none,none,some 2,some 2,some 5,some 5,some 8,some 8]:List (Option Nat)).getD n none,
  [(0,(.root (.leaf (fl KK)))),(2,(.leaf (fl (p0.tmod 20)))),(3,(.add (.leaf (fl (p1.tmod 20))) (.root (.leaf (fl KK))))),(5,(.leaf (fl (q0.tmod 20)))),(6,(.leaf (fl (q1.tmod 20)))),(8,(.sub (.leaf (fl (o0.tmod 20))) (.root (.leaf (fl KK))))),(9,(.leaf (fl (o1.tmod 20)))),(11,(.add (.leaf (fl (p0.tmod 20))) (.root (.leaf (fl KK))))),(12,(.sub (.add (.leaf (fl (p1.tmod 20))) (.root (.leaf (fl KK)))) (.root (.leaf (fl KK))))),(13,(.add (.leaf (fl (q0.tmod 20))) (.root (.leaf (fl KK))))),(14,(.sub (.leaf (fl (q1.tmod 20))) (.root (.leaf (fl KK))))),(15,(.add (.sub (.leaf (fl (o0.tmod 20))) (.root (.leaf (fl KK)))) (.root (.leaf (fl KK))))),(16,(.sub (.leaf (fl (o1.tmod 20))) (.root (.leaf (fl KK)))))],[⟨1,27,numC g 0,none⟩,⟨4,29,aX g 2 3,none⟩,⟨7,29,aX g 5 6,none⟩,⟨10,29,aX g 8 9,none⟩],
  fun i=>([0,0,2,0,0,2,0,0,2,7,0,0,0,0,0]:List Nat).getD i 0,fun i=>([[],[],[0,1],[],[],[3,4],[],[],[6,7],[0,1,2,3,4,5,6,7,8],[0,1,2,3,4,5,6,7,8,9],[0,1,2,3,4,5,6,7,8,9,10],[0,1,2,3,4,5,6,7,8,9,10],[0,1,2,3,4,5,6,7,8,9,10,11],[0,1,2,3,4,5,6,7,8,9,10,12]]:List (List Nat)).getD i [],[(11,.w (.c (.ptr 4 0))),(10,.w (.c (.ptr 1 0))),(12,.w (.c (.ptr 7 0))),(13,.w (.c (.ptr 10 0)))]⟩)
  (W:=runW (bs w) g) (ν0:=fun n=>([n2,b3,n4,n7,b8,n9,n10,b11,n13,n14,b15]:List Nat).getD n 0) (c0:=51)
  (fs:=fun ν=>[(115,aN g (ν 2) (ν 3)),(116,numV g (ν 0)),(117,aN g (ν 11) (ν 12)),(118,aN g (ν 5) (ν 6)),(119,numV g (ν 0)),(120,aN g (ν 13) (ν 14)),(121,aN g (ν 8) (ν 9)),(122,numV g (ν 0)),(123,aN g (ν 15) (ν 16)),(124,.tuple #[(.int .i64 s),.nilIface]),(114,.tuple #[(.int .i64 s),.nilIface]),(125,(.int .i64 s)),(126,.nilIface),(24,(.int .i64 s)),(25,.nilIface)]) 15 64 [] []
  ⟨Spec.wf_of (by kernel_rfl),dG (by kernel_rfl),bJ ⟨rfl,rfl,rfl,rfl,trivial⟩⟩ R10.out (Run.nodup R10.out) (by decide)
  (fun b hM=>aA (aA (aA (aA (aA (aA (aA (aA (aA (aA (aA (aA (aA (aA (aA bT
    (aI b 4 m1))
    (aI b 2 m0))
    (aL b (zK hM m1 m2 rfl rfl m0 rfl rfl rfl rfl rfl (by decide) rfl)))
    (aI b 4 m2))
    (aI b 2 m0))
    (aL b (zK hM m3 m4 rfl rfl m0 rfl rfl rfl rfl rfl (by decide) rfl)))
    (aI b 4 m3))
    (aI b 2 m0))
    (aL b (zK hM m5 m6 rfl rfl m0 rfl rfl rfl rfl rfl (by decide) rfl)))
    (aL b (rE hM m7 m8 rfl rfl m9 m10 rfl rfl m11 m12 rfl rfl rfl rfl rfl TT.out.2.2.2.2.2)))
    (aD b))
    (aD b))
    (aD b))
    (aD b))
    (aD b)) ?_
 intro ν W11 hν hR;replace hR:Run (bs w) g 64 [((.root (.leaf (fl KK))),ν 0),((.leaf (fl (p0.tmod 20))),ν 2),((.add (.leaf (fl (p1.tmod 20))) (.root (.leaf (fl KK)))),ν 3),((.leaf (fl (q0.tmod 20))),ν 5),((.leaf (fl (q1.tmod 20))),ν 6),((.sub (.leaf (fl (o0.tmod 20))) (.root (.leaf (fl KK)))),ν 8),((.leaf (fl (o1.tmod 20))),ν 9),((.add (.leaf (fl (p0.tmod 20))) (.root (.leaf (fl KK)))),ν 11),((.sub (.add (.leaf (fl (p1.tmod 20))) (.root (.leaf (fl KK)))) (.root (.leaf (fl KK)))),ν 12),((.add (.leaf (fl (q0.tmod 20))) (.root (.leaf (fl KK)))),ν 13),((.sub (.leaf (fl (q1.tmod 20))) (.root (.leaf (fl KK)))),ν 14),((.add (.sub (.leaf (fl (o0.tmod 20))) (.root (.leaf (fl KK)))) (.root (.leaf (fl KK)))),ν 15),((.sub (.leaf (fl (o1.tmod 20))) (.root (.leaf (fl KK)))),ν 16)] [((ν 1),numO g (ν 0)),((ν 4),aV g (ν 2) (ν 3)),((ν 7),aV g (ν 5) (ν 6)),((ν 10),aV g (ν 8) (ν 9))] W11:=hR;have e0:ν 0=n2:=hν 0 rfl;have e1:ν 1=b3:=hν 1 rfl;have e2:ν 2=n4:=hν 2 rfl;have e3:ν 3=n7:=hν 3 rfl;have e4:ν 4=b8:=hν 4 rfl
 have e5:ν 5=n9:=hν 5 rfl;have e6:ν 6=n10:=hν 6 rfl;have e7:ν 7=b11:=hν 7 rfl;have e8:ν 8=n13:=hν 8 rfl;have e9:ν 9=n14:=hν 9 rfl;have e10:ν 10=b15:=hν 10 rfl;simp only[e0,e1,e2,e3,e4,e5,e6,e7,e8,e9,e10]at hR|-;clear hν e0 e1 e2 e3 e4 e5 e6 e7 e8 e9 e10;generalize ν 11=n18 at hR|-;generalize ν 12=n19 at hR|-;generalize ν 13=n20 at hR|-;generalize ν 14=n21 at hR|-;generalize ν 15=n22 at hR|-;generalize ν 16=n23 at hR|-;have R11:=hdd hR;clear hR R10;simp only[putL,beV,beW];have HB:=hdd R11.out.below;clear R11;rcases hs3.out with rfl|rfl|rfl
 all_goals
  go_wp2;go_ret;exact⟨rfl,HB.out⟩
end Go.Proofs.YtgodkfgnhpnhcaaGreatDoor
