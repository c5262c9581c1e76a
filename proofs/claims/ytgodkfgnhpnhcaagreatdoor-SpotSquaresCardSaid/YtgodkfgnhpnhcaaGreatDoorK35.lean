/- A part of the proof: contracts of functions and plain laws (SqW). -/
import Derived.Test.YtgodkfgnhpnhcaaGreatDoorK34
set_option linter.unusedVariables false
set_option linter.unusedSimpArgs false
set_option maxHeartbeats 25600000
set_option maxRecDepth 100000
namespace Go.Proofs.YtgodkfgnhpnhcaaGreatDoor
open Go.RowKit Go.Maps
open List renaming setIfInBounds_toArray->beT,set->beU
theorem rG{w:World}{p0 p1 q0 q1:Int}(hT:Tab w)(htb:1<w.heap.size):
 Calls Tryz.prog 3 #[.agg #[.int .i64 p0,.int .i64 p1],.agg #[.int .i64 q0,.int .i64 q1]] w (RetV w (.bool true)):=by
 obtain⟨w2,hw2,hb2,hs2,b1,b2⟩:=pro2 w (.cells #[.int .i64 p0,.int .i64 p1] 22) (.cells #[.int .i64 q0,.int .i64 q1] 22);have HA:=hdd (aeB (hT.below hb2) (Nat.lt_of_lt_of_le htb hb2.size));have HT:=hdd (And.intro hT htb);have HB2:=hdd hb2;have HK:Hid (∀w3,Below w2.heap.size w2 w3->∀p∈[(w.heap.size,(.cells #[.int .i64 p0,.int .i64 p1] 22:Obj)),(w.heap.size+1,.cells #[.int .i64 q0,.int .i64 q1] 22)],w3.heap[p.1]? =some p.2/\w.heap.size<=p.1):=hdd fun w3 h p hp=>by
  simp only[List.mem_cons,List.not_mem_nil,or_false]at hp;rcases hp with rfl|rfl
  . exact⟨hbl b1 h,Nat.le_refl _⟩
  . exact⟨hbl b2 h,Nat.le_add_right _ _⟩
 obtain⟨x0,f0⟩:=tO p0;obtain⟨x1,f1⟩:=tO p1;obtain⟨y0,f2⟩:=tO q0;obtain⟨y1,f3⟩:=tO q1;have r0:RatE (.leaf x0) ((p0.tmod 30:Int):Rat) 1:=IntE.leaf f0.2.1 f0.2.2.1 f0.2.2.2.1 (by omega);have r1:RatE (.leaf x1) ((p1.tmod 30:Int):Rat) 1:=IntE.leaf f1.2.1 f1.2.2.1 f1.2.2.2.1 (by omega);have r2:RatE (.leaf y0) ((q0.tmod 30:Int):Rat) 1:=IntE.leaf f2.2.1 f2.2.2.1 f2.2.2.2.1 (by omega);have r3:RatE (.leaf y1) ((q1.tmod 30:Int):Rat) 1:=IntE.leaf f3.2.1 f3.2.2.1 f3.2.2.2.1 (by omega);have Q1:=hdd (alQ r0 r1);have Q2:=hdd (alR r0 r1 r2 r3);have Q3:=hdd (ajT r0 r1 r2 r3);have Q4:=hdd (alS r0 r1 r2 r3);have F0:=hdd f0;have F1:=hdd f1;have F2:=hdd f2;have F3:=hdd f3;clear hT htb hb2 hs2 b1 b2 f0 f1 f2 f3 r0 r1 r2 r3;go_enter Tryz.func3,Tryz.ntmps3
 go_wp2_with fail
 refine HA.out.mono ?_;rintro e w3⟨rfl,hb3⟩;have HN:=hdd (zJ (w0:=w) (aB HB2.out hb3) (HK.out w3 hb3) (by simp) HT.out.1 HT.out.2);clear hb3 HK HA;go_wp2_with fail
 refine HN.out.mono ?_;rintro e W1⟨g,rfl,hR⟩;have R1:=hdd hR;clear hR HN;dsimp only;generalize w.heap.size+1=bq at R1|-
 go_upto_region 6 with fail
 refine Spec.run (S:=⟨_,fun i=>([.w (.c (.v (.pointer (some ⟨g,0,none⟩)))),.w (.c (.ptr 0 0)),.w (.c (.v (.int .i64 p0))),.w (.c (.v (.float .f64 x0))),.w (.c (.ptr 0 1)),.w (.c (.v (.int .i64 p1))),.w (.c (.v (.float .f64 x1))),aW g 2 3,.w (.c (.v (.pointer (some ⟨g,0,none⟩)))),.w (.c (.ptr 1 0)),.w (.c (.v (.int .i64 q0))),.w (.c (.v (.float .f64 y0))),.w (.c (.ptr 1 1)),.w (.c (.v (.int .i64 q1))),.w (.c (.v (.float .f64 y1))),aW g 4 5,.w (.c (.ptr 6 0)),.w (.c (.ptr 7 0)),noS,noS]:List SV).getD i noS,fun n=>([none,none,some 7,some 7,some 15,some 15,some 16,some 17]:List (Option Nat)).getD n none,
  [(2,(.leaf x0)),(3,(.leaf x1)),(4,(.leaf y0)),(5,(.leaf y1))],[⟨0,22,[.v (.int .i64 p0),.v (.int .i64 p1)],none⟩,⟨1,22,[.v (.int .i64 q0),.v (.int .i64 q1)],none⟩,⟨6,29,[.v (.pointer none),.v (.int .i64 0),.v (.pointer none),.v (.int .i64 0)],some (18,aX g 2 3)⟩,⟨7,29,[.v (.pointer none),.v (.int .i64 0),.v (.pointer none),.v (.int .i64 0)],some (19,aX g 4 5)⟩],
  fun i=>([0,0,0,0,0,0,0,2,0,0,0,0,0,0,0,2,0,0,0,0]:List Nat).getD i 0,fun i=>([[],[],[1],[1,2],[],[4],[4,5],[0,1,2,3,4,5,6],[],[],[9],[9,10],[],[12],[12,13],[8,9,10,11,12,13,14],[],[],[0,1,2,3,4,5,6,7,8,9,10,11,12,13,14,15,16,17],[0,1,2,3,4,5,6,7,8,9,10,11,12,13,14,15,16,17,18]]:List (List Nat)).getD i [],[(5,.w (.c (.v (.pointer (some ⟨g,0,none⟩))))),(2,.w (.c (.ptr 0 0))),(3,.w (.c (.ptr 1 0)))]⟩)
  (W:=runW (bs w) g) (ν0:=fun n=>([w.heap.size,bq]:List Nat).getD n 0) (c0:=0)
  (fs:=fun ν=>[(22,.pointer (some ⟨g,0,none⟩)),(23,.pointer (some ⟨(ν 0),0,none⟩)),(24,(.int .i64 p0)),(25,(.float .f64 x0)),(26,.pointer (some ⟨(ν 0),1,none⟩)),(27,(.int .i64 p1)),(28,(.float .f64 x1)),(29,aN g (ν 2) (ν 3)),(30,.pointer (some ⟨g,0,none⟩)),(31,.pointer (some ⟨(ν 1),0,none⟩)),(32,(.int .i64 q0)),(33,(.float .f64 y0)),(34,.pointer (some ⟨(ν 1),1,none⟩)),(35,(.int .i64 q1)),(36,(.float .f64 y1)),(37,aN g (ν 4) (ν 5)),(6,.pointer (some ⟨(ν 6),0,none⟩)),(7,.pointer (some ⟨(ν 7),0,none⟩))]) 20 4 [] []
  ⟨Spec.wf_of (by kernel_rfl),dG (by kernel_rfl),bJ ⟨rfl,rfl,rfl,trivial⟩⟩ R1.out (Run.nodup R1.out) (by decide)
  (fun b hM=>aA (aA (aA (aA (aA (aA (aA (aA (aA (aA (aA (aA (aA (aA (aA (aA (aA (aA (aA (aA bT
    (aD b))
    (aD b))
    (iF b m0))
    (aL b (kY hM rfl rfl rfl F0.out.1)))
    (aD b))
    (iF b m0))
    (aL b (kY hM rfl rfl rfl F1.out.1)))
    (aL b (c_at hM F0.out.2.1 F1.out.2.1 F0.out.2.2.1 F1.out.2.2.1 rfl rfl rfl rfl (by decide) rfl)))
    (aD b))
    (aD b))
    (iF b m1))
    (aL b (kY hM rfl rfl rfl F2.out.1)))
    (aD b))
    (iF b m1))
    (aL b (kY hM rfl rfl rfl F3.out.1)))
    (aL b (c_at hM F2.out.2.1 F3.out.2.1 F2.out.2.2.1 F3.out.2.2.1 rfl rfl rfl rfl (by decide) rfl)))
    (cZ b m2))
    (cZ b m3))
    (eT b 4 m2))
    (eT b 4 m3)) ?_
 intro ν W2 hν hR;replace hR:Run (bs w) g 4 [((.leaf x0),ν 2),((.leaf x1),ν 3),((.leaf y0),ν 4),((.leaf y1),ν 5)] [((ν 0),.cells #[(.int .i64 p0),(.int .i64 p1)] 22),((ν 1),.cells #[(.int .i64 q0),(.int .i64 q1)] 22),((ν 6),aV g (ν 2) (ν 3)),((ν 7),aV g (ν 4) (ν 5))] W2:=hR;have e0:ν 0=w.heap.size:=hν 0 rfl;have e1:ν 1=bq:=hν 1 rfl;simp only[e0,e1]at hR|-;clear hν e0 e1;generalize ν 2=n1 at hR|-;generalize ν 3=n2 at hR|-;generalize ν 4=n3 at hR|-;generalize ν 5=n4 at hR|-;generalize ν 6=b5 at hR|-;generalize ν 7=b6 at hR|-;have R2:=hdd hR;clear hR R1;simp only[putL,beT,beU]
 go_upto_region 7 with fail
 refine Spec.run (S:=⟨_,fun i=>([.w (.c (.ptr 4 0)),numS g 0,.w (.c (.ptr 5 2)),numS g 3,aW g 0 3,.w (.c (.ptr 6 0)),noS]:List SV).getD i noS,fun n=>([none,none,none,none,none,none,some 5]:List (Option Nat)).getD n none,
  [(0,(.leaf x0)),(1,(.leaf x1)),(2,(.leaf y0)),(3,(.leaf y1))],[⟨4,29,aX g 0 1,none⟩,⟨5,29,aX g 2 3,none⟩,⟨6,29,[.v (.pointer none),.v (.int .i64 0),.v (.pointer none),.v (.int .i64 0)],some (6,aX g 0 3)⟩],
  fun i=>([0,0,0,0,0,0,0]:List Nat).getD i 0,fun i=>([[],[0],[],[2],[0,1,2,3],[],[0,1,2,3,4,5]]:List (List Nat)).getD i [],[(6,.w (.c (.ptr 4 0))),(7,.w (.c (.ptr 5 0)))]⟩)
  (W:=runW (bs w) g) (ν0:=fun n=>([n1,n2,n3,n4,b5,b6]:List Nat).getD n 0) (c0:=4)
  (fs:=fun ν=>[(38,.pointer (some ⟨(ν 4),0,none⟩)),(39,numV g (ν 0)),(40,.pointer (some ⟨(ν 5),2,none⟩)),(41,numV g (ν 3)),(42,aN g (ν 0) (ν 3)),(8,.pointer (some ⟨(ν 6),0,none⟩))]) 7 4 [] [false,false]
  ⟨Spec.wf_of (by kernel_rfl),dG (by kernel_rfl),bJ ⟨rfl,rfl,trivial⟩⟩ R2.out (Run.nodup R2.out) (by decide)
  (fun b hM=>aA (aA (aA (aA (aA (aA (aA bT
    (aD b))
    (aI b 2 m0))
    (aD b))
    (aI b 2 m1))
    (aD b))
    (cZ b m2))
    (eT b 4 m2)) ?_
 intro ν W3 hν hR;replace hR:Run (bs w) g 4 [((.leaf x0),ν 0),((.leaf x1),ν 1),((.leaf y0),ν 2),((.leaf y1),ν 3)] [((ν 4),aV g (ν 0) (ν 1)),((ν 5),aV g (ν 2) (ν 3)),((ν 6),aV g (ν 0) (ν 3))] W3:=hR;have e0:ν 0=n1:=hν 0 rfl;have e1:ν 1=n2:=hν 1 rfl;have e2:ν 2=n3:=hν 2 rfl;have e3:ν 3=n4:=hν 3 rfl;have e4:ν 4=b5:=hν 4 rfl;have e5:ν 5=b6:=hν 5 rfl;simp only[e0,e1,e2,e3,e4,e5]at hR|-;clear hν e0 e1 e2 e3 e4 e5;generalize ν 6=b7 at hR|-;have R3:=hdd hR;clear hR R2;simp only[putL,beT,beU]
 go_upto_region 8 with fail
 refine Spec.run (S:=⟨_,fun i=>([aW g 0 1,aW g 0 1,numS g 7,.tup [.c (.v (.int .i64 0)),.c (.v .nilIface)],.tup [.c (.v (.int .i64 0)),.c (.v .nilIface)],.w (.c (.v (.int .i64 0))),.w (.c (.v .nilIface)),.w (.c (.v (.int .i64 0))),.w (.c (.v .nilIface))]:List SV).getD i noS,fun n=>([none,none,none,none,none,none,none,some 2]:List (Option Nat)).getD n none,
  [(0,(.leaf x0)),(1,(.leaf x1)),(2,(.leaf y0)),(3,(.leaf y1)),(7,(sqrX (.leaf x0) (.leaf x1) (.leaf x0) (.leaf x1)))],[⟨4,29,aX g 0 1,none⟩,⟨5,29,aX g 2 3,none⟩,⟨6,29,aX g 0 3,none⟩],
  fun i=>([0,0,5,0,0,0,0,0,0]:List Nat).getD i 0,fun i=>([[],[],[0,1],[0,1,2],[0,1,2,3],[0,1,2,3,4],[0,1,2,3,4],[0,1,2,3,4,5],[0,1,2,3,4,6]]:List (List Nat)).getD i [],[(6,.w (.c (.ptr 4 0)))]⟩)
  (W:=runW (bs w) g) (ν0:=fun n=>([n1,n2,n3,n4,b5,b6,b7]:List Nat).getD n 0) (c0:=4)
  (fs:=fun ν=>[(44,aN g (ν 0) (ν 1)),(45,aN g (ν 0) (ν 1)),(46,numV g (ν 7)),(47,.tuple #[(.int .i64 0),.nilIface]),(43,.tuple #[(.int .i64 0),.nilIface]),(48,(.int .i64 0)),(49,.nilIface),(9,(.int .i64 0)),(10,.nilIface)]) 9 9 [] []
  ⟨Spec.wf_of (by kernel_rfl),dG (by kernel_rfl),bJ ⟨rfl,trivial⟩⟩ R3.out (Run.nodup R3.out) (by decide)
  (fun b hM=>aA (aA (aA (aA (aA (aA (aA (aA (aA bT
    (aI b 4 m0))
    (aI b 4 m0))
    (aL b (jH hM m0 m1 rfl rfl m0 m1 rfl rfl rfl rfl rfl rfl)))
    (aL b (ajM hM m4 rfl rfl rfl rfl Q1.out)))
    (aD b))
    (aD b))
    (aD b))
    (aD b))
    (aD b)) ?_
 intro ν W4 hν hR;replace hR:Run (bs w) g 9 [((.leaf x0),ν 0),((.leaf x1),ν 1),((.leaf y0),ν 2),((.leaf y1),ν 3),((sqrX (.leaf x0) (.leaf x1) (.leaf x0) (.leaf x1)),ν 7)] [((ν 4),aV g (ν 0) (ν 1)),((ν 5),aV g (ν 2) (ν 3)),((ν 6),aV g (ν 0) (ν 3))] W4:=hR;have e0:ν 0=n1:=hν 0 rfl;have e1:ν 1=n2:=hν 1 rfl;have e2:ν 2=n3:=hν 2 rfl;have e3:ν 3=n4:=hν 3 rfl;have e4:ν 4=b5:=hν 4 rfl;have e5:ν 5=b6:=hν 5 rfl;have e6:ν 6=b7:=hν 6 rfl;simp only[e0,e1,e2,e3,e4,e5,e6]at hR|-;clear hν e0 e1 e2 e3 e4 e5 e6;generalize ν 7=n8 at hR|-;have R4:=hdd hR;clear hR R3;simp only[putL,beT,beU]
 go_upto_region 9 with fail
 refine Spec.run (S:=⟨_,fun i=>([aW g 0 1,aW g 2 3,numS g 7,aW g 2 3,aW g 0 1,numS g 8,.tup [.c (.v (.int .i64 0)),.c (.v .nilIface)],.tup [.c (.v (.int .i64 0)),.c (.v .nilIface)],.w (.c (.v (.int .i64 0))),.w (.c (.v .nilIface)),.w (.c (.v (.int .i64 0))),.w (.c (.v .nilIface))]:List SV).getD i noS,fun n=>([none,none,none,none,none,none,none,some 2,some 5]:List (Option Nat)).getD n none,
  [(0,(.leaf x0)),(1,(.leaf x1)),(2,(.leaf y0)),(3,(.leaf y1)),(7,(sqrX (.leaf x0) (.leaf x1) (.leaf y0) (.leaf y1))),(8,(sqrX (.leaf y0) (.leaf y1) (.leaf x0) (.leaf x1)))],[⟨4,29,aX g 0 1,none⟩,⟨5,29,aX g 2 3,none⟩,⟨6,29,aX g 0 3,none⟩],
  fun i=>([0,0,5,0,0,5,1,0,0,0,0,0]:List Nat).getD i 0,fun i=>([[],[],[0,1],[],[],[3,4],[0,1,2,3,4,5],[0,1,2,3,4,5,6],[0,1,2,3,4,5,6,7],[0,1,2,3,4,5,6,7],[0,1,2,3,4,5,6,7,8],[0,1,2,3,4,5,6,7,9]]:List (List Nat)).getD i [],[(6,.w (.c (.ptr 4 0))),(7,.w (.c (.ptr 5 0)))]⟩)
  (W:=runW (bs w) g) (ν0:=fun n=>([n1,n2,n3,n4,b5,b6,b7]:List Nat).getD n 0) (c0:=9)
  (fs:=fun ν=>[(51,aN g (ν 0) (ν 1)),(52,aN g (ν 2) (ν 3)),(53,numV g (ν 7)),(54,aN g (ν 2) (ν 3)),(55,aN g (ν 0) (ν 1)),(56,numV g (ν 8)),(57,.tuple #[(.int .i64 0),.nilIface]),(50,.tuple #[(.int .i64 0),.nilIface]),(58,(.int .i64 0)),(59,.nilIface),(11,(.int .i64 0)),(12,.nilIface)]) 12 20 [true,true,true,true,false] []
  ⟨Spec.wf_of (by kernel_rfl),dG (by kernel_rfl),bJ ⟨rfl,rfl,trivial⟩⟩ R4.out (Run.nodup R4.out) (by decide)
  (fun b hM=>aA (aA (aA (aA (aA (aA (aA (aA (aA (aA (aA (aA bT
    (aI b 4 m0))
    (aI b 4 m1))
    (aL b (jH hM m0 m1 rfl rfl m2 m3 rfl rfl rfl rfl rfl rfl)))
    (aI b 4 m1))
    (aI b 4 m0))
    (aL b (jH hM m2 m3 rfl rfl m0 m1 rfl rfl rfl rfl rfl rfl)))
    (aL b (ajN hM m4 m5 rfl rfl rfl rfl rfl Q2.out)))
    (aD b))
    (aD b))
    (aD b))
    (aD b))
    (aD b)) ?_
 intro ν W5 hν hR;replace hR:Run (bs w) g 20 [((.leaf x0),ν 0),((.leaf x1),ν 1),((.leaf y0),ν 2),((.leaf y1),ν 3),((sqrX (.leaf x0) (.leaf x1) (.leaf y0) (.leaf y1)),ν 7),((sqrX (.leaf y0) (.leaf y1) (.leaf x0) (.leaf x1)),ν 8)] [((ν 4),aV g (ν 0) (ν 1)),((ν 5),aV g (ν 2) (ν 3)),((ν 6),aV g (ν 0) (ν 3))] W5:=hR;have e0:ν 0=n1:=hν 0 rfl;have e1:ν 1=n2:=hν 1 rfl;have e2:ν 2=n3:=hν 2 rfl;have e3:ν 3=n4:=hν 3 rfl;have e4:ν 4=b5:=hν 4 rfl;have e5:ν 5=b6:=hν 5 rfl;have e6:ν 6=b7:=hν 6 rfl;simp only[e0,e1,e2,e3,e4,e5,e6]at hR|-;clear hν e0 e1 e2 e3 e4 e5 e6;generalize ν 7=n9 at hR|-;generalize ν 8=n10 at hR|-;have R5:=hdd hR;clear hR R4;simp only[putL,beT,beU]
 go_upto_region 10 with fail
 refine Spec.run (S:=⟨_,fun i=>([aW g 0 1,aW g 0 3,numS g 7,aW g 0 3,aW g 2 3,numS g 8,.w (.c (.sl 9 1)),numS g 10,aW g 0 1,aW g 2 3,numS g 11,.tup [.c (.v (.int .i64 0)),.c (.v .nilIface)],.tup [.c (.v (.int .i64 0)),.c (.v .nilIface)],.w (.c (.v (.int .i64 0))),.w (.c (.v .nilIface)),.w (.c (.v (.int .i64 0))),.w (.c (.v .nilIface))]:List SV).getD i noS,fun n=>([none,none,none,none,none,none,none,some 2,some 5,some 6,some 7,some 10]:List (Option Nat)).getD n none,
  [(0,(.leaf x0)),(1,(.leaf x1)),(2,(.leaf y0)),(3,(.leaf y1)),(7,(sqrX (.leaf x0) (.leaf x1) (.leaf x0) (.leaf y1))),(8,(sqrX (.leaf x0) (.leaf y1) (.leaf y0) (.leaf y1))),(10,(.add (sqrX (.leaf x0) (.leaf x1) (.leaf x0) (.leaf y1)) (sqrX (.leaf x0) (.leaf y1) (.leaf y0) (.leaf y1)))),(11,(sqrX (.leaf x0) (.leaf x1) (.leaf y0) (.leaf y1)))],[⟨4,29,aX g 0 1,none⟩,⟨5,29,aX g 2 3,none⟩,⟨6,29,aX g 0 3,none⟩,⟨9,27,numC g 8,none⟩],
  fun i=>([0,0,5,0,0,5,0,1,0,0,5,1,0,0,0,0,0]:List Nat).getD i 0,fun i=>([[],[],[0,1],[],[],[3,4],[3,4,5],[0,1,2,3,4,5,6],[],[],[8,9],[0,1,2,3,4,5,6,7,8,9,10],[0,1,2,3,4,5,6,7,8,9,10,11],[0,1,2,3,4,5,6,7,8,9,10,11,12],[0,1,2,3,4,5,6,7,8,9,10,11,12],[0,1,2,3,4,5,6,7,8,9,10,11,12,13],[0,1,2,3,4,5,6,7,8,9,10,11,12,14]]:List (List Nat)).getD i [],[(6,.w (.c (.ptr 4 0))),(8,.w (.c (.ptr 6 0))),(7,.w (.c (.ptr 5 0)))]⟩)
  (W:=runW (bs w) g) (ν0:=fun n=>([n1,n2,n3,n4,b5,b6,b7]:List Nat).getD n 0) (c0:=20)
  (fs:=fun ν=>[(61,aN g (ν 0) (ν 1)),(62,aN g (ν 0) (ν 3)),(63,numV g (ν 7)),(64,aN g (ν 0) (ν 3)),(65,aN g (ν 2) (ν 3)),(66,numV g (ν 8)),(67,.slice (some ⟨(ν 9),0,none⟩) 1 1),(68,numV g (ν 10)),(69,aN g (ν 0) (ν 1)),(70,aN g (ν 2) (ν 3)),(71,numV g (ν 11)),(72,.tuple #[(.int .i64 0),.nilIface]),(60,.tuple #[(.int .i64 0),.nilIface]),(73,(.int .i64 0)),(74,.nilIface),(13,(.int .i64 0)),(14,.nilIface)]) 17 37 [true,true,true,true,false,false] []
  ⟨Spec.wf_of (by kernel_rfl),dG (by kernel_rfl),bJ ⟨rfl,rfl,rfl,trivial⟩⟩ R5.out (Run.nodup R5.out) (by decide)
  (fun b hM=>aA (aA (aA (aA (aA (aA (aA (aA (aA (aA (aA (aA (aA (aA (aA (aA (aA bT
    (aI b 4 m0))
    (aI b 4 m2))
    (aL b (jH hM m0 m1 rfl rfl m0 m3 rfl rfl rfl rfl rfl rfl)))
    (aI b 4 m2))
    (aI b 4 m1))
    (aL b (jH hM m0 m3 rfl rfl m2 m3 rfl rfl rfl rfl rfl rfl)))
    (iG b m3))
    (aL b (xV hM m4 m5 rfl rfl m3 rfl rfl rfl rfl rfl rfl rfl rfl)))
    (aI b 4 m0))
    (aI b 4 m1))
    (aL b (jH hM m0 m1 rfl rfl m2 m3 rfl rfl rfl rfl rfl rfl)))
    (aL b (ajN hM m6 m7 rfl rfl rfl rfl rfl Q3.out)))
    (aD b))
    (aD b))
    (aD b))
    (aD b))
    (aD b)) ?_
 intro ν W6 hν hR;replace hR:Run (bs w) g 37 [((.leaf x0),ν 0),((.leaf x1),ν 1),((.leaf y0),ν 2),((.leaf y1),ν 3),((sqrX (.leaf x0) (.leaf x1) (.leaf x0) (.leaf y1)),ν 7),((sqrX (.leaf x0) (.leaf y1) (.leaf y0) (.leaf y1)),ν 8),((.add (sqrX (.leaf x0) (.leaf x1) (.leaf x0) (.leaf y1)) (sqrX (.leaf x0) (.leaf y1) (.leaf y0) (.leaf y1))),ν 10),((sqrX (.leaf x0) (.leaf x1) (.leaf y0) (.leaf y1)),ν 11)] [((ν 4),aV g (ν 0) (ν 1)),((ν 5),aV g (ν 2) (ν 3)),((ν 6),aV g (ν 0) (ν 3)),((ν 9),numO g (ν 8))] W6:=hR;have e0:ν 0=n1:=hν 0 rfl;have e1:ν 1=n2:=hν 1 rfl;have e2:ν 2=n3:=hν 2 rfl;have e3:ν 3=n4:=hν 3 rfl;have e4:ν 4=b5:=hν 4 rfl;have e5:ν 5=b6:=hν 5 rfl;have e6:ν 6=b7:=hν 6 rfl;simp only[e0,e1,e2,e3,e4,e5,e6]at hR|-;clear hν e0 e1 e2 e3 e4 e5 e6;generalize ν 7=n11 at hR|-;generalize ν 8=n12 at hR|-;generalize ν 9=b13 at hR|-;generalize ν 10=n14 at hR|-;generalize ν 11=n15 at hR|-;have R6:=hdd hR;clear hR R5;simp only[putL,beT,beU]
 go_upto_region 11 with fail
 refine Spec.run (S:=⟨_,fun i=>([aW g 0 1,aW g 0 1,aW g 2 3,aW g 6 7,numS g 8,.w (.c (.v (.pointer (some ⟨g,0,none⟩)))),numS g 9,.w (.c (.sl 10 1)),numS g 11,aW g 0 1,aW g 2 3,numS g 12,.tup [.c (.v (.int .i64 0)),.c (.v .nilIface)],.tup [.c (.v (.int .i64 0)),.c (.v .nilIface)],.w (.c (.v (.int .i64 0))),.w (.c (.v .nilIface)),.w (.c (.v (.int .i64 0))),.w (.c (.v .nilIface))]:List SV).getD i noS,fun n=>([none,none,none,none,none,none,some 3,some 3,some 4,some 6,some 7,some 8,some 11]:List (Option Nat)).getD n none,
  [(0,(.leaf x0)),(1,(.leaf x1)),(2,(.leaf y0)),(3,(.leaf y1)),(6,(midE (.leaf x0) (.leaf y0))),(7,(midE (.leaf x1) (.leaf y1))),(8,(sqrX (.leaf x0) (.leaf x1) (midE (.leaf x0) (.leaf y0)) (midE (.leaf x1) (.leaf y1)))),(9,(.leaf 4616189618054758400)),(11,(.mul (sqrX (.leaf x0) (.leaf x1) (midE (.leaf x0) (.leaf y0)) (midE (.leaf x1) (.leaf y1))) (.leaf 4616189618054758400))),(12,(sqrX (.leaf x0) (.leaf x1) (.leaf y0) (.leaf y1)))],[⟨4,29,aX g 0 1,none⟩,⟨5,29,aX g 2 3,none⟩,⟨10,27,numC g 9,none⟩],
  fun i=>([0,0,0,6,5,0,1,0,1,0,0,5,1,0,0,0,0,0]:List Nat).getD i 0,fun i=>([[],[],[],[1,2],[0,1,2,3],[],[5],[5,6],[0,1,2,3,4,5,6,7],[],[],[9,10],[0,1,2,3,4,5,6,7,8,9,10,11],[0,1,2,3,4,5,6,7,8,9,10,11,12],[0,1,2,3,4,5,6,7,8,9,10,11,12,13],[0,1,2,3,4,5,6,7,8,9,10,11,12,13],[0,1,2,3,4,5,6,7,8,9,10,11,12,13,14],[0,1,2,3,4,5,6,7,8,9,10,11,12,13,15]]:List (List Nat)).getD i [],[(6,.w (.c (.ptr 4 0))),(7,.w (.c (.ptr 5 0))),(5,.w (.c (.v (.pointer (some ⟨g,0,none⟩)))))]⟩)
  (W:=runW (bs w) g) (ν0:=fun n=>([n1,n2,n3,n4,b5,b6]:List Nat).getD n 0) (c0:=37)
  (fs:=fun ν=>[(76,aN g (ν 0) (ν 1)),(77,aN g (ν 0) (ν 1)),(78,aN g (ν 2) (ν 3)),(79,aN g (ν 6) (ν 7)),(80,numV g (ν 8)),(81,.pointer (some ⟨g,0,none⟩)),(82,numV g (ν 9)),(83,.slice (some ⟨(ν 10),0,none⟩) 1 1),(84,numV g (ν 11)),(85,aN g (ν 0) (ν 1)),(86,aN g (ν 2) (ν 3)),(87,numV g (ν 12)),(88,.tuple #[(.int .i64 0),.nilIface]),(75,.tuple #[(.int .i64 0),.nilIface]),(89,(.int .i64 0)),(90,.nilIface),(15,(.int .i64 0)),(16,.nilIface)]) 18 56 [true,true,true,true,false,false,false,false] [true,true,false,false]
  ⟨Spec.wf_of (by kernel_rfl),dG (by kernel_rfl),bJ ⟨rfl,rfl,rfl,trivial⟩⟩ R6.out (Run.nodup R6.out) (by decide)
  (fun b hM=>aA (aA (aA (aA (aA (aA (aA (aA (aA (aA (aA (aA (aA (aA (aA (aA (aA (aA bT
    (aI b 4 m0))
    (aI b 4 m0))
    (aI b 4 m1))
    (aL b (abS hM m0 m1 rfl rfl m2 m3 rfl rfl rfl rfl rfl rfl (by decide) rfl)))
    (aL b (jH hM m0 m1 rfl rfl m4 m5 rfl rfl rfl rfl rfl rfl)))
    (aD b))
    (aL b (c_of hM (by decide) (by decide) rfl rfl rfl rfl)))
    (iG b m2))
    (aL b (abR hM m6 m7 rfl rfl m2 rfl rfl rfl rfl rfl rfl rfl rfl)))
    (aI b 4 m0))
    (aI b 4 m1))
    (aL b (jH hM m0 m1 rfl rfl m2 m3 rfl rfl rfl rfl rfl rfl)))
    (aL b (ajN hM m8 m9 rfl rfl rfl rfl rfl Q4.out)))
    (aD b))
    (aD b))
    (aD b))
    (aD b))
    (aD b)) ?_
 intro ν W7 hν hR;replace hR:Run (bs w) g 56 [((.leaf x0),ν 0),((.leaf x1),ν 1),((.leaf y0),ν 2),((.leaf y1),ν 3),((midE (.leaf x0) (.leaf y0)),ν 6),((midE (.leaf x1) (.leaf y1)),ν 7),((sqrX (.leaf x0) (.leaf x1) (midE (.leaf x0) (.leaf y0)) (midE (.leaf x1) (.leaf y1))),ν 8),((.leaf 4616189618054758400),ν 9),((.mul (sqrX (.leaf x0) (.leaf x1) (midE (.leaf x0) (.leaf y0)) (midE (.leaf x1) (.leaf y1))) (.leaf 4616189618054758400)),ν 11),((sqrX (.leaf x0) (.leaf x1) (.leaf y0) (.leaf y1)),ν 12)] [((ν 4),aV g (ν 0) (ν 1)),((ν 5),aV g (ν 2) (ν 3)),((ν 10),numO g (ν 9))] W7:=hR;have e0:ν 0=n1:=hν 0 rfl;have e1:ν 1=n2:=hν 1 rfl;have e2:ν 2=n3:=hν 2 rfl;have e3:ν 3=n4:=hν 3 rfl;have e4:ν 4=b5:=hν 4 rfl;have e5:ν 5=b6:=hν 5 rfl;simp only[e0,e1,e2,e3,e4,e5]at hR|-;clear hν e0 e1 e2 e3 e4 e5;generalize ν 6=n16 at hR|-;generalize ν 7=n17 at hR|-;generalize ν 8=n18 at hR|-;generalize ν 9=n19 at hR|-;generalize ν 10=b20 at hR|-;generalize ν 11=n21 at hR|-;generalize ν 12=n22 at hR|-;have R7:=hdd hR
 clear hR R6;simp only[putL,beT,beU];have HB:=hdd R7.out.below;clear R7;go_wp2;go_ret;exact⟨rfl,HB.out⟩
end Go.Proofs.YtgodkfgnhpnhcaaGreatDoor
