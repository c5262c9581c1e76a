/- A part of the proof: contracts of functions and plain laws (RmW). -/
import Derived.Test.YtgodkfgnhpnhcaaGreatDoorK40
import Derived.Test.YtgodkfgnhpnhcaaGreatDoorK42
import Derived.Test.YtgodkfgnhpnhcaaGreatDoorK34
set_option linter.unusedVariables false
set_option linter.unusedSimpArgs false
set_option maxHeartbeats 25600000
set_option maxRecDepth 100000
namespace Go.Proofs.YtgodkfgnhpnhcaaGreatDoor
open Go.RowKit Go.Maps
open List renaming setIfInBounds_toArray->aqL,set->aqM
abbrev rm0(p:Int×Int×Int×Int):Ex:=.leaf 4607182418800017408
abbrev rm1(p:Int×Int×Int×Int):Ex:=.leaf 4611686018427387904
abbrev rm2(p:Int×Int×Int×Int):Ex:=.leaf (fl p.2.2.1)
abbrev rm3(p:Int×Int×Int×Int):Ex:=.leaf (fl p.2.2.2)
abbrev rm4(p:Int×Int×Int×Int):Ex:=.mul (rm3 p) (rm3 p)
abbrev rm5(p:Int×Int×Int×Int):Ex:=.add (rm0 p) (rm4 p)
abbrev rm6(p:Int×Int×Int×Int):Ex:=.sub (rm0 p) (rm4 p)
abbrev rm7(p:Int×Int×Int×Int):Ex:=.mul (rm2 p) (rm6 p)
abbrev rm8(p:Int×Int×Int×Int):Ex:=.div (rm7 p) (rm5 p)
abbrev rm9(p:Int×Int×Int×Int):Ex:=.mul (.mul (rm1 p) (rm2 p)) (rm3 p)
abbrev rm10(p:Int×Int×Int×Int):Ex:=.div (rm9 p) (rm5 p)
abbrev rm11(p:Int×Int×Int×Int):Ex:=.leaf (fl p.1)
abbrev rm12(p:Int×Int×Int×Int):Ex:=.leaf (fl p.2.1)
abbrev rm13(p:Int×Int×Int×Int):Ex:=.add (rm11 p) (rm8 p)
abbrev rm14(p:Int×Int×Int×Int):Ex:=.add (rm12 p) (rm10 p)
abbrev rm15(p:Int×Int×Int×Int):Ex:=midE (rm11 p) (rm13 p)
abbrev rm16(p:Int×Int×Int×Int):Ex:=midE (rm12 p) (rm14 p)
abbrev rm17(p:Int×Int×Int×Int):Ex:=.add (rm13 p) (rm8 p)
abbrev rm18(p:Int×Int×Int×Int):Ex:=.add (rm14 p) (rm10 p)
abbrev rm19(p:Int×Int×Int×Int):Ex:=aoA (rm13 p) (rm14 p) (fl p.1) (fl p.2.1) (fl (p.2.2.1*p.2.2.1))
abbrev rm20(p:Int×Int×Int×Int):Ex:=aoA (rm15 p) (rm16 p) (fl p.1) (fl p.2.1) (fl (p.2.2.1*p.2.2.1))
abbrev rm21(p:Int×Int×Int×Int):Ex:=aoA (rm17 p) (rm18 p) (fl p.1) (fl p.2.1) (fl (p.2.2.1*p.2.2.1))
abbrev rm22(p:Int×Int×Int×Int):Ex:=.sub (.leaf (fl p.1)) (.root (.leaf (fl (p.2.2.1*p.2.2.1))))
abbrev rm23(p:Int×Int×Int×Int):Ex:=.add (.leaf (fl p.1)) (.root (.leaf (fl (p.2.2.1*p.2.2.1))))
theorem an9{w:World}{x y r t:Int}(hT:Tab w)(htb:1<w.heap.size):
 Calls Tryz.prog 13 #[.int .i64 x,.int .i64 y,.int .i64 r,.int .i64 t] w (RetV w (.bool true)):=by
 have HA:=hdd (apA hT htb);have HT:=hdd (And.intro hT htb);obtain⟨RR,hw1,hw2,mr4⟩:=ao6 (n:=20) (d:=1) r (by omega) (by omega);obtain⟨X0,mx1,mx2,mx3⟩:=aoM (n:=20) x (by omega);obtain⟨Y0,my1,my2,my3⟩:=aoM (n:=20) y (by omega);obtain⟨T0,mt1,mt2,mt3⟩:=aoM (n:=30) t (by omega);obtain⟨p,e1,e2,e3,e4⟩:∃p:Int×Int×Int×Int,X0=p.1/\Y0=p.2.1/\RR=p.2.2.1/\T0=p.2.2.2:=⟨(X0,Y0,RR,T0),rfl,rfl,rfl,rfl⟩;subst e1 e2 e3 e4;have hrr:=apV (n:=20) (k:=p.2.2.1) (by omega) (by omega);have MR:=hdd (And.intro (apD (a:=p.2.2.1) (b:=p.2.2.1) (IntWalk.i64_in _ (by omega))) trivial);have MX:=hdd (And.intro mx1 trivial);have MY:=hdd (And.intro my1 trivial);have MT:=hdd (And.intro mt1 trivial);obtain⟨q1,q2,hq1,hq2,hall⟩:=apC (x:=p.1) (y:=p.2.1) (r:=p.2.2.1) (t:=p.2.2.2) (by omega) (by omega) (by omega) (by omega);have TT:=hdd (hall _ _ _ _ _ _ _ _ _ _ rfl rfl rfl rfl rfl rfl rfl rfl rfl rfl);have FX:Hid (FlOk (fl p.1)):=hdd (aoB (by omega));have FY:Hid (FlOk (fl p.2.1)):=hdd (aoB (by omega));have FR:Hid (FlOk (fl p.2.2.1)):=hdd (aoB (by omega));have FT:Hid (FlOk (fl p.2.2.2)):=hdd (aoB (by omega))
 have FC:Hid (FlOk (fl (p.2.2.1*p.2.2.1))/\0<=fv (fl (p.2.2.1*p.2.2.1))):=hdd ⟨aoB (by omega),aoS (by omega) (by omega)⟩;have HQ:=hdd (And.intro hq1 hq2);clear hT htb hall mr4 mx1 mx2 mx3 my1 my2 my3 mt1 mt2 mt3 hrr hq1 hq2;go_enter Tryz.func13,Tryz.ntmps13
 go_wp2_with fail
 refine HA.out.mono ?_;rintro e w3⟨rfl,hb3⟩;have HN:=hdd (zJ (w0:=w) (l:=[]) hb3 (fun p hp=>by cases hp) (by simp) HT.out.1 HT.out.2);clear hb3 HA;go_wp2_with fail
 refine HN.out.mono ?_;rintro e W1⟨g,rfl,hR⟩;have R1:=hdd hR;clear hR HN;dsimp only
 go_upto_region 7 with fail
 clear hw1 hw2;refine Spec.run (S:=⟨_,fun i=>([.w (.c (.v (.int .i64 x))),.w (.c (.v (.int .i64 p.1))),.w (.c (.v (.float .f64 (fl p.1)))),.w (.c (.v (.int .i64 y))),.w (.c (.v (.int .i64 p.2.1))),.w (.c (.v (.float .f64 (fl p.2.1)))),.w (.c (.v (.int .i64 p.2.2.1))),.w (.c (.v (.int .i64 p.2.2.1))),.w (.c (.v (.int .i64 (p.2.2.1*p.2.2.1)))),.w (.c (.v (.float .f64 (fl (p.2.2.1*p.2.2.1))))),.w (.agg ([.v (Value.int IntKind.i64 2),.v (.float .f64 (fl p.1)),.v (.float .f64 (fl p.2.1)),.v (.float .f64 (fl (p.2.2.1*p.2.2.1)))])),.w (.c (.ptr 0 0)),noS]:List SV).getD i noS,fun n=>([some 11]:List (Option Nat)).getD n none,
  [],[⟨0,89,[.v (.int .i64 0),.v (.float .f64 0),.v (.float .f64 0),.v (.float .f64 0)],some (12,[.v (Value.int IntKind.i64 2),.v (.float .f64 (fl p.1)),.v (.float .f64 (fl p.2.1)),.v (.float .f64 (fl (p.2.2.1*p.2.2.1)))])⟩],
  fun i=>([0,0,0,0,0,0,0,0,0,0,0,0,0]:List Nat).getD i 0,fun i=>([[],[0],[0,1],[],[3],[3,4],[],[],[6,7],[6,7,8],[0,1,2,3,4,5,6,7,8,9],[],[0,1,2,3,4,5,6,7,8,9,10,11]]:List (List Nat)).getD i [],[(0,.w (.c (.v (.int .i64 x)))),(1,.w (.c (.v (.int .i64 y)))),(2,.w (.c (.v (.int .i64 p.2.2.1))))]⟩)
  (W:=runW (bs w) g) (ν0:=fun n=>([]:List Nat).getD n 0) (c0:=0)
  (fs:=fun ν=>[(45,(.int .i64 x)),(46,(.int .i64 p.1)),(47,(.float .f64 (fl p.1))),(48,(.int .i64 y)),(49,(.int .i64 p.2.1)),(50,(.float .f64 (fl p.2.1))),(51,(.int .i64 p.2.2.1)),(52,(.int .i64 p.2.2.1)),(53,(.int .i64 (p.2.2.1*p.2.2.1))),(54,(.float .f64 (fl (p.2.2.1*p.2.2.1)))),(55,.agg #[(Value.int IntKind.i64 2),(.float .f64 (fl p.1)),(.float .f64 (fl p.2.1)),(.float .f64 (fl (p.2.2.1*p.2.2.1)))]),(10,.pointer (some ⟨(ν 0),0,none⟩))]) 13 0 [] []
  ⟨Spec.wf_of (by kernel_rfl),dG (by kernel_rfl),bJ ⟨rfl,rfl,rfl,trivial⟩⟩ R1.out (Run.nodup R1.out) (by decide)
  (fun b hM=>aA (aA (aA (aA (aA (aA (aA (aA (aA (aA (aA (aA (aA bT
    (aD b))
    (aD b (hv:=fun ν w=>ac3 rfl rfl rfl rfl (MX.out.1 w))))
    (aD b (hv:=fun ν w=>alV rfl rfl (aj0 p.1 w))))
    (aD b))
    (aD b (hv:=fun ν w=>ac3 rfl rfl rfl rfl (MY.out.1 w))))
    (aD b (hv:=fun ν w=>alV rfl rfl (aj0 p.2.1 w))))
    (aD b))
    (aD b))
    (aD b (hv:=fun ν w=>ac3 rfl rfl rfl rfl (MR.out.1 w))))
    (aD b (hv:=fun ν w=>alV rfl rfl (aj0 (p.2.2.1*p.2.2.1) w))))
    (aD b))
    (cZ b m0))
    (eT b 4 m0)) ?_
 intro ν W2 hν hR;replace hR:Run (bs w) g 0 [] [((ν 0),.cells #[(Value.int IntKind.i64 2),(.float .f64 (fl p.1)),(.float .f64 (fl p.2.1)),(.float .f64 (fl (p.2.2.1*p.2.2.1)))] 89)] W2:=hR;clear hν;generalize ν 0=b1 at hR|-;have R2:=hdd hR;clear hR R1;simp only[putL,aqL,aqM]
 go_upto_region 8 with fail
 refine Spec.run (S:=⟨_,fun i=>([.w (.c (.v (.pointer (some ⟨g,0,none⟩)))),numS g 1,.w (.c (.v (.pointer (some ⟨g,0,none⟩)))),numS g 2,.w (.c (.v (.pointer (some ⟨g,0,none⟩)))),.w (.c (.v (.int .i64 p.2.2.1))),.w (.c (.v (.float .f64 (fl p.2.2.1)))),numS g 3,.w (.c (.v (.pointer (some ⟨g,0,none⟩)))),.w (.c (.v (.int .i64 t))),.w (.c (.v (.int .i64 p.2.2.2))),.w (.c (.v (.float .f64 (fl p.2.2.2)))),numS g 4,.w (.c (.ptr 5 0)),.w (.c (.ptr 6 0)),.w (.c (.ptr 7 0)),.w (.c (.ptr 8 0)),noS,noS,noS,noS]:List SV).getD i noS,fun n=>([none,some 1,some 3,some 7,some 12,some 13,some 14,some 15,some 16]:List (Option Nat)).getD n none,
  [(1,(rm0 p)),(2,(rm1 p)),(3,(rm2 p)),(4,(rm3 p))],[⟨0,89,[.v (Value.int IntKind.i64 2),.v (.float .f64 (fl p.1)),.v (.float .f64 (fl p.2.1)),.v (.float .f64 (fl (p.2.2.1*p.2.2.1)))],none⟩,⟨5,27,[.v (.pointer none),.v (.int .i64 0)],some (17,numC g 1)⟩,⟨6,27,[.v (.pointer none),.v (.int .i64 0)],some (18,numC g 2)⟩,⟨7,27,[.v (.pointer none),.v (.int .i64 0)],some (19,numC g 3)⟩,⟨8,27,[.v (.pointer none),.v (.int .i64 0)],some (20,numC g 4)⟩],
  fun i=>([0,1,0,1,0,0,0,1,0,0,0,0,1,0,0,0,0,0,0,0,0]:List Nat).getD i 0,fun i=>([[],[0],[],[2],[],[],[5],[4,5,6],[],[],[9],[9,10],[8,9,10,11],[],[],[],[],[0,1,8,9,10,11,12,13,14,15,16],[0,1,2,3,8,9,10,11,12,13,14,15,16,17],[0,1,2,3,4,5,6,7,8,9,10,11,12,13,14,15,16,17,18],[0,1,2,3,4,5,6,7,8,9,10,11,12,13,14,15,16,17,18,19]]:List (List Nat)).getD i [],[(9,.w (.c (.v (.pointer (some ⟨g,0,none⟩))))),(2,.w (.c (.v (.int .i64 p.2.2.1)))),(3,.w (.c (.v (.int .i64 t))))]⟩)
  (W:=runW (bs w) g) (ν0:=fun n=>([b1]:List Nat).getD n 0) (c0:=0)
  (fs:=fun ν=>[(56,.pointer (some ⟨g,0,none⟩)),(57,numV g (ν 1)),(58,.pointer (some ⟨g,0,none⟩)),(59,numV g (ν 2)),(60,.pointer (some ⟨g,0,none⟩)),(61,(.int .i64 p.2.2.1)),(62,(.float .f64 (fl p.2.2.1))),(63,numV g (ν 3)),(64,.pointer (some ⟨g,0,none⟩)),(65,(.int .i64 t)),(66,(.int .i64 p.2.2.2)),(67,(.float .f64 (fl p.2.2.2))),(68,numV g (ν 4)),(11,.pointer (some ⟨(ν 5),0,none⟩)),(12,.pointer (some ⟨(ν 6),0,none⟩)),(13,.pointer (some ⟨(ν 7),0,none⟩)),(14,.pointer (some ⟨(ν 8),0,none⟩))]) 21 4 [] []
  ⟨Spec.wf_of (by kernel_rfl),dG (by kernel_rfl),bJ ⟨rfl,rfl,rfl,trivial⟩⟩ R2.out (Run.nodup R2.out) (by decide)
  (fun b hM=>aA (aA (aA (aA (aA (aA (aA (aA (aA (aA (aA (aA (aA (aA (aA (aA (aA (aA (aA (aA (aA bT
    (aD b))
    (aL b (c_of hM (by decide) (by decide) rfl rfl rfl rfl)))
    (aD b))
    (aL b (c_of hM (by decide) (by decide) rfl rfl rfl rfl)))
    (aD b))
    (aD b))
    (aD b (hv:=fun ν w=>alV rfl rfl (aj0 p.2.2.1 w))))
    (aL b (c_of hM FR.out.1 FR.out.2 rfl rfl rfl rfl)))
    (aD b))
    (aD b))
    (aD b (hv:=fun ν w=>ac3 rfl rfl rfl rfl (MT.out.1 w))))
    (aD b (hv:=fun ν w=>alV rfl rfl (aj0 p.2.2.2 w))))
    (aL b (c_of hM FT.out.1 FT.out.2 rfl rfl rfl rfl)))
    (cZ b m1))
    (cZ b m2))
    (cZ b m3))
    (cZ b m4))
    (eT b 2 m1))
    (eT b 2 m2))
    (eT b 2 m3))
    (eT b 2 m4)) ?_
 intro ν W3 hν hR;replace hR:Run (bs w) g 4 [((rm0 p),ν 1),((rm1 p),ν 2),((rm2 p),ν 3),((rm3 p),ν 4)] [((ν 0),.cells #[(Value.int IntKind.i64 2),(.float .f64 (fl p.1)),(.float .f64 (fl p.2.1)),(.float .f64 (fl (p.2.2.1*p.2.2.1)))] 89),((ν 5),numO g (ν 1)),((ν 6),numO g (ν 2)),((ν 7),numO g (ν 3)),((ν 8),numO g (ν 4))] W3:=hR;have e0:ν 0=b1:=hν 0 rfl;simp only[e0]at hR|-;clear hν e0;generalize ν 1=n2 at hR|-;generalize ν 2=n3 at hR|-;generalize ν 3=n4 at hR|-;generalize ν 4=n5 at hR|-;generalize ν 5=b6 at hR|-;generalize ν 6=b7 at hR|-;generalize ν 7=b8 at hR|-;generalize ν 8=b9 at hR|-;have R3:=hdd hR;clear hR R2;simp only[putL,aqL,aqM]
 go_upto_region 9 with fail
 refine Spec.run (S:=⟨_,fun i=>([numS g 1,numS g 4,numS g 4,.w (.c (.sl 9 1)),numS g 10,.w (.c (.sl 11 1)),numS g 12,.w (.c (.ptr 13 0)),noS]:List SV).getD i noS,fun n=>([none,none,none,none,none,none,none,none,none,some 3,some 4,some 5,some 6,some 7]:List (Option Nat)).getD n none,
  [(1,(rm0 p)),(2,(rm1 p)),(3,(rm2 p)),(4,(rm3 p)),(10,(rm4 p)),(12,(rm5 p))],[⟨0,89,[.v (Value.int IntKind.i64 2),.v (.float .f64 (fl p.1)),.v (.float .f64 (fl p.2.1)),.v (.float .f64 (fl (p.2.2.1*p.2.2.1)))],none⟩,⟨5,27,numC g 1,none⟩,⟨6,27,numC g 2,none⟩,⟨7,27,numC g 3,none⟩,⟨8,27,numC g 4,none⟩,⟨9,27,numC g 4,none⟩,⟨11,27,numC g 10,none⟩,⟨13,27,[.v (.pointer none),.v (.int .i64 0)],some (8,numC g 12)⟩],
  fun i=>([0,0,0,0,1,0,1,0,0]:List Nat).getD i 0,fun i=>([[],[],[],[2],[1,2,3],[1,2,3,4],[0,1,2,3,4,5],[],[0,1,2,3,4,5,6,7]]:List (List Nat)).getD i [],[(11,.w (.c (.ptr 5 0))),(14,.w (.c (.ptr 8 0)))]⟩)
  (W:=runW (bs w) g) (ν0:=fun n=>([b1,n2,n3,n4,n5,b6,b7,b8,b9]:List Nat).getD n 0) (c0:=4)
  (fs:=fun ν=>[(69,numV g (ν 1)),(70,numV g (ν 4)),(71,numV g (ν 4)),(72,.slice (some ⟨(ν 9),0,none⟩) 1 1),(73,numV g (ν 10)),(74,.slice (some ⟨(ν 11),0,none⟩) 1 1),(75,numV g (ν 12)),(15,.pointer (some ⟨(ν 13),0,none⟩))]) 9 6 [] []
  ⟨Spec.wf_of (by kernel_rfl),dG (by kernel_rfl),bJ ⟨rfl,rfl,trivial⟩⟩ R3.out (Run.nodup R3.out) (by decide)
  (fun b hM=>aA (aA (aA (aA (aA (aA (aA (aA (aA bT
    (aI b 2 m1))
    (aI b 2 m4))
    (aI b 2 m4))
    (iG b m5))
    (aL b (abR hM m3 m3 rfl rfl m5 rfl rfl rfl rfl rfl rfl rfl rfl)))
    (iG b m6))
    (aL b (xV hM m0 m4 rfl rfl m6 rfl rfl rfl rfl rfl rfl rfl rfl)))
    (cZ b m7))
    (eT b 2 m7)) ?_
 intro ν W4 hν hR;replace hR:Run (bs w) g 6 [((rm0 p),ν 1),((rm1 p),ν 2),((rm2 p),ν 3),((rm3 p),ν 4),((rm4 p),ν 10),((rm5 p),ν 12)] [((ν 0),.cells #[(Value.int IntKind.i64 2),(.float .f64 (fl p.1)),(.float .f64 (fl p.2.1)),(.float .f64 (fl (p.2.2.1*p.2.2.1)))] 89),((ν 5),numO g (ν 1)),((ν 6),numO g (ν 2)),((ν 7),numO g (ν 3)),((ν 8),numO g (ν 4)),((ν 9),numO g (ν 4)),((ν 11),numO g (ν 10)),((ν 13),numO g (ν 12))] W4:=hR;have e0:ν 0=b1:=hν 0 rfl;have e1:ν 1=n2:=hν 1 rfl;have e2:ν 2=n3:=hν 2 rfl;have e3:ν 3=n4:=hν 3 rfl;have e4:ν 4=n5:=hν 4 rfl;have e5:ν 5=b6:=hν 5 rfl;have e6:ν 6=b7:=hν 6 rfl;have e7:ν 7=b8:=hν 7 rfl;have e8:ν 8=b9:=hν 8 rfl;simp only[e0,e1,e2,e3,e4,e5,e6,e7,e8]at hR|-;clear hν e0 e1 e2 e3 e4 e5 e6 e7 e8;generalize ν 9=b10 at hR|-;generalize ν 10=n11 at hR|-;generalize ν 11=b12 at hR|-;generalize ν 12=n13 at hR|-;generalize ν 13=b14 at hR|-;have R4:=hdd hR;clear hR R3;simp only[putL,aqL,aqM]
 go_upto_region 10 with fail
 refine Spec.run (S:=⟨_,fun i=>([numS g 3,numS g 1,numS g 4,numS g 4,.w (.c (.sl 11 1)),numS g 12,numS g 13,.w (.c (.sl 14 1)),numS g 15,numS g 9,numS g 16,numS g 2,numS g 3,numS g 4,.w (.c (.sl 17 2)),numS g 18,numS g 9,numS g 19,.w (.c (.ptr 20 0)),.w (.c (.ptr 21 0)),noS,noS]:List SV).getD i noS,fun n=>([none,none,none,none,none,none,none,none,none,none,none,some 4,some 5,some 6,some 7,some 8,some 10,some 14,some 15,some 17,some 18,some 19]:List (Option Nat)).getD n none,
  [(1,(rm0 p)),(2,(rm1 p)),(3,(rm2 p)),(4,(rm3 p)),(9,(rm5 p)),(12,(rm4 p)),(13,(rm6 p)),(15,(rm7 p)),(16,(rm8 p)),(18,(rm9 p)),(19,(rm10 p))],[⟨0,89,[.v (Value.int IntKind.i64 2),.v (.float .f64 (fl p.1)),.v (.float .f64 (fl p.2.1)),.v (.float .f64 (fl (p.2.2.1*p.2.2.1)))],none⟩,⟨5,27,numC g 1,none⟩,⟨6,27,numC g 2,none⟩,⟨7,27,numC g 3,none⟩,⟨8,27,numC g 4,none⟩,⟨10,27,numC g 9,none⟩,⟨11,27,numC g 4,none⟩,⟨14,27,numC g 13,none⟩,⟨17,27,aX g 3 4,none⟩,⟨20,27,[.v (.pointer none),.v (.int .i64 0)],some (20,numC g 16)⟩,⟨21,27,[.v (.pointer none),.v (.int .i64 0)],some (21,numC g 19)⟩],
  fun i=>([0,0,0,0,0,1,1,0,1,0,1,0,0,0,0,2,0,1,0,0,0,0]:List Nat).getD i 0,fun i=>([[],[],[],[],[3],[2,3,4],[1,2,3,4,5],[1,2,3,4,5,6],[0,1,2,3,4,5,6,7],[],[0,1,2,3,4,5,6,7,8,9],[],[],[],[12,13],[11,12,13,14],[],[11,12,13,14,15,16],[],[],[0,1,2,3,4,5,6,7,8,9,10,11,12,13,14,15,16,17,18,19],[0,1,2,3,4,5,6,7,8,9,10,11,12,13,14,15,16,17,18,19,20]]:List (List Nat)).getD i [],[(13,.w (.c (.ptr 7 0))),(11,.w (.c (.ptr 5 0))),(14,.w (.c (.ptr 8 0))),(15,.w (.c (.ptr 10 0))),(12,.w (.c (.ptr 6 0)))]⟩)
  (W:=runW (bs w) g) (ν0:=fun n=>([b1,n2,n3,n4,n5,b6,b7,b8,b9,n13,b14]:List Nat).getD n 0) (c0:=6)
  (fs:=fun ν=>[(76,numV g (ν 3)),(77,numV g (ν 1)),(78,numV g (ν 4)),(79,numV g (ν 4)),(80,.slice (some ⟨(ν 11),0,none⟩) 1 1),(81,numV g (ν 12)),(82,numV g (ν 13)),(83,.slice (some ⟨(ν 14),0,none⟩) 1 1),(84,numV g (ν 15)),(85,numV g (ν 9)),(86,numV g (ν 16)),(87,numV g (ν 2)),(88,numV g (ν 3)),(89,numV g (ν 4)),(90,.slice (some ⟨(ν 17),0,none⟩) 2 2),(91,numV g (ν 18)),(92,numV g (ν 9)),(93,numV g (ν 19)),(16,.pointer (some ⟨(ν 20),0,none⟩)),(17,.pointer (some ⟨(ν 21),0,none⟩))]) 22 13 [true,true,true,true,false] [true,true,true,true,true,false,false]
  ⟨Spec.wf_of (by kernel_rfl),dG (by kernel_rfl),bJ ⟨rfl,rfl,rfl,rfl,rfl,trivial⟩⟩ R4.out (Run.nodup R4.out) (by decide)
  (fun b hM=>aA (aA (aA (aA (aA (aA (aA (aA (aA (aA (aA (aA (aA (aA (aA (aA (aA (aA (aA (aA (aA (aA bT
    (aI b 2 m3))
    (aI b 2 m1))
    (aI b 2 m4))
    (aI b 2 m4))
    (iG b m6))
    (aL b (abR hM m3 m3 rfl rfl m6 rfl rfl rfl rfl rfl rfl rfl rfl)))
    (aL b (qI hM m0 m5 rfl rfl rfl rfl rfl rfl)))
    (iG b m7))
    (aL b (abR hM m2 m6 rfl rfl m7 rfl rfl rfl rfl rfl rfl rfl rfl)))
    (aI b 2 m5))
    (aL b (anP hM m7 m4 rfl rfl rfl rfl rfl rfl)))
    (aI b 2 m2))
    (aI b 2 m3))
    (aI b 2 m4))
    (iG b m8))
    (aL b (apP hM m1 m2 m3 rfl rfl rfl m8 rfl rfl rfl rfl rfl rfl rfl rfl)))
    (aI b 2 m5))
    (aL b (anP hM m9 m4 rfl rfl rfl rfl rfl rfl)))
    (cZ b m9))
    (cZ b m10))
    (eT b 2 m9))
    (eT b 2 m10)) ?_
 intro ν W5 hν hR;replace hR:Run (bs w) g 13 [((rm0 p),ν 1),((rm1 p),ν 2),((rm2 p),ν 3),((rm3 p),ν 4),((rm5 p),ν 9),((rm4 p),ν 12),((rm6 p),ν 13),((rm7 p),ν 15),((rm8 p),ν 16),((rm9 p),ν 18),((rm10 p),ν 19)] [((ν 0),.cells #[(Value.int IntKind.i64 2),(.float .f64 (fl p.1)),(.float .f64 (fl p.2.1)),(.float .f64 (fl (p.2.2.1*p.2.2.1)))] 89),((ν 5),numO g (ν 1)),((ν 6),numO g (ν 2)),((ν 7),numO g (ν 3)),((ν 8),numO g (ν 4)),((ν 10),numO g (ν 9)),((ν 11),numO g (ν 4)),((ν 14),numO g (ν 13)),((ν 17),.cells #[.pointer (some ⟨g,0,none⟩),.int .i64 (((ν 3):Nat):Int),.pointer (some ⟨g,0,none⟩),.int .i64 (((ν 4):Nat):Int)] 27),((ν 20),numO g (ν 16)),((ν 21),numO g (ν 19))] W5:=hR;have e0:ν 0=b1:=hν 0 rfl;have e1:ν 1=n2:=hν 1 rfl;have e2:ν 2=n3:=hν 2 rfl;have e3:ν 3=n4:=hν 3 rfl;have e4:ν 4=n5:=hν 4 rfl;have e5:ν 5=b6:=hν 5 rfl;have e6:ν 6=b7:=hν 6 rfl;have e7:ν 7=b8:=hν 7 rfl;have e8:ν 8=b9:=hν 8 rfl;have e9:ν 9=n13:=hν 9 rfl;have e10:ν 10=b14:=hν 10 rfl;simp only[e0,e1,e2,e3,e4,e5,e6,e7,e8,e9,e10]at hR|-
 clear hν e0 e1 e2 e3 e4 e5 e6 e7 e8 e9 e10;generalize ν 11=b15 at hR|-;generalize ν 12=n16 at hR|-;generalize ν 13=n17 at hR|-;generalize ν 14=b18 at hR|-;generalize ν 15=n19 at hR|-;generalize ν 16=n20 at hR|-;generalize ν 17=b21 at hR|-;generalize ν 18=n22 at hR|-;generalize ν 19=n23 at hR|-;generalize ν 20=b24 at hR|-;generalize ν 21=b25 at hR|-;have R5:=hdd hR;clear hR R4;simp only[putL,aqL,aqM]
 go_upto_region 11 with fail
 refine Spec.run (S:=⟨_,fun i=>([.w (.c (.v (.pointer (some ⟨g,0,none⟩)))),.w (.agg ([.v (Value.int IntKind.i64 2),.v (.float .f64 (fl p.1)),.v (.float .f64 (fl p.2.1)),.v (.float .f64 (fl (p.2.2.1*p.2.2.1)))])),aW g 5 6,.w (.c (.ptr 7 0)),noS]:List SV).getD i noS,fun n=>([none,none,none,none,none,some 2,some 2,some 3]:List (Option Nat)).getD n none,
  [(1,(rm8 p)),(2,(rm10 p)),(5,(rm11 p)),(6,(rm12 p))],[⟨0,89,[.v (Value.int IntKind.i64 2),.v (.float .f64 (fl p.1)),.v (.float .f64 (fl p.2.1)),.v (.float .f64 (fl (p.2.2.1*p.2.2.1)))],none⟩,⟨3,27,numC g 1,none⟩,⟨4,27,numC g 2,none⟩,⟨7,29,[.v (.pointer none),.v (.int .i64 0),.v (.pointer none),.v (.int .i64 0)],some (4,aX g 5 6)⟩],
  fun i=>([0,0,2,0,0]:List Nat).getD i 0,fun i=>([[],[],[0,1],[],[0,1,2,3]]:List (List Nat)).getD i [],[(9,.w (.c (.v (.pointer (some ⟨g,0,none⟩))))),(10,.w (.c (.ptr 0 0)))]⟩)
  (W:=runW (bs w) g) (ν0:=fun n=>([b1,n20,n23,b24,b25]:List Nat).getD n 0) (c0:=13)
  (fs:=fun ν=>[(94,.pointer (some ⟨g,0,none⟩)),(95,.agg #[(Value.int IntKind.i64 2),(.float .f64 (fl p.1)),(.float .f64 (fl p.2.1)),(.float .f64 (fl (p.2.2.1*p.2.2.1)))]),(96,aN g (ν 5) (ν 6)),(18,.pointer (some ⟨(ν 7),0,none⟩))]) 5 15 [false,false,false,false,false,false,false,false,true,false] [true,false,false,false,false,false,false,false,false]
  ⟨Spec.wf_of (by kernel_rfl),dG (by kernel_rfl),bJ ⟨rfl,rfl,trivial⟩⟩ R5.out (Run.nodup R5.out) (by decide)
  (fun b hM=>aA (aA (aA (aA (aA bT
    (aD b))
    (aI b 4 m0))
    (aL b (c_fn (ix:=[]) (ts:=[5,6]) hM (fun ν=>an8 (ca:=(fl p.1)) (cb:=(fl p.2.1)) (cc:=(fl (p.2.2.1*p.2.2.1))) ⟨FX.out.1,FX.out.2⟩ ⟨FY.out.1,FY.out.2⟩))))
    (cZ b m3))
    (eT b 4 m3)) ?_
 intro ν W6 hν hR;replace hR:Run (bs w) g 15 [((rm8 p),ν 1),((rm10 p),ν 2),((rm11 p),ν 5),((rm12 p),ν 6)] [((ν 0),.cells #[(Value.int IntKind.i64 2),(.float .f64 (fl p.1)),(.float .f64 (fl p.2.1)),(.float .f64 (fl (p.2.2.1*p.2.2.1)))] 89),((ν 3),numO g (ν 1)),((ν 4),numO g (ν 2)),((ν 7),aV g (ν 5) (ν 6))] W6:=hR;have e0:ν 0=b1:=hν 0 rfl;have e1:ν 1=n20:=hν 1 rfl;have e2:ν 2=n23:=hν 2 rfl;have e3:ν 3=b24:=hν 3 rfl;have e4:ν 4=b25:=hν 4 rfl;simp only[e0,e1,e2,e3,e4]at hR|-;clear hν e0 e1 e2 e3 e4;generalize ν 5=n26 at hR|-;generalize ν 6=n27 at hR|-;generalize ν 7=b28 at hR|-;have R6:=hdd hR;clear hR R5;simp only[putL,aqL,aqM]
 go_upto_region 12 with fail
 refine Spec.run (S:=⟨_,fun i=>([.w (.c (.ptr 7 0)),numS g 5,numS g 1,.w (.c (.sl 8 1)),numS g 9,.w (.c (.ptr 7 2)),numS g 6,numS g 2,.w (.c (.sl 10 1)),numS g 11,aW g 9 11,.w (.c (.ptr 12 0)),noS]:List SV).getD i noS,fun n=>([none,none,none,none,none,none,none,none,some 3,some 4,some 8,some 9,some 11]:List (Option Nat)).getD n none,
  [(1,(rm8 p)),(2,(rm10 p)),(5,(rm11 p)),(6,(rm12 p)),(9,(rm13 p)),(11,(rm14 p))],[⟨0,89,[.v (Value.int IntKind.i64 2),.v (.float .f64 (fl p.1)),.v (.float .f64 (fl p.2.1)),.v (.float .f64 (fl (p.2.2.1*p.2.2.1)))],none⟩,⟨3,27,numC g 1,none⟩,⟨4,27,numC g 2,none⟩,⟨7,29,aX g 5 6,none⟩,⟨8,27,numC g 1,none⟩,⟨10,27,numC g 2,none⟩,⟨12,29,[.v (.pointer none),.v (.int .i64 0),.v (.pointer none),.v (.int .i64 0)],some (12,aX g 9 11)⟩],
  fun i=>([0,0,0,0,1,0,0,0,0,1,0,0,0]:List Nat).getD i 0,fun i=>([[],[0],[],[2],[0,1,2,3],[],[5],[],[7],[5,6,7,8],[0,1,2,3,4,5,6,7,8,9],[],[0,1,2,3,4,5,6,7,8,9,10,11]]:List (List Nat)).getD i [],[(18,.w (.c (.ptr 7 0))),(16,.w (.c (.ptr 3 0))),(17,.w (.c (.ptr 4 0)))]⟩)
  (W:=runW (bs w) g) (ν0:=fun n=>([b1,n20,n23,b24,b25,n26,n27,b28]:List Nat).getD n 0) (c0:=15)
  (fs:=fun ν=>[(97,.pointer (some ⟨(ν 7),0,none⟩)),(98,numV g (ν 5)),(99,numV g (ν 1)),(100,.slice (some ⟨(ν 8),0,none⟩) 1 1),(101,numV g (ν 9)),(102,.pointer (some ⟨(ν 7),2,none⟩)),(103,numV g (ν 6)),(104,numV g (ν 2)),(105,.slice (some ⟨(ν 10),0,none⟩) 1 1),(106,numV g (ν 11)),(107,aN g (ν 9) (ν 11)),(19,.pointer (some ⟨(ν 12),0,none⟩))]) 13 17 [] []
  ⟨Spec.wf_of (by kernel_rfl),dG (by kernel_rfl),bJ ⟨rfl,rfl,rfl,trivial⟩⟩ R6.out (Run.nodup R6.out) (by decide)
  (fun b hM=>aA (aA (aA (aA (aA (aA (aA (aA (aA (aA (aA (aA (aA bT
    (aD b))
    (aI b 2 m3))
    (aI b 2 m1))
    (iG b m4))
    (aL b (xV hM m2 m0 rfl rfl m4 rfl rfl rfl rfl rfl rfl rfl rfl)))
    (aD b))
    (aI b 2 m3))
    (aI b 2 m2))
    (iG b m5))
    (aL b (xV hM m3 m1 rfl rfl m5 rfl rfl rfl rfl rfl rfl rfl rfl)))
    (aD b))
    (cZ b m6))
    (eT b 4 m6)) ?_
 intro ν W7 hν hR;replace hR:Run (bs w) g 17 [((rm8 p),ν 1),((rm10 p),ν 2),((rm11 p),ν 5),((rm12 p),ν 6),((rm13 p),ν 9),((rm14 p),ν 11)] [((ν 0),.cells #[(Value.int IntKind.i64 2),(.float .f64 (fl p.1)),(.float .f64 (fl p.2.1)),(.float .f64 (fl (p.2.2.1*p.2.2.1)))] 89),((ν 3),numO g (ν 1)),((ν 4),numO g (ν 2)),((ν 7),aV g (ν 5) (ν 6)),((ν 8),numO g (ν 1)),((ν 10),numO g (ν 2)),((ν 12),aV g (ν 9) (ν 11))] W7:=hR;have e0:ν 0=b1:=hν 0 rfl;have e1:ν 1=n20:=hν 1 rfl;have e2:ν 2=n23:=hν 2 rfl;have e3:ν 3=b24:=hν 3 rfl;have e4:ν 4=b25:=hν 4 rfl;have e5:ν 5=n26:=hν 5 rfl;have e6:ν 6=n27:=hν 6 rfl;have e7:ν 7=b28:=hν 7 rfl;simp only[e0,e1,e2,e3,e4,e5,e6,e7]at hR|-;clear hν e0 e1 e2 e3 e4 e5 e6 e7;generalize ν 8=b29 at hR|-;generalize ν 9=n30 at hR|-;generalize ν 10=b31 at hR|-;generalize ν 11=n32 at hR|-;generalize ν 12=b33 at hR|-;have R7:=hdd hR;clear hR R6;simp only[putL,aqL,aqM]
 go_upto_region 13 with fail
 refine Spec.run (S:=⟨_,fun i=>([aW g 5 6,aW g 8 9,aW g 11 12,.w (.c (.ptr 13 0)),noS]:List SV).getD i noS,fun n=>([none,none,none,none,none,none,none,none,none,none,none,some 2,some 2,some 3]:List (Option Nat)).getD n none,
  [(1,(rm8 p)),(2,(rm10 p)),(5,(rm11 p)),(6,(rm12 p)),(8,(rm13 p)),(9,(rm14 p)),(11,(rm15 p)),(12,(rm16 p))],[⟨0,89,[.v (Value.int IntKind.i64 2),.v (.float .f64 (fl p.1)),.v (.float .f64 (fl p.2.1)),.v (.float .f64 (fl (p.2.2.1*p.2.2.1)))],none⟩,⟨3,27,numC g 1,none⟩,⟨4,27,numC g 2,none⟩,⟨7,29,aX g 5 6,none⟩,⟨10,29,aX g 8 9,none⟩,⟨13,29,[.v (.pointer none),.v (.int .i64 0),.v (.pointer none),.v (.int .i64 0)],some (4,aX g 11 12)⟩],
  fun i=>([0,0,6,0,0]:List Nat).getD i 0,fun i=>([[],[],[0,1],[],[0,1,2,3]]:List (List Nat)).getD i [],[(18,.w (.c (.ptr 7 0))),(19,.w (.c (.ptr 10 0)))]⟩)
  (W:=runW (bs w) g) (ν0:=fun n=>([b1,n20,n23,b24,b25,n26,n27,b28,n30,n32,b33]:List Nat).getD n 0) (c0:=17)
  (fs:=fun ν=>[(108,aN g (ν 5) (ν 6)),(109,aN g (ν 8) (ν 9)),(110,aN g (ν 11) (ν 12)),(20,.pointer (some ⟨(ν 13),0,none⟩))]) 5 23 [] [true,true,true,true,false,false]
  ⟨Spec.wf_of (by kernel_rfl),dG (by kernel_rfl),bJ ⟨rfl,rfl,trivial⟩⟩ R7.out (Run.nodup R7.out) (by decide)
  (fun b hM=>aA (aA (aA (aA (aA bT
    (aI b 4 m3))
    (aI b 4 m4))
    (aL b (abS hM m2 m3 rfl rfl m4 m5 rfl rfl rfl rfl rfl rfl (by decide) rfl)))
    (cZ b m5))
    (eT b 4 m5)) ?_
 intro ν W8 hν hR;replace hR:Run (bs w) g 23 [((rm8 p),ν 1),((rm10 p),ν 2),((rm11 p),ν 5),((rm12 p),ν 6),((rm13 p),ν 8),((rm14 p),ν 9),((rm15 p),ν 11),((rm16 p),ν 12)] [((ν 0),.cells #[(Value.int IntKind.i64 2),(.float .f64 (fl p.1)),(.float .f64 (fl p.2.1)),(.float .f64 (fl (p.2.2.1*p.2.2.1)))] 89),((ν 3),numO g (ν 1)),((ν 4),numO g (ν 2)),((ν 7),aV g (ν 5) (ν 6)),((ν 10),aV g (ν 8) (ν 9)),((ν 13),aV g (ν 11) (ν 12))] W8:=hR;have e0:ν 0=b1:=hν 0 rfl;have e1:ν 1=n20:=hν 1 rfl;have e2:ν 2=n23:=hν 2 rfl;have e3:ν 3=b24:=hν 3 rfl;have e4:ν 4=b25:=hν 4 rfl;have e5:ν 5=n26:=hν 5 rfl;have e6:ν 6=n27:=hν 6 rfl;have e7:ν 7=b28:=hν 7 rfl;have e8:ν 8=n30:=hν 8 rfl;have e9:ν 9=n32:=hν 9 rfl;have e10:ν 10=b33:=hν 10 rfl;simp only[e0,e1,e2,e3,e4,e5,e6,e7,e8,e9,e10]at hR|-;clear hν e0 e1 e2 e3 e4 e5 e6 e7 e8 e9 e10;generalize ν 11=n34 at hR|-;generalize ν 12=n35 at hR|-;generalize ν 13=b36 at hR|-;have R8:=hdd hR;clear hR R7;simp only[putL,aqL,aqM]
 go_upto_region 14 with fail
 refine Spec.run (S:=⟨_,fun i=>([.w (.c (.ptr 7 0)),numS g 5,numS g 1,.w (.c (.sl 11 1)),numS g 12,.w (.c (.ptr 7 2)),numS g 6,numS g 2,.w (.c (.sl 13 1)),numS g 14,aW g 12 14,.w (.c (.ptr 15 0)),noS]:List SV).getD i noS,fun n=>([none,none,none,none,none,none,none,none,none,none,none,some 3,some 4,some 8,some 9,some 11]:List (Option Nat)).getD n none,
  [(1,(rm8 p)),(2,(rm10 p)),(5,(rm13 p)),(6,(rm14 p)),(8,(rm15 p)),(9,(rm16 p)),(12,(rm17 p)),(14,(rm18 p))],[⟨0,89,[.v (Value.int IntKind.i64 2),.v (.float .f64 (fl p.1)),.v (.float .f64 (fl p.2.1)),.v (.float .f64 (fl (p.2.2.1*p.2.2.1)))],none⟩,⟨3,27,numC g 1,none⟩,⟨4,27,numC g 2,none⟩,⟨7,29,aX g 5 6,none⟩,⟨10,29,aX g 8 9,none⟩,⟨11,27,numC g 1,none⟩,⟨13,27,numC g 2,none⟩,⟨15,29,[.v (.pointer none),.v (.int .i64 0),.v (.pointer none),.v (.int .i64 0)],some (12,aX g 12 14)⟩],
  fun i=>([0,0,0,0,1,0,0,0,0,1,0,0,0]:List Nat).getD i 0,fun i=>([[],[0],[],[2],[0,1,2,3],[],[5],[],[7],[5,6,7,8],[0,1,2,3,4,5,6,7,8,9],[],[0,1,2,3,4,5,6,7,8,9,10,11]]:List (List Nat)).getD i [],[(19,.w (.c (.ptr 7 0))),(16,.w (.c (.ptr 3 0))),(17,.w (.c (.ptr 4 0)))]⟩)
  (W:=runW (bs w) g) (ν0:=fun n=>([b1,n20,n23,b24,b25,n30,n32,b33,n34,n35,b36]:List Nat).getD n 0) (c0:=23)
  (fs:=fun ν=>[(111,.pointer (some ⟨(ν 7),0,none⟩)),(112,numV g (ν 5)),(113,numV g (ν 1)),(114,.slice (some ⟨(ν 11),0,none⟩) 1 1),(115,numV g (ν 12)),(116,.pointer (some ⟨(ν 7),2,none⟩)),(117,numV g (ν 6)),(118,numV g (ν 2)),(119,.slice (some ⟨(ν 13),0,none⟩) 1 1),(120,numV g (ν 14)),(121,aN g (ν 12) (ν 14)),(21,.pointer (some ⟨(ν 15),0,none⟩))]) 13 25 [true,true,false,false] [true,true,true,false]
  ⟨Spec.wf_of (by kernel_rfl),dG (by kernel_rfl),bJ ⟨rfl,rfl,rfl,trivial⟩⟩ R8.out (Run.nodup R8.out) (by decide)
  (fun b hM=>aA (aA (aA (aA (aA (aA (aA (aA (aA (aA (aA (aA (aA bT
    (aD b))
    (aI b 2 m3))
    (aI b 2 m1))
    (iG b m5))
    (aL b (xV hM m2 m0 rfl rfl m5 rfl rfl rfl rfl rfl rfl rfl rfl)))
    (aD b))
    (aI b 2 m3))
    (aI b 2 m2))
    (iG b m6))
    (aL b (xV hM m3 m1 rfl rfl m6 rfl rfl rfl rfl rfl rfl rfl rfl)))
    (aD b))
    (cZ b m7))
    (eT b 4 m7)) ?_
 intro ν W9 hν hR;replace hR:Run (bs w) g 25 [((rm8 p),ν 1),((rm10 p),ν 2),((rm13 p),ν 5),((rm14 p),ν 6),((rm15 p),ν 8),((rm16 p),ν 9),((rm17 p),ν 12),((rm18 p),ν 14)] [((ν 0),.cells #[(Value.int IntKind.i64 2),(.float .f64 (fl p.1)),(.float .f64 (fl p.2.1)),(.float .f64 (fl (p.2.2.1*p.2.2.1)))] 89),((ν 3),numO g (ν 1)),((ν 4),numO g (ν 2)),((ν 7),aV g (ν 5) (ν 6)),((ν 10),aV g (ν 8) (ν 9)),((ν 11),numO g (ν 1)),((ν 13),numO g (ν 2)),((ν 15),aV g (ν 12) (ν 14))] W9:=hR;have e0:ν 0=b1:=hν 0 rfl;have e1:ν 1=n20:=hν 1 rfl;have e2:ν 2=n23:=hν 2 rfl;have e3:ν 3=b24:=hν 3 rfl;have e4:ν 4=b25:=hν 4 rfl;have e5:ν 5=n30:=hν 5 rfl;have e6:ν 6=n32:=hν 6 rfl;have e7:ν 7=b33:=hν 7 rfl;have e8:ν 8=n34:=hν 8 rfl;have e9:ν 9=n35:=hν 9 rfl;have e10:ν 10=b36:=hν 10 rfl;simp only[e0,e1,e2,e3,e4,e5,e6,e7,e8,e9,e10]at hR|-;clear hν e0 e1 e2 e3 e4 e5 e6 e7 e8 e9 e10;generalize ν 11=b37 at hR|-;generalize ν 12=n38 at hR|-;generalize ν 13=b39 at hR|-;generalize ν 14=n40 at hR|-;generalize ν 15=b41 at hR|-
 have R9:=hdd hR;clear hR R8;simp only[putL,aqL,aqM]
 go_upto_region 15 with fail
 refine Spec.run (S:=⟨_,fun i=>([.w (.c (.v (.pointer (some ⟨g,0,none⟩)))),.w (.agg ([.v (Value.int IntKind.i64 2),.v (.float .f64 (fl p.1)),.v (.float .f64 (fl p.2.1)),.v (.float .f64 (fl (p.2.2.1*p.2.2.1)))])),aW g 1 2,numS g 10,.tup [.c (.v (.int .i64 0)),.c (.v .nilIface)],.tup [.c (.v (.int .i64 0)),.c (.v .nilIface)],.w (.c (.v (.int .i64 0))),.w (.c (.v .nilIface)),.w (.c (.v (.int .i64 0))),.w (.c (.v .nilIface))]:List SV).getD i noS,fun n=>([none,none,none,none,none,none,none,none,none,none,some 3]:List (Option Nat)).getD n none,
  [(1,(rm13 p)),(2,(rm14 p)),(4,(rm15 p)),(5,(rm16 p)),(7,(rm17 p)),(8,(rm18 p)),(10,(rm19 p))],[⟨0,89,[.v (Value.int IntKind.i64 2),.v (.float .f64 (fl p.1)),.v (.float .f64 (fl p.2.1)),.v (.float .f64 (fl (p.2.2.1*p.2.2.1)))],none⟩,⟨3,29,aX g 1 2,none⟩,⟨6,29,aX g 4 5,none⟩,⟨9,29,aX g 7 8,none⟩],
  fun i=>([0,0,0,9,0,0,0,0,0,0]:List Nat).getD i 0,fun i=>([[],[],[],[0,1,2],[0,1,2,3],[0,1,2,3,4],[0,1,2,3,4,5],[0,1,2,3,4,5],[0,1,2,3,4,5,6],[0,1,2,3,4,5,7]]:List (List Nat)).getD i [],[(9,.w (.c (.v (.pointer (some ⟨g,0,none⟩))))),(10,.w (.c (.ptr 0 0))),(19,.w (.c (.ptr 3 0)))]⟩)
  (W:=runW (bs w) g) (ν0:=fun n=>([b1,n30,n32,b33,n34,n35,b36,n38,n40,b41]:List Nat).getD n 0) (c0:=25)
  (fs:=fun ν=>[(123,.pointer (some ⟨g,0,none⟩)),(124,.agg #[(Value.int IntKind.i64 2),(.float .f64 (fl p.1)),(.float .f64 (fl p.2.1)),(.float .f64 (fl (p.2.2.1*p.2.2.1)))]),(125,aN g (ν 1) (ν 2)),(126,numV g (ν 10)),(127,.tuple #[(.int .i64 0),.nilIface]),(122,.tuple #[(.int .i64 0),.nilIface]),(128,(.int .i64 0)),(129,.nilIface),(22,(.int .i64 0)),(23,.nilIface)]) 10 34 [false,false] [true,false,false,true,true,false,false]
  ⟨Spec.wf_of (by kernel_rfl),dG (by kernel_rfl),bJ ⟨rfl,rfl,rfl,trivial⟩⟩ R9.out (Run.nodup R9.out) (by decide)
  (fun b hM=>aA (aA (aA (aA (aA (aA (aA (aA (aA (aA bT
    (aD b))
    (aI b 4 m0))
    (aI b 4 m1))
    (aL b (c_fn (ix:=[0,1]) (ts:=[10]) hM (fun ν=>an1 (ca:=(fl p.1)) (cb:=(fl p.2.1)) (cc:=(fl (p.2.2.1*p.2.2.1))) ⟨FX.out.1,FX.out.2⟩ ⟨FY.out.1,FY.out.2⟩ ⟨FC.out.1.1,FC.out.1.2⟩))))
    (aL b (ajM hM m6 rfl rfl rfl rfl TT.out.1)))
    (aD b))
    (aD b))
    (aD b))
    (aD b))
    (aD b)) ?_
 intro ν W10 hν hR;replace hR:Run (bs w) g 34 [((rm13 p),ν 1),((rm14 p),ν 2),((rm15 p),ν 4),((rm16 p),ν 5),((rm17 p),ν 7),((rm18 p),ν 8),((rm19 p),ν 10)] [((ν 0),.cells #[(Value.int IntKind.i64 2),(.float .f64 (fl p.1)),(.float .f64 (fl p.2.1)),(.float .f64 (fl (p.2.2.1*p.2.2.1)))] 89),((ν 3),aV g (ν 1) (ν 2)),((ν 6),aV g (ν 4) (ν 5)),((ν 9),aV g (ν 7) (ν 8))] W10:=hR;have e0:ν 0=b1:=hν 0 rfl;have e1:ν 1=n30:=hν 1 rfl;have e2:ν 2=n32:=hν 2 rfl;have e3:ν 3=b33:=hν 3 rfl;have e4:ν 4=n34:=hν 4 rfl;have e5:ν 5=n35:=hν 5 rfl;have e6:ν 6=b36:=hν 6 rfl;have e7:ν 7=n38:=hν 7 rfl;have e8:ν 8=n40:=hν 8 rfl;have e9:ν 9=b41:=hν 9 rfl;simp only[e0,e1,e2,e3,e4,e5,e6,e7,e8,e9]at hR|-;clear hν e0 e1 e2 e3 e4 e5 e6 e7 e8 e9;generalize ν 10=n42 at hR|-;have R10:=hdd hR;clear hR R9;simp only[putL,aqL,aqM]
 go_upto_region 16 with fail
 refine Spec.run (S:=⟨_,fun i=>([.w (.c (.v (.pointer (some ⟨g,0,none⟩)))),.w (.agg ([.v (Value.int IntKind.i64 2),.v (.float .f64 (fl p.1)),.v (.float .f64 (fl p.2.1)),.v (.float .f64 (fl (p.2.2.1*p.2.2.1)))])),aW g 4 5,numS g 10,.tup [.c (.v (.int .i64 (-1))),.c (.v .nilIface)],.tup [.c (.v (.int .i64 (-1))),.c (.v .nilIface)],.w (.c (.v (.int .i64 (-1)))),.w (.c (.v .nilIface)),.w (.c (.v (.int .i64 (-1)))),.w (.c (.v .nilIface))]:List SV).getD i noS,fun n=>([none,none,none,none,none,none,none,none,none,none,some 3]:List (Option Nat)).getD n none,
  [(1,(rm13 p)),(2,(rm14 p)),(4,(rm15 p)),(5,(rm16 p)),(7,(rm17 p)),(8,(rm18 p)),(10,(rm20 p))],[⟨0,89,[.v (Value.int IntKind.i64 2),.v (.float .f64 (fl p.1)),.v (.float .f64 (fl p.2.1)),.v (.float .f64 (fl (p.2.2.1*p.2.2.1)))],none⟩,⟨3,29,aX g 1 2,none⟩,⟨6,29,aX g 4 5,none⟩,⟨9,29,aX g 7 8,none⟩],
  fun i=>([0,0,0,9,0,0,0,0,0,0]:List Nat).getD i 0,fun i=>([[],[],[],[0,1,2],[0,1,2,3],[0,1,2,3,4],[0,1,2,3,4,5],[0,1,2,3,4,5],[0,1,2,3,4,5,6],[0,1,2,3,4,5,7]]:List (List Nat)).getD i [],[(9,.w (.c (.v (.pointer (some ⟨g,0,none⟩))))),(10,.w (.c (.ptr 0 0))),(20,.w (.c (.ptr 6 0)))]⟩)
  (W:=runW (bs w) g) (ν0:=fun n=>([b1,n30,n32,b33,n34,n35,b36,n38,n40,b41]:List Nat).getD n 0) (c0:=34)
  (fs:=fun ν=>[(131,.pointer (some ⟨g,0,none⟩)),(132,.agg #[(Value.int IntKind.i64 2),(.float .f64 (fl p.1)),(.float .f64 (fl p.2.1)),(.float .f64 (fl (p.2.2.1*p.2.2.1)))]),(133,aN g (ν 4) (ν 5)),(134,numV g (ν 10)),(135,.tuple #[(.int .i64 (-1)),.nilIface]),(130,.tuple #[(.int .i64 (-1)),.nilIface]),(136,(.int .i64 (-1))),(137,.nilIface),(24,(.int .i64 (-1))),(25,.nilIface)]) 10 43 [true,true,true,true,true,true,false] []
  ⟨Spec.wf_of (by kernel_rfl),dG (by kernel_rfl),bJ ⟨rfl,rfl,rfl,trivial⟩⟩ R10.out (Run.nodup R10.out) (by decide)
  (fun b hM=>aA (aA (aA (aA (aA (aA (aA (aA (aA (aA bT
    (aD b))
    (aI b 4 m0))
    (aI b 4 m2))
    (aL b (c_fn (ix:=[2,3]) (ts:=[10]) hM (fun ν=>an1 (ca:=(fl p.1)) (cb:=(fl p.2.1)) (cc:=(fl (p.2.2.1*p.2.2.1))) ⟨FX.out.1,FX.out.2⟩ ⟨FY.out.1,FY.out.2⟩ ⟨FC.out.1.1,FC.out.1.2⟩))))
    (aL b (ajM hM m6 rfl rfl rfl rfl TT.out.2.1)))
    (aD b))
    (aD b))
    (aD b))
    (aD b))
    (aD b)) ?_
 intro ν W11 hν hR;replace hR:Run (bs w) g 43 [((rm13 p),ν 1),((rm14 p),ν 2),((rm15 p),ν 4),((rm16 p),ν 5),((rm17 p),ν 7),((rm18 p),ν 8),((rm20 p),ν 10)] [((ν 0),.cells #[(Value.int IntKind.i64 2),(.float .f64 (fl p.1)),(.float .f64 (fl p.2.1)),(.float .f64 (fl (p.2.2.1*p.2.2.1)))] 89),((ν 3),aV g (ν 1) (ν 2)),((ν 6),aV g (ν 4) (ν 5)),((ν 9),aV g (ν 7) (ν 8))] W11:=hR;have e0:ν 0=b1:=hν 0 rfl;have e1:ν 1=n30:=hν 1 rfl;have e2:ν 2=n32:=hν 2 rfl;have e3:ν 3=b33:=hν 3 rfl;have e4:ν 4=n34:=hν 4 rfl;have e5:ν 5=n35:=hν 5 rfl;have e6:ν 6=b36:=hν 6 rfl;have e7:ν 7=n38:=hν 7 rfl;have e8:ν 8=n40:=hν 8 rfl;have e9:ν 9=b41:=hν 9 rfl;simp only[e0,e1,e2,e3,e4,e5,e6,e7,e8,e9]at hR|-;clear hν e0 e1 e2 e3 e4 e5 e6 e7 e8 e9;generalize ν 10=n43 at hR|-;have R11:=hdd hR;clear hR R10;simp only[putL,aqL,aqM]
 go_upto_region 17 with fail
 refine Spec.run (S:=⟨_,fun i=>([.w (.c (.v (.pointer (some ⟨g,0,none⟩)))),.w (.agg ([.v (Value.int IntKind.i64 2),.v (.float .f64 (fl p.1)),.v (.float .f64 (fl p.2.1)),.v (.float .f64 (fl (p.2.2.1*p.2.2.1)))])),aW g 4 5,numS g 7,.tup [.c (.v (.int .i64 1)),.c (.v .nilIface)],.tup [.c (.v (.int .i64 1)),.c (.v .nilIface)],.w (.c (.v (.int .i64 1))),.w (.c (.v .nilIface)),.w (.c (.v (.int .i64 1))),.w (.c (.v .nilIface))]:List SV).getD i noS,fun n=>([none,none,none,none,none,none,none,some 3]:List (Option Nat)).getD n none,
  [(1,(rm13 p)),(2,(rm14 p)),(4,(rm17 p)),(5,(rm18 p)),(7,(rm21 p))],[⟨0,89,[.v (Value.int IntKind.i64 2),.v (.float .f64 (fl p.1)),.v (.float .f64 (fl p.2.1)),.v (.float .f64 (fl (p.2.2.1*p.2.2.1)))],none⟩,⟨3,29,aX g 1 2,none⟩,⟨6,29,aX g 4 5,none⟩],
  fun i=>([0,0,0,9,0,0,0,0,0,0]:List Nat).getD i 0,fun i=>([[],[],[],[0,1,2],[0,1,2,3],[0,1,2,3,4],[0,1,2,3,4,5],[0,1,2,3,4,5],[0,1,2,3,4,5,6],[0,1,2,3,4,5,7]]:List (List Nat)).getD i [],[(9,.w (.c (.v (.pointer (some ⟨g,0,none⟩))))),(10,.w (.c (.ptr 0 0))),(21,.w (.c (.ptr 6 0)))]⟩)
  (W:=runW (bs w) g) (ν0:=fun n=>([b1,n30,n32,b33,n38,n40,b41]:List Nat).getD n 0) (c0:=43)
  (fs:=fun ν=>[(139,.pointer (some ⟨g,0,none⟩)),(140,.agg #[(Value.int IntKind.i64 2),(.float .f64 (fl p.1)),(.float .f64 (fl p.2.1)),(.float .f64 (fl (p.2.2.1*p.2.2.1)))]),(141,aN g (ν 4) (ν 5)),(142,numV g (ν 7)),(143,.tuple #[(.int .i64 1),.nilIface]),(138,.tuple #[(.int .i64 1),.nilIface]),(144,(.int .i64 1)),(145,.nilIface),(26,(.int .i64 1)),(27,.nilIface)]) 10 52 [true,true,false,false,true,true,false] [true,true,false]
  ⟨Spec.wf_of (by kernel_rfl),dG (by kernel_rfl),bJ ⟨rfl,rfl,rfl,trivial⟩⟩ R11.out (Run.nodup R11.out) (by decide)
  (fun b hM=>aA (aA (aA (aA (aA (aA (aA (aA (aA (aA bT
    (aD b))
    (aI b 4 m0))
    (aI b 4 m2))
    (aL b (c_fn (ix:=[2,3]) (ts:=[7]) hM (fun ν=>an1 (ca:=(fl p.1)) (cb:=(fl p.2.1)) (cc:=(fl (p.2.2.1*p.2.2.1))) ⟨FX.out.1,FX.out.2⟩ ⟨FY.out.1,FY.out.2⟩ ⟨FC.out.1.1,FC.out.1.2⟩))))
    (aL b (ajM hM m4 rfl rfl rfl rfl TT.out.2.2.1)))
    (aD b))
    (aD b))
    (aD b))
    (aD b))
    (aD b)) ?_
 intro ν W12 hν hR;replace hR:Run (bs w) g 52 [((rm13 p),ν 1),((rm14 p),ν 2),((rm17 p),ν 4),((rm18 p),ν 5),((rm21 p),ν 7)] [((ν 0),.cells #[(Value.int IntKind.i64 2),(.float .f64 (fl p.1)),(.float .f64 (fl p.2.1)),(.float .f64 (fl (p.2.2.1*p.2.2.1)))] 89),((ν 3),aV g (ν 1) (ν 2)),((ν 6),aV g (ν 4) (ν 5))] W12:=hR;have e0:ν 0=b1:=hν 0 rfl;have e1:ν 1=n30:=hν 1 rfl;have e2:ν 2=n32:=hν 2 rfl;have e3:ν 3=b33:=hν 3 rfl;have e4:ν 4=n38:=hν 4 rfl;have e5:ν 5=n40:=hν 5 rfl;have e6:ν 6=b41:=hν 6 rfl;simp only[e0,e1,e2,e3,e4,e5,e6]at hR|-;clear hν e0 e1 e2 e3 e4 e5 e6;generalize ν 7=n44 at hR|-;have R12:=hdd hR;clear hR R11;simp only[putL,aqL,aqM]
 go_upto_region 18 with fail
 refine Spec.run (S:=⟨_,fun i=>([.w (.c (.v (.pointer (some ⟨g,0,none⟩)))),.w (.agg ([.v (Value.int IntKind.i64 2),.v (.float .f64 (fl p.1)),.v (.float .f64 (fl p.2.1)),.v (.float .f64 (fl (p.2.2.1*p.2.2.1)))])),.tup [.agg (aX g 4 5),.agg (aX g 6 7),.c (.v .nilIface)],.tup [.agg (aX g 4 5),.agg (aX g 6 7),.c (.v .nilIface)],aW g 4 5,aW g 6 7,.w (.c (.v .nilIface)),.w (.c (.ptr 8 0)),.w (.c (.ptr 9 0)),noS,noS,.w (.c (.v .nilIface))]:List SV).getD i noS,fun n=>([none,none,none,none,some 2,some 2,some 2,some 2,some 7,some 8]:List (Option Nat)).getD n none,
  [(1,(rm13 p)),(2,(rm14 p)),(4,(rm22 p)),(5,(rm12 p)),(6,(rm23 p)),(7,(rm12 p))],[⟨0,89,[.v (Value.int IntKind.i64 2),.v (.float .f64 (fl p.1)),.v (.float .f64 (fl p.2.1)),.v (.float .f64 (fl (p.2.2.1*p.2.2.1)))],none⟩,⟨3,29,aX g 1 2,none⟩,⟨8,29,[.v (.pointer none),.v (.int .i64 0),.v (.pointer none),.v (.int .i64 0)],some (9,aX g 4 5)⟩,⟨9,29,[.v (.pointer none),.v (.int .i64 0),.v (.pointer none),.v (.int .i64 0)],some (10,aX g 6 7)⟩],
  fun i=>([0,0,6,0,0,0,0,0,0,0,0,0]:List Nat).getD i 0,fun i=>([[],[],[0,1],[0,1,2],[0,1,2,3],[0,1,2,3],[0,1,2,3],[],[],[0,1,2,3,4,7,8],[0,1,2,3,4,5,7,8,9],[0,1,2,3,6]]:List (List Nat)).getD i [],[(9,.w (.c (.v (.pointer (some ⟨g,0,none⟩))))),(10,.w (.c (.ptr 0 0)))]⟩)
  (W:=runW (bs w) g) (ν0:=fun n=>([b1,n30,n32,b33]:List Nat).getD n 0) (c0:=52)
  (fs:=fun ν=>[(147,.pointer (some ⟨g,0,none⟩)),(148,.agg #[(Value.int IntKind.i64 2),(.float .f64 (fl p.1)),(.float .f64 (fl p.2.1)),(.float .f64 (fl (p.2.2.1*p.2.2.1)))]),(149,.tuple #[aN g (ν 4) (ν 5),aN g (ν 6) (ν 7),.nilIface]),(146,.tuple #[aN g (ν 4) (ν 5),aN g (ν 6) (ν 7),.nilIface]),(150,aN g (ν 4) (ν 5)),(151,aN g (ν 6) (ν 7)),(152,.nilIface),(28,.pointer (some ⟨(ν 8),0,none⟩)),(29,.pointer (some ⟨(ν 9),0,none⟩)),(30,.nilIface)]) 12 58 [true,true,false,false,false] [true,true,false]
  ⟨Spec.wf_of (by kernel_rfl),dG (by kernel_rfl),bJ ⟨rfl,rfl,trivial⟩⟩ R12.out (Run.nodup R12.out) (by decide)
  (fun b hM=>aA (aA (aA (aA (aA (aA (aA (aA (aA (aA (aA (aA bT
    (aD b))
    (aI b 4 m0))
    (aL b (c_fn (ix:=[]) (ts:=[4,5,6,7]) hM (fun ν=>aoD (ca:=(fl p.1)) (cb:=(fl p.2.1)) (cc:=(fl (p.2.2.1*p.2.2.1))) ⟨FX.out.1,FX.out.2⟩ ⟨FY.out.1,FY.out.2⟩ ⟨FC.out.1.1,FC.out.1.2⟩ FC.out.2))))
    (aD b))
    (aD b))
    (aD b))
    (aD b))
    (cZ b m2))
    (cZ b m3))
    (eT b 4 m2))
    (eT b 4 m3))
    (aD b)) ?_
 intro ν W13 hν hR;replace hR:Run (bs w) g 58 [((rm13 p),ν 1),((rm14 p),ν 2),((rm22 p),ν 4),((rm12 p),ν 5),((rm23 p),ν 6),((rm12 p),ν 7)] [((ν 0),.cells #[(Value.int IntKind.i64 2),(.float .f64 (fl p.1)),(.float .f64 (fl p.2.1)),(.float .f64 (fl (p.2.2.1*p.2.2.1)))] 89),((ν 3),aV g (ν 1) (ν 2)),((ν 8),aV g (ν 4) (ν 5)),((ν 9),aV g (ν 6) (ν 7))] W13:=hR;have e0:ν 0=b1:=hν 0 rfl;have e1:ν 1=n30:=hν 1 rfl;have e2:ν 2=n32:=hν 2 rfl;have e3:ν 3=b33:=hν 3 rfl;simp only[e0,e1,e2,e3]at hR|-;clear hν e0 e1 e2 e3;generalize ν 4=n45 at hR|-;generalize ν 5=n46 at hR|-;generalize ν 6=n47 at hR|-;generalize ν 7=n48 at hR|-;generalize ν 8=b49 at hR|-;generalize ν 9=b50 at hR|-;have R13:=hdd hR;clear hR R12;simp only[putL,aqL,aqM]
 go_upto_region 19 with fail
 refine Spec.run (S:=⟨_,fun i=>([aW g 3 4,aW g 0 1,.tup [.c (.v (.int .i64 q1)),.c (.v .nilIface)],.tup [.c (.v (.int .i64 q1)),.c (.v .nilIface)],.w (.c (.v (.int .i64 q1))),.w (.c (.v .nilIface)),.w (.c (.v (.int .i64 q1))),.w (.c (.v .nilIface))]:List SV).getD i noS,fun n=>([none,none,none,none,none,none,none,none,none]:List (Option Nat)).getD n none,
  [(0,(rm13 p)),(1,(rm14 p)),(3,(rm22 p)),(4,(rm12 p)),(5,(rm23 p)),(6,(rm12 p))],[⟨2,29,aX g 0 1,none⟩,⟨7,29,aX g 3 4,none⟩,⟨8,29,aX g 5 6,none⟩],
  fun i=>([0,0,2,0,0,0,0,0]:List Nat).getD i 0,fun i=>([[],[],[0,1],[0,1,2],[0,1,2,3],[0,1,2,3],[0,1,2,3,4],[0,1,2,3,5]]:List (List Nat)).getD i [],[(28,.w (.c (.ptr 7 0))),(19,.w (.c (.ptr 2 0)))]⟩)
  (W:=runW (bs w) g) (ν0:=fun n=>([n30,n32,b33,n45,n46,n47,n48,b49,b50]:List Nat).getD n 0) (c0:=58)
  (fs:=fun ν=>[(154,aN g (ν 3) (ν 4)),(155,aN g (ν 0) (ν 1)),(156,.tuple #[(.int .i64 q1),.nilIface]),(153,.tuple #[(.int .i64 q1),.nilIface]),(157,(.int .i64 q1)),(158,.nilIface),(31,(.int .i64 q1)),(32,.nilIface)]) 8 60 [] [false]
  ⟨Spec.wf_of (by kernel_rfl),dG (by kernel_rfl),bJ ⟨rfl,rfl,trivial⟩⟩ R13.out (Run.nodup R13.out) (by decide)
  (fun b hM=>aA (aA (aA (aA (aA (aA (aA (aA bT
    (aI b 4 m1))
    (aI b 4 m0))
    (aL b (aoT hM m2 m3 rfl rfl m0 m1 rfl rfl rfl rfl rfl TT.out.2.2.2.1)))
    (aD b))
    (aD b))
    (aD b))
    (aD b))
    (aD b)) ?_
 intro ν W14 hν hR;replace hR:Run (bs w) g 60 [((rm13 p),ν 0),((rm14 p),ν 1),((rm22 p),ν 3),((rm12 p),ν 4),((rm23 p),ν 5),((rm12 p),ν 6)] [((ν 2),aV g (ν 0) (ν 1)),((ν 7),aV g (ν 3) (ν 4)),((ν 8),aV g (ν 5) (ν 6))] W14:=hR;have e0:ν 0=n30:=hν 0 rfl;have e1:ν 1=n32:=hν 1 rfl;have e2:ν 2=b33:=hν 2 rfl;have e3:ν 3=n45:=hν 3 rfl;have e4:ν 4=n46:=hν 4 rfl;have e5:ν 5=n47:=hν 5 rfl;have e6:ν 6=n48:=hν 6 rfl;have e7:ν 7=b49:=hν 7 rfl;have e8:ν 8=b50:=hν 8 rfl;simp only[e0,e1,e2,e3,e4,e5,e6,e7,e8]at hR|-;clear hν e0 e1 e2 e3 e4 e5 e6 e7 e8;have R14:=hdd hR;clear hR R13;simp only[putL,aqL,aqM]
 go_upto_region 20 with fail
 refine Spec.run (S:=⟨_,fun i=>([aW g 0 1,aW g 3 4,.tup [.c (.v (.int .i64 q2)),.c (.v .nilIface)],.tup [.c (.v (.int .i64 q2)),.c (.v .nilIface)],.w (.c (.v (.int .i64 q2))),.w (.c (.v .nilIface)),.w (.c (.v (.int .i64 q2))),.w (.c (.v .nilIface))]:List SV).getD i noS,fun n=>([none,none,none,none,none,none]:List (Option Nat)).getD n none,
  [(0,(rm13 p)),(1,(rm14 p)),(3,(rm23 p)),(4,(rm12 p))],[⟨2,29,aX g 0 1,none⟩,⟨5,29,aX g 3 4,none⟩],
  fun i=>([0,0,2,0,0,0,0,0]:List Nat).getD i 0,fun i=>([[],[],[0,1],[0,1,2],[0,1,2,3],[0,1,2,3],[0,1,2,3,4],[0,1,2,3,5]]:List (List Nat)).getD i [],[(19,.w (.c (.ptr 2 0))),(29,.w (.c (.ptr 5 0)))]⟩)
  (W:=runW (bs w) g) (ν0:=fun n=>([n30,n32,b33,n47,n48,b50]:List Nat).getD n 0) (c0:=60)
  (fs:=fun ν=>[(160,aN g (ν 0) (ν 1)),(161,aN g (ν 3) (ν 4)),(162,.tuple #[(.int .i64 q2),.nilIface]),(159,.tuple #[(.int .i64 q2),.nilIface]),(163,(.int .i64 q2)),(164,.nilIface),(33,(.int .i64 q2)),(34,.nilIface)]) 8 62 [true,true,false,false] [true,false]
  ⟨Spec.wf_of (by kernel_rfl),dG (by kernel_rfl),bJ ⟨rfl,rfl,trivial⟩⟩ R14.out (Run.nodup R14.out) (by decide)
  (fun b hM=>aA (aA (aA (aA (aA (aA (aA (aA bT
    (aI b 4 m0))
    (aI b 4 m1))
    (aL b (aoT hM m0 m1 rfl rfl m2 m3 rfl rfl rfl rfl rfl TT.out.2.2.2.2)))
    (aD b))
    (aD b))
    (aD b))
    (aD b))
    (aD b)) ?_
 intro ν W15 hν hR;replace hR:Run (bs w) g 62 [((rm13 p),ν 0),((rm14 p),ν 1),((rm23 p),ν 3),((rm12 p),ν 4)] [((ν 2),aV g (ν 0) (ν 1)),((ν 5),aV g (ν 3) (ν 4))] W15:=hR;have e0:ν 0=n30:=hν 0 rfl;have e1:ν 1=n32:=hν 1 rfl;have e2:ν 2=b33:=hν 2 rfl;have e3:ν 3=n47:=hν 3 rfl;have e4:ν 4=n48:=hν 4 rfl;have e5:ν 5=b50:=hν 5 rfl;simp only[e0,e1,e2,e3,e4,e5]at hR|-;clear hν e0 e1 e2 e3 e4 e5;have R15:=hdd hR;clear hR R14;simp only[putL,aqL,aqM];have HB:=hdd R15.out.below;clear R15;have d1:decide (q1<=0)=true:=decide_eq_true HQ.out.1;have d2:decide (q2<=0)=true:=decide_eq_true HQ.out.2;go_wp2;go_ret;exact⟨rfl,HB.out⟩
end Go.Proofs.YtgodkfgnhpnhcaaGreatDoor
