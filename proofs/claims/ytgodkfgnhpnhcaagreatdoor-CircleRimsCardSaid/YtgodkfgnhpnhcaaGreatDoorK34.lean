/- A part of the proof: contracts of functions and plain laws (SpE, QlA, QlC, SmA, AlvA, SpF). -/
import Derived.Test.YtgodkfgnhpnhcaaGreatDoorK33
import Derived.Deep.Cut
import Derived.Deep.DeepCutAuto
import Derived.Test.YtgodkfgnhpnhcaaGreatDoorK30
set_option linter.unusedVariables false
set_option linter.unusedSimpArgs false
set_option maxHeartbeats 25600000
set_option maxRecDepth 100000
namespace Go.Proofs.YtgodkfgnhpnhcaaGreatDoor
open Go.RowKit Go.Maps
open List renaming setIfInBounds_toArray->beP,set->beQ,not_mem_nil->beR,mem_cons->beS
variable{AX AY BX EY:Ex}{ns:List Nd}{B ax ay bx ey:Nat}{w:World}
abbrev oH(x:Ex):Ex:=.div x (.leaf 4611686018427387904)
abbrev midE(x y:Ex):Ex:=oH (.add x y)
abbrev sqrX(ax ay bx ey:Ex):Ex:=.add (.mul (.sub ax bx) (.sub ax bx)) (.mul (.sub ay ey) (.sub ay ey))
abbrev anQ(ax ay bx ey cx cy:Ex):Ex:=.sub (.mul (.sub bx ax) (.sub cy ay)) (.mul (.sub ey ay) (.sub cx ax))
abbrev kE(P:Ex->Prop)(ax ay bx ey cx cy:Ex)(s:Int):Prop:=iJ P (anQ ax ay bx ey cx cy) s
theorem ajO{N:Nat}{g i:Nat}{X:Ex}(hs:St PT B N w g ns)(hN:N+2<=20000)(hi:Is ns X i):
 Calls Tryz.prog 70 #[numV g i] w (RetE PT B (N+2) w g ns (numV g) (oH X)):=by
 have R1:=hdd (Run.enter (K:=[(X,i)]) hs (by
  intro p hp;simp only[beS,beR,or_false]at hp;rcases hp with rfl<;>assumption))
 clear hs hi;go_enter Tryz.func70,Tryz.ntmps70
 go_upto_region 0 with fail
 refine Spec.run (S:=⟨_,fun i=>([.w (.c (.ptr 1 0)),.w (.c (.ptr 2 0))]:List SV).getD i noS,fun n=>([none,some 0,some 1]:List (Option Nat)).getD n none,
  [(0,X)],[⟨1,27,numC g 0,none⟩,⟨2,27,[.v (.pointer none),.v (.int .i64 0)],none⟩],
  fun i=>([0,0]:List Nat).getD i 0,fun i=>([[],[]]:List (List Nat)).getD i [],[(0,numS g 0)]⟩)
  (W:=runW ⟨w,B,ns⟩ g) (ν0:=fun n=>([i]:List Nat).getD n 0) (c0:=N)
  (fs:=fun ν=>[(1,.pointer (some ⟨(ν 1),0,none⟩)),(2,.pointer (some ⟨(ν 2),0,none⟩))]) 2 N [] []
  ⟨Spec.wf_of (by kernel_rfl),dG (by kernel_rfl),bJ ⟨rfl,trivial⟩⟩ R1.out (Run.nodup R1.out) (by omega)
  (fun b hM=>aA (aA bT
    (cZ b m0))
    (cZ b m1)) ?_
 intro ν W2 hν hR;replace hR:Run ⟨w,B,ns⟩ g N [(X,ν 0)] [((ν 1),numO g (ν 0)),((ν 2),.cells #[.pointer none,.int .i64 0] 27)] W2:=hR;have e0:ν 0=i:=hν 0 rfl;simp only[e0]at hR|-;clear hν e0;generalize ν 1=b1 at hR|-;generalize ν 2=b2 at hR|-;have R2:=hdd hR;clear hR R1;simp only[putL,beP,beQ]
 go_upto_region 1 with fail
 refine Spec.run (S:=⟨_,fun i=>([numS g 0,.w (.c (.ptr 1 0)),.w (.c (.v (.pointer (some ⟨g,0,none⟩)))),numS g 3,numS g 4,noS]:List SV).getD i noS,fun n=>([none,none,none,some 3,some 4]:List (Option Nat)).getD n none,
  [(0,X),(3,(.leaf 4611686018427387904)),(4,(.div X (.leaf 4611686018427387904)))],[⟨1,27,numC g 0,none⟩,⟨2,27,[.v (.pointer none),.v (.int .i64 0)],some (5,numC g 4)⟩],
  fun i=>([0,0,0,1,1,0]:List Nat).getD i 0,fun i=>([[],[],[1],[1,2],[0,1,2,3],[0,1,2,3,4]]:List (List Nat)).getD i [],[(1,.w (.c (.ptr 1 0))),(2,.w (.c (.ptr 2 0)))]⟩)
  (W:=runW ⟨w,B,ns⟩ g) (ν0:=fun n=>([i,b1,b2]:List Nat).getD n 0) (c0:=N)
  (fs:=fun ν=>[(3,numV g (ν 0)),(4,.pointer (some ⟨(ν 1),0,none⟩)),(5,.pointer (some ⟨g,0,none⟩)),(6,numV g (ν 3)),(7,numV g (ν 4))]) 6 (N+2) [] []
  ⟨Spec.wf_of (by kernel_rfl),dG (by kernel_rfl),bJ ⟨rfl,rfl,trivial⟩⟩ R2.out (Run.nodup R2.out) (by omega)
  (fun b hM=>aA (aA (aA (aA (aA (aA bT
    (aI b 2 m0))
    (aD b))
    (iF b m0))
    (aL b (c_of hM (by decide) (by decide) rfl rfl rfl rfl)))
    (aL b (anP hM m0 m1 rfl rfl rfl rfl rfl rfl)))
    (eT b 2 m1)) ?_
 intro ν W3 hν hR;replace hR:Run ⟨w,B,ns⟩ g (N+2) [(X,ν 0),((.leaf 4611686018427387904),ν 3),((.div X (.leaf 4611686018427387904)),ν 4)] [((ν 1),numO g (ν 0)),((ν 2),numO g (ν 4))] W3:=hR;have e0:ν 0=i:=hν 0 rfl;have e1:ν 1=b1:=hν 1 rfl;have e2:ν 2=b2:=hν 2 rfl;simp only[e0,e1,e2]at hR|-;clear hν e0 e1 e2;generalize ν 3=n3 at hR|-;generalize ν 4=n4 at hR|-;have R3:=hdd hR;clear hR R2;simp only[putL,beP,beQ];go_wp2;obtain⟨x0,x1,-,-⟩:=aC (R3.out.at m1);refine bodyPost_ret (v:=.agg #[_,_]) (by simp[results,Tryz.results70,go_sem,x0,x1];first|exact⟨rfl,rfl⟩|rfl) rfl ?_;exact R3.out.num m2
theorem ac1{N:Nat}{g:Nat}(hs:St PT B N w g ns)(hN:N+5<=20000)(hax:Is ns AX ax)(hay:Is ns AY ay)(hbx:Is ns BX bx)(hey:Is ns EY ey):
 Calls Tryz.prog 19 #[aN g ax ay,aN g bx ey] w (RetE PT B (N+5) w g ns (numV g) (sqrX AX AY BX EY)):=by
 have R1:=hdd (Run.enter (K:=[(AX,ax),(AY,ay),(BX,bx),(EY,ey)]) hs (by
  intro p hp;simp only[beS,beR,or_false]at hp;rcases hp with rfl|rfl|rfl|rfl<;>assumption))
 clear hs hax hay hbx hey;go_enter Tryz.func19,Tryz.ntmps19
 go_upto_region 0 with fail
 refine Spec.run (S:=⟨_,fun i=>([.w (.c (.ptr 4 0)),.w (.c (.ptr 5 0)),.w (.c (.ptr 6 0))]:List SV).getD i noS,fun n=>([none,none,none,none,some 0,some 1,some 2]:List (Option Nat)).getD n none,
  [(0,AX),(1,AY),(2,BX),(3,EY)],[⟨4,29,aX g 0 1,none⟩,⟨5,29,aX g 2 3,none⟩,⟨6,27,[.v (.pointer none),.v (.int .i64 0)],none⟩],
  fun i=>([0,0,0]:List Nat).getD i 0,fun i=>([[],[],[]]:List (List Nat)).getD i [],[(0,aW g 0 1),(1,aW g 2 3)]⟩)
  (W:=runW ⟨w,B,ns⟩ g) (ν0:=fun n=>([ax,ay,bx,ey]:List Nat).getD n 0) (c0:=N)
  (fs:=fun ν=>[(2,.pointer (some ⟨(ν 4),0,none⟩)),(3,.pointer (some ⟨(ν 5),0,none⟩)),(4,.pointer (some ⟨(ν 6),0,none⟩))]) 3 N [] []
  ⟨Spec.wf_of (by kernel_rfl),dG (by kernel_rfl),bJ ⟨rfl,rfl,trivial⟩⟩ R1.out (Run.nodup R1.out) (by omega)
  (fun b hM=>aA (aA (aA bT
    (cZ b m0))
    (cZ b m1))
    (cZ b m2)) ?_
 intro ν W2 hν hR;replace hR:Run ⟨w,B,ns⟩ g N [(AX,ν 0),(AY,ν 1),(BX,ν 2),(EY,ν 3)] [((ν 4),aV g (ν 0) (ν 1)),((ν 5),aV g (ν 2) (ν 3)),((ν 6),.cells #[.pointer none,.int .i64 0] 27)] W2:=hR;have e0:ν 0=ax:=hν 0 rfl;have e1:ν 1=ay:=hν 1 rfl;have e2:ν 2=bx:=hν 2 rfl;have e3:ν 3=ey:=hν 3 rfl;simp only[e0,e1,e2,e3]at hR|-;clear hν e0 e1 e2 e3;generalize ν 4=b1 at hR|-;generalize ν 5=b2 at hR|-;generalize ν 6=b3 at hR|-;have R2:=hdd hR;clear hR R1;simp only[putL,beP,beQ]
 go_upto_region 1 with fail
 refine Spec.run (S:=⟨_,fun i=>([.w (.c (.ptr 4 0)),numS g 0,.w (.c (.ptr 5 0)),numS g 2,numS g 7,.w (.c (.ptr 4 2)),numS g 1,.w (.c (.ptr 5 2)),numS g 3,numS g 8,.w (.c (.ptr 9 0)),.w (.c (.ptr 10 0)),noS,noS]:List SV).getD i noS,fun n=>([none,none,none,none,none,none,none,some 4,some 9,some 10,some 11]:List (Option Nat)).getD n none,
  [(0,AX),(1,AY),(2,BX),(3,EY),(7,(.sub AX BX)),(8,(.sub AY EY))],[⟨4,29,aX g 0 1,none⟩,⟨5,29,aX g 2 3,none⟩,⟨6,27,[.v (.pointer none),.v (.int .i64 0)],none⟩,⟨9,27,[.v (.pointer none),.v (.int .i64 0)],some (12,numC g 7)⟩,⟨10,27,[.v (.pointer none),.v (.int .i64 0)],some (13,numC g 8)⟩],
  fun i=>([0,0,0,0,1,0,0,0,0,1,0,0,0,0]:List Nat).getD i 0,fun i=>([[],[0],[],[2],[0,1,2,3],[],[5],[],[7],[5,6,7,8],[],[],[0,1,2,3,4,5,6,7,8,9,10,11],[0,1,2,3,4,5,6,7,8,9,10,11,12]]:List (List Nat)).getD i [],[(2,.w (.c (.ptr 4 0))),(3,.w (.c (.ptr 5 0)))]⟩)
  (W:=runW ⟨w,B,ns⟩ g) (ν0:=fun n=>([ax,ay,bx,ey,b1,b2,b3]:List Nat).getD n 0) (c0:=N)
  (fs:=fun ν=>[(7,.pointer (some ⟨(ν 4),0,none⟩)),(8,numV g (ν 0)),(9,.pointer (some ⟨(ν 5),0,none⟩)),(10,numV g (ν 2)),(11,numV g (ν 7)),(12,.pointer (some ⟨(ν 4),2,none⟩)),(13,numV g (ν 1)),(14,.pointer (some ⟨(ν 5),2,none⟩)),(15,numV g (ν 3)),(16,numV g (ν 8)),(5,.pointer (some ⟨(ν 9),0,none⟩)),(6,.pointer (some ⟨(ν 10),0,none⟩))]) 14 (N+2) [] []
  ⟨Spec.wf_of (by kernel_rfl),dG (by kernel_rfl),bJ ⟨rfl,rfl,trivial⟩⟩ R2.out (Run.nodup R2.out) (by omega)
  (fun b hM=>aA (aA (aA (aA (aA (aA (aA (aA (aA (aA (aA (aA (aA (aA bT
    (aD b))
    (aI b 2 m0))
    (aD b))
    (aI b 2 m1))
    (aL b (qI hM m0 m2 rfl rfl rfl rfl rfl rfl)))
    (aD b))
    (aI b 2 m0))
    (aD b))
    (aI b 2 m1))
    (aL b (qI hM m1 m3 rfl rfl rfl rfl rfl rfl)))
    (cZ b m3))
    (cZ b m4))
    (eT b 2 m3))
    (eT b 2 m4)) ?_
 intro ν W3 hν hR;replace hR:Run ⟨w,B,ns⟩ g (N+2) [(AX,ν 0),(AY,ν 1),(BX,ν 2),(EY,ν 3),((.sub AX BX),ν 7),((.sub AY EY),ν 8)] [((ν 4),aV g (ν 0) (ν 1)),((ν 5),aV g (ν 2) (ν 3)),((ν 6),.cells #[.pointer none,.int .i64 0] 27),((ν 9),numO g (ν 7)),((ν 10),numO g (ν 8))] W3:=hR;have e0:ν 0=ax:=hν 0 rfl;have e1:ν 1=ay:=hν 1 rfl;have e2:ν 2=bx:=hν 2 rfl;have e3:ν 3=ey:=hν 3 rfl;have e4:ν 4=b1:=hν 4 rfl;have e5:ν 5=b2:=hν 5 rfl;have e6:ν 6=b3:=hν 6 rfl;simp only[e0,e1,e2,e3,e4,e5,e6]at hR|-;clear hν e0 e1 e2 e3 e4 e5 e6;generalize ν 7=n4 at hR|-;generalize ν 8=n5 at hR|-;generalize ν 9=b6 at hR|-;generalize ν 10=b7 at hR|-;have R3:=hdd hR;clear hR R2;simp only[putL,beP,beQ]
 go_upto_region 2 with fail
 refine Spec.run (S:=⟨_,fun i=>([numS g 1,numS g 1,.w (.c (.sl 5 1)),numS g 6,numS g 2,numS g 2,.w (.c (.sl 7 1)),numS g 8,.w (.c (.sl 9 1)),numS g 10,noS]:List SV).getD i noS,fun n=>([none,none,none,none,none,some 2,some 3,some 6,some 7,some 8,some 9]:List (Option Nat)).getD n none,
  [(1,(.sub AX BX)),(2,(.sub AY EY)),(6,(.mul (.sub AX BX) (.sub AX BX))),(8,(.mul (.sub AY EY) (.sub AY EY))),(10,(.add (.mul (.sub AX BX) (.sub AX BX)) (.mul (.sub AY EY) (.sub AY EY))))],[⟨0,27,[.v (.pointer none),.v (.int .i64 0)],some (10,numC g 10)⟩,⟨3,27,numC g 1,none⟩,⟨4,27,numC g 2,none⟩,⟨5,27,numC g 1,none⟩,⟨7,27,numC g 2,none⟩,⟨9,27,numC g 8,none⟩],
  fun i=>([0,0,0,1,0,0,0,1,0,1,0]:List Nat).getD i 0,fun i=>([[],[],[1],[0,1,2],[],[],[5],[4,5,6],[4,5,6,7],[0,1,2,3,4,5,6,7,8],[0,1,2,3,4,5,6,7,8,9]]:List (List Nat)).getD i [],[(5,.w (.c (.ptr 3 0))),(6,.w (.c (.ptr 4 0))),(4,.w (.c (.ptr 0 0)))]⟩)
  (W:=runW ⟨w,B,ns⟩ g) (ν0:=fun n=>([b3,n4,n5,b6,b7]:List Nat).getD n 0) (c0:=(N+2))
  (fs:=fun ν=>[(17,numV g (ν 1)),(18,numV g (ν 1)),(19,.slice (some ⟨(ν 5),0,none⟩) 1 1),(20,numV g (ν 6)),(21,numV g (ν 2)),(22,numV g (ν 2)),(23,.slice (some ⟨(ν 7),0,none⟩) 1 1),(24,numV g (ν 8)),(25,.slice (some ⟨(ν 9),0,none⟩) 1 1),(26,numV g (ν 10))]) 11 (N+5) [false,false,false,false] [false,false]
  ⟨Spec.wf_of (by kernel_rfl),dG (by kernel_rfl),bJ ⟨rfl,rfl,rfl,trivial⟩⟩ R3.out (Run.nodup R3.out) (by omega)
  (fun b hM=>aA (aA (aA (aA (aA (aA (aA (aA (aA (aA (aA bT
    (aI b 2 m1))
    (aI b 2 m1))
    (iG b m3))
    (aL b (abR hM m0 m0 rfl rfl m3 rfl rfl rfl rfl rfl rfl rfl rfl)))
    (aI b 2 m2))
    (aI b 2 m2))
    (iG b m4))
    (aL b (abR hM m1 m1 rfl rfl m4 rfl rfl rfl rfl rfl rfl rfl rfl)))
    (iG b m5))
    (aL b (xV hM m2 m3 rfl rfl m5 rfl rfl rfl rfl rfl rfl rfl rfl)))
    (eT b 2 m0)) ?_
 intro ν W4 hν hR;replace hR:Run ⟨w,B,ns⟩ g (N+5) [((.sub AX BX),ν 1),((.sub AY EY),ν 2),((.mul (.sub AX BX) (.sub AX BX)),ν 6),((.mul (.sub AY EY) (.sub AY EY)),ν 8),((.add (.mul (.sub AX BX) (.sub AX BX)) (.mul (.sub AY EY) (.sub AY EY))),ν 10)] [((ν 0),numO g (ν 10)),((ν 3),numO g (ν 1)),((ν 4),numO g (ν 2)),((ν 5),numO g (ν 1)),((ν 7),numO g (ν 2)),((ν 9),numO g (ν 8))] W4:=hR;have e0:ν 0=b3:=hν 0 rfl;have e1:ν 1=n4:=hν 1 rfl;have e2:ν 2=n5:=hν 2 rfl;have e3:ν 3=b6:=hν 3 rfl;have e4:ν 4=b7:=hν 4 rfl;simp only[e0,e1,e2,e3,e4]at hR|-;clear hν e0 e1 e2 e3 e4;generalize ν 5=b8 at hR|-;generalize ν 6=n9 at hR|-;generalize ν 7=b10 at hR|-;generalize ν 8=n11 at hR|-;generalize ν 9=b12 at hR|-;generalize ν 10=n13 at hR|-;have R4:=hdd hR;clear hR R3;simp only[putL,beP,beQ];go_wp2;obtain⟨x0,x1,-,-⟩:=aC (R4.out.at m0);refine bodyPost_ret (v:=.agg #[_,_]) (by simp[results,Tryz.results19,go_sem,x0,x1];first|exact⟨rfl,rfl⟩|rfl) rfl ?_;exact R4.out.num m4
theorem ajP{N:Nat}{g cx cy:Nat}{CX CY:Ex}{q:Int}(hs:St PT B N w g ns)(hN:N+7<=20000)(hax:Is ns AX ax)(hay:Is ns AY ay)(hbx:Is ns BX bx)(hey:Is ns EY ey)(hcx:Is ns CX cx)(hcy:Is ns CY cy)(HQ:Hid (kE PT AX AY BX EY CX CY q)):
 Calls Tryz.prog 32 #[aN g ax ay,aN g bx ey,aN g cx cy] w (RetQ PT B (N+7) w g ns (.tuple #[.int .i64 q,.nilIface])):=by
 have R1:=hdd (Run.enter (K:=[(AX,ax),(AY,ay),(BX,bx),(EY,ey),(CX,cx),(CY,cy)]) hs (by
  intro p hp;simp only[beS,beR,or_false]at hp;rcases hp with rfl|rfl|rfl|rfl|rfl|rfl<;>assumption))
 clear hs hax hay hbx hey hcx hcy;go_enter Tryz.func32,Tryz.ntmps32
 go_upto_region 0 with fail
 refine Spec.run (S:=⟨_,fun i=>([.w (.c (.ptr 6 0)),.w (.c (.ptr 7 0)),.w (.c (.ptr 8 0)),.w (.c (.v (Value.int IntKind.i64 0))),.w (.c (.v Value.nilIface))]:List SV).getD i noS,fun n=>([none,none,none,none,none,none,some 0,some 1,some 2]:List (Option Nat)).getD n none,
  [(0,AX),(1,AY),(2,BX),(3,EY),(4,CX),(5,CY)],[⟨6,29,aX g 0 1,none⟩,⟨7,29,aX g 2 3,none⟩,⟨8,29,aX g 4 5,none⟩],
  fun i=>([0,0,0,0,0]:List Nat).getD i 0,fun i=>([[],[],[],[],[]]:List (List Nat)).getD i [],[(0,aW g 0 1),(1,aW g 2 3),(2,aW g 4 5)]⟩)
  (W:=runW ⟨w,B,ns⟩ g) (ν0:=fun n=>([ax,ay,bx,ey,cx,cy]:List Nat).getD n 0) (c0:=N)
  (fs:=fun ν=>[(3,.pointer (some ⟨(ν 6),0,none⟩)),(4,.pointer (some ⟨(ν 7),0,none⟩)),(5,.pointer (some ⟨(ν 8),0,none⟩)),(6,(Value.int IntKind.i64 0)),(7,Value.nilIface)]) 5 N [] []
  ⟨Spec.wf_of (by kernel_rfl),dG (by kernel_rfl),bJ ⟨rfl,rfl,rfl,trivial⟩⟩ R1.out (Run.nodup R1.out) (by omega)
  (fun b hM=>aA (aA (aA (aA (aA bT
    (cZ b m0))
    (cZ b m1))
    (cZ b m2))
    (aD b))
    (aD b)) ?_
 intro ν W2 hν hR;replace hR:Run ⟨w,B,ns⟩ g N [(AX,ν 0),(AY,ν 1),(BX,ν 2),(EY,ν 3),(CX,ν 4),(CY,ν 5)] [((ν 6),aV g (ν 0) (ν 1)),((ν 7),aV g (ν 2) (ν 3)),((ν 8),aV g (ν 4) (ν 5))] W2:=hR;have e0:ν 0=ax:=hν 0 rfl;have e1:ν 1=ay:=hν 1 rfl;have e2:ν 2=bx:=hν 2 rfl;have e3:ν 3=ey:=hν 3 rfl;have e4:ν 4=cx:=hν 4 rfl;have e5:ν 5=cy:=hν 5 rfl;simp only[e0,e1,e2,e3,e4,e5]at hR|-;clear hν e0 e1 e2 e3 e4 e5;generalize ν 6=b1 at hR|-;generalize ν 7=b2 at hR|-;generalize ν 8=b3 at hR|-;have R2:=hdd hR;clear hR R1;simp only[putL,beP,beQ]
 go_upto_region 1 with fail
 refine Spec.run (S:=⟨_,fun i=>([.w (.c (.ptr 7 0)),numS g 2,.w (.c (.ptr 6 0)),numS g 0,numS g 9,.w (.c (.ptr 8 2)),numS g 5,.w (.c (.ptr 6 2)),numS g 1,numS g 10,.w (.c (.sl 11 1)),numS g 12,.w (.c (.ptr 13 0)),noS]:List SV).getD i noS,fun n=>([none,none,none,none,none,none,none,none,none,some 4,some 9,some 10,some 11,some 12]:List (Option Nat)).getD n none,
  [(0,AX),(1,AY),(2,BX),(3,EY),(4,CX),(5,CY),(9,(.sub BX AX)),(10,(.sub CY AY)),(12,(.mul (.sub BX AX) (.sub CY AY)))],[⟨6,29,aX g 0 1,none⟩,⟨7,29,aX g 2 3,none⟩,⟨8,29,aX g 4 5,none⟩,⟨11,27,numC g 10,none⟩,⟨13,27,[.v (.pointer none),.v (.int .i64 0)],some (13,numC g 12)⟩],
  fun i=>([0,0,0,0,1,0,0,0,0,1,0,1,0,0]:List Nat).getD i 0,fun i=>([[],[0],[],[2],[0,1,2,3],[],[5],[],[7],[5,6,7,8],[5,6,7,8,9],[0,1,2,3,4,5,6,7,8,9,10],[],[0,1,2,3,4,5,6,7,8,9,10,11,12]]:List (List Nat)).getD i [],[(4,.w (.c (.ptr 7 0))),(3,.w (.c (.ptr 6 0))),(5,.w (.c (.ptr 8 0)))]⟩)
  (W:=runW ⟨w,B,ns⟩ g) (ν0:=fun n=>([ax,ay,bx,ey,cx,cy,b1,b2,b3]:List Nat).getD n 0) (c0:=N)
  (fs:=fun ν=>[(10,.pointer (some ⟨(ν 7),0,none⟩)),(11,numV g (ν 2)),(12,.pointer (some ⟨(ν 6),0,none⟩)),(13,numV g (ν 0)),(14,numV g (ν 9)),(15,.pointer (some ⟨(ν 8),2,none⟩)),(16,numV g (ν 5)),(17,.pointer (some ⟨(ν 6),2,none⟩)),(18,numV g (ν 1)),(19,numV g (ν 10)),(20,.slice (some ⟨(ν 11),0,none⟩) 1 1),(21,numV g (ν 12)),(8,.pointer (some ⟨(ν 13),0,none⟩))]) 14 (N+3) [] []
  ⟨Spec.wf_of (by kernel_rfl),dG (by kernel_rfl),bJ ⟨rfl,rfl,rfl,trivial⟩⟩ R2.out (Run.nodup R2.out) (by omega)
  (fun b hM=>aA (aA (aA (aA (aA (aA (aA (aA (aA (aA (aA (aA (aA (aA bT
    (aD b))
    (aI b 2 m1))
    (aD b))
    (aI b 2 m0))
    (aL b (qI hM m2 m0 rfl rfl rfl rfl rfl rfl)))
    (aD b))
    (aI b 2 m2))
    (aD b))
    (aI b 2 m0))
    (aL b (qI hM m5 m1 rfl rfl rfl rfl rfl rfl)))
    (iG b m3))
    (aL b (abR hM m6 m7 rfl rfl m3 rfl rfl rfl rfl rfl rfl rfl rfl)))
    (cZ b m4))
    (eT b 2 m4)) ?_
 intro ν W3 hν hR;replace hR:Run ⟨w,B,ns⟩ g (N+3) [(AX,ν 0),(AY,ν 1),(BX,ν 2),(EY,ν 3),(CX,ν 4),(CY,ν 5),((.sub BX AX),ν 9),((.sub CY AY),ν 10),((.mul (.sub BX AX) (.sub CY AY)),ν 12)] [((ν 6),aV g (ν 0) (ν 1)),((ν 7),aV g (ν 2) (ν 3)),((ν 8),aV g (ν 4) (ν 5)),((ν 11),numO g (ν 10)),((ν 13),numO g (ν 12))] W3:=hR;have e0:ν 0=ax:=hν 0 rfl;have e1:ν 1=ay:=hν 1 rfl;have e2:ν 2=bx:=hν 2 rfl;have e3:ν 3=ey:=hν 3 rfl;have e4:ν 4=cx:=hν 4 rfl;have e5:ν 5=cy:=hν 5 rfl;have e6:ν 6=b1:=hν 6 rfl;have e7:ν 7=b2:=hν 7 rfl;have e8:ν 8=b3:=hν 8 rfl;simp only[e0,e1,e2,e3,e4,e5,e6,e7,e8]at hR|-;clear hν e0 e1 e2 e3 e4 e5 e6 e7 e8;generalize ν 9=n4 at hR|-;generalize ν 10=n5 at hR|-;generalize ν 11=b6 at hR|-;generalize ν 12=n7 at hR|-;generalize ν 13=b8 at hR|-;have R3:=hdd hR;clear hR R2;simp only[putL,beP,beQ]
 go_upto_region 2 with fail
 refine Spec.run (S:=⟨_,fun i=>([.w (.c (.ptr 7 2)),numS g 3,.w (.c (.ptr 6 2)),numS g 1,numS g 11,.w (.c (.ptr 8 0)),numS g 4,.w (.c (.ptr 6 0)),numS g 0,numS g 12,.w (.c (.sl 13 1)),numS g 14,.w (.c (.ptr 15 0)),noS]:List SV).getD i noS,fun n=>([none,none,none,none,none,none,none,none,none,none,none,some 4,some 9,some 10,some 11,some 12]:List (Option Nat)).getD n none,
  [(0,AX),(1,AY),(2,BX),(3,EY),(4,CX),(5,CY),(9,(.mul (.sub BX AX) (.sub CY AY))),(11,(.sub EY AY)),(12,(.sub CX AX)),(14,(.mul (.sub EY AY) (.sub CX AX)))],[⟨6,29,aX g 0 1,none⟩,⟨7,29,aX g 2 3,none⟩,⟨8,29,aX g 4 5,none⟩,⟨10,27,numC g 9,none⟩,⟨13,27,numC g 12,none⟩,⟨15,27,[.v (.pointer none),.v (.int .i64 0)],some (13,numC g 14)⟩],
  fun i=>([0,0,0,0,1,0,0,0,0,1,0,1,0,0]:List Nat).getD i 0,fun i=>([[],[0],[],[2],[0,1,2,3],[],[5],[],[7],[5,6,7,8],[5,6,7,8,9],[0,1,2,3,4,5,6,7,8,9,10],[],[0,1,2,3,4,5,6,7,8,9,10,11,12]]:List (List Nat)).getD i [],[(4,.w (.c (.ptr 7 0))),(3,.w (.c (.ptr 6 0))),(5,.w (.c (.ptr 8 0)))]⟩)
  (W:=runW ⟨w,B,ns⟩ g) (ν0:=fun n=>([ax,ay,bx,ey,cx,cy,b1,b2,b3,n7,b8]:List Nat).getD n 0) (c0:=(N+3))
  (fs:=fun ν=>[(22,.pointer (some ⟨(ν 7),2,none⟩)),(23,numV g (ν 3)),(24,.pointer (some ⟨(ν 6),2,none⟩)),(25,numV g (ν 1)),(26,numV g (ν 11)),(27,.pointer (some ⟨(ν 8),0,none⟩)),(28,numV g (ν 4)),(29,.pointer (some ⟨(ν 6),0,none⟩)),(30,numV g (ν 0)),(31,numV g (ν 12)),(32,.slice (some ⟨(ν 13),0,none⟩) 1 1),(33,numV g (ν 14)),(9,.pointer (some ⟨(ν 15),0,none⟩))]) 14 (N+6) [true,true,true,true,true,true,false,false] [true,true,true,false]
  ⟨Spec.wf_of (by kernel_rfl),dG (by kernel_rfl),bJ ⟨rfl,rfl,rfl,trivial⟩⟩ R3.out (Run.nodup R3.out) (by omega)
  (fun b hM=>aA (aA (aA (aA (aA (aA (aA (aA (aA (aA (aA (aA (aA (aA bT
    (aD b))
    (aI b 2 m1))
    (aD b))
    (aI b 2 m0))
    (aL b (qI hM m3 m1 rfl rfl rfl rfl rfl rfl)))
    (aD b))
    (aI b 2 m2))
    (aD b))
    (aI b 2 m0))
    (aL b (qI hM m4 m0 rfl rfl rfl rfl rfl rfl)))
    (iG b m4))
    (aL b (abR hM m7 m8 rfl rfl m4 rfl rfl rfl rfl rfl rfl rfl rfl)))
    (cZ b m5))
    (eT b 2 m5)) ?_
 intro ν W4 hν hR;replace hR:Run ⟨w,B,ns⟩ g (N+6) [(AX,ν 0),(AY,ν 1),(BX,ν 2),(EY,ν 3),(CX,ν 4),(CY,ν 5),((.mul (.sub BX AX) (.sub CY AY)),ν 9),((.sub EY AY),ν 11),((.sub CX AX),ν 12),((.mul (.sub EY AY) (.sub CX AX)),ν 14)] [((ν 6),aV g (ν 0) (ν 1)),((ν 7),aV g (ν 2) (ν 3)),((ν 8),aV g (ν 4) (ν 5)),((ν 10),numO g (ν 9)),((ν 13),numO g (ν 12)),((ν 15),numO g (ν 14))] W4:=hR;have e0:ν 0=ax:=hν 0 rfl;have e1:ν 1=ay:=hν 1 rfl;have e2:ν 2=bx:=hν 2 rfl;have e3:ν 3=ey:=hν 3 rfl;have e4:ν 4=cx:=hν 4 rfl;have e5:ν 5=cy:=hν 5 rfl;have e6:ν 6=b1:=hν 6 rfl;have e7:ν 7=b2:=hν 7 rfl;have e8:ν 8=b3:=hν 8 rfl;have e9:ν 9=n7:=hν 9 rfl;have e10:ν 10=b8:=hν 10 rfl;simp only[e0,e1,e2,e3,e4,e5,e6,e7,e8,e9,e10]at hR|-;clear hν e0 e1 e2 e3 e4 e5 e6 e7 e8 e9 e10;generalize ν 11=n9 at hR|-;generalize ν 12=n10 at hR|-;generalize ν 13=b11 at hR|-;generalize ν 14=n12 at hR|-;generalize ν 15=b13 at hR|-;have R4:=hdd hR;clear hR R3;simp only[putL,beP,beQ]
 go_upto_region 3 with fail
 refine Spec.run (S:=⟨_,fun i=>([numS g 0,numS g 2,numS g 4,.tup [.c (.v (.int .i64 q)),.c (.v .nilIface)],.w (.c (.v (.int .i64 q))),.w (.c (.v .nilIface)),.w (.c (.v (.int .i64 q))),.w (.c (.v .nilIface))]:List SV).getD i noS,fun n=>([none,none,none,none,some 2]:List (Option Nat)).getD n none,
  [(0,(.mul (.sub BX AX) (.sub CY AY))),(2,(.mul (.sub EY AY) (.sub CX AX))),(4,(.sub (.mul (.sub BX AX) (.sub CY AY)) (.mul (.sub EY AY) (.sub CX AX))))],[⟨1,27,numC g 0,none⟩,⟨3,27,numC g 2,none⟩],
  fun i=>([0,0,1,0,0,0,0,0]:List Nat).getD i 0,fun i=>([[],[],[0,1],[0,1,2],[0,1,2,3],[0,1,2,3],[0,1,2,3,4],[0,1,2,3,5]]:List (List Nat)).getD i [],[(8,.w (.c (.ptr 1 0))),(9,.w (.c (.ptr 3 0)))]⟩)
  (W:=runW ⟨w,B,ns⟩ g) (ν0:=fun n=>([n7,b8,n12,b13]:List Nat).getD n 0) (c0:=(N+6))
  (fs:=fun ν=>[(34,numV g (ν 0)),(35,numV g (ν 2)),(36,numV g (ν 4)),(37,.tuple #[(.int .i64 q),.nilIface]),(38,(.int .i64 q)),(39,.nilIface),(6,(.int .i64 q)),(7,.nilIface)]) 8 (N+7) [false,false,false,false,false,false,true,false,false] [false,false,false,true,false]
  ⟨Spec.wf_of (by kernel_rfl),dG (by kernel_rfl),bJ ⟨rfl,rfl,trivial⟩⟩ R4.out (Run.nodup R4.out) (by omega)
  (fun b hM=>aA (aA (aA (aA (aA (aA (aA (aA bT
    (aI b 2 m0))
    (aI b 2 m1))
    (aL b (qI hM m0 m1 rfl rfl rfl rfl rfl rfl)))
    (aL b (ajM hM m2 rfl rfl rfl rfl HQ.out)))
    (aD b))
    (aD b))
    (aD b))
    (aD b)) ?_
 intro ν W5 hν hR;replace hR:Run ⟨w,B,ns⟩ g (N+7) [((.mul (.sub BX AX) (.sub CY AY)),ν 0),((.mul (.sub EY AY) (.sub CX AX)),ν 2),((.sub (.mul (.sub BX AX) (.sub CY AY)) (.mul (.sub EY AY) (.sub CX AX))),ν 4)] [((ν 1),numO g (ν 0)),((ν 3),numO g (ν 2))] W5:=hR;have e0:ν 0=n7:=hν 0 rfl;have e1:ν 1=b8:=hν 1 rfl;have e2:ν 2=n12:=hν 2 rfl;have e3:ν 3=b13:=hν 3 rfl;simp only[e0,e1,e2,e3]at hR|-;clear hν e0 e1 e2 e3;generalize ν 4=n14 at hR|-;have R5:=hdd hR;clear hR R4;simp only[putL,beP,beQ];go_wp2;have HB:=hdd (R5.out.ans (v:=.tuple #[.int .i64 q,.nilIface]));clear R5
 go_ret2
 exact HB.out
section
variable{s:Bs}{W:World}{g N i j k i' j' k':Nat}{K:List (Ex×Nat)}{l:List (Nat×Obj)}{x px py qx qy rx ry:Ex}{q:Int}
theorem Run.half (h:Run s g N K l W)(hN:N+2<=20000)(hx:(x,i)∈K):Calls Tryz.prog 70 #[numV g i] W (RtR s g (N+2) K l (oH x)):=by
 obtain⟨ns,hs,hK⟩:=h;exact(ajO hs.st hN (hK _ hx)).mono fun _ _ hr=>jF hs hK hr
theorem Run.square (h:Run s g N K l W)(hN:N+5<=20000)(h1:(px,i)∈K)(h2:(py,i')∈K)(h3:(qx,j)∈K)(h4:(qy,j')∈K):Calls Tryz.prog 19 #[aN g i i',aN g j j'] W (RtR s g (N+5) K l (sqrX px py qx qy)):=by
 obtain⟨ns,hs,hK⟩:=h;exact(ac1 hs.st hN (hK _ h1) (hK _ h2) (hK _ h3) (hK _ h4)).mono fun _ _ hr=>jF hs hK hr
theorem Run.turn (h:Run s g N K l W)(hN:N+7<=20000)(h1:(px,i)∈K)(h2:(py,i')∈K)(h3:(qx,j)∈K)(h4:(qy,j')∈K)(h5:(rx,k)∈K)(h6:(ry,k')∈K)(hc:kE PT px py qx qy rx ry q):
 Calls Tryz.prog 32 #[aN g i i',aN g j j',aN g k k'] W (RtA s g (N+7) K l (.tuple #[.int .i64 q,.nilIface])):=by
 obtain⟨ns,hs,hK⟩:=h;exact(ajP hs.st hN (hK _ h1) (hK _ h2) (hK _ h3) (hK _ h4) (hK _ h5) (hK _ h6) (hdd hc)).mono fun _ _ hr=>vY hs hK hr
end
section
variable{S:Spec Ex}{w0:Bs}{g c0:Nat}{i:Nat}(hM:c0+S.total<=20000){m n m' n' m2 n2 t:Nat}{x y x' y' x2 y2:Ex}{q:Int}(hx:(m,x)∈S.know)(hy:(n,y)∈S.know)(px:S.pre i m=true)(py:S.pre i n=true)
include hM hx px
theorem ajQ(hc:S.cost i=2)(hv:S.val i=numS g t)(ht:S.cr t=some i)(hk:S.made i=[(t,oH x)]):fI S w0 g c0 i 70 (fun ν=>#[numV g (ν m)]):=
 jG hM (d:=1) hc hv ht hk fun lst ν c w hD hl h=>h.half (by omega) (dS hx (pre_on px hD))
include hy py
variable(hx':(m',x')∈S.know)(hy':(n',y')∈S.know)(px':S.pre i m'=true)(py':S.pre i n'=true)
include hx' hy' px' py'
theorem jH(hc:S.cost i=5)(hv:S.val i=numS g t)(ht:S.cr t=some i)(hk:S.made i=[(t,sqrX x y x' y')]):fI S w0 g c0 i 19 (fun ν=>#[aN g (ν m) (ν n),aN g (ν m') (ν n')]):=
 jG hM (d:=4) hc hv ht hk fun lst ν c w hD hl h=>h.square (by omega) (dS hx (pre_on px hD)) (dS hy (pre_on py hD)) (dS hx' (pre_on px' hD)) (dS hy' (pre_on py' hD))
theorem rE(hx2:(m2,x2)∈S.know)(hy2:(n2,y2)∈S.know)(px2:S.pre i m2=true)(py2:S.pre i n2=true)(hc:S.cost i=7)(hv:S.val i=ansS (.int .i64 q))(hk:S.made i=[])(hS:kE PT x y x' y' x2 y2 q):
 fI S w0 g c0 i 32 (fun ν=>#[aN g (ν m) (ν n),aN g (ν m') (ν n'),aN g (ν m2) (ν n2)]):=
 qH hM (d:=7) hc (fun ν=>by rw[hv];rfl) hk fun lst ν c w hD hl h=>h.turn (by omega) (dS hx (pre_on px hD)) (dS hy (pre_on py hD)) (dS hx' (pre_on px' hD)) (dS hy' (pre_on py' hD)) (dS hx2 (pre_on px2 hD)) (dS hy2 (pre_on py2 hD)) hS
end
end Go.Proofs.YtgodkfgnhpnhcaaGreatDoor
namespace Go.Proofs.YtgodkfgnhpnhcaaGreatDoor
open Go.RowKit Go.Maps
open Re (rat ofI ofN)
variable{v x y:Int}
abbrev IntE(x:Ex)(v:Int)(k:Nat):Prop:=QE [] x (ofI v) k
theorem IntE.leaf {b:Nat}(hb:b<18446744073709551616)(hf:fin b)(hv:fv b=v*(U74:Int))(h:-32768<v/\v<32768):IntE (.leaf b) v 1:=QE.leaf hb hf hv h
theorem alN(a b:Int):ofI (a-b)=ofI a-ofI b:=by rw[Int.sub_eq_add_neg,Re.ofI_add,Re.ofI_neg,Re.sub_def]
theorem IntE.sub {a b:Ex}{c d:Nat}(ha:IntE a x c)(hb:IntE b y d):IntE (.sub a b) (x-y) (c+d):=by
 have:=QE.sub ha hb;rwa[<-alN]at this
theorem IntE.mul {a b:Ex}{c d:Nat}(ha:IntE a x c)(hb:IntE b y d):IntE (.mul a b) (x*y) (c+d):=by
 have:=QE.mul ha hb;rwa[<-Re.ofI_mul]at this
theorem IntE.sgn {x:Ex}{c:Nat}(h:IntE x v c)(hc:c<=50):iJ PT x v.sign:=by
 have:=QE.sgn (P:=PT) h (by simp) (by omega) (by simp;omega);rwa[alI]at this
def lexZ(a b c d:Int):Int:=if (a-c).sign=0 then(b-d).sign else(a-c).sign
def detZ(ax ay bx ey cx cy:Int):Int:=(bx-ax)*(cy-ay)-(ey-ay)*(cx-ax)
theorem alO{A B C D:Ex}{a b c d:Int}(ha:IntE A a 1)(hb:IntE B b 1)(hc:IntE C c 1)(hd:IntE D d 1):ajI PT A B C D (lexZ a b c d):=
 ⟨_,_,trivial,(ha.sub hc).sgn (by omega),fun _=>⟨trivial,(hb.sub hd).sgn (by omega)⟩,rfl⟩
theorem ajR{A A' B B' C C':Ex}{ax ay bx ey cx cy:Int}(h1:IntE A ax 1)(h2:IntE A' ay 1)(h3:IntE B bx 1)(h4:IntE B' ey 1)(h5:IntE C cx 1)(h6:IntE C' cy 1):kE PT A A' B B' C C' (detZ ax ay bx ey cx cy).sign:=
 (((h3.sub h1).mul (h6.sub h2)).sub ((h4.sub h2).mul (h5.sub h1))).sgn (by omega)
def okQ(n k:Nat):Prop:=n<=15/\k<=60/\(16*k-1)*2^n+120*k<=7998
section
variable{L:List Ex}{A B C D A' B' C':Ex}{a b c d a' b' c':Re}{i j k l i' j' k':Nat}
theorem QE.ok (h:QE L A a k)(hk:okQ L.length k):iJ PT A (Re.sgn a):=h.sgn hk.1 hk.2.1 hk.2.2
noncomputable def detR(ax ay bx ey cx cy:Re):Re:=(bx-ax)*(cy-ay)-(ey-ay)*(cx-ax)
theorem rF(h1:QE L A a i)(h2:QE L A' a' i')(h3:QE L B b j)(h4:QE L B' b' j')(h5:QE L C c k)(h6:QE L C' c' k')(ho:okQ L.length (j+i+(k'+i')+(j'+i'+(k+i)))):kE PT A A' B B' C C' (Re.sgn (detR a a' b b' c c')):=
 (((h3.sub h1).mul (h6.sub h2)).sub ((h4.sub h2).mul (h5.sub h1))).ok ho
end
theorem anR:fv 0=(0:Int)*(U74:Int):=by kernel_rfl
theorem anS:fv 4607182418800017408=(1:Int)*(U74:Int):=by kernel_rfl
theorem anT:fv 4611686018427387904=(2:Int)*(U74:Int):=by kernel_rfl
theorem anU:fv 4613937818241073152=(3:Int)*(U74:Int):=by kernel_rfl
theorem anV:fv 4616189618054758400=(4:Int)*(U74:Int):=by kernel_rfl
theorem tL:IntE (.leaf 0) (0) 1:=IntE.leaf (by decide) (by decide) anR (by decide)
theorem tN:IntE (.leaf 4607182418800017408) (1) 1:=IntE.leaf (by decide) (by decide) anS (by decide)
theorem aeA:IntE (.leaf 4611686018427387904) (2) 1:=IntE.leaf (by decide) (by decide) anT (by decide)
theorem alP:IntE (.leaf 4613937818241073152) (3) 1:=IntE.leaf (by decide) (by decide) anU (by decide)
theorem leaf_p4:IntE (.leaf 4616189618054758400) (4) 1:=IntE.leaf (by decide) (by decide) anV (by decide)
def fl(k:Int):Nat:=FloatKind.f64.nearest k
def flB(i:Nat):Bool:=decide (fl ((i:Int)-99)<18446744073709551616)&&(decide (fin (fl ((i:Int)-99)))&&decide (fv (fl ((i:Int)-99))=((i:Int)-99)*(U74:Int)))
theorem am6:(List.range 199).all flB=true:=by kernel_rfl
theorem jL{k:Int}(h:-100<k/\k<100):fl k<18446744073709551616/\fin (fl k)/\fv (fl k)=k*(U74:Int):=by
 have h1:=List.all_eq_true.1 am6 (k+99).toNat (List.mem_range.2 (by omega));unfold flB at h1;rw[show(((k+99).toNat:Nat):Int)-99=k by omega]at h1;simp only[Bool.and_eq_true,decide_eq_true_eq]at h1;exact h1
abbrev RatE(x:Ex)(q:Rat)(k:Nat):Prop:=QE [] x (rat q) k
section
variable{a b:Ex}{p q:Rat}{i j:Nat}
theorem IntE.rat (h:IntE a v i):RatE a (v:Rat) i:=h
theorem RatE.add (h:RatE a p i)(g:RatE b q j):RatE (.add a b) (p+q) (i+j):=by
 have:=QE.add h g;rwa[<-Re.rat_add]at this
theorem RatE.sub (h:RatE a p i)(g:RatE b q j):RatE (.sub a b) (p-q) (i+j):=by
 have:=QE.sub h g;rwa[<-Re.rat_sub]at this
theorem RatE.mul (h:RatE a p i)(g:RatE b q j):RatE (.mul a b) (p*q) (i+j):=by
 have:=QE.mul h g;rwa[<-Re.rat_mul]at this
theorem RatE.zero (h:RatE a p i)(h0:p=0)(hi:i<=50):iJ PT a 0:=by
 have:=h.ok (k:=i) ⟨by simp,by omega,by simp;omega⟩;rw[h0,show Re.rat 0=0 from rfl,Re.sgn_zero]at this;exact this
theorem ajS:(ofI 2:Re)≠0:=by
 rw[<-Re.ofI_zero];unfold ofI;rw[Ne,Re.rat_inj];decide
theorem RatE.half (h:RatE a p 2):RatE (oH a) (p/2) 3:=by
 refine QE.div (G:=16) Lok.nil h aeA ajS ?_ (by simp) (by omega) (by simp) (by omega) (by omega) (by omega) (by omega) (by omega);unfold ofI;rw[<-Re.rat_mul]
 congr 1
 grind
end
section
variable{A A' B B':Ex}{a a' b b':Rat}{i i' j j':Nat}
theorem RatE.sq (h1:RatE A a i)(h2:RatE A' a' i')(h3:RatE B b j)(h4:RatE B' b' j'):RatE (sqrX A A' B B') ((a-b)*(a-b)+(a'-b')*(a'-b')) ((i+j)+(i+j)+((i'+j')+(i'+j'))):=
 ((h1.sub h3).mul (h1.sub h3)).add ((h2.sub h4).mul (h2.sub h4))
variable(h1:RatE A a 1)(h2:RatE A' a' 1)(h3:RatE B b 1)(h4:RatE B' b' 1)
include h1 h2
theorem alQ:iJ PT (sqrX A A' A A') 0:=(h1.sq h2 h1 h2).zero (by grind) (by omega)
include h3 h4
theorem alR:iJ PT (.sub (sqrX A A' B B') (sqrX B B' A A')) 0:=((h1.sq h2 h3 h4).sub (h3.sq h4 h1 h2)).zero (by grind) (by omega)
theorem ajT:iJ PT (.sub (.add (sqrX A A' A B') (sqrX A B' B B')) (sqrX A A' B B')) 0:=
 (((h1.sq h2 h1 h4).add (h1.sq h4 h3 h4)).sub (h1.sq h2 h3 h4)).zero (by grind) (by omega)
theorem alS:iJ PT (.sub (.mul (sqrX A A' (midE A B) (midE A' B')) (.leaf 4616189618054758400)) (sqrX A A' B B')) 0:=
 (((h1.sq h2 (h1.add h3).half (h2.add h4).half).mul leaf_p4.rat).sub (h1.sq h2 h3 h4)).zero (by push_cast;grind) (by omega)
end
end Go.Proofs.YtgodkfgnhpnhcaaGreatDoor
namespace Go.Proofs.YtgodkfgnhpnhcaaGreatDoor
open Go.RowKit Go.Maps
variable{v:Int}{N g i:Nat}{w:World}
theorem ajU:Calls Tryz.prog 18 #[.int .i64 v,.int .i64 30] w (RetV w (.float .f64 (fl (v.tmod 30)))):=by
 go_enter Tryz.func18,Tryz.ntmps18
 go_wp2;go_ret;exact⟨rfl,Below.refl _ _⟩
theorem lK:Calls Tryz.prog 18 #[.int .i64 v,.int .i64 20] w (RetV w (.float .f64 (fl (v.tmod 20)))):=by
 go_enter Tryz.func18,Tryz.ntmps18
 go_wp2;go_ret;exact⟨rfl,Below.refl _ _⟩
theorem bC{n:Int}(hn:0<n)(h:n<100):-100<v.tmod n/\v.tmod n<100:=by
 have h1:=Int.lt_tmod_of_pos v hn;have h2:=Int.tmod_lt_of_pos v hn;omega
theorem tO(v:Int):∃x:Nat,(∀w,Calls Tryz.prog 18 #[.int .i64 v,.int .i64 30] w (RetV w (.float .f64 x)))/\x<18446744073709551616/\fin x/\fv x=v.tmod 30*(U74:Int)/\-100<v.tmod 30/\v.tmod 30<100:=by
 have hb:=bC (v:=v) (n:=30) (by decide) (by decide);obtain⟨h1,h2,h3⟩:=jL hb;exact⟨_,fun w=>ajU,h1,h2,h3,hb⟩
theorem aeB(hT:Tab w)(htb:1<w.heap.size):
 Calls Tryz.prog 15 #[] w (RetV w (.bool true)):=by
 have HN:=hdd (zJ (l:=[]) (Below.refl w.heap.size w) (fun p hp=>by cases hp) (by simp) hT htb);clear hT htb;have TU:=hdd (ajR tL tL tN tL tL tN);have CM:=hdd (alO tN aeA tN alP);rw[show(detZ 0 0 1 0 0 1).sign=1 by decide]at TU;rw[show lexZ 1 2 1 3=-1 by decide]at CM;go_enter Tryz.func15,Tryz.ntmps15
 go_wp2_with fail
 refine HN.out.mono ?_;rintro e w1⟨g,rfl,H⟩;have R1:=hdd H;clear H HN;go_wp2_with fail
 refine(R1.out.spot (v:=0) (u:=0) (by decide) (by decide) (by decide) (by decide) (by decide)).mono ?_;rintro e w2⟨i1,j1,rfl,H⟩;have R2:=hdd H;clear H R1;go_wp2_with fail
 refine(R2.out.spot (v:=4607182418800017408) (u:=0) (by decide) (by decide) (by decide) (by decide) (by decide)).mono ?_;rintro e w3⟨i2,j2,rfl,H⟩;have R3:=hdd H;clear H R2;go_wp2_with fail
 refine(R3.out.spot (v:=0) (u:=4607182418800017408) (by decide) (by decide) (by decide) (by decide) (by decide)).mono ?_;rintro e w4⟨i3,j3,rfl,H⟩;have R4:=hdd H;clear H R3;go_wp2_with fail
 refine(R4.out.turn (by decide) m4 m5 m2 m3 m0 m1 TU.out).mono ?_;rintro e w5⟨rfl,H⟩;have R5:=hdd H;clear H R4;go_wp2_with fail
 refine(R5.out.spot (v:=4607182418800017408) (u:=4611686018427387904) (by decide) (by decide) (by decide) (by decide) (by decide)).mono ?_;rintro e w6⟨i4,j4,rfl,H⟩;have R6:=hdd H;clear H R5;go_wp2_with fail
 refine(R6.out.spot (v:=4607182418800017408) (u:=4613937818241073152) (by decide) (by decide) (by decide) (by decide) (by decide)).mono ?_;rintro e w7⟨i5,j5,rfl,H⟩;have R7:=hdd H;clear H R6;go_wp2_with fail
 refine(R7.out.cmpS (by decide) m2 m3 m0 m1 CM.out).mono ?_;rintro e w8⟨rfl,H⟩;have HB:=hdd H.below;clear H R7;go_wp2;go_ret;exact⟨rfl,HB.out⟩
theorem ac2{B:Nat}{ax ay bx ey:Nat}{ns:List Nd}{AX AY BX EY:Ex}(hs:St PT B N w g ns)(hN:N+6<=20000)(hax:Is ns AX ax)(hay:Is ns AY ay)(hbx:Is ns BX bx)(hey:Is ns EY ey):
 Calls Tryz.prog 23 #[aN g ax ay,aN g bx ey] w (xU PT B (N+6) w g ns (midE AX BX) (midE AY EY)):=by
 have R1:=hdd (Run.enter (K:=[(AX,ax),(AY,ay),(BX,bx),(EY,ey)]) hs (by
  intro p hp;simp only[List.mem_cons,List.not_mem_nil,or_false]at hp;rcases hp with rfl|rfl|rfl|rfl<;>assumption))
 clear hs hax hay hbx hey;go_enter Tryz.func23,Tryz.ntmps23
 go_upto_region 0 with fail
 refine Spec.run (S:=⟨_,fun i=>([.w (.c (.ptr 4 0)),.w (.c (.ptr 5 0)),.w (.c (.ptr 6 0))]:List SV).getD i noS,fun n=>([none,none,none,none,some 0,some 1,some 2]:List (Option Nat)).getD n none,
  [(0,AX),(1,AY),(2,BX),(3,EY)],[⟨4,29,aX g 0 1,none⟩,⟨5,29,aX g 2 3,none⟩,⟨6,29,[.v (.pointer none),.v (.int .i64 0),.v (.pointer none),.v (.int .i64 0)],none⟩],
  fun i=>([0,0,0]:List Nat).getD i 0,fun i=>([[],[],[]]:List (List Nat)).getD i [],[(0,aW g 0 1),(1,aW g 2 3)]⟩)
  (W:=runW ⟨w,B,ns⟩ g) (ν0:=fun n=>([ax,ay,bx,ey]:List Nat).getD n 0) (c0:=N)
  (fs:=fun ν=>[(2,.pointer (some ⟨(ν 4),0,none⟩)),(3,.pointer (some ⟨(ν 5),0,none⟩)),(4,.pointer (some ⟨(ν 6),0,none⟩))]) 3 N [] []
  ⟨Spec.wf_of (by kernel_rfl),dG (by kernel_rfl),bJ ⟨rfl,rfl,trivial⟩⟩ R1.out (Run.nodup R1.out) (by omega)
  (fun b hM=>aA (aA (aA bT
    (cZ b m0))
    (cZ b m1))
    (cZ b m2)) ?_
 intro ν W2 hν hR;replace hR:Run ⟨w,B,ns⟩ g N [(AX,ν 0),(AY,ν 1),(BX,ν 2),(EY,ν 3)] [((ν 4),aV g (ν 0) (ν 1)),((ν 5),aV g (ν 2) (ν 3)),((ν 6),.cells #[.pointer none,.int .i64 0,.pointer none,.int .i64 0] 29)] W2:=hR;have e0:ν 0=ax:=hν 0 rfl;have e1:ν 1=ay:=hν 1 rfl;have e2:ν 2=bx:=hν 2 rfl;have e3:ν 3=ey:=hν 3 rfl;simp only[e0,e1,e2,e3]at hR|-;clear hν e0 e1 e2 e3;generalize ν 4=b1 at hR|-;generalize ν 5=b2 at hR|-;generalize ν 6=b3 at hR|-;have R2:=hdd hR;clear hR R1;simp only[putL,List.setIfInBounds_toArray,List.set]
 go_upto_region 1 with fail
 refine Spec.run (S:=⟨_,fun i=>([.w (.c (.ptr 4 0)),numS g 0,.w (.c (.ptr 5 0)),numS g 2,.w (.c (.sl 7 1)),numS g 8,numS g 9,.w (.c (.ptr 4 2)),numS g 1,.w (.c (.ptr 5 2)),numS g 3,.w (.c (.sl 10 1)),numS g 11,numS g 12,aW g 9 12,noS]:List SV).getD i noS,fun n=>([none,none,none,none,none,none,none,some 4,some 5,some 6,some 11,some 12,some 13]:List (Option Nat)).getD n none,
  [(0,AX),(1,AY),(2,BX),(3,EY),(8,(.add AX BX)),(9,(oH (.add AX BX))),(11,(.add AY EY)),(12,(oH (.add AY EY)))],[⟨4,29,aX g 0 1,none⟩,⟨5,29,aX g 2 3,none⟩,⟨6,29,[.v (.pointer none),.v (.int .i64 0),.v (.pointer none),.v (.int .i64 0)],some (15,aX g 9 12)⟩,⟨7,27,numC g 2,none⟩,⟨10,27,numC g 3,none⟩],
  fun i=>([0,0,0,0,0,1,2,0,0,0,0,0,1,2,0,0]:List Nat).getD i 0,fun i=>([[],[0],[],[2],[2,3],[0,1,2,3,4],[0,1,2,3,4,5],[],[7],[],[9],[9,10],[7,8,9,10,11],[7,8,9,10,11,12],[0,1,2,3,4,5,6,7,8,9,10,11,12,13],[0,1,2,3,4,5,6,7,8,9,10,11,12,13,14]]:List (List Nat)).getD i [],[(2,.w (.c (.ptr 4 0))),(3,.w (.c (.ptr 5 0))),(4,.w (.c (.ptr 6 0)))]⟩)
  (W:=runW ⟨w,B,ns⟩ g) (ν0:=fun n=>([ax,ay,bx,ey,b1,b2,b3]:List Nat).getD n 0) (c0:=N)
  (fs:=fun ν=>[(5,.pointer (some ⟨(ν 4),0,none⟩)),(6,numV g (ν 0)),(7,.pointer (some ⟨(ν 5),0,none⟩)),(8,numV g (ν 2)),(9,.slice (some ⟨(ν 7),0,none⟩) 1 1),(10,numV g (ν 8)),(11,numV g (ν 9)),(12,.pointer (some ⟨(ν 4),2,none⟩)),(13,numV g (ν 1)),(14,.pointer (some ⟨(ν 5),2,none⟩)),(15,numV g (ν 3)),(16,.slice (some ⟨(ν 10),0,none⟩) 1 1),(17,numV g (ν 11)),(18,numV g (ν 12)),(19,aN g (ν 9) (ν 12))]) 16 (N+6) [] []
  ⟨Spec.wf_of (by kernel_rfl),dG (by kernel_rfl),bJ ⟨rfl,rfl,rfl,trivial⟩⟩ R2.out (Run.nodup R2.out) (by omega)
  (fun b hM=>aA (aA (aA (aA (aA (aA (aA (aA (aA (aA (aA (aA (aA (aA (aA (aA bT
    (aD b))
    (aI b 2 m0))
    (aD b))
    (aI b 2 m1))
    (iG b m3))
    (aL b (xV hM m0 m2 rfl rfl m3 rfl rfl rfl rfl rfl rfl rfl rfl)))
    (aL b (ajQ hM m4 rfl rfl rfl rfl rfl)))
    (aD b))
    (aI b 2 m0))
    (aD b))
    (aI b 2 m1))
    (iG b m4))
    (aL b (xV hM m1 m3 rfl rfl m4 rfl rfl rfl rfl rfl rfl rfl rfl)))
    (aL b (ajQ hM m6 rfl rfl rfl rfl rfl)))
    (aD b))
    (eT b 4 m2)) ?_
 intro ν W3 hν hR;replace hR:Run ⟨w,B,ns⟩ g (N+6) [(AX,ν 0),(AY,ν 1),(BX,ν 2),(EY,ν 3),((.add AX BX),ν 8),((oH (.add AX BX)),ν 9),((.add AY EY),ν 11),((oH (.add AY EY)),ν 12)] [((ν 4),aV g (ν 0) (ν 1)),((ν 5),aV g (ν 2) (ν 3)),((ν 6),aV g (ν 9) (ν 12)),((ν 7),numO g (ν 2)),((ν 10),numO g (ν 3))] W3:=hR;have e0:ν 0=ax:=hν 0 rfl;have e1:ν 1=ay:=hν 1 rfl;have e2:ν 2=bx:=hν 2 rfl;have e3:ν 3=ey:=hν 3 rfl;have e4:ν 4=b1:=hν 4 rfl;have e5:ν 5=b2:=hν 5 rfl;have e6:ν 6=b3:=hν 6 rfl;simp only[e0,e1,e2,e3,e4,e5,e6]at hR|-;clear hν e0 e1 e2 e3 e4 e5 e6;generalize ν 7=b4 at hR|-;generalize ν 8=n5 at hR|-;generalize ν 9=n6 at hR|-;generalize ν 10=b7 at hR|-;generalize ν 11=n8 at hR|-;generalize ν 12=n9 at hR|-;have R3:=hdd hR;clear hR R2;simp only[putL,List.setIfInBounds_toArray,List.set];go_wp2;obtain⟨x0,x1,x2,x3⟩:=bH (R3.out.at m2);refine bodyPost_ret (v:=.agg #[_,_,_,_]) (by simp[results,Tryz.results23,go_sem,x0,x1,x2,x3];first|exact⟨rfl,rfl,rfl,rfl⟩|rfl) rfl ?_;exact R3.out.pt m5 m7
theorem Run.middle {s:Bs}{W:World}{j i' j':Nat}{K:List (Ex×Nat)}{l:List (Nat×Obj)}{px py qx qy:Ex}(h:Run s g N K l W)(hN:N+6<=20000)(h1:(px,i)∈K)(h2:(py,i')∈K)(h3:(qx,j)∈K)(h4:(qy,j')∈K):Calls Tryz.prog 23 #[aN g i i',aN g j j'] W (RtP s g (N+6) K l (midE px qx) (midE py qy)):=by
 obtain⟨ns,hs,hK⟩:=h;exact(ac2 hs.st hN (hK _ h1) (hK _ h2) (hK _ h3) (hK _ h4)).mono fun _ _ hr=>vZ hs hK hr
theorem abS{S:Spec Ex}{w0:Bs}{c0 m n m' n' t t':Nat}{x y x' y':Ex}(hM:c0+S.total<=20000)(hx:(m,x)∈S.know)(hy:(n,y)∈S.know)(px:S.pre i m=true)(py:S.pre i n=true)(hx':(m',x')∈S.know)(hy':(n',y')∈S.know)(px':S.pre i m'=true)(py':S.pre i n'=true)
 (hc:S.cost i=6) (hv:S.val i=aW g t t') (ht:S.cr t=some i) (ht':S.cr t'=some i) (hne:t'≠t) (hk:S.made i=[(t,midE x x'),(t',midE y y')]):fI S w0 g c0 i 23 (fun ν=>#[aN g (ν m) (ν n),aN g (ν m') (ν n')]):=
 rD hM (d:=5) hc hv ht ht' hne hk fun lst ν c w hD hl h=>h.middle (by omega) (dS hx (pre_on px hD)) (dS hy (pre_on py hD)) (dS hx' (pre_on px' hD)) (dS hy' (pre_on py' hD))
end Go.Proofs.YtgodkfgnhpnhcaaGreatDoor
