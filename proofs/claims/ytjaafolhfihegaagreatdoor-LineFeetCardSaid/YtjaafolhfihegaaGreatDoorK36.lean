/- A part of the proof: contracts of functions and plain laws (LiC, FltC, OpA, FwA, FwB, TwD, LtA, AlvD). -/
import Derived.Test.YtjaafolhfihegaaGreatDoorK35
import Derived.Test.YtjaafolhfihegaaGreatDoorK08
import Derived.WalkKit
import Derived.Laws.NewFold
import Derived.Test.YtjaafolhfihegaaGreatDoorK34
import Derived.IntWalk
import Derived.Test.YtjaafolhfihegaaGreatDoorK11
import Derived.Test.YtjaafolhfihegaaGreatDoorK19
set_option linter.unusedVariables false
set_option linter.unusedSimpArgs false
set_option maxHeartbeats 25600000
set_option maxRecDepth 100000
namespace Go.Proofs.YtjaafolhfihegaaGreatDoor
open Go.RowKit Go.Maps
open List renaming setIfInBounds_toArray->bhZ,set->bh0
theorem aeH{g ca cb cc da db dc:Nat}{q:Int}(h1:dH ca cb cc)(h2:dH da db dc)(hS:dG PT (aK ca db cb da) q)(hq:(q==0)=false):FnOk 57 g 30 #[.pointer (some ⟨g,0,none⟩),curV 1 ca cb cc,curV 1 da db dc] [] (fun ks=>.tuple #[bP g (ks.getD 0 0) (ks.getD 1 0),.nilIface]) [.div (aK cc db dc cb) (aK ca db cb da),.div (aK ca dc da cc) (aK ca db cb da)]:=FnOk.of fun w B ns N hR hN=>by
 have R1:=hdd hR;clear hR;go_enter Tryz.func57,Tryz.ntmps57
 go_upto_region 0 with fail
 refine Spec.run (S:=⟨_,fun i=>([.w (.c (.ptr 0 0)),.w (.c (.ptr 1 0)),.w (.c (.ptr 2 0)),.w (.c (.v Value.nilIface))]:List SV).getD i noS,fun n=>([some 0,some 1,some 2]:List (Option Nat)).getD n none,
  [],[⟨0,29,[.v (.int .i64 1),.v (.float .f64 ca),.v (.float .f64 cb),.v (.float .f64 cc)],none⟩,⟨1,29,[.v (.int .i64 1),.v (.float .f64 da),.v (.float .f64 db),.v (.float .f64 dc)],none⟩,⟨2,33,[.v (.pointer none),.v (.int .i64 0),.v (.pointer none),.v (.int .i64 0)],none⟩],
  fun i=>([0,0,0,0]:List Nat).getD i 0,fun i=>([[],[],[],[]]:List (List Nat)).getD i [],[(1,.w (.agg ([.v (.int .i64 1),.v (.float .f64 ca),.v (.float .f64 cb),.v (.float .f64 cc)]))),(2,.w (.agg ([.v (.int .i64 1),.v (.float .f64 da),.v (.float .f64 db),.v (.float .f64 dc)])))]⟩)
  (W:=runW ⟨w,B,ns⟩ g) (ν0:=fun n=>([]:List Nat).getD n 0) (c0:=N)
  (fs:=fun ν=>[(4,.pointer (some ⟨(ν 0),0,none⟩)),(5,.pointer (some ⟨(ν 1),0,none⟩)),(6,.pointer (some ⟨(ν 2),0,none⟩)),(7,Value.nilIface)]) 4 N [] []
  ⟨Spec.wf_of (by kernel_rfl),aU (by kernel_rfl),aM ⟨rfl,rfl,trivial⟩⟩ R1.out (Run.nodup R1.out) (by omega)
  (fun b hM=>aA (aA (aA (aA aO
    (aW b m0))
    (aW b m1))
    (aW b m2))
    (aB b)) ?_
 intro ν W2 hν hR;replace hR:Run ⟨w,B,ns⟩ g N [] [((ν 0),.cells #[(.int .i64 1),(.float .f64 ca),(.float .f64 cb),(.float .f64 cc)] 29),((ν 1),.cells #[(.int .i64 1),(.float .f64 da),(.float .f64 db),(.float .f64 dc)] 29),((ν 2),.cells #[.pointer none,.int .i64 0,.pointer none,.int .i64 0] 33)] W2:=hR;clear hν;generalize ν 0=b1 at hR|-;generalize ν 1=b2 at hR|-;generalize ν 2=b3 at hR|-;have R2:=hdd hR;clear hR R1;simp only[putL,bhZ,bh0]
 go_upto_region 1 with fail
 refine Spec.run (S:=⟨_,fun i=>([.w (.c (.v (.pointer (some ⟨g,0,none⟩)))),.w (.agg ([.v (.int .i64 1),.v (.float .f64 ca),.v (.float .f64 cb),.v (.float .f64 cc)])),.w (.agg ([.v (.int .i64 1),.v (.float .f64 da),.v (.float .f64 db),.v (.float .f64 dc)])),.tup [.c (.v (.bool false)),.c (.v .nilIface)],.tup [.c (.v (.bool false)),.c (.v .nilIface)],.w (.c (.v (.bool false))),.w (.c (.v .nilIface)),.w (.c (.v (.bool false))),.w (.c (.v .nilIface))]:List SV).getD i noS,fun n=>([none,none,none]:List (Option Nat)).getD n none,
  [],[⟨0,29,[.v (.int .i64 1),.v (.float .f64 ca),.v (.float .f64 cb),.v (.float .f64 cc)],none⟩,⟨1,29,[.v (.int .i64 1),.v (.float .f64 da),.v (.float .f64 db),.v (.float .f64 dc)],none⟩,⟨2,33,[.v (.pointer none),.v (.int .i64 0),.v (.pointer none),.v (.int .i64 0)],none⟩],
  fun i=>([0,0,0,7,0,0,0,0,0]:List Nat).getD i 0,fun i=>([[],[],[],[0,1,2],[0,1,2,3],[0,1,2,3,4],[0,1,2,3,4],[0,1,2,3,4,5],[0,1,2,3,4,6]]:List (List Nat)).getD i [],[(0,.w (.c (.v (.pointer (some ⟨g,0,none⟩))))),(4,.w (.c (.ptr 0 0))),(5,.w (.c (.ptr 1 0)))]⟩)
  (W:=runW ⟨w,B,ns⟩ g) (ν0:=fun n=>([b1,b2,b3]:List Nat).getD n 0) (c0:=N)
  (fs:=fun ν=>[(14,.pointer (some ⟨g,0,none⟩)),(15,.agg #[(.int .i64 1),(.float .f64 ca),(.float .f64 cb),(.float .f64 cc)]),(16,.agg #[(.int .i64 1),(.float .f64 da),(.float .f64 db),(.float .f64 dc)]),(17,.tuple #[(.bool false),.nilIface]),(13,.tuple #[(.bool false),.nilIface]),(18,(.bool false)),(19,.nilIface),(8,(.bool false)),(9,.nilIface)]) 9 (N+7) [] []
  ⟨Spec.wf_of (by kernel_rfl),aU (by kernel_rfl),aM ⟨rfl,rfl,rfl,trivial⟩⟩ R2.out (Run.nodup R2.out) (by omega)
  (fun b hM=>aA (aA (aA (aA (aA (aA (aA (aA (aA aO
    (aB b))
    (aP b 4 m0))
    (aP b 4 m1))
    (aI b (c_fn (ix:=[]) (ts:=[]) hM (fun ν=>nZ h1 h2 hS hq))))
    (aB b))
    (aB b))
    (aB b))
    (aB b))
    (aB b)) ?_
 intro ν W3 hν hR;replace hR:Run ⟨w,B,ns⟩ g (N+7) [] [((ν 0),.cells #[(.int .i64 1),(.float .f64 ca),(.float .f64 cb),(.float .f64 cc)] 29),((ν 1),.cells #[(.int .i64 1),(.float .f64 da),(.float .f64 db),(.float .f64 dc)] 29),((ν 2),.cells #[.pointer none,.int .i64 0,.pointer none,.int .i64 0] 33)] W3:=hR;have e0:ν 0=b1:=hν 0 rfl;have e1:ν 1=b2:=hν 1 rfl;have e2:ν 2=b3:=hν 2 rfl;simp only[e0,e1,e2]at hR|-;clear hν e0 e1 e2;have R3:=hdd hR;clear hR R2;simp only[putL,bhZ,bh0]
 go_upto_region 6 with fail
 refine Spec.run (S:=⟨_,fun i=>([.w (.c (.v (.pointer (some ⟨g,0,none⟩)))),.w (.c (.ptr 0 1)),.w (.c (.v (.float .f64 ca))),.w (.c (.ptr 1 2)),.w (.c (.v (.float .f64 db))),.w (.c (.ptr 0 2)),.w (.c (.v (.float .f64 cb))),.w (.c (.ptr 1 1)),.w (.c (.v (.float .f64 da))),numS g 3,.w (.c (.ptr 4 0)),noS]:List SV).getD i noS,fun n=>([none,none,none,some 9,some 10]:List (Option Nat)).getD n none,
  [(3,(aK ca db cb da))],[⟨0,29,[.v (.int .i64 1),.v (.float .f64 ca),.v (.float .f64 cb),.v (.float .f64 cc)],none⟩,⟨1,29,[.v (.int .i64 1),.v (.float .f64 da),.v (.float .f64 db),.v (.float .f64 dc)],none⟩,⟨2,33,[.v (.pointer none),.v (.int .i64 0),.v (.pointer none),.v (.int .i64 0)],none⟩,⟨4,31,[.v (.pointer none),.v (.int .i64 0)],some (11,numC g 3)⟩],
  fun i=>([0,0,0,0,0,0,0,0,0,7,0,0]:List Nat).getD i 0,fun i=>([[],[],[1],[],[3],[],[5],[],[7],[0,1,2,3,4,5,6,7,8],[],[0,1,2,3,4,5,6,7,8,9,10]]:List (List Nat)).getD i [],[(0,.w (.c (.v (.pointer (some ⟨g,0,none⟩))))),(4,.w (.c (.ptr 0 0))),(5,.w (.c (.ptr 1 0)))]⟩)
  (W:=runW ⟨w,B,ns⟩ g) (ν0:=fun n=>([b1,b2,b3]:List Nat).getD n 0) (c0:=(N+7))
  (fs:=fun ν=>[(27,.pointer (some ⟨g,0,none⟩)),(28,.pointer (some ⟨(ν 0),1,none⟩)),(29,(.float .f64 ca)),(30,.pointer (some ⟨(ν 1),2,none⟩)),(31,(.float .f64 db)),(32,.pointer (some ⟨(ν 0),2,none⟩)),(33,(.float .f64 cb)),(34,.pointer (some ⟨(ν 1),1,none⟩)),(35,(.float .f64 da)),(36,numV g (ν 3)),(10,.pointer (some ⟨(ν 4),0,none⟩))]) 12 (N+14) [] []
  ⟨Spec.wf_of (by kernel_rfl),aU (by kernel_rfl),aM ⟨rfl,rfl,rfl,trivial⟩⟩ R3.out (Run.nodup R3.out) (by omega)
  (fun b hM=>aA (aA (aA (aA (aA (aA (aA (aA (aA (aA (aA (aA aO
    (aB b))
    (aB b))
    (aN b m0))
    (aB b))
    (aN b m1))
    (aB b))
    (aN b m0))
    (aB b))
    (aN b m1))
    (aI b (c_fn (ix:=[]) (ts:=[3]) hM (fun ν=>rO ⟨h1.1.1,h1.1.2⟩ ⟨h2.2.1.1,h2.2.1.2⟩ ⟨h1.2.1.1,h1.2.1.2⟩ ⟨h2.1.1,h2.1.2⟩))))
    (aW b m3))
    (dB b 2 m3)) ?_
 intro ν W4 hν hR;replace hR:Run ⟨w,B,ns⟩ g (N+14) [((aK ca db cb da),ν 3)] [((ν 0),.cells #[(.int .i64 1),(.float .f64 ca),(.float .f64 cb),(.float .f64 cc)] 29),((ν 1),.cells #[(.int .i64 1),(.float .f64 da),(.float .f64 db),(.float .f64 dc)] 29),((ν 2),.cells #[.pointer none,.int .i64 0,.pointer none,.int .i64 0] 33),((ν 4),numO g (ν 3))] W4:=hR;have e0:ν 0=b1:=hν 0 rfl;have e1:ν 1=b2:=hν 1 rfl;have e2:ν 2=b3:=hν 2 rfl;simp only[e0,e1,e2]at hR|-;clear hν e0 e1 e2;generalize ν 3=n4 at hR|-;generalize ν 4=b5 at hR|-;have R4:=hdd hR;clear hR R3;simp only[putL,bhZ,bh0]
 go_upto_region 7 with fail
 refine Spec.run (S:=⟨_,fun i=>([.w (.c (.v (.pointer (some ⟨g,0,none⟩)))),.w (.c (.ptr 0 3)),.w (.c (.v (.float .f64 cc))),.w (.c (.ptr 1 2)),.w (.c (.v (.float .f64 db))),.w (.c (.ptr 1 3)),.w (.c (.v (.float .f64 dc))),.w (.c (.ptr 0 2)),.w (.c (.v (.float .f64 cb))),numS g 5,.w (.c (.ptr 6 0)),noS]:List SV).getD i noS,fun n=>([none,none,none,none,none,some 9,some 10]:List (Option Nat)).getD n none,
  [(3,(aK ca db cb da)),(5,(aK cc db dc cb))],[⟨0,29,[.v (.int .i64 1),.v (.float .f64 ca),.v (.float .f64 cb),.v (.float .f64 cc)],none⟩,⟨1,29,[.v (.int .i64 1),.v (.float .f64 da),.v (.float .f64 db),.v (.float .f64 dc)],none⟩,⟨2,33,[.v (.pointer none),.v (.int .i64 0),.v (.pointer none),.v (.int .i64 0)],none⟩,⟨4,31,numC g 3,none⟩,⟨6,31,[.v (.pointer none),.v (.int .i64 0)],some (11,numC g 5)⟩],
  fun i=>([0,0,0,0,0,0,0,0,0,7,0,0]:List Nat).getD i 0,fun i=>([[],[],[1],[],[3],[],[5],[],[7],[0,1,2,3,4,5,6,7,8],[],[0,1,2,3,4,5,6,7,8,9,10]]:List (List Nat)).getD i [],[(0,.w (.c (.v (.pointer (some ⟨g,0,none⟩))))),(4,.w (.c (.ptr 0 0))),(5,.w (.c (.ptr 1 0)))]⟩)
  (W:=runW ⟨w,B,ns⟩ g) (ν0:=fun n=>([b1,b2,b3,n4,b5]:List Nat).getD n 0) (c0:=(N+14))
  (fs:=fun ν=>[(37,.pointer (some ⟨g,0,none⟩)),(38,.pointer (some ⟨(ν 0),3,none⟩)),(39,(.float .f64 cc)),(40,.pointer (some ⟨(ν 1),2,none⟩)),(41,(.float .f64 db)),(42,.pointer (some ⟨(ν 1),3,none⟩)),(43,(.float .f64 dc)),(44,.pointer (some ⟨(ν 0),2,none⟩)),(45,(.float .f64 cb)),(46,numV g (ν 5)),(11,.pointer (some ⟨(ν 6),0,none⟩))]) 12 (N+21) [] []
  ⟨Spec.wf_of (by kernel_rfl),aU (by kernel_rfl),aM ⟨rfl,rfl,rfl,trivial⟩⟩ R4.out (Run.nodup R4.out) (by omega)
  (fun b hM=>aA (aA (aA (aA (aA (aA (aA (aA (aA (aA (aA (aA aO
    (aB b))
    (aB b))
    (aN b m0))
    (aB b))
    (aN b m1))
    (aB b))
    (aN b m1))
    (aB b))
    (aN b m0))
    (aI b (c_fn (ix:=[]) (ts:=[5]) hM (fun ν=>rO ⟨h1.2.2.1.1,h1.2.2.1.2⟩ ⟨h2.2.1.1,h2.2.1.2⟩ ⟨h2.2.2.1.1,h2.2.2.1.2⟩ ⟨h1.2.1.1,h1.2.1.2⟩))))
    (aW b m4))
    (dB b 2 m4)) ?_
 intro ν W5 hν hR;replace hR:Run ⟨w,B,ns⟩ g (N+21) [((aK ca db cb da),ν 3),((aK cc db dc cb),ν 5)] [((ν 0),.cells #[(.int .i64 1),(.float .f64 ca),(.float .f64 cb),(.float .f64 cc)] 29),((ν 1),.cells #[(.int .i64 1),(.float .f64 da),(.float .f64 db),(.float .f64 dc)] 29),((ν 2),.cells #[.pointer none,.int .i64 0,.pointer none,.int .i64 0] 33),((ν 4),numO g (ν 3)),((ν 6),numO g (ν 5))] W5:=hR;have e0:ν 0=b1:=hν 0 rfl;have e1:ν 1=b2:=hν 1 rfl;have e2:ν 2=b3:=hν 2 rfl;have e3:ν 3=n4:=hν 3 rfl;have e4:ν 4=b5:=hν 4 rfl;simp only[e0,e1,e2,e3,e4]at hR|-;clear hν e0 e1 e2 e3 e4;generalize ν 5=n6 at hR|-;generalize ν 6=b7 at hR|-;have R5:=hdd hR;clear hR R4;simp only[putL,bhZ,bh0]
 go_upto_region 8 with fail
 refine Spec.run (S:=⟨_,fun i=>([.w (.c (.v (.pointer (some ⟨g,0,none⟩)))),.w (.c (.ptr 0 1)),.w (.c (.v (.float .f64 ca))),.w (.c (.ptr 1 3)),.w (.c (.v (.float .f64 dc))),.w (.c (.ptr 1 1)),.w (.c (.v (.float .f64 da))),.w (.c (.ptr 0 3)),.w (.c (.v (.float .f64 cc))),numS g 7,.w (.c (.ptr 8 0)),noS]:List SV).getD i noS,fun n=>([none,none,none,none,none,none,none,some 9,some 10]:List (Option Nat)).getD n none,
  [(3,(aK ca db cb da)),(5,(aK cc db dc cb)),(7,(aK ca dc da cc))],[⟨0,29,[.v (.int .i64 1),.v (.float .f64 ca),.v (.float .f64 cb),.v (.float .f64 cc)],none⟩,⟨1,29,[.v (.int .i64 1),.v (.float .f64 da),.v (.float .f64 db),.v (.float .f64 dc)],none⟩,⟨2,33,[.v (.pointer none),.v (.int .i64 0),.v (.pointer none),.v (.int .i64 0)],none⟩,⟨4,31,numC g 3,none⟩,⟨6,31,numC g 5,none⟩,⟨8,31,[.v (.pointer none),.v (.int .i64 0)],some (11,numC g 7)⟩],
  fun i=>([0,0,0,0,0,0,0,0,0,7,0,0]:List Nat).getD i 0,fun i=>([[],[],[1],[],[3],[],[5],[],[7],[0,1,2,3,4,5,6,7,8],[],[0,1,2,3,4,5,6,7,8,9,10]]:List (List Nat)).getD i [],[(0,.w (.c (.v (.pointer (some ⟨g,0,none⟩))))),(4,.w (.c (.ptr 0 0))),(5,.w (.c (.ptr 1 0)))]⟩)
  (W:=runW ⟨w,B,ns⟩ g) (ν0:=fun n=>([b1,b2,b3,n4,b5,n6,b7]:List Nat).getD n 0) (c0:=(N+21))
  (fs:=fun ν=>[(47,.pointer (some ⟨g,0,none⟩)),(48,.pointer (some ⟨(ν 0),1,none⟩)),(49,(.float .f64 ca)),(50,.pointer (some ⟨(ν 1),3,none⟩)),(51,(.float .f64 dc)),(52,.pointer (some ⟨(ν 1),1,none⟩)),(53,(.float .f64 da)),(54,.pointer (some ⟨(ν 0),3,none⟩)),(55,(.float .f64 cc)),(56,numV g (ν 7)),(12,.pointer (some ⟨(ν 8),0,none⟩))]) 12 (N+28) [] []
  ⟨Spec.wf_of (by kernel_rfl),aU (by kernel_rfl),aM ⟨rfl,rfl,rfl,trivial⟩⟩ R5.out (Run.nodup R5.out) (by omega)
  (fun b hM=>aA (aA (aA (aA (aA (aA (aA (aA (aA (aA (aA (aA aO
    (aB b))
    (aB b))
    (aN b m0))
    (aB b))
    (aN b m1))
    (aB b))
    (aN b m1))
    (aB b))
    (aN b m0))
    (aI b (c_fn (ix:=[]) (ts:=[7]) hM (fun ν=>rO ⟨h1.1.1,h1.1.2⟩ ⟨h2.2.2.1.1,h2.2.2.1.2⟩ ⟨h2.1.1,h2.1.2⟩ ⟨h1.2.2.1.1,h1.2.2.1.2⟩))))
    (aW b m5))
    (dB b 2 m5)) ?_
 intro ν W6 hν hR;replace hR:Run ⟨w,B,ns⟩ g (N+28) [((aK ca db cb da),ν 3),((aK cc db dc cb),ν 5),((aK ca dc da cc),ν 7)] [((ν 0),.cells #[(.int .i64 1),(.float .f64 ca),(.float .f64 cb),(.float .f64 cc)] 29),((ν 1),.cells #[(.int .i64 1),(.float .f64 da),(.float .f64 db),(.float .f64 dc)] 29),((ν 2),.cells #[.pointer none,.int .i64 0,.pointer none,.int .i64 0] 33),((ν 4),numO g (ν 3)),((ν 6),numO g (ν 5)),((ν 8),numO g (ν 7))] W6:=hR;have e0:ν 0=b1:=hν 0 rfl;have e1:ν 1=b2:=hν 1 rfl;have e2:ν 2=b3:=hν 2 rfl;have e3:ν 3=n4:=hν 3 rfl;have e4:ν 4=b5:=hν 4 rfl;have e5:ν 5=n6:=hν 5 rfl;have e6:ν 6=b7:=hν 6 rfl;simp only[e0,e1,e2,e3,e4,e5,e6]at hR|-;clear hν e0 e1 e2 e3 e4 e5 e6;generalize ν 7=n8 at hR|-;generalize ν 8=b9 at hR|-;have R6:=hdd hR;clear hR R5;simp only[putL,bhZ,bh0]
 go_upto_region 9 with fail
 refine Spec.run (S:=⟨_,fun i=>([numS g 3,numS g 1,numS g 7,numS g 5,numS g 1,numS g 8,fA g 7 8,noS,.w (.c (.v Value.nilIface))]:List SV).getD i noS,fun n=>([none,none,none,none,none,none,none,some 2,some 5]:List (Option Nat)).getD n none,
  [(1,(aK ca db cb da)),(3,(aK cc db dc cb)),(5,(aK ca dc da cc)),(7,(.div (aK cc db dc cb) (aK ca db cb da))),(8,(.div (aK ca dc da cc) (aK ca db cb da)))],[⟨0,33,[.v (.pointer none),.v (.int .i64 0),.v (.pointer none),.v (.int .i64 0)],some (7,dL g 7 8)⟩,⟨2,31,numC g 1,none⟩,⟨4,31,numC g 3,none⟩,⟨6,31,numC g 5,none⟩],
  fun i=>([0,0,1,0,0,1,0,0,0]:List Nat).getD i 0,fun i=>([[],[],[0,1],[],[],[3,4],[0,1,2,3,4,5],[0,1,2,3,4,5,6],[]]:List (List Nat)).getD i [],[(11,.w (.c (.ptr 4 0))),(10,.w (.c (.ptr 2 0))),(12,.w (.c (.ptr 6 0))),(6,.w (.c (.ptr 0 0)))]⟩)
  (W:=runW ⟨w,B,ns⟩ g) (ν0:=fun n=>([b3,n4,b5,n6,b7,n8,b9]:List Nat).getD n 0) (c0:=(N+28))
  (fs:=fun ν=>[(57,numV g (ν 3)),(58,numV g (ν 1)),(59,numV g (ν 7)),(60,numV g (ν 5)),(61,numV g (ν 1)),(62,numV g (ν 8)),(63,bP g (ν 7) (ν 8)),(7,Value.nilIface)]) 9 (N+30) [] [false,false]
  ⟨Spec.wf_of (by kernel_rfl),aU (by kernel_rfl),aM ⟨rfl,rfl,rfl,rfl,trivial⟩⟩ R6.out (Run.nodup R6.out) (by omega)
  (fun b hM=>aA (aA (aA (aA (aA (aA (aA (aA (aA aO
    (aP b 2 m2))
    (aP b 2 m1))
    (aI b (ae8 hM m1 m0 rfl rfl rfl rfl rfl rfl)))
    (aP b 2 m3))
    (aP b 2 m1))
    (aI b (ae8 hM m2 m0 rfl rfl rfl rfl rfl rfl)))
    (aB b))
    (dB b 4 m0))
    (aB b)) ?_
 intro ν W7 hν hR;replace hR:Run ⟨w,B,ns⟩ g (N+30) [((aK ca db cb da),ν 1),((aK cc db dc cb),ν 3),((aK ca dc da cc),ν 5),((.div (aK cc db dc cb) (aK ca db cb da)),ν 7),((.div (aK ca dc da cc) (aK ca db cb da)),ν 8)] [((ν 0),dS g (ν 7) (ν 8)),((ν 2),numO g (ν 1)),((ν 4),numO g (ν 3)),((ν 6),numO g (ν 5))] W7:=hR;have e0:ν 0=b3:=hν 0 rfl;have e1:ν 1=n4:=hν 1 rfl;have e2:ν 2=b5:=hν 2 rfl;have e3:ν 3=n6:=hν 3 rfl;have e4:ν 4=b7:=hν 4 rfl;have e5:ν 5=n8:=hν 5 rfl;have e6:ν 6=b9:=hν 6 rfl;simp only[e0,e1,e2,e3,e4,e5,e6]at hR|-;clear hν e0 e1 e2 e3 e4 e5 e6;generalize ν 7=n10 at hR|-;generalize ν 8=n11 at hR|-;have R7:=hdd hR;clear hR R6;simp only[putL,bhZ,bh0];go_wp2;obtain⟨x0,x1,x2,x3⟩:=aR (R7.out.at m0);refine bodyPost_ret (v:=.tuple #[.agg #[_,_,_,_],.nilIface]) (by simp[results,Tryz.results57,go_sem,x0,x1,x2,x3];first|exact⟨rfl,rfl,rfl,rfl⟩|rfl) rfl ?_;exact⟨[n10,n11],rfl,rfl,_,R7.out.few (mJ [3,4])⟩
end Go.Proofs.YtjaafolhfihegaaGreatDoor
namespace Go.Proofs.YtjaafolhfihegaaGreatDoor
open Ieee
variable{x:Nat}
theorem aaX(h:fin x):double.sub x x=some 0:=by
 obtain⟨m,p,e,-,-⟩:=fE h;unfold Format.sub;rw[e];have h1:(Datum.number (fneg x) m p).sum (Datum.number (fneg x) m p).opposite=some (.number false 0 p):=by
  cases fneg x<;>simp[Datum.opposite,Datum.sum,signed]<;>omega
 rw[h1];show some (double.nearest false 0 p)=some 0;rw[kE];rfl
theorem aaY(h:¬fin x):double.sub x x=none:=by
 unfold Format.sub
 cases e:double.read x with
 |nan s f=>rfl
 |infinity s=>cases s<;>rfl
 |number s m p=>
  exfalso;have h':¬x%2^63<2047*2^52:=h;unfold Format.read at e;simp only[lG,gT,kD,iJ]at e;rw[if_neg (by omega),if_neg (by omega)]at e
  split at e<;>cases e
theorem ahT{r:Nat}(h:infR<rung r):double.order r 0=none:=by
 have h':2047*2^52<r%2^63:=h;have:∃s f,double.read r=.nan s f:=by
  unfold Format.read;simp only[lG,gT,kD,iJ];rw[if_neg (by omega),if_neg (by omega),if_neg (by omega)];exact⟨_,_,rfl⟩
 obtain⟨s,f,e⟩:=this;unfold Format.order;rw[e];rfl
theorem sM{P:Program}(h:fin x)(t:TypeId)(w:World):(binOp .sub t (.float .f64 x) (.float .f64 x)).run P w=.ok (.float .f64 0) w:=
 run_float_arith w .sub t .f64 x x 0 (aaX h)
theorem sN{P:Program}(h:¬fin x)(t:TypeId)(w:World):∃r,(binOp .sub t (.float .f64 x) (.float .f64 x)).run P w=.ok (.float .f64 r) w.drew/\double.order r 0=none:=by
 have hs:FloatKind.f64.format.sub x x=none:=aaY h;refine⟨(Question.nanBits .f64 x x).cut (w.tape w.drawn (Question.nanBits .f64 x x)),?_,ahT ?_⟩
 . simp[binOp,Op.floatArith,hs,Question.forced]
 . unfold rung infR
   simp only[Question.cut];generalize w.tape w.drawn (Question.nanBits .f64 x x)=t;have hu:t%2<2:=Nat.mod_lt _ (by decide);have hv:t/2%(2^52-1)<2^52-1:=Nat.mod_lt _ (by decide);generalize t%2=u at hu;generalize t/2%(2^52-1)=v at hv;have:u=0\/u=1:=by omega
   rcases this with rfl|rfl<;>omega
end Go.Proofs.YtjaafolhfihegaaGreatDoor
namespace Go.Proofs.YtjaafolhfihegaaGreatDoor
open Go.RowKit Go.Maps
section
variable{P:Program}{ρ:Operand->Value}{o:Oper}{t t2:TypeId}{x y:Operand}{a b v:Value}{w:World}
theorem gL{op:BinOp}(ho:o.op=.binOp op t x y t2)(hx:ρ x=a)(hy:ρ y=b)(hg:eqGuard op t x y a b=pure ())(h:(binOp op t a b).run P w=.ok v w):(execOp ρ o).run P w=.ok (.value v) w:=by
 unfold execOp;rw[ho];simp only[hx,hy,hg];generalize binOp op t a b=q at h|-;simp[go_sem,h]
theorem o6(ho:o.op=.convert t t2 x)(hx:ρ x=a)(h:(convert t t2 a).run P w=.ok v w):(execOp ρ o).run P w=.ok (.value v) w:=by
 unfold execOp;rw[ho];simp only[hx];generalize convert t t2 a=q at h|-;simp[go_sem,h]
end
theorem aaZ{k n:Int}(hn:¬n=0)(w:World):(binOp .rem 3 (.int .i64 k) (.int .i64 n)).run Tryz.prog w=.ok (.int .i64 (k.tmod n)) w:=by
 simp[go_sem,hn]
theorem afP{a b:Int}(h:IntKind.i64.wrap (a+b)=a+b)(w:World):(binOp .add 3 (.int .i64 a) (.int .i64 b)).run Tryz.prog w=.ok (.int .i64 (a+b)) w:=by
 simp[go_sem,h]
theorem kM(a:Int)(w:World):(convert 3 27 (.int .i64 a)).run Tryz.prog w=.ok (.float .f64 (fl a)) w:=by
 simp[go_sem];rfl
end Go.Proofs.YtjaafolhfihegaaGreatDoor
namespace Go.Proofs.YtjaafolhfihegaaGreatDoor
open Go.RowKit Go.Maps
open Ieee
open Go.RowKit.Below renaming refl->bh3
open Nat renaming le_add_right->bh2
variable{a b v:Nat}
theorem an0:fv 4634204016564240384=(64:Int)*(U74:Int):=by kernel_rfl
theorem alK:fv 13857576053419016192=(-64:Int)*(U74:Int):=by kernel_rfl
theorem alL:sr a<sr b↔fv a<fv b:=by unfold fv;exact vP.symm
theorem alM:sr a<=sr b↔fv a<=fv b:=by unfold fv;exact pJ.symm
theorem Qw.of {x:Int}(h1:b<18446744073709551616)(h2:fin b)(h:fv b*4=x*(U74:Int)):Qw b x:=by
 obtain⟨u,hu,hU⟩:=eP;refine⟨⟨h1,h2⟩,u-2,by omega,?_⟩;rw[hU,show u=(u-2)+2 by omega,Nat.pow_add]at h;generalize 2^(u-2)=A at*;have h3:(4:Int)≠0:=by decide
 refine Int.eq_of_mul_eq_mul_right h3 ?_;rw[h];push_cast;grind
theorem anD(hv:v<18446744073709551616)(hf:fin v):
 (¬sr 13857576053419016192<=sr v/\¬sr 4634204016564240384<sr v/\sr v<sr 13857576053419016192)\/(sr 13857576053419016192<=sr v/\¬sr v<=sr 4634204016564240384/\sr 4634204016564240384<sr v)\/
 (sr 13857576053419016192<=sr v/\sr v<=sr 4634204016564240384/\∃(r:Nat) (T:Int),double.mul v 4616189618054758400=some r/\fin r/\(double.read r).toInt .zero=some T/\T.natAbs<=256/\fin (fl T)/\(sr r=sr (fl T)->Qw v T)/\∃s,double.div (fl T) 4616189618054758400=some s/\Qw s T):=by
 simp only[alM,alL,an0,alK];have hU:0<U74:=qJ 1074;by_cases h1:fv v< -64*(U74:Int)
 . exact Or.inl ⟨by omega,by omega,h1⟩
 by_cases h2:64*(U74:Int)<fv v
 . exact Or.inr (Or.inl ⟨by omega,by omega,h2⟩)
 obtain⟨r,k1,k2,k3,k4⟩:=alF hf (by omega);obtain⟨T,t1,t2⟩:=ac6 (b:=256) k3 (by omega);obtain⟨f1,f2,f3⟩:=nY (k:=T) (by omega);obtain⟨s,s1,s2,s3,q,s4,s5⟩:=aeG t2;refine Or.inr (Or.inr ⟨by omega,by omega,r,T,k1,k3,t1,t2,f2,fun e=>Qw.of hv hf ?_,s,s1,⟨⟨s2,s3⟩,q,s4,s5⟩⟩);have:fv r=fv (fl T):=by unfold fv;rw[e]
 rw[<-k4,this,f3]
theorem anE{r:Nat}{T:Int}(h:(double.read r).toInt .zero=some T)(hb:T.natAbs<=1000000)(w:World):(convert 27 3 (.float .f64 r)).run Tryz.prog w=.ok (.int .i64 T) w:=by
 refine run_convert_float_int w _ _ .f64 .i64 r T (by rw[Tryz.underlying27];rfl) Tryz.underlying3 ?_;unfold floatToIntVal;rw[show(FloatKind.f64.decode r).toInt .zero=some T from h];have h1:IntKind.i64.min<=T:=by show(-9223372036854775808:Int)<=T;omega
 have h2:T<=IntKind.i64.max:=by show T<=(9223372036854775807:Int);omega
 exact if_pos ⟨h1,h2⟩
def xP(r:Nat):Prop:=r<18446744073709551616/\(¬fin r\/∃m:Int,m.natAbs<=256/\Qw r m)
theorem apU:Qw 4634204016564240384 256:=Qw.of (by decide) (by decide) (by rw[an0];grind)
theorem ao6:Qw 13857576053419016192 (-256):=Qw.of (by decide) (by decide) (by rw[alK];grind)
theorem aeI(hv:v<18446744073709551616):∃r,xP r/\∀w,Calls Tryz.prog 59 #[.float .f64 v] w (RetV w (.float .f64 r)):=by
 by_cases hf:fin v
 . have hsub:∀w,(binOp .sub 27 (.float .f64 v) (.float .f64 v)).run Tryz.prog w=.ok (.float .f64 0) w:=fun w=>sM (P:=Tryz.prog) hf 27 w
   have n64:num 4634204016564240384:=by decide
   have nm:num 13857576053419016192:=by decide
   have o1:=ai7 (b:=v) hf.num nm;have o2:=adS (b:=v) hf.num n64;have o3:=rW (b:=v) hf.num n64;have o4:=zT (b:=v) hf.num nm;rcases anD hv hf with ⟨h1,h2,h3⟩|⟨h1,h2,h3⟩|⟨h1,h2,r,T,k1,k2,k3,k4,k5,k6,s,k7,k8⟩
   . rw[decide_eq_false h1]at o1;rw[decide_eq_false h2]at o3;rw[decide_eq_true h3]at o4
     refine⟨_,⟨by decide,Or.inr ⟨_,by decide,ao6⟩⟩,fun w=> ?_⟩;clear h1 h2 h3 o2 hv hf;go_enter Tryz.func59,Tryz.ntmps59
     go_wp2;go_ret;exact⟨rfl,bh3 _ _⟩
   . rw[decide_eq_true h1]at o1;rw[decide_eq_false h2]at o2;rw[decide_eq_true h3]at o3
     refine⟨_,⟨by decide,Or.inr ⟨_,by decide,apU⟩⟩,fun w=> ?_⟩;clear h1 h2 h3 o4 hv hf;go_enter Tryz.func59,Tryz.ntmps59
     go_wp2;go_ret;exact⟨rfl,bh3 _ _⟩
   . have o5:=kG (b:=r) (c:=fl T) k2.num k5.num
     have m1:∀w,(binOp .mul 27 (.float .f64 v) (.float .f64 4616189618054758400)).run Tryz.prog w=.ok (.float .f64 r) w:=fun w=>run_float_arith w .mul 27 .f64 v 4616189618054758400 r k1;have m2:∀w,(convert 27 3 (.float .f64 r)).run Tryz.prog w=.ok (.int .i64 T) w:=fun w=>anE k3 (by omega) w;have m3:∀w,(convert 3 27 (.int .i64 T)).run Tryz.prog w=.ok (.float .f64 (fl T)) w:=fun w=>kM T w;have m4:∀w,(binOp .quo 27 (.float .f64 (fl T)) (.float .f64 4616189618054758400)).run Tryz.prog w=.ok (.float .f64 s) w:=fun w=>run_float_arith w .quo 27 .f64 (fl T) 4616189618054758400 s k7;have HF:Hid (xP s):=hdd ⟨k8.ok.1,Or.inr ⟨_,k4,k8⟩⟩;rw[decide_eq_true h1]at o1;rw[decide_eq_true h2]at o2;rw[decide_eq_false (by omega)]at o3;rw[decide_eq_false (by omega)]at o4;by_cases e:sr r=sr (fl T)
     . have HV:Hid (xP v):=hdd ⟨hv,Or.inr ⟨_,k4,k6 e⟩⟩
       rw[decide_eq_true e]at o5;refine⟨v,HV.out,fun w=> ?_⟩;clear h1 h2 k1 k2 k3 k4 k5 k6 k7 k8 hv hf e o3 o4;generalize fl T=F at*;go_enter Tryz.func59,Tryz.ntmps59
       go_wp2_with (simp only[hsub,m1,m2,m3,m4])
       go_ret;exact⟨rfl,bh3 _ _⟩
     . rw[decide_eq_false e]at o5
       refine⟨s,HF.out,fun w=> ?_⟩;clear h1 h2 k1 k2 k3 k4 k5 k6 k7 k8 hv hf e;generalize fl T=F at*;go_enter Tryz.func59,Tryz.ntmps59
       go_wp2_with (simp only[hsub,m1,m2,m3,m4])
       go_ret;exact⟨rfl,bh3 _ _⟩
 . refine⟨v,⟨hv,Or.inl hf⟩,fun w=> ?_⟩
   obtain⟨r,hsub,hr⟩:=sN (P:=Tryz.prog) hf 27 w;replace hr:(FloatKind.f64.format.order r 0 != some Ordering.eq)=true:=by
    rw[show FloatKind.f64.format.order r 0=none from hr];rfl
   clear hv hf;go_enter Tryz.func59,Tryz.ntmps59
   go_wp2;go_ret;exact⟨rfl,(bh3 _ _).drew⟩
theorem ac7{n:Int}{c:Nat}(ha:a<18446744073709551616)(hb:b<18446744073709551616)(hc:c<18446744073709551616):∃r s t,xP r/\xP s/\xP t/\∀w,Calls Tryz.prog 20 #[curV n a b c] w (RetV w (curV n r s t)):=by
 obtain⟨r,hr,ca⟩:=aeI ha;obtain⟨s,hs,cb⟩:=aeI hb;obtain⟨t,ht,cc⟩:=aeI hc;refine⟨r,s,t,hr,hs,ht,fun w=> ?_⟩;obtain⟨w2,hw2,hb2,hs2,b1,b2⟩:=pro2 w (curO n a b c) (curO 0 0 0 0);obtain⟨c0,c1,c2,c3⟩:=aR b1;have HB:=hdd hb2;have B2:=hdd b2;have CA:=hdd ca;have CB:=hdd cb;have CC:=hdd cc;clear hr hs ht ca cb cc hb2 hs2 b1 b2 ha hb hc;have hst:=aZ;go_enter Tryz.func20,Tryz.ntmps20
 have hd:Below w2.heap.size w2 w2.drew:=(bh3 _ _).drew;replace c0:=cbl c0 hd;replace c1:=cbl c1 hd;replace c2:=cbl c2 hd;replace c3:=cbl c3 hd;replace HB:=hdd (HB.out.trans (hd.mono HB.out.size));replace B2:=hdd (hbl B2.out hd);clear hd;go_wp2_with fail
 go_region_held3 (fun w'=>w'.cell? ⟨w.heap.size,0,none⟩=some (.int .i64 n)/\w'.cell? ⟨w.heap.size,1,none⟩=some (.float .f64 a)/\w'.cell? ⟨w.heap.size,2,none⟩=some (.float .f64 b)/\w'.cell? ⟨w.heap.size,3,none⟩=some (.float .f64 c)) (go_keep)
  (first
  |(go_at_call 59
    with_reducible refine(CA.out _).mono ?_
    rintro e w5⟨rfl,hb5⟩;have c0:=cbl c0 hb5;have c1:=cbl c1 hb5;have c2:=cbl c2 hb5;have c3:=cbl c3 hb5;have HB5:=hdd (HB.out.trans (hb5.mono HB.out.size));have B5:=hdd (hbl B2.out hb5);clear hb5)
  |(go_at_call 59
    with_reducible refine(CB.out _).mono ?_
    rintro e w6⟨rfl,hb6⟩;have c0:=cbl c0 hb6;have c1:=cbl c1 hb6;have c2:=cbl c2 hb6;have c3:=cbl c3 hb6;have HB6:=hdd (HB5.out.trans (hb6.mono HB5.out.size));have B6:=hdd (hbl B5.out hb6);clear hb6)
  |(go_at_call 59
    with_reducible refine(CC.out _).mono ?_
    rintro e w7⟨rfl,hb7⟩;have c0:=cbl c0 hb7;have c1:=cbl c1 hb7;have c2:=cbl c2 hb7;have c3:=cbl c3 hb7;have HB7:=hdd (HB6.out.trans (hb7.mono HB6.out.size));have B7:=hdd (hbl B6.out hb7);obtain⟨e0,e1,e2,e3⟩:=aR B7.out;obtain⟨f0,f1,f2,f3⟩:=qN B7.out;clear hb7))
 go_wp2;obtain⟨x0,x1,x2,x3⟩:=aR (set4 B7.out (.int .i64 n) (.float .f64 r) (.float .f64 s) (.float .f64 t));refine bodyPost_ret (v:=.agg #[_,_,_,_]) (by simp[results,Tryz.results20,go_sem,x0,x1,x2,x3];first|exact⟨rfl,rfl,rfl,rfl⟩|rfl) rfl ?_;exact⟨rfl,(((HB7.out.setCell (bh2 _ 1) _).setCell (bh2 _ 1) _).setCell (bh2 _ 1) _).setCell (bh2 _ 1) _⟩
end Go.Proofs.YtjaafolhfihegaaGreatDoor
namespace Go.Proofs.YtjaafolhfihegaaGreatDoor
open Go.RowKit Go.Maps
open Int renaming tmod_lt_of_pos->bh4,lt_tmod_of_pos->bh5
variable{k n:Int}
theorem anF(k:Int)(hn:0<n/\n<1000000):∃a b K:Int,(∀w,(binOp .rem 3 (.int .i64 k) (.int .i64 n)).run Tryz.prog w=.ok (.int .i64 a) w)/\(∀w,(binOp .add 3 (.int .i64 a) (.int .i64 n)).run Tryz.prog w=.ok (.int .i64 b) w)/\
 (∀w,(binOp .rem 3 (.int .i64 b) (.int .i64 n)).run Tryz.prog w=.ok (.int .i64 K) w)/\0<=K/\K<n:=by
 have h1:=bh5 k hn.1;have h2:=bh4 k hn.1;have h3:0<=(k.tmod n+n).tmod n:=Int.tmod_nonneg _ (by omega);have h4:=bh4 (k.tmod n+n) hn.1;exact⟨_,_,_,fun w=>aaZ (by omega) w,fun w=>afP (IntWalk.i64_in _ (by omega)) w,fun w=>aaZ (by omega) w,h3,h4⟩
theorem xQ(k:Int)(hn:0<n):∃K:Int,(∀w,(binOp .rem 3 (.int .i64 k) (.int .i64 n)).run Tryz.prog w=.ok (.int .i64 K) w)/\-n<K/\K<n:=
 ⟨_,fun w=>aaZ (by omega) w,bh5 k hn,bh4 k hn⟩
theorem alN{a b:Int}(h:-1000000000000<a+b/\a+b<1000000000000)(e:k=a+b)(w:World):(binOp .add 3 (.int .i64 a) (.int .i64 b)).run Tryz.prog w=.ok (.int .i64 k) w:=by
 rw[e];exact afP (IntWalk.i64_in _ (by omega)) w
theorem xR(h:k.natAbs<2^53):FlOk (fl k):=⟨(nY h).1,(nY h).2.1⟩
end Go.Proofs.YtjaafolhfihegaaGreatDoor
namespace Go.Proofs.YtjaafolhfihegaaGreatDoor
open Go.RowKit Go.Maps Ieee
open Go.RowKit.Below renaming heap_setCell->bh6
variable{T x y z:Int}{a b c g:Nat}
theorem FnOk.up {f:FuncId}{d d':Nat}{av:Array Value}{K0:List (Ex×Nat)}{V:List Nat->Value}{es:List Ex}(h:FnOk f g d av K0 V es)(hd:d<=d'):FnOk f g d' av K0 V es:=fun s N K l W hR hN hK=>
 (h s N K l W hR (by omega) hK).mono fun e W' ⟨ks,h1,h2,h3⟩=>⟨ks,h1,h2,h3.more (by omega)⟩
theorem anG{ca cb cc da db dc:Nat}{p q:Int}(h1:dH ca cb cc)(h2:dH da db dc)(hS:dG PT (aK ca db cb da) 0)(hS2:dG PT (aK ca dc da cc) p)(hS3:dG PT (aK cb dc db cc) q)(hq:p≠0\/q≠0):
 FnOk 22 g 21 #[.pointer (some ⟨g,0,none⟩),curV 1 ca cb cc,curV 1 da db dc] [] (fun ks=>.tuple #[.bool false,.nilIface]) []:=by
 by_cases h0:p=0
 . subst h0
   exact alJ h1 h2 hS hS2 hS3 (by
    have:=hq.resolve_left (fun h=>h rfl);exact beq_eq_false_iff_ne.2 this)
 . exact(alI h1 h2 hS hS2 (beq_eq_false_iff_ne.2 h0)).up (by omega)
theorem zF{B:Nat}{w0 w1:World}{T:TypeId}{z0 z1 z2 z3 a b c d k:Value}(hb:Below B w0 w1)(hg:B<=g)(h:w1.heap[g]? =some (.cells #[z0,z1,z2,z3] T (0,0))):
 ∃w2,((((w1.setCell ⟨g,0,none⟩ a).setCell ⟨g,1,none⟩ b).setCell ⟨g,2,none⟩ c).setCell ⟨g,3,none⟩ d).setCell ⟨g,0,none⟩ k=w2/\Below B w0 w2/\w2.heap.size=w1.heap.size/\w2.heap[g]? =some (.cells #[k,b,c,d] T (0,0))/\∀i,g≠i->w2.heap[i]? =w1.heap[i]? :=by
 refine⟨_,rfl,((((hb.setCell hg _).setCell hg _).setCell hg _).setCell hg _).setCell hg _,by simp,?_,fun i hi=> ?_⟩
 . have hg:g<w1.heap.size:=(Array.getElem?_eq_some_iff.1 h).1
   have h':w1.heap[g]=.cells #[z0,z1,z2,z3] T (0,0):=(Array.getElem?_eq_some_iff.1 h).2;simp[World.setCell,hg,Array.getElem_modify,h']
 . rw[bh6 _ _ _ _ (by simp;omega),bh6 _ _ _ _ (by simp;omega),bh6 _ _ _ _ (by simp;omega),bh6 _ _ _ _ (by simp;omega),bh6 _ _ _ _ (by simp;omega)]
theorem apV(h:T.natAbs<2^53):Iw (fl T) T:=⟨⟨(nY h).1,(nY h).2.1⟩,(nY h).2.2⟩
theorem ao7(h:Iw b T):Iw (b ^^^ 2^63) (-T):=by
 obtain⟨h1,h2,h3⟩:=nE h.1.1;refine⟨⟨h1,by unfold fin;rw[h2];exact h.1.2⟩,?_⟩;unfold fv;rw[h3,uP,Int.neg_mul];exact congrArg (- ·) h.2
theorem anH{P:Program}(b:Nat)(w:World):(Op.unary UnOp.neg (.float .f64 b)).run P w=.ok (.float .f64 (b ^^^ 2^63)) w:=by kernel_rfl
theorem afQ(h:x≠0):(4*x).sign≠0:=fun e=>h (by have:=Int.sign_eq_zero_iff_zero.1 e;omega)
theorem aeJ(h:Iw b T)(q:Qw c x)(hx:(T*x).natAbs<2^53):∃r,double.mul b c=some r/\Qw r (T*x):=by
 obtain⟨u,hu,hU⟩:=eP;obtain⟨k,hk,hv⟩:=q.val;obtain⟨r,h1,h2,h3,h4⟩:=ahQ (i:=0) (j:=2) h.1.2 q.ok.2 (by omega) (by omega) (by omega) (by rw[h.2,hU,show 1074-0=u by omega]) (by rw[hv,show 1074-2=k by omega]) hx;exact⟨r,h1,⟨h2,h3⟩,k,hk,by rw[h4,show 1074-(0+2)=k by omega]⟩
theorem anI(q:Qw b x)(hx:(x+4).natAbs<2^53):∃r,double.add b 4607182418800017408=some r/\Qw r (x+4):=by
 obtain⟨u,hu,hU⟩:=eP;obtain⟨k,hk,hv⟩:=q.val;obtain⟨r,h1,h2,h3,h4⟩:=ahR (i:=2) (x:=b) (y:=4607182418800017408) (b:=4) q.ok.2 (by decide) (by rw[hv,show 1074-2=k by omega]) (by
  rw[alD,hU,show 1074-2=k by omega,show u=k+2 by omega,Nat.pow_add];generalize 2^k=A
  push_cast;grind) hx
 exact⟨r,h1,⟨h2,h3⟩,k,hk,by rw[h4,show 1074-2=k by omega]⟩
theorem sO{r:Nat}(h:xP r)(hf:fin r):∃m:Int,m.natAbs<=256/\Qw r m:=h.2.resolve_left fun k=>k hf
theorem aa0(ha:Qw a x)(hb:Qw b y)(hc:Qw c z)(h:x≠0\/y≠0):dH a b c:=⟨ha.ok,hb.ok,hc.ok,by rw[ne_eq,ne_eq,ha.ne,hb.ne];exact h⟩
theorem afR(h:dH a b c)(ha:Qw a x)(hb:Qw b y)(hc:Qw c z):x≠0\/y≠0:=by
 have:=h.2.2.2;rw[ne_eq,ne_eq,ha.ne,hb.ne]at this;exact this
end Go.Proofs.YtjaafolhfihegaaGreatDoor
namespace Go.Proofs.YtjaafolhfihegaaGreatDoor
open Go.RowKit Go.Maps Go.Stop Go.Extern
open Re (rat ofI ofN)
theorem ao8{L:List Ex}:Fit L (.leaf 0 0) (.leaf 0) (rat 0):=Fit.leaf 0 (by decide) (by decide) alC (by decide)
theorem aeK:fv 4607182418800017408≠0:=by
 rw[alD];have h:0<U74:=qJ 1074;omega
theorem anJ:dH 4607182418800017408 0 4607182418800017408:=⟨⟨by decide,by decide⟩,⟨by decide,by decide⟩,⟨by decide,by decide⟩,Or.inl aeK⟩
theorem anK:dH 0 4607182418800017408 4611686018427387904:=⟨⟨by decide,by decide⟩,⟨by decide,by decide⟩,⟨by decide,by decide⟩,Or.inr aeK⟩
theorem anL:dH 4607182418800017408 0 0:=⟨⟨by decide,by decide⟩,⟨by decide,by decide⟩,⟨by decide,by decide⟩,Or.inl aeK⟩
theorem anM:¬dH 0 0 0:=fun h=>h.2.2.2.elim (fun k=>k (by rw[alC];exact Int.zero_mul _)) (fun k=>k (by rw[alC];exact Int.zero_mul _))
theorem ahU:dG PT (aK 4607182418800017408 4607182418800017408 0 0) 1/\wM PT (.div (aK 4607182418800017408 4607182418800017408 4611686018427387904 0) (aK 4607182418800017408 4607182418800017408 0 0)) (.div (aK 4607182418800017408 4611686018427387904 0 4607182418800017408) (aK 4607182418800017408 4607182418800017408 0 0)) (.leaf 4607182418800017408) (.leaf 4611686018427387904) 0:=by
 have o:=ao3 (L:=[]);have t:=ao4 (L:=[]);have z:=ao8 (L:=[]);have n:=(o.rmul o).rsub (z.rmul z);have x:=Fit.rdiv Lok.nil ((o.rmul o).rsub (t.rmul z)) n (by grind) (z:=1) (by grind);have y:=Fit.rdiv Lok.nil ((o.rmul t).rsub (z.rmul o)) n (by grind) (z:=2) (by grind);exact⟨n.pos (by grind) (by kernel_rfl),0,0,trivial,(x.rsub o).zero (by grind) (by kernel_rfl),fun _=>⟨trivial,(y.rsub t).zero (by grind) (by kernel_rfl)⟩,rfl⟩
theorem afS{w:World}(hT:Tab w)(htb:1<w.heap.size):
 Calls Tryz.prog 19 #[] w (RetV w (.bool true)):=by
 have HN:=hdd (aaG (l:=[]) (Below.refl w.heap.size w) (fun p hp=>by cases hp) (by simp) hT htb);clear hT htb;have CM:=hdd ahU;have LK:=hdd (And.intro anJ anK);go_enter Tryz.func19,Tryz.ntmps19
 go_wp2_with fail
 refine HN.out.mono ?_;rintro e W1⟨g,rfl,hR⟩;have R1:=hdd hR;clear hR HN;dsimp only
 go_upto_region 4 with fail
 refine Spec.run (S:=⟨_,fun i=>([.w (.c (.v (.pointer (some ⟨g,0,none⟩)))),.w (.agg ([.v (Value.int IntKind.i64 1),.v (Value.float FloatKind.f64 4607182418800017408),.v (.float .f64 0),.v (Value.float FloatKind.f64 4607182418800017408)])),.w (.agg ([.v (Value.int IntKind.i64 1),.v (.float .f64 0),.v (Value.float FloatKind.f64 4607182418800017408),.v (Value.float FloatKind.f64 4611686018427387904)])),.tup [.agg (dL g 0 1),.c (.v .nilIface)],.tup [.agg (dL g 0 1),.c (.v .nilIface)],fA g 0 1,.w (.c (.v .nilIface)),.w (.c (.ptr 2 0)),noS,.w (.c (.v .nilIface))]:List SV).getD i noS,fun n=>([some 3,some 3,some 7]:List (Option Nat)).getD n none,
  [(0,(.div (aK 4607182418800017408 4607182418800017408 4611686018427387904 0) (aK 4607182418800017408 4607182418800017408 0 0))),(1,(.div (aK 4607182418800017408 4611686018427387904 0 4607182418800017408) (aK 4607182418800017408 4607182418800017408 0 0)))],[⟨2,33,[.v (.pointer none),.v (.int .i64 0),.v (.pointer none),.v (.int .i64 0)],some (8,dL g 0 1)⟩],
  fun i=>([0,0,0,30,0,0,0,0,0,0]:List Nat).getD i 0,fun i=>([[],[],[],[0,1,2],[0,1,2,3],[0,1,2,3,4],[0,1,2,3,4],[],[0,1,2,3,4,5,7],[0,1,2,3,4,6]]:List (List Nat)).getD i [],[(1,.w (.c (.v (.pointer (some ⟨g,0,none⟩)))))]⟩)
  (W:=runW (bs w) g) (ν0:=fun n=>([]:List Nat).getD n 0) (c0:=0)
  (fs:=fun ν=>[(10,.pointer (some ⟨g,0,none⟩)),(11,.agg #[(Value.int IntKind.i64 1),(Value.float FloatKind.f64 4607182418800017408),.float .f64 0,(Value.float FloatKind.f64 4607182418800017408)]),(12,.agg #[(Value.int IntKind.i64 1),.float .f64 0,(Value.float FloatKind.f64 4607182418800017408),(Value.float FloatKind.f64 4611686018427387904)]),(13,.tuple #[bP g (ν 0) (ν 1),.nilIface]),(9,.tuple #[bP g (ν 0) (ν 1),.nilIface]),(14,bP g (ν 0) (ν 1)),(15,.nilIface),(2,.pointer (some ⟨(ν 2),0,none⟩)),(3,.nilIface)]) 10 30 [] []
  ⟨Spec.wf_of (by kernel_rfl),aU (by kernel_rfl),aM ⟨rfl,trivial⟩⟩ R1.out (Run.nodup R1.out) (by decide)
  (fun b hM=>aA (aA (aA (aA (aA (aA (aA (aA (aA (aA aO
    (aB b))
    (aB b))
    (aB b))
    (aI b (c_fn (ix:=[]) (ts:=[0,1]) hM (fun ν=>aeH LK.out.1 LK.out.2 CM.out.1 (by decide)))))
    (aB b))
    (aB b))
    (aB b))
    (aW b m0))
    (dB b 4 m0))
    (aB b)) ?_
 intro ν W2 hν hR;replace hR:Run (bs w) g 30 [((.div (aK 4607182418800017408 4607182418800017408 4611686018427387904 0) (aK 4607182418800017408 4607182418800017408 0 0)),ν 0),((.div (aK 4607182418800017408 4611686018427387904 0 4607182418800017408) (aK 4607182418800017408 4607182418800017408 0 0)),ν 1)] [((ν 2),dS g (ν 0) (ν 1))] W2:=hR;clear hν;generalize ν 0=n1 at hR|-;generalize ν 1=n2 at hR|-;generalize ν 2=b3 at hR|-;have R2:=hdd hR;clear hR R1;simp only[putL,List.setIfInBounds_toArray,List.set]
 go_upto_region 7 with fail
 refine Spec.run (S:=⟨_,fun i=>([fA g 0 1,.w (.c (.v (.pointer (some ⟨g,0,none⟩)))),fA g 3 4,.tup [.c (.v (.bool true)),.c (.v .nilIface)],.tup [.c (.v (.bool true)),.c (.v .nilIface)],.w (.c (.v (.bool true))),.w (.c (.v .nilIface)),.w (.c (.v (.bool true))),.w (.c (.v .nilIface))]:List SV).getD i noS,fun n=>([none,none,none,some 2,some 2]:List (Option Nat)).getD n none,
  [(0,(.div (aK 4607182418800017408 4607182418800017408 4611686018427387904 0) (aK 4607182418800017408 4607182418800017408 0 0))),(1,(.div (aK 4607182418800017408 4611686018427387904 0 4607182418800017408) (aK 4607182418800017408 4607182418800017408 0 0))),(3,(.leaf 4607182418800017408)),(4,(.leaf 4611686018427387904))],[⟨2,33,dL g 0 1,none⟩],
  fun i=>([0,0,2,2,0,0,0,0,0]:List Nat).getD i 0,fun i=>([[],[],[1],[0,1,2],[0,1,2,3],[0,1,2,3,4],[0,1,2,3,4],[0,1,2,3,4,5],[0,1,2,3,4,6]]:List (List Nat)).getD i [],[(2,.w (.c (.ptr 2 0))),(1,.w (.c (.v (.pointer (some ⟨g,0,none⟩)))))]⟩)
  (W:=runW (bs w) g) (ν0:=fun n=>([n1,n2,b3]:List Nat).getD n 0) (c0:=30)
  (fs:=fun ν=>[(19,bP g (ν 0) (ν 1)),(20,.pointer (some ⟨g,0,none⟩)),(21,bP g (ν 3) (ν 4)),(22,.tuple #[(.bool true),.nilIface]),(18,.tuple #[(.bool true),.nilIface]),(23,(.bool true)),(24,.nilIface),(4,(.bool true)),(5,.nilIface)]) 9 34 [] []
  ⟨Spec.wf_of (by kernel_rfl),aU (by kernel_rfl),aM ⟨rfl,rfl,trivial⟩⟩ R2.out (Run.nodup R2.out) (by decide)
  (fun b hM=>aA (aA (aA (aA (aA (aA (aA (aA (aA aO
    (aP b 4 m0))
    (aB b))
    (aI b (c_at hM (by decide) (by decide) (by decide) (by decide) rfl rfl rfl rfl (by decide) rfl)))
    (aI b (aoP hM m0 m1 rfl rfl m2 m3 rfl rfl rfl rfl rfl CM.out.2)))
    (aB b))
    (aB b))
    (aB b))
    (aB b))
    (aB b)) ?_
 intro ν W3 hν hR;replace hR:Run (bs w) g 34 [((.div (aK 4607182418800017408 4607182418800017408 4611686018427387904 0) (aK 4607182418800017408 4607182418800017408 0 0)),ν 0),((.div (aK 4607182418800017408 4611686018427387904 0 4607182418800017408) (aK 4607182418800017408 4607182418800017408 0 0)),ν 1),((.leaf 4607182418800017408),ν 3),((.leaf 4611686018427387904),ν 4)] [((ν 2),dS g (ν 0) (ν 1))] W3:=hR;have e0:ν 0=n1:=hν 0 rfl;have e1:ν 1=n2:=hν 1 rfl;have e2:ν 2=b3:=hν 2 rfl;simp only[e0,e1,e2]at hR|-;clear hν e0 e1 e2;generalize ν 3=n4 at hR|-;generalize ν 4=n5 at hR|-;have R3:=hdd hR;clear hR R2;simp only[putL,List.setIfInBounds_toArray,List.set];have HB:=hdd R3.out.below;clear R3 CM LK;go_wp2_with fail
 refine(oO anL).mono ?_;rintro e w5⟨rfl,hb5⟩;have HB5:=hdd (HB.out.trans (hb5.mono HB.out.size));clear hb5;go_wp2_with fail
 refine(wQ (by decide) (by decide) (by decide) anM).mono ?_;rintro e w6⟨er,n,rfl,hn,he,hb6⟩;have HB6:=hdd (HB5.out.trans (hb6.mono HB5.out.size));have HC:=hdd (akC he (by omega));clear hb6 he hn;go_wp2_with fail
 refine HC.out.mono ?_;rintro e w7⟨rfl,hb7⟩;have HB7:=hdd (HB6.out.trans (hb7.mono HB6.out.size));clear hb7;go_wp2;go_ret;exact⟨rfl,HB7.out⟩
end Go.Proofs.YtjaafolhfihegaaGreatDoor
