/- A part of the proof: contracts of functions and plain laws (CiA, CiB, FtA, FeA, FtB). -/
import Derived.Test.YtgodkfgnhpnhcaaGreatDoorK40
import Derived.Test.YtgodkfgnhpnhcaaGreatDoorK30
import Derived.Test.YtgodkfgnhpnhcaaGreatDoorK08
import Derived.Test.YtgodkfgnhpnhcaaGreatDoorK34
set_option linter.unusedVariables false
set_option linter.unusedSimpArgs false
set_option maxHeartbeats 25600000
set_option maxRecDepth 100000
namespace Go.Proofs.YtgodkfgnhpnhcaaGreatDoor
open Go.RowKit Go.Maps
open List renaming setIfInBounds_toArray->ap5,set->ap6
variable{ca cb cc g:Nat}
abbrev aoA(x y:Ex)(a b c:Nat):Ex:=.sub (.add (.mul (.sub x (.leaf a)) (.sub x (.leaf a))) (.mul (.sub y (.leaf b)) (.sub y (.leaf b)))) (.leaf c)
theorem an1{i j:Nat}{X Y:Ex}(hca:FlOk ca)(hcb:FlOk cb)(hcc:FlOk cc):FnOk 57 g 9 #[.pointer (some ⟨g,0,none⟩),curV 2 ca cb cc,aN g i j] [(X,i),(Y,j)] (fun ks=>numV g (ks.getD 0 0)) [aoA X Y ca cb cc]:=FnOk.of fun w B ns N hR hN=>by
 have R1:=hdd hR;clear hR;go_enter Tryz.func57,Tryz.ntmps57
 go_upto_region 0 with fail
 refine Spec.run (S:=⟨_,fun i=>([.w (.c (.ptr 2 0)),.w (.c (.ptr 3 0)),.w (.c (.ptr 4 0))]:List SV).getD i noS,fun n=>([none,none,some 0,some 1,some 2]:List (Option Nat)).getD n none,
  [(0,X),(1,Y)],[⟨2,89,[.v (.int .i64 2),.v (.float .f64 ca),.v (.float .f64 cb),.v (.float .f64 cc)],none⟩,⟨3,29,aX g 0 1,none⟩,⟨4,27,[.v (.pointer none),.v (.int .i64 0)],none⟩],
  fun i=>([0,0,0]:List Nat).getD i 0,fun i=>([[],[],[]]:List (List Nat)).getD i [],[(1,.w (.agg ([.v (.int .i64 2),.v (.float .f64 ca),.v (.float .f64 cb),.v (.float .f64 cc)]))),(2,aW g 0 1)]⟩)
  (W:=runW ⟨w,B,ns⟩ g) (ν0:=fun n=>([i,j]:List Nat).getD n 0) (c0:=N)
  (fs:=fun ν=>[(4,.pointer (some ⟨(ν 2),0,none⟩)),(5,.pointer (some ⟨(ν 3),0,none⟩)),(6,.pointer (some ⟨(ν 4),0,none⟩))]) 3 N [] []
  ⟨Spec.wf_of (by kernel_rfl),dG (by kernel_rfl),bJ ⟨rfl,rfl,trivial⟩⟩ R1.out (Run.nodup R1.out) (by omega)
  (fun b hM=>aA (aA (aA bT
    (cZ b m0))
    (cZ b m1))
    (cZ b m2)) ?_
 intro ν W2 hν hR;replace hR:Run ⟨w,B,ns⟩ g N [(X,ν 0),(Y,ν 1)] [((ν 2),.cells #[(.int .i64 2),(.float .f64 ca),(.float .f64 cb),(.float .f64 cc)] 89),((ν 3),aV g (ν 0) (ν 1)),((ν 4),.cells #[.pointer none,.int .i64 0] 27)] W2:=hR;have e0:ν 0=i:=hν 0 rfl;have e1:ν 1=j:=hν 1 rfl;simp only[e0,e1]at hR|-;clear hν e0 e1;generalize ν 2=b1 at hR|-;generalize ν 3=b2 at hR|-;generalize ν 4=b3 at hR|-;have R2:=hdd hR;clear hR R1;simp only[putL,ap5,ap6]
 go_upto_region 1 with fail
 refine Spec.run (S:=⟨_,fun i=>([.w (.c (.ptr 3 0)),numS g 0,.w (.c (.v (.pointer (some ⟨g,0,none⟩)))),.w (.c (.ptr 2 1)),.w (.c (.v (.float .f64 ca))),numS g 5,numS g 6,.w (.c (.ptr 7 0)),noS]:List SV).getD i noS,fun n=>([none,none,none,none,none,some 5,some 6,some 7]:List (Option Nat)).getD n none,
  [(0,X),(1,Y),(5,(.leaf ca)),(6,(.sub X (.leaf ca)))],[⟨2,89,[.v (.int .i64 2),.v (.float .f64 ca),.v (.float .f64 cb),.v (.float .f64 cc)],none⟩,⟨3,29,aX g 0 1,none⟩,⟨4,27,[.v (.pointer none),.v (.int .i64 0)],none⟩,⟨7,27,[.v (.pointer none),.v (.int .i64 0)],some (8,numC g 6)⟩],
  fun i=>([0,0,0,0,0,1,1,0,0]:List Nat).getD i 0,fun i=>([[],[0],[],[],[3],[2,3,4],[0,1,2,3,4,5],[],[0,1,2,3,4,5,6,7]]:List (List Nat)).getD i [],[(5,.w (.c (.ptr 3 0))),(0,.w (.c (.v (.pointer (some ⟨g,0,none⟩))))),(4,.w (.c (.ptr 2 0)))]⟩)
  (W:=runW ⟨w,B,ns⟩ g) (ν0:=fun n=>([i,j,b1,b2,b3]:List Nat).getD n 0) (c0:=N)
  (fs:=fun ν=>[(9,.pointer (some ⟨(ν 3),0,none⟩)),(10,numV g (ν 0)),(11,.pointer (some ⟨g,0,none⟩)),(12,.pointer (some ⟨(ν 2),1,none⟩)),(13,(.float .f64 ca)),(14,numV g (ν 5)),(15,numV g (ν 6)),(7,.pointer (some ⟨(ν 7),0,none⟩))]) 9 (N+2) [] []
  ⟨Spec.wf_of (by kernel_rfl),dG (by kernel_rfl),bJ ⟨rfl,rfl,rfl,trivial⟩⟩ R2.out (Run.nodup R2.out) (by omega)
  (fun b hM=>aA (aA (aA (aA (aA (aA (aA (aA (aA bT
    (aD b))
    (aI b 2 m1))
    (aD b))
    (aD b))
    (iF b m0))
    (aL b (c_of hM hca.1 hca.2 rfl rfl rfl rfl)))
    (aL b (qI hM m0 m2 rfl rfl rfl rfl rfl rfl)))
    (cZ b m3))
    (eT b 2 m3)) ?_
 intro ν W3 hν hR;replace hR:Run ⟨w,B,ns⟩ g (N+2) [(X,ν 0),(Y,ν 1),((.leaf ca),ν 5),((.sub X (.leaf ca)),ν 6)] [((ν 2),.cells #[(.int .i64 2),(.float .f64 ca),(.float .f64 cb),(.float .f64 cc)] 89),((ν 3),aV g (ν 0) (ν 1)),((ν 4),.cells #[.pointer none,.int .i64 0] 27),((ν 7),numO g (ν 6))] W3:=hR;have e0:ν 0=i:=hν 0 rfl;have e1:ν 1=j:=hν 1 rfl;have e2:ν 2=b1:=hν 2 rfl;have e3:ν 3=b2:=hν 3 rfl;have e4:ν 4=b3:=hν 4 rfl;simp only[e0,e1,e2,e3,e4]at hR|-;clear hν e0 e1 e2 e3 e4;generalize ν 5=n4 at hR|-;generalize ν 6=n5 at hR|-;generalize ν 7=b6 at hR|-;have R3:=hdd hR;clear hR R2;simp only[putL,ap5,ap6]
 go_upto_region 2 with fail
 refine Spec.run (S:=⟨_,fun i=>([.w (.c (.ptr 3 2)),numS g 1,.w (.c (.v (.pointer (some ⟨g,0,none⟩)))),.w (.c (.ptr 2 2)),.w (.c (.v (.float .f64 cb))),numS g 7,numS g 8,.w (.c (.ptr 9 0)),noS]:List SV).getD i noS,fun n=>([none,none,none,none,none,none,none,some 5,some 6,some 7]:List (Option Nat)).getD n none,
  [(0,X),(1,Y),(5,(.sub X (.leaf ca))),(7,(.leaf cb)),(8,(.sub Y (.leaf cb)))],[⟨2,89,[.v (.int .i64 2),.v (.float .f64 ca),.v (.float .f64 cb),.v (.float .f64 cc)],none⟩,⟨3,29,aX g 0 1,none⟩,⟨4,27,[.v (.pointer none),.v (.int .i64 0)],none⟩,⟨6,27,numC g 5,none⟩,⟨9,27,[.v (.pointer none),.v (.int .i64 0)],some (8,numC g 8)⟩],
  fun i=>([0,0,0,0,0,1,1,0,0]:List Nat).getD i 0,fun i=>([[],[0],[],[],[3],[2,3,4],[0,1,2,3,4,5],[],[0,1,2,3,4,5,6,7]]:List (List Nat)).getD i [],[(5,.w (.c (.ptr 3 0))),(0,.w (.c (.v (.pointer (some ⟨g,0,none⟩))))),(4,.w (.c (.ptr 2 0)))]⟩)
  (W:=runW ⟨w,B,ns⟩ g) (ν0:=fun n=>([i,j,b1,b2,b3,n5,b6]:List Nat).getD n 0) (c0:=(N+2))
  (fs:=fun ν=>[(16,.pointer (some ⟨(ν 3),2,none⟩)),(17,numV g (ν 1)),(18,.pointer (some ⟨g,0,none⟩)),(19,.pointer (some ⟨(ν 2),2,none⟩)),(20,(.float .f64 cb)),(21,numV g (ν 7)),(22,numV g (ν 8)),(8,.pointer (some ⟨(ν 9),0,none⟩))]) 9 (N+4) [true,true,false] []
  ⟨Spec.wf_of (by kernel_rfl),dG (by kernel_rfl),bJ ⟨rfl,rfl,rfl,trivial⟩⟩ R3.out (Run.nodup R3.out) (by omega)
  (fun b hM=>aA (aA (aA (aA (aA (aA (aA (aA (aA bT
    (aD b))
    (aI b 2 m1))
    (aD b))
    (aD b))
    (iF b m0))
    (aL b (c_of hM hcb.1 hcb.2 rfl rfl rfl rfl)))
    (aL b (qI hM m1 m3 rfl rfl rfl rfl rfl rfl)))
    (cZ b m4))
    (eT b 2 m4)) ?_
 intro ν W4 hν hR;replace hR:Run ⟨w,B,ns⟩ g (N+4) [(X,ν 0),(Y,ν 1),((.sub X (.leaf ca)),ν 5),((.leaf cb),ν 7),((.sub Y (.leaf cb)),ν 8)] [((ν 2),.cells #[(.int .i64 2),(.float .f64 ca),(.float .f64 cb),(.float .f64 cc)] 89),((ν 3),aV g (ν 0) (ν 1)),((ν 4),.cells #[.pointer none,.int .i64 0] 27),((ν 6),numO g (ν 5)),((ν 9),numO g (ν 8))] W4:=hR;have e0:ν 0=i:=hν 0 rfl;have e1:ν 1=j:=hν 1 rfl;have e2:ν 2=b1:=hν 2 rfl;have e3:ν 3=b2:=hν 3 rfl;have e4:ν 4=b3:=hν 4 rfl;have e5:ν 5=n5:=hν 5 rfl;have e6:ν 6=b6:=hν 6 rfl;simp only[e0,e1,e2,e3,e4,e5,e6]at hR|-;clear hν e0 e1 e2 e3 e4 e5 e6;generalize ν 7=n7 at hR|-;generalize ν 8=n8 at hR|-;generalize ν 9=b9 at hR|-;have R4:=hdd hR;clear hR R3;simp only[putL,ap5,ap6]
 go_upto_region 3 with fail
 refine Spec.run (S:=⟨_,fun i=>([numS g 2,numS g 2,.w (.c (.sl 6 1)),numS g 7,numS g 4,numS g 4,.w (.c (.sl 8 1)),numS g 9,.w (.c (.sl 10 1)),numS g 11,.w (.c (.v (.pointer (some ⟨g,0,none⟩)))),.w (.c (.ptr 0 3)),.w (.c (.v (.float .f64 cc))),numS g 12,numS g 13,noS]:List SV).getD i noS,fun n=>([none,none,none,none,none,none,some 2,some 3,some 6,some 7,some 8,some 9,some 13,some 14]:List (Option Nat)).getD n none,
  [(2,(.sub X (.leaf ca))),(4,(.sub Y (.leaf cb))),(7,(.mul (.sub X (.leaf ca)) (.sub X (.leaf ca)))),(9,(.mul (.sub Y (.leaf cb)) (.sub Y (.leaf cb)))),(11,(.add (.mul (.sub X (.leaf ca)) (.sub X (.leaf ca))) (.mul (.sub Y (.leaf cb)) (.sub Y (.leaf cb))))),(12,(.leaf cc)),(13,(.sub (.add (.mul (.sub X (.leaf ca)) (.sub X (.leaf ca))) (.mul (.sub Y (.leaf cb)) (.sub Y (.leaf cb)))) (.leaf cc)))],[⟨0,89,[.v (.int .i64 2),.v (.float .f64 ca),.v (.float .f64 cb),.v (.float .f64 cc)],none⟩,⟨1,27,[.v (.pointer none),.v (.int .i64 0)],some (15,numC g 13)⟩,⟨3,27,numC g 2,none⟩,⟨5,27,numC g 4,none⟩,⟨6,27,numC g 2,none⟩,⟨8,27,numC g 4,none⟩,⟨10,27,numC g 9,none⟩],
  fun i=>([0,0,0,1,0,0,0,1,0,1,0,0,0,1,1,0]:List Nat).getD i 0,fun i=>([[],[],[1],[0,1,2],[],[],[5],[4,5,6],[4,5,6,7],[0,1,2,3,4,5,6,7,8],[],[],[11],[10,11,12],[0,1,2,3,4,5,6,7,8,9,10,11,12,13],[0,1,2,3,4,5,6,7,8,9,10,11,12,13,14]]:List (List Nat)).getD i [],[(7,.w (.c (.ptr 3 0))),(8,.w (.c (.ptr 5 0))),(0,.w (.c (.v (.pointer (some ⟨g,0,none⟩))))),(4,.w (.c (.ptr 0 0))),(6,.w (.c (.ptr 1 0)))]⟩)
  (W:=runW ⟨w,B,ns⟩ g) (ν0:=fun n=>([b1,b3,n5,b6,n8,b9]:List Nat).getD n 0) (c0:=(N+4))
  (fs:=fun ν=>[(23,numV g (ν 2)),(24,numV g (ν 2)),(25,.slice (some ⟨(ν 6),0,none⟩) 1 1),(26,numV g (ν 7)),(27,numV g (ν 4)),(28,numV g (ν 4)),(29,.slice (some ⟨(ν 8),0,none⟩) 1 1),(30,numV g (ν 9)),(31,.slice (some ⟨(ν 10),0,none⟩) 1 1),(32,numV g (ν 11)),(33,.pointer (some ⟨g,0,none⟩)),(34,.pointer (some ⟨(ν 0),3,none⟩)),(35,(.float .f64 cc)),(36,numV g (ν 12)),(37,numV g (ν 13))]) 16 (N+9) [false,false,true,false] [true,false]
  ⟨Spec.wf_of (by kernel_rfl),dG (by kernel_rfl),bJ ⟨rfl,rfl,rfl,rfl,rfl,trivial⟩⟩ R4.out (Run.nodup R4.out) (by omega)
  (fun b hM=>aA (aA (aA (aA (aA (aA (aA (aA (aA (aA (aA (aA (aA (aA (aA (aA bT
    (aI b 2 m2))
    (aI b 2 m2))
    (iG b m4))
    (aL b (abR hM m0 m0 rfl rfl m4 rfl rfl rfl rfl rfl rfl rfl rfl)))
    (aI b 2 m3))
    (aI b 2 m3))
    (iG b m5))
    (aL b (abR hM m1 m1 rfl rfl m5 rfl rfl rfl rfl rfl rfl rfl rfl)))
    (iG b m6))
    (aL b (xV hM m2 m3 rfl rfl m6 rfl rfl rfl rfl rfl rfl rfl rfl)))
    (aD b))
    (aD b))
    (iF b m0))
    (aL b (c_of hM hcc.1 hcc.2 rfl rfl rfl rfl)))
    (aL b (qI hM m4 m5 rfl rfl rfl rfl rfl rfl)))
    (eT b 2 m1)) ?_
 intro ν W5 hν hR;replace hR:Run ⟨w,B,ns⟩ g (N+9) [((.sub X (.leaf ca)),ν 2),((.sub Y (.leaf cb)),ν 4),((.mul (.sub X (.leaf ca)) (.sub X (.leaf ca))),ν 7),((.mul (.sub Y (.leaf cb)) (.sub Y (.leaf cb))),ν 9),((.add (.mul (.sub X (.leaf ca)) (.sub X (.leaf ca))) (.mul (.sub Y (.leaf cb)) (.sub Y (.leaf cb)))),ν 11),((.leaf cc),ν 12),((.sub (.add (.mul (.sub X (.leaf ca)) (.sub X (.leaf ca))) (.mul (.sub Y (.leaf cb)) (.sub Y (.leaf cb)))) (.leaf cc)),ν 13)] [((ν 0),.cells #[(.int .i64 2),(.float .f64 ca),(.float .f64 cb),(.float .f64 cc)] 89),((ν 1),numO g (ν 13)),((ν 3),numO g (ν 2)),((ν 5),numO g (ν 4)),((ν 6),numO g (ν 2)),((ν 8),numO g (ν 4)),((ν 10),numO g (ν 9))] W5:=hR;have e0:ν 0=b1:=hν 0 rfl;have e1:ν 1=b3:=hν 1 rfl;have e2:ν 2=n5:=hν 2 rfl;have e3:ν 3=b6:=hν 3 rfl;have e4:ν 4=n8:=hν 4 rfl;have e5:ν 5=b9:=hν 5 rfl;simp only[e0,e1,e2,e3,e4,e5]at hR|-;clear hν e0 e1 e2 e3 e4 e5;generalize ν 6=b10 at hR|-;generalize ν 7=n11 at hR|-;generalize ν 8=b12 at hR|-;generalize ν 9=n13 at hR|-
 generalize ν 10=b14 at hR|-;generalize ν 11=n15 at hR|-;generalize ν 12=n16 at hR|-;generalize ν 13=n17 at hR|-;have R5:=hdd hR;clear hR R4;simp only[putL,ap5,ap6];go_wp2;obtain⟨x0,x1,-,-⟩:=aC (R5.out.at m1);refine bodyPost_ret (v:=.agg #[_,_]) (by simp[results,Tryz.results57,go_sem,x0,x1];first|exact⟨rfl,rfl⟩|rfl) rfl ?_;exact⟨[n17],rfl,rfl,_,R5.out.few (aoE [6])⟩
theorem an8(hca:FlOk ca)(hcb:FlOk cb):FnOk 56 g 2 #[.pointer (some ⟨g,0,none⟩),curV 2 ca cb cc] [] (fun ks=>aN g (ks.getD 0 0) (ks.getD 1 0)) [.leaf ca,.leaf cb]:=FnOk.of fun w B ns N hR hN=>by
 have R1:=hdd hR;clear hR;go_enter Tryz.func56,Tryz.ntmps56
 go_upto_region 0 with fail
 refine Spec.run (S:=⟨_,fun i=>([.w (.c (.ptr 0 0)),.w (.c (.ptr 1 0))]:List SV).getD i noS,fun n=>([some 0,some 1]:List (Option Nat)).getD n none,
  [],[⟨0,89,[.v (.int .i64 2),.v (.float .f64 ca),.v (.float .f64 cb),.v (.float .f64 cc)],none⟩,⟨1,29,[.v (.pointer none),.v (.int .i64 0),.v (.pointer none),.v (.int .i64 0)],none⟩],
  fun i=>([0,0]:List Nat).getD i 0,fun i=>([[],[]]:List (List Nat)).getD i [],[(1,.w (.agg ([.v (.int .i64 2),.v (.float .f64 ca),.v (.float .f64 cb),.v (.float .f64 cc)])))]⟩)
  (W:=runW ⟨w,B,ns⟩ g) (ν0:=fun n=>([]:List Nat).getD n 0) (c0:=N)
  (fs:=fun ν=>[(3,.pointer (some ⟨(ν 0),0,none⟩)),(4,.pointer (some ⟨(ν 1),0,none⟩))]) 2 N [] []
  ⟨Spec.wf_of (by kernel_rfl),dG (by kernel_rfl),bJ ⟨rfl,trivial⟩⟩ R1.out (Run.nodup R1.out) (by omega)
  (fun b hM=>aA (aA bT
    (cZ b m0))
    (cZ b m1)) ?_
 intro ν W2 hν hR;replace hR:Run ⟨w,B,ns⟩ g N [] [((ν 0),.cells #[(.int .i64 2),(.float .f64 ca),(.float .f64 cb),(.float .f64 cc)] 89),((ν 1),.cells #[.pointer none,.int .i64 0,.pointer none,.int .i64 0] 29)] W2:=hR;clear hν;generalize ν 0=b1 at hR|-;generalize ν 1=b2 at hR|-;have R2:=hdd hR;clear hR R1;simp only[putL,ap5,ap6]
 go_upto_region 1 with fail
 refine Spec.run (S:=⟨_,fun i=>([.w (.c (.v (.pointer (some ⟨g,0,none⟩)))),.w (.c (.ptr 0 1)),.w (.c (.v (.float .f64 ca))),.w (.c (.ptr 0 2)),.w (.c (.v (.float .f64 cb))),aW g 2 3,noS]:List SV).getD i noS,fun n=>([none,none,some 5,some 5]:List (Option Nat)).getD n none,
  [(2,(.leaf ca)),(3,(.leaf cb))],[⟨0,89,[.v (.int .i64 2),.v (.float .f64 ca),.v (.float .f64 cb),.v (.float .f64 cc)],none⟩,⟨1,29,[.v (.pointer none),.v (.int .i64 0),.v (.pointer none),.v (.int .i64 0)],some (6,aX g 2 3)⟩],
  fun i=>([0,0,0,0,0,2,0]:List Nat).getD i 0,fun i=>([[],[],[1],[],[3],[0,1,2,3,4],[0,1,2,3,4,5]]:List (List Nat)).getD i [],[(0,.w (.c (.v (.pointer (some ⟨g,0,none⟩))))),(3,.w (.c (.ptr 0 0))),(4,.w (.c (.ptr 1 0)))]⟩)
  (W:=runW ⟨w,B,ns⟩ g) (ν0:=fun n=>([b1,b2]:List Nat).getD n 0) (c0:=N)
  (fs:=fun ν=>[(5,.pointer (some ⟨g,0,none⟩)),(6,.pointer (some ⟨(ν 0),1,none⟩)),(7,(.float .f64 ca)),(8,.pointer (some ⟨(ν 0),2,none⟩)),(9,(.float .f64 cb)),(10,aN g (ν 2) (ν 3))]) 7 (N+2) [] []
  ⟨Spec.wf_of (by kernel_rfl),dG (by kernel_rfl),bJ ⟨rfl,rfl,rfl,trivial⟩⟩ R2.out (Run.nodup R2.out) (by omega)
  (fun b hM=>aA (aA (aA (aA (aA (aA (aA bT
    (aD b))
    (aD b))
    (iF b m0))
    (aD b))
    (iF b m0))
    (aL b (c_at hM hca.1 hcb.1 hca.2 hcb.2 rfl rfl rfl rfl (by decide) rfl)))
    (eT b 4 m1)) ?_
 intro ν W3 hν hR;replace hR:Run ⟨w,B,ns⟩ g (N+2) [((.leaf ca),ν 2),((.leaf cb),ν 3)] [((ν 0),.cells #[(.int .i64 2),(.float .f64 ca),(.float .f64 cb),(.float .f64 cc)] 89),((ν 1),aV g (ν 2) (ν 3))] W3:=hR;have e0:ν 0=b1:=hν 0 rfl;have e1:ν 1=b2:=hν 1 rfl;simp only[e0,e1]at hR|-;clear hν e0 e1;generalize ν 2=n3 at hR|-;generalize ν 3=n4 at hR|-;have R3:=hdd hR;clear hR R2;simp only[putL,ap5,ap6];go_wp2;obtain⟨x0,x1,x2,x3⟩:=bH (R3.out.at m1);refine bodyPost_ret (v:=.agg #[_,_,_,_]) (by simp[results,Tryz.results56,go_sem,x0,x1,x2,x3];first|exact⟨rfl,rfl,rfl,rfl⟩|rfl) rfl ?_;exact⟨[n3,n4],rfl,rfl,_,R3.out.few (aoE [0,1])⟩
theorem aoK(hcc:FlOk cc):FnOk 96 g 2 #[.pointer (some ⟨g,0,none⟩),curV 2 ca cb cc] [] (fun ks=>numV g (ks.getD 0 0)) [.root (.leaf cc)]:=FnOk.of fun w B ns N hR hN=>by
 have R1:=hdd hR;clear hR;go_enter Tryz.func96,Tryz.ntmps96
 go_upto_region 0 with fail
 refine Spec.run (S:=⟨_,fun i=>([.w (.c (.ptr 0 0)),.w (.c (.ptr 1 0))]:List SV).getD i noS,fun n=>([some 0,some 1]:List (Option Nat)).getD n none,
  [],[⟨0,89,[.v (.int .i64 2),.v (.float .f64 ca),.v (.float .f64 cb),.v (.float .f64 cc)],none⟩,⟨1,27,[.v (.pointer none),.v (.int .i64 0)],none⟩],
  fun i=>([0,0]:List Nat).getD i 0,fun i=>([[],[]]:List (List Nat)).getD i [],[(1,.w (.agg ([.v (.int .i64 2),.v (.float .f64 ca),.v (.float .f64 cb),.v (.float .f64 cc)])))]⟩)
  (W:=runW ⟨w,B,ns⟩ g) (ν0:=fun n=>([]:List Nat).getD n 0) (c0:=N)
  (fs:=fun ν=>[(3,.pointer (some ⟨(ν 0),0,none⟩)),(4,.pointer (some ⟨(ν 1),0,none⟩))]) 2 N [] []
  ⟨Spec.wf_of (by kernel_rfl),dG (by kernel_rfl),bJ ⟨rfl,trivial⟩⟩ R1.out (Run.nodup R1.out) (by omega)
  (fun b hM=>aA (aA bT
    (cZ b m0))
    (cZ b m1)) ?_
 intro ν W2 hν hR;replace hR:Run ⟨w,B,ns⟩ g N [] [((ν 0),.cells #[(.int .i64 2),(.float .f64 ca),(.float .f64 cb),(.float .f64 cc)] 89),((ν 1),.cells #[.pointer none,.int .i64 0] 27)] W2:=hR;clear hν;generalize ν 0=b1 at hR|-;generalize ν 1=b2 at hR|-;have R2:=hdd hR;clear hR R1;simp only[putL,ap5,ap6]
 go_upto_region 1 with fail
 refine Spec.run (S:=⟨_,fun i=>([.w (.c (.v (.pointer (some ⟨g,0,none⟩)))),.w (.c (.ptr 0 3)),.w (.c (.v (.float .f64 cc))),numS g 2,numS g 3,noS]:List SV).getD i noS,fun n=>([none,none,some 3,some 4]:List (Option Nat)).getD n none,
  [(2,(.leaf cc)),(3,(.root (.leaf cc)))],[⟨0,89,[.v (.int .i64 2),.v (.float .f64 ca),.v (.float .f64 cb),.v (.float .f64 cc)],none⟩,⟨1,27,[.v (.pointer none),.v (.int .i64 0)],some (5,numC g 3)⟩],
  fun i=>([0,0,0,1,1,0]:List Nat).getD i 0,fun i=>([[],[],[1],[0,1,2],[0,1,2,3],[0,1,2,3,4]]:List (List Nat)).getD i [],[(0,.w (.c (.v (.pointer (some ⟨g,0,none⟩))))),(3,.w (.c (.ptr 0 0))),(4,.w (.c (.ptr 1 0)))]⟩)
  (W:=runW ⟨w,B,ns⟩ g) (ν0:=fun n=>([b1,b2]:List Nat).getD n 0) (c0:=N)
  (fs:=fun ν=>[(5,.pointer (some ⟨g,0,none⟩)),(6,.pointer (some ⟨(ν 0),3,none⟩)),(7,(.float .f64 cc)),(8,numV g (ν 2)),(9,numV g (ν 3))]) 6 (N+2) [] []
  ⟨Spec.wf_of (by kernel_rfl),dG (by kernel_rfl),bJ ⟨rfl,rfl,rfl,trivial⟩⟩ R2.out (Run.nodup R2.out) (by omega)
  (fun b hM=>aA (aA (aA (aA (aA (aA bT
    (aD b))
    (aD b))
    (iF b m0))
    (aL b (c_of hM hcc.1 hcc.2 rfl rfl rfl rfl)))
    (aL b (am5 hM m0 rfl rfl rfl rfl rfl)))
    (eT b 2 m1)) ?_
 intro ν W3 hν hR;replace hR:Run ⟨w,B,ns⟩ g (N+2) [((.leaf cc),ν 2),((.root (.leaf cc)),ν 3)] [((ν 0),.cells #[(.int .i64 2),(.float .f64 ca),(.float .f64 cb),(.float .f64 cc)] 89),((ν 1),numO g (ν 3))] W3:=hR;have e0:ν 0=b1:=hν 0 rfl;have e1:ν 1=b2:=hν 1 rfl;simp only[e0,e1]at hR|-;clear hν e0 e1;generalize ν 2=n3 at hR|-;generalize ν 3=n4 at hR|-;have R3:=hdd hR;clear hR R2;simp only[putL,ap5,ap6];go_wp2;obtain⟨x0,x1,-,-⟩:=aC (R3.out.at m1);refine bodyPost_ret (v:=.agg #[_,_]) (by simp[results,Tryz.results96,go_sem,x0,x1];first|exact⟨rfl,rfl⟩|rfl) rfl ?_;exact⟨[n4],rfl,rfl,_,R3.out.few (aoE [1])⟩
theorem aoD(hca:FlOk ca)(hcb:FlOk cb)(hcc:FlOk cc)(h0:0<=fv cc):FnOk 58 g 6 #[.pointer (some ⟨g,0,none⟩),curV 2 ca cb cc] [] (fun ks=>.tuple #[aN g (ks.getD 0 0) (ks.getD 1 0),aN g (ks.getD 2 0) (ks.getD 3 0),.nilIface]) [.sub (.leaf ca) (.root (.leaf cc)),.leaf cb,.add (.leaf ca) (.root (.leaf cc)),.leaf cb]:=FnOk.of fun w B ns N hR hN=>by
 have R1:=hdd hR;clear hR;go_enter Tryz.func58,Tryz.ntmps58
 go_upto_region 0 with fail
 refine Spec.run (S:=⟨_,fun i=>([.w (.c (.ptr 0 0)),.w (.c (.ptr 1 0)),.w (.c (.ptr 2 0)),.w (.c (.v Value.nilIface))]:List SV).getD i noS,fun n=>([some 0,some 1,some 2]:List (Option Nat)).getD n none,
  [],[⟨0,89,[.v (.int .i64 2),.v (.float .f64 ca),.v (.float .f64 cb),.v (.float .f64 cc)],none⟩,⟨1,29,[.v (.pointer none),.v (.int .i64 0),.v (.pointer none),.v (.int .i64 0)],none⟩,⟨2,29,[.v (.pointer none),.v (.int .i64 0),.v (.pointer none),.v (.int .i64 0)],none⟩],
  fun i=>([0,0,0,0]:List Nat).getD i 0,fun i=>([[],[],[],[]]:List (List Nat)).getD i [],[(1,.w (.agg ([.v (.int .i64 2),.v (.float .f64 ca),.v (.float .f64 cb),.v (.float .f64 cc)])))]⟩)
  (W:=runW ⟨w,B,ns⟩ g) (ν0:=fun n=>([]:List Nat).getD n 0) (c0:=N)
  (fs:=fun ν=>[(3,.pointer (some ⟨(ν 0),0,none⟩)),(4,.pointer (some ⟨(ν 1),0,none⟩)),(5,.pointer (some ⟨(ν 2),0,none⟩)),(6,Value.nilIface)]) 4 N [] []
  ⟨Spec.wf_of (by kernel_rfl),dG (by kernel_rfl),bJ ⟨rfl,trivial⟩⟩ R1.out (Run.nodup R1.out) (by omega)
  (fun b hM=>aA (aA (aA (aA bT
    (cZ b m0))
    (cZ b m1))
    (cZ b m2))
    (aD b)) ?_
 intro ν W2 hν hR;replace hR:Run ⟨w,B,ns⟩ g N [] [((ν 0),.cells #[(.int .i64 2),(.float .f64 ca),(.float .f64 cb),(.float .f64 cc)] 89),((ν 1),.cells #[.pointer none,.int .i64 0,.pointer none,.int .i64 0] 29),((ν 2),.cells #[.pointer none,.int .i64 0,.pointer none,.int .i64 0] 29)] W2:=hR;clear hν;generalize ν 0=b1 at hR|-;generalize ν 1=b2 at hR|-;generalize ν 2=b3 at hR|-;have R2:=hdd hR;clear hR R1;simp only[putL,ap5,ap6]
 go_upto_region 1 with fail
 refine Spec.run (S:=⟨_,fun i=>([.w (.agg ([.v (.int .i64 2),.v (.float .f64 ca),.v (.float .f64 cb),.v (.float .f64 cc)])),.w (.c (.v .nilIface)),.w (.c (.v .nilIface))]:List SV).getD i noS,fun n=>([none,none,none]:List (Option Nat)).getD n none,
  [],[⟨0,89,[.v (.int .i64 2),.v (.float .f64 ca),.v (.float .f64 cb),.v (.float .f64 cc)],none⟩,⟨1,29,[.v (.pointer none),.v (.int .i64 0),.v (.pointer none),.v (.int .i64 0)],none⟩,⟨2,29,[.v (.pointer none),.v (.int .i64 0),.v (.pointer none),.v (.int .i64 0)],none⟩],
  fun i=>([0,0,0]:List Nat).getD i 0,fun i=>([[],[0],[0,1]]:List (List Nat)).getD i [],[(3,.w (.c (.ptr 0 0)))]⟩)
  (W:=runW ⟨w,B,ns⟩ g) (ν0:=fun n=>([b1,b2,b3]:List Nat).getD n 0) (c0:=N)
  (fs:=fun ν=>[(10,.agg #[(.int .i64 2),(.float .f64 ca),(.float .f64 cb),(.float .f64 cc)]),(11,.nilIface),(7,.nilIface)]) 3 N [] []
  ⟨Spec.wf_of (by kernel_rfl),dG (by kernel_rfl),bJ ⟨rfl,trivial⟩⟩ R2.out (Run.nodup R2.out) (by omega)
  (fun b hM=>aA (aA (aA bT
    (aI b 4 m0))
    (aL b (kY hM rfl rfl rfl (fun w=>aoN hca hcb hcc h0))))
    (aD b)) ?_
 intro ν W3 hν hR;replace hR:Run ⟨w,B,ns⟩ g N [] [((ν 0),.cells #[(.int .i64 2),(.float .f64 ca),(.float .f64 cb),(.float .f64 cc)] 89),((ν 1),.cells #[.pointer none,.int .i64 0,.pointer none,.int .i64 0] 29),((ν 2),.cells #[.pointer none,.int .i64 0,.pointer none,.int .i64 0] 29)] W3:=hR;have e0:ν 0=b1:=hν 0 rfl;have e1:ν 1=b2:=hν 1 rfl;have e2:ν 2=b3:=hν 2 rfl;simp only[e0,e1,e2]at hR|-;clear hν e0 e1 e2;have R3:=hdd hR;clear hR R2;simp only[putL,ap5,ap6]
 go_upto_region 4 with fail
 refine Spec.run (S:=⟨_,fun i=>([.w (.c (.v (.pointer (some ⟨g,0,none⟩)))),.w (.agg ([.v (.int .i64 2),.v (.float .f64 ca),.v (.float .f64 cb),.v (.float .f64 cc)])),aW g 3 4,.w (.c (.v (.pointer (some ⟨g,0,none⟩)))),.w (.agg ([.v (.int .i64 2),.v (.float .f64 ca),.v (.float .f64 cb),.v (.float .f64 cc)])),numS g 5,.w (.c (.ptr 6 0)),.w (.c (.ptr 7 0)),noS,noS]:List SV).getD i noS,fun n=>([none,none,none,some 2,some 2,some 5,some 6,some 7]:List (Option Nat)).getD n none,
  [(3,(.leaf ca)),(4,(.leaf cb)),(5,(.root (.leaf cc)))],[⟨0,89,[.v (.int .i64 2),.v (.float .f64 ca),.v (.float .f64 cb),.v (.float .f64 cc)],none⟩,⟨1,29,[.v (.pointer none),.v (.int .i64 0),.v (.pointer none),.v (.int .i64 0)],none⟩,⟨2,29,[.v (.pointer none),.v (.int .i64 0),.v (.pointer none),.v (.int .i64 0)],none⟩,⟨6,29,[.v (.pointer none),.v (.int .i64 0),.v (.pointer none),.v (.int .i64 0)],some (8,aX g 3 4)⟩,⟨7,27,[.v (.pointer none),.v (.int .i64 0)],some (9,numC g 5)⟩],
  fun i=>([0,0,2,0,0,2,0,0,0,0]:List Nat).getD i 0,fun i=>([[],[],[0,1],[],[],[3,4],[],[],[0,1,2,3,4,5,6,7],[0,1,2,3,4,5,6,7,8]]:List (List Nat)).getD i [],[(0,.w (.c (.v (.pointer (some ⟨g,0,none⟩))))),(3,.w (.c (.ptr 0 0)))]⟩)
  (W:=runW ⟨w,B,ns⟩ g) (ν0:=fun n=>([b1,b2,b3]:List Nat).getD n 0) (c0:=N)
  (fs:=fun ν=>[(17,.pointer (some ⟨g,0,none⟩)),(18,.agg #[(.int .i64 2),(.float .f64 ca),(.float .f64 cb),(.float .f64 cc)]),(19,aN g (ν 3) (ν 4)),(20,.pointer (some ⟨g,0,none⟩)),(21,.agg #[(.int .i64 2),(.float .f64 ca),(.float .f64 cb),(.float .f64 cc)]),(22,numV g (ν 5)),(8,.pointer (some ⟨(ν 6),0,none⟩)),(9,.pointer (some ⟨(ν 7),0,none⟩))]) 10 (N+4) [] []
  ⟨Spec.wf_of (by kernel_rfl),dG (by kernel_rfl),bJ ⟨rfl,rfl,trivial⟩⟩ R3.out (Run.nodup R3.out) (by omega)
  (fun b hM=>aA (aA (aA (aA (aA (aA (aA (aA (aA (aA bT
    (aD b))
    (aI b 4 m0))
    (aL b (c_fn (ix:=[]) (ts:=[3,4]) hM (fun ν=>an8 (ca:=ca) (cb:=cb) (cc:=cc) ⟨hca.1,hca.2⟩ ⟨hcb.1,hcb.2⟩))))
    (aD b))
    (aI b 4 m0))
    (aL b (c_fn (ix:=[]) (ts:=[5]) hM (fun ν=>aoK (ca:=ca) (cb:=cb) (cc:=cc) ⟨hcc.1,hcc.2⟩))))
    (cZ b m3))
    (cZ b m4))
    (eT b 4 m3))
    (eT b 2 m4)) ?_
 intro ν W4 hν hR;replace hR:Run ⟨w,B,ns⟩ g (N+4) [((.leaf ca),ν 3),((.leaf cb),ν 4),((.root (.leaf cc)),ν 5)] [((ν 0),.cells #[(.int .i64 2),(.float .f64 ca),(.float .f64 cb),(.float .f64 cc)] 89),((ν 1),.cells #[.pointer none,.int .i64 0,.pointer none,.int .i64 0] 29),((ν 2),.cells #[.pointer none,.int .i64 0,.pointer none,.int .i64 0] 29),((ν 6),aV g (ν 3) (ν 4)),((ν 7),numO g (ν 5))] W4:=hR;have e0:ν 0=b1:=hν 0 rfl;have e1:ν 1=b2:=hν 1 rfl;have e2:ν 2=b3:=hν 2 rfl;simp only[e0,e1,e2]at hR|-;clear hν e0 e1 e2;generalize ν 3=n4 at hR|-;generalize ν 4=n5 at hR|-;generalize ν 5=n6 at hR|-;generalize ν 6=b7 at hR|-;generalize ν 7=b8 at hR|-;have R4:=hdd hR;clear hR R3;simp only[putL,ap5,ap6]
 go_upto_region 5 with fail
 refine Spec.run (S:=⟨_,fun i=>([.w (.c (.ptr 5 0)),numS g 2,numS g 4,numS g 7,.w (.c (.ptr 5 2)),numS g 3,aW g 7 3,.w (.c (.ptr 5 0)),numS g 2,numS g 4,.w (.c (.sl 8 1)),numS g 9,.w (.c (.ptr 5 2)),numS g 3,aW g 9 3,noS,noS,.w (.c (.v Value.nilIface))]:List SV).getD i noS,fun n=>([none,none,none,none,none,none,none,some 3,some 10,some 11]:List (Option Nat)).getD n none,
  [(2,(.leaf ca)),(3,(.leaf cb)),(4,(.root (.leaf cc))),(7,(.sub (.leaf ca) (.root (.leaf cc)))),(9,(.add (.leaf ca) (.root (.leaf cc))))],[⟨0,29,[.v (.pointer none),.v (.int .i64 0),.v (.pointer none),.v (.int .i64 0)],some (15,aX g 7 3)⟩,⟨1,29,[.v (.pointer none),.v (.int .i64 0),.v (.pointer none),.v (.int .i64 0)],some (16,aX g 9 3)⟩,⟨5,29,aX g 2 3,none⟩,⟨6,27,numC g 4,none⟩,⟨8,27,numC g 4,none⟩],
  fun i=>([0,0,0,1,0,0,0,0,0,0,0,1,0,0,0,0,0,0]:List Nat).getD i 0,fun i=>([[],[0],[],[0,1,2],[],[4],[0,1,2,3,4,5],[],[7],[],[9],[7,8,9,10],[],[12],[7,8,9,10,11,12,13],[0,1,2,3,4,5,6,7,8,9,10,11],[0,1,2,3,4,5,6,7,8,9,10,11,12,13,14,15],[]]:List (List Nat)).getD i [],[(8,.w (.c (.ptr 5 0))),(9,.w (.c (.ptr 6 0))),(4,.w (.c (.ptr 0 0))),(5,.w (.c (.ptr 1 0)))]⟩)
  (W:=runW ⟨w,B,ns⟩ g) (ν0:=fun n=>([b2,b3,n4,n5,n6,b7,b8]:List Nat).getD n 0) (c0:=(N+4))
  (fs:=fun ν=>[(23,.pointer (some ⟨(ν 5),0,none⟩)),(24,numV g (ν 2)),(25,numV g (ν 4)),(26,numV g (ν 7)),(27,.pointer (some ⟨(ν 5),2,none⟩)),(28,numV g (ν 3)),(29,aN g (ν 7) (ν 3)),(30,.pointer (some ⟨(ν 5),0,none⟩)),(31,numV g (ν 2)),(32,numV g (ν 4)),(33,.slice (some ⟨(ν 8),0,none⟩) 1 1),(34,numV g (ν 9)),(35,.pointer (some ⟨(ν 5),2,none⟩)),(36,numV g (ν 3)),(37,aN g (ν 9) (ν 3)),(6,Value.nilIface)]) 18 (N+6) [] [false]
  ⟨Spec.wf_of (by kernel_rfl),dG (by kernel_rfl),bJ ⟨rfl,rfl,rfl,rfl,trivial⟩⟩ R4.out (Run.nodup R4.out) (by omega)
  (fun b hM=>aA (aA (aA (aA (aA (aA (aA (aA (aA (aA (aA (aA (aA (aA (aA (aA (aA (aA bT
    (aD b))
    (aI b 2 m2))
    (aI b 2 m3))
    (aL b (qI hM m0 m2 rfl rfl rfl rfl rfl rfl)))
    (aD b))
    (aI b 2 m2))
    (aD b))
    (aD b))
    (aI b 2 m2))
    (aI b 2 m3))
    (iG b m4))
    (aL b (xV hM m0 m2 rfl rfl m4 rfl rfl rfl rfl rfl rfl rfl rfl)))
    (aD b))
    (aI b 2 m2))
    (aD b))
    (eT b 4 m0))
    (eT b 4 m1))
    (aD b)) ?_
 intro ν W5 hν hR;replace hR:Run ⟨w,B,ns⟩ g (N+6) [((.leaf ca),ν 2),((.leaf cb),ν 3),((.root (.leaf cc)),ν 4),((.sub (.leaf ca) (.root (.leaf cc))),ν 7),((.add (.leaf ca) (.root (.leaf cc))),ν 9)] [((ν 0),aV g (ν 7) (ν 3)),((ν 1),aV g (ν 9) (ν 3)),((ν 5),aV g (ν 2) (ν 3)),((ν 6),numO g (ν 4)),((ν 8),numO g (ν 4))] W5:=hR;have e0:ν 0=b2:=hν 0 rfl;have e1:ν 1=b3:=hν 1 rfl;have e2:ν 2=n4:=hν 2 rfl;have e3:ν 3=n5:=hν 3 rfl;have e4:ν 4=n6:=hν 4 rfl;have e5:ν 5=b7:=hν 5 rfl;have e6:ν 6=b8:=hν 6 rfl;simp only[e0,e1,e2,e3,e4,e5,e6]at hR|-;clear hν e0 e1 e2 e3 e4 e5 e6;generalize ν 7=n9 at hR|-;generalize ν 8=b10 at hR|-;generalize ν 9=n11 at hR|-;have R5:=hdd hR;clear hR R4;simp only[putL,ap5,ap6];go_wp2;obtain⟨x0,x1,x2,x3⟩:=bH (R5.out.at m0);obtain⟨x4,x5,x6,x7⟩:=bH (R5.out.at m1);refine bodyPost_ret (v:=.tuple #[.agg #[_,_,_,_],.agg #[_,_,_,_],.nilIface]) (by simp[results,Tryz.results58,go_sem,x0,x1,x2,x3,x4,x5,x6,x7];first|exact⟨⟨rfl,rfl,rfl,rfl⟩,⟨rfl,rfl,rfl,rfl⟩⟩|rfl) rfl ?_
 exact⟨[n9,n5,n11,n5],rfl,rfl,_,R5.out.few (aoE [3,1,4,1])⟩
end Go.Proofs.YtgodkfgnhpnhcaaGreatDoor
namespace Go.Proofs.YtgodkfgnhpnhcaaGreatDoor
open Go.RowKit Go.Maps
open Re (rat ofI ofN)
open Bool renaming and_eq_true->ap7
variable{l m n:Nat}
inductive Sh where
 |leaf (n l:Nat)
 |add (a b:Sh)
 |mul (a b:Sh)
 |div (a b:Sh)
 |root (a:Sh)
def Sh.ct (K:Nat):Sh->Ct
 | .leaf n l=>⟨n,65536,n,l,1100⟩
 | .add a b=>fJ 65536 (a.ct K) (b.ct K)
 | .mul a b=>mF 65536 (a.ct K) (b.ct K)
 | .div a b=>mG 65536 K (a.ct K) (b.ct K)
 | .root a=>kC 65536 (a.ct K)
def Sh.cost:Sh->Nat
 | .leaf n l=>n+l
 | .add a b=>1+a.cost+b.cost
 | .mul a b=>a.cost+b.cost
 | .div a b=>a.cost+b.cost
 | .root a=>a.cost
def Sh.top (K:Nat)(s:Sh):Bool:=decide (K<=15/\s.cost<=1000000/\(s.ct K).s<=4000000/\max (s.ct K).u (s.ct K).l*2^K+1<=32768/\((max (s.ct K).u (s.ct K).l*2^K+2:Nat):Int)<=(s.ct K).W)
def Sh.ok (K:Nat):Sh->Bool
 | .leaf n l=>decide (n<=53/\l<=1000)
 | .add a b=>a.ok K&&b.ok K
 | .mul a b=>a.ok K&&b.ok K
 | .div a b=>a.ok K&&(b.ok K&&(b.top K&&decide (ctG K (b.ct K)<=(b.ct K).W)))
 | .root a=>a.ok K&&a.top K
structure FitC(L:List Ex)(s:Sh)(e:Ex)(v:Re):Prop where
 vl:Vl L 65536 e v (s.ct L.length)
 cost:dF e<=s.cost
 gd:AllGd e
def Fit(L:List Ex)(s:Sh)(e:Ex)(v:Re):Prop:=s.ok L.length=true->FitC L s e v
theorem apI:(32*2^11:Int)=65536:=by decide
section
variable{L:List Ex}{s t:Sh}{a b:Ex}{x y z:Re}
theorem FitC.good (h:FitC L s a x)(ht:s.top L.length=true):Gd L.length 11 a x:=by
 obtain⟨h1,h2,h3,h4,h5⟩:=of_decide_eq_true ht;have hv:=h.vl;rw[<-apI]at hv;exact Gd.of hv nlr (by omega) h1 (Nat.le_trans h.cost h2) h3 h4 h5
theorem Fit.add (h:Fit L s a x)(g:Fit L t b y):Fit L (.add s t) (.add a b) (x+y):=fun k=>by
 simp only[Sh.ok,ap7]at k;have h:=h k.1;have g:=g k.2;exact⟨Vl.add (by omega) h.vl g.vl,by have:=h.cost;have:=g.cost;simp only[dF,Sh.cost];omega,h.gd.add g.gd⟩
theorem Fit.sub (h:Fit L s a x)(g:Fit L t b y):Fit L (.add s t) (.sub a b) (x-y):=fun k=>by
 simp only[Sh.ok,ap7]at k;have h:=h k.1;have g:=g k.2;exact⟨Vl.sub (by omega) h.vl g.vl,by have:=h.cost;have:=g.cost;simp only[dF,Sh.cost];omega,h.gd.sub g.gd⟩
theorem Fit.mul (h:Fit L s a x)(g:Fit L t b y):Fit L (.mul s t) (.mul a b) (x*y):=fun k=>by
 simp only[Sh.ok,ap7]at k;have h:=h k.1;have g:=g k.2;exact⟨Vl.mul (by omega) h.vl g.vl,by have:=h.cost;have:=g.cost;simp only[dF,Sh.cost];omega,h.gd.mul g.gd⟩
theorem Fit.div (hL:Lok L)(h:Fit L s a x)(g:Fit L t b y)(h0:y≠0)(hz:z*y=x):Fit L (.div s t) (.div a b) z:=fun k=>by
 simp only[Sh.ok,ap7]at k;have h:=h k.1;have g:=g k.2.1;exact⟨Vl.div (by omega) hL h.vl g.vl h0 hz (of_decide_eq_true k.2.2.2),by have:=h.cost;have:=g.cost;simp only[dF,Sh.cost];omega,h.gd.div g.gd (g.good k.2.2.1)⟩
theorem Fit.root (h:Fit L s a x)(h0:0<=y)(hy:y*y=x)(hm:Ex.root a∈L):Fit L (.root s) (.root a) y:=fun k=>by
 simp only[Sh.ok,ap7]at k;have h:=h k.1;exact⟨Vl.root (by omega) h.vl h0 hy hm,by have:=h.cost;simp only[dF,Sh.cost];omega,h.gd.root (h.good k.2)⟩
theorem Fit.lok (hL:Lok L)(h:Fit L s a x)(hs:s.ok L.length=true)(h0:0<=x):Lok (.root a::L):=hL.cons (h hs).vl h0
theorem Fit.sgn {P:Ex->Prop}(h:Fit L s a x)(hs:(s.ok L.length&&s.top L.length)=true):iJ P a (Re.sgn x):=by
 rw[ap7]at hs;exact ai9 ((h hs.1).good hs.2) (h hs.1).gd
end
theorem ao1{b:Nat}{x:Int}(hl:l+m=1074)(hv:fv b=x*((2^m:Nat):Int)):bS b=mkDy x (-(l:Int)):=by
 unfold bS;rw[hv];have:=aiG x (-(l:Int)) m;rwa[show-(l:Int)-(m:Int)=-1074 by omega]at this
theorem apS{x:Int}(h:x.natAbs<2^n):-p2 n<(x:Rat)*p2 (-(l:Int))/\(x:Rat)*p2 (-(l:Int))<p2 n:=by
 have e:=fP n;have h1:p2 (-(l:Int))<=1:=by rw[<-nV];exact iC (by omega)
 have h0:=bI (-(l:Int));have h2:(x:Rat)<p2 n/\-p2 n<(x:Rat):=by
  rw[e,<-Rat.intCast_natCast,<-Rat.intCast_neg];exact⟨Rat.intCast_lt_intCast.2 (by omega),Rat.intCast_lt_intCast.2 (by omega)⟩
 generalize p2 (-(l:Int))=u at*;generalize (x:Rat)=q at*;generalize p2 (n:Int)=m at*;have hm:0<m:=by grind
 have a1:0<=(m-q)*u:=Rat.mul_nonneg (by grind) (by grind);have a2:0<=(m+q)*u:=Rat.mul_nonneg (by grind) (by grind);have a3:0<=m*(1-u):=Rat.mul_nonneg (by grind) (by grind);have a4:0<(m-q)*u:=Rat.mul_pos (by grind) h0;have a5:0<(m+q)*u:=Rat.mul_pos (by grind) h0;constructor<;>grind
theorem Fit.dleaf {L:List Ex}{b:Nat}{x:Int}(hb:b<18446744073709551616)(hf:fin b)(hl:l+m=1074)(hv:fv b=x*((2^m:Nat):Int))(h:x.natAbs<2^n):Fit L (.leaf n l) (.leaf b) (rat ((x:Rat)*p2 (-(l:Int)))):=fun k=>by
 have k:=of_decide_eq_true k;have e:=ao1 hl hv;have er:rv (bS b)=(x:Rat)*p2 (-(l:Int)):=by rw[e,lF]
 obtain⟨r1,r2⟩:=apS (l:=l) h;have h3:(bS b).man≠0->-(l:Int)<=(bS b).exp/\topD (bS b)<=n:=fun hn=>⟨by rw[e]at hn|-;exact nA hn,qZ hn (by rw[er];exact r1) (by rw[er];exact r2)⟩;have h4:bits (bS b).man.natAbs<=n:=by
  rw[e];exact Nat.le_trans (pY x _) ((aF _ _).2 h)
 have hu:jC b<=n:=by
  unfold jC;split
  . omega
  . rename_i hn
    have:=h3 hn;unfold topD at this;rw[if_neg hn]at this;omega
 have hl:jD b<=l:=by
  unfold jD;split
  . omega
  . rename_i hn;have:=h3 hn;omega
 have hv:=Vl.leaf (L:=L) (P:=65536) (M:=n) hf hb ⟨by rw[e];exact Canon.mk _ _,by omega,fun hn=>by have:=h3 hn;omega⟩ ⟨by rw[er];grind,by rw[er];grind⟩ hu hl;rw[er]at hv;exact⟨hv,by simp only[dF,Sh.cost];omega,AllGd.leaf b⟩
theorem Fit.leaf {L:List Ex}{b:Nat}{x:Int}(n:Nat)(hb:b<18446744073709551616)(hf:fin b)(hv:fv b=x*(U74:Int))(h:x.natAbs<2^n):Fit L (.leaf n 0) (.leaf b) (ofI x):=by
 obtain⟨u,hu,hU⟩:=kI;have:=Fit.dleaf (L:=L) (n:=n) (l:=0) (x:=x) hb hf (m:=u) (by omega) (by rw[hv,hU]) h;rwa[show-((0:Nat):Int)=0 by rfl,nV,Rat.mul_one]at this
end Go.Proofs.YtgodkfgnhpnhcaaGreatDoor
namespace Go.Proofs.YtgodkfgnhpnhcaaGreatDoor
open Ieee
open Int renaming natCast_mul->ap8,neg_mul->ap9,lt_or_le->aqA
variable{r:Nat}
theorem ao9(j:Nat):∀m:Nat,m<2^53->j<=1990->∃c,c<infR/\mg c=m*2^j:=by
 induction j with
 |zero=>
  intro m hm _;exact⟨m,by unfold infR;omega,by rw[lT m hm,Nat.pow_zero,Nat.mul_one]⟩
 |succ j ih=>
  intro m hm hj;rcases Nat.lt_or_ge m (2^52)with h|h
  . obtain⟨c,h1,h2⟩:=ih (m*2) (by omega) (by omega)
    exact⟨c,h1,by rw[h2,Nat.pow_succ,Nat.mul_assoc,Nat.mul_comm 2]⟩
  . refine⟨(j+2)*2^52+(m-2^52),by unfold infR;omega,?_⟩
    rw[kH _ (by omega)];have e1:((j+2)*2^52+(m-2^52))/2^52=j+2:=by omega
    have e2:((j+2)*2^52+(m-2^52))%2^52=m-2^52:=by omega
    rw[e1,e2,show j+2-1=j+1 by omega,show 2^52+(m-2^52)=m by omega]
def RepF(N:Int):Prop:=∃c:Int,-(infR:Int)<c/\c<infR/\fvr c=N
theorem apJ{x:Int}(j:Nat)(h:x.natAbs<2^53)(hj:j<=1990):RepF (x*(2^j:Nat)):=by
 obtain⟨c,h1,h2⟩:=ao9 j x.natAbs h hj;have hc:(mg c:Int)=(x.natAbs:Int)*(2^j:Nat):=by rw[h2,ap8]
 rcases aqA x 0 with g|g
 . by_cases h0:c=0
   . subst h0
     rw[sN]at hc;refine⟨0,by unfold infR;omega,by unfold infR;omega,?_⟩;rw[eG,show x=-(x.natAbs:Int) by omega,ap9,<-hc];rfl
   . refine⟨-(c:Int),by omega,by omega,?_⟩
     unfold fvr;rw[if_pos (by omega),show(-(c:Int)).natAbs=c by omega,hc,<-ap9,show-(x.natAbs:Int)=x by omega]
 . refine⟨(c:Int),by omega,by omega,?_⟩
   unfold fvr;rw[if_neg (by omega),show((c:Int)).natAbs=c by omega,hc,show(x.natAbs:Int)=x by omega]
theorem apK(h1:-(infR:Int)<sr r)(h2:sr r<infR):fin r:=by
 unfold sr at h1 h2;unfold fin;split at h1<;>simp_all<;>omega
theorem Near.exact {t:Nat}{N M:Int}(h:Near r N t)(hM:RepF M)(hN:N=M*(2^(t-1074):Nat)):fin r/\fv r=M:=by
 obtain⟨c,c1,c2,rfl⟩:=hM;have e:sr r=c:=by
  have h1:=h.2.1 c (by omega) (by omega) (by omega);have h2:=h.2.2 c (by omega) (by omega) (by omega);omega
 exact⟨apK (by omega) (by omega),by unfold fv;rw[e]⟩
theorem aoL{k:Int}(h:k.natAbs<2^53):FloatKind.f64.nearest k<18446744073709551616/\fin (FloatKind.f64.nearest k)/\fv (FloatKind.f64.nearest k)=k*(2^1074:Nat):=by
 have e:FloatKind.f64.nearest k=double.nearest (decide (k<0)) k.natAbs 0:=rfl;rw[e];have hn:=jO (decide (k<0)) k.natAbs 0 1074 (by omega) (by omega) (k*(2^1074:Nat)) (by
  have:(0+((1074:Nat):Int)).toNat=1074:=by omega
  rw[this];generalize 2^1074=M;rcases aqA k 0 with g|g
  . rw[if_pos (by simpa using g),ap8,<-ap9,show-(k.natAbs:Int)=k by omega]
  . rw[if_neg (by simpa using g),ap8,show(k.natAbs:Int)=k by omega])
 obtain⟨h1,h2⟩:=hn.exact (apJ 1074 h (by omega)) (by rw[show(2^(1074-1074):Nat)=1 by decide];omega);exact⟨double.nearest_lt ..,h1,h2⟩
end Go.Proofs.YtgodkfgnhpnhcaaGreatDoor
namespace Go.Proofs.YtgodkfgnhpnhcaaGreatDoor
open Go.RowKit Go.Maps
open Re (rat ofI ofN)
variable{P:Ex->Prop}{k:Int}
abbrev li(k:Int):Ex:=.leaf (fl k)
theorem aoG(h:k.natAbs<2^53):fl k<18446744073709551616/\fin (fl k)/\fv (fl k)=k*(U74:Int):=by
 obtain⟨h1,h2,h3⟩:=aoL h;obtain⟨u,hu,hU⟩:=kI;exact⟨h1,h2,by rw[hU,hu];exact h3⟩
theorem anY{L:List Ex}(n:Nat)(h:k.natAbs<2^n)(hn:n<=53):Fit L (.leaf n 0) (li k) (rat (k:Rat)):=by
 obtain⟨h1,h2,h3⟩:=aoG (k:=k) (Nat.lt_of_lt_of_le h (Nat.pow_le_pow_right (by omega) hn));exact Fit.leaf n h1 h2 h3 h
theorem apL{L:List Ex}:Fit L (.leaf 1 0) (.leaf 4607182418800017408) (rat 1):=Fit.leaf 1 (by decide) (by decide) anS (by decide)
theorem ao2{L:List Ex}:Fit L (.leaf 2 0) (.leaf 4611686018427387904) (rat 2):=Fit.leaf 2 (by decide) (by decide) anT (by decide)
section
variable{L:List Ex}{s t:Sh}{a b:Ex}{p q:Rat}
theorem Fit.radd (h:Fit L s a (rat p))(g:Fit L t b (rat q)):Fit L (.add s t) (.add a b) (rat (p+q)):=by rw[Re.rat_add];exact h.add g
theorem Fit.rsub (h:Fit L s a (rat p))(g:Fit L t b (rat q)):Fit L (.add s t) (.sub a b) (rat (p-q)):=by rw[Re.rat_sub];exact h.sub g
theorem Fit.rmul (h:Fit L s a (rat p))(g:Fit L t b (rat q)):Fit L (.mul s t) (.mul a b) (rat (p*q)):=by rw[Re.rat_mul];exact h.mul g
theorem Fit.rdiv (hL:Lok L)(h:Fit L s a (rat p))(g:Fit L t b (rat q))(h0:q≠0){z:Rat}(hz:z*q=p):Fit L (.div s t) (.div a b) (rat z):=
 Fit.div hL h g (fun e=>h0 (Re.rat_inj.1 (e.trans Re.zero_rat))) (by rw[<-Re.rat_mul,hz])
theorem Fit.rroot (h:Fit L s a (rat p))(h0:0<=q)(hq:q*q=p)(hm:Ex.root a∈L):Fit L (.root s) (.root a) (rat q):=
 Fit.root h (by rw[Re.zero_rat];exact Re.rat_le.2 h0) (by rw[<-Re.rat_mul,hq]) hm
theorem Fit.pos (h:Fit L s a (rat p))(hp:0<p)(hs:(s.ok L.length&&s.top L.length)=true):iJ P a 1:=by
 have:=h.sgn (P:=P) hs;rwa[Re.sgn_pos (by rw[Re.zero_rat];exact Re.rat_lt.2 hp)]at this
theorem Fit.neg (h:Fit L s a (rat p))(hp:p<0)(hs:(s.ok L.length&&s.top L.length)=true):iJ P a (-1):=by
 have:=h.sgn (P:=P) hs;rwa[Re.sgn_neg (by rw[Re.zero_rat];exact Re.rat_lt.2 hp)]at this
theorem Fit.zero (h:Fit L s a (rat p))(hp:p=0)(hs:(s.ok L.length&&s.top L.length)=true):iJ P a 0:=by
 have:=h.sgn (P:=P) hs;rwa[hp,<-Re.zero_rat,Re.sgn_zero]at this
end
end Go.Proofs.YtgodkfgnhpnhcaaGreatDoor
