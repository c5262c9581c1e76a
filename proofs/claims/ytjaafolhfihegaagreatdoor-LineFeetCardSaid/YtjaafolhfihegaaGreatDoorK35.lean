/- A part of the proof: contracts of functions and plain laws (LiB). -/
import Derived.Test.YtjaafolhfihegaaGreatDoorK19
import Derived.Test.YtjaafolhfihegaaGreatDoorK34
set_option linter.unusedVariables false
set_option linter.unusedSimpArgs false
set_option maxHeartbeats 25600000
set_option maxRecDepth 100000
namespace Go.Proofs.YtjaafolhfihegaaGreatDoor
open Go.RowKit Go.Maps
open List renaming setIfInBounds_toArray->bhX,set->bhY
variable{r:Bool}{q:Int}{ca cb cc cd da db dc g:Nat}
theorem rO(hca:FlOk ca)(hcb:FlOk cb)(hcc:FlOk cc)(hcd:FlOk cd):FnOk 93 g 7 #[.pointer (some ⟨g,0,none⟩),.float .f64 ca,.float .f64 cb,.float .f64 cc,.float .f64 cd] [] (fun ks=>numV g (ks.getD 0 0)) [aK ca cb cc cd]:=FnOk.of fun w B ns N hR hN=>by
 have R1:=hdd hR;clear hR;go_enter Tryz.func93,Tryz.ntmps93
 go_upto_region 0 with fail
 refine Spec.run (S:=⟨_,fun i=>([.w (.c (.ptr 0 0))]:List SV).getD i noS,fun n=>([some 0]:List (Option Nat)).getD n none,
  [],[⟨0,31,[.v (.pointer none),.v (.int .i64 0)],none⟩],
  fun i=>([0]:List Nat).getD i 0,fun i=>([[]]:List (List Nat)).getD i [],[]⟩)
  (W:=runW ⟨w,B,ns⟩ g) (ν0:=fun n=>([]:List Nat).getD n 0) (c0:=N)
  (fs:=fun ν=>[(10,.pointer (some ⟨(ν 0),0,none⟩))]) 1 N [] []
  ⟨Spec.wf_of (by kernel_rfl),aU (by kernel_rfl),aM trivial⟩ R1.out (Run.nodup R1.out) (by omega)
  (fun b hM=>aA aO
    (aW b m0)) ?_
 intro ν W2 hν hR;replace hR:Run ⟨w,B,ns⟩ g N [] [((ν 0),.cells #[.pointer none,.int .i64 0] 31)] W2:=hR;clear hν;generalize ν 0=b1 at hR|-;have R2:=hdd hR;clear hR R1;simp only[putL,bhX,bhY]
 go_upto_region 1 with fail
 refine Spec.run (S:=⟨_,fun i=>([.w (.c (.v (.pointer (some ⟨g,0,none⟩)))),.w (.c (.v (.float .f64 ca))),numS g 1,.w (.c (.v (.pointer (some ⟨g,0,none⟩)))),.w (.c (.v (.float .f64 cb))),numS g 2,.w (.c (.sl 3 1)),numS g 4,.w (.c (.v (.pointer (some ⟨g,0,none⟩)))),.w (.c (.v (.float .f64 cc))),numS g 5,.w (.c (.v (.pointer (some ⟨g,0,none⟩)))),.w (.c (.v (.float .f64 cd))),numS g 6,.w (.c (.sl 7 1)),numS g 8,numS g 9,noS]:List SV).getD i noS,fun n=>([none,some 2,some 5,some 6,some 7,some 10,some 13,some 14,some 15,some 16]:List (Option Nat)).getD n none,
  [(1,(.leaf ca)),(2,(.leaf cb)),(4,(.mul (.leaf ca) (.leaf cb))),(5,(.leaf cc)),(6,(.leaf cd)),(8,(.mul (.leaf cc) (.leaf cd))),(9,(.sub (.mul (.leaf ca) (.leaf cb)) (.mul (.leaf cc) (.leaf cd))))],[⟨0,31,[.v (.pointer none),.v (.int .i64 0)],some (17,numC g 9)⟩,⟨3,31,numC g 2,none⟩,⟨7,31,numC g 6,none⟩],
  fun i=>([0,0,1,0,0,1,0,1,0,0,1,0,0,1,0,1,1,0]:List Nat).getD i 0,fun i=>([[],[],[0,1],[],[],[3,4],[3,4,5],[0,1,2,3,4,5,6],[],[],[8,9],[],[],[11,12],[11,12,13],[8,9,10,11,12,13,14],[0,1,2,3,4,5,6,7,8,9,10,11,12,13,14,15],[0,1,2,3,4,5,6,7,8,9,10,11,12,13,14,15,16]]:List (List Nat)).getD i [],[(0,.w (.c (.v (.pointer (some ⟨g,0,none⟩))))),(1,.w (.c (.v (.float .f64 ca)))),(2,.w (.c (.v (.float .f64 cb)))),(3,.w (.c (.v (.float .f64 cc)))),(4,.w (.c (.v (.float .f64 cd)))),(10,.w (.c (.ptr 0 0)))]⟩)
  (W:=runW ⟨w,B,ns⟩ g) (ν0:=fun n=>([b1]:List Nat).getD n 0) (c0:=N)
  (fs:=fun ν=>[(11,.pointer (some ⟨g,0,none⟩)),(12,(.float .f64 ca)),(13,numV g (ν 1)),(14,.pointer (some ⟨g,0,none⟩)),(15,(.float .f64 cb)),(16,numV g (ν 2)),(17,.slice (some ⟨(ν 3),0,none⟩) 1 1),(18,numV g (ν 4)),(19,.pointer (some ⟨g,0,none⟩)),(20,(.float .f64 cc)),(21,numV g (ν 5)),(22,.pointer (some ⟨g,0,none⟩)),(23,(.float .f64 cd)),(24,numV g (ν 6)),(25,.slice (some ⟨(ν 7),0,none⟩) 1 1),(26,numV g (ν 8)),(27,numV g (ν 9))]) 18 (N+7) [] []
  ⟨Spec.wf_of (by kernel_rfl),aU (by kernel_rfl),aM ⟨rfl,rfl,rfl,rfl,rfl,rfl,trivial⟩⟩ R2.out (Run.nodup R2.out) (by omega)
  (fun b hM=>aA (aA (aA (aA (aA (aA (aA (aA (aA (aA (aA (aA (aA (aA (aA (aA (aA (aA aO
    (aB b))
    (aB b))
    (aI b (c_of hM hca.1 hca.2 rfl rfl rfl rfl)))
    (aB b))
    (aB b))
    (aI b (c_of hM hcb.1 hcb.2 rfl rfl rfl rfl)))
    (dY b m1))
    (aI b (lM hM m0 m1 rfl rfl m1 rfl rfl rfl rfl rfl rfl rfl rfl)))
    (aB b))
    (aB b))
    (aI b (c_of hM hcc.1 hcc.2 rfl rfl rfl rfl)))
    (aB b))
    (aB b))
    (aI b (c_of hM hcd.1 hcd.2 rfl rfl rfl rfl)))
    (dY b m2))
    (aI b (lM hM m3 m4 rfl rfl m2 rfl rfl rfl rfl rfl rfl rfl rfl)))
    (aI b (wP hM m2 m5 rfl rfl rfl rfl rfl rfl)))
    (dB b 2 m0)) ?_
 intro ν W3 hν hR;replace hR:Run ⟨w,B,ns⟩ g (N+7) [((.leaf ca),ν 1),((.leaf cb),ν 2),((.mul (.leaf ca) (.leaf cb)),ν 4),((.leaf cc),ν 5),((.leaf cd),ν 6),((.mul (.leaf cc) (.leaf cd)),ν 8),((.sub (.mul (.leaf ca) (.leaf cb)) (.mul (.leaf cc) (.leaf cd))),ν 9)] [((ν 0),numO g (ν 9)),((ν 3),numO g (ν 2)),((ν 7),numO g (ν 6))] W3:=hR;have e0:ν 0=b1:=hν 0 rfl;simp only[e0]at hR|-;clear hν e0;generalize ν 1=n2 at hR|-;generalize ν 2=n3 at hR|-;generalize ν 3=b4 at hR|-;generalize ν 4=n5 at hR|-;generalize ν 5=n6 at hR|-;generalize ν 6=n7 at hR|-;generalize ν 7=b8 at hR|-;generalize ν 8=n9 at hR|-;generalize ν 9=n10 at hR|-;have R3:=hdd hR;clear hR R2;simp only[putL,bhX,bhY];go_wp2;obtain⟨x0,x1,-,-⟩:=aD (R3.out.at m0);refine bodyPost_ret (v:=.agg #[_,_]) (by simp[results,Tryz.results93,go_sem,x0,x1];first|exact⟨rfl,rfl⟩|rfl) rfl ?_;exact⟨[n10],rfl,rfl,_,R3.out.few (mJ [6])⟩
theorem lX(hca:FlOk ca)(hcb:FlOk cb)(hcc:FlOk cc)(hcd:FlOk cd)(hS:dG PT (aK ca cb cc cd) q)(hr:(q==0)=r):FnOk 63 g 7 #[.pointer (some ⟨g,0,none⟩),.float .f64 ca,.float .f64 cb,.float .f64 cc,.float .f64 cd] [] (fun ks=>.tuple #[.bool r,.nilIface]) []:=FnOk.of fun w B ns N hR hN=>by
 have R1:=hdd hR;clear hR;go_enter Tryz.func63,Tryz.ntmps63
 go_upto_region 0 with fail
 refine Spec.run (S:=⟨_,fun i=>([.w (.c (.v (Value.bool false))),.w (.c (.v Value.nilIface))]:List SV).getD i noS,fun n=>([]:List (Option Nat)).getD n none,
  [],[],
  fun i=>([0,0]:List Nat).getD i 0,fun i=>([[],[]]:List (List Nat)).getD i [],[]⟩)
  (W:=runW ⟨w,B,ns⟩ g) (ν0:=fun n=>([]:List Nat).getD n 0) (c0:=N)
  (fs:=fun ν=>[(10,(Value.bool false)),(11,Value.nilIface)]) 2 N [] []
  ⟨Spec.wf_of (by kernel_rfl),aU (by kernel_rfl),aM trivial⟩ R1.out (Run.nodup R1.out) (by omega)
  (fun b hM=>aA (aA aO
    (aB b))
    (aB b)) ?_
 intro ν W2 hν hR;replace hR:Run ⟨w,B,ns⟩ g N [] [] W2:=hR;clear hν;have R2:=hdd hR;clear hR R1;simp only[putL,bhX,bhY]
 go_upto_region 1 with fail
 refine Spec.run (S:=⟨_,fun i=>([.w (.c (.v (.pointer (some ⟨g,0,none⟩)))),.w (.c (.v (.float .f64 ca))),.w (.c (.v (.float .f64 cb))),.w (.c (.v (.float .f64 cc))),.w (.c (.v (.float .f64 cd))),numS g 0,.tup [.c (.v (.int .i64 q)),.c (.v .nilIface)],.tup [.c (.v (.int .i64 q)),.c (.v .nilIface)],.w (.c (.v (.int .i64 q))),.w (.c (.v .nilIface)),.w (.c (.v (.int .i64 q))),.w (.c (.v .nilIface))]:List SV).getD i noS,fun n=>([some 5]:List (Option Nat)).getD n none,
  [(0,(aK ca cb cc cd))],[],
  fun i=>([0,0,0,0,0,7,0,0,0,0,0,0]:List Nat).getD i 0,fun i=>([[],[],[],[],[],[0,1,2,3,4],[0,1,2,3,4,5],[0,1,2,3,4,5,6],[0,1,2,3,4,5,6,7],[0,1,2,3,4,5,6,7],[0,1,2,3,4,5,6,7,8],[0,1,2,3,4,5,6,7,9]]:List (List Nat)).getD i [],[(0,.w (.c (.v (.pointer (some ⟨g,0,none⟩))))),(1,.w (.c (.v (.float .f64 ca)))),(2,.w (.c (.v (.float .f64 cb)))),(3,.w (.c (.v (.float .f64 cc)))),(4,.w (.c (.v (.float .f64 cd))))]⟩)
  (W:=runW ⟨w,B,ns⟩ g) (ν0:=fun n=>([]:List Nat).getD n 0) (c0:=N)
  (fs:=fun ν=>[(15,.pointer (some ⟨g,0,none⟩)),(16,(.float .f64 ca)),(17,(.float .f64 cb)),(18,(.float .f64 cc)),(19,(.float .f64 cd)),(20,numV g (ν 0)),(21,.tuple #[(.int .i64 q),.nilIface]),(14,.tuple #[(.int .i64 q),.nilIface]),(22,(.int .i64 q)),(23,.nilIface),(12,(.int .i64 q)),(13,.nilIface)]) 12 (N+7) [] []
  ⟨Spec.wf_of (by kernel_rfl),aU (by kernel_rfl),aM ⟨rfl,rfl,rfl,rfl,rfl,trivial⟩⟩ R2.out (Run.nodup R2.out) (by omega)
  (fun b hM=>aA (aA (aA (aA (aA (aA (aA (aA (aA (aA (aA (aA aO
    (aB b))
    (aB b))
    (aB b))
    (aB b))
    (aB b))
    (aI b (c_fn (ix:=[]) (ts:=[0]) hM (fun ν=>rO ⟨hca.1,hca.2⟩ ⟨hcb.1,hcb.2⟩ ⟨hcc.1,hcc.2⟩ ⟨hcd.1,hcd.2⟩))))
    (aI b (aj7 hM m0 rfl rfl rfl rfl hS)))
    (aB b))
    (aB b))
    (aB b))
    (aB b))
    (aB b)) ?_
 intro ν W3 hν hR;replace hR:Run ⟨w,B,ns⟩ g (N+7) [((aK ca cb cc cd),ν 0)] [] W3:=hR;clear hν;generalize ν 0=n1 at hR|-;have R3:=hdd hR;clear hR R2;simp only[putL,bhX,bhY];have HF:Hid (yY w B ns g (N+7) (fun _=>.tuple #[.bool r,.nilIface]) [] (.returned (.tuple #[.bool r,.nilIface])) W3):=hdd ⟨[],rfl,rfl,_,R3.out.few (mJ [])⟩;clear R3;go_wp2
 go_ret2
 exact HF.out
theorem ahS{w:World}{a b c a' b' c':Nat}(h:dH a b c)(h':dH a' b' c'):Calls Tryz.prog 64 #[curV 1 a b c,curV 1 a' b' c'] w (RetV w .nilIface):=by
 obtain⟨w2,hw2,hb2,hs2,b1,b2⟩:=pro2 w (curO 1 a b c) (curO 1 a' b' c');obtain⟨c0,c1,c2,c3⟩:=aR b1;obtain⟨d0,d1,d2,d3⟩:=aR b2;have HB:=hdd hb2;have H1:Hid (∀w,Calls Tryz.prog 21 #[curV 1 a b c] w (RetV w .nilIface)):=hdd fun w=>oO h;have H2:Hid (∀w,Calls Tryz.prog 21 #[curV 1 a' b' c'] w (RetV w .nilIface)):=hdd fun w=>oO h';clear hb2 hs2 b1 b2 h h';go_enter Tryz.func64,Tryz.ntmps64
 go_wp2_with fail
 refine(H1.out _).mono ?_;rintro e w3⟨rfl,hb⟩;have HB3:=hdd (HB.out.trans (hb.mono HB.out.size));replace d0:=cbl d0 hb;replace d1:=cbl d1 hb;replace d2:=cbl d2 hb;replace d3:=cbl d3 hb;clear hb c0 c1 c2 c3 hw2;go_wp2_with fail
 refine(H2.out _).mono ?_;rintro e w4⟨rfl,hb⟩;have HB4:=hdd (HB3.out.trans (hb.mono HB3.out.size));clear hb;go_wp2;go_ret;exact⟨rfl,HB4.out⟩
theorem nZ(h1:dH ca cb cc)(h2:dH da db dc)(hS:dG PT (aK ca db cb da) q)(hr:(q==0)=r):FnOk 23 g 7 #[.pointer (some ⟨g,0,none⟩),curV 1 ca cb cc,curV 1 da db dc] [] (fun ks=>.tuple #[.bool r,.nilIface]) []:=FnOk.of fun w B ns N hR hN=>by
 have R1:=hdd hR;clear hR;go_enter Tryz.func23,Tryz.ntmps23
 go_upto_region 0 with fail
 refine Spec.run (S:=⟨_,fun i=>([.w (.c (.ptr 0 0)),.w (.c (.ptr 1 0)),.w (.c (.v (Value.bool false))),.w (.c (.v Value.nilIface))]:List SV).getD i noS,fun n=>([some 0,some 1]:List (Option Nat)).getD n none,
  [],[⟨0,29,[.v (.int .i64 1),.v (.float .f64 ca),.v (.float .f64 cb),.v (.float .f64 cc)],none⟩,⟨1,29,[.v (.int .i64 1),.v (.float .f64 da),.v (.float .f64 db),.v (.float .f64 dc)],none⟩],
  fun i=>([0,0,0,0]:List Nat).getD i 0,fun i=>([[],[],[],[]]:List (List Nat)).getD i [],[(1,.w (.agg ([.v (.int .i64 1),.v (.float .f64 ca),.v (.float .f64 cb),.v (.float .f64 cc)]))),(2,.w (.agg ([.v (.int .i64 1),.v (.float .f64 da),.v (.float .f64 db),.v (.float .f64 dc)])))]⟩)
  (W:=runW ⟨w,B,ns⟩ g) (ν0:=fun n=>([]:List Nat).getD n 0) (c0:=N)
  (fs:=fun ν=>[(4,.pointer (some ⟨(ν 0),0,none⟩)),(5,.pointer (some ⟨(ν 1),0,none⟩)),(6,(Value.bool false)),(7,Value.nilIface)]) 4 N [] []
  ⟨Spec.wf_of (by kernel_rfl),aU (by kernel_rfl),aM ⟨rfl,rfl,trivial⟩⟩ R1.out (Run.nodup R1.out) (by omega)
  (fun b hM=>aA (aA (aA (aA aO
    (aW b m0))
    (aW b m1))
    (aB b))
    (aB b)) ?_
 intro ν W2 hν hR;replace hR:Run ⟨w,B,ns⟩ g N [] [((ν 0),.cells #[(.int .i64 1),(.float .f64 ca),(.float .f64 cb),(.float .f64 cc)] 29),((ν 1),.cells #[(.int .i64 1),(.float .f64 da),(.float .f64 db),(.float .f64 dc)] 29)] W2:=hR;clear hν;generalize ν 0=b1 at hR|-;generalize ν 1=b2 at hR|-;have R2:=hdd hR;clear hR R1;simp only[putL,bhX,bhY]
 go_upto_region 1 with fail
 refine Spec.run (S:=⟨_,fun i=>([.w (.agg ([.v (.int .i64 1),.v (.float .f64 ca),.v (.float .f64 cb),.v (.float .f64 cc)])),.w (.agg ([.v (.int .i64 1),.v (.float .f64 da),.v (.float .f64 db),.v (.float .f64 dc)])),.w (.c (.v .nilIface)),.w (.c (.v .nilIface))]:List SV).getD i noS,fun n=>([none,none]:List (Option Nat)).getD n none,
  [],[⟨0,29,[.v (.int .i64 1),.v (.float .f64 ca),.v (.float .f64 cb),.v (.float .f64 cc)],none⟩,⟨1,29,[.v (.int .i64 1),.v (.float .f64 da),.v (.float .f64 db),.v (.float .f64 dc)],none⟩],
  fun i=>([0,0,0,0]:List Nat).getD i 0,fun i=>([[],[],[0,1],[0,1,2]]:List (List Nat)).getD i [],[(4,.w (.c (.ptr 0 0))),(5,.w (.c (.ptr 1 0)))]⟩)
  (W:=runW ⟨w,B,ns⟩ g) (ν0:=fun n=>([b1,b2]:List Nat).getD n 0) (c0:=N)
  (fs:=fun ν=>[(9,.agg #[(.int .i64 1),(.float .f64 ca),(.float .f64 cb),(.float .f64 cc)]),(10,.agg #[(.int .i64 1),(.float .f64 da),(.float .f64 db),(.float .f64 dc)]),(11,.nilIface),(8,.nilIface)]) 4 N [] []
  ⟨Spec.wf_of (by kernel_rfl),aU (by kernel_rfl),aM ⟨rfl,rfl,trivial⟩⟩ R2.out (Run.nodup R2.out) (by omega)
  (fun b hM=>aA (aA (aA (aA aO
    (aP b 4 m0))
    (aP b 4 m1))
    (aI b (aj8 hM rfl rfl rfl (fun w=>ahS h1 h2))))
    (aB b)) ?_
 intro ν W3 hν hR;replace hR:Run ⟨w,B,ns⟩ g N [] [((ν 0),.cells #[(.int .i64 1),(.float .f64 ca),(.float .f64 cb),(.float .f64 cc)] 29),((ν 1),.cells #[(.int .i64 1),(.float .f64 da),(.float .f64 db),(.float .f64 dc)] 29)] W3:=hR;have e0:ν 0=b1:=hν 0 rfl;have e1:ν 1=b2:=hν 1 rfl;simp only[e0,e1]at hR|-;clear hν e0 e1;have R3:=hdd hR;clear hR R2;simp only[putL,bhX,bhY]
 go_upto_region 4 with fail
 refine Spec.run (S:=⟨_,fun i=>([.w (.c (.v (.pointer (some ⟨g,0,none⟩)))),.w (.c (.ptr 0 1)),.w (.c (.v (.float .f64 ca))),.w (.c (.ptr 1 2)),.w (.c (.v (.float .f64 db))),.w (.c (.ptr 0 2)),.w (.c (.v (.float .f64 cb))),.w (.c (.ptr 1 1)),.w (.c (.v (.float .f64 da))),.tup [.c (.v (.bool r)),.c (.v .nilIface)],.w (.c (.v (.bool r))),.w (.c (.v .nilIface)),.w (.c (.v (.bool r))),.w (.c (.v .nilIface))]:List SV).getD i noS,fun n=>([none,none]:List (Option Nat)).getD n none,
  [],[⟨0,29,[.v (.int .i64 1),.v (.float .f64 ca),.v (.float .f64 cb),.v (.float .f64 cc)],none⟩,⟨1,29,[.v (.int .i64 1),.v (.float .f64 da),.v (.float .f64 db),.v (.float .f64 dc)],none⟩],
  fun i=>([0,0,0,0,0,0,0,0,0,7,0,0,0,0]:List Nat).getD i 0,fun i=>([[],[],[1],[],[3],[],[5],[],[7],[0,1,2,3,4,5,6,7,8],[0,1,2,3,4,5,6,7,8,9],[0,1,2,3,4,5,6,7,8,9],[0,1,2,3,4,5,6,7,8,9,10],[0,1,2,3,4,5,6,7,8,9,11]]:List (List Nat)).getD i [],[(0,.w (.c (.v (.pointer (some ⟨g,0,none⟩))))),(4,.w (.c (.ptr 0 0))),(5,.w (.c (.ptr 1 0)))]⟩)
  (W:=runW ⟨w,B,ns⟩ g) (ν0:=fun n=>([b1,b2]:List Nat).getD n 0) (c0:=N)
  (fs:=fun ν=>[(15,.pointer (some ⟨g,0,none⟩)),(16,.pointer (some ⟨(ν 0),1,none⟩)),(17,(.float .f64 ca)),(18,.pointer (some ⟨(ν 1),2,none⟩)),(19,(.float .f64 db)),(20,.pointer (some ⟨(ν 0),2,none⟩)),(21,(.float .f64 cb)),(22,.pointer (some ⟨(ν 1),1,none⟩)),(23,(.float .f64 da)),(24,.tuple #[(.bool r),.nilIface]),(25,(.bool r)),(26,.nilIface),(6,(.bool r)),(7,.nilIface)]) 14 (N+7) [] []
  ⟨Spec.wf_of (by kernel_rfl),aU (by kernel_rfl),aM ⟨rfl,rfl,rfl,trivial⟩⟩ R3.out (Run.nodup R3.out) (by omega)
  (fun b hM=>aA (aA (aA (aA (aA (aA (aA (aA (aA (aA (aA (aA (aA (aA aO
    (aB b))
    (aB b))
    (aN b m0))
    (aB b))
    (aN b m1))
    (aB b))
    (aN b m0))
    (aB b))
    (aN b m1))
    (aI b (c_fn (ix:=[]) (ts:=[]) hM (fun ν=>lX ⟨h1.1.1,h1.1.2⟩ ⟨h2.2.1.1,h2.2.1.2⟩ ⟨h1.2.1.1,h1.2.1.2⟩ ⟨h2.1.1,h2.1.2⟩ hS hr))))
    (aB b))
    (aB b))
    (aB b))
    (aB b)) ?_
 intro ν W4 hν hR;replace hR:Run ⟨w,B,ns⟩ g (N+7) [] [((ν 0),.cells #[(.int .i64 1),(.float .f64 ca),(.float .f64 cb),(.float .f64 cc)] 29),((ν 1),.cells #[(.int .i64 1),(.float .f64 da),(.float .f64 db),(.float .f64 dc)] 29)] W4:=hR;have e0:ν 0=b1:=hν 0 rfl;have e1:ν 1=b2:=hν 1 rfl;simp only[e0,e1]at hR|-;clear hν e0 e1;have R4:=hdd hR;clear hR R3;simp only[putL,bhX,bhY];have HF:Hid (yY w B ns g (N+7) (fun _=>.tuple #[.bool r,.nilIface]) [] (.returned (.tuple #[.bool r,.nilIface])) W4):=hdd ⟨[],rfl,rfl,_,R4.out.few (mJ [])⟩;clear R4;go_wp2
 go_ret2
 exact HF.out
theorem anC(h1:dH ca cb cc)(h2:dH da db dc)(hS:dG PT (aK ca db cb da) 0)(hS2:dG PT (aK ca dc da cc) 0)(hS3:dG PT (aK cb dc db cc) 0):FnOk 22 g 21 #[.pointer (some ⟨g,0,none⟩),curV 1 ca cb cc,curV 1 da db dc] [] (fun ks=>.tuple #[.bool true,.nilIface]) []:=FnOk.of fun w B ns N hR hN=>by
 have R1:=hdd hR;clear hR;go_enter Tryz.func22,Tryz.ntmps22
 go_upto_region 0 with fail
 refine Spec.run (S:=⟨_,fun i=>([.w (.c (.ptr 0 0)),.w (.c (.ptr 1 0)),.w (.c (.v (Value.bool false))),.w (.c (.v Value.nilIface))]:List SV).getD i noS,fun n=>([some 0,some 1]:List (Option Nat)).getD n none,
  [],[⟨0,29,[.v (.int .i64 1),.v (.float .f64 ca),.v (.float .f64 cb),.v (.float .f64 cc)],none⟩,⟨1,29,[.v (.int .i64 1),.v (.float .f64 da),.v (.float .f64 db),.v (.float .f64 dc)],none⟩],
  fun i=>([0,0,0,0]:List Nat).getD i 0,fun i=>([[],[],[],[]]:List (List Nat)).getD i [],[(1,.w (.agg ([.v (.int .i64 1),.v (.float .f64 ca),.v (.float .f64 cb),.v (.float .f64 cc)]))),(2,.w (.agg ([.v (.int .i64 1),.v (.float .f64 da),.v (.float .f64 db),.v (.float .f64 dc)])))]⟩)
  (W:=runW ⟨w,B,ns⟩ g) (ν0:=fun n=>([]:List Nat).getD n 0) (c0:=N)
  (fs:=fun ν=>[(4,.pointer (some ⟨(ν 0),0,none⟩)),(5,.pointer (some ⟨(ν 1),0,none⟩)),(6,(Value.bool false)),(7,Value.nilIface)]) 4 N [] []
  ⟨Spec.wf_of (by kernel_rfl),aU (by kernel_rfl),aM ⟨rfl,rfl,trivial⟩⟩ R1.out (Run.nodup R1.out) (by omega)
  (fun b hM=>aA (aA (aA (aA aO
    (aW b m0))
    (aW b m1))
    (aB b))
    (aB b)) ?_
 intro ν W2 hν hR;replace hR:Run ⟨w,B,ns⟩ g N [] [((ν 0),.cells #[(.int .i64 1),(.float .f64 ca),(.float .f64 cb),(.float .f64 cc)] 29),((ν 1),.cells #[(.int .i64 1),(.float .f64 da),(.float .f64 db),(.float .f64 dc)] 29)] W2:=hR;clear hν;generalize ν 0=b1 at hR|-;generalize ν 1=b2 at hR|-;have R2:=hdd hR;clear hR R1;simp only[putL,bhX,bhY]
 go_upto_region 1 with fail
 refine Spec.run (S:=⟨_,fun i=>([.w (.c (.v (.pointer (some ⟨g,0,none⟩)))),.w (.agg ([.v (.int .i64 1),.v (.float .f64 ca),.v (.float .f64 cb),.v (.float .f64 cc)])),.w (.agg ([.v (.int .i64 1),.v (.float .f64 da),.v (.float .f64 db),.v (.float .f64 dc)])),.tup [.c (.v (.bool true)),.c (.v .nilIface)],.tup [.c (.v (.bool true)),.c (.v .nilIface)],.w (.c (.v (.bool true))),.w (.c (.v .nilIface)),.w (.c (.v (.bool true))),.w (.c (.v .nilIface))]:List SV).getD i noS,fun n=>([none,none]:List (Option Nat)).getD n none,
  [],[⟨0,29,[.v (.int .i64 1),.v (.float .f64 ca),.v (.float .f64 cb),.v (.float .f64 cc)],none⟩,⟨1,29,[.v (.int .i64 1),.v (.float .f64 da),.v (.float .f64 db),.v (.float .f64 dc)],none⟩],
  fun i=>([0,0,0,7,0,0,0,0,0]:List Nat).getD i 0,fun i=>([[],[],[],[0,1,2],[0,1,2,3],[0,1,2,3,4],[0,1,2,3,4],[0,1,2,3,4,5],[0,1,2,3,4,6]]:List (List Nat)).getD i [],[(0,.w (.c (.v (.pointer (some ⟨g,0,none⟩))))),(4,.w (.c (.ptr 0 0))),(5,.w (.c (.ptr 1 0)))]⟩)
  (W:=runW ⟨w,B,ns⟩ g) (ν0:=fun n=>([b1,b2]:List Nat).getD n 0) (c0:=N)
  (fs:=fun ν=>[(12,.pointer (some ⟨g,0,none⟩)),(13,.agg #[(.int .i64 1),(.float .f64 ca),(.float .f64 cb),(.float .f64 cc)]),(14,.agg #[(.int .i64 1),(.float .f64 da),(.float .f64 db),(.float .f64 dc)]),(15,.tuple #[(.bool true),.nilIface]),(11,.tuple #[(.bool true),.nilIface]),(16,(.bool true)),(17,.nilIface),(8,(.bool true)),(9,.nilIface)]) 9 (N+7) [] []
  ⟨Spec.wf_of (by kernel_rfl),aU (by kernel_rfl),aM ⟨rfl,rfl,rfl,trivial⟩⟩ R2.out (Run.nodup R2.out) (by omega)
  (fun b hM=>aA (aA (aA (aA (aA (aA (aA (aA (aA aO
    (aB b))
    (aP b 4 m0))
    (aP b 4 m1))
    (aI b (c_fn (ix:=[]) (ts:=[]) hM (fun ν=>nZ h1 h2 hS (q:=0) (r:=true) rfl))))
    (aB b))
    (aB b))
    (aB b))
    (aB b))
    (aB b)) ?_
 intro ν W3 hν hR;replace hR:Run ⟨w,B,ns⟩ g (N+7) [] [((ν 0),.cells #[(.int .i64 1),(.float .f64 ca),(.float .f64 cb),(.float .f64 cc)] 29),((ν 1),.cells #[(.int .i64 1),(.float .f64 da),(.float .f64 db),(.float .f64 dc)] 29)] W3:=hR;have e0:ν 0=b1:=hν 0 rfl;have e1:ν 1=b2:=hν 1 rfl;simp only[e0,e1]at hR|-;clear hν e0 e1;have R3:=hdd hR;clear hR R2;simp only[putL,bhX,bhY]
 go_upto_region 4 with fail
 refine Spec.run (S:=⟨_,fun i=>([.w (.c (.v (.pointer (some ⟨g,0,none⟩)))),.w (.c (.ptr 0 1)),.w (.c (.v (.float .f64 ca))),.w (.c (.ptr 1 3)),.w (.c (.v (.float .f64 dc))),.w (.c (.ptr 1 1)),.w (.c (.v (.float .f64 da))),.w (.c (.ptr 0 3)),.w (.c (.v (.float .f64 cc))),.tup [.c (.v (.bool true)),.c (.v .nilIface)],.tup [.c (.v (.bool true)),.c (.v .nilIface)],.w (.c (.v (.bool true))),.w (.c (.v .nilIface)),.w (.c (.v (.bool true))),.w (.c (.v .nilIface))]:List SV).getD i noS,fun n=>([none,none]:List (Option Nat)).getD n none,
  [],[⟨0,29,[.v (.int .i64 1),.v (.float .f64 ca),.v (.float .f64 cb),.v (.float .f64 cc)],none⟩,⟨1,29,[.v (.int .i64 1),.v (.float .f64 da),.v (.float .f64 db),.v (.float .f64 dc)],none⟩],
  fun i=>([0,0,0,0,0,0,0,0,0,7,0,0,0,0,0]:List Nat).getD i 0,fun i=>([[],[],[1],[],[3],[],[5],[],[7],[0,1,2,3,4,5,6,7,8],[0,1,2,3,4,5,6,7,8,9],[0,1,2,3,4,5,6,7,8,9,10],[0,1,2,3,4,5,6,7,8,9,10],[0,1,2,3,4,5,6,7,8,9,10,11],[0,1,2,3,4,5,6,7,8,9,10,12]]:List (List Nat)).getD i [],[(0,.w (.c (.v (.pointer (some ⟨g,0,none⟩))))),(4,.w (.c (.ptr 0 0))),(5,.w (.c (.ptr 1 0)))]⟩)
  (W:=runW ⟨w,B,ns⟩ g) (ν0:=fun n=>([b1,b2]:List Nat).getD n 0) (c0:=(N+7))
  (fs:=fun ν=>[(26,.pointer (some ⟨g,0,none⟩)),(27,.pointer (some ⟨(ν 0),1,none⟩)),(28,(.float .f64 ca)),(29,.pointer (some ⟨(ν 1),3,none⟩)),(30,(.float .f64 dc)),(31,.pointer (some ⟨(ν 1),1,none⟩)),(32,(.float .f64 da)),(33,.pointer (some ⟨(ν 0),3,none⟩)),(34,(.float .f64 cc)),(35,.tuple #[(.bool true),.nilIface]),(25,.tuple #[(.bool true),.nilIface]),(36,(.bool true)),(37,.nilIface),(10,(.bool true)),(9,.nilIface)]) 15 (N+14) [] []
  ⟨Spec.wf_of (by kernel_rfl),aU (by kernel_rfl),aM ⟨rfl,rfl,rfl,trivial⟩⟩ R3.out (Run.nodup R3.out) (by omega)
  (fun b hM=>aA (aA (aA (aA (aA (aA (aA (aA (aA (aA (aA (aA (aA (aA (aA aO
    (aB b))
    (aB b))
    (aN b m0))
    (aB b))
    (aN b m1))
    (aB b))
    (aN b m1))
    (aB b))
    (aN b m0))
    (aI b (c_fn (ix:=[]) (ts:=[]) hM (fun ν=>lX ⟨h1.1.1,h1.1.2⟩ ⟨h2.2.2.1.1,h2.2.2.1.2⟩ ⟨h2.1.1,h2.1.2⟩ ⟨h1.2.2.1.1,h1.2.2.1.2⟩ hS2 (q:=0) (r:=true) rfl))))
    (aB b))
    (aB b))
    (aB b))
    (aB b))
    (aB b)) ?_
 intro ν W4 hν hR;replace hR:Run ⟨w,B,ns⟩ g (N+14) [] [((ν 0),.cells #[(.int .i64 1),(.float .f64 ca),(.float .f64 cb),(.float .f64 cc)] 29),((ν 1),.cells #[(.int .i64 1),(.float .f64 da),(.float .f64 db),(.float .f64 dc)] 29)] W4:=hR;have e0:ν 0=b1:=hν 0 rfl;have e1:ν 1=b2:=hν 1 rfl;simp only[e0,e1]at hR|-;clear hν e0 e1;have R4:=hdd hR;clear hR R3;simp only[putL,bhX,bhY]
 go_upto_region 7 with fail
 refine Spec.run (S:=⟨_,fun i=>([.w (.c (.v (.pointer (some ⟨g,0,none⟩)))),.w (.c (.ptr 0 2)),.w (.c (.v (.float .f64 cb))),.w (.c (.ptr 1 3)),.w (.c (.v (.float .f64 dc))),.w (.c (.ptr 1 2)),.w (.c (.v (.float .f64 db))),.w (.c (.ptr 0 3)),.w (.c (.v (.float .f64 cc))),.tup [.c (.v (.bool true)),.c (.v .nilIface)],.w (.c (.v (.bool true))),.w (.c (.v .nilIface)),.w (.c (.v (.bool true))),.w (.c (.v .nilIface))]:List SV).getD i noS,fun n=>([none,none]:List (Option Nat)).getD n none,
  [],[⟨0,29,[.v (.int .i64 1),.v (.float .f64 ca),.v (.float .f64 cb),.v (.float .f64 cc)],none⟩,⟨1,29,[.v (.int .i64 1),.v (.float .f64 da),.v (.float .f64 db),.v (.float .f64 dc)],none⟩],
  fun i=>([0,0,0,0,0,0,0,0,0,7,0,0,0,0]:List Nat).getD i 0,fun i=>([[],[],[1],[],[3],[],[5],[],[7],[0,1,2,3,4,5,6,7,8],[0,1,2,3,4,5,6,7,8,9],[0,1,2,3,4,5,6,7,8,9],[0,1,2,3,4,5,6,7,8,9,10],[0,1,2,3,4,5,6,7,8,9,11]]:List (List Nat)).getD i [],[(0,.w (.c (.v (.pointer (some ⟨g,0,none⟩))))),(4,.w (.c (.ptr 0 0))),(5,.w (.c (.ptr 1 0)))]⟩)
  (W:=runW ⟨w,B,ns⟩ g) (ν0:=fun n=>([b1,b2]:List Nat).getD n 0) (c0:=(N+14))
  (fs:=fun ν=>[(45,.pointer (some ⟨g,0,none⟩)),(46,.pointer (some ⟨(ν 0),2,none⟩)),(47,(.float .f64 cb)),(48,.pointer (some ⟨(ν 1),3,none⟩)),(49,(.float .f64 dc)),(50,.pointer (some ⟨(ν 1),2,none⟩)),(51,(.float .f64 db)),(52,.pointer (some ⟨(ν 0),3,none⟩)),(53,(.float .f64 cc)),(54,.tuple #[(.bool true),.nilIface]),(55,(.bool true)),(56,.nilIface),(6,(.bool true)),(7,.nilIface)]) 14 (N+21) [] []
  ⟨Spec.wf_of (by kernel_rfl),aU (by kernel_rfl),aM ⟨rfl,rfl,rfl,trivial⟩⟩ R4.out (Run.nodup R4.out) (by omega)
  (fun b hM=>aA (aA (aA (aA (aA (aA (aA (aA (aA (aA (aA (aA (aA (aA aO
    (aB b))
    (aB b))
    (aN b m0))
    (aB b))
    (aN b m1))
    (aB b))
    (aN b m1))
    (aB b))
    (aN b m0))
    (aI b (c_fn (ix:=[]) (ts:=[]) hM (fun ν=>lX ⟨h1.2.1.1,h1.2.1.2⟩ ⟨h2.2.2.1.1,h2.2.2.1.2⟩ ⟨h2.2.1.1,h2.2.1.2⟩ ⟨h1.2.2.1.1,h1.2.2.1.2⟩ hS3 (q:=0) (r:=true) rfl))))
    (aB b))
    (aB b))
    (aB b))
    (aB b)) ?_
 intro ν W5 hν hR;replace hR:Run ⟨w,B,ns⟩ g (N+21) [] [((ν 0),.cells #[(.int .i64 1),(.float .f64 ca),(.float .f64 cb),(.float .f64 cc)] 29),((ν 1),.cells #[(.int .i64 1),(.float .f64 da),(.float .f64 db),(.float .f64 dc)] 29)] W5:=hR;have e0:ν 0=b1:=hν 0 rfl;have e1:ν 1=b2:=hν 1 rfl;simp only[e0,e1]at hR|-;clear hν e0 e1;have R5:=hdd hR;clear hR R4;simp only[putL,bhX,bhY];have HF:Hid (yY w B ns g (N+21) (fun _=>.tuple #[.bool true,.nilIface]) [] (.returned (.tuple #[.bool true,.nilIface])) W5):=hdd ⟨[],rfl,rfl,_,R5.out.few (mJ [])⟩;clear R5;go_wp2
 go_ret2
 exact HF.out
theorem alI(h1:dH ca cb cc)(h2:dH da db dc)(hS:dG PT (aK ca db cb da) 0)(hS2:dG PT (aK ca dc da cc) q)(hq:(q==0)=false):FnOk 22 g 14 #[.pointer (some ⟨g,0,none⟩),curV 1 ca cb cc,curV 1 da db dc] [] (fun ks=>.tuple #[.bool false,.nilIface]) []:=FnOk.of fun w B ns N hR hN=>by
 have R1:=hdd hR;clear hR;go_enter Tryz.func22,Tryz.ntmps22
 go_upto_region 0 with fail
 refine Spec.run (S:=⟨_,fun i=>([.w (.c (.ptr 0 0)),.w (.c (.ptr 1 0)),.w (.c (.v (Value.bool false))),.w (.c (.v Value.nilIface))]:List SV).getD i noS,fun n=>([some 0,some 1]:List (Option Nat)).getD n none,
  [],[⟨0,29,[.v (.int .i64 1),.v (.float .f64 ca),.v (.float .f64 cb),.v (.float .f64 cc)],none⟩,⟨1,29,[.v (.int .i64 1),.v (.float .f64 da),.v (.float .f64 db),.v (.float .f64 dc)],none⟩],
  fun i=>([0,0,0,0]:List Nat).getD i 0,fun i=>([[],[],[],[]]:List (List Nat)).getD i [],[(1,.w (.agg ([.v (.int .i64 1),.v (.float .f64 ca),.v (.float .f64 cb),.v (.float .f64 cc)]))),(2,.w (.agg ([.v (.int .i64 1),.v (.float .f64 da),.v (.float .f64 db),.v (.float .f64 dc)])))]⟩)
  (W:=runW ⟨w,B,ns⟩ g) (ν0:=fun n=>([]:List Nat).getD n 0) (c0:=N)
  (fs:=fun ν=>[(4,.pointer (some ⟨(ν 0),0,none⟩)),(5,.pointer (some ⟨(ν 1),0,none⟩)),(6,(Value.bool false)),(7,Value.nilIface)]) 4 N [] []
  ⟨Spec.wf_of (by kernel_rfl),aU (by kernel_rfl),aM ⟨rfl,rfl,trivial⟩⟩ R1.out (Run.nodup R1.out) (by omega)
  (fun b hM=>aA (aA (aA (aA aO
    (aW b m0))
    (aW b m1))
    (aB b))
    (aB b)) ?_
 intro ν W2 hν hR;replace hR:Run ⟨w,B,ns⟩ g N [] [((ν 0),.cells #[(.int .i64 1),(.float .f64 ca),(.float .f64 cb),(.float .f64 cc)] 29),((ν 1),.cells #[(.int .i64 1),(.float .f64 da),(.float .f64 db),(.float .f64 dc)] 29)] W2:=hR;clear hν;generalize ν 0=b1 at hR|-;generalize ν 1=b2 at hR|-;have R2:=hdd hR;clear hR R1;simp only[putL,bhX,bhY]
 go_upto_region 1 with fail
 refine Spec.run (S:=⟨_,fun i=>([.w (.c (.v (.pointer (some ⟨g,0,none⟩)))),.w (.agg ([.v (.int .i64 1),.v (.float .f64 ca),.v (.float .f64 cb),.v (.float .f64 cc)])),.w (.agg ([.v (.int .i64 1),.v (.float .f64 da),.v (.float .f64 db),.v (.float .f64 dc)])),.tup [.c (.v (.bool true)),.c (.v .nilIface)],.tup [.c (.v (.bool true)),.c (.v .nilIface)],.w (.c (.v (.bool true))),.w (.c (.v .nilIface)),.w (.c (.v (.bool true))),.w (.c (.v .nilIface))]:List SV).getD i noS,fun n=>([none,none]:List (Option Nat)).getD n none,
  [],[⟨0,29,[.v (.int .i64 1),.v (.float .f64 ca),.v (.float .f64 cb),.v (.float .f64 cc)],none⟩,⟨1,29,[.v (.int .i64 1),.v (.float .f64 da),.v (.float .f64 db),.v (.float .f64 dc)],none⟩],
  fun i=>([0,0,0,7,0,0,0,0,0]:List Nat).getD i 0,fun i=>([[],[],[],[0,1,2],[0,1,2,3],[0,1,2,3,4],[0,1,2,3,4],[0,1,2,3,4,5],[0,1,2,3,4,6]]:List (List Nat)).getD i [],[(0,.w (.c (.v (.pointer (some ⟨g,0,none⟩))))),(4,.w (.c (.ptr 0 0))),(5,.w (.c (.ptr 1 0)))]⟩)
  (W:=runW ⟨w,B,ns⟩ g) (ν0:=fun n=>([b1,b2]:List Nat).getD n 0) (c0:=N)
  (fs:=fun ν=>[(12,.pointer (some ⟨g,0,none⟩)),(13,.agg #[(.int .i64 1),(.float .f64 ca),(.float .f64 cb),(.float .f64 cc)]),(14,.agg #[(.int .i64 1),(.float .f64 da),(.float .f64 db),(.float .f64 dc)]),(15,.tuple #[(.bool true),.nilIface]),(11,.tuple #[(.bool true),.nilIface]),(16,(.bool true)),(17,.nilIface),(8,(.bool true)),(9,.nilIface)]) 9 (N+7) [] []
  ⟨Spec.wf_of (by kernel_rfl),aU (by kernel_rfl),aM ⟨rfl,rfl,rfl,trivial⟩⟩ R2.out (Run.nodup R2.out) (by omega)
  (fun b hM=>aA (aA (aA (aA (aA (aA (aA (aA (aA aO
    (aB b))
    (aP b 4 m0))
    (aP b 4 m1))
    (aI b (c_fn (ix:=[]) (ts:=[]) hM (fun ν=>nZ h1 h2 hS (q:=0) (r:=true) rfl))))
    (aB b))
    (aB b))
    (aB b))
    (aB b))
    (aB b)) ?_
 intro ν W3 hν hR;replace hR:Run ⟨w,B,ns⟩ g (N+7) [] [((ν 0),.cells #[(.int .i64 1),(.float .f64 ca),(.float .f64 cb),(.float .f64 cc)] 29),((ν 1),.cells #[(.int .i64 1),(.float .f64 da),(.float .f64 db),(.float .f64 dc)] 29)] W3:=hR;have e0:ν 0=b1:=hν 0 rfl;have e1:ν 1=b2:=hν 1 rfl;simp only[e0,e1]at hR|-;clear hν e0 e1;have R3:=hdd hR;clear hR R2;simp only[putL,bhX,bhY]
 go_upto_region 4 with fail
 refine Spec.run (S:=⟨_,fun i=>([.w (.c (.v (.pointer (some ⟨g,0,none⟩)))),.w (.c (.ptr 0 1)),.w (.c (.v (.float .f64 ca))),.w (.c (.ptr 1 3)),.w (.c (.v (.float .f64 dc))),.w (.c (.ptr 1 1)),.w (.c (.v (.float .f64 da))),.w (.c (.ptr 0 3)),.w (.c (.v (.float .f64 cc))),.tup [.c (.v (.bool false)),.c (.v .nilIface)],.tup [.c (.v (.bool false)),.c (.v .nilIface)],.w (.c (.v (.bool false))),.w (.c (.v .nilIface)),.w (.c (.v (.bool false))),.w (.c (.v .nilIface))]:List SV).getD i noS,fun n=>([none,none]:List (Option Nat)).getD n none,
  [],[⟨0,29,[.v (.int .i64 1),.v (.float .f64 ca),.v (.float .f64 cb),.v (.float .f64 cc)],none⟩,⟨1,29,[.v (.int .i64 1),.v (.float .f64 da),.v (.float .f64 db),.v (.float .f64 dc)],none⟩],
  fun i=>([0,0,0,0,0,0,0,0,0,7,0,0,0,0,0]:List Nat).getD i 0,fun i=>([[],[],[1],[],[3],[],[5],[],[7],[0,1,2,3,4,5,6,7,8],[0,1,2,3,4,5,6,7,8,9],[0,1,2,3,4,5,6,7,8,9,10],[0,1,2,3,4,5,6,7,8,9,10],[0,1,2,3,4,5,6,7,8,9,10,11],[0,1,2,3,4,5,6,7,8,9,10,12]]:List (List Nat)).getD i [],[(0,.w (.c (.v (.pointer (some ⟨g,0,none⟩))))),(4,.w (.c (.ptr 0 0))),(5,.w (.c (.ptr 1 0)))]⟩)
  (W:=runW ⟨w,B,ns⟩ g) (ν0:=fun n=>([b1,b2]:List Nat).getD n 0) (c0:=(N+7))
  (fs:=fun ν=>[(26,.pointer (some ⟨g,0,none⟩)),(27,.pointer (some ⟨(ν 0),1,none⟩)),(28,(.float .f64 ca)),(29,.pointer (some ⟨(ν 1),3,none⟩)),(30,(.float .f64 dc)),(31,.pointer (some ⟨(ν 1),1,none⟩)),(32,(.float .f64 da)),(33,.pointer (some ⟨(ν 0),3,none⟩)),(34,(.float .f64 cc)),(35,.tuple #[(.bool false),.nilIface]),(25,.tuple #[(.bool false),.nilIface]),(36,(.bool false)),(37,.nilIface),(10,(.bool false)),(9,.nilIface)]) 15 (N+14) [] []
  ⟨Spec.wf_of (by kernel_rfl),aU (by kernel_rfl),aM ⟨rfl,rfl,rfl,trivial⟩⟩ R3.out (Run.nodup R3.out) (by omega)
  (fun b hM=>aA (aA (aA (aA (aA (aA (aA (aA (aA (aA (aA (aA (aA (aA (aA aO
    (aB b))
    (aB b))
    (aN b m0))
    (aB b))
    (aN b m1))
    (aB b))
    (aN b m1))
    (aB b))
    (aN b m0))
    (aI b (c_fn (ix:=[]) (ts:=[]) hM (fun ν=>lX ⟨h1.1.1,h1.1.2⟩ ⟨h2.2.2.1.1,h2.2.2.1.2⟩ ⟨h2.1.1,h2.1.2⟩ ⟨h1.2.2.1.1,h1.2.2.1.2⟩ hS2 hq))))
    (aB b))
    (aB b))
    (aB b))
    (aB b))
    (aB b)) ?_
 intro ν W4 hν hR;replace hR:Run ⟨w,B,ns⟩ g (N+14) [] [((ν 0),.cells #[(.int .i64 1),(.float .f64 ca),(.float .f64 cb),(.float .f64 cc)] 29),((ν 1),.cells #[(.int .i64 1),(.float .f64 da),(.float .f64 db),(.float .f64 dc)] 29)] W4:=hR;have e0:ν 0=b1:=hν 0 rfl;have e1:ν 1=b2:=hν 1 rfl;simp only[e0,e1]at hR|-;clear hν e0 e1;have R4:=hdd hR;clear hR R3;simp only[putL,bhX,bhY];have HF:Hid (yY w B ns g (N+14) (fun _=>.tuple #[.bool false,.nilIface]) [] (.returned (.tuple #[.bool false,.nilIface])) W4):=hdd ⟨[],rfl,rfl,_,R4.out.few (mJ [])⟩;clear R4;go_wp2
 go_ret2
 exact HF.out
theorem alJ(h1:dH ca cb cc)(h2:dH da db dc)(hS:dG PT (aK ca db cb da) 0)(hS2:dG PT (aK ca dc da cc) 0)(hS3:dG PT (aK cb dc db cc) q)(hq:(q==0)=false):FnOk 22 g 21 #[.pointer (some ⟨g,0,none⟩),curV 1 ca cb cc,curV 1 da db dc] [] (fun ks=>.tuple #[.bool false,.nilIface]) []:=FnOk.of fun w B ns N hR hN=>by
 have R1:=hdd hR;clear hR;go_enter Tryz.func22,Tryz.ntmps22
 go_upto_region 0 with fail
 refine Spec.run (S:=⟨_,fun i=>([.w (.c (.ptr 0 0)),.w (.c (.ptr 1 0)),.w (.c (.v (Value.bool false))),.w (.c (.v Value.nilIface))]:List SV).getD i noS,fun n=>([some 0,some 1]:List (Option Nat)).getD n none,
  [],[⟨0,29,[.v (.int .i64 1),.v (.float .f64 ca),.v (.float .f64 cb),.v (.float .f64 cc)],none⟩,⟨1,29,[.v (.int .i64 1),.v (.float .f64 da),.v (.float .f64 db),.v (.float .f64 dc)],none⟩],
  fun i=>([0,0,0,0]:List Nat).getD i 0,fun i=>([[],[],[],[]]:List (List Nat)).getD i [],[(1,.w (.agg ([.v (.int .i64 1),.v (.float .f64 ca),.v (.float .f64 cb),.v (.float .f64 cc)]))),(2,.w (.agg ([.v (.int .i64 1),.v (.float .f64 da),.v (.float .f64 db),.v (.float .f64 dc)])))]⟩)
  (W:=runW ⟨w,B,ns⟩ g) (ν0:=fun n=>([]:List Nat).getD n 0) (c0:=N)
  (fs:=fun ν=>[(4,.pointer (some ⟨(ν 0),0,none⟩)),(5,.pointer (some ⟨(ν 1),0,none⟩)),(6,(Value.bool false)),(7,Value.nilIface)]) 4 N [] []
  ⟨Spec.wf_of (by kernel_rfl),aU (by kernel_rfl),aM ⟨rfl,rfl,trivial⟩⟩ R1.out (Run.nodup R1.out) (by omega)
  (fun b hM=>aA (aA (aA (aA aO
    (aW b m0))
    (aW b m1))
    (aB b))
    (aB b)) ?_
 intro ν W2 hν hR;replace hR:Run ⟨w,B,ns⟩ g N [] [((ν 0),.cells #[(.int .i64 1),(.float .f64 ca),(.float .f64 cb),(.float .f64 cc)] 29),((ν 1),.cells #[(.int .i64 1),(.float .f64 da),(.float .f64 db),(.float .f64 dc)] 29)] W2:=hR;clear hν;generalize ν 0=b1 at hR|-;generalize ν 1=b2 at hR|-;have R2:=hdd hR;clear hR R1;simp only[putL,bhX,bhY]
 go_upto_region 1 with fail
 refine Spec.run (S:=⟨_,fun i=>([.w (.c (.v (.pointer (some ⟨g,0,none⟩)))),.w (.agg ([.v (.int .i64 1),.v (.float .f64 ca),.v (.float .f64 cb),.v (.float .f64 cc)])),.w (.agg ([.v (.int .i64 1),.v (.float .f64 da),.v (.float .f64 db),.v (.float .f64 dc)])),.tup [.c (.v (.bool true)),.c (.v .nilIface)],.tup [.c (.v (.bool true)),.c (.v .nilIface)],.w (.c (.v (.bool true))),.w (.c (.v .nilIface)),.w (.c (.v (.bool true))),.w (.c (.v .nilIface))]:List SV).getD i noS,fun n=>([none,none]:List (Option Nat)).getD n none,
  [],[⟨0,29,[.v (.int .i64 1),.v (.float .f64 ca),.v (.float .f64 cb),.v (.float .f64 cc)],none⟩,⟨1,29,[.v (.int .i64 1),.v (.float .f64 da),.v (.float .f64 db),.v (.float .f64 dc)],none⟩],
  fun i=>([0,0,0,7,0,0,0,0,0]:List Nat).getD i 0,fun i=>([[],[],[],[0,1,2],[0,1,2,3],[0,1,2,3,4],[0,1,2,3,4],[0,1,2,3,4,5],[0,1,2,3,4,6]]:List (List Nat)).getD i [],[(0,.w (.c (.v (.pointer (some ⟨g,0,none⟩))))),(4,.w (.c (.ptr 0 0))),(5,.w (.c (.ptr 1 0)))]⟩)
  (W:=runW ⟨w,B,ns⟩ g) (ν0:=fun n=>([b1,b2]:List Nat).getD n 0) (c0:=N)
  (fs:=fun ν=>[(12,.pointer (some ⟨g,0,none⟩)),(13,.agg #[(.int .i64 1),(.float .f64 ca),(.float .f64 cb),(.float .f64 cc)]),(14,.agg #[(.int .i64 1),(.float .f64 da),(.float .f64 db),(.float .f64 dc)]),(15,.tuple #[(.bool true),.nilIface]),(11,.tuple #[(.bool true),.nilIface]),(16,(.bool true)),(17,.nilIface),(8,(.bool true)),(9,.nilIface)]) 9 (N+7) [] []
  ⟨Spec.wf_of (by kernel_rfl),aU (by kernel_rfl),aM ⟨rfl,rfl,rfl,trivial⟩⟩ R2.out (Run.nodup R2.out) (by omega)
  (fun b hM=>aA (aA (aA (aA (aA (aA (aA (aA (aA aO
    (aB b))
    (aP b 4 m0))
    (aP b 4 m1))
    (aI b (c_fn (ix:=[]) (ts:=[]) hM (fun ν=>nZ h1 h2 hS (q:=0) (r:=true) rfl))))
    (aB b))
    (aB b))
    (aB b))
    (aB b))
    (aB b)) ?_
 intro ν W3 hν hR;replace hR:Run ⟨w,B,ns⟩ g (N+7) [] [((ν 0),.cells #[(.int .i64 1),(.float .f64 ca),(.float .f64 cb),(.float .f64 cc)] 29),((ν 1),.cells #[(.int .i64 1),(.float .f64 da),(.float .f64 db),(.float .f64 dc)] 29)] W3:=hR;have e0:ν 0=b1:=hν 0 rfl;have e1:ν 1=b2:=hν 1 rfl;simp only[e0,e1]at hR|-;clear hν e0 e1;have R3:=hdd hR;clear hR R2;simp only[putL,bhX,bhY]
 go_upto_region 4 with fail
 refine Spec.run (S:=⟨_,fun i=>([.w (.c (.v (.pointer (some ⟨g,0,none⟩)))),.w (.c (.ptr 0 1)),.w (.c (.v (.float .f64 ca))),.w (.c (.ptr 1 3)),.w (.c (.v (.float .f64 dc))),.w (.c (.ptr 1 1)),.w (.c (.v (.float .f64 da))),.w (.c (.ptr 0 3)),.w (.c (.v (.float .f64 cc))),.tup [.c (.v (.bool true)),.c (.v .nilIface)],.tup [.c (.v (.bool true)),.c (.v .nilIface)],.w (.c (.v (.bool true))),.w (.c (.v .nilIface)),.w (.c (.v (.bool true))),.w (.c (.v .nilIface))]:List SV).getD i noS,fun n=>([none,none]:List (Option Nat)).getD n none,
  [],[⟨0,29,[.v (.int .i64 1),.v (.float .f64 ca),.v (.float .f64 cb),.v (.float .f64 cc)],none⟩,⟨1,29,[.v (.int .i64 1),.v (.float .f64 da),.v (.float .f64 db),.v (.float .f64 dc)],none⟩],
  fun i=>([0,0,0,0,0,0,0,0,0,7,0,0,0,0,0]:List Nat).getD i 0,fun i=>([[],[],[1],[],[3],[],[5],[],[7],[0,1,2,3,4,5,6,7,8],[0,1,2,3,4,5,6,7,8,9],[0,1,2,3,4,5,6,7,8,9,10],[0,1,2,3,4,5,6,7,8,9,10],[0,1,2,3,4,5,6,7,8,9,10,11],[0,1,2,3,4,5,6,7,8,9,10,12]]:List (List Nat)).getD i [],[(0,.w (.c (.v (.pointer (some ⟨g,0,none⟩))))),(4,.w (.c (.ptr 0 0))),(5,.w (.c (.ptr 1 0)))]⟩)
  (W:=runW ⟨w,B,ns⟩ g) (ν0:=fun n=>([b1,b2]:List Nat).getD n 0) (c0:=(N+7))
  (fs:=fun ν=>[(26,.pointer (some ⟨g,0,none⟩)),(27,.pointer (some ⟨(ν 0),1,none⟩)),(28,(.float .f64 ca)),(29,.pointer (some ⟨(ν 1),3,none⟩)),(30,(.float .f64 dc)),(31,.pointer (some ⟨(ν 1),1,none⟩)),(32,(.float .f64 da)),(33,.pointer (some ⟨(ν 0),3,none⟩)),(34,(.float .f64 cc)),(35,.tuple #[(.bool true),.nilIface]),(25,.tuple #[(.bool true),.nilIface]),(36,(.bool true)),(37,.nilIface),(10,(.bool true)),(9,.nilIface)]) 15 (N+14) [] []
  ⟨Spec.wf_of (by kernel_rfl),aU (by kernel_rfl),aM ⟨rfl,rfl,rfl,trivial⟩⟩ R3.out (Run.nodup R3.out) (by omega)
  (fun b hM=>aA (aA (aA (aA (aA (aA (aA (aA (aA (aA (aA (aA (aA (aA (aA aO
    (aB b))
    (aB b))
    (aN b m0))
    (aB b))
    (aN b m1))
    (aB b))
    (aN b m1))
    (aB b))
    (aN b m0))
    (aI b (c_fn (ix:=[]) (ts:=[]) hM (fun ν=>lX ⟨h1.1.1,h1.1.2⟩ ⟨h2.2.2.1.1,h2.2.2.1.2⟩ ⟨h2.1.1,h2.1.2⟩ ⟨h1.2.2.1.1,h1.2.2.1.2⟩ hS2 (q:=0) (r:=true) rfl))))
    (aB b))
    (aB b))
    (aB b))
    (aB b))
    (aB b)) ?_
 intro ν W4 hν hR;replace hR:Run ⟨w,B,ns⟩ g (N+14) [] [((ν 0),.cells #[(.int .i64 1),(.float .f64 ca),(.float .f64 cb),(.float .f64 cc)] 29),((ν 1),.cells #[(.int .i64 1),(.float .f64 da),(.float .f64 db),(.float .f64 dc)] 29)] W4:=hR;have e0:ν 0=b1:=hν 0 rfl;have e1:ν 1=b2:=hν 1 rfl;simp only[e0,e1]at hR|-;clear hν e0 e1;have R4:=hdd hR;clear hR R3;simp only[putL,bhX,bhY]
 go_upto_region 7 with fail
 refine Spec.run (S:=⟨_,fun i=>([.w (.c (.v (.pointer (some ⟨g,0,none⟩)))),.w (.c (.ptr 0 2)),.w (.c (.v (.float .f64 cb))),.w (.c (.ptr 1 3)),.w (.c (.v (.float .f64 dc))),.w (.c (.ptr 1 2)),.w (.c (.v (.float .f64 db))),.w (.c (.ptr 0 3)),.w (.c (.v (.float .f64 cc))),.tup [.c (.v (.bool false)),.c (.v .nilIface)],.w (.c (.v (.bool false))),.w (.c (.v .nilIface)),.w (.c (.v (.bool false))),.w (.c (.v .nilIface))]:List SV).getD i noS,fun n=>([none,none]:List (Option Nat)).getD n none,
  [],[⟨0,29,[.v (.int .i64 1),.v (.float .f64 ca),.v (.float .f64 cb),.v (.float .f64 cc)],none⟩,⟨1,29,[.v (.int .i64 1),.v (.float .f64 da),.v (.float .f64 db),.v (.float .f64 dc)],none⟩],
  fun i=>([0,0,0,0,0,0,0,0,0,7,0,0,0,0]:List Nat).getD i 0,fun i=>([[],[],[1],[],[3],[],[5],[],[7],[0,1,2,3,4,5,6,7,8],[0,1,2,3,4,5,6,7,8,9],[0,1,2,3,4,5,6,7,8,9],[0,1,2,3,4,5,6,7,8,9,10],[0,1,2,3,4,5,6,7,8,9,11]]:List (List Nat)).getD i [],[(0,.w (.c (.v (.pointer (some ⟨g,0,none⟩))))),(4,.w (.c (.ptr 0 0))),(5,.w (.c (.ptr 1 0)))]⟩)
  (W:=runW ⟨w,B,ns⟩ g) (ν0:=fun n=>([b1,b2]:List Nat).getD n 0) (c0:=(N+14))
  (fs:=fun ν=>[(45,.pointer (some ⟨g,0,none⟩)),(46,.pointer (some ⟨(ν 0),2,none⟩)),(47,(.float .f64 cb)),(48,.pointer (some ⟨(ν 1),3,none⟩)),(49,(.float .f64 dc)),(50,.pointer (some ⟨(ν 1),2,none⟩)),(51,(.float .f64 db)),(52,.pointer (some ⟨(ν 0),3,none⟩)),(53,(.float .f64 cc)),(54,.tuple #[(.bool false),.nilIface]),(55,(.bool false)),(56,.nilIface),(6,(.bool false)),(7,.nilIface)]) 14 (N+21) [] []
  ⟨Spec.wf_of (by kernel_rfl),aU (by kernel_rfl),aM ⟨rfl,rfl,rfl,trivial⟩⟩ R4.out (Run.nodup R4.out) (by omega)
  (fun b hM=>aA (aA (aA (aA (aA (aA (aA (aA (aA (aA (aA (aA (aA (aA aO
    (aB b))
    (aB b))
    (aN b m0))
    (aB b))
    (aN b m1))
    (aB b))
    (aN b m1))
    (aB b))
    (aN b m0))
    (aI b (c_fn (ix:=[]) (ts:=[]) hM (fun ν=>lX ⟨h1.2.1.1,h1.2.1.2⟩ ⟨h2.2.2.1.1,h2.2.2.1.2⟩ ⟨h2.2.1.1,h2.2.1.2⟩ ⟨h1.2.2.1.1,h1.2.2.1.2⟩ hS3 hq))))
    (aB b))
    (aB b))
    (aB b))
    (aB b)) ?_
 intro ν W5 hν hR;replace hR:Run ⟨w,B,ns⟩ g (N+21) [] [((ν 0),.cells #[(.int .i64 1),(.float .f64 ca),(.float .f64 cb),(.float .f64 cc)] 29),((ν 1),.cells #[(.int .i64 1),(.float .f64 da),(.float .f64 db),(.float .f64 dc)] 29)] W5:=hR;have e0:ν 0=b1:=hν 0 rfl;have e1:ν 1=b2:=hν 1 rfl;simp only[e0,e1]at hR|-;clear hν e0 e1;have R5:=hdd hR;clear hR R4;simp only[putL,bhX,bhY];have HF:Hid (yY w B ns g (N+21) (fun _=>.tuple #[.bool false,.nilIface]) [] (.returned (.tuple #[.bool false,.nilIface])) W5):=hdd ⟨[],rfl,rfl,_,R5.out.few (mJ [])⟩;clear R5;go_wp2
 go_ret2
 exact HF.out
end Go.Proofs.YtjaafolhfihegaaGreatDoor
