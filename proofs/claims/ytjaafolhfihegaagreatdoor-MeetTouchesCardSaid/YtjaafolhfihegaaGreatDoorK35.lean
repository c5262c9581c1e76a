/- A part of the proof: contracts of functions and plain laws (MtB). -/
import Derived.Test.YtjaafolhfihegaaGreatDoorK34
set_option linter.unusedVariables false
set_option linter.unusedSimpArgs false
set_option maxHeartbeats 25600000
set_option maxRecDepth 100000
namespace Go.Proofs.YtjaafolhfihegaaGreatDoor
open Go.RowKit Go.Maps
open List renaming setIfInBounds_toArray->bg4,map_cons->bg5,map_nil->bg6,set->bg7
variable{ca cb cc g:Nat}{T:TypeId}{a0 a1 a2 a3 a4 a5:Value}{w:World}
abbrev oP(a b c:Nat):Ex:=.sub (.add (.mul (.leaf a) (.leaf a)) (.mul (.leaf b) (.leaf b))) (.leaf c)
abbrev axU(a d:Nat):Ex:=.mul (.leaf 4611686018427387904) (.sub (.leaf d) (.leaf a))
abbrev axW(a b c d e f:Nat):Ex:=.sub (oP d e f) (oP a b c)
theorem alH{a6 a7:Value}(h:w.heap[g]? =some (.cells #[a0,a1,a2,a3,a4,a5,a6,a7] T (0,0))):
 w.cell? ⟨g,0,none⟩=some a0/\w.cell? ⟨g,1,none⟩=some a1/\w.cell? ⟨g,2,none⟩=some a2/\w.cell? ⟨g,3,none⟩=some a3/\w.cell? ⟨g,4,none⟩=some a4/\w.cell? ⟨g,5,none⟩=some a5/\w.cell? ⟨g,6,none⟩=some a6/\w.cell? ⟨g,7,none⟩=some a7:=by
 refine⟨?_,?_,?_,?_,?_,?_,?_,?_⟩<;>simp[World.cell?,h]
theorem anM(h:w.heap[g]? =some (.cells #[a0,a1,a2,a3,a4,a5] T (0,0))):
 w.cell? ⟨g,0,none⟩=some a0/\w.cell? ⟨g,1,none⟩=some a1/\w.cell? ⟨g,2,none⟩=some a2/\w.cell? ⟨g,3,none⟩=some a3/\w.cell? ⟨g,4,none⟩=some a4/\w.cell? ⟨g,5,none⟩=some a5:=by
 refine⟨?_,?_,?_,?_,?_,?_⟩<;>simp[World.cell?,h]
theorem lK(hca:FlOk ca)(hcb:FlOk cb):FnOk 107 g 2 #[.pointer (some ⟨g,0,none⟩),curV 2 ca cb cc] [] (fun ks=>jD g (ks.getD 0 0) (ks.getD 1 0)) [.leaf ca,.leaf cb]:=FnOk.of fun w B ns N hR hN=>by
 have R1:=hdd hR;clear hR;go_enter Tryz.func107,Tryz.ntmps107
 go_upto_region 0 with fail
 refine Spec.run (S:=⟨_,fun i=>([.w (.c (.ptr 0 0)),.w (.c (.ptr 1 0))]:List SV).getD i noS,fun n=>([some 0,some 1]:List (Option Nat)).getD n none,
  [],[⟨0,29,[.v (.int .i64 2),.v (.float .f64 ca),.v (.float .f64 cb),.v (.float .f64 cc)],none⟩,⟨1,33,[.v (.pointer none),.v (.int .i64 0),.v (.pointer none),.v (.int .i64 0)],none⟩],
  fun i=>([0,0]:List Nat).getD i 0,fun i=>([[],[]]:List (List Nat)).getD i [],[(1,.w (.agg ([.v (.int .i64 2),.v (.float .f64 ca),.v (.float .f64 cb),.v (.float .f64 cc)])))]⟩)
  (W:=runW ⟨w,B,ns⟩ g) (ν0:=fun n=>([]:List Nat).getD n 0) (c0:=N)
  (fs:=fun ν=>[(3,.pointer (some ⟨(ν 0),0,none⟩)),(4,.pointer (some ⟨(ν 1),0,none⟩))]) 2 N [] []
  ⟨Spec.wf_of (by kernel_rfl),aeG (by kernel_rfl),vR ⟨rfl,trivial⟩⟩ R1.out (Run.nodup R1.out) (by omega)
  (fun b hM=>aA (aA aK
    (aT b m0))
    (aT b m1)) ?_
 intro ν W2 hν hR;replace hR:Run ⟨w,B,ns⟩ g N [] [((ν 0),.cells #[(.int .i64 2),(.float .f64 ca),(.float .f64 cb),(.float .f64 cc)] 29),((ν 1),.cells #[.pointer none,.int .i64 0,.pointer none,.int .i64 0] 33)] W2:=hR;clear hν;generalize ν 0=b1 at hR|-;generalize ν 1=b2 at hR|-;have R2:=hdd hR;clear hR R1;simp only[putL,bg4,bg7]
 go_upto_region 1 with fail
 refine Spec.run (S:=⟨_,fun i=>([.w (.c (.v (.pointer (some ⟨g,0,none⟩)))),.w (.c (.ptr 0 1)),.w (.c (.v (.float .f64 ca))),.w (.c (.ptr 0 2)),.w (.c (.v (.float .f64 cb))),fT g 2 3,noS]:List SV).getD i noS,fun n=>([none,none,some 5,some 5]:List (Option Nat)).getD n none,
  [(2,(.leaf ca)),(3,(.leaf cb))],[⟨0,29,[.v (.int .i64 2),.v (.float .f64 ca),.v (.float .f64 cb),.v (.float .f64 cc)],none⟩,⟨1,33,[.v (.pointer none),.v (.int .i64 0),.v (.pointer none),.v (.int .i64 0)],some (6,bY g 2 3)⟩],
  fun i=>([0,0,0,0,0,2,0]:List Nat).getD i 0,fun i=>([[],[],[1],[],[3],[0,1,2,3,4],[0,1,2,3,4,5]]:List (List Nat)).getD i [],[(0,.w (.c (.v (.pointer (some ⟨g,0,none⟩))))),(3,.w (.c (.ptr 0 0))),(4,.w (.c (.ptr 1 0)))]⟩)
  (W:=runW ⟨w,B,ns⟩ g) (ν0:=fun n=>([b1,b2]:List Nat).getD n 0) (c0:=N)
  (fs:=fun ν=>[(5,.pointer (some ⟨g,0,none⟩)),(6,.pointer (some ⟨(ν 0),1,none⟩)),(7,(.float .f64 ca)),(8,.pointer (some ⟨(ν 0),2,none⟩)),(9,(.float .f64 cb)),(10,jD g (ν 2) (ν 3))]) 7 (N+2) [] []
  ⟨Spec.wf_of (by kernel_rfl),aeG (by kernel_rfl),vR ⟨rfl,rfl,rfl,trivial⟩⟩ R2.out (Run.nodup R2.out) (by omega)
  (fun b hM=>aA (aA (aA (aA (aA (aA (aA aK
    (aB b))
    (aB b))
    (gP b m0))
    (aB b))
    (gP b m0))
    (aJ b (c_at hM hca.1 hcb.1 hca.2 hcb.2 rfl rfl rfl rfl (by decide) rfl)))
    (bT b 4 m1)) ?_
 intro ν W3 hν hR;replace hR:Run ⟨w,B,ns⟩ g (N+2) [((.leaf ca),ν 2),((.leaf cb),ν 3)] [((ν 0),.cells #[(.int .i64 2),(.float .f64 ca),(.float .f64 cb),(.float .f64 cc)] 29),((ν 1),kD g (ν 2) (ν 3))] W3:=hR;have e0:ν 0=b1:=hν 0 rfl;have e1:ν 1=b2:=hν 1 rfl;simp only[e0,e1]at hR|-;clear hν e0 e1;generalize ν 2=n3 at hR|-;generalize ν 3=n4 at hR|-;have R3:=hdd hR;clear hR R2;simp only[putL,bg4,bg7];go_wp2;obtain⟨x0,x1,x2,x3⟩:=aO (R3.out.at m1);refine bodyPost_ret (v:=.agg #[_,_,_,_]) (by simp[results,Tryz.results107,go_sem,x0,x1,x2,x3];first|exact⟨rfl,rfl,rfl,rfl⟩|rfl) rfl ?_;exact⟨[n3,n4],rfl,rfl,_,R3.out.few (dH [0,1])⟩
theorem zN(hca:FlOk ca)(hcb:FlOk cb)(hcc:FlOk cc):FnOk 127 g 7 #[.pointer (some ⟨g,0,none⟩),curV 2 ca cb cc] [] (fun ks=>numV g (ks.getD 0 0)) [oP ca cb cc]:=FnOk.of fun w B ns N hR hN=>by
 have R1:=hdd hR;clear hR;go_enter Tryz.func127,Tryz.ntmps127
 go_upto_region 0 with fail
 refine Spec.go [.w (.c (.ptr 0 0)),.w (.c (.ptr 1 0))] [0,1]
  [] [⟨0,29,curC 2 ca cb cc,none⟩,⟨1,31,[.v (.pointer none),.v (.int .i64 0)],none⟩]
  [0,0] [[],[]] [(1,.w (.agg ([.v (.int .i64 2),.v (.float .f64 ca),.v (.float .f64 cb),.v (.float .f64 cc)])))]
  [4,5] [] 2 N [] [] R1.out
  (fun b hM=>aA (aA aK
    (aT b m0))
    (aT b m1)) ?_
 intro b1 b2 ν W2 hR;have R2:=hdd hR;clear hR R1;simp only[putL,bg4,bg7,fs0,fs1,fsn,dSw,dSt,dWc,dWa,dv,di,dp,ds',bg5,bg6,nuTn,nuT0,nuT1,nuU0,nuU1]
 go_upto_region 1 with fail
 refine Spec.go [.w (.c (.v (.pointer (some ⟨g,0,none⟩)))),.w (.agg ([.v (.int .i64 2),.v (.float .f64 ca),.v (.float .f64 cb),.v (.float .f64 cc)])),fT g 2 3,.w (.c (.ptr 4 0)),noS] [2,2,3]
  [(2,(.leaf ca)),(3,(.leaf cb))] [⟨0,29,curC 2 ca cb cc,none⟩,⟨1,31,[.v (.pointer none),.v (.int .i64 0)],none⟩,⟨4,33,[.v (.pointer none),.v (.int .i64 0),.v (.pointer none),.v (.int .i64 0)],some (4,bY g 2 3)⟩]
  [0,0,2,0,0] [[],[],[0,1],[],rgn 4] [(0,.w (.c (.v (.pointer (some ⟨g,0,none⟩))))),(3,.w (.c (.ptr 0 0)))]
  [7,8,9,6,0] [b1,b2] 5 (N+2) [] [] R2.out
  (fun b hM=>aA (aA (aA (aA (aA aK
    (aB b))
    (aF b 4 m0))
    (aJ b (c_fn (ix:=[]) (ts:=[2,3]) hM (fun ν=>lK (ca:=ca) (cb:=cb) (cc:=cc) ⟨hca.1,hca.2⟩ ⟨hcb.1,hcb.2⟩))))
    (aT b m2))
    (bT b 4 m2)) ?_
 intro n3 n4 b5 ν W3 hR;have R3:=hdd hR;clear hR R2;simp only[putL,bg4,bg7,fs0,fs1,fsn,dSw,dSt,dWc,dWa,dv,di,dp,ds',bg5,bg6,nuTn,nuT0,nuT1,nuU0,nuU1]
 go_upto_region 2 with fail
 refine Spec.go [.w (.c (.ptr 4 0)),numS g 2,.w (.c (.ptr 4 0)),numS g 2,.w (.c (.sl 5 1)),numS g 6,.w (.c (.ptr 4 2)),numS g 3,.w (.c (.ptr 4 2)),numS g 3,.w (.c (.sl 7 1)),numS g 8,.w (.c (.sl 9 1)),numS g 10,.w (.c (.v (.pointer (some ⟨g,0,none⟩)))),.w (.c (.ptr 0 3)),.w (.c (.v (.float .f64 cc))),numS g 11,numS g 12,noS] [4,5,10,11,12,13,17,18]
  [(2,(.leaf ca)),(3,(.leaf cb)),(6,(.mul (.leaf ca) (.leaf ca))),(8,(.mul (.leaf cb) (.leaf cb))),(10,(.add (.mul (.leaf ca) (.leaf ca)) (.mul (.leaf cb) (.leaf cb)))),(11,(.leaf cc)),(12,(.sub (.add (.mul (.leaf ca) (.leaf ca)) (.mul (.leaf cb) (.leaf cb))) (.leaf cc)))] [⟨0,29,curC 2 ca cb cc,none⟩,⟨1,31,[.v (.pointer none),.v (.int .i64 0)],some (19,numC g 12)⟩,⟨4,33,bY g 2 3,none⟩,⟨5,31,numC g 2,none⟩,⟨7,31,numC g 3,none⟩,⟨9,31,numC g 8,none⟩]
  [0,0,0,0,0,1,0,0,0,0,0,1,0,1,0,0,0,1,1,0] [[],[0],[],[2],[2,3],rgn 5,[],[6],[],[8],[8,9],[6,7,8,9,10],[6,7,8,9,10,11],rgn 13,[],[],[15],[14,15,16],rgn 18,rgn 19] [(5,.w (.c (.ptr 4 0))),(0,.w (.c (.v (.pointer (some ⟨g,0,none⟩))))),(3,.w (.c (.ptr 0 0))),(4,.w (.c (.ptr 1 0)))]
  [10,11,12,13,14,15,16,17,18,19,20,21,22,23,24,25,26,27,28,0] [b1,b2,n3,n4,b5] 20 (N+7) [] [] R3.out
  (fun b hM=>aA (aA (aA (aA (aA (aA (aA (aA (aA (aA (aA (aA (aA (aA (aA (aA (aA (aA (aA (aA aK
    (aB b))
    (aF b 2 m2))
    (aB b))
    (aF b 2 m2))
    (bS b m3))
    (aJ b (kE hM m0 m0 rfl rfl m3 rfl rfl rfl rfl rfl rfl rfl rfl)))
    (aB b))
    (aF b 2 m2))
    (aB b))
    (aF b 2 m2))
    (bS b m4))
    (aJ b (kE hM m1 m1 rfl rfl m4 rfl rfl rfl rfl rfl rfl rfl rfl)))
    (bS b m5))
    (aJ b (qD hM m2 m3 rfl rfl m5 rfl rfl rfl rfl rfl rfl rfl rfl)))
    (aB b))
    (aB b))
    (gP b m0))
    (aJ b (c_of hM hcc.1 hcc.2 rfl rfl rfl rfl)))
    (aJ b (sF hM m4 m5 rfl rfl rfl rfl rfl rfl)))
    (bT b 2 m1)) ?_
 intro b6 n7 b8 n9 b10 n11 n12 n13 ν W4 hR;replace hR:Run ⟨w,B,ns⟩ g (N+7) [((.leaf ca),n3),((.leaf cb),n4),((.mul (.leaf ca) (.leaf ca)),n7),((.mul (.leaf cb) (.leaf cb)),n9),((.add (.mul (.leaf ca) (.leaf ca)) (.mul (.leaf cb) (.leaf cb))),n11),((.leaf cc),n12),((.sub (.add (.mul (.leaf ca) (.leaf ca)) (.mul (.leaf cb) (.leaf cb))) (.leaf cc)),n13)] [(b1,.cells #[(.int .i64 2),(.float .f64 ca),(.float .f64 cb),(.float .f64 cc)] 29),(b2,numO g n13),(b5,kD g n3 n4),(b6,numO g n3),(b8,numO g n4),(b10,numO g n9)] W4:=hR;have R4:=hdd hR;clear hR R3;simp only[putL,bg4,bg7,fs0,fs1,fsn,dSw,dSt,dWc,dWa,dv,di,dp,ds',bg5,bg6,nuTn,nuT0,nuT1,nuU0,nuU1];go_wp2;obtain⟨x0,x1,-,-⟩:=aD (R4.out.at m1);refine bodyPost_ret (v:=.agg #[_,_]) (by simp[results,Tryz.results127,go_sem,x0,x1];first|exact⟨rfl,rfl⟩|rfl) rfl ?_;exact⟨[n13],rfl,rfl,_,R4.out.few (dH [6])⟩
theorem ahY{da db dc:Nat}(h1:dI ca cb cc)(h2:dI da db dc):FnOk 109 g 24 #[.pointer (some ⟨g,0,none⟩),curV 2 ca cb cc,curV 2 da db dc] [] (fun ks=>.tuple #[.agg #[.pointer (some ⟨g,0,none⟩),.int .i64 ((ks.getD 0 0:Nat):Int),.pointer (some ⟨g,0,none⟩),.int .i64 ((ks.getD 1 0:Nat):Int),.pointer (some ⟨g,0,none⟩),.int .i64 ((ks.getD 2 0:Nat):Int)],.nilIface]) [axU ca da,axU cb db,axW ca cb cc da db dc]:=FnOk.of fun w B ns N hR hN=>by
 have R1:=hdd hR;clear hR;go_enter Tryz.func109,Tryz.ntmps109
 go_upto_region 0 with fail
 refine Spec.go [.w (.c (.ptr 0 0)),.w (.c (.ptr 1 0)),.w (.c (.ptr 2 0)),.w (.c (.v Value.nilIface))] [0,1,2]
  [] [⟨0,29,curC 2 ca cb cc,none⟩,⟨1,29,curC 2 da db dc,none⟩,⟨2,168,[.v (.pointer none),.v (.int .i64 0),.v (.pointer none),.v (.int .i64 0),.v (.pointer none),.v (.int .i64 0)],none⟩]
  [0,0,0,0] [[],[],[],[]] [(1,.w (.agg ([.v (.int .i64 2),.v (.float .f64 ca),.v (.float .f64 cb),.v (.float .f64 cc)]))),(2,.w (.agg ([.v (.int .i64 2),.v (.float .f64 da),.v (.float .f64 db),.v (.float .f64 dc)])))]
  [5,6,7,8] [] 4 N [] [] R1.out
  (fun b hM=>aA (aA (aA (aA aK
    (aT b m0))
    (aT b m1))
    (aT b m2))
    (aB b)) ?_
 intro b1 b2 b3 ν W2 hR;have R2:=hdd hR;clear hR R1;simp only[putL,bg4,bg7,fs0,fs1,fsn,dSw,dSt,dWc,dWa,dv,di,dp,ds',bg5,bg6,nuTn,nuT0,nuT1,nuU0,nuU1]
 go_upto_region 1 with fail
 refine Spec.go [.w (.agg ([.v (.int .i64 2),.v (.float .f64 ca),.v (.float .f64 cb),.v (.float .f64 cc)])),.w (.c (.v .nilIface)),.w (.c (.v .nilIface))] []
  [] [⟨0,29,curC 2 ca cb cc,none⟩,⟨1,29,curC 2 da db dc,none⟩,⟨2,168,[.v (.pointer none),.v (.int .i64 0),.v (.pointer none),.v (.int .i64 0),.v (.pointer none),.v (.int .i64 0)],none⟩]
  [0,0,0] [[],[0],[0,1]] [(4,.w (.c (.ptr 0 0)))]
  [16,17,9] [b1,b2,b3] 3 N [] [] R2.out
  (fun b hM=>aA (aA (aA aK
    (aF b 4 m0))
    (aJ b (oK hM rfl rfl rfl (fun w=>aa2 h1.1 h1.2.1 h1.2.2.1 h1.2.2.2))))
    (aB b)) ?_
 intro ν W3 hR;have R3:=hdd hR;clear hR R2;simp only[putL,bg4,bg7,fs0,fs1,fsn,dSw,dSt,dWc,dWa,dv,di,dp,ds',bg5,bg6,nuTn,nuT0,nuT1,nuU0,nuU1]
 go_upto_region 4 with fail
 refine Spec.go [.w (.agg ([.v (.int .i64 2),.v (.float .f64 da),.v (.float .f64 db),.v (.float .f64 dc)])),.w (.c (.v .nilIface)),.w (.c (.v .nilIface))] []
  [] [⟨0,29,curC 2 ca cb cc,none⟩,⟨1,29,curC 2 da db dc,none⟩,⟨2,168,[.v (.pointer none),.v (.int .i64 0),.v (.pointer none),.v (.int .i64 0),.v (.pointer none),.v (.int .i64 0)],none⟩]
  [0,0,0] [[],[0],[0,1]] [(5,.w (.c (.ptr 1 0)))]
  [22,23,10] [b1,b2,b3] 3 N [] [] R3.out
  (fun b hM=>aA (aA (aA aK
    (aF b 4 m1))
    (aJ b (oK hM rfl rfl rfl (fun w=>aa2 h2.1 h2.2.1 h2.2.2.1 h2.2.2.2))))
    (aB b)) ?_
 intro ν W4 hR;have R4:=hdd hR;clear hR R3;simp only[putL,bg4,bg7,fs0,fs1,fsn,dSw,dSt,dWc,dWa,dv,di,dp,ds',bg5,bg6,nuTn,nuT0,nuT1,nuU0,nuU1]
 go_upto_region 7 with fail
 refine Spec.go [.w (.c (.v (.pointer (some ⟨g,0,none⟩)))),numS g 3,.w (.c (.ptr 4 0)),noS] [1,2]
  [(3,(.leaf 4611686018427387904))] [⟨0,29,curC 2 ca cb cc,none⟩,⟨1,29,curC 2 da db dc,none⟩,⟨2,168,[.v (.pointer none),.v (.int .i64 0),.v (.pointer none),.v (.int .i64 0),.v (.pointer none),.v (.int .i64 0)],none⟩,⟨4,31,[.v (.pointer none),.v (.int .i64 0)],some (3,numC g 3)⟩]
  [0,1,0,0] [[],[0],[],[0,1,2]] [(0,.w (.c (.v (.pointer (some ⟨g,0,none⟩)))))]
  [28,29,11,0] [b1,b2,b3] 4 (N+1) [] [] R4.out
  (fun b hM=>aA (aA (aA (aA aK
    (aB b))
    (aJ b (c_of hM (by decide) (by decide) rfl rfl rfl rfl)))
    (aT b m3))
    (bT b 2 m3)) ?_
 intro n4 b5 ν W5 hR;have R5:=hdd hR;clear hR R4;simp only[putL,bg4,bg7,fs0,fs1,fsn,dSw,dSt,dWc,dWa,dv,di,dp,ds',bg5,bg6,nuTn,nuT0,nuT1,nuU0,nuU1]
 go_upto_region 8 with fail
 refine Spec.go [.w (.c (.v (.pointer (some ⟨g,0,none⟩)))),.w (.agg ([.v (.int .i64 2),.v (.float .f64 ca),.v (.float .f64 cb),.v (.float .f64 cc)])),fT g 5 6,.w (.c (.v (.pointer (some ⟨g,0,none⟩)))),.w (.agg ([.v (.int .i64 2),.v (.float .f64 da),.v (.float .f64 db),.v (.float .f64 dc)])),fT g 7 8,.w (.c (.ptr 9 0)),.w (.c (.ptr 10 0)),noS,noS] [2,2,5,5,6,7]
  [(3,(.leaf 4611686018427387904)),(5,(.leaf ca)),(6,(.leaf cb)),(7,(.leaf da)),(8,(.leaf db))] [⟨0,29,curC 2 ca cb cc,none⟩,⟨1,29,curC 2 da db dc,none⟩,⟨2,168,[.v (.pointer none),.v (.int .i64 0),.v (.pointer none),.v (.int .i64 0),.v (.pointer none),.v (.int .i64 0)],none⟩,⟨4,31,numC g 3,none⟩,⟨9,33,[.v (.pointer none),.v (.int .i64 0),.v (.pointer none),.v (.int .i64 0)],some (8,bY g 5 6)⟩,⟨10,33,[.v (.pointer none),.v (.int .i64 0),.v (.pointer none),.v (.int .i64 0)],some (9,bY g 7 8)⟩]
  [0,0,2,0,0,2,0,0,0,0] [[],[],[0,1],[],[],[3,4],[],[],rgn 8,rgn 9] [(0,.w (.c (.v (.pointer (some ⟨g,0,none⟩))))),(4,.w (.c (.ptr 0 0))),(5,.w (.c (.ptr 1 0)))]
  [30,31,32,33,34,35,12,13,0,0] [b1,b2,b3,n4,b5] 10 (N+5) [] [] R5.out
  (fun b hM=>aA (aA (aA (aA (aA (aA (aA (aA (aA (aA aK
    (aB b))
    (aF b 4 m0))
    (aJ b (c_fn (ix:=[]) (ts:=[5,6]) hM (fun ν=>lK (ca:=ca) (cb:=cb) (cc:=cc) ⟨h1.1.1,h1.1.2⟩ ⟨h1.2.1.1,h1.2.1.2⟩))))
    (aB b))
    (aF b 4 m1))
    (aJ b (c_fn (ix:=[]) (ts:=[7,8]) hM (fun ν=>lK (ca:=da) (cb:=db) (cc:=dc) ⟨h2.1.1,h2.1.2⟩ ⟨h2.2.1.1,h2.2.1.2⟩))))
    (aT b m4))
    (aT b m5))
    (bT b 4 m4))
    (bT b 4 m5)) ?_
 intro n6 n7 n8 n9 b10 b11 ν W6 hR;have R6:=hdd hR;clear hR R5;simp only[putL,bg4,bg7,fs0,fs1,fsn,dSw,dSt,dWc,dWa,dv,di,dp,ds',bg5,bg6,nuTn,nuT0,nuT1,nuU0,nuU1]
 go_upto_region 9 with fail
 refine Spec.go [numS g 3,.w (.c (.ptr 10 0)),numS g 7,.w (.c (.ptr 9 0)),numS g 5,numS g 11,.w (.c (.sl 12 1)),numS g 13,.w (.c (.ptr 14 0)),noS] [5,6,7,8]
  [(3,(.leaf 4611686018427387904)),(5,(.leaf ca)),(6,(.leaf cb)),(7,(.leaf da)),(8,(.leaf db)),(11,(.sub (.leaf da) (.leaf ca))),(13,(.mul (.leaf 4611686018427387904) (.sub (.leaf da) (.leaf ca))))] [⟨0,29,curC 2 ca cb cc,none⟩,⟨1,29,curC 2 da db dc,none⟩,⟨2,168,[.v (.pointer none),.v (.int .i64 0),.v (.pointer none),.v (.int .i64 0),.v (.pointer none),.v (.int .i64 0)],none⟩,⟨4,31,numC g 3,none⟩,⟨9,33,bY g 5 6,none⟩,⟨10,33,bY g 7 8,none⟩,⟨12,31,numC g 11,none⟩,⟨14,31,[.v (.pointer none),.v (.int .i64 0)],some (9,numC g 13)⟩]
  [0,0,0,0,0,1,0,1,0,0] [[],[],[1],[],[3],[1,2,3,4],[1,2,3,4,5],rgn 7,[],rgn 9] [(10,.w (.c (.ptr 4 0))),(12,.w (.c (.ptr 10 0))),(11,.w (.c (.ptr 9 0)))]
  [36,37,38,39,40,41,42,43,14,0] [b1,b2,b3,n4,b5,n6,n7,n8,n9,b10,b11] 10 (N+7) [] [] R6.out
  (fun b hM=>aA (aA (aA (aA (aA (aA (aA (aA (aA (aA aK
    (aF b 2 m3))
    (aB b))
    (aF b 2 m5))
    (aB b))
    (aF b 2 m4))
    (aJ b (sF hM m3 m1 rfl rfl rfl rfl rfl rfl)))
    (bS b m6))
    (aJ b (kE hM m0 m5 rfl rfl m6 rfl rfl rfl rfl rfl rfl rfl rfl)))
    (aT b m7))
    (bT b 2 m7)) ?_
 intro n12 b13 n14 b15 ν W7 hR;have R7:=hdd hR;clear hR R6;simp only[putL,bg4,bg7,fs0,fs1,fsn,dSw,dSt,dWc,dWa,dv,di,dp,ds',bg5,bg6,nuTn,nuT0,nuT1,nuU0,nuU1]
 go_upto_region 10 with fail
 refine Spec.go [numS g 3,.w (.c (.ptr 10 2)),numS g 8,.w (.c (.ptr 9 2)),numS g 6,numS g 13,.w (.c (.sl 14 1)),numS g 15,.w (.c (.ptr 16 0)),noS] [5,6,7,8]
  [(3,(.leaf 4611686018427387904)),(5,(.leaf ca)),(6,(.leaf cb)),(7,(.leaf da)),(8,(.leaf db)),(11,(.mul (.leaf 4611686018427387904) (.sub (.leaf da) (.leaf ca)))),(13,(.sub (.leaf db) (.leaf cb))),(15,(.mul (.leaf 4611686018427387904) (.sub (.leaf db) (.leaf cb))))] [⟨0,29,curC 2 ca cb cc,none⟩,⟨1,29,curC 2 da db dc,none⟩,⟨2,168,[.v (.pointer none),.v (.int .i64 0),.v (.pointer none),.v (.int .i64 0),.v (.pointer none),.v (.int .i64 0)],none⟩,⟨4,31,numC g 3,none⟩,⟨9,33,bY g 5 6,none⟩,⟨10,33,bY g 7 8,none⟩,⟨12,31,numC g 11,none⟩,⟨14,31,numC g 13,none⟩,⟨16,31,[.v (.pointer none),.v (.int .i64 0)],some (9,numC g 15)⟩]
  [0,0,0,0,0,1,0,1,0,0] [[],[],[1],[],[3],[1,2,3,4],[1,2,3,4,5],rgn 7,[],rgn 9] [(10,.w (.c (.ptr 4 0))),(12,.w (.c (.ptr 10 0))),(11,.w (.c (.ptr 9 0)))]
  [44,45,46,47,48,49,50,51,15,0] [b1,b2,b3,n4,b5,n6,n7,n8,n9,b10,b11,n14,b15] 10 (N+9) [true,true,true,true,true,false] [true,true,true,true,true,true,false] R7.out
  (fun b hM=>aA (aA (aA (aA (aA (aA (aA (aA (aA (aA aK
    (aF b 2 m3))
    (aB b))
    (aF b 2 m5))
    (aB b))
    (aF b 2 m4))
    (aJ b (sF hM m4 m2 rfl rfl rfl rfl rfl rfl)))
    (bS b m7))
    (aJ b (kE hM m0 m6 rfl rfl m7 rfl rfl rfl rfl rfl rfl rfl rfl)))
    (aT b m8))
    (bT b 2 m8)) ?_
 intro n16 b17 n18 b19 ν W8 hR;have R8:=hdd hR;clear hR R7;simp only[putL,bg4,bg7,fs0,fs1,fsn,dSw,dSt,dWc,dWa,dv,di,dp,ds',bg5,bg6,nuTn,nuT0,nuT1,nuU0,nuU1]
 go_upto_region 11 with fail
 refine Spec.go [numS g 3,numS g 5,.w (.c (.v (.pointer (some ⟨g,0,none⟩)))),.w (.agg ([.v (.int .i64 2),.v (.float .f64 da),.v (.float .f64 db),.v (.float .f64 dc)])),numS g 7,.w (.c (.v (.pointer (some ⟨g,0,none⟩)))),.w (.agg ([.v (.int .i64 2),.v (.float .f64 ca),.v (.float .f64 cb),.v (.float .f64 cc)])),numS g 8,numS g 9,.w (.agg ([.v (.pointer (some ⟨g,0,none⟩)),.id 3,.v (.pointer (some ⟨g,0,none⟩)),.id 5,.v (.pointer (some ⟨g,0,none⟩)),.id 9])),noS,.w (.c (.v Value.nilIface))] [4,7,8]
  [(3,(.mul (.leaf 4611686018427387904) (.sub (.leaf da) (.leaf ca)))),(5,(.mul (.leaf 4611686018427387904) (.sub (.leaf db) (.leaf cb)))),(7,(oP da db dc)),(8,(oP ca cb cc)),(9,(.sub (oP da db dc) (oP ca cb cc)))] [⟨0,29,curC 2 ca cb cc,none⟩,⟨1,29,curC 2 da db dc,none⟩,⟨2,168,[.v (.pointer none),.v (.int .i64 0),.v (.pointer none),.v (.int .i64 0),.v (.pointer none),.v (.int .i64 0)],some (10,[.v (.pointer (some ⟨g,0,none⟩)),.id 3,.v (.pointer (some ⟨g,0,none⟩)),.id 5,.v (.pointer (some ⟨g,0,none⟩)),.id 9])⟩,⟨4,31,numC g 3,none⟩,⟨6,31,numC g 5,none⟩]
  [0,0,0,0,7,0,0,7,1,0,0,0] [[],[],[],[],[2,3],[],[],[5,6],[2,3,4,5,6,7],rgn 9,rgn 10,[]] [(13,.w (.c (.ptr 4 0))),(14,.w (.c (.ptr 6 0))),(0,.w (.c (.v (.pointer (some ⟨g,0,none⟩))))),(5,.w (.c (.ptr 1 0))),(4,.w (.c (.ptr 0 0))),(6,.w (.c (.ptr 2 0)))]
  [52,53,54,55,56,57,58,59,60,61,0,8] [b1,b2,b3,n14,b15,n18,b19] 12 (N+24) [false,false,false,false,false,true,false] [true,true,true,false,false,false,true,false] R8.out
  (fun b hM=>aA (aA (aA (aA (aA (aA (aA (aA (aA (aA (aA (aA aK
    (aF b 2 m3))
    (aF b 2 m4))
    (aB b))
    (aF b 4 m1))
    (aJ b (c_fn (ix:=[]) (ts:=[7]) hM (fun ν=>zN (ca:=da) (cb:=db) (cc:=dc) ⟨h2.1.1,h2.1.2⟩ ⟨h2.2.1.1,h2.2.1.2⟩ ⟨h2.2.2.1.1,h2.2.2.1.2⟩))))
    (aB b))
    (aF b 4 m0))
    (aJ b (c_fn (ix:=[]) (ts:=[8]) hM (fun ν=>zN (ca:=ca) (cb:=cb) (cc:=cc) ⟨h1.1.1,h1.1.2⟩ ⟨h1.2.1.1,h1.2.1.2⟩ ⟨h1.2.2.1.1,h1.2.2.1.2⟩))))
    (aJ b (sF hM m2 m3 rfl rfl rfl rfl rfl rfl)))
    (aB b))
    (bT b 6 m2))
    (aB b)) ?_
 intro n20 n21 n22 ν W9 hR;replace hR:Run ⟨w,B,ns⟩ g (N+24) [((.mul (.leaf 4611686018427387904) (.sub (.leaf da) (.leaf ca))),n14),((.mul (.leaf 4611686018427387904) (.sub (.leaf db) (.leaf cb))),n18),((oP da db dc),n20),((oP ca cb cc),n21),((.sub (oP da db dc) (oP ca cb cc)),n22)] [(b1,.cells #[(.int .i64 2),(.float .f64 ca),(.float .f64 cb),(.float .f64 cc)] 29),(b2,.cells #[(.int .i64 2),(.float .f64 da),(.float .f64 db),(.float .f64 dc)] 29),(b3,.cells #[.pointer (some ⟨g,0,none⟩),.int .i64 ((n14:Nat):Int),.pointer (some ⟨g,0,none⟩),.int .i64 ((n18:Nat):Int),.pointer (some ⟨g,0,none⟩),.int .i64 ((n22:Nat):Int)] 168),(b15,numO g n14),(b19,numO g n18)] W9:=hR;have R9:=hdd hR;clear hR R8;simp only[putL,bg4,bg7,fs0,fs1,fsn,dSw,dSt,dWc,dWa,dv,di,dp,ds',bg5,bg6,nuTn,nuT0,nuT1,nuU0,nuU1];go_wp2;obtain⟨x0,x1,x2,x3,x4,x5⟩:=anM (R9.out.at m2);refine bodyPost_ret (v:=.tuple #[.agg #[_,_,_,_,_,_],.nilIface]) (by simp[results,Tryz.results109,go_sem,x0,x1,x2,x3,x4,x5];first|exact⟨rfl,rfl,rfl,rfl,rfl,rfl⟩|rfl) rfl ?_
 exact⟨[n14,n18,n22],rfl,rfl,_,R9.out.few (dH [0,1,4])⟩
theorem jP{su sv:Int}(h1:nI ca cb cc)(s1:∀w,Calls Tryz.prog 108 #[.float .f64 ca,.float .f64 0] w (RetV w (.int .i64 su)))(s2:∀w,Calls Tryz.prog 108 #[.float .f64 cb,.float .f64 0] w (RetV w (.int .i64 sv))):FnOk 83 g 3 #[.pointer (some ⟨g,0,none⟩),curV 1 ca cb cc] [] (fun ks=>.agg #[.pointer (some ⟨g,0,none⟩),.int .i64 ((ks.getD 0 0:Nat):Int),.pointer (some ⟨g,0,none⟩),.int .i64 ((ks.getD 1 0:Nat):Int),.pointer (some ⟨g,0,none⟩),.int .i64 ((ks.getD 2 0:Nat):Int),.int .i64 su,.int .i64 sv]) [.leaf ca,.leaf cb,.leaf cc]:=FnOk.of fun w B ns N hR hN=>by
 have R1:=hdd hR;clear hR;go_enter Tryz.func83,Tryz.ntmps83
 go_upto_region 0 with fail
 refine Spec.go [.w (.c (.ptr 0 0)),.w (.c (.ptr 1 0))] [0,1]
  [] [⟨0,29,curC 1 ca cb cc,none⟩,⟨1,129,[.v (.pointer none),.v (.int .i64 0),.v (.pointer none),.v (.int .i64 0),.v (.pointer none),.v (.int .i64 0),.v (.int .i64 0),.v (.int .i64 0)],none⟩]
  [0,0] [[],[]] [(1,.w (.agg ([.v (.int .i64 1),.v (.float .f64 ca),.v (.float .f64 cb),.v (.float .f64 cc)])))]
  [4,5] [] 2 N [] [] R1.out
  (fun b hM=>aA (aA aK
    (aT b m0))
    (aT b m1)) ?_
 intro b1 b2 ν W2 hR;have R2:=hdd hR;clear hR R1;simp only[putL,bg4,bg7,fs0,fs1,fsn,dSw,dSt,dWc,dWa,dv,di,dp,ds',bg5,bg6,nuTn,nuT0,nuT1,nuU0,nuU1]
 go_upto_region 1 with fail
 refine Spec.go [.w (.c (.v (.pointer (some ⟨g,0,none⟩)))),.w (.c (.ptr 0 1)),.w (.c (.v (.float .f64 ca))),numS g 2,.w (.c (.v (.pointer (some ⟨g,0,none⟩)))),.w (.c (.ptr 0 2)),.w (.c (.v (.float .f64 cb))),numS g 3,.w (.c (.v (.pointer (some ⟨g,0,none⟩)))),.w (.c (.ptr 0 3)),.w (.c (.v (.float .f64 cc))),numS g 4,.w (.c (.ptr 0 1)),.w (.c (.v (.float .f64 ca))),.w (.c (.v (.int .i64 su))),.w (.c (.ptr 0 2)),.w (.c (.v (.float .f64 cb))),.w (.c (.v (.int .i64 sv))),.w (.agg ([.v (.pointer (some ⟨g,0,none⟩)),.id 2,.v (.pointer (some ⟨g,0,none⟩)),.id 3,.v (.pointer (some ⟨g,0,none⟩)),.id 4,.v (.int .i64 su),.v (.int .i64 sv)])),noS] [3,7,11]
  [(2,(.leaf ca)),(3,(.leaf cb)),(4,(.leaf cc))] [⟨0,29,curC 1 ca cb cc,none⟩,⟨1,129,[.v (.pointer none),.v (.int .i64 0),.v (.pointer none),.v (.int .i64 0),.v (.pointer none),.v (.int .i64 0),.v (.int .i64 0),.v (.int .i64 0)],some (19,[.v (.pointer (some ⟨g,0,none⟩)),.id 2,.v (.pointer (some ⟨g,0,none⟩)),.id 3,.v (.pointer (some ⟨g,0,none⟩)),.id 4,.v (.int .i64 su),.v (.int .i64 sv)])⟩]
  [0,0,0,1,0,0,0,1,0,0,0,1,0,0,0,0,0,0,0,0] [[],[],[1],[0,1,2],[],[],[5],[4,5,6],[],[],[9],[8,9,10],[],[12],[12,13],[],[15],[15,16],rgn 18,rgn 19] [(0,.w (.c (.v (.pointer (some ⟨g,0,none⟩))))),(3,.w (.c (.ptr 0 0))),(4,.w (.c (.ptr 1 0)))]
  [6,7,8,9,10,11,12,13,14,15,16,17,18,19,20,21,22,23,24,0] [b1,b2] 20 (N+3) [] [] R2.out
  (fun b hM=>aA (aA (aA (aA (aA (aA (aA (aA (aA (aA (aA (aA (aA (aA (aA (aA (aA (aA (aA (aA aK
    (aB b))
    (aB b))
    (gP b m0))
    (aJ b (c_of hM h1.1.1 h1.1.2 rfl rfl rfl rfl)))
    (aB b))
    (aB b))
    (gP b m0))
    (aJ b (c_of hM h1.2.1.1 h1.2.1.2 rfl rfl rfl rfl)))
    (aB b))
    (aB b))
    (gP b m0))
    (aJ b (c_of hM h1.2.2.1.1 h1.2.2.1.2 rfl rfl rfl rfl)))
    (aB b))
    (gP b m0))
    (aJ b (oK hM rfl rfl rfl (fun w=>s1 w))))
    (aB b))
    (gP b m0))
    (aJ b (oK hM rfl rfl rfl (fun w=>s2 w))))
    (aB b))
    (bT b 8 m1)) ?_
 intro n3 n4 n5 ν W3 hR;replace hR:Run ⟨w,B,ns⟩ g (N+3) [((.leaf ca),n3),((.leaf cb),n4),((.leaf cc),n5)] [(b1,.cells #[(.int .i64 1),(.float .f64 ca),(.float .f64 cb),(.float .f64 cc)] 29),(b2,.cells #[.pointer (some ⟨g,0,none⟩),.int .i64 ((n3:Nat):Int),.pointer (some ⟨g,0,none⟩),.int .i64 ((n4:Nat):Int),.pointer (some ⟨g,0,none⟩),.int .i64 ((n5:Nat):Int),(.int .i64 su),(.int .i64 sv)] 129)] W3:=hR;have R3:=hdd hR;clear hR R2;simp only[putL,bg4,bg7,fs0,fs1,fsn,dSw,dSt,dWc,dWa,dv,di,dp,ds',bg5,bg6,nuTn,nuT0,nuT1,nuU0,nuU1];go_wp2;obtain⟨x0,x1,x2,x3,x4,x5,x6,x7⟩:=alH (R3.out.at m1);refine bodyPost_ret (v:=.agg #[_,_,_,_,_,_,_,_]) (by simp[results,Tryz.results83,go_sem,x0,x1,x2,x3,x4,x5,x6,x7];first|exact⟨rfl,rfl,rfl,rfl,rfl,rfl,rfl,rfl⟩|rfl) rfl ?_;exact⟨[n3,n4,n5],rfl,rfl,_,R3.out.few (dH [0,1,2])⟩
end Go.Proofs.YtjaafolhfihegaaGreatDoor
