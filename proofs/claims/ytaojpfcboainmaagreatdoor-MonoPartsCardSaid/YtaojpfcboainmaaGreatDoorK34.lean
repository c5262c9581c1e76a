/- A part of the proof: contracts of functions and plain laws (SnB, OpA, TwD, MwA, MtD, AlvE, LiB, LiC, FwA, FwB, LtA, GrA). -/
import Derived.Test.YtaojpfcboainmaaGreatDoorK33
import Derived.Test.YtaojpfcboainmaaGreatDoorK32
import Derived.IntWalk
import Derived.Test.YtaojpfcboainmaaGreatDoorK11
set_option linter.unusedVariables false
set_option linter.unusedSimpArgs false
set_option maxHeartbeats 25600000
set_option maxRecDepth 100000
namespace Go.Proofs.YtaojpfcboainmaaGreatDoor
open Go.RowKit Go.Maps
open List renaming setIfInBounds_toArray->bhZ,map_cons->bh0,map_nil->bh2,set->bh3
variable{r:Bool}{A1 A2 B1 B2 X X1 X2 Y:Ex}{ca cb cc g i j k l m n:Nat}
abbrev fQ(a b c:Nat)(x y:Ex):Ex:=.sub (.add (.mul (.sub x (.leaf a)) (.sub x (.leaf a))) (.mul (.sub y (.leaf b)) (.sub y (.leaf b)))) (.leaf c)
theorem alE(h1:lK ca cb cc):FnOk 49 g 9 #[.pointer (some ⟨g,0,none⟩),curV 2 ca cb cc,bY g i j] [(X,i),(Y,j)] (fun ks=>numV g (ks.getD 0 0)) [fQ ca cb cc X Y]:=FnOk.of fun w B ns N hR hN=>by
 have R1:=hdd hR;clear hR;go_enter Tryz.func49,Tryz.ntmps49
 go_upto_region 0 with fail
 refine Spec.go [.w (.c (.ptr 2 0)),.w (.c (.ptr 3 0)),.w (.c (.ptr 4 0))] [0,1,2]
  [(0,X),(1,Y)] [⟨2,33,curC 2 ca cb cc,none⟩,⟨3,37,aN g 0 1,none⟩,⟨4,35,[.v (.pointer none),.v (.int .i64 0)],none⟩]
  [0,0,0] [[],[],[]] [(1,.w (.agg ([.v (.int .i64 2),.v (.float .f64 ca),.v (.float .f64 cb),.v (.float .f64 cc)]))),(2,bJ g 0 1)]
  [5,6,7] [i,j] 3 N [] [] R1.out
  (fun b hM=>aA (aA (aA aL
    (aS b m0))
    (aS b m1))
    (aS b m2)) ?_
 intro b1 b2 b3 ν W2 hR;have R2:=hdd hR;clear hR R1;simp only[putL,bhZ,bh3,fs0,fs1,fsn,dSw,dSt,dWc,dWa,dv,di,dp,ds',bh0,bh2,nuTn,nuT0,nuT1,nuU0,nuU1]
 go_upto_region 1 with fail
 refine Spec.go [.w (.c (.ptr 3 0)),numS g 0,.w (.c (.v (.pointer (some ⟨g,0,none⟩)))),.w (.c (.ptr 2 1)),.w (.c (.v (.float .f64 ca))),numS g 5,numS g 6,.w (.c (.ptr 7 0)),noS] [5,6,7]
  [(0,X),(1,Y),(5,(.leaf ca)),(6,(.sub X (.leaf ca)))] [⟨2,33,curC 2 ca cb cc,none⟩,⟨3,37,aN g 0 1,none⟩,⟨4,35,[.v (.pointer none),.v (.int .i64 0)],none⟩,⟨7,35,[.v (.pointer none),.v (.int .i64 0)],some (8,numC g 6)⟩]
  [0,0,0,0,0,1,1,0,0] [[],[0],[],[],[3],[2,3,4],rgn 6,[],rgn 8] [(5,.w (.c (.ptr 3 0))),(0,.w (.c (.v (.pointer (some ⟨g,0,none⟩))))),(4,.w (.c (.ptr 2 0)))]
  [10,11,12,13,14,15,16,8,0] [i,j,b1,b2,b3] 9 (N+2) [] [] R2.out
  (fun b hM=>aA (aA (aA (aA (aA (aA (aA (aA (aA aL
    (aD b))
    (aK b 2 m1))
    (aD b))
    (aD b))
    (kW b m0))
    (bF b (c_of hM h1.1.1 h1.1.2 rfl rfl rfl rfl)))
    (bF b (rC hM m0 m2 rfl rfl rfl rfl rfl rfl)))
    (aS b m3))
    (dM b 2 m3)) ?_
 intro n4 n5 b6 ν W3 hR;have R3:=hdd hR;clear hR R2;simp only[putL,bhZ,bh3,fs0,fs1,fsn,dSw,dSt,dWc,dWa,dv,di,dp,ds',bh0,bh2,nuTn,nuT0,nuT1,nuU0,nuU1]
 go_upto_region 2 with fail
 refine Spec.go [.w (.c (.ptr 3 2)),numS g 1,.w (.c (.v (.pointer (some ⟨g,0,none⟩)))),.w (.c (.ptr 2 2)),.w (.c (.v (.float .f64 cb))),numS g 7,numS g 8,.w (.c (.ptr 9 0)),noS] [5,6,7]
  [(0,X),(1,Y),(5,(.sub X (.leaf ca))),(7,(.leaf cb)),(8,(.sub Y (.leaf cb)))] [⟨2,33,curC 2 ca cb cc,none⟩,⟨3,37,aN g 0 1,none⟩,⟨4,35,[.v (.pointer none),.v (.int .i64 0)],none⟩,⟨6,35,numC g 5,none⟩,⟨9,35,[.v (.pointer none),.v (.int .i64 0)],some (8,numC g 8)⟩]
  [0,0,0,0,0,1,1,0,0] [[],[0],[],[],[3],[2,3,4],rgn 6,[],rgn 8] [(5,.w (.c (.ptr 3 0))),(0,.w (.c (.v (.pointer (some ⟨g,0,none⟩))))),(4,.w (.c (.ptr 2 0)))]
  [17,18,19,20,21,22,23,9,0] [i,j,b1,b2,b3,n5,b6] 9 (N+4) [true,true,false] [] R3.out
  (fun b hM=>aA (aA (aA (aA (aA (aA (aA (aA (aA aL
    (aD b))
    (aK b 2 m1))
    (aD b))
    (aD b))
    (kW b m0))
    (bF b (c_of hM h1.2.1.1 h1.2.1.2 rfl rfl rfl rfl)))
    (bF b (rC hM m1 m3 rfl rfl rfl rfl rfl rfl)))
    (aS b m4))
    (dM b 2 m4)) ?_
 intro n7 n8 b9 ν W4 hR;have R4:=hdd hR;clear hR R3;simp only[putL,bhZ,bh3,fs0,fs1,fsn,dSw,dSt,dWc,dWa,dv,di,dp,ds',bh0,bh2,nuTn,nuT0,nuT1,nuU0,nuU1]
 go_upto_region 3 with fail
 refine Spec.go [numS g 2,numS g 2,.w (.c (.sl 6 1)),numS g 7,numS g 4,numS g 4,.w (.c (.sl 8 1)),numS g 9,.w (.c (.sl 10 1)),numS g 11,.w (.c (.v (.pointer (some ⟨g,0,none⟩)))),.w (.c (.ptr 0 3)),.w (.c (.v (.float .f64 cc))),numS g 12,numS g 13,noS] [2,3,6,7,8,9,13,14]
  [(2,(.sub X (.leaf ca))),(4,(.sub Y (.leaf cb))),(7,(.mul (.sub X (.leaf ca)) (.sub X (.leaf ca)))),(9,(.mul (.sub Y (.leaf cb)) (.sub Y (.leaf cb)))),(11,(.add (.mul (.sub X (.leaf ca)) (.sub X (.leaf ca))) (.mul (.sub Y (.leaf cb)) (.sub Y (.leaf cb))))),(12,(.leaf cc)),(13,(.sub (.add (.mul (.sub X (.leaf ca)) (.sub X (.leaf ca))) (.mul (.sub Y (.leaf cb)) (.sub Y (.leaf cb)))) (.leaf cc)))] [⟨0,33,curC 2 ca cb cc,none⟩,⟨1,35,[.v (.pointer none),.v (.int .i64 0)],some (15,numC g 13)⟩,⟨3,35,numC g 2,none⟩,⟨5,35,numC g 4,none⟩,⟨6,35,numC g 2,none⟩,⟨8,35,numC g 4,none⟩,⟨10,35,numC g 9,none⟩]
  [0,0,0,1,0,0,0,1,0,1,0,0,0,1,1,0] [[],[],[1],[0,1,2],[],[],[5],[4,5,6],[4,5,6,7],rgn 9,[],[],[11],[10,11,12],rgn 14,rgn 15] [(7,.w (.c (.ptr 3 0))),(8,.w (.c (.ptr 5 0))),(0,.w (.c (.v (.pointer (some ⟨g,0,none⟩))))),(4,.w (.c (.ptr 0 0))),(6,.w (.c (.ptr 1 0)))]
  [24,25,26,27,28,29,30,31,32,33,34,35,36,37,38,0] [b1,b3,n5,b6,n8,b9] 16 (N+9) [false,false,true,false] [true,false] R4.out
  (fun b hM=>aA (aA (aA (aA (aA (aA (aA (aA (aA (aA (aA (aA (aA (aA (aA (aA aL
    (aK b 2 m2))
    (aK b 2 m2))
    (oP b m4))
    (bF b (afG hM m0 m0 rfl rfl m4 rfl rfl rfl rfl rfl rfl rfl rfl)))
    (aK b 2 m3))
    (aK b 2 m3))
    (oP b m5))
    (bF b (afG hM m1 m1 rfl rfl m5 rfl rfl rfl rfl rfl rfl rfl rfl)))
    (oP b m6))
    (bF b (anY hM m2 m3 rfl rfl m6 rfl rfl rfl rfl rfl rfl rfl rfl)))
    (aD b))
    (aD b))
    (kW b m0))
    (bF b (c_of hM h1.2.2.1.1 h1.2.2.1.2 rfl rfl rfl rfl)))
    (bF b (rC hM m4 m5 rfl rfl rfl rfl rfl rfl)))
    (dM b 2 m1)) ?_
 intro b10 n11 b12 n13 b14 n15 n16 n17 ν W5 hR;replace hR:Run ⟨w,B,ns⟩ g (N+9) [((.sub X (.leaf ca)),n5),((.sub Y (.leaf cb)),n8),((.mul (.sub X (.leaf ca)) (.sub X (.leaf ca))),n11),((.mul (.sub Y (.leaf cb)) (.sub Y (.leaf cb))),n13),((.add (.mul (.sub X (.leaf ca)) (.sub X (.leaf ca))) (.mul (.sub Y (.leaf cb)) (.sub Y (.leaf cb)))),n15),((.leaf cc),n16),((.sub (.add (.mul (.sub X (.leaf ca)) (.sub X (.leaf ca))) (.mul (.sub Y (.leaf cb)) (.sub Y (.leaf cb)))) (.leaf cc)),n17)] [(b1,.cells #[(.int .i64 2),(.float .f64 ca),(.float .f64 cb),(.float .f64 cc)] 33),(b3,numO g n17),(b6,numO g n5),(b9,numO g n8),(b10,numO g n5),(b12,numO g n8),(b14,numO g n13)] W5:=hR;have R5:=hdd hR;clear hR R4;simp only[putL,bhZ,bh3,fs0,fs1,fsn,dSw,dSt,dWc,dWa,dv,di,dp,ds',bh0,bh2,nuTn,nuT0,nuT1,nuU0,nuU1];go_wp2;obtain⟨x0,x1,-,-⟩:=aF (R5.out.at m1);refine bodyPost_ret (v:=.agg #[_,_]) (by simp[results,Tryz.results49,go_sem,x0,x1];first|exact⟨rfl,rfl⟩|rfl) rfl ?_
 exact⟨[n17],rfl,rfl,_,R5.out.few (gF [6])⟩
theorem alF{q:Int}(h1:lK ca cb cc)(s3:dQ PT (fQ ca cb cc X Y) q):FnOk 27 g 9 #[.pointer (some ⟨g,0,none⟩),curV 2 ca cb cc,bY g i j] [(X,i),(Y,j)] (fun ks=>.tuple #[.int .i64 q,.nilIface]) []:=FnOk.of fun w B ns N hR hN=>by
 have R1:=hdd hR;clear hR;go_enter Tryz.func27,Tryz.ntmps27
 go_upto_region 0 with fail
 refine Spec.go [.w (.c (.ptr 2 0)),.w (.c (.ptr 3 0)),.w (.c (.v (Value.int IntKind.i64 0))),.w (.c (.v Value.nilIface))] [0,1]
  [(0,X),(1,Y)] [⟨2,33,curC 2 ca cb cc,none⟩,⟨3,37,aN g 0 1,none⟩]
  [0,0,0,0] [[],[],[],[]] [(1,.w (.agg ([.v (.int .i64 2),.v (.float .f64 ca),.v (.float .f64 cb),.v (.float .f64 cc)]))),(2,bJ g 0 1)]
  [5,6,7,8] [i,j] 4 N [] [] R1.out
  (fun b hM=>aA (aA (aA (aA aL
    (aS b m0))
    (aS b m1))
    (aD b))
    (aD b)) ?_
 intro b1 b2 ν W2 hR;have R2:=hdd hR;clear hR R1;simp only[putL,bhZ,bh3,fs0,fs1,fsn,dSw,dSt,dWc,dWa,dv,di,dp,ds',bh0,bh2,nuTn,nuT0,nuT1,nuU0,nuU1,dA12,dP8,dP24]
 go_upto_region 1 with fail
 refine Spec.go [.w (.agg ([.v (.int .i64 2),.v (.float .f64 ca),.v (.float .f64 cb),.v (.float .f64 cc)])),.w (.c (.v .nilIface)),.w (.c (.v .nilIface))] []
  [(0,X),(1,Y)] [⟨2,33,curC 2 ca cb cc,none⟩,⟨3,37,aN g 0 1,none⟩]
  [0,0,0] [[],[0],[0,1]] [(4,.w (.c (.ptr 2 0)))]
  [10,11,9] [i,j,b1,b2] 3 N [] [] R2.out
  (fun b hM=>aA (aA (aA aL
    (aK b 4 m0))
    (bF b (ad7 hM rfl rfl rfl (fun w=>yZ h1))))
    (aD b)) ?_
 intro ν W3 hR;replace hR:Run ⟨w,B,ns⟩ g N [(X,i),(Y,j)] [(b1,.cells #[(.int .i64 2),(.float .f64 ca),(.float .f64 cb),(.float .f64 cc)] 33),(b2,aQ g i j)] W3:=hR;have R3:=hdd hR;clear hR R2;simp only[putL,bhZ,bh3,fs0,fs1,fsn,dSw,dSt,dWc,dWa,dv,di,dp,ds',bh0,bh2,nuTn,nuT0,nuT1,nuU0,nuU1,dA12,dP8,dP24];have k0:=aB (k:=0) (v:=.int .i64 2) (R3.out.at m0) rfl
 go_upto_region 6 with fail
 clear k0;refine Spec.go [.w (.c (.v (.pointer (some ⟨g,0,none⟩)))),.w (.agg ([.v (.int .i64 2),.v (.float .f64 ca),.v (.float .f64 cb),.v (.float .f64 cc)])),bJ g 0 1,numS g 4,.tup [.c (.v (.int .i64 q)),.c (.v .nilIface)],.w (.c (.v (.int .i64 q))),.w (.c (.v .nilIface)),.w (.c (.v (.int .i64 q))),.w (.c (.v .nilIface))] [3]
  [(0,X),(1,Y),(4,(fQ ca cb cc X Y))] [⟨2,33,curC 2 ca cb cc,none⟩,⟨3,37,aN g 0 1,none⟩]
  [0,0,0,9,0,0,0,0,0] [[],[],[],[0,1,2],rgn 4,rgn 5,rgn 5,rgn 6,[0,1,2,3,4,6]] [(0,.w (.c (.v (.pointer (some ⟨g,0,none⟩))))),(4,.w (.c (.ptr 2 0))),(5,.w (.c (.ptr 3 0)))]
  [25,26,27,28,29,30,31,7,8] [i,j,b1,b2] 9 (N+9) [] [] R3.out
  (fun b hM=>aA (aA (aA (aA (aA (aA (aA (aA (aA aL
    (aD b))
    (aK b 4 m0))
    (aK b 4 m1))
    (bF b (c_fn (ix:=[0,1]) (ts:=[4]) hM (fun ν=>alE h1))))
    (bF b (ak6 hM m2 rfl rfl rfl rfl s3)))
    (aD b))
    (aD b))
    (aD b))
    (aD b)) ?_
 intro n3 ν W4 hR;replace hR:Run ⟨w,B,ns⟩ g (N+9) [(X,i),(Y,j),((fQ ca cb cc X Y),n3)] [(b1,.cells #[(.int .i64 2),(.float .f64 ca),(.float .f64 cb),(.float .f64 cc)] 33),(b2,aQ g i j)] W4:=hR;have R4:=hdd hR;clear hR R3;simp only[putL,bhZ,bh3,fs0,fs1,fsn,dSw,dSt,dWc,dWa,dv,di,dp,ds',bh0,bh2,nuTn,nuT0,nuT1,nuU0,nuU1,dA12,dP8,dP24];have HF:Hid (lU w B ns g (N+9) (fun _=>.tuple #[.int .i64 q,.nilIface]) [] (.returned (.tuple #[.int .i64 q,.nilIface])) W4):=hdd ⟨[],rfl,rfl,_,(R4.out.more (by omega)).few (gF [])⟩;clear R4;go_wp2
 go_ret2
 exact HF.out
theorem xD(h1:lK ca cb cc)(h0:(FloatKind.f64.format.order cc 0==some Ordering.eq)=false)(s1:dQ PT (fQ ca cb cc A1 A2) 0)(s2:dQ PT (fQ ca cb cc B1 B2) 0):FnOk 13 g 18 #[.pointer (some ⟨g,0,none⟩),arcV g ca cb cc i j k l] [(A1,i),(A2,j),(B1,k),(B2,l)] (fun ks=>.nilIface) []:=FnOk.of fun w B ns N hR hN=>by
 have R1:=hdd hR;clear hR;go_enter Tryz.func13,Tryz.ntmps13
 go_upto_region 0 with fail
 refine Spec.go [.w (.c (.ptr 4 0)),.w (.c (.v Value.nilIface))] [0]
  [(0,A1),(1,A2),(2,B1),(3,B2)] [⟨4,39,(arcC g ca cb cc 0 1 2 3),none⟩]
  [0,0] [[],[]] [(1,.w (.agg ((arcC g ca cb cc 0 1 2 3))))]
  [4,5] [i,j,k,l] 2 N [] [] R1.out
  (fun b hM=>aA (aA aL
    (aS b m0))
    (aD b)) ?_
 intro b1 ν W2 hR;have R2:=hdd hR;clear hR R1;simp only[putL,bhZ,bh3,fs0,fs1,fsn,dSw,dSt,dWc,dWa,dv,di,dp,ds',bh0,bh2,nuTn,nuT0,nuT1,nuU0,nuU1,dA12,dP8,dP24]
 go_upto_region 1 with fail
 refine Spec.go [.w (.c (.ptr 4 0)),.w (.agg ([.v (.int .i64 2),.v (.float .f64 ca),.v (.float .f64 cb),.v (.float .f64 cc)])),.w (.c (.v .nilIface)),.w (.c (.v .nilIface))] []
  [(0,A1),(1,A2),(2,B1),(3,B2)] [⟨4,39,(arcC g ca cb cc 0 1 2 3),none⟩]
  [0,0,0,0] [[],[0],[0,1],[0,1,2]] [(3,.w (.c (.ptr 4 0)))]
  [13,14,15,6] [i,j,k,l,b1] 4 N [] [] R2.out
  (fun b hM=>aA (aA (aA (aA aL
    (aD b))
    (aK b 4 m0))
    (bF b (ad7 hM rfl rfl rfl (fun w=>yZ h1))))
    (aD b)) ?_
 intro ν W3 hR;have R3:=hdd hR;clear hR R2;simp only[putL,bhZ,bh3,fs0,fs1,fsn,dSw,dSt,dWc,dWa,dv,di,dp,ds',bh0,bh2,nuTn,nuT0,nuT1,nuU0,nuU1,dA12,dP8,dP24]
 go_upto_region 4 with fail
 refine Spec.go [.w (.c (.ptr 4 4)),bJ g 0 1,.w (.c (.ptr 4 8)),bJ g 2 3,.w (.agg ((dI g 0 1 2 3))),.w (.c (.v (Value.int IntKind.i64 0)))] []
  [(0,A1),(1,A2),(2,B1),(3,B2)] [⟨4,39,(arcC g ca cb cc 0 1 2 3),none⟩]
  [0,0,0,0,0,0] [[],[0],[],[2],rgn 4,[]] [(3,.w (.c (.ptr 4 0)))]
  [20,21,22,23,24,25] [i,j,k,l,b1] 6 N [] [] R3.out
  (fun b hM=>aA (aA (aA (aA (aA (aA aL
    (aD b))
    (aK b 4 m0))
    (aD b))
    (aK b 4 m0))
    (aD b))
    (aD b)) ?_
 intro ν W4 hR;have R4:=hdd hR;clear hR R3;simp only[putL,bhZ,bh3,fs0,fs1,fsn,dSw,dSt,dWc,dWa,dv,di,dp,ds',bh0,bh2,nuTn,nuT0,nuT1,nuU0,nuU1,dA12,dP8,dP24];go_wp2_with fail
 refine wp_loop_rounds 3 ?_;rw[rounds_succ]
 go_upto_region 6 with fail
 refine Spec.go [bJ g 0 1,.w (.c (.ptr 5 0)),noS] [1]
  [(0,A1),(1,A2),(2,B1),(3,B2)] [⟨4,39,(arcC g ca cb cc 0 1 2 3),none⟩,⟨5,37,[.v (.pointer none),.v (.int .i64 0),.v (.pointer none),.v (.int .i64 0)],some (2,aN g 0 1)⟩]
  [0,0,0] [[],[],[0,1]] [(23,.w (.agg ((dI g 0 1 2 3)))),(24,.w (.c (.v (.int .i64 0))))]
  [27,8,0] [i,j,k,l,b1] 3 N [] [] R4.out
  (fun b hM=>aA (aA (aA aL
    (aD b))
    (aS b m1))
    (dM b 4 m1)) ?_
 intro b2 ν W5 hR;have R5:=hdd hR;clear hR R4;simp only[putL,bhZ,bh3,fs0,fs1,fsn,dSw,dSt,dWc,dWa,dv,di,dp,ds',bh0,bh2,nuTn,nuT0,nuT1,nuU0,nuU1,dA12,dP8,dP24]
 go_upto_region 7 with fail
 refine Spec.go [.w (.c (.v (.pointer (some ⟨g,0,none⟩)))),.w (.c (.ptr 4 0)),.w (.agg ([.v (.int .i64 2),.v (.float .f64 ca),.v (.float .f64 cb),.v (.float .f64 cc)])),bJ g 0 1,.tup [.c (.v (.int .i64 0)),.c (.v .nilIface)],.tup [.c (.v (.int .i64 0)),.c (.v .nilIface)],.w (.c (.v (.int .i64 0))),.w (.c (.v .nilIface)),.w (.c (.v (.int .i64 0))),.w (.c (.v .nilIface))] []
  [(0,A1),(1,A2),(2,B1),(3,B2)] [⟨4,39,(arcC g ca cb cc 0 1 2 3),none⟩,⟨5,37,aN g 0 1,none⟩]
  [0,0,0,0,9,0,0,0,0,0] [[],[],[1],[],rgn 4,rgn 5,rgn 6,rgn 6,rgn 7,[0,1,2,3,4,5,7]] [(0,.w (.c (.v (.pointer (some ⟨g,0,none⟩))))),(3,.w (.c (.ptr 4 0))),(7,.w (.c (.ptr 5 0)))]
  [29,30,31,32,33,28,34,35,9,10] [i,j,k,l,b1,b2] 10 (N+9) [] [] R5.out
  (fun b hM=>aA (aA (aA (aA (aA (aA (aA (aA (aA (aA aL
    (aD b))
    (aD b))
    (aK b 4 m0))
    (aK b 4 m1))
    (bF b (c_fn (ix:=[0,1]) (ts:=[]) hM (fun ν=>alF h1 s1))))
    (aD b))
    (aD b))
    (aD b))
    (aD b))
    (aD b)) ?_
 intro ν W6 hR;have R6:=hdd hR;clear hR R5;simp only[putL,bhZ,bh3,fs0,fs1,fsn,dSw,dSt,dWc,dWa,dv,di,dp,ds',bh0,bh2,nuTn,nuT0,nuT1,nuU0,nuU1,dA12,dP8,dP24];go_wp2_with fail
 rw[rounds_succ]
 go_upto_region 6 with fail
 refine Spec.go [bJ g 2 3,.w (.c (.ptr 6 0)),noS] [1]
  [(0,A1),(1,A2),(2,B1),(3,B2)] [⟨4,39,(arcC g ca cb cc 0 1 2 3),none⟩,⟨5,37,aN g 0 1,none⟩,⟨6,37,[.v (.pointer none),.v (.int .i64 0),.v (.pointer none),.v (.int .i64 0)],some (2,aN g 2 3)⟩]
  [0,0,0] [[],[],[0,1]] [(23,.w (.agg ((dI g 0 1 2 3)))),(24,.w (.c (.v (.int .i64 1))))]
  [27,8,0] [i,j,k,l,b1,b2] 3 (N+9) [] [] R6.out
  (fun b hM=>aA (aA (aA aL
    (aD b))
    (aS b m2))
    (dM b 4 m2)) ?_
 intro b3 ν W7 hR;have R7:=hdd hR;clear hR R6;simp only[putL,bhZ,bh3,fs0,fs1,fsn,dSw,dSt,dWc,dWa,dv,di,dp,ds',bh0,bh2,nuTn,nuT0,nuT1,nuU0,nuU1,dA12,dP8,dP24]
 go_upto_region 7 with fail
 refine Spec.go [.w (.c (.v (.pointer (some ⟨g,0,none⟩)))),.w (.c (.ptr 4 0)),.w (.agg ([.v (.int .i64 2),.v (.float .f64 ca),.v (.float .f64 cb),.v (.float .f64 cc)])),bJ g 2 3,.tup [.c (.v (.int .i64 0)),.c (.v .nilIface)],.tup [.c (.v (.int .i64 0)),.c (.v .nilIface)],.w (.c (.v (.int .i64 0))),.w (.c (.v .nilIface)),.w (.c (.v (.int .i64 0))),.w (.c (.v .nilIface))] []
  [(0,A1),(1,A2),(2,B1),(3,B2)] [⟨4,39,(arcC g ca cb cc 0 1 2 3),none⟩,⟨5,37,aN g 2 3,none⟩]
  [0,0,0,0,9,0,0,0,0,0] [[],[],[1],[],rgn 4,rgn 5,rgn 6,rgn 6,rgn 7,[0,1,2,3,4,5,7]] [(0,.w (.c (.v (.pointer (some ⟨g,0,none⟩))))),(3,.w (.c (.ptr 4 0))),(7,.w (.c (.ptr 5 0)))]
  [29,30,31,32,33,28,34,35,9,10] [i,j,k,l,b1,b3] 10 (N+18) [] [true,false] R7.out
  (fun b hM=>aA (aA (aA (aA (aA (aA (aA (aA (aA (aA aL
    (aD b))
    (aD b))
    (aK b 4 m0))
    (aK b 4 m1))
    (bF b (c_fn (ix:=[2,3]) (ts:=[]) hM (fun ν=>alF h1 s2))))
    (aD b))
    (aD b))
    (aD b))
    (aD b))
    (aD b)) ?_
 intro ν W8 hR;replace hR:Run ⟨w,B,ns⟩ g (N+18) [(A1,i),(A2,j),(B1,k),(B2,l)] [(b1,.cells #[(.int .i64 2),(.float .f64 ca),(.float .f64 cb),(.float .f64 cc),.pointer (some ⟨g,0,none⟩),.int .i64 ((i:Nat):Int),.pointer (some ⟨g,0,none⟩),.int .i64 ((j:Nat):Int),.pointer (some ⟨g,0,none⟩),.int .i64 ((k:Nat):Int),.pointer (some ⟨g,0,none⟩),.int .i64 ((l:Nat):Int)] 39),(b3,aQ g k l)] W8:=hR;have R8:=hdd hR;clear hR R7;simp only[putL,bhZ,bh3,fs0,fs1,fsn,dSw,dSt,dWc,dWa,dv,di,dp,ds',bh0,bh2,nuTn,nuT0,nuT1,nuU0,nuU1,dA12,dP8,dP24];go_wp2_with fail
 rw[rounds_succ];have k0:=aB (k:=0) (v:=.int .i64 2) (R8.out.at m0) rfl;have k3:=aB (k:=3) (v:=.float .f64 cc) (R8.out.at m0) rfl;have HF:Hid (lU w B ns g (N+18) (fun _=>.nilIface) [] (.returned (.nilIface)) W8):=hdd ⟨[],rfl,rfl,_,(R8.out.more (by omega)).few (gF [])⟩;clear R8;go_wp2;go_ret;exact HF.out
theorem ao7(h1:lK ca cb cc)(s3:dQ PT (fQ ca cb cc X1 X2) 0)(hw:tC A1 A2 B1 B2 X1 X2 r):FnOk 24 g 22 #[.pointer (some ⟨g,0,none⟩),arcV g ca cb cc i j k l,bY g m n] [(A1,i),(A2,j),(B1,k),(B2,l),(X1,m),(X2,n)] (fun ks=>.tuple #[.bool r,.nilIface]) []:=FnOk.of fun w B ns N hR hN=>by
 have R1:=hdd hR;clear hR;go_enter Tryz.func24,Tryz.ntmps24
 go_upto_region 0 with fail
 refine Spec.go [.w (.c (.ptr 6 0)),.w (.c (.ptr 7 0)),.w (.c (.v (Value.bool false))),.w (.c (.v Value.nilIface))] [0,1]
  [(0,A1),(1,A2),(2,B1),(3,B2),(4,X1),(5,X2)] [⟨6,39,(arcC g ca cb cc 0 1 2 3),none⟩,⟨7,37,aN g 4 5,none⟩]
  [0,0,0,0] [[],[],[],[]] [(1,.w (.agg ((arcC g ca cb cc 0 1 2 3)))),(2,bJ g 4 5)]
  [5,6,7,8] [i,j,k,l,m,n] 4 N [] [] R1.out
  (fun b hM=>aA (aA (aA (aA aL
    (aS b m0))
    (aS b m1))
    (aD b))
    (aD b)) ?_
 intro b1 b2 ν W2 hR;have R2:=hdd hR;clear hR R1;simp only[putL,bhZ,bh3,fs0,fs1,fsn,dSw,dSt,dWc,dWa,dv,di,dp,ds',bh0,bh2,nuTn,nuT0,nuT1,nuU0,nuU1,dA12,dP8,dP24]
 go_upto_region 1 with fail
 refine Spec.go [.w (.c (.v (.pointer (some ⟨g,0,none⟩)))),.w (.c (.ptr 6 0)),.w (.agg ([.v (.int .i64 2),.v (.float .f64 ca),.v (.float .f64 cb),.v (.float .f64 cc)])),bJ g 4 5,.tup [.c (.v (.int .i64 0)),.c (.v .nilIface)],.tup [.c (.v (.int .i64 0)),.c (.v .nilIface)],.w (.c (.v (.int .i64 0))),.w (.c (.v .nilIface)),.w (.c (.v (.int .i64 0))),.w (.c (.v .nilIface))] []
  [(0,A1),(1,A2),(2,B1),(3,B2),(4,X1),(5,X2)] [⟨6,39,(arcC g ca cb cc 0 1 2 3),none⟩,⟨7,37,aN g 4 5,none⟩]
  [0,0,0,0,9,0,0,0,0,0] [[],[],[1],[],rgn 4,rgn 5,rgn 6,rgn 6,rgn 7,[0,1,2,3,4,5,7]] [(0,.w (.c (.v (.pointer (some ⟨g,0,none⟩))))),(4,.w (.c (.ptr 6 0))),(5,.w (.c (.ptr 7 0)))]
  [12,13,14,15,16,11,17,18,9,10] [i,j,k,l,m,n,b1,b2] 10 (N+9) [] [] R2.out
  (fun b hM=>aA (aA (aA (aA (aA (aA (aA (aA (aA (aA aL
    (aD b))
    (aD b))
    (aK b 4 m0))
    (aK b 4 m1))
    (bF b (c_fn (ix:=[4,5]) (ts:=[]) hM (fun ν=>alF h1 s3))))
    (aD b))
    (aD b))
    (aD b))
    (aD b))
    (aD b)) ?_
 intro ν W3 hR;replace hR:Run ⟨w,B,ns⟩ g (N+9) [(A1,i),(A2,j),(B1,k),(B2,l),(X1,m),(X2,n)] [(b1,.cells #[(.int .i64 2),(.float .f64 ca),(.float .f64 cb),(.float .f64 cc),.pointer (some ⟨g,0,none⟩),.int .i64 ((i:Nat):Int),.pointer (some ⟨g,0,none⟩),.int .i64 ((j:Nat):Int),.pointer (some ⟨g,0,none⟩),.int .i64 ((k:Nat):Int),.pointer (some ⟨g,0,none⟩),.int .i64 ((l:Nat):Int)] 39),(b2,aQ g m n)] W3:=hR;have R3:=hdd hR;clear hR R2;simp only[putL,bhZ,bh3,fs0,fs1,fsn,dSw,dSt,dWc,dWa,dv,di,dp,ds',bh0,bh2,nuTn,nuT0,nuT1,nuU0,nuU1,dA12,dP8,dP24];have k0:=aB (k:=0) (v:=.int .i64 2) (R3.out.at m0) rfl
 go_upto_region 6 with fail
 clear k0;refine Spec.go [.w (.c (.ptr 6 4)),bJ g 0 1,.w (.c (.ptr 6 8)),bJ g 2 3,bJ g 4 5,.tup [.c (.v (.bool r)),.c (.v .nilIface)],.w (.c (.v (.bool r))),.w (.c (.v .nilIface)),.w (.c (.v (.bool r))),.w (.c (.v .nilIface))] []
  [(0,A1),(1,A2),(2,B1),(3,B2),(4,X1),(5,X2)] [⟨6,39,(arcC g ca cb cc 0 1 2 3),none⟩,⟨7,37,aN g 4 5,none⟩]
  [0,0,0,0,0,13,0,0,0,0] [[],[0],[],[2],[],rgn 5,rgn 6,rgn 6,rgn 7,[0,1,2,3,4,5,7]] [(4,.w (.c (.ptr 6 0))),(5,.w (.c (.ptr 7 0)))]
  [38,39,40,41,42,43,44,45,7,8] [i,j,k,l,m,n,b1,b2] 10 (N+22) [] [] R3.out
  (fun b hM=>aA (aA (aA (aA (aA (aA (aA (aA (aA (aA aL
    (aD b))
    (aK b 4 m0))
    (aD b))
    (aK b 4 m0))
    (aK b 4 m1))
    (bF b (c_fn (ix:=[0,1,2,3,4,5]) (ts:=[]) hM (fun ν=>acS hw))))
    (aD b))
    (aD b))
    (aD b))
    (aD b)) ?_
 intro ν W4 hR;replace hR:Run ⟨w,B,ns⟩ g (N+22) [(A1,i),(A2,j),(B1,k),(B2,l),(X1,m),(X2,n)] [(b1,.cells #[(.int .i64 2),(.float .f64 ca),(.float .f64 cb),(.float .f64 cc),.pointer (some ⟨g,0,none⟩),.int .i64 ((i:Nat):Int),.pointer (some ⟨g,0,none⟩),.int .i64 ((j:Nat):Int),.pointer (some ⟨g,0,none⟩),.int .i64 ((k:Nat):Int),.pointer (some ⟨g,0,none⟩),.int .i64 ((l:Nat):Int)] 39),(b2,aQ g m n)] W4:=hR;have R4:=hdd hR;clear hR R3;simp only[putL,bhZ,bh3,fs0,fs1,fsn,dSw,dSt,dWc,dWa,dv,di,dp,ds',bh0,bh2,nuTn,nuT0,nuT1,nuU0,nuU1,dA12,dP8,dP24];have HF:Hid (lU w B ns g (N+22) (fun _=>.tuple #[.bool r,.nilIface]) [] (.returned (.tuple #[.bool r,.nilIface])) W4):=hdd ⟨[],rfl,rfl,_,(R4.out.more (by omega)).few (gF [])⟩;clear R4;go_wp2
 go_ret2
 exact HF.out
theorem aaP(h1:lK ca cb cc)(h0:(FloatKind.f64.format.order cc 0==some Ordering.eq)=false)(s1:dQ PT (fQ ca cb cc A1 A2) 0)(s2:dQ PT (fQ ca cb cc B1 B2) 0)(s3:dQ PT (fQ ca cb cc X1 X2) 0)(hw:tC A1 A2 B1 B2 X1 X2 r):FnOk 12 g 40 #[.pointer (some ⟨g,0,none⟩),arcV g ca cb cc i j k l,bY g m n] [(A1,i),(A2,j),(B1,k),(B2,l),(X1,m),(X2,n)] (fun ks=>.tuple #[.bool r,.nilIface]) []:=FnOk.of fun w B ns N hR hN=>by
 have R1:=hdd hR;clear hR;go_enter Tryz.func12,Tryz.ntmps12
 go_upto_region 0 with fail
 refine Spec.go [.w (.c (.ptr 6 0)),.w (.c (.ptr 7 0)),.w (.c (.v (Value.bool false))),.w (.c (.v Value.nilIface))] [0,1]
  [(0,A1),(1,A2),(2,B1),(3,B2),(4,X1),(5,X2)] [⟨6,39,(arcC g ca cb cc 0 1 2 3),none⟩,⟨7,37,aN g 4 5,none⟩]
  [0,0,0,0] [[],[],[],[]] [(1,.w (.agg ((arcC g ca cb cc 0 1 2 3)))),(2,bJ g 4 5)]
  [5,6,7,8] [i,j,k,l,m,n] 4 N [] [] R1.out
  (fun b hM=>aA (aA (aA (aA aL
    (aS b m0))
    (aS b m1))
    (aD b))
    (aD b)) ?_
 intro b1 b2 ν W2 hR;have R2:=hdd hR;clear hR R1;simp only[putL,bhZ,bh3,fs0,fs1,fsn,dSw,dSt,dWc,dWa,dv,di,dp,ds',bh0,bh2,nuTn,nuT0,nuT1,nuU0,nuU1,dA12,dP8,dP24]
 go_upto_region 1 with fail
 refine Spec.go [.w (.c (.v (.pointer (some ⟨g,0,none⟩)))),.w (.agg ((arcC g ca cb cc 0 1 2 3))),.w (.c (.v .nilIface)),.w (.c (.v .nilIface))] []
  [(0,A1),(1,A2),(2,B1),(3,B2),(4,X1),(5,X2)] [⟨6,39,(arcC g ca cb cc 0 1 2 3),none⟩,⟨7,37,aN g 4 5,none⟩]
  [0,0,18,0] [[],[],[0,1],[0,1,2]] [(0,.w (.c (.v (.pointer (some ⟨g,0,none⟩))))),(4,.w (.c (.ptr 6 0)))]
  [10,11,12,9] [i,j,k,l,m,n,b1,b2] 4 (N+18) [] [] R2.out
  (fun b hM=>aA (aA (aA (aA aL
    (aD b))
    (aK b 12 m0))
    (bF b (c_fn (ix:=[0,1,2,3]) (ts:=[]) hM (fun ν=>xD h1 h0 s1 s2))))
    (aD b)) ?_
 intro ν W3 hR;have R3:=hdd hR;clear hR R2;simp only[putL,bhZ,bh3,fs0,fs1,fsn,dSw,dSt,dWc,dWa,dv,di,dp,ds',bh0,bh2,nuTn,nuT0,nuT1,nuU0,nuU1,dA12,dP8,dP24]
 go_upto_region 4 with fail
 refine Spec.go [.w (.c (.v (.pointer (some ⟨g,0,none⟩)))),.w (.agg ((arcC g ca cb cc 0 1 2 3))),bJ g 4 5,.tup [.c (.v (.bool r)),.c (.v .nilIface)],.w (.c (.v (.bool r))),.w (.c (.v .nilIface)),.w (.c (.v (.bool r))),.w (.c (.v .nilIface))] []
  [(0,A1),(1,A2),(2,B1),(3,B2),(4,X1),(5,X2)] [⟨6,39,(arcC g ca cb cc 0 1 2 3),none⟩,⟨7,37,aN g 4 5,none⟩]
  [0,0,0,22,0,0,0,0] [[],[],[],[0,1,2],rgn 4,rgn 4,rgn 5,[0,1,2,3,5]] [(0,.w (.c (.v (.pointer (some ⟨g,0,none⟩))))),(4,.w (.c (.ptr 6 0))),(5,.w (.c (.ptr 7 0)))]
  [16,17,18,19,20,21,7,8] [i,j,k,l,m,n,b1,b2] 8 (N+40) [] [] R3.out
  (fun b hM=>aA (aA (aA (aA (aA (aA (aA (aA aL
    (aD b))
    (aK b 12 m0))
    (aK b 4 m1))
    (bF b (c_fn (ix:=[0,1,2,3,4,5]) (ts:=[]) hM (fun ν=>ao7 h1 s3 hw))))
    (aD b))
    (aD b))
    (aD b))
    (aD b)) ?_
 intro ν W4 hR;replace hR:Run ⟨w,B,ns⟩ g (N+40) [(A1,i),(A2,j),(B1,k),(B2,l),(X1,m),(X2,n)] [(b1,.cells #[(.int .i64 2),(.float .f64 ca),(.float .f64 cb),(.float .f64 cc),.pointer (some ⟨g,0,none⟩),.int .i64 ((i:Nat):Int),.pointer (some ⟨g,0,none⟩),.int .i64 ((j:Nat):Int),.pointer (some ⟨g,0,none⟩),.int .i64 ((k:Nat):Int),.pointer (some ⟨g,0,none⟩),.int .i64 ((l:Nat):Int)] 39),(b2,aQ g m n)] W4:=hR;have R4:=hdd hR;clear hR R3;simp only[putL,bhZ,bh3,fs0,fs1,fsn,dSw,dSt,dWc,dWa,dv,di,dp,ds',bh0,bh2,nuTn,nuT0,nuT1,nuU0,nuU1,dA12,dP8,dP24];have HF:Hid (lU w B ns g (N+40) (fun _=>.tuple #[.bool r,.nilIface]) [] (.returned (.tuple #[.bool r,.nilIface])) W4):=hdd ⟨[],rfl,rfl,_,(R4.out.more (by omega)).few (gF [])⟩;clear R4;go_wp2
 go_ret2
 exact HF.out
theorem alG(h1:lK ca cb cc){c2 c3:Int}(h0:(FloatKind.f64.format.order cc 0==some Ordering.eq)=false)(s1:dQ PT (fQ ca cb cc A1 A2) 0)(s2:dQ PT (fQ ca cb cc B1 B2) 0)(s3:dQ PT (fQ ca cb cc X1 X2) 0)(hw:tC A1 A2 B1 B2 X1 X2 r)(h2:iK PT X1 X2 A1 A2 c2)(h3:iK PT X1 X2 B1 B2 c3):FnOk 39 g 44 #[.pointer (some ⟨g,0,none⟩),arcV g ca cb cc i j k l,bY g m n] [(A1,i),(A2,j),(B1,k),(B2,l),(X1,m),(X2,n)] (fun ks=>.tuple #[.bool (r&& !(c2==0)&& !(c3==0)),.nilIface]) []:=FnOk.of fun w B ns N hR hN=>by
 have R1:=hdd hR;clear hR;go_enter Tryz.func39,Tryz.ntmps39
 go_upto_region 0 with fail
 refine Spec.go [.w (.c (.ptr 6 0)),.w (.c (.ptr 7 0)),.w (.c (.v (Value.bool false))),.w (.c (.v Value.nilIface))] [0,1]
  [(0,A1),(1,A2),(2,B1),(3,B2),(4,X1),(5,X2)] [⟨6,39,(arcC g ca cb cc 0 1 2 3),none⟩,⟨7,37,aN g 4 5,none⟩]
  [0,0,0,0] [[],[],[],[]] [(1,.w (.agg ((arcC g ca cb cc 0 1 2 3)))),(2,bJ g 4 5)]
  [5,6,7,8] [i,j,k,l,m,n] 4 N [] [] R1.out
  (fun b hM=>aA (aA (aA (aA aL
    (aS b m0))
    (aS b m1))
    (aD b))
    (aD b)) ?_
 intro b1 b2 ν W2 hR;have R2:=hdd hR;clear hR R1;simp only[putL,bhZ,bh3,fs0,fs1,fsn,dSw,dSt,dWc,dWa,dv,di,dp,ds',bh0,bh2,nuTn,nuT0,nuT1,nuU0,nuU1,dA12,dP8,dP24]
 go_upto_region 1 with fail
 refine Spec.go [.w (.c (.v (.pointer (some ⟨g,0,none⟩)))),.w (.agg ((arcC g ca cb cc 0 1 2 3))),bJ g 4 5,.tup [.c (.v (.bool r)),.c (.v .nilIface)],.tup [.c (.v (.bool r)),.c (.v .nilIface)],.w (.c (.v (.bool r))),.w (.c (.v .nilIface)),.w (.c (.v (.bool r))),.w (.c (.v .nilIface))] []
  [(0,A1),(1,A2),(2,B1),(3,B2),(4,X1),(5,X2)] [⟨6,39,(arcC g ca cb cc 0 1 2 3),none⟩,⟨7,37,aN g 4 5,none⟩]
  [0,0,0,40,0,0,0,0,0] [[],[],[],[0,1,2],rgn 4,rgn 5,rgn 5,rgn 6,[0,1,2,3,4,6]] [(0,.w (.c (.v (.pointer (some ⟨g,0,none⟩))))),(4,.w (.c (.ptr 6 0))),(5,.w (.c (.ptr 7 0)))]
  [16,17,18,19,15,20,21,9,10] [i,j,k,l,m,n,b1,b2] 9 (N+40) [] [] R2.out
  (fun b hM=>aA (aA (aA (aA (aA (aA (aA (aA (aA aL
    (aD b))
    (aK b 12 m0))
    (aK b 4 m1))
    (bF b (c_fn (ix:=[0,1,2,3,4,5]) (ts:=[]) hM (fun ν=>aaP h1 h0 s1 s2 s3 hw))))
    (aD b))
    (aD b))
    (aD b))
    (aD b))
    (aD b)) ?_
 intro ν W3 hR;have R3:=hdd hR;clear hR R2;simp only[putL,bhZ,bh3,fs0,fs1,fsn,dSw,dSt,dWc,dWa,dv,di,dp,ds',bh0,bh2,nuTn,nuT0,nuT1,nuU0,nuU1,dA12,dP8,dP24]
 cases r
 . have HF:Hid (lU w B ns g (N+44) (fun _=>.tuple #[.bool (false&& !(c2==0)&& !(c3==0)),.nilIface]) [] (.returned (.tuple #[.bool false,.nilIface])) W3):=hdd ⟨[],rfl,rfl,_,(R3.out.more (by omega)).few (gF [])⟩
   clear R3;go_wp2
   go_ret2
   exact HF.out
 . go_upto_region 4 with fail
   refine Spec.go [.w (.c (.ptr 6 4)),bJ g 0 1,.w (.c (.ptr 6 8)),bJ g 2 3,.w (.agg ((dI g 0 1 2 3))),.w (.c (.v (Value.int IntKind.i64 0)))] []
    [(0,A1),(1,A2),(2,B1),(3,B2),(4,X1),(5,X2)] [⟨6,39,(arcC g ca cb cc 0 1 2 3),none⟩,⟨7,37,aN g 4 5,none⟩]
    [0,0,0,0,0,0] [[],[0],[],[2],rgn 4,[]] [(4,.w (.c (.ptr 6 0)))]
    [29,30,31,32,33,34] [i,j,k,l,m,n,b1,b2] 6 (N+40) [] [] R3.out
    (fun b hM=>aA (aA (aA (aA (aA (aA aL
      (aD b))
      (aK b 4 m0))
      (aD b))
      (aK b 4 m0))
      (aD b))
      (aD b)) ?_
   intro ν W4 hR;have R4:=hdd hR;clear hR R3;simp only[putL,bhZ,bh3,fs0,fs1,fsn,dSw,dSt,dWc,dWa,dv,di,dp,ds',bh0,bh2,nuTn,nuT0,nuT1,nuU0,nuU1,dA12,dP8,dP24];go_wp2_with fail
   refine wp_loop_rounds 3 ?_;rw[rounds_succ]
   go_upto_region 6 with fail
   refine Spec.go [bJ g 0 1,.w (.c (.ptr 7 0)),noS] [1]
    [(0,A1),(1,A2),(2,B1),(3,B2),(4,X1),(5,X2)] [⟨6,37,aN g 4 5,none⟩,⟨7,37,[.v (.pointer none),.v (.int .i64 0),.v (.pointer none),.v (.int .i64 0)],some (2,aN g 0 1)⟩]
    [0,0,0] [[],[],[0,1]] [(32,.w (.agg ((dI g 0 1 2 3)))),(33,.w (.c (.v (.int .i64 0))))]
    [36,12,0] [i,j,k,l,m,n,b2] 3 (N+40) [] [false] R4.out
    (fun b hM=>aA (aA (aA aL
      (aD b))
      (aS b m1))
      (dM b 4 m1)) ?_
   intro b3 ν W5 hR;have R5:=hdd hR;clear hR R4;simp only[putL,bhZ,bh3,fs0,fs1,fsn,dSw,dSt,dWc,dWa,dv,di,dp,ds',bh0,bh2,nuTn,nuT0,nuT1,nuU0,nuU1,dA12,dP8,dP24]
   go_upto_region 7 with fail
   refine Spec.go [bJ g 4 5,bJ g 0 1,.tup [.c (.v (.bool (c2==0))),.c (.v .nilIface)],.tup [.c (.v (.bool (c2==0))),.c (.v .nilIface)],.w (.c (.v (.bool (c2==0)))),.w (.c (.v .nilIface)),.w (.c (.v (.bool (c2==0)))),.w (.c (.v .nilIface))] []
    [(0,A1),(1,A2),(2,B1),(3,B2),(4,X1),(5,X2)] [⟨6,37,aN g 4 5,none⟩,⟨7,37,aN g 0 1,none⟩]
    [0,0,2,0,0,0,0,0] [[],[],[0,1],[0,1,2],rgn 4,rgn 4,rgn 5,[0,1,2,3,5]] [(5,.w (.c (.ptr 6 0))),(11,.w (.c (.ptr 7 0)))]
    [38,39,40,37,41,42,13,14] [i,j,k,l,m,n,b2,b3] 8 (N+42) [] [] R5.out
    (fun b hM=>aA (aA (aA (aA (aA (aA (aA (aA aL
      (aK b 4 m0))
      (aK b 4 m1))
      (bF b (xB hM m4 m5 rfl rfl m0 m1 rfl rfl rfl rfl rfl h2)))
      (aD b))
      (aD b))
      (aD b))
      (aD b))
      (aD b)) ?_
   intro ν W6 hR;replace hR:Run ⟨w,B,ns⟩ g (N+42) [(A1,i),(A2,j),(B1,k),(B2,l),(X1,m),(X2,n)] [(b2,aQ g m n),(b3,aQ g i j)] W6:=hR;have R6:=hdd hR;clear hR R5;simp only[putL,bhZ,bh3,fs0,fs1,fsn,dSw,dSt,dWc,dWa,dv,di,dp,ds',bh0,bh2,nuTn,nuT0,nuT1,nuU0,nuU1,dA12,dP8,dP24]
   cases e2:(c2==0)
   . go_wp2_with fail
     rw[rounds_succ]
     go_upto_region 6 with fail
     refine Spec.go [bJ g 2 3,.w (.c (.ptr 8 0)),noS] [1]
      [(0,A1),(1,A2),(2,B1),(3,B2),(4,X1),(5,X2)] [⟨6,37,aN g 4 5,none⟩,⟨7,37,aN g 0 1,none⟩,⟨8,37,[.v (.pointer none),.v (.int .i64 0),.v (.pointer none),.v (.int .i64 0)],some (2,aN g 2 3)⟩]
      [0,0,0] [[],[],[0,1]] [(32,.w (.agg ((dI g 0 1 2 3)))),(33,.w (.c (.v (.int .i64 1))))]
      [36,12,0] [i,j,k,l,m,n,b2,b3] 3 (N+42) [] [] R6.out
      (fun b hM=>aA (aA (aA aL
        (aD b))
        (aS b m2))
        (dM b 4 m2)) ?_
     intro b4 ν W7 hR;have R7:=hdd hR;clear hR R6;simp only[putL,bhZ,bh3,fs0,fs1,fsn,dSw,dSt,dWc,dWa,dv,di,dp,ds',bh0,bh2,nuTn,nuT0,nuT1,nuU0,nuU1,dA12,dP8,dP24]
     go_upto_region 7 with fail
     refine Spec.go [bJ g 4 5,bJ g 2 3,.tup [.c (.v (.bool (c3==0))),.c (.v .nilIface)],.tup [.c (.v (.bool (c3==0))),.c (.v .nilIface)],.w (.c (.v (.bool (c3==0)))),.w (.c (.v .nilIface)),.w (.c (.v (.bool (c3==0)))),.w (.c (.v .nilIface))] []
      [(0,A1),(1,A2),(2,B1),(3,B2),(4,X1),(5,X2)] [⟨6,37,aN g 4 5,none⟩,⟨7,37,aN g 2 3,none⟩]
      [0,0,2,0,0,0,0,0] [[],[],[0,1],[0,1,2],rgn 4,rgn 4,rgn 5,[0,1,2,3,5]] [(5,.w (.c (.ptr 6 0))),(11,.w (.c (.ptr 7 0)))]
      [38,39,40,37,41,42,13,14] [i,j,k,l,m,n,b2,b4] 8 (N+44) [] [true,false] R7.out
      (fun b hM=>aA (aA (aA (aA (aA (aA (aA (aA aL
        (aK b 4 m0))
        (aK b 4 m1))
        (bF b (xB hM m4 m5 rfl rfl m2 m3 rfl rfl rfl rfl rfl h3)))
        (aD b))
        (aD b))
        (aD b))
        (aD b))
        (aD b)) ?_
     intro ν W8 hR;replace hR:Run ⟨w,B,ns⟩ g (N+44) [(A1,i),(A2,j),(B1,k),(B2,l),(X1,m),(X2,n)] [(b2,aQ g m n),(b4,aQ g k l)] W8:=hR;have R8:=hdd hR;clear hR R7;simp only[putL,bhZ,bh3,fs0,fs1,fsn,dSw,dSt,dWc,dWa,dv,di,dp,ds',bh0,bh2,nuTn,nuT0,nuT1,nuU0,nuU1,dA12,dP8,dP24]
     cases e3:(c3==0)
     . go_wp2_with fail
       rw[rounds_succ];have HF:Hid (lU w B ns g (N+44) (fun _=>.tuple #[.bool (true&& !(c2==0)&& !(c3==0)),.nilIface]) [] (.returned (.tuple #[.bool true,.nilIface])) W8):=hdd ⟨[],rfl,by simp[e2,e3],_,(R8.out.more (by omega)).few (gF [])⟩;clear R8;go_wp2
       go_ret2
       exact HF.out
     . have HF:Hid (lU w B ns g (N+44) (fun _=>.tuple #[.bool (true&& !(c2==0)&& !(c3==0)),.nilIface]) [] (.returned (.tuple #[.bool false,.nilIface])) W8):=hdd ⟨[],rfl,by simp[e2,e3],_,(R8.out.more (by omega)).few (gF [])⟩
       clear R8;go_wp2
       go_ret2
       exact HF.out
   . have HF:Hid (lU w B ns g (N+44) (fun _=>.tuple #[.bool (true&& !(c2==0)&& !(c3==0)),.nilIface]) [] (.returned (.tuple #[.bool false,.nilIface])) W6):=hdd ⟨[],rfl,by simp[e2],_,(R6.out.more (by omega)).few (gF [])⟩
     clear R6;go_wp2
     go_ret2
     exact HF.out
section
variable{P:Program}{ρ:Operand->Value}{o:Oper}{t t2:TypeId}{x y:Operand}{a b v:Value}{w:World}
end
end Go.Proofs.YtaojpfcboainmaaGreatDoor
namespace Go.Proofs.YtaojpfcboainmaaGreatDoor
open Go.RowKit Go.Maps Go.Stop Go.Extern
abbrev w25:Nat:=4627730092099895296
abbrev w1:Nat:=4607182418800017408
theorem afO:Iw w25 25:=⟨⟨by decide,by decide⟩,by kernel_rfl⟩
theorem iw_1:Iw w1 1:=⟨⟨by decide,by decide⟩,anZ⟩
theorem apZ{b:Nat}{T:Int}(h:Iw b T)(h0:0<=T):0<=fv b:=by rw[h.2];exact Int.mul_nonneg h0 (Int.natCast_nonneg _)
end Go.Proofs.YtaojpfcboainmaaGreatDoor
namespace Go.Proofs.YtaojpfcboainmaaGreatDoor
open Go.RowKit Go.Maps
end Go.Proofs.YtaojpfcboainmaaGreatDoor
namespace Go.Proofs.YtaojpfcboainmaaGreatDoor
open Go.RowKit Go.Maps Go.Stop Go.Extern
open Re (rat ofI ofN)
end Go.Proofs.YtaojpfcboainmaaGreatDoor
namespace Go.Proofs.YtaojpfcboainmaaGreatDoor
open Go.RowKit Go.Maps
end Go.Proofs.YtaojpfcboainmaaGreatDoor
namespace Go.Proofs.YtaojpfcboainmaaGreatDoor
open Go.RowKit Go.Maps
open Ieee
end Go.Proofs.YtaojpfcboainmaaGreatDoor
namespace Go.Proofs.YtaojpfcboainmaaGreatDoor
open Go.RowKit Go.Maps Ieee
open Go.RowKit.Below renaming heap_setCell->bh4
theorem alH{B:Nat}{w0 w1:World}{g:Nat}{T:TypeId}{z0 z1 z2 z3 a b c d:Value}(hb:Below B w0 w1)(hg:B<=g)(h:w1.heap[g]? =some (.cells #[z0,z1,z2,z3] T (0,0))):
 ∃w2,(((w1.setCell ⟨g,0,none⟩ a).setCell ⟨g,1,none⟩ b).setCell ⟨g,2,none⟩ c).setCell ⟨g,3,none⟩ d=w2/\Below B w0 w2/\w2.heap[g]? =some (.cells #[a,b,c,d] T (0,0))/\∀i,g≠i->w2.heap[i]? =w1.heap[i]? :=by
 refine⟨_,rfl,(((hb.setCell hg _).setCell hg _).setCell hg _).setCell hg _,set4 h _ _ _ _,fun i hi=> ?_⟩;rw[bh4 _ _ _ _ (by simp;omega),bh4 _ _ _ _ (by simp;omega),bh4 _ _ _ _ (by simp;omega),bh4 _ _ _ _ (by simp;omega)]
end Go.Proofs.YtaojpfcboainmaaGreatDoor
