/- A part of the proof: contracts of functions and plain laws (TuB, TuC, QlX, MkD). -/
import Derived.Test.YtaojpfcboainmaaGreatDoorK41
import Derived.Test.YtaojpfcboainmaaGreatDoorK44
import Derived.Test.YtaojpfcboainmaaGreatDoorK34
import Derived.Test.YtaojpfcboainmaaGreatDoorK32
import Derived.Test.YtaojpfcboainmaaGreatDoorK42
set_option linter.unusedVariables false
set_option linter.unusedSimpArgs false
set_option maxHeartbeats 25600000
set_option maxRecDepth 100000
namespace Go.Proofs.YtaojpfcboainmaaGreatDoor
section
open Go.RowKit Go.Maps
open List renaming setIfInBounds_toArray->atF,map_cons->atG,map_nil->atH,set->atI
variable{A1 A2 B1 B2:Ex}{s1 s2:Int}{ca cb cc g i j k l:Nat}
abbrev ap9(g:Nat)(kd:Int)(a b c i j k l:Nat):List SC:=curC kd a b c++aN g i j++aN g k l
theorem ap2{kd:Int}{a b c:Nat}{ν:Nat->Nat}:(SW.agg (ap9 g kd a b c i j k l)).den ν=arcW g kd a b c (ν i) (ν j) (ν k) (ν l):=rfl
def chkV(b:Bool):Value:=if b then .nilIface else .iface 99 (.int .i64 4)
theorem aq9{X Y:Ex}{q:Int}(h1:ap7 ca cb cc)(s3:dQ PT (aqB X Y ca cb cc) q):FnOk 27 g 9 #[.pointer (some ⟨g,0,none⟩),curV 1 ca cb cc,bY g i j] [(X,i),(Y,j)] (fun ks=>.tuple #[.int .i64 q,.nilIface]) []:=FnOk.of fun w B ns N hR hN=>by
 have R1:=hdd hR;clear hR;go_enter Tryz.func27,Tryz.ntmps27
 go_upto_region 0 with fail
 refine Spec.go [.w (.c (.ptr 2 0)),.w (.c (.ptr 3 0)),.w (.c (.v (Value.int IntKind.i64 0))),.w (.c (.v Value.nilIface))] [0,1]
  [(0,X),(1,Y)] [⟨2,33,curC 1 ca cb cc,none⟩,⟨3,37,aN g 0 1,none⟩]
  [0,0,0,0] [[],[],[],[]] [(1,.w (.agg ([.v (.int .i64 1),.v (.float .f64 ca),.v (.float .f64 cb),.v (.float .f64 cc)]))),(2,bJ g 0 1)]
  [5,6,7,8] [i,j] 4 N [] [] R1.out
  (fun b hM=>aA (aA (aA (aA aL
    (aS b m0))
    (aS b m1))
    (aD b))
    (aD b)) ?_
 intro b1 b2 ν W2 hR;have R2:=hdd hR;clear hR R1;simp only[putL,atF,atI,fs0,fs1,fsn,dSw,dSt,dWc,dWa,dv,di,dp,ds',atG,atH,nuTn,nuT0,nuT1,nuU0,nuU1,dA12,dP8,dP24,ap2]
 go_upto_region 1 with fail
 refine Spec.go [.w (.agg ([.v (.int .i64 1),.v (.float .f64 ca),.v (.float .f64 cb),.v (.float .f64 cc)])),.w (.c (.v .nilIface)),.w (.c (.v .nilIface))] []
  [(0,X),(1,Y)] [⟨2,33,curC 1 ca cb cc,none⟩,⟨3,37,aN g 0 1,none⟩]
  [0,0,0] [[],[0],[0,1]] [(4,.w (.c (.ptr 2 0)))]
  [10,11,9] [i,j,b1,b2] 3 N [] [] R2.out
  (fun b hM=>aA (aA (aA aL
    (aK b 4 m0))
    (bF b (ad7 hM rfl rfl rfl (fun w=>aqG h1))))
    (aD b)) ?_
 intro ν W3 hR;replace hR:Run ⟨w,B,ns⟩ g N [(X,i),(Y,j)] [(b1,.cells #[(.int .i64 1),(.float .f64 ca),(.float .f64 cb),(.float .f64 cc)] 33),(b2,aQ g i j)] W3:=hR;have R3:=hdd hR;clear hR R2;simp only[putL,atF,atI,fs0,fs1,fsn,dSw,dSt,dWc,dWa,dv,di,dp,ds',atG,atH,nuTn,nuT0,nuT1,nuU0,nuU1,dA12,dP8,dP24,ap2];have k0:=aB (k:=0) (v:=.int .i64 1) (R3.out.at m0) rfl
 go_upto_region 5 with fail
 clear k0;refine Spec.go [.w (.c (.v (.pointer (some ⟨g,0,none⟩)))),.w (.agg ([.v (.int .i64 1),.v (.float .f64 ca),.v (.float .f64 cb),.v (.float .f64 cc)])),bJ g 0 1,numS g 4,.tup [.c (.v (.int .i64 q)),.c (.v .nilIface)],.w (.c (.v (.int .i64 q))),.w (.c (.v .nilIface)),.w (.c (.v (.int .i64 q))),.w (.c (.v .nilIface))] [3]
  [(0,X),(1,Y),(4,(aqB X Y ca cb cc))] [⟨2,33,curC 1 ca cb cc,none⟩,⟨3,37,aN g 0 1,none⟩]
  [0,0,0,7,0,0,0,0,0] [[],[],[],[0,1,2],rgn 4,rgn 5,rgn 5,rgn 6,[0,1,2,3,4,6]] [(0,.w (.c (.v (.pointer (some ⟨g,0,none⟩))))),(4,.w (.c (.ptr 2 0))),(5,.w (.c (.ptr 3 0)))]
  [18,19,20,21,22,23,24,7,8] [i,j,b1,b2] 9 (N+7) [] [] R3.out
  (fun b hM=>aA (aA (aA (aA (aA (aA (aA (aA (aA aL
    (aD b))
    (aK b 4 m0))
    (aK b 4 m1))
    (bF b (c_fn (ix:=[0,1]) (ts:=[4]) hM (fun ν=>aqR h1.1 h1.2.1 h1.2.2.1))))
    (bF b (ak6 hM m2 rfl rfl rfl rfl s3)))
    (aD b))
    (aD b))
    (aD b))
    (aD b)) ?_
 intro n3 ν W4 hR;replace hR:Run ⟨w,B,ns⟩ g (N+7) [(X,i),(Y,j),((aqB X Y ca cb cc),n3)] [(b1,.cells #[(.int .i64 1),(.float .f64 ca),(.float .f64 cb),(.float .f64 cc)] 33),(b2,aQ g i j)] W4:=hR;have R4:=hdd hR;clear hR R3;simp only[putL,atF,atI,fs0,fs1,fsn,dSw,dSt,dWc,dWa,dv,di,dp,ds',atG,atH,nuTn,nuT0,nuT1,nuU0,nuU1,dA12,dP8,dP24,ap2];have HF:Hid (lU w B ns g (N+9) (fun _=>.tuple #[.int .i64 q,.nilIface]) [] (.returned (.tuple #[.int .i64 q,.nilIface])) W4):=hdd ⟨[],rfl,rfl,_,(R4.out.more (by omega)).few (gF [])⟩;clear R4;go_wp2
 go_ret2
 exact HF.out
theorem chkc_fn(h1:lK ca cb cc)(h0:(FloatKind.f64.format.order cc 0==some Ordering.eq)=false)(t1:dQ PT (fQ ca cb cc A1 A2) s1)(t2:dQ PT (fQ ca cb cc B1 B2) s2):FnOk 13 g 18 #[.pointer (some ⟨g,0,none⟩),arcW g 2 ca cb cc i j k l] [(A1,i),(A2,j),(B1,k),(B2,l)] (fun ks=>chkV (s1==0&&s2==0)) []:=FnOk.of fun w B ns N hR hN=>by
 have R1:=hdd hR;clear hR;go_enter Tryz.func13,Tryz.ntmps13
 go_upto_region 0 with fail
 refine Spec.go [.w (.c (.ptr 4 0)),.w (.c (.v Value.nilIface))] [0]
  [(0,A1),(1,A2),(2,B1),(3,B2)] [⟨4,39,(arcC g ca cb cc 0 1 2 3),none⟩]
  [0,0] [[],[]] [(1,.w (.agg ((arcC g ca cb cc 0 1 2 3))))]
  [4,5] [i,j,k,l] 2 N [] [] R1.out
  (fun b hM=>aA (aA aL
    (aS b m0))
    (aD b)) ?_
 intro b1 ν W2 hR;have R2:=hdd hR;clear hR R1;simp only[putL,atF,atI,fs0,fs1,fsn,dSw,dSt,dWc,dWa,dv,di,dp,ds',atG,atH,nuTn,nuT0,nuT1,nuU0,nuU1,dA12,dP8,dP24,ap2]
 go_upto_region 1 with fail
 refine Spec.go [.w (.c (.ptr 4 0)),.w (.agg ([.v (.int .i64 2),.v (.float .f64 ca),.v (.float .f64 cb),.v (.float .f64 cc)])),.w (.c (.v .nilIface)),.w (.c (.v .nilIface))] []
  [(0,A1),(1,A2),(2,B1),(3,B2)] [⟨4,39,(arcC g ca cb cc 0 1 2 3),none⟩]
  [0,0,0,0] [[],[0],[0,1],[0,1,2]] [(3,.w (.c (.ptr 4 0)))]
  [13,14,15,6] [i,j,k,l,b1] 4 N [] [] R2.out
  (fun b hM=>aA (aA (aA (aA aL
    (aD b))
    (aK b 4 m0))
    (bF b (ad7 hM rfl rfl rfl (fun w=>yZ h1))))
    (aD b)) ?_
 intro ν W3 hR;have R3:=hdd hR;clear hR R2;simp only[putL,atF,atI,fs0,fs1,fsn,dSw,dSt,dWc,dWa,dv,di,dp,ds',atG,atH,nuTn,nuT0,nuT1,nuU0,nuU1,dA12,dP8,dP24,ap2]
 go_upto_region 4 with fail
 refine Spec.go [.w (.c (.ptr 4 4)),bJ g 0 1,.w (.c (.ptr 4 8)),bJ g 2 3,.w (.agg ((dI g 0 1 2 3))),.w (.c (.v (Value.int IntKind.i64 0)))] []
  [(0,A1),(1,A2),(2,B1),(3,B2)] [⟨4,39,(arcC g ca cb cc 0 1 2 3),none⟩]
  [0,0,0,0,0,0] [[],[0],[],[2],rgn 4,[]] [(3,.w (.c (.ptr 4 0)))]
  [20,21,22,23,24,25] [i,j,k,l,b1] 6 N [] [] R3.out
  (fun b hM=>aA (aA (aA (aA (aA (aA aL
    (aD b))
    (aK b 4 m0))
    (aD b))
    (aK b 4 m0))
    (aD b))
    (aD b)) ?_
 intro ν W4 hR;have R4:=hdd hR;clear hR R3;simp only[putL,atF,atI,fs0,fs1,fsn,dSw,dSt,dWc,dWa,dv,di,dp,ds',atG,atH,nuTn,nuT0,nuT1,nuU0,nuU1,dA12,dP8,dP24,ap2];go_wp2_with fail
 refine wp_loop_rounds 3 ?_;rw[rounds_succ]
 go_upto_region 6 with fail
 refine Spec.go [bJ g 0 1,.w (.c (.ptr 5 0)),noS] [1]
  [(0,A1),(1,A2),(2,B1),(3,B2)] [⟨4,39,(arcC g ca cb cc 0 1 2 3),none⟩,⟨5,37,[.v (.pointer none),.v (.int .i64 0),.v (.pointer none),.v (.int .i64 0)],some (2,aN g 0 1)⟩]
  [0,0,0] [[],[],[0,1]] [(23,.w (.agg ((dI g 0 1 2 3)))),(24,.w (.c (.v (.int .i64 0))))]
  [27,8,0] [i,j,k,l,b1] 3 N [] [] R4.out
  (fun b hM=>aA (aA (aA aL
    (aD b))
    (aS b m1))
    (dM b 4 m1)) ?_
 intro b2 ν W5 hR;have R5:=hdd hR;clear hR R4;simp only[putL,atF,atI,fs0,fs1,fsn,dSw,dSt,dWc,dWa,dv,di,dp,ds',atG,atH,nuTn,nuT0,nuT1,nuU0,nuU1,dA12,dP8,dP24,ap2]
 go_upto_region 7 with fail
 refine Spec.go [.w (.c (.v (.pointer (some ⟨g,0,none⟩)))),.w (.c (.ptr 4 0)),.w (.agg ([.v (.int .i64 2),.v (.float .f64 ca),.v (.float .f64 cb),.v (.float .f64 cc)])),bJ g 0 1,.tup [.c (.v (.int .i64 s1)),.c (.v .nilIface)],.tup [.c (.v (.int .i64 s1)),.c (.v .nilIface)],.w (.c (.v (.int .i64 s1))),.w (.c (.v .nilIface)),.w (.c (.v (.int .i64 s1))),.w (.c (.v .nilIface))] []
  [(0,A1),(1,A2),(2,B1),(3,B2)] [⟨4,39,(arcC g ca cb cc 0 1 2 3),none⟩,⟨5,37,aN g 0 1,none⟩]
  [0,0,0,0,9,0,0,0,0,0] [[],[],[1],[],rgn 4,rgn 5,rgn 6,rgn 6,rgn 7,[0,1,2,3,4,5,7]] [(0,.w (.c (.v (.pointer (some ⟨g,0,none⟩))))),(3,.w (.c (.ptr 4 0))),(7,.w (.c (.ptr 5 0)))]
  [29,30,31,32,33,28,34,35,9,10] [i,j,k,l,b1,b2] 10 (N+9) [] [] R5.out
  (fun b hM=>aA (aA (aA (aA (aA (aA (aA (aA (aA (aA aL
    (aD b))
    (aD b))
    (aK b 4 m0))
    (aK b 4 m1))
    (bF b (c_fn (ix:=[0,1]) (ts:=[]) hM (fun ν=>alF h1 t1))))
    (aD b))
    (aD b))
    (aD b))
    (aD b))
    (aD b)) ?_
 intro ν W6 hR;have R6:=hdd hR;clear hR R5;simp only[putL,atF,atI,fs0,fs1,fsn,dSw,dSt,dWc,dWa,dv,di,dp,ds',atG,atH,nuTn,nuT0,nuT1,nuU0,nuU1,dA12,dP8,dP24,ap2]
 cases e1:(s1==0)
 . have n1:(s1 != 0)=true:=by simp[bne,e1]
   go_upto_region 11 with fail
   refine Spec.go [.w (.c (.v (.iface 99 (.int .i64 4)))),.w (.c (.v (.iface 99 (.int .i64 4))))] []
    [] []
    [0,0] [[],[0]] []
    [42,5] [] 2 (N+9) [false,false,false,false] [false,false] R6.out
    (fun b hM=>aA (aA aL
      (bF b (ad7 hM rfl rfl rfl (fun w=>ap3))))
      (aD b)) ?_
   intro ν W7 hR;replace hR:Run ⟨w,B,ns⟩ g (N+9) [] [] W7:=hR;have R7:=hdd hR;clear hR R6;simp only[putL,atF,atI,fs0,fs1,fsn,dSw,dSt,dWc,dWa,dv,di,dp,ds',atG,atH,nuTn,nuT0,nuT1,nuU0,nuU1,dA12,dP8,dP24,ap2];have HF:Hid (lU w B ns g (N+18) (fun _=>chkV (s1==0&&s2==0)) [] (.returned (.iface 99 (.int .i64 4))) W7):=hdd ⟨[],rfl,by simp[chkV,e1],_,(R7.out.more (by omega)).few (gF [])⟩;clear R7;go_wp2;go_ret;exact HF.out
 . have n1:(s1 != 0)=false:=by simp[bne,e1]
   go_wp2_with fail
   rw[rounds_succ]
   go_upto_region 6 with fail
   refine Spec.go [bJ g 2 3,.w (.c (.ptr 6 0)),noS] [1]
    [(0,A1),(1,A2),(2,B1),(3,B2)] [⟨4,39,(arcC g ca cb cc 0 1 2 3),none⟩,⟨5,37,aN g 0 1,none⟩,⟨6,37,[.v (.pointer none),.v (.int .i64 0),.v (.pointer none),.v (.int .i64 0)],some (2,aN g 2 3)⟩]
    [0,0,0] [[],[],[0,1]] [(23,.w (.agg ((dI g 0 1 2 3)))),(24,.w (.c (.v (.int .i64 1))))]
    [27,8,0] [i,j,k,l,b1,b2] 3 (N+9) [] [] R6.out
    (fun b hM=>aA (aA (aA aL
      (aD b))
      (aS b m2))
      (dM b 4 m2)) ?_
   intro b3 ν W7 hR;have R7:=hdd hR;clear hR R6;simp only[putL,atF,atI,fs0,fs1,fsn,dSw,dSt,dWc,dWa,dv,di,dp,ds',atG,atH,nuTn,nuT0,nuT1,nuU0,nuU1,dA12,dP8,dP24,ap2]
   go_upto_region 7 with fail
   refine Spec.go [.w (.c (.v (.pointer (some ⟨g,0,none⟩)))),.w (.c (.ptr 4 0)),.w (.agg ([.v (.int .i64 2),.v (.float .f64 ca),.v (.float .f64 cb),.v (.float .f64 cc)])),bJ g 2 3,.tup [.c (.v (.int .i64 s2)),.c (.v .nilIface)],.tup [.c (.v (.int .i64 s2)),.c (.v .nilIface)],.w (.c (.v (.int .i64 s2))),.w (.c (.v .nilIface)),.w (.c (.v (.int .i64 s2))),.w (.c (.v .nilIface))] []
    [(0,A1),(1,A2),(2,B1),(3,B2)] [⟨4,39,(arcC g ca cb cc 0 1 2 3),none⟩,⟨5,37,aN g 2 3,none⟩]
    [0,0,0,0,9,0,0,0,0,0] [[],[],[1],[],rgn 4,rgn 5,rgn 6,rgn 6,rgn 7,[0,1,2,3,4,5,7]] [(0,.w (.c (.v (.pointer (some ⟨g,0,none⟩))))),(3,.w (.c (.ptr 4 0))),(7,.w (.c (.ptr 5 0)))]
    [29,30,31,32,33,28,34,35,9,10] [i,j,k,l,b1,b3] 10 (N+18) [] [true,false] R7.out
    (fun b hM=>aA (aA (aA (aA (aA (aA (aA (aA (aA (aA aL
      (aD b))
      (aD b))
      (aK b 4 m0))
      (aK b 4 m1))
      (bF b (c_fn (ix:=[2,3]) (ts:=[]) hM (fun ν=>alF h1 t2))))
      (aD b))
      (aD b))
      (aD b))
      (aD b))
      (aD b)) ?_
   intro ν W8 hR;replace hR:Run ⟨w,B,ns⟩ g (N+18) [(A1,i),(A2,j),(B1,k),(B2,l)] [(b1,.cells #[(.int .i64 2),(.float .f64 ca),(.float .f64 cb),(.float .f64 cc),.pointer (some ⟨g,0,none⟩),.int .i64 ((i:Nat):Int),.pointer (some ⟨g,0,none⟩),.int .i64 ((j:Nat):Int),.pointer (some ⟨g,0,none⟩),.int .i64 ((k:Nat):Int),.pointer (some ⟨g,0,none⟩),.int .i64 ((l:Nat):Int)] 39),(b3,aQ g k l)] W8:=hR;have R8:=hdd hR;clear hR R7;simp only[putL,atF,atI,fs0,fs1,fsn,dSw,dSt,dWc,dWa,dv,di,dp,ds',atG,atH,nuTn,nuT0,nuT1,nuU0,nuU1,dA12,dP8,dP24,ap2]
   cases e2:(s2==0)
   . have n1:(s2 != 0)=true:=by simp[bne,e2]
     go_upto_region 11 with fail
     refine Spec.go [.w (.c (.v (.iface 99 (.int .i64 4)))),.w (.c (.v (.iface 99 (.int .i64 4))))] []
      [] []
      [0,0] [[],[0]] []
      [42,5] [] 2 (N+18) [false,false,false,false] [false,false] R8.out
      (fun b hM=>aA (aA aL
        (bF b (ad7 hM rfl rfl rfl (fun w=>ap3))))
        (aD b)) ?_
     intro ν W9 hR;replace hR:Run ⟨w,B,ns⟩ g (N+18) [] [] W9:=hR;have R9:=hdd hR;clear hR R8;simp only[putL,atF,atI,fs0,fs1,fsn,dSw,dSt,dWc,dWa,dv,di,dp,ds',atG,atH,nuTn,nuT0,nuT1,nuU0,nuU1,dA12,dP8,dP24,ap2];have HF:Hid (lU w B ns g (N+18) (fun _=>chkV (s1==0&&s2==0)) [] (.returned (.iface 99 (.int .i64 4))) W9):=hdd ⟨[],rfl,by simp[chkV,e1,e2],_,(R9.out.more (by omega)).few (gF [])⟩;clear R9;go_wp2;go_ret;exact HF.out
   . have n2:(s2 != 0)=false:=by simp[bne,e2]
     go_wp2_with fail
     rw[rounds_succ];have k0:=aB (k:=0) (v:=.int .i64 2) (R8.out.at m0) rfl;have k3:=aB (k:=3) (v:=.float .f64 cc) (R8.out.at m0) rfl;have HF:Hid (lU w B ns g (N+18) (fun _=>chkV (s1==0&&s2==0)) [] (.returned (.nilIface)) W8):=hdd ⟨[],rfl,by simp[chkV,e1,e2],_,(R8.out.more (by omega)).few (gF [])⟩;clear R8;go_wp2;go_ret;exact HF.out
theorem arK{c:Int}(h1:ap7 ca cb cc)(t1:dQ PT (aqB A1 A2 ca cb cc) s1)(t2:dQ PT (aqB B1 B2 ca cb cc) s2)(t3:iK PT A1 A2 B1 B2 c):FnOk 13 g 20 #[.pointer (some ⟨g,0,none⟩),arcW g 1 ca cb cc i j k l] [(A1,i),(A2,j),(B1,k),(B2,l)] (fun ks=>chkV (s1==0&&s2==0&& !(c==0))) []:=FnOk.of fun w B ns N hR hN=>by
 have R1:=hdd hR;clear hR;go_enter Tryz.func13,Tryz.ntmps13
 go_upto_region 0 with fail
 refine Spec.go [.w (.c (.ptr 4 0)),.w (.c (.v Value.nilIface))] [0]
  [(0,A1),(1,A2),(2,B1),(3,B2)] [⟨4,39,(ap9 g 1 ca cb cc 0 1 2 3),none⟩]
  [0,0] [[],[]] [(1,.w (.agg ((ap9 g 1 ca cb cc 0 1 2 3))))]
  [4,5] [i,j,k,l] 2 N [] [] R1.out
  (fun b hM=>aA (aA aL
    (aS b m0))
    (aD b)) ?_
 intro b1 ν W2 hR;have R2:=hdd hR;clear hR R1;simp only[putL,atF,atI,fs0,fs1,fsn,dSw,dSt,dWc,dWa,dv,di,dp,ds',atG,atH,nuTn,nuT0,nuT1,nuU0,nuU1,dA12,dP8,dP24,ap2]
 go_upto_region 1 with fail
 refine Spec.go [.w (.c (.ptr 4 0)),.w (.agg ([.v (.int .i64 1),.v (.float .f64 ca),.v (.float .f64 cb),.v (.float .f64 cc)])),.w (.c (.v .nilIface)),.w (.c (.v .nilIface))] []
  [(0,A1),(1,A2),(2,B1),(3,B2)] [⟨4,39,(ap9 g 1 ca cb cc 0 1 2 3),none⟩]
  [0,0,0,0] [[],[0],[0,1],[0,1,2]] [(3,.w (.c (.ptr 4 0)))]
  [13,14,15,6] [i,j,k,l,b1] 4 N [] [] R2.out
  (fun b hM=>aA (aA (aA (aA aL
    (aD b))
    (aK b 4 m0))
    (bF b (ad7 hM rfl rfl rfl (fun w=>aqG h1))))
    (aD b)) ?_
 intro ν W3 hR;have R3:=hdd hR;clear hR R2;simp only[putL,atF,atI,fs0,fs1,fsn,dSw,dSt,dWc,dWa,dv,di,dp,ds',atG,atH,nuTn,nuT0,nuT1,nuU0,nuU1,dA12,dP8,dP24,ap2]
 go_upto_region 4 with fail
 refine Spec.go [.w (.c (.ptr 4 4)),bJ g 0 1,.w (.c (.ptr 4 8)),bJ g 2 3,.w (.agg ((dI g 0 1 2 3))),.w (.c (.v (Value.int IntKind.i64 0)))] []
  [(0,A1),(1,A2),(2,B1),(3,B2)] [⟨4,39,(ap9 g 1 ca cb cc 0 1 2 3),none⟩]
  [0,0,0,0,0,0] [[],[0],[],[2],rgn 4,[]] [(3,.w (.c (.ptr 4 0)))]
  [20,21,22,23,24,25] [i,j,k,l,b1] 6 N [] [] R3.out
  (fun b hM=>aA (aA (aA (aA (aA (aA aL
    (aD b))
    (aK b 4 m0))
    (aD b))
    (aK b 4 m0))
    (aD b))
    (aD b)) ?_
 intro ν W4 hR;have R4:=hdd hR;clear hR R3;simp only[putL,atF,atI,fs0,fs1,fsn,dSw,dSt,dWc,dWa,dv,di,dp,ds',atG,atH,nuTn,nuT0,nuT1,nuU0,nuU1,dA12,dP8,dP24,ap2];go_wp2_with fail
 refine wp_loop_rounds 3 ?_;rw[rounds_succ]
 go_upto_region 6 with fail
 refine Spec.go [bJ g 0 1,.w (.c (.ptr 5 0)),noS] [1]
  [(0,A1),(1,A2),(2,B1),(3,B2)] [⟨4,39,(ap9 g 1 ca cb cc 0 1 2 3),none⟩,⟨5,37,[.v (.pointer none),.v (.int .i64 0),.v (.pointer none),.v (.int .i64 0)],some (2,aN g 0 1)⟩]
  [0,0,0] [[],[],[0,1]] [(23,.w (.agg ((dI g 0 1 2 3)))),(24,.w (.c (.v (.int .i64 0))))]
  [27,8,0] [i,j,k,l,b1] 3 N [] [] R4.out
  (fun b hM=>aA (aA (aA aL
    (aD b))
    (aS b m1))
    (dM b 4 m1)) ?_
 intro b2 ν W5 hR;have R5:=hdd hR;clear hR R4;simp only[putL,atF,atI,fs0,fs1,fsn,dSw,dSt,dWc,dWa,dv,di,dp,ds',atG,atH,nuTn,nuT0,nuT1,nuU0,nuU1,dA12,dP8,dP24,ap2]
 go_upto_region 7 with fail
 refine Spec.go [.w (.c (.v (.pointer (some ⟨g,0,none⟩)))),.w (.c (.ptr 4 0)),.w (.agg ([.v (.int .i64 1),.v (.float .f64 ca),.v (.float .f64 cb),.v (.float .f64 cc)])),bJ g 0 1,.tup [.c (.v (.int .i64 s1)),.c (.v .nilIface)],.tup [.c (.v (.int .i64 s1)),.c (.v .nilIface)],.w (.c (.v (.int .i64 s1))),.w (.c (.v .nilIface)),.w (.c (.v (.int .i64 s1))),.w (.c (.v .nilIface))] []
  [(0,A1),(1,A2),(2,B1),(3,B2)] [⟨4,39,(ap9 g 1 ca cb cc 0 1 2 3),none⟩,⟨5,37,aN g 0 1,none⟩]
  [0,0,0,0,9,0,0,0,0,0] [[],[],[1],[],rgn 4,rgn 5,rgn 6,rgn 6,rgn 7,[0,1,2,3,4,5,7]] [(0,.w (.c (.v (.pointer (some ⟨g,0,none⟩))))),(3,.w (.c (.ptr 4 0))),(7,.w (.c (.ptr 5 0)))]
  [29,30,31,32,33,28,34,35,9,10] [i,j,k,l,b1,b2] 10 (N+9) [] [] R5.out
  (fun b hM=>aA (aA (aA (aA (aA (aA (aA (aA (aA (aA aL
    (aD b))
    (aD b))
    (aK b 4 m0))
    (aK b 4 m1))
    (bF b (c_fn (ix:=[0,1]) (ts:=[]) hM (fun ν=>aq9 h1 t1))))
    (aD b))
    (aD b))
    (aD b))
    (aD b))
    (aD b)) ?_
 intro ν W6 hR;have R6:=hdd hR;clear hR R5;simp only[putL,atF,atI,fs0,fs1,fsn,dSw,dSt,dWc,dWa,dv,di,dp,ds',atG,atH,nuTn,nuT0,nuT1,nuU0,nuU1,dA12,dP8,dP24,ap2]
 cases e1:(s1==0)
 . have n1:(s1 != 0)=true:=by simp[bne,e1]
   go_upto_region 11 with fail
   refine Spec.go [.w (.c (.v (.iface 99 (.int .i64 4)))),.w (.c (.v (.iface 99 (.int .i64 4))))] []
    [] []
    [0,0] [[],[0]] []
    [42,5] [] 2 (N+9) [false,false,false,false] [false,false] R6.out
    (fun b hM=>aA (aA aL
      (bF b (ad7 hM rfl rfl rfl (fun w=>ap3))))
      (aD b)) ?_
   intro ν W7 hR;replace hR:Run ⟨w,B,ns⟩ g (N+9) [] [] W7:=hR;have R7:=hdd hR;clear hR R6;simp only[putL,atF,atI,fs0,fs1,fsn,dSw,dSt,dWc,dWa,dv,di,dp,ds',atG,atH,nuTn,nuT0,nuT1,nuU0,nuU1,dA12,dP8,dP24,ap2];have HF:Hid (lU w B ns g (N+20) (fun _=>chkV (s1==0&&s2==0&& !(c==0))) [] (.returned (.iface 99 (.int .i64 4))) W7):=hdd ⟨[],rfl,by simp[chkV,e1],_,(R7.out.more (by omega)).few (gF [])⟩;clear R7;go_wp2;go_ret;exact HF.out
 . have n1:(s1 != 0)=false:=by simp[bne,e1]
   go_wp2_with fail
   rw[rounds_succ]
   go_upto_region 6 with fail
   refine Spec.go [bJ g 2 3,.w (.c (.ptr 6 0)),noS] [1]
    [(0,A1),(1,A2),(2,B1),(3,B2)] [⟨4,39,(ap9 g 1 ca cb cc 0 1 2 3),none⟩,⟨5,37,aN g 0 1,none⟩,⟨6,37,[.v (.pointer none),.v (.int .i64 0),.v (.pointer none),.v (.int .i64 0)],some (2,aN g 2 3)⟩]
    [0,0,0] [[],[],[0,1]] [(23,.w (.agg ((dI g 0 1 2 3)))),(24,.w (.c (.v (.int .i64 1))))]
    [27,8,0] [i,j,k,l,b1,b2] 3 (N+9) [] [] R6.out
    (fun b hM=>aA (aA (aA aL
      (aD b))
      (aS b m2))
      (dM b 4 m2)) ?_
   intro b3 ν W7 hR;have R7:=hdd hR;clear hR R6;simp only[putL,atF,atI,fs0,fs1,fsn,dSw,dSt,dWc,dWa,dv,di,dp,ds',atG,atH,nuTn,nuT0,nuT1,nuU0,nuU1,dA12,dP8,dP24,ap2]
   go_upto_region 7 with fail
   refine Spec.go [.w (.c (.v (.pointer (some ⟨g,0,none⟩)))),.w (.c (.ptr 4 0)),.w (.agg ([.v (.int .i64 1),.v (.float .f64 ca),.v (.float .f64 cb),.v (.float .f64 cc)])),bJ g 2 3,.tup [.c (.v (.int .i64 s2)),.c (.v .nilIface)],.tup [.c (.v (.int .i64 s2)),.c (.v .nilIface)],.w (.c (.v (.int .i64 s2))),.w (.c (.v .nilIface)),.w (.c (.v (.int .i64 s2))),.w (.c (.v .nilIface))] []
    [(0,A1),(1,A2),(2,B1),(3,B2)] [⟨4,39,(ap9 g 1 ca cb cc 0 1 2 3),none⟩,⟨5,37,aN g 2 3,none⟩]
    [0,0,0,0,9,0,0,0,0,0] [[],[],[1],[],rgn 4,rgn 5,rgn 6,rgn 6,rgn 7,[0,1,2,3,4,5,7]] [(0,.w (.c (.v (.pointer (some ⟨g,0,none⟩))))),(3,.w (.c (.ptr 4 0))),(7,.w (.c (.ptr 5 0)))]
    [29,30,31,32,33,28,34,35,9,10] [i,j,k,l,b1,b3] 10 (N+18) [] [true,false] R7.out
    (fun b hM=>aA (aA (aA (aA (aA (aA (aA (aA (aA (aA aL
      (aD b))
      (aD b))
      (aK b 4 m0))
      (aK b 4 m1))
      (bF b (c_fn (ix:=[2,3]) (ts:=[]) hM (fun ν=>aq9 h1 t2))))
      (aD b))
      (aD b))
      (aD b))
      (aD b))
      (aD b)) ?_
   intro ν W8 hR;replace hR:Run ⟨w,B,ns⟩ g (N+18) [(A1,i),(A2,j),(B1,k),(B2,l)] [(b1,.cells #[(.int .i64 1),(.float .f64 ca),(.float .f64 cb),(.float .f64 cc),.pointer (some ⟨g,0,none⟩),.int .i64 ((i:Nat):Int),.pointer (some ⟨g,0,none⟩),.int .i64 ((j:Nat):Int),.pointer (some ⟨g,0,none⟩),.int .i64 ((k:Nat):Int),.pointer (some ⟨g,0,none⟩),.int .i64 ((l:Nat):Int)] 39),(b3,aQ g k l)] W8:=hR;have R8:=hdd hR;clear hR R7;simp only[putL,atF,atI,fs0,fs1,fsn,dSw,dSt,dWc,dWa,dv,di,dp,ds',atG,atH,nuTn,nuT0,nuT1,nuU0,nuU1,dA12,dP8,dP24,ap2]
   cases e2:(s2==0)
   . have n1:(s2 != 0)=true:=by simp[bne,e2]
     go_upto_region 11 with fail
     refine Spec.go [.w (.c (.v (.iface 99 (.int .i64 4)))),.w (.c (.v (.iface 99 (.int .i64 4))))] []
      [] []
      [0,0] [[],[0]] []
      [42,5] [] 2 (N+18) [false,false,false,false] [false,false] R8.out
      (fun b hM=>aA (aA aL
        (bF b (ad7 hM rfl rfl rfl (fun w=>ap3))))
        (aD b)) ?_
     intro ν W9 hR;replace hR:Run ⟨w,B,ns⟩ g (N+18) [] [] W9:=hR;have R9:=hdd hR;clear hR R8;simp only[putL,atF,atI,fs0,fs1,fsn,dSw,dSt,dWc,dWa,dv,di,dp,ds',atG,atH,nuTn,nuT0,nuT1,nuU0,nuU1,dA12,dP8,dP24,ap2];have HF:Hid (lU w B ns g (N+20) (fun _=>chkV (s1==0&&s2==0&& !(c==0))) [] (.returned (.iface 99 (.int .i64 4))) W9):=hdd ⟨[],rfl,by simp[chkV,e1,e2],_,(R9.out.more (by omega)).few (gF [])⟩;clear R9;go_wp2;go_ret;exact HF.out
   . have n2:(s2 != 0)=false:=by simp[bne,e2]
     go_wp2_with fail
     rw[rounds_succ];have k0:=aB (k:=0) (v:=.int .i64 1) (R8.out.at m0) rfl
     go_upto_region 17 with fail
     clear k0;refine Spec.go [.w (.c (.ptr 4 4)),bJ g 0 1,.w (.c (.ptr 4 8)),bJ g 2 3,.tup [.c (.v (.bool (c==0))),.c (.v .nilIface)],.tup [.c (.v (.bool (c==0))),.c (.v .nilIface)],.w (.c (.v (.bool (c==0)))),.w (.c (.v .nilIface)),.w (.c (.v (.bool (c==0)))),.w (.c (.v .nilIface))] []
      [(0,A1),(1,A2),(2,B1),(3,B2)] [⟨4,39,(ap9 g 1 ca cb cc 0 1 2 3),none⟩]
      [0,0,0,0,2,0,0,0,0,0] [[],[0],[],[2],rgn 4,rgn 5,rgn 6,rgn 6,rgn 7,[0,1,2,3,4,5,7]] [(3,.w (.c (.ptr 4 0)))]
      [54,55,56,57,58,53,59,60,11,12] [i,j,k,l,b1] 10 (N+20) [] [true,false] R8.out
      (fun b hM=>aA (aA (aA (aA (aA (aA (aA (aA (aA (aA aL
        (aD b))
        (aK b 4 m0))
        (aD b))
        (aK b 4 m0))
        (bF b (xB hM m0 m1 rfl rfl m2 m3 rfl rfl rfl rfl rfl t3)))
        (aD b))
        (aD b))
        (aD b))
        (aD b))
        (aD b)) ?_
     intro ν W9 hR;have R9:=hdd hR;clear hR R8;simp only[putL,atF,atI,fs0,fs1,fsn,dSw,dSt,dWc,dWa,dv,di,dp,ds',atG,atH,nuTn,nuT0,nuT1,nuU0,nuU1,dA12,dP8,dP24,ap2]
     cases e3:(c==0)
     . have HF:Hid (lU w B ns g (N+20) (fun _=>chkV (s1==0&&s2==0&& !(c==0))) [] (.returned (.nilIface)) W9):=hdd ⟨[],rfl,by simp[chkV,e1,e2,e3],_,(R9.out.more (by omega)).few (gF [])⟩
       clear R9;go_wp2;go_ret;exact HF.out
     . go_upto_region 21 with fail
       refine Spec.go [.w (.c (.v (.iface 99 (.int .i64 4)))),.w (.c (.v (.iface 99 (.int .i64 4))))] []
        [] []
        [0,0] [[],[0]] []
        [66,5] [] 2 (N+20) [false,false,false,false] [false] R9.out
        (fun b hM=>aA (aA aL
          (bF b (ad7 hM rfl rfl rfl (fun w=>ap3))))
          (aD b)) ?_
       intro ν W10 hR;replace hR:Run ⟨w,B,ns⟩ g (N+20) [] [] W10:=hR;have R10:=hdd hR;clear hR R9;simp only[putL,atF,atI,fs0,fs1,fsn,dSw,dSt,dWc,dWa,dv,di,dp,ds',atG,atH,nuTn,nuT0,nuT1,nuU0,nuU1,dA12,dP8,dP24,ap2];have HF:Hid (lU w B ns g (N+20) (fun _=>chkV (s1==0&&s2==0&& !(c==0))) [] (.returned (.iface 99 (.int .i64 4))) W10):=hdd ⟨[],rfl,by simp[chkV,e1,e2,e3],_,(R10.out.more (by omega)).few (gF [])⟩;clear R10;go_wp2;go_ret;exact HF.out
end
section
open Go.RowKit Go.Maps Go.Stop Go.Extern
variable{K0:List (Ex×Nat)}{g:Nat}
def aqT(g:Nat)(av:Value)(K0:List (Ex×Nat))(ok:Bool):Prop:=
 ∀(s:Bs) (N:Nat) (K:List (Ex×Nat)) (l:List (Nat×Obj)) (W:World),Run s g N K l W->N+20<=20000->(∀p∈K0,p∈K)->
  Calls Tryz.prog 13 #[.pointer (some ⟨g,0,none⟩),av] W (fun e W'=>∃r,e=.returned r/\(ok=true->r=.nilIface)/\(ok=false->∃t x,r=.iface t x)/\Run s g (N+20) K l W')
theorem arA{d:Nat}{av:Value}{ok:Bool}(h:FnOk 13 g d #[.pointer (some ⟨g,0,none⟩),av] K0 (fun _=>chkV ok) [])(hd:d<=20):aqT g av K0 ok:=by
 intro s N K l W hR hN hK;refine(h s N K l W hR (by omega) hK).mono ?_;rintro e W'⟨ks,-,rfl,hR2⟩;refine⟨_,rfl,fun h=>by rw[h];rfl,fun h=> ?_,hR2.more (by omega)⟩;rw[h];exact⟨_,_,rfl⟩
theorem ErK.shape {S:Nat->Prop}{w:World}{n:Nat}{v:Value}{k:Int}(h:ErK S w n v k):∃t x,v=.iface t x:=by cases h<;>exact⟨_,_,rfl⟩
theorem arM{ca cb cc i j k l:Nat}(ha:ca<18446744073709551616)(hb:cb<18446744073709551616)(hc:cc<18446744073709551616)(h:¬ap7 ca cb cc):aqT g (arcW g 1 ca cb cc i j k l) K0 false:=by
 intro s N K ls W hR hN hK;obtain⟨w1,hw1,hb1,hs1,b1⟩:=pro1 W (.cells #[.int .i64 1,.float .f64 ca,.float .f64 cb,.float .f64 cc,.pointer (some ⟨g,0,none⟩),.int .i64 (i:Int),.pointer (some ⟨g,0,none⟩),.int .i64 (j:Int),.pointer (some ⟨g,0,none⟩),.int .i64 (k:Int),.pointer (some ⟨g,0,none⟩),.int .i64 (l:Int)] 39);have c0:=aB (k:=0) (v:=.int .i64 1) b1 rfl;have c1:=aB (k:=1) (v:=.float .f64 ca) b1 rfl;have c2:=aB (k:=2) (v:=.float .f64 cb) b1 rfl;have c3:=aB (k:=3) (v:=.float .f64 cc) b1 rfl;have HB:=hdd hb1;have HR:=hdd hR;have hN':=hdd hN;have HL:=hdd (aqF (w:=w1) ha hb hc h);clear ha hb hc h hb1 hs1 b1 hR hN hK;go_enter Tryz.func13,Tryz.ntmps13
 go_wp2_with fail
 refine HL.out.mono ?_;rintro e w2⟨er,n,rfl,-,hk,hb2⟩;obtain⟨t,x,rfl⟩:=hk.shape;have HB2:=hdd (aC HB.out hb2);clear hk hb2 HL HB c0 c1 c2 c3 hw1;go_wp2_with fail
 refine(aqN (t:=t) (x:=x)).mono ?_;rintro e w3⟨t2,x2,rfl,hb3⟩;have HF:=hdd ((HR.out.step (aC HB2.out hb3)).more (show N<=N+20 by omega));clear hb3 HB2 HR;go_wp2;go_ret;exact⟨_,rfl,fun h=>by simp at h,fun _=>⟨_,_,rfl⟩,HF.out⟩
end
section
open Go.RowKit Go.Maps
open Re (rat ofI ofN)
variable{X Y:Int}{x y:Nat}
theorem aqW(hx:Iw x X)(hy:Iw y Y)(bx:X.natAbs<=22)(b_y:Y.natAbs<=22):dQ PT (.sub (.leaf x) (.leaf y)) (X-Y).sign:=
 ((hx.fit (L:=[]) 5 (nlt bx) (by decide)).rsub (hy.fit 5 (nlt b_y) (by decide))).sign 1 (by decide) (by push_cast;grind) (by kernel_rfl)
def cmpP(a1 a2 b1 b2:Int):Int:=if (a1-b1).sign=0 then(a2-b2).sign else(a1-b1).sign
theorem arB{a1 a2 b1 b2:Nat}{A1 A2 B1 B2:Int}(h1:Iw a1 A1)(h2:Iw a2 A2)(g1:Iw b1 B1)(g2:Iw b2 B2)(c1:A1.natAbs<=22)(c2:A2.natAbs<=22)(d1:B1.natAbs<=22)(d2:B2.natAbs<=22):iK PT (.leaf a1) (.leaf a2) (.leaf b1) (.leaf b2) (cmpP A1 A2 B1 B2):=
 ⟨(A1-B1).sign,(A2-B2).sign,trivial,aqW h1 g1 c1 d1,fun _=>⟨trivial,aqW h2 g2 c2 d2⟩,rfl⟩
theorem aqH(a b:Int):cmpP a b a b=0:=by unfold cmpP;rw[Int.sub_self,Int.sub_self];rfl
theorem aqX{a b c:Nat}{A B C:Int}(ha:Iw a A)(hb:Iw b B)(hc:Iw c C)(hx:Iw x X)(hy:Iw y Y)(b1:A.natAbs<=6)(b2:B.natAbs<=6)(b3:C.natAbs<=36)(b4:X.natAbs<=22)(b5:Y.natAbs<=22):dQ PT (aqB (.leaf x) (.leaf y) a b c) (A*X+B*Y-C).sign:=by
 have f1:=ha.fit (L:=[]) 3 (nlt b1) (by decide);have f2:=hb.fit (L:=[]) 3 (nlt b2) (by decide);have f3:=hc.fit (L:=[]) 6 (nlt b3) (by decide);have f4:=hx.fit (L:=[]) 5 (nlt b4) (by decide);have f5:=hy.fit (L:=[]) 5 (nlt b5) (by decide);exact(((f1.rmul f4).radd (f2.rmul f5)).rsub f3).sign 1 (by decide) (by push_cast;grind) (by kernel_rfl)
end
section
open Go.RowKit Go.Maps Go.Stop Go.Extern
abbrev arcAW(r:Bool)(x y u v i k o:Int):Value:=.agg #[.bool r,.int .i64 x,.int .i64 y,.int .i64 u,.int .i64 v,.int .i64 i,.int .i64 k,.int .i64 o]
abbrev arcAP(r:Bool)(x y u v i k o:Int):Obj:=.cells #[.bool r,.int .i64 x,.int .i64 y,.int .i64 u,.int .i64 v,.int .i64 i,.int .i64 k,.int .i64 o] 23
abbrev refW(kd:Int)(wa wb wc n:Nat):Value:=.agg #[.int .i64 kd,.float .f64 wa,.float .f64 wb,.float .f64 wc,.int .i64 (n:Int),.int .i64 ((n:Int)+1),.int .i64 ((n:Int)+2),.int .i64 ((n:Int)+2+1)]
def arC(X Y U V I Kk:Int)(wx wy:Nat)(r:Bool)(kd:Int)(wa wb wc p0 p1 q0 q1:Nat):Prop:=
 fl (X.tmod 7)=wx/\fl (Y.tmod 7)=wy/\
 ((r=true/\kd=2/\wa=wx/\wb=wy/\wc=4627730092099895296/\∃J L:Nat,J<12/\(I.tmod 12+12).tmod 12=(J:Int)/\L<12/\(Kk.tmod 12+12).tmod 12=(L:Int)/\Op2 .add wx (kX J) p0/\Op2 .add wy (kY J) p1/\Op2 .add wx (kX L) q0/\Op2 .add wy (kY L) q1)\/
  (r=false/\kd=1/\∃wu ws wt m1 m2 a1 a2 b1 b2:Nat,fl (U.tmod 4)=wu/\fl (V.tmod 4)=wa/\wb=wu ^^^ 2^63/\Op2 .mul wa wx m1/\Op2 .mul wu wy m2/\Op2 .sub m1 m2 wc/\fl (I.tmod 6)=ws/\fl (Kk.tmod 6)=wt/\Op2 .mul ws wu a1/\Op2 .add wx a1 p0/\Op2 .mul ws wa a2/\Op2 .add wy a2 p1/\Op2 .mul wt wu b1/\Op2 .add wx b1 q0/\Op2 .mul wt wa b2/\Op2 .add wy b2 q1))
def arP(oo:Int)(p0 q1 P0 Q1:Nat):Prop:=∃o,Go.bits BinOp.and IntKind.i64 oo 15=o/\
 (((o==1)=true/\(o==2)=false/\Op2 .add p0 4607182418800017408 P0/\Q1=q1)\/((o==1)=false/\(o==2)=true/\P0=p0/\Op2 .add q1 4607182418800017408 Q1)\/((o==1)=false/\(o==2)=false/\P0=p0/\Q1=q1))
theorem aqY{B:Nat}{w0 w1:World}{g k:Nat}{T:TypeId}{cs:List Value}{a:Value}(hb:Below B w0 w1)(hg:B<=g)(h:w1.heap[g]? =some (.cells cs.toArray T (0,0))):
 ∃w2,w1.setCell ⟨g,k,none⟩ a=w2/\Below B w0 w2/\w2.heap[g]? =some (.cells (cs.set k a).toArray T (0,0))/\∀i,g≠i->w2.heap[i]? =w1.heap[i]? :=
 ⟨_,rfl,hb.setCell hg _,kC h,fun i hi=>by rw[Below.heap_setCell _ _ _ _ (by simp;omega)]⟩
end
end Go.Proofs.YtaojpfcboainmaaGreatDoor
