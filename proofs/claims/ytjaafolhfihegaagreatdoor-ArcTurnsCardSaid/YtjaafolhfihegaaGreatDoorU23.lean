/- A part of the proof: contracts of functions and plain laws (TuB). -/
import Derived.Test.YtjaafolhfihegaaGreatDoorU22
set_option linter.unusedVariables false
set_option linter.unusedSimpArgs false
set_option maxHeartbeats 25600000
set_option maxRecDepth 100000
namespace Go.Proofs.YtjaafolhfihegaaGreatDoor
open Go.RowKit Go.Maps
open List renaming setIfInBounds_toArray->bd5,map_cons->bd6,map_nil->bd7,set->bd8
variable{A1 A2 B1 B2:Ex}{c kd s1 s2:Int}{ca cb cc g i j k l:Nat}
abbrev dS(g:Nat)(kd:Int)(a b c i j k l:Nat):List SC:=curC kd a b c++bF g i j++bF g k l
theorem dF{a b c:Nat}{ν:Nat->Nat}:(SW.agg (dS g kd a b c i j k l)).den ν=arcW g kd a b c (ν i) (ν j) (ν k) (ν l):=rfl
def chkV(b:Bool):Value:=if b then .nilIface else .iface 135 (.int .i64 4)
theorem ak2{X Y:Ex}{q:Int}(h1:mE ca cb cc)(s3:gQ PT (wX X Y ca cb cc) q):FnOk 55 g 9 #[.pointer (some ⟨g,0,none⟩),curV 1 ca cb cc,eO g i j] [(X,i),(Y,j)] (fun ks=>.tuple #[.int .i64 q,.nilIface]) []:=FnOk.of fun w B ns N hR hN=>by
 have R1:=hdd hR;clear hR;go_enter Tryz.func55,Tryz.ntmps55
 go_upto_region 0 with fail
 refine Spec.go [.w (.c (.ptr 2 0)),.w (.c (.ptr 3 0)),.w (.c (.v (Value.int IntKind.i64 0))),.w (.c (.v Value.nilIface))] [0,1]
  [(0,X),(1,Y)] [⟨2,29,curC 1 ca cb cc,none⟩,⟨3,33,bF g 0 1,none⟩]
  [0,0,0,0] [[],[],[],[]] [(1,.w (.agg ([.v (.int .i64 1),.v (.float .f64 ca),.v (.float .f64 cb),.v (.float .f64 cc)]))),(2,dA g 0 1)]
  [5,6,7,8] [i,j] 4 N [] [] R1.out
  (fun b hM=>aB (aB (aB (aB aN
    (bC b m0))
    (bC b m1))
    (aF b))
    (aF b)) ?_
 intro b1 b2 ν W2 hR;have R2:=hdd hR;clear hR R1;simp only[putL,bd5,bd8,fs0,fs1,fsn,dSw,dSt,dWc,dWa,dv,di,dp,ds',bd6,bd7,nuTn,nuT0,nuT1,nuU0,nuU1,dA12,dP8,dP24,dF]
 go_upto_region 1 with fail
 refine Spec.go [.w (.agg ([.v (.int .i64 1),.v (.float .f64 ca),.v (.float .f64 cb),.v (.float .f64 cc)])),.w (.c (.v .nilIface)),.w (.c (.v .nilIface))] []
  [(0,X),(1,Y)] [⟨2,29,curC 1 ca cb cc,none⟩,⟨3,33,bF g 0 1,none⟩]
  [0,0,0] [[],[0],[0,1]] [(4,.w (.c (.ptr 2 0)))]
  [10,11,9] [i,j,b1,b2] 3 N [] [] R2.out
  (fun b hM=>aB (aB (aB aN
    (aY b 4 m0))
    (bD b (mH hM rfl rfl rfl (fun w=>zH h1))))
    (aF b)) ?_
 intro ν W3 hR;replace hR:Run ⟨w,B,ns⟩ g N [(X,i),(Y,j)] [(b1,.cells #[(.int .i64 1),(.float .f64 ca),(.float .f64 cb),(.float .f64 cc)] 29),(b2,iL g i j)] W3:=hR;have R3:=hdd hR;clear hR R2;simp only[putL,bd5,bd8,fs0,fs1,fsn,dSw,dSt,dWc,dWa,dv,di,dp,ds',bd6,bd7,nuTn,nuT0,nuT1,nuU0,nuU1,dA12,dP8,dP24,dF];have k0:=aA (k:=0) (v:=.int .i64 1) (R3.out.at m0) rfl
 go_upto_region 5 with fail
 clear k0;refine Spec.go [.w (.c (.v (.pointer (some ⟨g,0,none⟩)))),.w (.agg ([.v (.int .i64 1),.v (.float .f64 ca),.v (.float .f64 cb),.v (.float .f64 cc)])),dA g 0 1,numS g 4,.tup [.c (.v (.int .i64 q)),.c (.v .nilIface)],.w (.c (.v (.int .i64 q))),.w (.c (.v .nilIface)),.w (.c (.v (.int .i64 q))),.w (.c (.v .nilIface))] [3]
  [(0,X),(1,Y),(4,(wX X Y ca cb cc))] [⟨2,29,curC 1 ca cb cc,none⟩,⟨3,33,bF g 0 1,none⟩]
  [0,0,0,7,0,0,0,0,0] [[],[],[],[0,1,2],rgn 4,rgn 5,rgn 5,rgn 6,[0,1,2,3,4,6]] [(0,.w (.c (.v (.pointer (some ⟨g,0,none⟩))))),(4,.w (.c (.ptr 2 0))),(5,.w (.c (.ptr 3 0)))]
  [18,19,20,21,22,23,24,7,8] [i,j,b1,b2] 9 (N+7) [] [] R3.out
  (fun b hM=>aB (aB (aB (aB (aB (aB (aB (aB (aB aN
    (aF b))
    (aY b 4 m0))
    (aY b 4 m1))
    (bD b (c_fn (ix:=[0,1]) (ts:=[4]) hM (fun ν=>aeI h1.1 h1.2.1 h1.2.2.1))))
    (bD b (akV hM m2 rfl rfl rfl rfl s3)))
    (aF b))
    (aF b))
    (aF b))
    (aF b)) ?_
 intro n3 ν W4 hR;replace hR:Run ⟨w,B,ns⟩ g (N+7) [(X,i),(Y,j),((wX X Y ca cb cc),n3)] [(b1,.cells #[(.int .i64 1),(.float .f64 ca),(.float .f64 cb),(.float .f64 cc)] 29),(b2,iL g i j)] W4:=hR;have R4:=hdd hR;clear hR R3;simp only[putL,bd5,bd8,fs0,fs1,fsn,dSw,dSt,dWc,dWa,dv,di,dp,ds',bd6,bd7,nuTn,nuT0,nuT1,nuU0,nuU1,dA12,dP8,dP24,dF];have HF:Hid (pK w B ns g (N+9) (fun _=>.tuple #[.int .i64 q,.nilIface]) [] (.returned (.tuple #[.int .i64 q,.nilIface])) W4):=hdd ⟨[],rfl,rfl,_,(R4.out.more (by omega)).few (fP [])⟩;clear R4;go_wp2
 go_ret2
 exact HF.out
theorem uR(h1:wP ca cb cc)(h0:(FloatKind.f64.format.order cc 0==some Ordering.eq)=false)(t1:gQ PT (wW ca cb cc A1 A2) s1)(t2:gQ PT (wW ca cb cc B1 B2) s2):FnOk 16 g 18 #[.pointer (some ⟨g,0,none⟩),arcW g 2 ca cb cc i j k l] [(A1,i),(A2,j),(B1,k),(B2,l)] (fun ks=>chkV (s1==0&&s2==0)) []:=FnOk.of fun w B ns N hR hN=>by
 have R1:=hdd hR;clear hR;go_enter Tryz.func16,Tryz.ntmps16
 go_upto_region 0 with fail
 refine Spec.go [.w (.c (.ptr 4 0)),.w (.c (.v Value.nilIface))] [0]
  [(0,A1),(1,A2),(2,B1),(3,B2)] [⟨4,35,(arcC g ca cb cc 0 1 2 3),none⟩]
  [0,0] [[],[]] [(1,.w (.agg ((arcC g ca cb cc 0 1 2 3))))]
  [4,5] [i,j,k,l] 2 N [] [] R1.out
  (fun b hM=>aB (aB aN
    (bC b m0))
    (aF b)) ?_
 intro b1 ν W2 hR;have R2:=hdd hR;clear hR R1;simp only[putL,bd5,bd8,fs0,fs1,fsn,dSw,dSt,dWc,dWa,dv,di,dp,ds',bd6,bd7,nuTn,nuT0,nuT1,nuU0,nuU1,dA12,dP8,dP24,dF]
 go_upto_region 1 with fail
 refine Spec.go [.w (.c (.ptr 4 0)),.w (.agg ([.v (.int .i64 2),.v (.float .f64 ca),.v (.float .f64 cb),.v (.float .f64 cc)])),.w (.c (.v .nilIface)),.w (.c (.v .nilIface))] []
  [(0,A1),(1,A2),(2,B1),(3,B2)] [⟨4,35,(arcC g ca cb cc 0 1 2 3),none⟩]
  [0,0,0,0] [[],[0],[0,1],[0,1,2]] [(3,.w (.c (.ptr 4 0)))]
  [13,14,15,6] [i,j,k,l,b1] 4 N [] [] R2.out
  (fun b hM=>aB (aB (aB (aB aN
    (aF b))
    (aY b 4 m0))
    (bD b (mH hM rfl rfl rfl (fun w=>zI h1))))
    (aF b)) ?_
 intro ν W3 hR;have R3:=hdd hR;clear hR R2;simp only[putL,bd5,bd8,fs0,fs1,fsn,dSw,dSt,dWc,dWa,dv,di,dp,ds',bd6,bd7,nuTn,nuT0,nuT1,nuU0,nuU1,dA12,dP8,dP24,dF]
 go_upto_region 4 with fail
 refine Spec.go [.w (.c (.ptr 4 4)),dA g 0 1,.w (.c (.ptr 4 8)),dA g 2 3,.w (.agg ((pM g 0 1 2 3))),.w (.c (.v (Value.int IntKind.i64 0)))] []
  [(0,A1),(1,A2),(2,B1),(3,B2)] [⟨4,35,(arcC g ca cb cc 0 1 2 3),none⟩]
  [0,0,0,0,0,0] [[],[0],[],[2],rgn 4,[]] [(3,.w (.c (.ptr 4 0)))]
  [20,21,22,23,24,25] [i,j,k,l,b1] 6 N [] [] R3.out
  (fun b hM=>aB (aB (aB (aB (aB (aB aN
    (aF b))
    (aY b 4 m0))
    (aF b))
    (aY b 4 m0))
    (aF b))
    (aF b)) ?_
 intro ν W4 hR;have R4:=hdd hR;clear hR R3;simp only[putL,bd5,bd8,fs0,fs1,fsn,dSw,dSt,dWc,dWa,dv,di,dp,ds',bd6,bd7,nuTn,nuT0,nuT1,nuU0,nuU1,dA12,dP8,dP24,dF];go_wp2_with fail
 refine wp_loop_rounds 3 ?_;rw[rounds_succ]
 go_upto_region 6 with fail
 refine Spec.go [dA g 0 1,.w (.c (.ptr 5 0)),noS] [1]
  [(0,A1),(1,A2),(2,B1),(3,B2)] [⟨4,35,(arcC g ca cb cc 0 1 2 3),none⟩,⟨5,33,[.v (.pointer none),.v (.int .i64 0),.v (.pointer none),.v (.int .i64 0)],some (2,bF g 0 1)⟩]
  [0,0,0] [[],[],[0,1]] [(23,.w (.agg ((pM g 0 1 2 3)))),(24,.w (.c (.v (.int .i64 0))))]
  [27,8,0] [i,j,k,l,b1] 3 N [] [] R4.out
  (fun b hM=>aB (aB (aB aN
    (aF b))
    (bC b m1))
    (dD b 4 m1)) ?_
 intro b2 ν W5 hR;have R5:=hdd hR;clear hR R4;simp only[putL,bd5,bd8,fs0,fs1,fsn,dSw,dSt,dWc,dWa,dv,di,dp,ds',bd6,bd7,nuTn,nuT0,nuT1,nuU0,nuU1,dA12,dP8,dP24,dF]
 go_upto_region 7 with fail
 refine Spec.go [.w (.c (.v (.pointer (some ⟨g,0,none⟩)))),.w (.c (.ptr 4 0)),.w (.agg ([.v (.int .i64 2),.v (.float .f64 ca),.v (.float .f64 cb),.v (.float .f64 cc)])),dA g 0 1,.tup [.c (.v (.int .i64 s1)),.c (.v .nilIface)],.tup [.c (.v (.int .i64 s1)),.c (.v .nilIface)],.w (.c (.v (.int .i64 s1))),.w (.c (.v .nilIface)),.w (.c (.v (.int .i64 s1))),.w (.c (.v .nilIface))] []
  [(0,A1),(1,A2),(2,B1),(3,B2)] [⟨4,35,(arcC g ca cb cc 0 1 2 3),none⟩,⟨5,33,bF g 0 1,none⟩]
  [0,0,0,0,9,0,0,0,0,0] [[],[],[1],[],rgn 4,rgn 5,rgn 6,rgn 6,rgn 7,[0,1,2,3,4,5,7]] [(0,.w (.c (.v (.pointer (some ⟨g,0,none⟩))))),(3,.w (.c (.ptr 4 0))),(7,.w (.c (.ptr 5 0)))]
  [29,30,31,32,33,28,34,35,9,10] [i,j,k,l,b1,b2] 10 (N+9) [] [] R5.out
  (fun b hM=>aB (aB (aB (aB (aB (aB (aB (aB (aB (aB aN
    (aF b))
    (aF b))
    (aY b 4 m0))
    (aY b 4 m1))
    (bD b (c_fn (ix:=[0,1]) (ts:=[]) hM (fun ν=>aoF h1 t1))))
    (aF b))
    (aF b))
    (aF b))
    (aF b))
    (aF b)) ?_
 intro ν W6 hR;have R6:=hdd hR;clear hR R5;simp only[putL,bd5,bd8,fs0,fs1,fsn,dSw,dSt,dWc,dWa,dv,di,dp,ds',bd6,bd7,nuTn,nuT0,nuT1,nuU0,nuU1,dA12,dP8,dP24,dF]
 cases e1:(s1==0)
 . have n1:(s1 != 0)=true:=by simp[bne,e1]
   go_upto_region 11 with fail
   refine Spec.go [.w (.c (.v (.iface 135 (.int .i64 4)))),.w (.c (.v (.iface 135 (.int .i64 4))))] []
    [] []
    [0,0] [[],[0]] []
    [42,5] [] 2 (N+9) [false,false,false,false] [false,false] R6.out
    (fun b hM=>aB (aB aN
      (bD b (mH hM rfl rfl rfl (fun w=>jI))))
      (aF b)) ?_
   intro ν W7 hR;replace hR:Run ⟨w,B,ns⟩ g (N+9) [] [] W7:=hR;have R7:=hdd hR;clear hR R6;simp only[putL,bd5,bd8,fs0,fs1,fsn,dSw,dSt,dWc,dWa,dv,di,dp,ds',bd6,bd7,nuTn,nuT0,nuT1,nuU0,nuU1,dA12,dP8,dP24,dF];have HF:Hid (pK w B ns g (N+18) (fun _=>chkV (s1==0&&s2==0)) [] (.returned (.iface 135 (.int .i64 4))) W7):=hdd ⟨[],rfl,by simp[chkV,e1],_,(R7.out.more (by omega)).few (fP [])⟩;clear R7;go_wp2;go_ret;exact HF.out
 . have n1:(s1 != 0)=false:=by simp[bne,e1]
   go_wp2_with fail
   rw[rounds_succ]
   go_upto_region 6 with fail
   refine Spec.go [dA g 2 3,.w (.c (.ptr 6 0)),noS] [1]
    [(0,A1),(1,A2),(2,B1),(3,B2)] [⟨4,35,(arcC g ca cb cc 0 1 2 3),none⟩,⟨5,33,bF g 0 1,none⟩,⟨6,33,[.v (.pointer none),.v (.int .i64 0),.v (.pointer none),.v (.int .i64 0)],some (2,bF g 2 3)⟩]
    [0,0,0] [[],[],[0,1]] [(23,.w (.agg ((pM g 0 1 2 3)))),(24,.w (.c (.v (.int .i64 1))))]
    [27,8,0] [i,j,k,l,b1,b2] 3 (N+9) [] [] R6.out
    (fun b hM=>aB (aB (aB aN
      (aF b))
      (bC b m2))
      (dD b 4 m2)) ?_
   intro b3 ν W7 hR;have R7:=hdd hR;clear hR R6;simp only[putL,bd5,bd8,fs0,fs1,fsn,dSw,dSt,dWc,dWa,dv,di,dp,ds',bd6,bd7,nuTn,nuT0,nuT1,nuU0,nuU1,dA12,dP8,dP24,dF]
   go_upto_region 7 with fail
   refine Spec.go [.w (.c (.v (.pointer (some ⟨g,0,none⟩)))),.w (.c (.ptr 4 0)),.w (.agg ([.v (.int .i64 2),.v (.float .f64 ca),.v (.float .f64 cb),.v (.float .f64 cc)])),dA g 2 3,.tup [.c (.v (.int .i64 s2)),.c (.v .nilIface)],.tup [.c (.v (.int .i64 s2)),.c (.v .nilIface)],.w (.c (.v (.int .i64 s2))),.w (.c (.v .nilIface)),.w (.c (.v (.int .i64 s2))),.w (.c (.v .nilIface))] []
    [(0,A1),(1,A2),(2,B1),(3,B2)] [⟨4,35,(arcC g ca cb cc 0 1 2 3),none⟩,⟨5,33,bF g 2 3,none⟩]
    [0,0,0,0,9,0,0,0,0,0] [[],[],[1],[],rgn 4,rgn 5,rgn 6,rgn 6,rgn 7,[0,1,2,3,4,5,7]] [(0,.w (.c (.v (.pointer (some ⟨g,0,none⟩))))),(3,.w (.c (.ptr 4 0))),(7,.w (.c (.ptr 5 0)))]
    [29,30,31,32,33,28,34,35,9,10] [i,j,k,l,b1,b3] 10 (N+18) [] [true,false] R7.out
    (fun b hM=>aB (aB (aB (aB (aB (aB (aB (aB (aB (aB aN
      (aF b))
      (aF b))
      (aY b 4 m0))
      (aY b 4 m1))
      (bD b (c_fn (ix:=[2,3]) (ts:=[]) hM (fun ν=>aoF h1 t2))))
      (aF b))
      (aF b))
      (aF b))
      (aF b))
      (aF b)) ?_
   intro ν W8 hR;replace hR:Run ⟨w,B,ns⟩ g (N+18) [(A1,i),(A2,j),(B1,k),(B2,l)] [(b1,.cells #[(.int .i64 2),(.float .f64 ca),(.float .f64 cb),(.float .f64 cc),.pointer (some ⟨g,0,none⟩),.int .i64 ((i:Nat):Int),.pointer (some ⟨g,0,none⟩),.int .i64 ((j:Nat):Int),.pointer (some ⟨g,0,none⟩),.int .i64 ((k:Nat):Int),.pointer (some ⟨g,0,none⟩),.int .i64 ((l:Nat):Int)] 35),(b3,iL g k l)] W8:=hR;have R8:=hdd hR;clear hR R7;simp only[putL,bd5,bd8,fs0,fs1,fsn,dSw,dSt,dWc,dWa,dv,di,dp,ds',bd6,bd7,nuTn,nuT0,nuT1,nuU0,nuU1,dA12,dP8,dP24,dF]
   cases e2:(s2==0)
   . have n1:(s2 != 0)=true:=by simp[bne,e2]
     go_upto_region 11 with fail
     refine Spec.go [.w (.c (.v (.iface 135 (.int .i64 4)))),.w (.c (.v (.iface 135 (.int .i64 4))))] []
      [] []
      [0,0] [[],[0]] []
      [42,5] [] 2 (N+18) [false,false,false,false] [false,false] R8.out
      (fun b hM=>aB (aB aN
        (bD b (mH hM rfl rfl rfl (fun w=>jI))))
        (aF b)) ?_
     intro ν W9 hR;replace hR:Run ⟨w,B,ns⟩ g (N+18) [] [] W9:=hR;have R9:=hdd hR;clear hR R8;simp only[putL,bd5,bd8,fs0,fs1,fsn,dSw,dSt,dWc,dWa,dv,di,dp,ds',bd6,bd7,nuTn,nuT0,nuT1,nuU0,nuU1,dA12,dP8,dP24,dF];have HF:Hid (pK w B ns g (N+18) (fun _=>chkV (s1==0&&s2==0)) [] (.returned (.iface 135 (.int .i64 4))) W9):=hdd ⟨[],rfl,by simp[chkV,e1,e2],_,(R9.out.more (by omega)).few (fP [])⟩;clear R9;go_wp2;go_ret;exact HF.out
   . have n2:(s2 != 0)=false:=by simp[bne,e2]
     go_wp2_with fail
     rw[rounds_succ];have k0:=aA (k:=0) (v:=.int .i64 2) (R8.out.at m0) rfl;have k3:=aA (k:=3) (v:=.float .f64 cc) (R8.out.at m0) rfl;have HF:Hid (pK w B ns g (N+18) (fun _=>chkV (s1==0&&s2==0)) [] (.returned (.nilIface)) W8):=hdd ⟨[],rfl,by simp[chkV,e1,e2],_,(R8.out.more (by omega)).few (fP [])⟩;clear R8;go_wp2;go_ret;exact HF.out
theorem uS(h1:mE ca cb cc)(t1:gQ PT (wX A1 A2 ca cb cc) s1)(t2:gQ PT (wX B1 B2 ca cb cc) s2)(t3:iR PT A1 A2 B1 B2 c):FnOk 16 g 20 #[.pointer (some ⟨g,0,none⟩),arcW g 1 ca cb cc i j k l] [(A1,i),(A2,j),(B1,k),(B2,l)] (fun ks=>chkV (s1==0&&s2==0&& !(c==0))) []:=FnOk.of fun w B ns N hR hN=>by
 have R1:=hdd hR;clear hR;go_enter Tryz.func16,Tryz.ntmps16
 go_upto_region 0 with fail
 refine Spec.go [.w (.c (.ptr 4 0)),.w (.c (.v Value.nilIface))] [0]
  [(0,A1),(1,A2),(2,B1),(3,B2)] [⟨4,35,(dS g 1 ca cb cc 0 1 2 3),none⟩]
  [0,0] [[],[]] [(1,.w (.agg ((dS g 1 ca cb cc 0 1 2 3))))]
  [4,5] [i,j,k,l] 2 N [] [] R1.out
  (fun b hM=>aB (aB aN
    (bC b m0))
    (aF b)) ?_
 intro b1 ν W2 hR;have R2:=hdd hR;clear hR R1;simp only[putL,bd5,bd8,fs0,fs1,fsn,dSw,dSt,dWc,dWa,dv,di,dp,ds',bd6,bd7,nuTn,nuT0,nuT1,nuU0,nuU1,dA12,dP8,dP24,dF]
 go_upto_region 1 with fail
 refine Spec.go [.w (.c (.ptr 4 0)),.w (.agg ([.v (.int .i64 1),.v (.float .f64 ca),.v (.float .f64 cb),.v (.float .f64 cc)])),.w (.c (.v .nilIface)),.w (.c (.v .nilIface))] []
  [(0,A1),(1,A2),(2,B1),(3,B2)] [⟨4,35,(dS g 1 ca cb cc 0 1 2 3),none⟩]
  [0,0,0,0] [[],[0],[0,1],[0,1,2]] [(3,.w (.c (.ptr 4 0)))]
  [13,14,15,6] [i,j,k,l,b1] 4 N [] [] R2.out
  (fun b hM=>aB (aB (aB (aB aN
    (aF b))
    (aY b 4 m0))
    (bD b (mH hM rfl rfl rfl (fun w=>zH h1))))
    (aF b)) ?_
 intro ν W3 hR;have R3:=hdd hR;clear hR R2;simp only[putL,bd5,bd8,fs0,fs1,fsn,dSw,dSt,dWc,dWa,dv,di,dp,ds',bd6,bd7,nuTn,nuT0,nuT1,nuU0,nuU1,dA12,dP8,dP24,dF]
 go_upto_region 4 with fail
 refine Spec.go [.w (.c (.ptr 4 4)),dA g 0 1,.w (.c (.ptr 4 8)),dA g 2 3,.w (.agg ((pM g 0 1 2 3))),.w (.c (.v (Value.int IntKind.i64 0)))] []
  [(0,A1),(1,A2),(2,B1),(3,B2)] [⟨4,35,(dS g 1 ca cb cc 0 1 2 3),none⟩]
  [0,0,0,0,0,0] [[],[0],[],[2],rgn 4,[]] [(3,.w (.c (.ptr 4 0)))]
  [20,21,22,23,24,25] [i,j,k,l,b1] 6 N [] [] R3.out
  (fun b hM=>aB (aB (aB (aB (aB (aB aN
    (aF b))
    (aY b 4 m0))
    (aF b))
    (aY b 4 m0))
    (aF b))
    (aF b)) ?_
 intro ν W4 hR;have R4:=hdd hR;clear hR R3;simp only[putL,bd5,bd8,fs0,fs1,fsn,dSw,dSt,dWc,dWa,dv,di,dp,ds',bd6,bd7,nuTn,nuT0,nuT1,nuU0,nuU1,dA12,dP8,dP24,dF];go_wp2_with fail
 refine wp_loop_rounds 3 ?_;rw[rounds_succ]
 go_upto_region 6 with fail
 refine Spec.go [dA g 0 1,.w (.c (.ptr 5 0)),noS] [1]
  [(0,A1),(1,A2),(2,B1),(3,B2)] [⟨4,35,(dS g 1 ca cb cc 0 1 2 3),none⟩,⟨5,33,[.v (.pointer none),.v (.int .i64 0),.v (.pointer none),.v (.int .i64 0)],some (2,bF g 0 1)⟩]
  [0,0,0] [[],[],[0,1]] [(23,.w (.agg ((pM g 0 1 2 3)))),(24,.w (.c (.v (.int .i64 0))))]
  [27,8,0] [i,j,k,l,b1] 3 N [] [] R4.out
  (fun b hM=>aB (aB (aB aN
    (aF b))
    (bC b m1))
    (dD b 4 m1)) ?_
 intro b2 ν W5 hR;have R5:=hdd hR;clear hR R4;simp only[putL,bd5,bd8,fs0,fs1,fsn,dSw,dSt,dWc,dWa,dv,di,dp,ds',bd6,bd7,nuTn,nuT0,nuT1,nuU0,nuU1,dA12,dP8,dP24,dF]
 go_upto_region 7 with fail
 refine Spec.go [.w (.c (.v (.pointer (some ⟨g,0,none⟩)))),.w (.c (.ptr 4 0)),.w (.agg ([.v (.int .i64 1),.v (.float .f64 ca),.v (.float .f64 cb),.v (.float .f64 cc)])),dA g 0 1,.tup [.c (.v (.int .i64 s1)),.c (.v .nilIface)],.tup [.c (.v (.int .i64 s1)),.c (.v .nilIface)],.w (.c (.v (.int .i64 s1))),.w (.c (.v .nilIface)),.w (.c (.v (.int .i64 s1))),.w (.c (.v .nilIface))] []
  [(0,A1),(1,A2),(2,B1),(3,B2)] [⟨4,35,(dS g 1 ca cb cc 0 1 2 3),none⟩,⟨5,33,bF g 0 1,none⟩]
  [0,0,0,0,9,0,0,0,0,0] [[],[],[1],[],rgn 4,rgn 5,rgn 6,rgn 6,rgn 7,[0,1,2,3,4,5,7]] [(0,.w (.c (.v (.pointer (some ⟨g,0,none⟩))))),(3,.w (.c (.ptr 4 0))),(7,.w (.c (.ptr 5 0)))]
  [29,30,31,32,33,28,34,35,9,10] [i,j,k,l,b1,b2] 10 (N+9) [] [] R5.out
  (fun b hM=>aB (aB (aB (aB (aB (aB (aB (aB (aB (aB aN
    (aF b))
    (aF b))
    (aY b 4 m0))
    (aY b 4 m1))
    (bD b (c_fn (ix:=[0,1]) (ts:=[]) hM (fun ν=>ak2 h1 t1))))
    (aF b))
    (aF b))
    (aF b))
    (aF b))
    (aF b)) ?_
 intro ν W6 hR;have R6:=hdd hR;clear hR R5;simp only[putL,bd5,bd8,fs0,fs1,fsn,dSw,dSt,dWc,dWa,dv,di,dp,ds',bd6,bd7,nuTn,nuT0,nuT1,nuU0,nuU1,dA12,dP8,dP24,dF]
 cases e1:(s1==0)
 . have n1:(s1 != 0)=true:=by simp[bne,e1]
   go_upto_region 11 with fail
   refine Spec.go [.w (.c (.v (.iface 135 (.int .i64 4)))),.w (.c (.v (.iface 135 (.int .i64 4))))] []
    [] []
    [0,0] [[],[0]] []
    [42,5] [] 2 (N+9) [false,false,false,false] [false,false] R6.out
    (fun b hM=>aB (aB aN
      (bD b (mH hM rfl rfl rfl (fun w=>jI))))
      (aF b)) ?_
   intro ν W7 hR;replace hR:Run ⟨w,B,ns⟩ g (N+9) [] [] W7:=hR;have R7:=hdd hR;clear hR R6;simp only[putL,bd5,bd8,fs0,fs1,fsn,dSw,dSt,dWc,dWa,dv,di,dp,ds',bd6,bd7,nuTn,nuT0,nuT1,nuU0,nuU1,dA12,dP8,dP24,dF];have HF:Hid (pK w B ns g (N+20) (fun _=>chkV (s1==0&&s2==0&& !(c==0))) [] (.returned (.iface 135 (.int .i64 4))) W7):=hdd ⟨[],rfl,by simp[chkV,e1],_,(R7.out.more (by omega)).few (fP [])⟩;clear R7;go_wp2;go_ret;exact HF.out
 . have n1:(s1 != 0)=false:=by simp[bne,e1]
   go_wp2_with fail
   rw[rounds_succ]
   go_upto_region 6 with fail
   refine Spec.go [dA g 2 3,.w (.c (.ptr 6 0)),noS] [1]
    [(0,A1),(1,A2),(2,B1),(3,B2)] [⟨4,35,(dS g 1 ca cb cc 0 1 2 3),none⟩,⟨5,33,bF g 0 1,none⟩,⟨6,33,[.v (.pointer none),.v (.int .i64 0),.v (.pointer none),.v (.int .i64 0)],some (2,bF g 2 3)⟩]
    [0,0,0] [[],[],[0,1]] [(23,.w (.agg ((pM g 0 1 2 3)))),(24,.w (.c (.v (.int .i64 1))))]
    [27,8,0] [i,j,k,l,b1,b2] 3 (N+9) [] [] R6.out
    (fun b hM=>aB (aB (aB aN
      (aF b))
      (bC b m2))
      (dD b 4 m2)) ?_
   intro b3 ν W7 hR;have R7:=hdd hR;clear hR R6;simp only[putL,bd5,bd8,fs0,fs1,fsn,dSw,dSt,dWc,dWa,dv,di,dp,ds',bd6,bd7,nuTn,nuT0,nuT1,nuU0,nuU1,dA12,dP8,dP24,dF]
   go_upto_region 7 with fail
   refine Spec.go [.w (.c (.v (.pointer (some ⟨g,0,none⟩)))),.w (.c (.ptr 4 0)),.w (.agg ([.v (.int .i64 1),.v (.float .f64 ca),.v (.float .f64 cb),.v (.float .f64 cc)])),dA g 2 3,.tup [.c (.v (.int .i64 s2)),.c (.v .nilIface)],.tup [.c (.v (.int .i64 s2)),.c (.v .nilIface)],.w (.c (.v (.int .i64 s2))),.w (.c (.v .nilIface)),.w (.c (.v (.int .i64 s2))),.w (.c (.v .nilIface))] []
    [(0,A1),(1,A2),(2,B1),(3,B2)] [⟨4,35,(dS g 1 ca cb cc 0 1 2 3),none⟩,⟨5,33,bF g 2 3,none⟩]
    [0,0,0,0,9,0,0,0,0,0] [[],[],[1],[],rgn 4,rgn 5,rgn 6,rgn 6,rgn 7,[0,1,2,3,4,5,7]] [(0,.w (.c (.v (.pointer (some ⟨g,0,none⟩))))),(3,.w (.c (.ptr 4 0))),(7,.w (.c (.ptr 5 0)))]
    [29,30,31,32,33,28,34,35,9,10] [i,j,k,l,b1,b3] 10 (N+18) [] [true,false] R7.out
    (fun b hM=>aB (aB (aB (aB (aB (aB (aB (aB (aB (aB aN
      (aF b))
      (aF b))
      (aY b 4 m0))
      (aY b 4 m1))
      (bD b (c_fn (ix:=[2,3]) (ts:=[]) hM (fun ν=>ak2 h1 t2))))
      (aF b))
      (aF b))
      (aF b))
      (aF b))
      (aF b)) ?_
   intro ν W8 hR;replace hR:Run ⟨w,B,ns⟩ g (N+18) [(A1,i),(A2,j),(B1,k),(B2,l)] [(b1,.cells #[(.int .i64 1),(.float .f64 ca),(.float .f64 cb),(.float .f64 cc),.pointer (some ⟨g,0,none⟩),.int .i64 ((i:Nat):Int),.pointer (some ⟨g,0,none⟩),.int .i64 ((j:Nat):Int),.pointer (some ⟨g,0,none⟩),.int .i64 ((k:Nat):Int),.pointer (some ⟨g,0,none⟩),.int .i64 ((l:Nat):Int)] 35),(b3,iL g k l)] W8:=hR;have R8:=hdd hR;clear hR R7;simp only[putL,bd5,bd8,fs0,fs1,fsn,dSw,dSt,dWc,dWa,dv,di,dp,ds',bd6,bd7,nuTn,nuT0,nuT1,nuU0,nuU1,dA12,dP8,dP24,dF]
   cases e2:(s2==0)
   . have n1:(s2 != 0)=true:=by simp[bne,e2]
     go_upto_region 11 with fail
     refine Spec.go [.w (.c (.v (.iface 135 (.int .i64 4)))),.w (.c (.v (.iface 135 (.int .i64 4))))] []
      [] []
      [0,0] [[],[0]] []
      [42,5] [] 2 (N+18) [false,false,false,false] [false,false] R8.out
      (fun b hM=>aB (aB aN
        (bD b (mH hM rfl rfl rfl (fun w=>jI))))
        (aF b)) ?_
     intro ν W9 hR;replace hR:Run ⟨w,B,ns⟩ g (N+18) [] [] W9:=hR;have R9:=hdd hR;clear hR R8;simp only[putL,bd5,bd8,fs0,fs1,fsn,dSw,dSt,dWc,dWa,dv,di,dp,ds',bd6,bd7,nuTn,nuT0,nuT1,nuU0,nuU1,dA12,dP8,dP24,dF];have HF:Hid (pK w B ns g (N+20) (fun _=>chkV (s1==0&&s2==0&& !(c==0))) [] (.returned (.iface 135 (.int .i64 4))) W9):=hdd ⟨[],rfl,by simp[chkV,e1,e2],_,(R9.out.more (by omega)).few (fP [])⟩;clear R9;go_wp2;go_ret;exact HF.out
   . have n2:(s2 != 0)=false:=by simp[bne,e2]
     go_wp2_with fail
     rw[rounds_succ];have k0:=aA (k:=0) (v:=.int .i64 1) (R8.out.at m0) rfl
     go_upto_region 17 with fail
     clear k0;refine Spec.go [.w (.c (.ptr 4 4)),dA g 0 1,.w (.c (.ptr 4 8)),dA g 2 3,.tup [.c (.v (.bool (c==0))),.c (.v .nilIface)],.tup [.c (.v (.bool (c==0))),.c (.v .nilIface)],.w (.c (.v (.bool (c==0)))),.w (.c (.v .nilIface)),.w (.c (.v (.bool (c==0)))),.w (.c (.v .nilIface))] []
      [(0,A1),(1,A2),(2,B1),(3,B2)] [⟨4,35,(dS g 1 ca cb cc 0 1 2 3),none⟩]
      [0,0,0,0,2,0,0,0,0,0] [[],[0],[],[2],rgn 4,rgn 5,rgn 6,rgn 6,rgn 7,[0,1,2,3,4,5,7]] [(3,.w (.c (.ptr 4 0)))]
      [54,55,56,57,58,53,59,60,11,12] [i,j,k,l,b1] 10 (N+20) [] [true,false] R8.out
      (fun b hM=>aB (aB (aB (aB (aB (aB (aB (aB (aB (aB aN
        (aF b))
        (aY b 4 m0))
        (aF b))
        (aY b 4 m0))
        (bD b (aeH hM m0 m1 rfl rfl m2 m3 rfl rfl rfl rfl rfl t3)))
        (aF b))
        (aF b))
        (aF b))
        (aF b))
        (aF b)) ?_
     intro ν W9 hR;have R9:=hdd hR;clear hR R8;simp only[putL,bd5,bd8,fs0,fs1,fsn,dSw,dSt,dWc,dWa,dv,di,dp,ds',bd6,bd7,nuTn,nuT0,nuT1,nuU0,nuU1,dA12,dP8,dP24,dF]
     cases e3:(c==0)
     . have HF:Hid (pK w B ns g (N+20) (fun _=>chkV (s1==0&&s2==0&& !(c==0))) [] (.returned (.nilIface)) W9):=hdd ⟨[],rfl,by simp[chkV,e1,e2,e3],_,(R9.out.more (by omega)).few (fP [])⟩
       clear R9;go_wp2;go_ret;exact HF.out
     . go_upto_region 21 with fail
       refine Spec.go [.w (.c (.v (.iface 135 (.int .i64 4)))),.w (.c (.v (.iface 135 (.int .i64 4))))] []
        [] []
        [0,0] [[],[0]] []
        [66,5] [] 2 (N+20) [false,false,false,false] [false] R9.out
        (fun b hM=>aB (aB aN
          (bD b (mH hM rfl rfl rfl (fun w=>jI))))
          (aF b)) ?_
       intro ν W10 hR;replace hR:Run ⟨w,B,ns⟩ g (N+20) [] [] W10:=hR;have R10:=hdd hR;clear hR R9;simp only[putL,bd5,bd8,fs0,fs1,fsn,dSw,dSt,dWc,dWa,dv,di,dp,ds',bd6,bd7,nuTn,nuT0,nuT1,nuU0,nuU1,dA12,dP8,dP24,dF];have HF:Hid (pK w B ns g (N+20) (fun _=>chkV (s1==0&&s2==0&& !(c==0))) [] (.returned (.iface 135 (.int .i64 4))) W10):=hdd ⟨[],rfl,by simp[chkV,e1,e2,e3],_,(R10.out.more (by omega)).few (fP [])⟩;clear R10;go_wp2;go_ret;exact HF.out
theorem oO(h:iR PT A1 A2 B1 B2 c)(hc:decide (0<c)=false):FnOk 17 g 2 #[arcW g kd ca cb cc i j k l] [(A1,i),(A2,j),(B1,k),(B2,l)] (fun ks=>.tuple #[eO g (ks.getD 0 0) (ks.getD 1 0),eO g (ks.getD 2 0) (ks.getD 3 0),.nilIface]) [A1,A2,B1,B2]:=FnOk.of fun w B ns N hR hN=>by
 have R1:=hdd hR;clear hR;go_enter Tryz.func17,Tryz.ntmps17
 go_upto_region 0 with fail
 refine Spec.go [.w (.c (.ptr 4 0)),.w (.c (.ptr 5 0)),.w (.c (.ptr 6 0)),.w (.c (.v Value.nilIface))] [0,1,2]
  [(0,A1),(1,A2),(2,B1),(3,B2)] [⟨4,35,(dS g kd ca cb cc 0 1 2 3),none⟩,⟨5,33,[.v (.pointer none),.v (.int .i64 0),.v (.pointer none),.v (.int .i64 0)],none⟩,⟨6,33,[.v (.pointer none),.v (.int .i64 0),.v (.pointer none),.v (.int .i64 0)],none⟩]
  [0,0,0,0] [[],[],[],[]] [(0,.w (.agg ((dS g kd ca cb cc 0 1 2 3))))]
  [2,3,4,5] [i,j,k,l] 4 N [] [] R1.out
  (fun b hM=>aB (aB (aB (aB aN
    (bC b m0))
    (bC b m1))
    (bC b m2))
    (aF b)) ?_
 intro b1 b2 b3 ν W2 hR;have R2:=hdd hR;clear hR R1;simp only[putL,bd5,bd8,fs0,fs1,fsn,dSw,dSt,dWc,dWa,dv,di,dp,ds',bd6,bd7,nuTn,nuT0,nuT1,nuU0,nuU1,dA12,dP8,dP24,dF]
 go_upto_region 1 with fail
 refine Spec.go [.w (.c (.ptr 4 4)),dA g 0 1,.w (.c (.ptr 4 8)),dA g 2 3,.tup [.c (.v (.int .i64 c)),.c (.v .nilIface)],.tup [.c (.v (.int .i64 c)),.c (.v .nilIface)],.w (.c (.v (.int .i64 c))),.w (.c (.v .nilIface)),.w (.c (.v (.int .i64 c))),.w (.c (.v .nilIface))] []
  [(0,A1),(1,A2),(2,B1),(3,B2)] [⟨4,35,(dS g kd ca cb cc 0 1 2 3),none⟩,⟨5,33,[.v (.pointer none),.v (.int .i64 0),.v (.pointer none),.v (.int .i64 0)],none⟩,⟨6,33,[.v (.pointer none),.v (.int .i64 0),.v (.pointer none),.v (.int .i64 0)],none⟩]
  [0,0,0,0,2,0,0,0,0,0] [[],[0],[],[2],rgn 4,rgn 5,rgn 6,rgn 6,rgn 7,[0,1,2,3,4,5,7]] [(1,.w (.c (.ptr 4 0)))]
  [9,10,11,12,13,8,14,15,6,7] [i,j,k,l,b1,b2,b3] 10 (N+2) [] [] R2.out
  (fun b hM=>aB (aB (aB (aB (aB (aB (aB (aB (aB (aB aN
    (aF b))
    (aY b 4 m0))
    (aF b))
    (aY b 4 m0))
    (bD b (akW hM m0 m1 rfl rfl m2 m3 rfl rfl rfl rfl rfl h)))
    (aF b))
    (aF b))
    (aF b))
    (aF b))
    (aF b)) ?_
 intro ν W3 hR;have R3:=hdd hR;clear hR R2;simp only[putL,bd5,bd8,fs0,fs1,fsn,dSw,dSt,dWc,dWa,dv,di,dp,ds',bd6,bd7,nuTn,nuT0,nuT1,nuU0,nuU1,dA12,dP8,dP24,dF]
 go_upto_region 6 with fail
 refine Spec.go [.w (.c (.ptr 4 4)),dA g 0 1,.w (.c (.ptr 4 8)),dA g 2 3,noS,noS,.w (.c (.v Value.nilIface))] []
  [(0,A1),(1,A2),(2,B1),(3,B2)] [⟨4,35,(dS g kd ca cb cc 0 1 2 3),none⟩,⟨5,33,[.v (.pointer none),.v (.int .i64 0),.v (.pointer none),.v (.int .i64 0)],some (4,bF g 0 1)⟩,⟨6,33,[.v (.pointer none),.v (.int .i64 0),.v (.pointer none),.v (.int .i64 0)],some (5,bF g 2 3)⟩]
  [0,0,0,0,0,0,0] [[],[0],[],[2],[0,1],rgn 5,[]] [(1,.w (.c (.ptr 4 0))),(2,.w (.c (.ptr 5 0))),(3,.w (.c (.ptr 6 0)))]
  [27,28,29,30,0,0,5] [i,j,k,l,b1,b2,b3] 7 (N+2) [] [] R3.out
  (fun b hM=>aB (aB (aB (aB (aB (aB (aB aN
    (aF b))
    (aY b 4 m0))
    (aF b))
    (aY b 4 m0))
    (dD b 4 m1))
    (dD b 4 m2))
    (aF b)) ?_
 intro ν W4 hR;replace hR:Run ⟨w,B,ns⟩ g (N+2) [(A1,i),(A2,j),(B1,k),(B2,l)] [(b1,.cells #[(.int .i64 kd),(.float .f64 ca),(.float .f64 cb),(.float .f64 cc),.pointer (some ⟨g,0,none⟩),.int .i64 ((i:Nat):Int),.pointer (some ⟨g,0,none⟩),.int .i64 ((j:Nat):Int),.pointer (some ⟨g,0,none⟩),.int .i64 ((k:Nat):Int),.pointer (some ⟨g,0,none⟩),.int .i64 ((l:Nat):Int)] 35),(b2,iL g i j),(b3,iL g k l)] W4:=hR;have R4:=hdd hR;clear hR R3;simp only[putL,bd5,bd8,fs0,fs1,fsn,dSw,dSt,dWc,dWa,dv,di,dp,ds',bd6,bd7,nuTn,nuT0,nuT1,nuU0,nuU1,dA12,dP8,dP24,dF];go_wp2;obtain⟨x0,x1,x2,x3⟩:=aL (R4.out.at m1);obtain⟨x4,x5,x6,x7⟩:=aL (R4.out.at m2);refine bodyPost_ret (v:=.tuple #[.agg #[_,_,_,_],.agg #[_,_,_,_],.nilIface]) (by simp[results,Tryz.results17,go_sem,x0,x1,x2,x3,x4,x5,x6,x7];first|exact⟨⟨rfl,rfl,rfl,rfl⟩,⟨rfl,rfl,rfl,rfl⟩⟩|rfl) rfl ?_;exact⟨[i,j,k,l],rfl,rfl,_,R4.out.few (fP [0,1,2,3])⟩
theorem uT(h:iR PT A1 A2 B1 B2 c)(hc:decide (0<c)=true):FnOk 17 g 2 #[arcW g kd ca cb cc i j k l] [(A1,i),(A2,j),(B1,k),(B2,l)] (fun ks=>.tuple #[eO g (ks.getD 0 0) (ks.getD 1 0),eO g (ks.getD 2 0) (ks.getD 3 0),.nilIface]) [B1,B2,A1,A2]:=FnOk.of fun w B ns N hR hN=>by
 have R1:=hdd hR;clear hR;go_enter Tryz.func17,Tryz.ntmps17
 go_upto_region 0 with fail
 refine Spec.go [.w (.c (.ptr 4 0)),.w (.c (.ptr 5 0)),.w (.c (.ptr 6 0)),.w (.c (.v Value.nilIface))] [0,1,2]
  [(0,A1),(1,A2),(2,B1),(3,B2)] [⟨4,35,(dS g kd ca cb cc 0 1 2 3),none⟩,⟨5,33,[.v (.pointer none),.v (.int .i64 0),.v (.pointer none),.v (.int .i64 0)],none⟩,⟨6,33,[.v (.pointer none),.v (.int .i64 0),.v (.pointer none),.v (.int .i64 0)],none⟩]
  [0,0,0,0] [[],[],[],[]] [(0,.w (.agg ((dS g kd ca cb cc 0 1 2 3))))]
  [2,3,4,5] [i,j,k,l] 4 N [] [] R1.out
  (fun b hM=>aB (aB (aB (aB aN
    (bC b m0))
    (bC b m1))
    (bC b m2))
    (aF b)) ?_
 intro b1 b2 b3 ν W2 hR;have R2:=hdd hR;clear hR R1;simp only[putL,bd5,bd8,fs0,fs1,fsn,dSw,dSt,dWc,dWa,dv,di,dp,ds',bd6,bd7,nuTn,nuT0,nuT1,nuU0,nuU1,dA12,dP8,dP24,dF]
 go_upto_region 1 with fail
 refine Spec.go [.w (.c (.ptr 4 4)),dA g 0 1,.w (.c (.ptr 4 8)),dA g 2 3,.tup [.c (.v (.int .i64 c)),.c (.v .nilIface)],.tup [.c (.v (.int .i64 c)),.c (.v .nilIface)],.w (.c (.v (.int .i64 c))),.w (.c (.v .nilIface)),.w (.c (.v (.int .i64 c))),.w (.c (.v .nilIface))] []
  [(0,A1),(1,A2),(2,B1),(3,B2)] [⟨4,35,(dS g kd ca cb cc 0 1 2 3),none⟩,⟨5,33,[.v (.pointer none),.v (.int .i64 0),.v (.pointer none),.v (.int .i64 0)],none⟩,⟨6,33,[.v (.pointer none),.v (.int .i64 0),.v (.pointer none),.v (.int .i64 0)],none⟩]
  [0,0,0,0,2,0,0,0,0,0] [[],[0],[],[2],rgn 4,rgn 5,rgn 6,rgn 6,rgn 7,[0,1,2,3,4,5,7]] [(1,.w (.c (.ptr 4 0)))]
  [9,10,11,12,13,8,14,15,6,7] [i,j,k,l,b1,b2,b3] 10 (N+2) [] [] R2.out
  (fun b hM=>aB (aB (aB (aB (aB (aB (aB (aB (aB (aB aN
    (aF b))
    (aY b 4 m0))
    (aF b))
    (aY b 4 m0))
    (bD b (akW hM m0 m1 rfl rfl m2 m3 rfl rfl rfl rfl rfl h)))
    (aF b))
    (aF b))
    (aF b))
    (aF b))
    (aF b)) ?_
 intro ν W3 hR;have R3:=hdd hR;clear hR R2;simp only[putL,bd5,bd8,fs0,fs1,fsn,dSw,dSt,dWc,dWa,dv,di,dp,ds',bd6,bd7,nuTn,nuT0,nuT1,nuU0,nuU1,dA12,dP8,dP24,dF]
 go_upto_region 5 with fail
 refine Spec.go [.w (.c (.ptr 4 8)),dA g 2 3,.w (.c (.ptr 4 4)),dA g 0 1,noS,noS,.w (.c (.v Value.nilIface))] []
  [(0,A1),(1,A2),(2,B1),(3,B2)] [⟨4,35,(dS g kd ca cb cc 0 1 2 3),none⟩,⟨5,33,[.v (.pointer none),.v (.int .i64 0),.v (.pointer none),.v (.int .i64 0)],some (4,bF g 2 3)⟩,⟨6,33,[.v (.pointer none),.v (.int .i64 0),.v (.pointer none),.v (.int .i64 0)],some (5,bF g 0 1)⟩]
  [0,0,0,0,0,0,0] [[],[0],[],[2],[0,1],rgn 5,[]] [(1,.w (.c (.ptr 4 0))),(2,.w (.c (.ptr 5 0))),(3,.w (.c (.ptr 6 0)))]
  [23,24,25,26,0,0,5] [i,j,k,l,b1,b2,b3] 7 (N+2) [] [] R3.out
  (fun b hM=>aB (aB (aB (aB (aB (aB (aB aN
    (aF b))
    (aY b 4 m0))
    (aF b))
    (aY b 4 m0))
    (dD b 4 m1))
    (dD b 4 m2))
    (aF b)) ?_
 intro ν W4 hR;replace hR:Run ⟨w,B,ns⟩ g (N+2) [(A1,i),(A2,j),(B1,k),(B2,l)] [(b1,.cells #[(.int .i64 kd),(.float .f64 ca),(.float .f64 cb),(.float .f64 cc),.pointer (some ⟨g,0,none⟩),.int .i64 ((i:Nat):Int),.pointer (some ⟨g,0,none⟩),.int .i64 ((j:Nat):Int),.pointer (some ⟨g,0,none⟩),.int .i64 ((k:Nat):Int),.pointer (some ⟨g,0,none⟩),.int .i64 ((l:Nat):Int)] 35),(b2,iL g k l),(b3,iL g i j)] W4:=hR;have R4:=hdd hR;clear hR R3;simp only[putL,bd5,bd8,fs0,fs1,fsn,dSw,dSt,dWc,dWa,dv,di,dp,ds',bd6,bd7,nuTn,nuT0,nuT1,nuU0,nuU1,dA12,dP8,dP24,dF];go_wp2;obtain⟨x0,x1,x2,x3⟩:=aL (R4.out.at m1);obtain⟨x4,x5,x6,x7⟩:=aL (R4.out.at m2);refine bodyPost_ret (v:=.tuple #[.agg #[_,_,_,_],.agg #[_,_,_,_],.nilIface]) (by simp[results,Tryz.results17,go_sem,x0,x1,x2,x3,x4,x5,x6,x7];first|exact⟨⟨rfl,rfl,rfl,rfl⟩,⟨rfl,rfl,rfl,rfl⟩⟩|rfl) rfl ?_;exact⟨[k,l,i,j],rfl,rfl,_,R4.out.few (fP [2,3,0,1])⟩
end Go.Proofs.YtjaafolhfihegaaGreatDoor
