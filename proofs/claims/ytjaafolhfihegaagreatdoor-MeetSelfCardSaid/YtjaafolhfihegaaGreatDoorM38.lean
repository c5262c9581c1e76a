/- A part of the proof: contracts of functions and plain laws (MtExClmK). -/
import Derived.Test.YtjaafolhfihegaaGreatDoorM19
import Derived.Test.YtjaafolhfihegaaGreatDoorM16
import Derived.Test.YtjaafolhfihegaaGreatDoorM15
import Derived.Test.YtjaafolhfihegaaGreatDoorM14
import Derived.Test.YtjaafolhfihegaaGreatDoorM13
import Derived.Test.YtjaafolhfihegaaGreatDoorM12
import Derived.Test.YtjaafolhfihegaaGreatDoorM08
import Derived.Test.YtjaafolhfihegaaGreatDoorM07
import Derived.Test.YtjaafolhfihegaaGreatDoorM06
import Derived.Test.YtjaafolhfihegaaGreatDoorM05
import Derived.Test.YtjaafolhfihegaaGreatDoorM04
import Derived.Test.YtjaafolhfihegaaGreatDoorM03
import Derived.Test.YtjaafolhfihegaaGreatDoorM02
import Derived.Test.YtjaafolhfihegaaGreatDoorM01
import Derived.Test.YtjaafolhfihegaaGreatDoorM11
import Derived.Test.YtjaafolhfihegaaGreatDoorM10
import Derived.Test.YtjaafolhfihegaaGreatDoorM09
import Derived.Test.YtjaafolhfihegaaGreatDoorM18
import Derived.Test.YtjaafolhfihegaaGreatDoorM17
import Derived.Test.YtjaafolhfihegaaGreatDoorM37
import Derived.Test.YtjaafolhfihegaaGreatDoorM36
import Derived.Test.YtjaafolhfihegaaGreatDoorM35
import Derived.Test.YtjaafolhfihegaaGreatDoorM33
import Derived.Test.YtjaafolhfihegaaGreatDoorM34
import Derived.Test.YtjaafolhfihegaaGreatDoorM32
import Derived.Test.YtjaafolhfihegaaGreatDoorM31
import Derived.Test.YtjaafolhfihegaaGreatDoorM30
import Derived.Test.YtjaafolhfihegaaGreatDoorM29
import Derived.Test.YtjaafolhfihegaaGreatDoorM28
import Derived.Test.YtjaafolhfihegaaGreatDoorM24
import Derived.Test.YtjaafolhfihegaaGreatDoorM23
import Derived.Test.YtjaafolhfihegaaGreatDoorM21
import Derived.Test.YtjaafolhfihegaaGreatDoorM20
import Derived.Test.YtjaafolhfihegaaGreatDoorM22
import Derived.Test.YtjaafolhfihegaaGreatDoorM27
import Derived.Test.YtjaafolhfihegaaGreatDoorM26
import Derived.Test.YtjaafolhfihegaaGreatDoorM25
import Derived.WalkKit
import Derived.Laws.NewFold
set_option linter.unusedVariables false
set_option linter.unusedSimpArgs false
set_option maxHeartbeats 25600000
set_option maxRecDepth 100000
namespace Go.Proofs.YtjaafolhfihegaaGreatDoor
open Go.RowKit Go.Maps
open List renaming setIfInBounds_toArray->bjF,map_cons->bjG,map_nil->bjH,set->bjI
variable{sm:Bool}{ca cb cc da db dc g:Nat}
theorem adL(h1:dJ ca cb cc)(h2:dJ ca cb dc)(o1:(FloatKind.f64.format.order ca ca==some Ordering.eq)=true)(o2:(FloatKind.f64.format.order cb cb==some Ordering.eq)=true)(o3:(FloatKind.f64.format.order cc dc != some Ordering.eq)=true):FnOk 84 g 2 #[.pointer (some ⟨g,0,none⟩),curV 2 ca cb cc,curV 2 ca cb dc] [] (fun ks=>.tuple #[.slice none 0 0,.bool false,.nilIface]) []:=FnOk.of fun w B ns N hR hN=>by
 have R1:=hdd hR;clear hR;go_enter Tryz.func84,Tryz.ntmps84
 go_upto_region 0 with fail
 refine Spec.go [.w (.c (.ptr 0 0)),.w (.c (.ptr 1 0)),.w (.c (.v (Value.slice none 0 0))),.w (.c (.v (Value.bool false))),.w (.c (.v Value.nilIface))] [0,1]
  [] [⟨0,29,curC 2 ca cb cc,none⟩,⟨1,29,curC 2 ca cb dc,none⟩]
  [0,0,0,0,0] [[],[],[],[],[]] [(1,.w (.agg ([.v (.int .i64 2),.v (.float .f64 ca),.v (.float .f64 cb),.v (.float .f64 cc)]))),(2,.w (.agg ([.v (.int .i64 2),.v (.float .f64 ca),.v (.float .f64 cb),.v (.float .f64 dc)])))]
  [5,6,7,8,9] [] 5 N [] [] R1.out
  (fun b hM=>aA (aA (aA (aA (aA aH
    (aI b m0))
    (aI b m1))
    (aB b))
    (aB b))
    (aB b)) ?_
 intro b1 b2 ν W2 hR;replace hR:Run ⟨w,B,ns⟩ g N [] [(b1,.cells #[(.int .i64 2),(.float .f64 ca),(.float .f64 cb),(.float .f64 cc)] 29),(b2,.cells #[(.int .i64 2),(.float .f64 ca),(.float .f64 cb),(.float .f64 dc)] 29)] W2:=hR;have R2:=hdd hR;clear hR R1;simp only[putL,bjF,bjI,fs0,fs1,fsn,dSw,dSt,dWc,dWa,dv,di,dp,ds',bjG,bjH,nuTn,nuT0,nuT1,nuU0,nuU1];obtain⟨c0,c1,c2,c3⟩:=aL (R2.out.at m0);obtain⟨d0,d1,d2,d3⟩:=aL (R2.out.at m1);have HF:Hid (mP w B ns g (N+2) (fun _=>.tuple #[.slice none 0 0,.bool false,.nilIface]) [] (.returned (.tuple #[.slice none 0 0,.bool false,.nilIface])) W2):=hdd ⟨[],rfl,rfl,_,(R2.out.more (by omega)).few (bX [])⟩;clear R2;go_wp2;refine bodyPost_ret (v:=.tuple #[_,_,_]) (by simp[results,Tryz.results84,go_sem];exact⟨rfl,rfl,rfl⟩) rfl ?_;exact HF.out
theorem amO(h1:dJ ca cb cc)(h2:dJ ca cb dc)(o1:(FloatKind.f64.format.order ca ca==some Ordering.eq)=true)(o2:(FloatKind.f64.format.order cb cb==some Ordering.eq)=true)(o3:(FloatKind.f64.format.order cc dc != some Ordering.eq)=false)(o4:(FloatKind.f64.format.order cc 0 != some Ordering.eq)=true):FnOk 84 g 2 #[.pointer (some ⟨g,0,none⟩),curV 2 ca cb cc,curV 2 ca cb dc] [] (fun ks=>.tuple #[.slice none 0 0,.bool true,.nilIface]) []:=FnOk.of fun w B ns N hR hN=>by
 have R1:=hdd hR;clear hR;go_enter Tryz.func84,Tryz.ntmps84
 go_upto_region 0 with fail
 refine Spec.go [.w (.c (.ptr 0 0)),.w (.c (.ptr 1 0)),.w (.c (.v (Value.slice none 0 0))),.w (.c (.v (Value.bool false))),.w (.c (.v Value.nilIface))] [0,1]
  [] [⟨0,29,curC 2 ca cb cc,none⟩,⟨1,29,curC 2 ca cb dc,none⟩]
  [0,0,0,0,0] [[],[],[],[],[]] [(1,.w (.agg ([.v (.int .i64 2),.v (.float .f64 ca),.v (.float .f64 cb),.v (.float .f64 cc)]))),(2,.w (.agg ([.v (.int .i64 2),.v (.float .f64 ca),.v (.float .f64 cb),.v (.float .f64 dc)])))]
  [5,6,7,8,9] [] 5 N [] [] R1.out
  (fun b hM=>aA (aA (aA (aA (aA aH
    (aI b m0))
    (aI b m1))
    (aB b))
    (aB b))
    (aB b)) ?_
 intro b1 b2 ν W2 hR;replace hR:Run ⟨w,B,ns⟩ g N [] [(b1,.cells #[(.int .i64 2),(.float .f64 ca),(.float .f64 cb),(.float .f64 cc)] 29),(b2,.cells #[(.int .i64 2),(.float .f64 ca),(.float .f64 cb),(.float .f64 dc)] 29)] W2:=hR;have R2:=hdd hR;clear hR R1;simp only[putL,bjF,bjI,fs0,fs1,fsn,dSw,dSt,dWc,dWa,dv,di,dp,ds',bjG,bjH,nuTn,nuT0,nuT1,nuU0,nuU1];obtain⟨c0,c1,c2,c3⟩:=aL (R2.out.at m0);obtain⟨d0,d1,d2,d3⟩:=aL (R2.out.at m1);have HF:Hid (mP w B ns g (N+2) (fun _=>.tuple #[.slice none 0 0,.bool true,.nilIface]) [] (.returned (.tuple #[.slice none 0 0,.bool true,.nilIface])) W2):=hdd ⟨[],rfl,rfl,_,(R2.out.more (by omega)).few (bX [])⟩;clear R2;go_wp2;refine bodyPost_ret (v:=.tuple #[_,_,_]) (by simp[results,Tryz.results84,go_sem];exact⟨rfl,rfl,rfl⟩) rfl ?_;exact HF.out
theorem aoT(h1:dJ ca cb cc)(h2:dJ ca cb dc)(o1:(FloatKind.f64.format.order ca ca==some Ordering.eq)=true)(o2:(FloatKind.f64.format.order cb cb==some Ordering.eq)=true)(o3:(FloatKind.f64.format.order cc dc != some Ordering.eq)=false)(o4:(FloatKind.f64.format.order cc 0 != some Ordering.eq)=false):FnBk 84 g 2 #[.pointer (some ⟨g,0,none⟩),curV 2 ca cb cc,curV 2 ca cb dc] [] (fun ks b=>.tuple #[.slice (some ⟨b,0,none⟩) 1 1,.bool false,.nilIface]) [.leaf ca,.leaf cb] (fun ks=>.cells #[.pointer (some ⟨g,0,none⟩),.int .i64 ((ks.getD 0 0:Nat):Int),.pointer (some ⟨g,0,none⟩),.int .i64 ((ks.getD 1 0:Nat):Int)] 33):=FnBk.of fun w B ns N hR hN=>by
 have R1:=hdd hR;clear hR;go_enter Tryz.func84,Tryz.ntmps84
 go_upto_region 0 with fail
 refine Spec.go [.w (.c (.ptr 0 0)),.w (.c (.ptr 1 0)),.w (.c (.v (Value.slice none 0 0))),.w (.c (.v (Value.bool false))),.w (.c (.v Value.nilIface))] [0,1]
  [] [⟨0,29,curC 2 ca cb cc,none⟩,⟨1,29,curC 2 ca cb dc,none⟩]
  [0,0,0,0,0] [[],[],[],[],[]] [(1,.w (.agg ([.v (.int .i64 2),.v (.float .f64 ca),.v (.float .f64 cb),.v (.float .f64 cc)]))),(2,.w (.agg ([.v (.int .i64 2),.v (.float .f64 ca),.v (.float .f64 cb),.v (.float .f64 dc)])))]
  [5,6,7,8,9] [] 5 N [] [] R1.out
  (fun b hM=>aA (aA (aA (aA (aA aH
    (aI b m0))
    (aI b m1))
    (aB b))
    (aB b))
    (aB b)) ?_
 intro b1 b2 ν W2 hR;replace hR:Run ⟨w,B,ns⟩ g N [] [(b1,.cells #[(.int .i64 2),(.float .f64 ca),(.float .f64 cb),(.float .f64 cc)] 29),(b2,.cells #[(.int .i64 2),(.float .f64 ca),(.float .f64 cb),(.float .f64 dc)] 29)] W2:=hR;have R2:=hdd hR;clear hR R1;simp only[putL,bjF,bjI,fs0,fs1,fsn,dSw,dSt,dWc,dWa,dv,di,dp,ds',bjG,bjH,nuTn,nuT0,nuT1,nuU0,nuU1];obtain⟨c0,c1,c2,c3⟩:=aL (R2.out.at m0);obtain⟨d0,d1,d2,d3⟩:=aL (R2.out.at m1)
 go_upto_region 6 with fail
 clear c0 c1 c2 c3 d0 d1 d2 d3;refine Spec.go [.w (.c (.v (.pointer (some ⟨g,0,none⟩)))),.w (.agg ([.v (.int .i64 2),.v (.float .f64 ca),.v (.float .f64 cb),.v (.float .f64 cc)])),dH g 1 2,.w (.c (.sl 3 1)),.w (.c (.sl 3 1)),.w (.c (.v (Value.bool false))),.w (.c (.v Value.nilIface))] [2,2,3]
  [(1,(.leaf ca)),(2,(.leaf cb))] [⟨0,29,curC 2 ca cb cc,none⟩,⟨3,33,aY g 1 2,none⟩]
  [0,0,2,0,0,0,0] [[],[],[0,1],[0,1,2],rgn 4,[],[]] [(0,.w (.c (.v (.pointer (some ⟨g,0,none⟩))))),(4,.w (.c (.ptr 0 0)))]
  [36,37,38,39,7,8,9] [b1] 7 (N+2) [] [true,false] R2.out
  (fun b hM=>aA (aA (aA (aA (aA (aA (aA aH
    (aB b))
    (aD b 4 m0))
    (aG b (c_fn (ix:=[]) (ts:=[1,2]) hM (fun ν=>oP (ca:=ca) (cb:=cb) (cc:=cc) ⟨h1.1.1,h1.1.2⟩ ⟨h1.2.1.1,h1.2.1.2⟩))))
    (aQ b m1))
    (aB b))
    (aB b))
    (aB b)) ?_
 intro n3 n4 b5 ν W3 hR;replace hR:Run ⟨w,B,ns⟩ g (N+2) [((.leaf ca),n3),((.leaf cb),n4)] [(b1,.cells #[(.int .i64 2),(.float .f64 ca),(.float .f64 cb),(.float .f64 cc)] 29),(b5,dX g n3 n4)] W3:=hR;have R3:=hdd hR;clear hR R2;simp only[putL,bjF,bjI,fs0,fs1,fsn,dSw,dSt,dWc,dWa,dv,di,dp,ds',bjG,bjH,nuTn,nuT0,nuT1,nuU0,nuU1];have HF:Hid (oO w B ns g (N+2) (fun ks b=>.tuple #[.slice (some ⟨b,0,none⟩) 1 1,.bool false,.nilIface]) [.leaf ca,.leaf cb] (fun ks=>.cells #[.pointer (some ⟨g,0,none⟩),.int .i64 ((ks.getD 0 0:Nat):Int),.pointer (some ⟨g,0,none⟩),.int .i64 ((ks.getD 1 0:Nat):Int)] 33) (.returned ((fun b=>.tuple #[.slice (some ⟨b,0,none⟩) 1 1,.bool false,.nilIface]) b5)) W3):=hdd ⟨[n3,n4],b5,rfl,rfl,_,((R3.out.more (by omega)).sub (bX [1]) (by simp)).few (bX [0,1])⟩;clear R3;go_wp2;refine bodyPost_ret (v:=.tuple #[_,_,_]) (by simp[results,Tryz.results84,go_sem];exact⟨rfl,rfl,rfl⟩) rfl ?_;exact HF.out
theorem ae6(h1:dC ca cb cc)(h2:dC da db dc)(hS:bD PT (dQ ca db cb da) 0)(hS2:bD PT (dQ ca dc da cc) 0)(hS3:bD PT (dQ cb dc db cc) 0):FnOk 81 g 28 #[.pointer (some ⟨g,0,none⟩),curV 1 ca cb cc,curV 1 da db dc] [] (fun ks=>.tuple #[.slice none 0 0,.bool true,.nilIface]) []:=FnOk.of fun w B ns N hR hN=>by
 have R1:=hdd hR;clear hR;go_enter Tryz.func81,Tryz.ntmps81
 go_upto_region 0 with fail
 refine Spec.go [.w (.c (.ptr 0 0)),.w (.c (.ptr 1 0)),.w (.c (.v (Value.slice none 0 0))),.w (.c (.v (Value.bool false))),.w (.c (.v Value.nilIface))] [0,1]
  [] [⟨0,29,curC 1 ca cb cc,none⟩,⟨1,29,curC 1 da db dc,none⟩]
  [0,0,0,0,0] [[],[],[],[],[]] [(1,.w (.agg ([.v (.int .i64 1),.v (.float .f64 ca),.v (.float .f64 cb),.v (.float .f64 cc)]))),(2,.w (.agg ([.v (.int .i64 1),.v (.float .f64 da),.v (.float .f64 db),.v (.float .f64 dc)])))]
  [5,6,7,8,9] [] 5 N [] [] R1.out
  (fun b hM=>aA (aA (aA (aA (aA aH
    (aI b m0))
    (aI b m1))
    (aB b))
    (aB b))
    (aB b)) ?_
 intro b1 b2 ν W2 hR;have R2:=hdd hR;clear hR R1;simp only[putL,bjF,bjI,fs0,fs1,fsn,dSw,dSt,dWc,dWa,dv,di,dp,ds',bjG,bjH,nuTn,nuT0,nuT1,nuU0,nuU1]
 go_upto_region 1 with fail
 refine Spec.go [.w (.c (.v (.pointer (some ⟨g,0,none⟩)))),.w (.agg ([.v (.int .i64 1),.v (.float .f64 ca),.v (.float .f64 cb),.v (.float .f64 cc)])),.w (.agg ([.v (.int .i64 1),.v (.float .f64 da),.v (.float .f64 db),.v (.float .f64 dc)])),.tup [.c (.v (.bool true)),.c (.v .nilIface)],.tup [.c (.v (.bool true)),.c (.v .nilIface)],.w (.c (.v (.bool true))),.w (.c (.v .nilIface)),.w (.c (.v (.bool true))),.w (.c (.v .nilIface))] []
  [] [⟨0,29,curC 1 ca cb cc,none⟩,⟨1,29,curC 1 da db dc,none⟩]
  [0,0,0,21,0,0,0,0,0] [[],[],[],[0,1,2],rgn 4,rgn 5,rgn 5,rgn 6,[0,1,2,3,4,6]] [(0,.w (.c (.v (.pointer (some ⟨g,0,none⟩))))),(4,.w (.c (.ptr 0 0))),(5,.w (.c (.ptr 1 0)))]
  [15,16,17,18,14,19,20,10,11] [b1,b2] 9 (N+21) [] [] R2.out
  (fun b hM=>aA (aA (aA (aA (aA (aA (aA (aA (aA aH
    (aB b))
    (aD b 4 m0))
    (aD b 4 m1))
    (aG b (c_fn (ix:=[]) (ts:=[]) hM (fun ν=>zT h1 h2 hS hS2 hS3 rfl))))
    (aB b))
    (aB b))
    (aB b))
    (aB b))
    (aB b)) ?_
 intro ν W3 hR;replace hR:Run ⟨w,B,ns⟩ g (N+21) [] [(b1,.cells #[(.int .i64 1),(.float .f64 ca),(.float .f64 cb),(.float .f64 cc)] 29),(b2,.cells #[(.int .i64 1),(.float .f64 da),(.float .f64 db),(.float .f64 dc)] 29)] W3:=hR;have R3:=hdd hR;clear hR R2;simp only[putL,bjF,bjI,fs0,fs1,fsn,dSw,dSt,dWc,dWa,dv,di,dp,ds',bjG,bjH,nuTn,nuT0,nuT1,nuU0,nuU1];have HF:Hid (mP w B ns g (N+28) (fun _=>.tuple #[.slice none 0 0,.bool true,.nilIface]) [] (.returned (.tuple #[.slice none 0 0,.bool true,.nilIface])) W3):=hdd ⟨[],rfl,rfl,_,(R3.out.more (by omega)).few (bX [])⟩;clear R3;go_wp2;refine bodyPost_ret (v:=.tuple #[_,_,_]) (by simp[results,Tryz.results81,go_sem];exact⟨rfl,rfl,rfl⟩) rfl ?_;exact HF.out
theorem abI(h1:dC ca cb cc)(h2:dC da db dc)(hS:bD PT (dQ ca db cb da) 0){q q':Int}(hS2:bD PT (dQ ca dc da cc) q)(hS3:bD PT (dQ cb dc db cc) q')(hq:q≠0\/q'≠0):FnOk 81 g 28 #[.pointer (some ⟨g,0,none⟩),curV 1 ca cb cc,curV 1 da db dc] [] (fun ks=>.tuple #[.slice none 0 0,.bool false,.nilIface]) []:=FnOk.of fun w B ns N hR hN=>by
 have R1:=hdd hR;clear hR;go_enter Tryz.func81,Tryz.ntmps81
 go_upto_region 0 with fail
 refine Spec.go [.w (.c (.ptr 0 0)),.w (.c (.ptr 1 0)),.w (.c (.v (Value.slice none 0 0))),.w (.c (.v (Value.bool false))),.w (.c (.v Value.nilIface))] [0,1]
  [] [⟨0,29,curC 1 ca cb cc,none⟩,⟨1,29,curC 1 da db dc,none⟩]
  [0,0,0,0,0] [[],[],[],[],[]] [(1,.w (.agg ([.v (.int .i64 1),.v (.float .f64 ca),.v (.float .f64 cb),.v (.float .f64 cc)]))),(2,.w (.agg ([.v (.int .i64 1),.v (.float .f64 da),.v (.float .f64 db),.v (.float .f64 dc)])))]
  [5,6,7,8,9] [] 5 N [] [] R1.out
  (fun b hM=>aA (aA (aA (aA (aA aH
    (aI b m0))
    (aI b m1))
    (aB b))
    (aB b))
    (aB b)) ?_
 intro b1 b2 ν W2 hR;have R2:=hdd hR;clear hR R1;simp only[putL,bjF,bjI,fs0,fs1,fsn,dSw,dSt,dWc,dWa,dv,di,dp,ds',bjG,bjH,nuTn,nuT0,nuT1,nuU0,nuU1]
 go_upto_region 1 with fail
 refine Spec.go [.w (.c (.v (.pointer (some ⟨g,0,none⟩)))),.w (.agg ([.v (.int .i64 1),.v (.float .f64 ca),.v (.float .f64 cb),.v (.float .f64 cc)])),.w (.agg ([.v (.int .i64 1),.v (.float .f64 da),.v (.float .f64 db),.v (.float .f64 dc)])),.tup [.c (.v (.bool false)),.c (.v .nilIface)],.tup [.c (.v (.bool false)),.c (.v .nilIface)],.w (.c (.v (.bool false))),.w (.c (.v .nilIface)),.w (.c (.v (.bool false))),.w (.c (.v .nilIface))] []
  [] [⟨0,29,curC 1 ca cb cc,none⟩,⟨1,29,curC 1 da db dc,none⟩]
  [0,0,0,21,0,0,0,0,0] [[],[],[],[0,1,2],rgn 4,rgn 5,rgn 5,rgn 6,[0,1,2,3,4,6]] [(0,.w (.c (.v (.pointer (some ⟨g,0,none⟩))))),(4,.w (.c (.ptr 0 0))),(5,.w (.c (.ptr 1 0)))]
  [15,16,17,18,14,19,20,10,11] [b1,b2] 9 (N+21) [] [] R2.out
  (fun b hM=>aA (aA (aA (aA (aA (aA (aA (aA (aA aH
    (aB b))
    (aD b 4 m0))
    (aD b 4 m1))
    (aG b (c_fn (ix:=[]) (ts:=[]) hM (fun ν=>amN h1 h2 hS hS2 hS3 hq))))
    (aB b))
    (aB b))
    (aB b))
    (aB b))
    (aB b)) ?_
 intro ν W3 hR;have R3:=hdd hR;clear hR R2;simp only[putL,bjF,bjI,fs0,fs1,fsn,dSw,dSt,dWc,dWa,dv,di,dp,ds',bjG,bjH,nuTn,nuT0,nuT1,nuU0,nuU1]
 go_upto_region 4 with fail
 refine Spec.go [.w (.c (.v (.pointer (some ⟨g,0,none⟩)))),.w (.agg ([.v (.int .i64 1),.v (.float .f64 ca),.v (.float .f64 cb),.v (.float .f64 cc)])),.w (.agg ([.v (.int .i64 1),.v (.float .f64 da),.v (.float .f64 db),.v (.float .f64 dc)])),.tup [.c (.v (.bool true)),.c (.v .nilIface)],.tup [.c (.v (.bool true)),.c (.v .nilIface)],.w (.c (.v (.bool true))),.w (.c (.v .nilIface)),.w (.c (.v (.bool true))),.w (.c (.v .nilIface))] []
  [] [⟨0,29,curC 1 ca cb cc,none⟩,⟨1,29,curC 1 da db dc,none⟩]
  [0,0,0,7,0,0,0,0,0] [[],[],[],[0,1,2],rgn 4,rgn 5,rgn 5,rgn 6,[0,1,2,3,4,6]] [(0,.w (.c (.v (.pointer (some ⟨g,0,none⟩))))),(4,.w (.c (.ptr 0 0))),(5,.w (.c (.ptr 1 0)))]
  [29,30,31,32,28,33,34,12,11] [b1,b2] 9 (N+28) [] [] R3.out
  (fun b hM=>aA (aA (aA (aA (aA (aA (aA (aA (aA aH
    (aB b))
    (aD b 4 m0))
    (aD b 4 m1))
    (aG b (c_fn (ix:=[]) (ts:=[]) hM (fun ν=>tV h1 h2 hS rfl))))
    (aB b))
    (aB b))
    (aB b))
    (aB b))
    (aB b)) ?_
 intro ν W4 hR;replace hR:Run ⟨w,B,ns⟩ g (N+28) [] [(b1,.cells #[(.int .i64 1),(.float .f64 ca),(.float .f64 cb),(.float .f64 cc)] 29),(b2,.cells #[(.int .i64 1),(.float .f64 da),(.float .f64 db),(.float .f64 dc)] 29)] W4:=hR;have R4:=hdd hR;clear hR R3;simp only[putL,bjF,bjI,fs0,fs1,fsn,dSw,dSt,dWc,dWa,dv,di,dp,ds',bjG,bjH,nuTn,nuT0,nuT1,nuU0,nuU1];have HF:Hid (mP w B ns g (N+28) (fun _=>.tuple #[.slice none 0 0,.bool false,.nilIface]) [] (.returned (.tuple #[.slice none 0 0,.bool false,.nilIface])) W4):=hdd ⟨[],rfl,rfl,_,(R4.out.more (by omega)).few (bX [])⟩;clear R4;go_wp2;refine bodyPost_ret (v:=.tuple #[_,_,_]) (by simp[results,Tryz.results81,go_sem];exact⟨rfl,rfl,rfl⟩) rfl ?_;exact HF.out
theorem amP(h1:dJ ca cb cc)(h2:dJ ca cb dc)(hc:FnOk 84 g 2 #[.pointer (some ⟨g,0,none⟩),curV 2 ca cb cc,curV 2 ca cb dc] [] (fun _=>.tuple #[.slice none 0 0,.bool sm,.nilIface]) []):FnOk 45 g 2 #[.pointer (some ⟨g,0,none⟩),curV 2 ca cb cc,curV 2 ca cb dc] [] (fun ks=>.tuple #[.slice none 0 0,.bool sm,.nilIface]) []:=FnOk.of fun w B ns N hR hN=>by
 have R1:=hdd hR;clear hR;go_enter Tryz.func45,Tryz.ntmps45
 go_upto_region 0 with fail
 refine Spec.go [.w (.c (.ptr 0 0)),.w (.c (.ptr 1 0)),.w (.c (.v (Value.slice none 0 0))),.w (.c (.v (Value.bool false))),.w (.c (.v Value.nilIface))] [0,1]
  [] [⟨0,29,curC 2 ca cb cc,none⟩,⟨1,29,curC 2 ca cb dc,none⟩]
  [0,0,0,0,0] [[],[],[],[],[]] [(1,.w (.agg ([.v (.int .i64 2),.v (.float .f64 ca),.v (.float .f64 cb),.v (.float .f64 cc)]))),(2,.w (.agg ([.v (.int .i64 2),.v (.float .f64 ca),.v (.float .f64 cb),.v (.float .f64 dc)])))]
  [5,6,7,8,9] [] 5 N [] [] R1.out
  (fun b hM=>aA (aA (aA (aA (aA aH
    (aI b m0))
    (aI b m1))
    (aB b))
    (aB b))
    (aB b)) ?_
 intro b1 b2 ν W2 hR;have R2:=hdd hR;clear hR R1;simp only[putL,bjF,bjI,fs0,fs1,fsn,dSw,dSt,dWc,dWa,dv,di,dp,ds',bjG,bjH,nuTn,nuT0,nuT1,nuU0,nuU1]
 go_upto_region 1 with fail
 refine Spec.go [.w (.agg ([.v (.int .i64 2),.v (.float .f64 ca),.v (.float .f64 cb),.v (.float .f64 cc)])),.w (.agg ([.v (.int .i64 2),.v (.float .f64 ca),.v (.float .f64 cb),.v (.float .f64 dc)])),.w (.c (.v .nilIface)),.w (.c (.v .nilIface))] []
  [] [⟨0,29,curC 2 ca cb cc,none⟩,⟨1,29,curC 2 ca cb dc,none⟩]
  [0,0,0,0] [[],[],[0,1],[0,1,2]] [(4,.w (.c (.ptr 0 0))),(5,.w (.c (.ptr 1 0)))]
  [14,15,16,10] [b1,b2] 4 N [] [] R2.out
  (fun b hM=>aA (aA (aA (aA aH
    (aD b 4 m0))
    (aD b 4 m1))
    (aG b (oK hM rfl rfl rfl (fun w=>oF (fun _=>kU h1) (fun _=>kU h2)))))
    (aB b)) ?_
 intro ν W3 hR;replace hR:Run ⟨w,B,ns⟩ g N [] [(b1,.cells #[(.int .i64 2),(.float .f64 ca),(.float .f64 cb),(.float .f64 cc)] 29),(b2,.cells #[(.int .i64 2),(.float .f64 ca),(.float .f64 cb),(.float .f64 dc)] 29)] W3:=hR;have R3:=hdd hR;clear hR R2;simp only[putL,bjF,bjI,fs0,fs1,fsn,dSw,dSt,dWc,dWa,dv,di,dp,ds',bjG,bjH,nuTn,nuT0,nuT1,nuU0,nuU1];obtain⟨c0,c1,c2,c3⟩:=aL (R3.out.at m0);obtain⟨d0,d1,d2,d3⟩:=aL (R3.out.at m1)
 go_upto_region 13 with fail
 clear c0 c1 c2 c3 d0 d1 d2 d3;refine Spec.go [.w (.c (.v (.pointer (some ⟨g,0,none⟩)))),.w (.agg ([.v (.int .i64 2),.v (.float .f64 ca),.v (.float .f64 cb),.v (.float .f64 cc)])),.w (.agg ([.v (.int .i64 2),.v (.float .f64 ca),.v (.float .f64 cb),.v (.float .f64 dc)])),.tup [.c (.v (.slice none 0 0)),.c (.v (.bool sm)),.c (.v .nilIface)],.tup [.c (.v (.slice none 0 0)),.c (.v (.bool sm)),.c (.v .nilIface)],.w (.c (.v (.slice none 0 0))),.w (.c (.v (.bool sm))),.w (.c (.v .nilIface)),.w (.c (.v (.slice none 0 0))),.w (.c (.v (.bool sm))),.w (.c (.v .nilIface))] []
  [] [⟨0,29,curC 2 ca cb cc,none⟩,⟨1,29,curC 2 ca cb dc,none⟩]
  [0,0,0,2,0,0,0,0,0,0,0] [[],[],[],[0,1,2],rgn 4,rgn 5,rgn 5,rgn 5,rgn 6,[0,1,2,3,4,6],[0,1,2,3,4,7]] [(0,.w (.c (.v (.pointer (some ⟨g,0,none⟩))))),(4,.w (.c (.ptr 0 0))),(5,.w (.c (.ptr 1 0)))]
  [57,58,59,60,56,61,62,63,11,12,13] [b1,b2] 11 (N+2) [] [] R3.out
  (fun b hM=>aA (aA (aA (aA (aA (aA (aA (aA (aA (aA (aA aH
    (aB b))
    (aD b 4 m0))
    (aD b 4 m1))
    (aG b (c_fn (ix:=[]) (ts:=[]) hM (fun ν=>hc))))
    (aB b))
    (aB b))
    (aB b))
    (aB b))
    (aB b))
    (aB b))
    (aB b)) ?_
 intro ν W4 hR;replace hR:Run ⟨w,B,ns⟩ g (N+2) [] [(b1,.cells #[(.int .i64 2),(.float .f64 ca),(.float .f64 cb),(.float .f64 cc)] 29),(b2,.cells #[(.int .i64 2),(.float .f64 ca),(.float .f64 cb),(.float .f64 dc)] 29)] W4:=hR;have R4:=hdd hR;clear hR R3;simp only[putL,bjF,bjI,fs0,fs1,fsn,dSw,dSt,dWc,dWa,dv,di,dp,ds',bjG,bjH,nuTn,nuT0,nuT1,nuU0,nuU1];have HF:Hid (mP w B ns g (N+2) (fun _=>.tuple #[.slice none 0 0,.bool sm,.nilIface]) [] (.returned (.tuple #[.slice none 0 0,.bool sm,.nilIface])) W4):=hdd ⟨[],rfl,rfl,_,(R4.out.more (by omega)).few (bX [])⟩;clear R4;go_wp2;refine bodyPost_ret (v:=.tuple #[_,_,_]) (by simp[results,Tryz.results45,go_sem];exact⟨rfl,rfl,rfl⟩) rfl ?_;exact HF.out
theorem aoU(h1:dJ ca cb cc)(h2:dJ ca cb dc)(o1:(FloatKind.f64.format.order ca ca==some Ordering.eq)=true)(o2:(FloatKind.f64.format.order cb cb==some Ordering.eq)=true)(o3:(FloatKind.f64.format.order cc dc != some Ordering.eq)=false)(o4:(FloatKind.f64.format.order cc 0 != some Ordering.eq)=false):FnBk 45 g 2 #[.pointer (some ⟨g,0,none⟩),curV 2 ca cb cc,curV 2 ca cb dc] [] (fun ks b=>.tuple #[.slice (some ⟨b,0,none⟩) 1 1,.bool false,.nilIface]) [.leaf ca,.leaf cb] (fun ks=>.cells #[.pointer (some ⟨g,0,none⟩),.int .i64 ((ks.getD 0 0:Nat):Int),.pointer (some ⟨g,0,none⟩),.int .i64 ((ks.getD 1 0:Nat):Int)] 33):=FnBk.of fun w B ns N hR hN=>by
 have R1:=hdd hR;clear hR;go_enter Tryz.func45,Tryz.ntmps45
 go_upto_region 0 with fail
 refine Spec.go [.w (.c (.ptr 0 0)),.w (.c (.ptr 1 0)),.w (.c (.v (Value.slice none 0 0))),.w (.c (.v (Value.bool false))),.w (.c (.v Value.nilIface))] [0,1]
  [] [⟨0,29,curC 2 ca cb cc,none⟩,⟨1,29,curC 2 ca cb dc,none⟩]
  [0,0,0,0,0] [[],[],[],[],[]] [(1,.w (.agg ([.v (.int .i64 2),.v (.float .f64 ca),.v (.float .f64 cb),.v (.float .f64 cc)]))),(2,.w (.agg ([.v (.int .i64 2),.v (.float .f64 ca),.v (.float .f64 cb),.v (.float .f64 dc)])))]
  [5,6,7,8,9] [] 5 N [] [] R1.out
  (fun b hM=>aA (aA (aA (aA (aA aH
    (aI b m0))
    (aI b m1))
    (aB b))
    (aB b))
    (aB b)) ?_
 intro b1 b2 ν W2 hR;have R2:=hdd hR;clear hR R1;simp only[putL,bjF,bjI,fs0,fs1,fsn,dSw,dSt,dWc,dWa,dv,di,dp,ds',bjG,bjH,nuTn,nuT0,nuT1,nuU0,nuU1]
 go_upto_region 1 with fail
 refine Spec.go [.w (.agg ([.v (.int .i64 2),.v (.float .f64 ca),.v (.float .f64 cb),.v (.float .f64 cc)])),.w (.agg ([.v (.int .i64 2),.v (.float .f64 ca),.v (.float .f64 cb),.v (.float .f64 dc)])),.w (.c (.v .nilIface)),.w (.c (.v .nilIface))] []
  [] [⟨0,29,curC 2 ca cb cc,none⟩,⟨1,29,curC 2 ca cb dc,none⟩]
  [0,0,0,0] [[],[],[0,1],[0,1,2]] [(4,.w (.c (.ptr 0 0))),(5,.w (.c (.ptr 1 0)))]
  [14,15,16,10] [b1,b2] 4 N [] [] R2.out
  (fun b hM=>aA (aA (aA (aA aH
    (aD b 4 m0))
    (aD b 4 m1))
    (aG b (oK hM rfl rfl rfl (fun w=>oF (fun _=>kU h1) (fun _=>kU h2)))))
    (aB b)) ?_
 intro ν W3 hR;replace hR:Run ⟨w,B,ns⟩ g N [] [(b1,.cells #[(.int .i64 2),(.float .f64 ca),(.float .f64 cb),(.float .f64 cc)] 29),(b2,.cells #[(.int .i64 2),(.float .f64 ca),(.float .f64 cb),(.float .f64 dc)] 29)] W3:=hR;have R3:=hdd hR;clear hR R2;simp only[putL,bjF,bjI,fs0,fs1,fsn,dSw,dSt,dWc,dWa,dv,di,dp,ds',bjG,bjH,nuTn,nuT0,nuT1,nuU0,nuU1];obtain⟨c0,c1,c2,c3⟩:=aL (R3.out.at m0);obtain⟨d0,d1,d2,d3⟩:=aL (R3.out.at m1)
 go_upto_region 13 with fail
 clear c0 c1 c2 c3 d0 d1 d2 d3;refine Spec.go [.w (.c (.v (.pointer (some ⟨g,0,none⟩)))),.w (.agg ([.v (.int .i64 2),.v (.float .f64 ca),.v (.float .f64 cb),.v (.float .f64 cc)])),.w (.agg ([.v (.int .i64 2),.v (.float .f64 ca),.v (.float .f64 cb),.v (.float .f64 dc)])),.tup [.c (.sl 4 1),.c (.v (.bool false)),.c (.v .nilIface)],.tup [.c (.sl 4 1),.c (.v (.bool false)),.c (.v .nilIface)],.w (.c (.sl 4 1)),.w (.c (.v (.bool false))),.w (.c (.v .nilIface)),.w (.c (.sl 4 1)),.w (.c (.v (.bool false))),.w (.c (.v .nilIface))] [3,3,3]
  [(2,.leaf ca),(3,.leaf cb)] [⟨0,29,curC 2 ca cb cc,none⟩,⟨1,29,curC 2 ca cb dc,none⟩,⟨4,33,aY g 2 3,none⟩]
  [0,0,0,2,0,0,0,0,0,0,0] [[],[],[],[0,1,2],rgn 4,rgn 5,rgn 5,rgn 5,rgn 6,[0,1,2,3,4,6],[0,1,2,3,4,7]] [(0,.w (.c (.v (.pointer (some ⟨g,0,none⟩))))),(4,.w (.c (.ptr 0 0))),(5,.w (.c (.ptr 1 0)))]
  [57,58,59,60,56,61,62,63,11,12,13] [b1,b2] 11 (N+2) [] [] R3.out
  (fun b hM=>aA (aA (aA (aA (aA (aA (aA (aA (aA (aA (aA aH
    (aB b))
    (aD b 4 m0))
    (aD b 4 m1))
    (kR b m2 (c_fb (ix:=[]) (ts:=[2,3]) hM (fun ν=>aoT h1 h2 o1 o2 o3 o4))))
    (aB b))
    (aB b))
    (aB b))
    (aB b))
    (aB b))
    (aB b))
    (aB b)) ?_
 intro n3 n4 b5 ν W4 hR;replace hR:Run ⟨w,B,ns⟩ g (N+2) [(.leaf ca,n3),(.leaf cb,n4)] [(b1,.cells #[(.int .i64 2),(.float .f64 ca),(.float .f64 cb),(.float .f64 cc)] 29),(b2,.cells #[(.int .i64 2),(.float .f64 ca),(.float .f64 cb),(.float .f64 dc)] 29),(b5,dX g n3 n4)] W4:=hR;have R4:=hdd hR;clear hR R3;simp only[putL,bjF,bjI,fs0,fs1,fsn,dSw,dSt,dWc,dWa,dv,di,dp,ds',bjG,bjH,nuTn,nuT0,nuT1,nuU0,nuU1];have HF:Hid (oO w B ns g (N+2) (fun ks b=>.tuple #[.slice (some ⟨b,0,none⟩) 1 1,.bool false,.nilIface]) [.leaf ca,.leaf cb] (fun ks=>.cells #[.pointer (some ⟨g,0,none⟩),.int .i64 ((ks.getD 0 0:Nat):Int),.pointer (some ⟨g,0,none⟩),.int .i64 ((ks.getD 1 0:Nat):Int)] 33) (.returned ((fun b=>.tuple #[.slice (some ⟨b,0,none⟩) 1 1,.bool false,.nilIface]) b5)) W4):=hdd ⟨[n3,n4],b5,rfl,rfl,_,((R4.out.more (by omega)).sub (bX [2]) (by simp)).few (bX [0,1])⟩;clear R4;go_wp2;refine bodyPost_ret (v:=.tuple #[_,_,_]) (by simp[results,Tryz.results45,go_sem];exact⟨rfl,rfl,rfl⟩) rfl ?_
 exact HF.out
theorem apL(h1:dC ca cb cc)(h2:dC da db dc)(hc:FnOk 81 g 28 #[.pointer (some ⟨g,0,none⟩),curV 1 ca cb cc,curV 1 da db dc] [] (fun _=>.tuple #[.slice none 0 0,.bool sm,.nilIface]) []):FnOk 45 g 28 #[.pointer (some ⟨g,0,none⟩),curV 1 ca cb cc,curV 1 da db dc] [] (fun ks=>.tuple #[.slice none 0 0,.bool sm,.nilIface]) []:=FnOk.of fun w B ns N hR hN=>by
 have R1:=hdd hR;clear hR;go_enter Tryz.func45,Tryz.ntmps45
 go_upto_region 0 with fail
 refine Spec.go [.w (.c (.ptr 0 0)),.w (.c (.ptr 1 0)),.w (.c (.v (Value.slice none 0 0))),.w (.c (.v (Value.bool false))),.w (.c (.v Value.nilIface))] [0,1]
  [] [⟨0,29,curC 1 ca cb cc,none⟩,⟨1,29,curC 1 da db dc,none⟩]
  [0,0,0,0,0] [[],[],[],[],[]] [(1,.w (.agg ([.v (.int .i64 1),.v (.float .f64 ca),.v (.float .f64 cb),.v (.float .f64 cc)]))),(2,.w (.agg ([.v (.int .i64 1),.v (.float .f64 da),.v (.float .f64 db),.v (.float .f64 dc)])))]
  [5,6,7,8,9] [] 5 N [] [] R1.out
  (fun b hM=>aA (aA (aA (aA (aA aH
    (aI b m0))
    (aI b m1))
    (aB b))
    (aB b))
    (aB b)) ?_
 intro b1 b2 ν W2 hR;have R2:=hdd hR;clear hR R1;simp only[putL,bjF,bjI,fs0,fs1,fsn,dSw,dSt,dWc,dWa,dv,di,dp,ds',bjG,bjH,nuTn,nuT0,nuT1,nuU0,nuU1]
 go_upto_region 1 with fail
 refine Spec.go [.w (.agg ([.v (.int .i64 1),.v (.float .f64 ca),.v (.float .f64 cb),.v (.float .f64 cc)])),.w (.agg ([.v (.int .i64 1),.v (.float .f64 da),.v (.float .f64 db),.v (.float .f64 dc)])),.w (.c (.v .nilIface)),.w (.c (.v .nilIface))] []
  [] [⟨0,29,curC 1 ca cb cc,none⟩,⟨1,29,curC 1 da db dc,none⟩]
  [0,0,0,0] [[],[],[0,1],[0,1,2]] [(4,.w (.c (.ptr 0 0))),(5,.w (.c (.ptr 1 0)))]
  [14,15,16,10] [b1,b2] 4 N [] [] R2.out
  (fun b hM=>aA (aA (aA (aA aH
    (aD b 4 m0))
    (aD b 4 m1))
    (aG b (oK hM rfl rfl rfl (fun w=>oF (fun _=>p9 h1) (fun _=>p9 h2)))))
    (aB b)) ?_
 intro ν W3 hR;replace hR:Run ⟨w,B,ns⟩ g N [] [(b1,.cells #[(.int .i64 1),(.float .f64 ca),(.float .f64 cb),(.float .f64 cc)] 29),(b2,.cells #[(.int .i64 1),(.float .f64 da),(.float .f64 db),(.float .f64 dc)] 29)] W3:=hR;have R3:=hdd hR;clear hR R2;simp only[putL,bjF,bjI,fs0,fs1,fsn,dSw,dSt,dWc,dWa,dv,di,dp,ds',bjG,bjH,nuTn,nuT0,nuT1,nuU0,nuU1];obtain⟨c0,c1,c2,c3⟩:=aL (R3.out.at m0);obtain⟨d0,d1,d2,d3⟩:=aL (R3.out.at m1)
 go_upto_region 10 with fail
 clear c0 c1 c2 c3 d0 d1 d2 d3;refine Spec.go [.w (.c (.v (.pointer (some ⟨g,0,none⟩)))),.w (.agg ([.v (.int .i64 1),.v (.float .f64 ca),.v (.float .f64 cb),.v (.float .f64 cc)])),.w (.agg ([.v (.int .i64 1),.v (.float .f64 da),.v (.float .f64 db),.v (.float .f64 dc)])),.tup [.c (.v (.slice none 0 0)),.c (.v (.bool sm)),.c (.v .nilIface)],.tup [.c (.v (.slice none 0 0)),.c (.v (.bool sm)),.c (.v .nilIface)],.w (.c (.v (.slice none 0 0))),.w (.c (.v (.bool sm))),.w (.c (.v .nilIface)),.w (.c (.v (.slice none 0 0))),.w (.c (.v (.bool sm))),.w (.c (.v .nilIface))] []
  [] [⟨0,29,curC 1 ca cb cc,none⟩,⟨1,29,curC 1 da db dc,none⟩]
  [0,0,0,28,0,0,0,0,0,0,0] [[],[],[],[0,1,2],rgn 4,rgn 5,rgn 5,rgn 5,rgn 6,[0,1,2,3,4,6],[0,1,2,3,4,7]] [(0,.w (.c (.v (.pointer (some ⟨g,0,none⟩))))),(4,.w (.c (.ptr 0 0))),(5,.w (.c (.ptr 1 0)))]
  [38,39,40,41,37,42,43,44,11,12,13] [b1,b2] 11 (N+28) [] [] R3.out
  (fun b hM=>aA (aA (aA (aA (aA (aA (aA (aA (aA (aA (aA aH
    (aB b))
    (aD b 4 m0))
    (aD b 4 m1))
    (aG b (c_fn (ix:=[]) (ts:=[]) hM (fun ν=>hc))))
    (aB b))
    (aB b))
    (aB b))
    (aB b))
    (aB b))
    (aB b))
    (aB b)) ?_
 intro ν W4 hR;replace hR:Run ⟨w,B,ns⟩ g (N+28) [] [(b1,.cells #[(.int .i64 1),(.float .f64 ca),(.float .f64 cb),(.float .f64 cc)] 29),(b2,.cells #[(.int .i64 1),(.float .f64 da),(.float .f64 db),(.float .f64 dc)] 29)] W4:=hR;have R4:=hdd hR;clear hR R3;simp only[putL,bjF,bjI,fs0,fs1,fsn,dSw,dSt,dWc,dWa,dv,di,dp,ds',bjG,bjH,nuTn,nuT0,nuT1,nuU0,nuU1];have HF:Hid (mP w B ns g (N+28) (fun _=>.tuple #[.slice none 0 0,.bool sm,.nilIface]) [] (.returned (.tuple #[.slice none 0 0,.bool sm,.nilIface])) W4):=hdd ⟨[],rfl,rfl,_,(R4.out.more (by omega)).few (bX [])⟩;clear R4;go_wp2;refine bodyPost_ret (v:=.tuple #[_,_,_]) (by simp[results,Tryz.results45,go_sem];exact⟨rfl,rfl,rfl⟩) rfl ?_;exact HF.out
end Go.Proofs.YtjaafolhfihegaaGreatDoor
