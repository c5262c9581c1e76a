/- A part of the proof: contracts of functions and plain laws (LjBxClmK). -/
import Derived.Test.YtjaafolhfihegaaGreatDoorM36
import Derived.Test.YtjaafolhfihegaaGreatDoorM35
import Derived.Test.YtjaafolhfihegaaGreatDoorM18
import Derived.Test.YtjaafolhfihegaaGreatDoorM17
import Derived.Test.YtjaafolhfihegaaGreatDoorM16
import Derived.Test.YtjaafolhfihegaaGreatDoorM01
import Derived.Test.YtjaafolhfihegaaGreatDoorM12
import Derived.Test.YtjaafolhfihegaaGreatDoorM07
import Derived.Test.YtjaafolhfihegaaGreatDoorM06
import Derived.Test.YtjaafolhfihegaaGreatDoorM05
import Derived.Test.YtjaafolhfihegaaGreatDoorM04
import Derived.Test.YtjaafolhfihegaaGreatDoorM03
import Derived.Test.YtjaafolhfihegaaGreatDoorM02
import Derived.Test.YtjaafolhfihegaaGreatDoorM15
import Derived.Test.YtjaafolhfihegaaGreatDoorM14
import Derived.Test.YtjaafolhfihegaaGreatDoorM13
import Derived.Test.YtjaafolhfihegaaGreatDoorM08
import Derived.Test.YtjaafolhfihegaaGreatDoorM11
import Derived.Test.YtjaafolhfihegaaGreatDoorM10
import Derived.Test.YtjaafolhfihegaaGreatDoorM09
import Derived.Test.YtjaafolhfihegaaGreatDoorM33
import Derived.Test.YtjaafolhfihegaaGreatDoorM34
import Derived.Test.YtjaafolhfihegaaGreatDoorM32
import Derived.Test.YtjaafolhfihegaaGreatDoorM31
import Derived.Test.YtjaafolhfihegaaGreatDoorM30
import Derived.Test.YtjaafolhfihegaaGreatDoorM29
import Derived.Test.YtjaafolhfihegaaGreatDoorM28
import Derived.Test.YtjaafolhfihegaaGreatDoorM24
import Derived.Test.YtjaafolhfihegaaGreatDoorM23
import Derived.Test.YtjaafolhfihegaaGreatDoorM21
import Derived.Test.YtjaafolhfihegaaGreatDoorM20
import Derived.Test.YtjaafolhfihegaaGreatDoorM19
import Derived.Test.YtjaafolhfihegaaGreatDoorM22
import Derived.Test.YtjaafolhfihegaaGreatDoorM27
import Derived.Test.YtjaafolhfihegaaGreatDoorM26
import Derived.Test.YtjaafolhfihegaaGreatDoorM25
import Derived.WalkKit
import Derived.Laws.NewFold
set_option linter.unusedVariables false
set_option linter.unusedSimpArgs false
set_option maxHeartbeats 25600000
set_option maxRecDepth 100000
namespace Go.Proofs.YtjaafolhfihegaaGreatDoor
open Go.RowKit Go.Maps
open List renaming setIfInBounds_toArray->bjB,map_cons->bjC,map_nil->bjD,set->bjE
variable{r:Bool}{q:Int}{ca cb cc cd da db dc g:Nat}
theorem aiQ(hca:FlOk ca)(hcb:FlOk cb)(hcc:FlOk cc)(hcd:FlOk cd):FnOk 93 g 7 #[.pointer (some ⟨g,0,none⟩),.float .f64 ca,.float .f64 cb,.float .f64 cc,.float .f64 cd] [] (fun ks=>numV g (ks.getD 0 0)) [dQ ca cb cc cd]:=FnOk.of fun w B ns N hR hN=>by
 have R1:=hdd hR;clear hR;go_enter Tryz.func93,Tryz.ntmps93
 go_upto_region 0 with fail
 refine Spec.go [.w (.c (.ptr 0 0))] [0]
  [] [⟨0,31,[.v (.pointer none),.v (.int .i64 0)],none⟩]
  [0] [[]] []
  [11] [] 1 N [] [] R1.out
  (fun b hM=>aA aH
    (aI b m0)) ?_
 intro b1 ν W2 hR;have R2:=hdd hR;clear hR R1;simp only[putL,bjB,bjE,fs0,fs1,fsn,dSw,dSt,dWc,dWa,dv,di,dp,ds',bjC,bjD,nuTn,nuT0,nuT1,nuU0,nuU1]
 go_upto_region 1 with fail
 refine Spec.go [.w (.c (.v (.pointer (some ⟨g,0,none⟩)))),.w (.c (.v (.float .f64 ca))),numS g 1,.w (.c (.v (.pointer (some ⟨g,0,none⟩)))),.w (.c (.v (.float .f64 cb))),numS g 2,.w (.c (.sl 3 1)),numS g 4,.w (.c (.v (.pointer (some ⟨g,0,none⟩)))),.w (.c (.v (.float .f64 cc))),numS g 5,.w (.c (.v (.pointer (some ⟨g,0,none⟩)))),.w (.c (.v (.float .f64 cd))),numS g 6,.w (.c (.sl 7 1)),numS g 8,numS g 9,noS] [2,5,6,7,10,13,14,15,16]
  [(1,(.leaf ca)),(2,(.leaf cb)),(4,(.mul (.leaf ca) (.leaf cb))),(5,(.leaf cc)),(6,(.leaf cd)),(8,(.mul (.leaf cc) (.leaf cd))),(9,(.sub (.mul (.leaf ca) (.leaf cb)) (.mul (.leaf cc) (.leaf cd))))] [⟨0,31,[.v (.pointer none),.v (.int .i64 0)],some (17,numC g 9)⟩,⟨3,31,numC g 2,none⟩,⟨7,31,numC g 6,none⟩]
  [0,0,1,0,0,1,0,1,0,0,1,0,0,1,0,1,1,0] [[],[],[0,1],[],[],[3,4],[3,4,5],rgn 7,[],[],[8,9],[],[],[11,12],[11,12,13],[8,9,10,11,12,13,14],rgn 16,rgn 17] [(0,.w (.c (.v (.pointer (some ⟨g,0,none⟩))))),(1,.w (.c (.v (.float .f64 ca)))),(2,.w (.c (.v (.float .f64 cb)))),(3,.w (.c (.v (.float .f64 cc)))),(4,.w (.c (.v (.float .f64 cd)))),(10,.w (.c (.ptr 0 0)))]
  [12,13,14,15,16,17,18,19,20,21,22,23,24,25,26,27,28,0] [b1] 18 (N+7) [] [] R2.out
  (fun b hM=>aA (aA (aA (aA (aA (aA (aA (aA (aA (aA (aA (aA (aA (aA (aA (aA (aA (aA aH
    (aB b))
    (aB b))
    (aG b (c_of hM hca.1 hca.2 rfl rfl rfl rfl)))
    (aB b))
    (aB b))
    (aG b (c_of hM hcb.1 hcb.2 rfl rfl rfl rfl)))
    (aQ b m1))
    (aG b (fK hM m0 m1 rfl rfl m1 rfl rfl rfl rfl rfl rfl rfl rfl)))
    (aB b))
    (aB b))
    (aG b (c_of hM hcc.1 hcc.2 rfl rfl rfl rfl)))
    (aB b))
    (aB b))
    (aG b (c_of hM hcd.1 hcd.2 rfl rfl rfl rfl)))
    (aQ b m2))
    (aG b (fK hM m3 m4 rfl rfl m2 rfl rfl rfl rfl rfl rfl rfl rfl)))
    (aG b (mM hM m2 m5 rfl rfl rfl rfl rfl rfl)))
    (aV b 2 m0)) ?_
 intro n2 n3 b4 n5 n6 n7 b8 n9 n10 ν W3 hR;replace hR:Run ⟨w,B,ns⟩ g (N+7) [((.leaf ca),n2),((.leaf cb),n3),((.mul (.leaf ca) (.leaf cb)),n5),((.leaf cc),n6),((.leaf cd),n7),((.mul (.leaf cc) (.leaf cd)),n9),((.sub (.mul (.leaf ca) (.leaf cb)) (.mul (.leaf cc) (.leaf cd))),n10)] [(b1,numO g n10),(b4,numO g n3),(b8,numO g n7)] W3:=hR;have R3:=hdd hR;clear hR R2;simp only[putL,bjB,bjE,fs0,fs1,fsn,dSw,dSt,dWc,dWa,dv,di,dp,ds',bjC,bjD,nuTn,nuT0,nuT1,nuU0,nuU1];go_wp2;obtain⟨x0,x1,-,-⟩:=aF (R3.out.at m0);refine bodyPost_ret (v:=.agg #[_,_]) (by simp[results,Tryz.results93,go_sem,x0,x1];first|exact⟨rfl,rfl⟩|rfl) rfl ?_;exact⟨[n10],rfl,rfl,_,R3.out.few (bX [6])⟩
theorem qG(hca:FlOk ca)(hcb:FlOk cb)(hcc:FlOk cc)(hcd:FlOk cd)(hS:bD PT (dQ ca cb cc cd) q)(hr:(q==0)=r):FnOk 63 g 7 #[.pointer (some ⟨g,0,none⟩),.float .f64 ca,.float .f64 cb,.float .f64 cc,.float .f64 cd] [] (fun ks=>.tuple #[.bool r,.nilIface]) []:=FnOk.of fun w B ns N hR hN=>by
 have R1:=hdd hR;clear hR;go_enter Tryz.func63,Tryz.ntmps63
 go_upto_region 0 with fail
 refine Spec.go [.w (.c (.v (Value.bool false))),.w (.c (.v Value.nilIface))] []
  [] []
  [0,0] [[],[]] []
  [11,12] [] 2 N [] [] R1.out
  (fun b hM=>aA (aA aH
    (aB b))
    (aB b)) ?_
 intro ν W2 hR;have R2:=hdd hR;clear hR R1;simp only[putL,bjB,bjE,fs0,fs1,fsn,dSw,dSt,dWc,dWa,dv,di,dp,ds',bjC,bjD,nuTn,nuT0,nuT1,nuU0,nuU1]
 go_upto_region 1 with fail
 refine Spec.go [.w (.c (.v (.pointer (some ⟨g,0,none⟩)))),.w (.c (.v (.float .f64 ca))),.w (.c (.v (.float .f64 cb))),.w (.c (.v (.float .f64 cc))),.w (.c (.v (.float .f64 cd))),numS g 0,.tup [.c (.v (.int .i64 q)),.c (.v .nilIface)],.tup [.c (.v (.int .i64 q)),.c (.v .nilIface)],.w (.c (.v (.int .i64 q))),.w (.c (.v .nilIface)),.w (.c (.v (.int .i64 q))),.w (.c (.v .nilIface))] [5]
  [(0,(dQ ca cb cc cd))] []
  [0,0,0,0,0,7,0,0,0,0,0,0] [[],[],[],[],[],rgn 5,rgn 6,rgn 7,rgn 8,rgn 8,rgn 9,[0,1,2,3,4,5,6,7,9]] [(0,.w (.c (.v (.pointer (some ⟨g,0,none⟩))))),(1,.w (.c (.v (.float .f64 ca)))),(2,.w (.c (.v (.float .f64 cb)))),(3,.w (.c (.v (.float .f64 cc)))),(4,.w (.c (.v (.float .f64 cd))))]
  [16,17,18,19,20,21,22,15,23,24,13,14] [] 12 (N+7) [] [] R2.out
  (fun b hM=>aA (aA (aA (aA (aA (aA (aA (aA (aA (aA (aA (aA aH
    (aB b))
    (aB b))
    (aB b))
    (aB b))
    (aB b))
    (aG b (c_fn (ix:=[]) (ts:=[0]) hM (fun ν=>aiQ ⟨hca.1,hca.2⟩ ⟨hcb.1,hcb.2⟩ ⟨hcc.1,hcc.2⟩ ⟨hcd.1,hcd.2⟩))))
    (aG b (aeM hM m0 rfl rfl rfl rfl hS)))
    (aB b))
    (aB b))
    (aB b))
    (aB b))
    (aB b)) ?_
 intro n1 ν W3 hR;replace hR:Run ⟨w,B,ns⟩ g (N+7) [((dQ ca cb cc cd),n1)] [] W3:=hR;have R3:=hdd hR;clear hR R2;simp only[putL,bjB,bjE,fs0,fs1,fsn,dSw,dSt,dWc,dWa,dv,di,dp,ds',bjC,bjD,nuTn,nuT0,nuT1,nuU0,nuU1];have HF:Hid (mP w B ns g (N+7) (fun _=>.tuple #[.bool r,.nilIface]) [] (.returned (.tuple #[.bool r,.nilIface])) W3):=hdd ⟨[],rfl,rfl,_,(R3.out.more (by omega)).few (bX [])⟩;clear R3;go_wp2
 go_ret2
 exact HF.out
theorem tV(h1:dC ca cb cc)(h2:dC da db dc)(hS:bD PT (dQ ca db cb da) q)(hr:(q==0)=r):FnOk 23 g 7 #[.pointer (some ⟨g,0,none⟩),curV 1 ca cb cc,curV 1 da db dc] [] (fun ks=>.tuple #[.bool r,.nilIface]) []:=FnOk.of fun w B ns N hR hN=>by
 have R1:=hdd hR;clear hR;go_enter Tryz.func23,Tryz.ntmps23
 go_upto_region 0 with fail
 refine Spec.go [.w (.c (.ptr 0 0)),.w (.c (.ptr 1 0)),.w (.c (.v (Value.bool false))),.w (.c (.v Value.nilIface))] [0,1]
  [] [⟨0,29,curC 1 ca cb cc,none⟩,⟨1,29,curC 1 da db dc,none⟩]
  [0,0,0,0] [[],[],[],[]] [(1,.w (.agg ([.v (.int .i64 1),.v (.float .f64 ca),.v (.float .f64 cb),.v (.float .f64 cc)]))),(2,.w (.agg ([.v (.int .i64 1),.v (.float .f64 da),.v (.float .f64 db),.v (.float .f64 dc)])))]
  [5,6,7,8] [] 4 N [] [] R1.out
  (fun b hM=>aA (aA (aA (aA aH
    (aI b m0))
    (aI b m1))
    (aB b))
    (aB b)) ?_
 intro b1 b2 ν W2 hR;have R2:=hdd hR;clear hR R1;simp only[putL,bjB,bjE,fs0,fs1,fsn,dSw,dSt,dWc,dWa,dv,di,dp,ds',bjC,bjD,nuTn,nuT0,nuT1,nuU0,nuU1]
 go_upto_region 1 with fail
 refine Spec.go [.w (.agg ([.v (.int .i64 1),.v (.float .f64 ca),.v (.float .f64 cb),.v (.float .f64 cc)])),.w (.agg ([.v (.int .i64 1),.v (.float .f64 da),.v (.float .f64 db),.v (.float .f64 dc)])),.w (.c (.v .nilIface)),.w (.c (.v .nilIface))] []
  [] [⟨0,29,curC 1 ca cb cc,none⟩,⟨1,29,curC 1 da db dc,none⟩]
  [0,0,0,0] [[],[],[0,1],[0,1,2]] [(4,.w (.c (.ptr 0 0))),(5,.w (.c (.ptr 1 0)))]
  [10,11,12,9] [b1,b2] 4 N [] [] R2.out
  (fun b hM=>aA (aA (aA (aA aH
    (aD b 4 m0))
    (aD b 4 m1))
    (aG b (oK hM rfl rfl rfl (fun w=>aiO h1 h2))))
    (aB b)) ?_
 intro ν W3 hR;have R3:=hdd hR;clear hR R2;simp only[putL,bjB,bjE,fs0,fs1,fsn,dSw,dSt,dWc,dWa,dv,di,dp,ds',bjC,bjD,nuTn,nuT0,nuT1,nuU0,nuU1]
 go_upto_region 4 with fail
 refine Spec.go [.w (.c (.v (.pointer (some ⟨g,0,none⟩)))),.w (.c (.ptr 0 1)),.w (.c (.v (.float .f64 ca))),.w (.c (.ptr 1 2)),.w (.c (.v (.float .f64 db))),.w (.c (.ptr 0 2)),.w (.c (.v (.float .f64 cb))),.w (.c (.ptr 1 1)),.w (.c (.v (.float .f64 da))),.tup [.c (.v (.bool r)),.c (.v .nilIface)],.w (.c (.v (.bool r))),.w (.c (.v .nilIface)),.w (.c (.v (.bool r))),.w (.c (.v .nilIface))] []
  [] [⟨0,29,curC 1 ca cb cc,none⟩,⟨1,29,curC 1 da db dc,none⟩]
  [0,0,0,0,0,0,0,0,0,7,0,0,0,0] [[],[],[1],[],[3],[],[5],[],[7],rgn 9,rgn 10,rgn 10,rgn 11,[0,1,2,3,4,5,6,7,8,9,11]] [(0,.w (.c (.v (.pointer (some ⟨g,0,none⟩))))),(4,.w (.c (.ptr 0 0))),(5,.w (.c (.ptr 1 0)))]
  [16,17,18,19,20,21,22,23,24,25,26,27,7,8] [b1,b2] 14 (N+7) [] [] R3.out
  (fun b hM=>aA (aA (aA (aA (aA (aA (aA (aA (aA (aA (aA (aA (aA (aA aH
    (aB b))
    (aB b))
    (aZ b m0))
    (aB b))
    (aZ b m1))
    (aB b))
    (aZ b m0))
    (aB b))
    (aZ b m1))
    (aG b (c_fn (ix:=[]) (ts:=[]) hM (fun ν=>qG ⟨h1.1.1,h1.1.2⟩ ⟨h2.2.1.1,h2.2.1.2⟩ ⟨h1.2.1.1,h1.2.1.2⟩ ⟨h2.1.1,h2.1.2⟩ hS hr))))
    (aB b))
    (aB b))
    (aB b))
    (aB b)) ?_
 intro ν W4 hR;replace hR:Run ⟨w,B,ns⟩ g (N+7) [] [(b1,.cells #[(.int .i64 1),(.float .f64 ca),(.float .f64 cb),(.float .f64 cc)] 29),(b2,.cells #[(.int .i64 1),(.float .f64 da),(.float .f64 db),(.float .f64 dc)] 29)] W4:=hR;have R4:=hdd hR;clear hR R3;simp only[putL,bjB,bjE,fs0,fs1,fsn,dSw,dSt,dWc,dWa,dv,di,dp,ds',bjC,bjD,nuTn,nuT0,nuT1,nuU0,nuU1];have HF:Hid (mP w B ns g (N+7) (fun _=>.tuple #[.bool r,.nilIface]) [] (.returned (.tuple #[.bool r,.nilIface])) W4):=hdd ⟨[],rfl,rfl,_,(R4.out.more (by omega)).few (bX [])⟩;clear R4;go_wp2
 go_ret2
 exact HF.out
theorem zT(h1:dC ca cb cc)(h2:dC da db dc)(hS:bD PT (dQ ca db cb da) 0)(hS2:bD PT (dQ ca dc da cc) 0)(hS3:bD PT (dQ cb dc db cc) q)(hr:(q==0)=r):FnOk 22 g 21 #[.pointer (some ⟨g,0,none⟩),curV 1 ca cb cc,curV 1 da db dc] [] (fun ks=>.tuple #[.bool r,.nilIface]) []:=FnOk.of fun w B ns N hR hN=>by
 have R1:=hdd hR;clear hR;go_enter Tryz.func22,Tryz.ntmps22
 go_upto_region 0 with fail
 refine Spec.go [.w (.c (.ptr 0 0)),.w (.c (.ptr 1 0)),.w (.c (.v (Value.bool false))),.w (.c (.v Value.nilIface))] [0,1]
  [] [⟨0,29,curC 1 ca cb cc,none⟩,⟨1,29,curC 1 da db dc,none⟩]
  [0,0,0,0] [[],[],[],[]] [(1,.w (.agg ([.v (.int .i64 1),.v (.float .f64 ca),.v (.float .f64 cb),.v (.float .f64 cc)]))),(2,.w (.agg ([.v (.int .i64 1),.v (.float .f64 da),.v (.float .f64 db),.v (.float .f64 dc)])))]
  [5,6,7,8] [] 4 N [] [] R1.out
  (fun b hM=>aA (aA (aA (aA aH
    (aI b m0))
    (aI b m1))
    (aB b))
    (aB b)) ?_
 intro b1 b2 ν W2 hR;have R2:=hdd hR;clear hR R1;simp only[putL,bjB,bjE,fs0,fs1,fsn,dSw,dSt,dWc,dWa,dv,di,dp,ds',bjC,bjD,nuTn,nuT0,nuT1,nuU0,nuU1]
 go_upto_region 1 with fail
 refine Spec.go [.w (.c (.v (.pointer (some ⟨g,0,none⟩)))),.w (.agg ([.v (.int .i64 1),.v (.float .f64 ca),.v (.float .f64 cb),.v (.float .f64 cc)])),.w (.agg ([.v (.int .i64 1),.v (.float .f64 da),.v (.float .f64 db),.v (.float .f64 dc)])),.tup [.c (.v (.bool true)),.c (.v .nilIface)],.tup [.c (.v (.bool true)),.c (.v .nilIface)],.w (.c (.v (.bool true))),.w (.c (.v .nilIface)),.w (.c (.v (.bool true))),.w (.c (.v .nilIface))] []
  [] [⟨0,29,curC 1 ca cb cc,none⟩,⟨1,29,curC 1 da db dc,none⟩]
  [0,0,0,7,0,0,0,0,0] [[],[],[],[0,1,2],rgn 4,rgn 5,rgn 5,rgn 6,[0,1,2,3,4,6]] [(0,.w (.c (.v (.pointer (some ⟨g,0,none⟩))))),(4,.w (.c (.ptr 0 0))),(5,.w (.c (.ptr 1 0)))]
  [13,14,15,16,12,17,18,9,10] [b1,b2] 9 (N+7) [] [] R2.out
  (fun b hM=>aA (aA (aA (aA (aA (aA (aA (aA (aA aH
    (aB b))
    (aD b 4 m0))
    (aD b 4 m1))
    (aG b (c_fn (ix:=[]) (ts:=[]) hM (fun ν=>tV h1 h2 hS (q:=0) (r:=true) rfl))))
    (aB b))
    (aB b))
    (aB b))
    (aB b))
    (aB b)) ?_
 intro ν W3 hR;have R3:=hdd hR;clear hR R2;simp only[putL,bjB,bjE,fs0,fs1,fsn,dSw,dSt,dWc,dWa,dv,di,dp,ds',bjC,bjD,nuTn,nuT0,nuT1,nuU0,nuU1]
 go_upto_region 4 with fail
 refine Spec.go [.w (.c (.v (.pointer (some ⟨g,0,none⟩)))),.w (.c (.ptr 0 1)),.w (.c (.v (.float .f64 ca))),.w (.c (.ptr 1 3)),.w (.c (.v (.float .f64 dc))),.w (.c (.ptr 1 1)),.w (.c (.v (.float .f64 da))),.w (.c (.ptr 0 3)),.w (.c (.v (.float .f64 cc))),.tup [.c (.v (.bool true)),.c (.v .nilIface)],.tup [.c (.v (.bool true)),.c (.v .nilIface)],.w (.c (.v (.bool true))),.w (.c (.v .nilIface)),.w (.c (.v (.bool true))),.w (.c (.v .nilIface))] []
  [] [⟨0,29,curC 1 ca cb cc,none⟩,⟨1,29,curC 1 da db dc,none⟩]
  [0,0,0,0,0,0,0,0,0,7,0,0,0,0,0] [[],[],[1],[],[3],[],[5],[],[7],rgn 9,rgn 10,rgn 11,rgn 11,rgn 12,[0,1,2,3,4,5,6,7,8,9,10,12]] [(0,.w (.c (.v (.pointer (some ⟨g,0,none⟩))))),(4,.w (.c (.ptr 0 0))),(5,.w (.c (.ptr 1 0)))]
  [27,28,29,30,31,32,33,34,35,36,26,37,38,11,10] [b1,b2] 15 (N+14) [] [] R3.out
  (fun b hM=>aA (aA (aA (aA (aA (aA (aA (aA (aA (aA (aA (aA (aA (aA (aA aH
    (aB b))
    (aB b))
    (aZ b m0))
    (aB b))
    (aZ b m1))
    (aB b))
    (aZ b m1))
    (aB b))
    (aZ b m0))
    (aG b (c_fn (ix:=[]) (ts:=[]) hM (fun ν=>qG ⟨h1.1.1,h1.1.2⟩ ⟨h2.2.2.1.1,h2.2.2.1.2⟩ ⟨h2.1.1,h2.1.2⟩ ⟨h1.2.2.1.1,h1.2.2.1.2⟩ hS2 (q:=0) (r:=true) rfl))))
    (aB b))
    (aB b))
    (aB b))
    (aB b))
    (aB b)) ?_
 intro ν W4 hR;have R4:=hdd hR;clear hR R3;simp only[putL,bjB,bjE,fs0,fs1,fsn,dSw,dSt,dWc,dWa,dv,di,dp,ds',bjC,bjD,nuTn,nuT0,nuT1,nuU0,nuU1]
 go_upto_region 7 with fail
 refine Spec.go [.w (.c (.v (.pointer (some ⟨g,0,none⟩)))),.w (.c (.ptr 0 2)),.w (.c (.v (.float .f64 cb))),.w (.c (.ptr 1 3)),.w (.c (.v (.float .f64 dc))),.w (.c (.ptr 1 2)),.w (.c (.v (.float .f64 db))),.w (.c (.ptr 0 3)),.w (.c (.v (.float .f64 cc))),.tup [.c (.v (.bool r)),.c (.v .nilIface)],.w (.c (.v (.bool r))),.w (.c (.v .nilIface)),.w (.c (.v (.bool r))),.w (.c (.v .nilIface))] []
  [] [⟨0,29,curC 1 ca cb cc,none⟩,⟨1,29,curC 1 da db dc,none⟩]
  [0,0,0,0,0,0,0,0,0,7,0,0,0,0] [[],[],[1],[],[3],[],[5],[],[7],rgn 9,rgn 10,rgn 10,rgn 11,[0,1,2,3,4,5,6,7,8,9,11]] [(0,.w (.c (.v (.pointer (some ⟨g,0,none⟩))))),(4,.w (.c (.ptr 0 0))),(5,.w (.c (.ptr 1 0)))]
  [46,47,48,49,50,51,52,53,54,55,56,57,7,8] [b1,b2] 14 (N+21) [] [] R4.out
  (fun b hM=>aA (aA (aA (aA (aA (aA (aA (aA (aA (aA (aA (aA (aA (aA aH
    (aB b))
    (aB b))
    (aZ b m0))
    (aB b))
    (aZ b m1))
    (aB b))
    (aZ b m1))
    (aB b))
    (aZ b m0))
    (aG b (c_fn (ix:=[]) (ts:=[]) hM (fun ν=>qG ⟨h1.2.1.1,h1.2.1.2⟩ ⟨h2.2.2.1.1,h2.2.2.1.2⟩ ⟨h2.2.1.1,h2.2.1.2⟩ ⟨h1.2.2.1.1,h1.2.2.1.2⟩ hS3 hr))))
    (aB b))
    (aB b))
    (aB b))
    (aB b)) ?_
 intro ν W5 hR;replace hR:Run ⟨w,B,ns⟩ g (N+21) [] [(b1,.cells #[(.int .i64 1),(.float .f64 ca),(.float .f64 cb),(.float .f64 cc)] 29),(b2,.cells #[(.int .i64 1),(.float .f64 da),(.float .f64 db),(.float .f64 dc)] 29)] W5:=hR;have R5:=hdd hR;clear hR R4;simp only[putL,bjB,bjE,fs0,fs1,fsn,dSw,dSt,dWc,dWa,dv,di,dp,ds',bjC,bjD,nuTn,nuT0,nuT1,nuU0,nuU1];have HF:Hid (mP w B ns g (N+21) (fun _=>.tuple #[.bool r,.nilIface]) [] (.returned (.tuple #[.bool r,.nilIface])) W5):=hdd ⟨[],rfl,rfl,_,(R5.out.more (by omega)).few (bX [])⟩;clear R5;go_wp2
 go_ret2
 exact HF.out
theorem aiR(h1:dC ca cb cc)(h2:dC da db dc)(hS:bD PT (dQ ca db cb da) 0)(hS2:bD PT (dQ ca dc da cc) q)(hq:(q==0)=false):FnOk 22 g 21 #[.pointer (some ⟨g,0,none⟩),curV 1 ca cb cc,curV 1 da db dc] [] (fun ks=>.tuple #[.bool false,.nilIface]) []:=FnOk.of fun w B ns N hR hN=>by
 have R1:=hdd hR;clear hR;go_enter Tryz.func22,Tryz.ntmps22
 go_upto_region 0 with fail
 refine Spec.go [.w (.c (.ptr 0 0)),.w (.c (.ptr 1 0)),.w (.c (.v (Value.bool false))),.w (.c (.v Value.nilIface))] [0,1]
  [] [⟨0,29,curC 1 ca cb cc,none⟩,⟨1,29,curC 1 da db dc,none⟩]
  [0,0,0,0] [[],[],[],[]] [(1,.w (.agg ([.v (.int .i64 1),.v (.float .f64 ca),.v (.float .f64 cb),.v (.float .f64 cc)]))),(2,.w (.agg ([.v (.int .i64 1),.v (.float .f64 da),.v (.float .f64 db),.v (.float .f64 dc)])))]
  [5,6,7,8] [] 4 N [] [] R1.out
  (fun b hM=>aA (aA (aA (aA aH
    (aI b m0))
    (aI b m1))
    (aB b))
    (aB b)) ?_
 intro b1 b2 ν W2 hR;have R2:=hdd hR;clear hR R1;simp only[putL,bjB,bjE,fs0,fs1,fsn,dSw,dSt,dWc,dWa,dv,di,dp,ds',bjC,bjD,nuTn,nuT0,nuT1,nuU0,nuU1]
 go_upto_region 1 with fail
 refine Spec.go [.w (.c (.v (.pointer (some ⟨g,0,none⟩)))),.w (.agg ([.v (.int .i64 1),.v (.float .f64 ca),.v (.float .f64 cb),.v (.float .f64 cc)])),.w (.agg ([.v (.int .i64 1),.v (.float .f64 da),.v (.float .f64 db),.v (.float .f64 dc)])),.tup [.c (.v (.bool true)),.c (.v .nilIface)],.tup [.c (.v (.bool true)),.c (.v .nilIface)],.w (.c (.v (.bool true))),.w (.c (.v .nilIface)),.w (.c (.v (.bool true))),.w (.c (.v .nilIface))] []
  [] [⟨0,29,curC 1 ca cb cc,none⟩,⟨1,29,curC 1 da db dc,none⟩]
  [0,0,0,7,0,0,0,0,0] [[],[],[],[0,1,2],rgn 4,rgn 5,rgn 5,rgn 6,[0,1,2,3,4,6]] [(0,.w (.c (.v (.pointer (some ⟨g,0,none⟩))))),(4,.w (.c (.ptr 0 0))),(5,.w (.c (.ptr 1 0)))]
  [13,14,15,16,12,17,18,9,10] [b1,b2] 9 (N+7) [] [] R2.out
  (fun b hM=>aA (aA (aA (aA (aA (aA (aA (aA (aA aH
    (aB b))
    (aD b 4 m0))
    (aD b 4 m1))
    (aG b (c_fn (ix:=[]) (ts:=[]) hM (fun ν=>tV h1 h2 hS (q:=0) (r:=true) rfl))))
    (aB b))
    (aB b))
    (aB b))
    (aB b))
    (aB b)) ?_
 intro ν W3 hR;have R3:=hdd hR;clear hR R2;simp only[putL,bjB,bjE,fs0,fs1,fsn,dSw,dSt,dWc,dWa,dv,di,dp,ds',bjC,bjD,nuTn,nuT0,nuT1,nuU0,nuU1]
 go_upto_region 4 with fail
 refine Spec.go [.w (.c (.v (.pointer (some ⟨g,0,none⟩)))),.w (.c (.ptr 0 1)),.w (.c (.v (.float .f64 ca))),.w (.c (.ptr 1 3)),.w (.c (.v (.float .f64 dc))),.w (.c (.ptr 1 1)),.w (.c (.v (.float .f64 da))),.w (.c (.ptr 0 3)),.w (.c (.v (.float .f64 cc))),.tup [.c (.v (.bool false)),.c (.v .nilIface)],.tup [.c (.v (.bool false)),.c (.v .nilIface)],.w (.c (.v (.bool false))),.w (.c (.v .nilIface)),.w (.c (.v (.bool false))),.w (.c (.v .nilIface))] []
  [] [⟨0,29,curC 1 ca cb cc,none⟩,⟨1,29,curC 1 da db dc,none⟩]
  [0,0,0,0,0,0,0,0,0,7,0,0,0,0,0] [[],[],[1],[],[3],[],[5],[],[7],rgn 9,rgn 10,rgn 11,rgn 11,rgn 12,[0,1,2,3,4,5,6,7,8,9,10,12]] [(0,.w (.c (.v (.pointer (some ⟨g,0,none⟩))))),(4,.w (.c (.ptr 0 0))),(5,.w (.c (.ptr 1 0)))]
  [27,28,29,30,31,32,33,34,35,36,26,37,38,11,10] [b1,b2] 15 (N+14) [] [] R3.out
  (fun b hM=>aA (aA (aA (aA (aA (aA (aA (aA (aA (aA (aA (aA (aA (aA (aA aH
    (aB b))
    (aB b))
    (aZ b m0))
    (aB b))
    (aZ b m1))
    (aB b))
    (aZ b m1))
    (aB b))
    (aZ b m0))
    (aG b (c_fn (ix:=[]) (ts:=[]) hM (fun ν=>qG ⟨h1.1.1,h1.1.2⟩ ⟨h2.2.2.1.1,h2.2.2.1.2⟩ ⟨h2.1.1,h2.1.2⟩ ⟨h1.2.2.1.1,h1.2.2.1.2⟩ hS2 hq))))
    (aB b))
    (aB b))
    (aB b))
    (aB b))
    (aB b)) ?_
 intro ν W4 hR;replace hR:Run ⟨w,B,ns⟩ g (N+14) [] [(b1,.cells #[(.int .i64 1),(.float .f64 ca),(.float .f64 cb),(.float .f64 cc)] 29),(b2,.cells #[(.int .i64 1),(.float .f64 da),(.float .f64 db),(.float .f64 dc)] 29)] W4:=hR;have R4:=hdd hR;clear hR R3;simp only[putL,bjB,bjE,fs0,fs1,fsn,dSw,dSt,dWc,dWa,dv,di,dp,ds',bjC,bjD,nuTn,nuT0,nuT1,nuU0,nuU1];have HF:Hid (mP w B ns g (N+21) (fun _=>.tuple #[.bool false,.nilIface]) [] (.returned (.tuple #[.bool false,.nilIface])) W4):=hdd ⟨[],rfl,rfl,_,(R4.out.more (by omega)).few (bX [])⟩;clear R4;go_wp2
 go_ret2
 exact HF.out
theorem amN{p:Int}(h1:dC ca cb cc)(h2:dC da db dc)(hS:bD PT (dQ ca db cb da) 0)(hS2:bD PT (dQ ca dc da cc) p)(hS3:bD PT (dQ cb dc db cc) q)(hq:p≠0\/q≠0):
 FnOk 22 g 21 #[.pointer (some ⟨g,0,none⟩),curV 1 ca cb cc,curV 1 da db dc] [] (fun ks=>.tuple #[.bool false,.nilIface]) []:=by
 by_cases h0:p=0
 . subst h0
   exact zT h1 h2 hS hS2 hS3 (beq_eq_false_iff_ne.2 (hq.resolve_left (fun h=>h rfl)))
 . exact aiR h1 h2 hS hS2 (beq_eq_false_iff_ne.2 h0)
end Go.Proofs.YtjaafolhfihegaaGreatDoor
