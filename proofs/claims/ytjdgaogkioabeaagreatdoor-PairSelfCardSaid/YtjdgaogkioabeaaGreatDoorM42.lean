/- A part of the proof: contracts of functions and plain laws (LjBxClmV, LawPxClmV, LawAxClmV). -/
import Derived.Test.YtjdgaogkioabeaaGreatDoorM39
import Derived.Test.YtjdgaogkioabeaaGreatDoorM19
import Derived.Test.YtjdgaogkioabeaaGreatDoorM18
import Derived.Test.YtjdgaogkioabeaaGreatDoorM38
import Derived.Test.YtjdgaogkioabeaaGreatDoorM16
import Derived.Test.YtjdgaogkioabeaaGreatDoorM32
import Derived.Test.YtjdgaogkioabeaaGreatDoorM11
import Derived.Test.YtjdgaogkioabeaaGreatDoorM10
import Derived.Test.YtjdgaogkioabeaaGreatDoorM08
import Derived.Test.YtjdgaogkioabeaaGreatDoorM09
import Derived.Test.YtjdgaogkioabeaaGreatDoorM01
import Derived.Test.YtjdgaogkioabeaaGreatDoorM07
import Derived.Test.YtjdgaogkioabeaaGreatDoorM06
import Derived.Test.YtjdgaogkioabeaaGreatDoorM05
import Derived.Test.YtjdgaogkioabeaaGreatDoorM04
import Derived.Test.YtjdgaogkioabeaaGreatDoorM03
import Derived.Test.YtjdgaogkioabeaaGreatDoorM02
import Derived.Test.YtjdgaogkioabeaaGreatDoorM15
import Derived.Test.YtjdgaogkioabeaaGreatDoorM14
import Derived.Test.YtjdgaogkioabeaaGreatDoorM13
import Derived.Test.YtjdgaogkioabeaaGreatDoorM12
import Derived.Test.YtjdgaogkioabeaaGreatDoorM31
import Derived.Test.YtjdgaogkioabeaaGreatDoorM30
import Derived.Test.YtjdgaogkioabeaaGreatDoorM29
import Derived.Test.YtjdgaogkioabeaaGreatDoorM28
import Derived.Test.YtjdgaogkioabeaaGreatDoorM27
import Derived.Test.YtjdgaogkioabeaaGreatDoorM24
import Derived.Test.YtjdgaogkioabeaaGreatDoorM23
import Derived.Test.YtjdgaogkioabeaaGreatDoorM21
import Derived.Test.YtjdgaogkioabeaaGreatDoorM20
import Derived.Test.YtjdgaogkioabeaaGreatDoorM22
import Derived.Test.YtjdgaogkioabeaaGreatDoorM26
import Derived.Test.YtjdgaogkioabeaaGreatDoorM25
import Derived.WalkKit
import Derived.Laws.NewFold
import Derived.IntWalk
import Derived.OpenShut
set_option linter.unusedVariables false
set_option linter.unusedSimpArgs false
set_option maxHeartbeats 25600000
set_option maxRecDepth 100000
namespace Go.Proofs.YtjdgaogkioabeaaGreatDoor
open Go.RowKit Go.Maps
open List renaming setIfInBounds_toArray->bkZ,map_cons->bk0,map_nil->bk3,set->bk4
variable{r:Bool}{q:Int}{ca cb cc cd da db dc g:Nat}
theorem ajJ(hca:FlOk ca)(hcb:FlOk cb)(hcc:FlOk cc)(hcd:FlOk cd):FnOk 71 g 7 #[.pointer (some ⟨g,0,none⟩),.float .f64 ca,.float .f64 cb,.float .f64 cc,.float .f64 cd] [] (fun ks=>numV g (ks.getD 0 0)) [lL ca cb cc cd]:=FnOk.of fun w B ns N hR hN=>by
 have R1:=hdd hR;clear hR;go_enter Tryz.func71,Tryz.ntmps71
 go_upto_region 0 with fail
 refine Spec.go [.w (.c (.ptr 0 0))] [0]
  [] [⟨0,34,[.v (.pointer none),.v (.int .i64 0)],none⟩]
  [0] [[]] []
  [11] [] 1 N [] [] R1.out
  (fun b hM=>aB dA
    (dM b m0)) ?_
 intro b1 ν W2 hR;have R2:=hdd hR;clear hR R1;simp only[putL,bkZ,bk4,fs0,fs1,fsn,dSw,dSt,dWc,dWa,dv,di,dp,ds',bk0,bk3,nuTn,nuT0,nuT1,nuU0,nuU1]
 go_upto_region 1 with fail
 refine Spec.go [.w (.c (.v (.pointer (some ⟨g,0,none⟩)))),.w (.c (.v (.float .f64 ca))),numS g 1,.w (.c (.v (.pointer (some ⟨g,0,none⟩)))),.w (.c (.v (.float .f64 cb))),numS g 2,.w (.c (.sl 3 1)),numS g 4,.w (.c (.v (.pointer (some ⟨g,0,none⟩)))),.w (.c (.v (.float .f64 cc))),numS g 5,.w (.c (.v (.pointer (some ⟨g,0,none⟩)))),.w (.c (.v (.float .f64 cd))),numS g 6,.w (.c (.sl 7 1)),numS g 8,numS g 9,noS] [2,5,6,7,10,13,14,15,16]
  [(1,(.leaf ca)),(2,(.leaf cb)),(4,(.mul (.leaf ca) (.leaf cb))),(5,(.leaf cc)),(6,(.leaf cd)),(8,(.mul (.leaf cc) (.leaf cd))),(9,(.sub (.mul (.leaf ca) (.leaf cb)) (.mul (.leaf cc) (.leaf cd))))] [⟨0,34,[.v (.pointer none),.v (.int .i64 0)],some (17,numC g 9)⟩,⟨3,34,numC g 2,none⟩,⟨7,34,numC g 6,none⟩]
  [0,0,1,0,0,1,0,1,0,0,1,0,0,1,0,1,1,0] [[],[],[0,1],[],[],[3,4],[3,4,5],rgn 7,[],[],[8,9],[],[],[11,12],[11,12,13],[8,9,10,11,12,13,14],rgn 16,rgn 17] [(0,.w (.c (.v (.pointer (some ⟨g,0,none⟩))))),(1,.w (.c (.v (.float .f64 ca)))),(2,.w (.c (.v (.float .f64 cb)))),(3,.w (.c (.v (.float .f64 cc)))),(4,.w (.c (.v (.float .f64 cd)))),(10,.w (.c (.ptr 0 0)))]
  [12,13,14,15,16,17,18,19,20,21,22,23,24,25,26,27,28,0] [b1] 18 (N+7) [] [] R2.out
  (fun b hM=>aB (aB (aB (aB (aB (aB (aB (aB (aB (aB (aB (aB (aB (aB (aB (aB (aB (aB dA
    (aK b))
    (aK b))
    (bJ b (c_of hM hca.1 hca.2 rfl rfl rfl rfl)))
    (aK b))
    (aK b))
    (bJ b (c_of hM hcb.1 hcb.2 rfl rfl rfl rfl)))
    (jC b m1))
    (bJ b (tO hM m0 m1 rfl rfl m1 rfl rfl rfl rfl rfl rfl rfl rfl)))
    (aK b))
    (aK b))
    (bJ b (c_of hM hcc.1 hcc.2 rfl rfl rfl rfl)))
    (aK b))
    (aK b))
    (bJ b (c_of hM hcd.1 hcd.2 rfl rfl rfl rfl)))
    (jC b m2))
    (bJ b (tO hM m3 m4 rfl rfl m2 rfl rfl rfl rfl rfl rfl rfl rfl)))
    (bJ b (pG hM m2 m5 rfl rfl rfl rfl rfl rfl)))
    (jQ b 2 m0)) ?_
 intro n2 n3 b4 n5 n6 n7 b8 n9 n10 ν W3 hR;replace hR:Run ⟨w,B,ns⟩ g (N+7) [((.leaf ca),n2),((.leaf cb),n3),((.mul (.leaf ca) (.leaf cb)),n5),((.leaf cc),n6),((.leaf cd),n7),((.mul (.leaf cc) (.leaf cd)),n9),((.sub (.mul (.leaf ca) (.leaf cb)) (.mul (.leaf cc) (.leaf cd))),n10)] [(b1,numO g n10),(b4,numO g n3),(b8,numO g n7)] W3:=hR;have R3:=hdd hR;clear hR R2;simp only[putL,bkZ,bk4,fs0,fs1,fsn,dSw,dSt,dWc,dWa,dv,di,dp,ds',bk0,bk3,nuTn,nuT0,nuT1,nuU0,nuU1];go_wp2;obtain⟨x0,x1,-,-⟩:=aD (R3.out.at m0);refine bodyPost_ret (v:=.agg #[_,_]) (by simp[results,Tryz.results71,go_sem,x0,x1];first|exact⟨rfl,rfl⟩|rfl) rfl ?_;exact⟨[n10],rfl,rfl,_,R3.out.few (dF [6])⟩
theorem sV(hca:FlOk ca)(hcb:FlOk cb)(hcc:FlOk cc)(hcd:FlOk cd)(hS:fT PT (lL ca cb cc cd) q)(hr:(q==0)=r):FnOk 54 g 7 #[.pointer (some ⟨g,0,none⟩),.float .f64 ca,.float .f64 cb,.float .f64 cc,.float .f64 cd] [] (fun ks=>.tuple #[.bool r,.nilIface]) []:=FnOk.of fun w B ns N hR hN=>by
 have R1:=hdd hR;clear hR;go_enter Tryz.func54,Tryz.ntmps54
 go_upto_region 0 with fail
 refine Spec.go [.w (.c (.v (Value.bool false))),.w (.c (.v Value.nilIface))] []
  [] []
  [0,0] [[],[]] []
  [11,12] [] 2 N [] [] R1.out
  (fun b hM=>aB (aB dA
    (aK b))
    (aK b)) ?_
 intro ν W2 hR;have R2:=hdd hR;clear hR R1;simp only[putL,bkZ,bk4,fs0,fs1,fsn,dSw,dSt,dWc,dWa,dv,di,dp,ds',bk0,bk3,nuTn,nuT0,nuT1,nuU0,nuU1]
 go_upto_region 1 with fail
 refine Spec.go [.w (.c (.v (.pointer (some ⟨g,0,none⟩)))),.w (.c (.v (.float .f64 ca))),.w (.c (.v (.float .f64 cb))),.w (.c (.v (.float .f64 cc))),.w (.c (.v (.float .f64 cd))),numS g 0,.tup [.c (.v (.int .i64 q)),.c (.v .nilIface)],.tup [.c (.v (.int .i64 q)),.c (.v .nilIface)],.w (.c (.v (.int .i64 q))),.w (.c (.v .nilIface)),.w (.c (.v (.int .i64 q))),.w (.c (.v .nilIface))] [5]
  [(0,(lL ca cb cc cd))] []
  [0,0,0,0,0,7,0,0,0,0,0,0] [[],[],[],[],[],rgn 5,rgn 6,rgn 7,rgn 8,rgn 8,rgn 9,[0,1,2,3,4,5,6,7,9]] [(0,.w (.c (.v (.pointer (some ⟨g,0,none⟩))))),(1,.w (.c (.v (.float .f64 ca)))),(2,.w (.c (.v (.float .f64 cb)))),(3,.w (.c (.v (.float .f64 cc)))),(4,.w (.c (.v (.float .f64 cd))))]
  [16,17,18,19,20,21,22,15,23,24,13,14] [] 12 (N+7) [] [] R2.out
  (fun b hM=>aB (aB (aB (aB (aB (aB (aB (aB (aB (aB (aB (aB dA
    (aK b))
    (aK b))
    (aK b))
    (aK b))
    (aK b))
    (bJ b (c_fn (ix:=[]) (ts:=[0]) hM (fun ν=>ajJ ⟨hca.1,hca.2⟩ ⟨hcb.1,hcb.2⟩ ⟨hcc.1,hcc.2⟩ ⟨hcd.1,hcd.2⟩))))
    (bJ b (alY hM m0 rfl rfl rfl rfl hS)))
    (aK b))
    (aK b))
    (aK b))
    (aK b))
    (aK b)) ?_
 intro n1 ν W3 hR;replace hR:Run ⟨w,B,ns⟩ g (N+7) [((lL ca cb cc cd),n1)] [] W3:=hR;have R3:=hdd hR;clear hR R2;simp only[putL,bkZ,bk4,fs0,fs1,fsn,dSw,dSt,dWc,dWa,dv,di,dp,ds',bk0,bk3,nuTn,nuT0,nuT1,nuU0,nuU1];have HF:Hid (agN w B ns g (N+7) (fun _=>.tuple #[.bool r,.nilIface]) [] (.returned (.tuple #[.bool r,.nilIface])) W3):=hdd ⟨[],rfl,rfl,_,(R3.out.more (by omega)).few (dF [])⟩;clear R3;go_wp2
 go_ret2
 exact HF.out
theorem ajK(h1:iJ ca cb cc)(h2:iJ da db dc)(hS:fT PT (lL ca db cb da) q)(hr:(q==0)=r):FnOk 53 g 7 #[.pointer (some ⟨g,0,none⟩),curV 1 ca cb cc,curV 1 da db dc] [] (fun ks=>.tuple #[.bool r,.nilIface]) []:=FnOk.of fun w B ns N hR hN=>by
 have R1:=hdd hR;clear hR;go_enter Tryz.func53,Tryz.ntmps53
 go_upto_region 0 with fail
 refine Spec.go [.w (.c (.ptr 0 0)),.w (.c (.ptr 1 0)),.w (.c (.v (Value.bool false))),.w (.c (.v Value.nilIface))] [0,1]
  [] [⟨0,32,curC 1 ca cb cc,none⟩,⟨1,32,curC 1 da db dc,none⟩]
  [0,0,0,0] [[],[],[],[]] [(1,.w (.agg ([.v (.int .i64 1),.v (.float .f64 ca),.v (.float .f64 cb),.v (.float .f64 cc)]))),(2,.w (.agg ([.v (.int .i64 1),.v (.float .f64 da),.v (.float .f64 db),.v (.float .f64 dc)])))]
  [5,6,7,8] [] 4 N [] [] R1.out
  (fun b hM=>aB (aB (aB (aB dA
    (dM b m0))
    (dM b m1))
    (aK b))
    (aK b)) ?_
 intro b1 b2 ν W2 hR;have R2:=hdd hR;clear hR R1;simp only[putL,bkZ,bk4,fs0,fs1,fsn,dSw,dSt,dWc,dWa,dv,di,dp,ds',bk0,bk3,nuTn,nuT0,nuT1,nuU0,nuU1]
 go_upto_region 1 with fail
 refine Spec.go [.w (.agg ([.v (.int .i64 1),.v (.float .f64 ca),.v (.float .f64 cb),.v (.float .f64 cc)])),.w (.agg ([.v (.int .i64 1),.v (.float .f64 da),.v (.float .f64 db),.v (.float .f64 dc)])),.w (.c (.v .nilIface)),.w (.c (.v .nilIface))] []
  [] [⟨0,32,curC 1 ca cb cc,none⟩,⟨1,32,curC 1 da db dc,none⟩]
  [0,0,0,0] [[],[],[0,1],[0,1,2]] [(4,.w (.c (.ptr 0 0))),(5,.w (.c (.ptr 1 0)))]
  [10,11,12,9] [b1,b2] 4 N [] [] R2.out
  (fun b hM=>aB (aB (aB (aB dA
    (dU b 4 m0))
    (dU b 4 m1))
    (bJ b (aq2 hM rfl rfl rfl (fun w=>ajH h1 h2))))
    (aK b)) ?_
 intro ν W3 hR;have R3:=hdd hR;clear hR R2;simp only[putL,bkZ,bk4,fs0,fs1,fsn,dSw,dSt,dWc,dWa,dv,di,dp,ds',bk0,bk3,nuTn,nuT0,nuT1,nuU0,nuU1]
 go_upto_region 4 with fail
 refine Spec.go [.w (.c (.v (.pointer (some ⟨g,0,none⟩)))),.w (.c (.ptr 0 1)),.w (.c (.v (.float .f64 ca))),.w (.c (.ptr 1 2)),.w (.c (.v (.float .f64 db))),.w (.c (.ptr 0 2)),.w (.c (.v (.float .f64 cb))),.w (.c (.ptr 1 1)),.w (.c (.v (.float .f64 da))),.tup [.c (.v (.bool r)),.c (.v .nilIface)],.w (.c (.v (.bool r))),.w (.c (.v .nilIface)),.w (.c (.v (.bool r))),.w (.c (.v .nilIface))] []
  [] [⟨0,32,curC 1 ca cb cc,none⟩,⟨1,32,curC 1 da db dc,none⟩]
  [0,0,0,0,0,0,0,0,0,7,0,0,0,0] [[],[],[1],[],[3],[],[5],[],[7],rgn 9,rgn 10,rgn 10,rgn 11,[0,1,2,3,4,5,6,7,8,9,11]] [(0,.w (.c (.v (.pointer (some ⟨g,0,none⟩))))),(4,.w (.c (.ptr 0 0))),(5,.w (.c (.ptr 1 0)))]
  [16,17,18,19,20,21,22,23,24,25,26,27,7,8] [b1,b2] 14 (N+7) [] [] R3.out
  (fun b hM=>aB (aB (aB (aB (aB (aB (aB (aB (aB (aB (aB (aB (aB (aB dA
    (aK b))
    (aK b))
    (dY b m0))
    (aK b))
    (dY b m1))
    (aK b))
    (dY b m0))
    (aK b))
    (dY b m1))
    (bJ b (c_fn (ix:=[]) (ts:=[]) hM (fun ν=>sV ⟨h1.1.1,h1.1.2⟩ ⟨h2.2.1.1,h2.2.1.2⟩ ⟨h1.2.1.1,h1.2.1.2⟩ ⟨h2.1.1,h2.1.2⟩ hS hr))))
    (aK b))
    (aK b))
    (aK b))
    (aK b)) ?_
 intro ν W4 hR;replace hR:Run ⟨w,B,ns⟩ g (N+7) [] [(b1,.cells #[(.int .i64 1),(.float .f64 ca),(.float .f64 cb),(.float .f64 cc)] 32),(b2,.cells #[(.int .i64 1),(.float .f64 da),(.float .f64 db),(.float .f64 dc)] 32)] W4:=hR;have R4:=hdd hR;clear hR R3;simp only[putL,bkZ,bk4,fs0,fs1,fsn,dSw,dSt,dWc,dWa,dv,di,dp,ds',bk0,bk3,nuTn,nuT0,nuT1,nuU0,nuU1];have HF:Hid (agN w B ns g (N+7) (fun _=>.tuple #[.bool r,.nilIface]) [] (.returned (.tuple #[.bool r,.nilIface])) W4):=hdd ⟨[],rfl,rfl,_,(R4.out.more (by omega)).few (dF [])⟩;clear R4;go_wp2
 go_ret2
 exact HF.out
theorem ajL(h1:iJ ca cb cc)(h2:iJ da db dc)(hS:fT PT (lL ca db cb da) 0)(hS2:fT PT (lL ca dc da cc) 0)(hS3:fT PT (lL cb dc db cc) q)(hr:(q==0)=r):FnOk 35 g 21 #[.pointer (some ⟨g,0,none⟩),curV 1 ca cb cc,curV 1 da db dc] [] (fun ks=>.tuple #[.bool r,.nilIface]) []:=FnOk.of fun w B ns N hR hN=>by
 have R1:=hdd hR;clear hR;go_enter Tryz.func35,Tryz.ntmps35
 go_upto_region 0 with fail
 refine Spec.go [.w (.c (.ptr 0 0)),.w (.c (.ptr 1 0)),.w (.c (.v (Value.bool false))),.w (.c (.v Value.nilIface))] [0,1]
  [] [⟨0,32,curC 1 ca cb cc,none⟩,⟨1,32,curC 1 da db dc,none⟩]
  [0,0,0,0] [[],[],[],[]] [(1,.w (.agg ([.v (.int .i64 1),.v (.float .f64 ca),.v (.float .f64 cb),.v (.float .f64 cc)]))),(2,.w (.agg ([.v (.int .i64 1),.v (.float .f64 da),.v (.float .f64 db),.v (.float .f64 dc)])))]
  [5,6,7,8] [] 4 N [] [] R1.out
  (fun b hM=>aB (aB (aB (aB dA
    (dM b m0))
    (dM b m1))
    (aK b))
    (aK b)) ?_
 intro b1 b2 ν W2 hR;have R2:=hdd hR;clear hR R1;simp only[putL,bkZ,bk4,fs0,fs1,fsn,dSw,dSt,dWc,dWa,dv,di,dp,ds',bk0,bk3,nuTn,nuT0,nuT1,nuU0,nuU1]
 go_upto_region 1 with fail
 refine Spec.go [.w (.c (.v (.pointer (some ⟨g,0,none⟩)))),.w (.agg ([.v (.int .i64 1),.v (.float .f64 ca),.v (.float .f64 cb),.v (.float .f64 cc)])),.w (.agg ([.v (.int .i64 1),.v (.float .f64 da),.v (.float .f64 db),.v (.float .f64 dc)])),.tup [.c (.v (.bool true)),.c (.v .nilIface)],.tup [.c (.v (.bool true)),.c (.v .nilIface)],.w (.c (.v (.bool true))),.w (.c (.v .nilIface)),.w (.c (.v (.bool true))),.w (.c (.v .nilIface))] []
  [] [⟨0,32,curC 1 ca cb cc,none⟩,⟨1,32,curC 1 da db dc,none⟩]
  [0,0,0,7,0,0,0,0,0] [[],[],[],[0,1,2],rgn 4,rgn 5,rgn 5,rgn 6,[0,1,2,3,4,6]] [(0,.w (.c (.v (.pointer (some ⟨g,0,none⟩))))),(4,.w (.c (.ptr 0 0))),(5,.w (.c (.ptr 1 0)))]
  [13,14,15,16,12,17,18,9,10] [b1,b2] 9 (N+7) [] [] R2.out
  (fun b hM=>aB (aB (aB (aB (aB (aB (aB (aB (aB dA
    (aK b))
    (dU b 4 m0))
    (dU b 4 m1))
    (bJ b (c_fn (ix:=[]) (ts:=[]) hM (fun ν=>ajK h1 h2 hS (q:=0) (r:=true) rfl))))
    (aK b))
    (aK b))
    (aK b))
    (aK b))
    (aK b)) ?_
 intro ν W3 hR;have R3:=hdd hR;clear hR R2;simp only[putL,bkZ,bk4,fs0,fs1,fsn,dSw,dSt,dWc,dWa,dv,di,dp,ds',bk0,bk3,nuTn,nuT0,nuT1,nuU0,nuU1]
 go_upto_region 4 with fail
 refine Spec.go [.w (.c (.v (.pointer (some ⟨g,0,none⟩)))),.w (.c (.ptr 0 1)),.w (.c (.v (.float .f64 ca))),.w (.c (.ptr 1 3)),.w (.c (.v (.float .f64 dc))),.w (.c (.ptr 1 1)),.w (.c (.v (.float .f64 da))),.w (.c (.ptr 0 3)),.w (.c (.v (.float .f64 cc))),.tup [.c (.v (.bool true)),.c (.v .nilIface)],.tup [.c (.v (.bool true)),.c (.v .nilIface)],.w (.c (.v (.bool true))),.w (.c (.v .nilIface)),.w (.c (.v (.bool true))),.w (.c (.v .nilIface))] []
  [] [⟨0,32,curC 1 ca cb cc,none⟩,⟨1,32,curC 1 da db dc,none⟩]
  [0,0,0,0,0,0,0,0,0,7,0,0,0,0,0] [[],[],[1],[],[3],[],[5],[],[7],rgn 9,rgn 10,rgn 11,rgn 11,rgn 12,[0,1,2,3,4,5,6,7,8,9,10,12]] [(0,.w (.c (.v (.pointer (some ⟨g,0,none⟩))))),(4,.w (.c (.ptr 0 0))),(5,.w (.c (.ptr 1 0)))]
  [27,28,29,30,31,32,33,34,35,36,26,37,38,11,10] [b1,b2] 15 (N+14) [] [] R3.out
  (fun b hM=>aB (aB (aB (aB (aB (aB (aB (aB (aB (aB (aB (aB (aB (aB (aB dA
    (aK b))
    (aK b))
    (dY b m0))
    (aK b))
    (dY b m1))
    (aK b))
    (dY b m1))
    (aK b))
    (dY b m0))
    (bJ b (c_fn (ix:=[]) (ts:=[]) hM (fun ν=>sV ⟨h1.1.1,h1.1.2⟩ ⟨h2.2.2.1.1,h2.2.2.1.2⟩ ⟨h2.1.1,h2.1.2⟩ ⟨h1.2.2.1.1,h1.2.2.1.2⟩ hS2 (q:=0) (r:=true) rfl))))
    (aK b))
    (aK b))
    (aK b))
    (aK b))
    (aK b)) ?_
 intro ν W4 hR;have R4:=hdd hR;clear hR R3;simp only[putL,bkZ,bk4,fs0,fs1,fsn,dSw,dSt,dWc,dWa,dv,di,dp,ds',bk0,bk3,nuTn,nuT0,nuT1,nuU0,nuU1]
 go_upto_region 7 with fail
 refine Spec.go [.w (.c (.v (.pointer (some ⟨g,0,none⟩)))),.w (.c (.ptr 0 2)),.w (.c (.v (.float .f64 cb))),.w (.c (.ptr 1 3)),.w (.c (.v (.float .f64 dc))),.w (.c (.ptr 1 2)),.w (.c (.v (.float .f64 db))),.w (.c (.ptr 0 3)),.w (.c (.v (.float .f64 cc))),.tup [.c (.v (.bool r)),.c (.v .nilIface)],.w (.c (.v (.bool r))),.w (.c (.v .nilIface)),.w (.c (.v (.bool r))),.w (.c (.v .nilIface))] []
  [] [⟨0,32,curC 1 ca cb cc,none⟩,⟨1,32,curC 1 da db dc,none⟩]
  [0,0,0,0,0,0,0,0,0,7,0,0,0,0] [[],[],[1],[],[3],[],[5],[],[7],rgn 9,rgn 10,rgn 10,rgn 11,[0,1,2,3,4,5,6,7,8,9,11]] [(0,.w (.c (.v (.pointer (some ⟨g,0,none⟩))))),(4,.w (.c (.ptr 0 0))),(5,.w (.c (.ptr 1 0)))]
  [46,47,48,49,50,51,52,53,54,55,56,57,7,8] [b1,b2] 14 (N+21) [] [] R4.out
  (fun b hM=>aB (aB (aB (aB (aB (aB (aB (aB (aB (aB (aB (aB (aB (aB dA
    (aK b))
    (aK b))
    (dY b m0))
    (aK b))
    (dY b m1))
    (aK b))
    (dY b m1))
    (aK b))
    (dY b m0))
    (bJ b (c_fn (ix:=[]) (ts:=[]) hM (fun ν=>sV ⟨h1.2.1.1,h1.2.1.2⟩ ⟨h2.2.2.1.1,h2.2.2.1.2⟩ ⟨h2.2.1.1,h2.2.1.2⟩ ⟨h1.2.2.1.1,h1.2.2.1.2⟩ hS3 hr))))
    (aK b))
    (aK b))
    (aK b))
    (aK b)) ?_
 intro ν W5 hR;replace hR:Run ⟨w,B,ns⟩ g (N+21) [] [(b1,.cells #[(.int .i64 1),(.float .f64 ca),(.float .f64 cb),(.float .f64 cc)] 32),(b2,.cells #[(.int .i64 1),(.float .f64 da),(.float .f64 db),(.float .f64 dc)] 32)] W5:=hR;have R5:=hdd hR;clear hR R4;simp only[putL,bkZ,bk4,fs0,fs1,fsn,dSw,dSt,dWc,dWa,dv,di,dp,ds',bk0,bk3,nuTn,nuT0,nuT1,nuU0,nuU1];have HF:Hid (agN w B ns g (N+21) (fun _=>.tuple #[.bool r,.nilIface]) [] (.returned (.tuple #[.bool r,.nilIface])) W5):=hdd ⟨[],rfl,rfl,_,(R5.out.more (by omega)).few (dF [])⟩;clear R5;go_wp2
 go_ret2
 exact HF.out
end Go.Proofs.YtjdgaogkioabeaaGreatDoor
namespace Go.Proofs.YtjdgaogkioabeaaGreatDoor
open Go.ChangeShapes Go.WideShapes Go.ChangeAt Go.RowKit
open Go.DataW renaming trod_int->bk5,Trod->bk6
section
variable{H:Type}{enc:TypeId×Value->H}{P:Program}{w:World}{base:Nat}{spare:Nat->Bool}{held:Bool}
end
theorem dP:Tryz.prog.cellsOf 3=1:=by kernel_rfl
section
variable{H:Type}{enc:TypeId×Value->H}{P:Program}{w:World}{base:Nat}{spare:Nat->Bool}{held:Bool}{t:TypeId}{f0 f1 f2 f3 f4 f5 f6 f7:Field}{v:Value}{d:DataW H}{ps:List MemPlace}{r:Reach}{b0:Nat}{k:IntKind}
 (ht:P.underlying t=some (.struct #[f0,f1,f2,f3,f4,f5,f6,f7])) (o0:f0.offset=0) (o1:f1.offset=1) (o2:f2.offset=2) (o3:f3.offset=3) (o4:f4.offset=4) (o5:f5.offset=5) (o6:f6.offset=6) (o7:f7.offset=7)
   (k0:P.cellsOf f0.type=1) (k1:P.cellsOf f1.type=1) (k2:P.cellsOf f2.type=1) (k3:P.cellsOf f3.type=1) (k4:P.cellsOf f4.type=1) (k5:P.cellsOf f5.type=1) (k6:P.cellsOf f6.type=1) (k7:P.cellsOf f7.type=1) (hct:P.cellsOf t=8) (u0:P.underlying f0.type=some (.bool)) (u1:P.underlying f1.type=some (.int k)) (u2:P.underlying f2.type=some (.int k)) (u3:P.underlying f3.type=some (.int k)) (u4:P.underlying f4.type=some (.int k)) (u5:P.underlying f5.type=some (.int k)) (u6:P.underlying f6.type=some (.int k)) (u7:P.underlying f7.type=some (.int k))
include ht o0 o1 o2 o3 o4 o5 o6 o7 k0 k1 k2 k3 k4 k5 k6 k7 hct u0 u1 u2 u3 u4 u5 u6 u7
theorem aq5(hval:Value.okWide P w r b0 t v)(hd:bk6 enc P w base spare held t v d ps):
 ∃n0 n1 n2 n3 n4 n5 n6 n7,v=.agg #[.bool n0,.int k n1,.int k n2,.int k n3,.int k n4,.int k n5,.int k n6,.int k n7]/\d=.agg [.lit (.bool n0),.lit (.int k n1),.lit (.int k n2),.lit (.int k n3),.lit (.int k n4),.lit (.int k n5),.lit (.int k n6),.lit (.int k n7)]/\ps=[]/\(Lit.int k n1).wf=true/\(Lit.int k n2).wf=true/\(Lit.int k n3).wf=true/\(Lit.int k n4).wf=true/\(Lit.int k n5).wf=true/\(Lit.int k n6).wf=true/\(Lit.int k n7).wf=true:=by
 obtain⟨cs,rfl,hsz,-⟩:∃cs,v=.agg cs/\cs.size=P.cellsOf t/\Row.okWide P w r b0 t cs:=by
  simpa[Value.okWide,ht]using hval
 rw[hct]at hsz;obtain⟨l⟩:=cs
 match l,hsz with
 |[c0,c1,c2,c3,c4,c5,c6,c7],_=>
  obtain⟨fuel,hf⟩:=hd;obtain⟨xs,n,-,hx,-,hn,hs⟩:=DataW.trod_struct (cs:=[c0,c1,c2,c3,c4,c5,c6,c7]) ht hf
  match xs,hn with
  |[x0,x1,x2,x3,x4,x5,x6,x7],_=>
   have h0:=hs 0 f0 rfl;simp[o0,k0]at h0;have h1:=hs 1 f1 rfl;simp[o1,k1]at h1;have h2:=hs 2 f2 rfl;simp[o2,k2]at h2;have h3:=hs 3 f3 rfl;simp[o3,k3]at h3;have h4:=hs 4 f4 rfl;simp[o4,k4]at h4;have h5:=hs 5 f5 rfl;simp[o5,k5]at h5;have h6:=hs 6 f6 rfl;simp[o6,k6]at h6;have h7:=hs 7 f7 rfl;simp[o7,k7]at h7;obtain⟨n0,e0,rfl⟩:=DataW.trod_bool u0 h0;obtain⟨n1,e1,rfl,w1⟩:=bk5 u1 h1;obtain⟨n2,e2,rfl,w2⟩:=bk5 u2 h2;obtain⟨n3,e3,rfl,w3⟩:=bk5 u3 h3;obtain⟨n4,e4,rfl,w4⟩:=bk5 u4 h4;obtain⟨n5,e5,rfl,w5⟩:=bk5 u5 h5;obtain⟨n6,e6,rfl,w6⟩:=bk5 u6 h6;obtain⟨n7,e7,rfl,w7⟩:=bk5 u7 h7;simp at e0 e1 e2 e3 e4 e5 e6 e7;subst e0 e1 e2 e3 e4 e5 e6 e7;simp only[Prod.mk.injEq]at hx;exact⟨n0,n1,n2,n3,n4,n5,n6,n7,rfl,hx.1,by simpa using hx.2,w1,w2,w3,w4,w5,w6,w7⟩
theorem aq6{n0:Bool}{n1 n2 n3 n4 n5 n6 n7:Int}(w1:(Lit.int k n1).wf=true)(w2:(Lit.int k n2).wf=true)(w3:(Lit.int k n3).wf=true)(w4:(Lit.int k n4).wf=true)(w5:(Lit.int k n5).wf=true)(w6:(Lit.int k n6).wf=true)(w7:(Lit.int k n7).wf=true):
 bk6 enc P w base spare held t (.agg #[.bool n0,.int k n1,.int k n2,.int k n3,.int k n4,.int k n5,.int k n6,.int k n7]) (.agg [.lit (.bool n0),.lit (.int k n1),.lit (.int k n2),.lit (.int k n3),.lit (.int k n4),.lit (.int k n5),.lit (.int k n6),.lit (.int k n7)]) []:=
 ⟨2,by simp[DataW.trod,Value.cells,ht,hct,o0,o1,o2,o3,o4,o5,o6,o7,k0,k1,k2,k3,k4,k5,k6,k7,u0,u1,u2,u3,u4,u5,u6,u7,w1,w2,w3,w4,w5,w6,w7]⟩
end
end Go.Proofs.YtjdgaogkioabeaaGreatDoor
