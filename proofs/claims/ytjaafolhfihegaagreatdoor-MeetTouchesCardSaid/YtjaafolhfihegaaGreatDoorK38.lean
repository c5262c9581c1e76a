/- A part of the proof: contracts of functions and plain laws (MtD). -/
import Derived.Test.YtjaafolhfihegaaGreatDoorK36
set_option linter.unusedVariables false
set_option linter.unusedSimpArgs false
set_option maxHeartbeats 25600000
set_option maxRecDepth 100000
namespace Go.Proofs.YtjaafolhfihegaaGreatDoor
open Go.RowKit Go.Maps
open List renaming setIfInBounds_toArray->bhD,map_cons->bhE,map_nil->bhF,set->bhG
variable{q su sv:Int}{ns:List Nd}{B N g:Nat}{p:Nat×Nat×Nat×Nat×Nat×Nat}{w:World}
def PtsP(w:World)(B:Nat)(ns:List Nd)(g N C:Nat)(U V W:Ex)(a b c:Nat)(q su sv:Int)(e:Ending)(W':World):Prop:=
 (q=-1->alD w B ns g (N+C) (fun _=>.tuple #[.slice none 0 0,.bool false,.nilIface]) [] e W')/\(q=0->x9 w B ns g (N+C) (fun ks b=>.tuple #[.slice (some ⟨b,0,none⟩) 1 1,.bool false,.nilIface]) [cutX U V W a b,cutY U V W a b] (fun ks=>.cells #[.pointer (some ⟨g,0,none⟩),.int .i64 ((ks.getD 0 0:Nat):Int),.pointer (some ⟨g,0,none⟩),.int .i64 ((ks.getD 1 0:Nat):Int)] 33) e W')/\(q=1/\sv=1->x9 w B ns g (N+C) (fun ks b=>.tuple #[.slice (some ⟨b,0,none⟩) 2 2,.bool false,.nilIface]) [kF U V W a b c,kG U V W a b c,kH U V W a b c,kI U V W a b c] (fun ks=>.cells #[.pointer (some ⟨g,0,none⟩),.int .i64 ((ks.getD 0 0:Nat):Int),.pointer (some ⟨g,0,none⟩),.int .i64 ((ks.getD 1 0:Nat):Int),.pointer (some ⟨g,0,none⟩),.int .i64 ((ks.getD 2 0:Nat):Int),.pointer (some ⟨g,0,none⟩),.int .i64 ((ks.getD 3 0:Nat):Int)] 33) e W')/\(q=1/\SwOk su sv->x9 w B ns g (N+C) (fun ks b=>.tuple #[.slice (some ⟨b,0,none⟩) 2 2,.bool false,.nilIface]) [kH U V W a b c,kI U V W a b c,kF U V W a b c,kG U V W a b c] (fun ks=>.cells #[.pointer (some ⟨g,0,none⟩),.int .i64 ((ks.getD 0 0:Nat):Int),.pointer (some ⟨g,0,none⟩),.int .i64 ((ks.getD 1 0:Nat):Int),.pointer (some ⟨g,0,none⟩),.int .i64 ((ks.getD 2 0:Nat):Int),.pointer (some ⟨g,0,none⟩),.int .i64 ((ks.getD 3 0:Nat):Int)] 33) e W')
abbrev ci0(p:Nat×Nat×Nat×Nat×Nat×Nat):Ex:=axU p.1 p.2.2.2.1
abbrev ci1(p:Nat×Nat×Nat×Nat×Nat×Nat):Ex:=axU p.2.1 p.2.2.2.2.1
abbrev ci2(p:Nat×Nat×Nat×Nat×Nat×Nat):Ex:=axW p.1 p.2.1 p.2.2.1 p.2.2.2.1 p.2.2.2.2.1 p.2.2.2.2.2
abbrev ci3(p:Nat×Nat×Nat×Nat×Nat×Nat):Ex:=cutX (ci0 p) (ci1 p) (ci2 p) p.1 p.2.1
abbrev ci4(p:Nat×Nat×Nat×Nat×Nat×Nat):Ex:=cutY (ci0 p) (ci1 p) (ci2 p) p.1 p.2.1
abbrev ci5(p:Nat×Nat×Nat×Nat×Nat×Nat):Ex:=kF (ci0 p) (ci1 p) (ci2 p) p.1 p.2.1 p.2.2.1
abbrev ci6(p:Nat×Nat×Nat×Nat×Nat×Nat):Ex:=kG (ci0 p) (ci1 p) (ci2 p) p.1 p.2.1 p.2.2.1
abbrev ci7(p:Nat×Nat×Nat×Nat×Nat×Nat):Ex:=kH (ci0 p) (ci1 p) (ci2 p) p.1 p.2.1 p.2.2.1
abbrev ci8(p:Nat×Nat×Nat×Nat×Nat×Nat):Ex:=kI (ci0 p) (ci1 p) (ci2 p) p.1 p.2.1 p.2.2.1
theorem oQ(h1:dI p.1 p.2.1 p.2.2.1)(h2:dI p.2.2.2.1 p.2.2.2.2.1 p.2.2.2.2.2)(ho:(FloatKind.f64.format.order p.1 p.2.2.2.1==some Ordering.eq)=false)(s1:∀w,Calls Tryz.prog 108 #[.float .f64 p.2.2.2.1,.float .f64 p.1] w (RetV w (.int .i64 su)))(s2:∀w,Calls Tryz.prog 108 #[.float .f64 p.2.2.2.2.1,.float .f64 p.2.1] w (RetV w (.int .i64 sv)))(hS:dY PT (cutF (axU p.1 p.2.2.2.1) (axU p.2.1 p.2.2.2.2.1) (axW p.1 p.2.1 p.2.2.1 p.2.2.2.1 p.2.2.2.2.1 p.2.2.2.2.2) p.1 p.2.1 p.2.2.1) q)(hq:q=-1\/q=0\/q=1/\sv=1)(hR:Run ⟨w,B,ns⟩ g N [] [] w)(hN:N+54<=20000):Calls Tryz.prog 84 #[.pointer (some ⟨g,0,none⟩),curV 2 p.1 p.2.1 p.2.2.1,curV 2 p.2.2.2.1 p.2.2.2.2.1 p.2.2.2.2.2] w (PtsP w B ns g N 54 (axU p.1 p.2.2.2.1) (axU p.2.1 p.2.2.2.2.1) (axW p.1 p.2.1 p.2.2.1 p.2.2.2.1 p.2.2.2.2.1 p.2.2.2.2.2) p.1 p.2.1 p.2.2.1 q su sv):=by
 have R1:=hdd hR;clear hR;go_enter Tryz.func84,Tryz.ntmps84
 go_upto_region 0 with fail
 refine Spec.go [.w (.c (.ptr 0 0)),.w (.c (.ptr 1 0)),.w (.c (.v (Value.slice none 0 0))),.w (.c (.v (Value.bool false))),.w (.c (.v Value.nilIface))] [0,1]
  [] [⟨0,29,curC 2 p.1 p.2.1 p.2.2.1,none⟩,⟨1,29,curC 2 p.2.2.2.1 p.2.2.2.2.1 p.2.2.2.2.2,none⟩]
  [0,0,0,0,0] [[],[],[],[],[]] [(1,.w (.agg ([.v (.int .i64 2),.v (.float .f64 p.1),.v (.float .f64 p.2.1),.v (.float .f64 p.2.2.1)]))),(2,.w (.agg ([.v (.int .i64 2),.v (.float .f64 p.2.2.2.1),.v (.float .f64 p.2.2.2.2.1),.v (.float .f64 p.2.2.2.2.2)])))]
  [5,6,7,8,9] [] 5 N [] [] R1.out
  (fun b hM=>aA (aA (aA (aA (aA aK
    (aT b m0))
    (aT b m1))
    (aB b))
    (aB b))
    (aB b)) ?_
 intro b1 b2 ν W2 hR;replace hR:Run ⟨w,B,ns⟩ g N [] [(b1,.cells #[(.int .i64 2),(.float .f64 p.1),(.float .f64 p.2.1),(.float .f64 p.2.2.1)] 29),(b2,.cells #[(.int .i64 2),(.float .f64 p.2.2.2.1),(.float .f64 p.2.2.2.2.1),(.float .f64 p.2.2.2.2.2)] 29)] W2:=hR;have R2:=hdd hR;clear hR R1;simp only[putL,bhD,bhG,fs0,fs1,fsn,dSw,dSt,dWc,dWa,dv,di,dp,ds',bhE,bhF,nuTn,nuT0,nuT1,nuU0,nuU1];obtain⟨c0,c1,c2,c3⟩:=aO (R2.out.at m0);obtain⟨d0,d1,d2,d3⟩:=aO (R2.out.at m1)
 go_upto_region 7 with fail
 clear c0 c1 c2 c3 d0 d1 d2 d3;refine Spec.go [.w (.c (.v (.pointer (some ⟨g,0,none⟩)))),.w (.agg ([.v (.int .i64 2),.v (.float .f64 p.1),.v (.float .f64 p.2.1),.v (.float .f64 p.2.2.1)])),.w (.agg ([.v (.int .i64 2),.v (.float .f64 p.2.2.2.1),.v (.float .f64 p.2.2.2.2.1),.v (.float .f64 p.2.2.2.2.2)])),.tup [.agg ([.v (.pointer (some ⟨g,0,none⟩)),.id 2,.v (.pointer (some ⟨g,0,none⟩)),.id 3,.v (.pointer (some ⟨g,0,none⟩)),.id 4]),.c (.v .nilIface)],.tup [.agg ([.v (.pointer (some ⟨g,0,none⟩)),.id 2,.v (.pointer (some ⟨g,0,none⟩)),.id 3,.v (.pointer (some ⟨g,0,none⟩)),.id 4]),.c (.v .nilIface)],.w (.agg ([.v (.pointer (some ⟨g,0,none⟩)),.id 2,.v (.pointer (some ⟨g,0,none⟩)),.id 3,.v (.pointer (some ⟨g,0,none⟩)),.id 4])),.w (.c (.v .nilIface)),.w (.c (.ptr 5 0)),noS,.w (.c (.v .nilIface))] [3,3,3,7]
  [(2,(ci0 p)),(3,(ci1 p)),(4,(ci2 p))] [⟨0,29,curC 2 p.1 p.2.1 p.2.2.1,none⟩,⟨1,29,curC 2 p.2.2.2.1 p.2.2.2.2.1 p.2.2.2.2.2,none⟩,⟨5,168,[.v (.pointer none),.v (.int .i64 0),.v (.pointer none),.v (.int .i64 0),.v (.pointer none),.v (.int .i64 0)],some (8,[.v (.pointer (some ⟨g,0,none⟩)),.id 2,.v (.pointer (some ⟨g,0,none⟩)),.id 3,.v (.pointer (some ⟨g,0,none⟩)),.id 4])⟩]
  [0,0,0,24,0,0,0,0,0,0] [[],[],[],[0,1,2],rgn 4,rgn 5,rgn 5,[],[0,1,2,3,4,5,7],[0,1,2,3,4,6]] [(0,.w (.c (.v (.pointer (some ⟨g,0,none⟩))))),(4,.w (.c (.ptr 0 0))),(5,.w (.c (.ptr 1 0)))]
  [41,42,43,44,40,45,46,10,0,11] [b1,b2] 10 (N+24) [] [] R2.out
  (fun b hM=>aA (aA (aA (aA (aA (aA (aA (aA (aA (aA aK
    (aB b))
    (aF b 4 m0))
    (aF b 4 m1))
    (aJ b (c_fn (ix:=[]) (ts:=[2,3,4]) hM (fun ν=>ahY h1 h2))))
    (aB b))
    (aB b))
    (aB b))
    (aT b m2))
    (bT b 6 m2))
    (aB b)) ?_
 intro n3 n4 n5 b6 ν W3 hR;have R3:=hdd hR;clear hR R2;simp only[putL,bhD,bhG,fs0,fs1,fsn,dSw,dSt,dWc,dWa,dv,di,dp,ds',bhE,bhF,nuTn,nuT0,nuT1,nuU0,nuU1]
 go_upto_region 10 with fail
 refine Spec.go [.w (.c (.ptr 5 0)),numS g 2,.w (.c (.ptr 5 2)),numS g 3,.w (.c (.ptr 5 4)),numS g 4,.w (.c (.ptr 1 1)),.w (.c (.v (.float .f64 p.2.2.2.1))),.w (.c (.ptr 0 1)),.w (.c (.v (.float .f64 p.1))),.w (.c (.v (.int .i64 su))),.w (.c (.ptr 1 2)),.w (.c (.v (.float .f64 p.2.2.2.2.1))),.w (.c (.ptr 0 2)),.w (.c (.v (.float .f64 p.2.1))),.w (.c (.v (.int .i64 sv))),.w (.agg ([.v (.pointer (some ⟨g,0,none⟩)),.id 2,.v (.pointer (some ⟨g,0,none⟩)),.id 3,.v (.pointer (some ⟨g,0,none⟩)),.id 4,.v (.int .i64 su),.v (.int .i64 sv)])),.w (.c (.ptr 6 0)),noS] [17]
  [(2,(ci0 p)),(3,(ci1 p)),(4,(ci2 p))] [⟨0,29,curC 2 p.1 p.2.1 p.2.2.1,none⟩,⟨1,29,curC 2 p.2.2.2.1 p.2.2.2.2.1 p.2.2.2.2.2,none⟩,⟨5,168,[.v (.pointer (some ⟨g,0,none⟩)),.id 2,.v (.pointer (some ⟨g,0,none⟩)),.id 3,.v (.pointer (some ⟨g,0,none⟩)),.id 4],none⟩,⟨6,129,[.v (.pointer none),.v (.int .i64 0),.v (.pointer none),.v (.int .i64 0),.v (.pointer none),.v (.int .i64 0),.v (.int .i64 0),.v (.int .i64 0)],some (18,[.v (.pointer (some ⟨g,0,none⟩)),.id 2,.v (.pointer (some ⟨g,0,none⟩)),.id 3,.v (.pointer (some ⟨g,0,none⟩)),.id 4,.v (.int .i64 su),.v (.int .i64 sv)])⟩]
  [0,0,0,0,0,0,0,0,0,0,0,0,0,0,0,0,0,0,0] [[],[0],[],[2],[],[4],[],[6],[],[8],[6,7,8,9],[],[11],[],[13],[11,12,13,14],rgn 16,[],rgn 18] [(9,.w (.c (.ptr 5 0))),(5,.w (.c (.ptr 1 0))),(4,.w (.c (.ptr 0 0)))]
  [50,51,52,53,54,55,56,57,58,59,60,61,62,63,64,65,66,12,0] [b1,b2,n3,n4,n5,b6] 19 (N+24) [] [] R3.out
  (fun b hM=>aA (aA (aA (aA (aA (aA (aA (aA (aA (aA (aA (aA (aA (aA (aA (aA (aA (aA (aA aK
    (aB b))
    (aF b 2 m2))
    (aB b))
    (aF b 2 m2))
    (aB b))
    (aF b 2 m2))
    (aB b))
    (gP b m1))
    (aB b))
    (gP b m0))
    (aJ b (oK hM rfl rfl rfl (fun w=>s1 w))))
    (aB b))
    (gP b m1))
    (aB b))
    (gP b m0))
    (aJ b (oK hM rfl rfl rfl (fun w=>s2 w))))
    (aB b))
    (aT b m3))
    (bT b 8 m3)) ?_
 intro b7 ν W4 hR;have R4:=hdd hR;clear hR R3;simp only[putL,bhD,bhG,fs0,fs1,fsn,dSw,dSt,dWc,dWa,dv,di,dp,ds',bhE,bhF,nuTn,nuT0,nuT1,nuU0,nuU1];rcases hq with rfl|rfl|⟨rfl,rfl⟩
 . go_upto_region 11 with fail
   refine Spec.go [.w (.c (.v (.pointer (some ⟨g,0,none⟩)))),.w (.agg ([.v (.int .i64 2),.v (.float .f64 p.1),.v (.float .f64 p.2.1),.v (.float .f64 p.2.2.1)])),.w (.agg ([.v (.pointer (some ⟨g,0,none⟩)),.id 1,.v (.pointer (some ⟨g,0,none⟩)),.id 2,.v (.pointer (some ⟨g,0,none⟩)),.id 3,.v (.int .i64 su),.v (.int .i64 sv)])),.tup [.c (.v (.slice none 0 0)),.c (.v .nilIface)],.tup [.c (.v (.slice none 0 0)),.c (.v .nilIface)],.w (.c (.v (.slice none 0 0))),.w (.c (.v .nilIface)),.w (.c (.v (.slice none 0 0))),.w (.c (.v .nilIface))] []
    [(1,(ci0 p)),(2,(ci1 p)),(3,(ci2 p))] [⟨0,29,curC 2 p.1 p.2.1 p.2.2.1,none⟩,⟨4,129,[.v (.pointer (some ⟨g,0,none⟩)),.id 1,.v (.pointer (some ⟨g,0,none⟩)),.id 2,.v (.pointer (some ⟨g,0,none⟩)),.id 3,.v (.int .i64 su),.v (.int .i64 sv)],none⟩]
    [0,0,0,30,0,0,0,0,0] [[],[],[],[0,1,2],rgn 4,rgn 5,rgn 5,rgn 6,[0,1,2,3,4,6]] [(0,.w (.c (.v (.pointer (some ⟨g,0,none⟩))))),(4,.w (.c (.ptr 0 0))),(11,.w (.c (.ptr 4 0)))]
    [68,69,70,71,67,72,73,13,11] [b1,n3,n4,n5,b7] 9 (N+54) [] [true,false,false] R4.out
    (fun b hM=>aA (aA (aA (aA (aA (aA (aA (aA (aA aK
      (aB b))
      (aF b 4 m0))
      (aF b 8 m1))
      (aJ b (c_fn (ix:=[0,1,2]) (ts:=[]) hM (fun ν=>alI (su:=su) (sv:=sv) (p:=((ci0 p),(ci1 p),(ci2 p),p.1,p.2.1,p.2.2.1)) (h1) hS))))
      (aB b))
      (aB b))
      (aB b))
      (aB b))
      (aB b)) ?_
   intro ν W5 hR;replace hR:Run ⟨w,B,ns⟩ g (N+54) [((ci0 p),n3),((ci1 p),n4),((ci2 p),n5)] [(b1,.cells #[(.int .i64 2),(.float .f64 p.1),(.float .f64 p.2.1),(.float .f64 p.2.2.1)] 29),(b7,.cells #[.pointer (some ⟨g,0,none⟩),.int .i64 ((n3:Nat):Int),.pointer (some ⟨g,0,none⟩),.int .i64 ((n4:Nat):Int),.pointer (some ⟨g,0,none⟩),.int .i64 ((n5:Nat):Int),(.int .i64 su),(.int .i64 sv)] 129)] W5:=hR;have R5:=hdd hR;clear hR R4;simp only[putL,bhD,bhG,fs0,fs1,fsn,dSw,dSt,dWc,dWa,dv,di,dp,ds',bhE,bhF,nuTn,nuT0,nuT1,nuU0,nuU1];have HF:Hid (PtsP w B ns g N 54 (axU p.1 p.2.2.2.1) (axU p.2.1 p.2.2.2.2.1) (axW p.1 p.2.1 p.2.2.1 p.2.2.2.1 p.2.2.2.2.1 p.2.2.2.2.2) p.1 p.2.1 p.2.2.1 (-1) su sv (.returned (.tuple #[.slice none 0 0,.bool false,.nilIface])) W5):=hdd ⟨fun _=>⟨[],rfl,rfl,_,R5.out.few (dH [])⟩,fun h=>by omega,fun h=>by omega,fun h=>absurd h.1 (by decide)⟩;clear R5;go_wp2;refine bodyPost_ret (v:=.tuple #[_,_,_]) (by simp[results,Tryz.results84,go_sem];exact⟨rfl,rfl,rfl⟩) rfl ?_
   exact HF.out
 . go_upto_region 11 with fail
   refine Spec.go [.w (.c (.v (.pointer (some ⟨g,0,none⟩)))),.w (.agg ([.v (.int .i64 2),.v (.float .f64 p.1),.v (.float .f64 p.2.1),.v (.float .f64 p.2.2.1)])),.w (.agg ([.v (.pointer (some ⟨g,0,none⟩)),.id 1,.v (.pointer (some ⟨g,0,none⟩)),.id 2,.v (.pointer (some ⟨g,0,none⟩)),.id 3,.v (.int .i64 su),.v (.int .i64 sv)])),.tup [.c (.sl 7 1),.c (.v .nilIface)],.tup [.c (.sl 7 1),.c (.v .nilIface)],.w (.c (.sl 7 1)),.w (.c (.v .nilIface)),.w (.c (.sl 7 1)),.w (.c (.v .nilIface))] [3,3,3]
    [(1,(ci0 p)),(2,(ci1 p)),(3,(ci2 p)),(5,(ci3 p)),(6,(ci4 p))] [⟨0,29,curC 2 p.1 p.2.1 p.2.2.1,none⟩,⟨4,129,[.v (.pointer (some ⟨g,0,none⟩)),.id 1,.v (.pointer (some ⟨g,0,none⟩)),.id 2,.v (.pointer (some ⟨g,0,none⟩)),.id 3,.v (.int .i64 su),.v (.int .i64 sv)],none⟩,⟨7,33,bY g 5 6,none⟩]
    [0,0,0,30,0,0,0,0,0] [[],[],[],[0,1,2],rgn 4,rgn 5,rgn 5,rgn 6,[0,1,2,3,4,6]] [(0,.w (.c (.v (.pointer (some ⟨g,0,none⟩))))),(4,.w (.c (.ptr 0 0))),(11,.w (.c (.ptr 4 0)))]
    [68,69,70,71,67,72,73,13,11] [b1,n3,n4,n5,b7] 9 (N+54) [] [true,false,false] R4.out
    (fun b hM=>aA (aA (aA (aA (aA (aA (aA (aA (aA aK
      (aB b))
      (aF b 4 m0))
      (aF b 8 m1))
      (iY b m2 (c_fb (ix:=[0,1,2]) (ts:=[5,6]) hM (fun ν=>afU (su:=su) (sv:=sv) (p:=((ci0 p),(ci1 p),(ci2 p),p.1,p.2.1,p.2.2.1)) (h1) hS))))
      (aB b))
      (aB b))
      (aB b))
      (aB b))
      (aB b)) ?_
   intro n8 n9 b10 ν W5 hR;replace hR:Run ⟨w,B,ns⟩ g (N+54) [((ci0 p),n3),((ci1 p),n4),((ci2 p),n5),((ci3 p),n8),((ci4 p),n9)] [(b1,.cells #[(.int .i64 2),(.float .f64 p.1),(.float .f64 p.2.1),(.float .f64 p.2.2.1)] 29),(b7,.cells #[.pointer (some ⟨g,0,none⟩),.int .i64 ((n3:Nat):Int),.pointer (some ⟨g,0,none⟩),.int .i64 ((n4:Nat):Int),.pointer (some ⟨g,0,none⟩),.int .i64 ((n5:Nat):Int),(.int .i64 su),(.int .i64 sv)] 129),(b10,kD g n8 n9)] W5:=hR;have R5:=hdd hR;clear hR R4;simp only[putL,bhD,bhG,fs0,fs1,fsn,dSw,dSt,dWc,dWa,dv,di,dp,ds',bhE,bhF,nuTn,nuT0,nuT1,nuU0,nuU1];have HF:Hid (PtsP w B ns g N 54 (axU p.1 p.2.2.2.1) (axU p.2.1 p.2.2.2.2.1) (axW p.1 p.2.1 p.2.2.1 p.2.2.2.1 p.2.2.2.2.1 p.2.2.2.2.2) p.1 p.2.1 p.2.2.1 (0) su sv (.returned (.tuple #[.slice (some ⟨b10,0,none⟩) 1 1,.bool false,.nilIface])) W5):=hdd ⟨fun h=>by omega,fun _=>⟨[n8,n9],b10,rfl,rfl,_,(R5.out.sub (dH [2]) (by simp)).few (dH [3,4])⟩,fun h=>by omega,fun h=>absurd h.1 (by decide)⟩
   clear R5;go_wp2;refine bodyPost_ret (v:=.tuple #[_,_,_]) (by simp[results,Tryz.results84,go_sem];exact⟨rfl,rfl,rfl⟩) rfl ?_;exact HF.out
 . go_upto_region 11 with fail
   refine Spec.go [.w (.c (.v (.pointer (some ⟨g,0,none⟩)))),.w (.agg ([.v (.int .i64 2),.v (.float .f64 p.1),.v (.float .f64 p.2.1),.v (.float .f64 p.2.2.1)])),.w (.agg ([.v (.pointer (some ⟨g,0,none⟩)),.id 1,.v (.pointer (some ⟨g,0,none⟩)),.id 2,.v (.pointer (some ⟨g,0,none⟩)),.id 3,.v (.int .i64 su),.v (.int .i64 1)])),.tup [.c (.sl 9 2),.c (.v .nilIface)],.tup [.c (.sl 9 2),.c (.v .nilIface)],.w (.c (.sl 9 2)),.w (.c (.v .nilIface)),.w (.c (.sl 9 2)),.w (.c (.v .nilIface))] [3,3,3,3,3]
    [(1,(ci0 p)),(2,(ci1 p)),(3,(ci2 p)),(5,(ci5 p)),(6,(ci6 p)),(7,(ci7 p)),(8,(ci8 p))] [⟨0,29,curC 2 p.1 p.2.1 p.2.2.1,none⟩,⟨4,129,[.v (.pointer (some ⟨g,0,none⟩)),.id 1,.v (.pointer (some ⟨g,0,none⟩)),.id 2,.v (.pointer (some ⟨g,0,none⟩)),.id 3,.v (.int .i64 su),.v (.int .i64 1)],none⟩,⟨9,33,[.v (.pointer (some ⟨g,0,none⟩)),.id 5,.v (.pointer (some ⟨g,0,none⟩)),.id 6,.v (.pointer (some ⟨g,0,none⟩)),.id 7,.v (.pointer (some ⟨g,0,none⟩)),.id 8],none⟩]
    [0,0,0,30,0,0,0,0,0] [[],[],[],[0,1,2],rgn 4,rgn 5,rgn 5,rgn 6,[0,1,2,3,4,6]] [(0,.w (.c (.v (.pointer (some ⟨g,0,none⟩))))),(4,.w (.c (.ptr 0 0))),(11,.w (.c (.ptr 4 0)))]
    [68,69,70,71,67,72,73,13,11] [b1,n3,n4,n5,b7] 9 (N+54) [] [true,false,false] R4.out
    (fun b hM=>aA (aA (aA (aA (aA (aA (aA (aA (aA aK
      (aB b))
      (aF b 4 m0))
      (aF b 8 m1))
      (iY b m2 (c_fb (ix:=[0,1,2]) (ts:=[5,6,7,8]) hM (fun ν=>afV (su:=su) (p:=((ci0 p),(ci1 p),(ci2 p),p.1,p.2.1,p.2.2.1)) (h1) hS))))
      (aB b))
      (aB b))
      (aB b))
      (aB b))
      (aB b)) ?_
   intro n8 n9 n10 n11 b12 ν W5 hR;replace hR:Run ⟨w,B,ns⟩ g (N+54) [((ci0 p),n3),((ci1 p),n4),((ci2 p),n5),((ci5 p),n8),((ci6 p),n9),((ci7 p),n10),((ci8 p),n11)] [(b1,.cells #[(.int .i64 2),(.float .f64 p.1),(.float .f64 p.2.1),(.float .f64 p.2.2.1)] 29),(b7,.cells #[.pointer (some ⟨g,0,none⟩),.int .i64 ((n3:Nat):Int),.pointer (some ⟨g,0,none⟩),.int .i64 ((n4:Nat):Int),.pointer (some ⟨g,0,none⟩),.int .i64 ((n5:Nat):Int),(.int .i64 su),(.int .i64 1)] 129),(b12,.cells #[.pointer (some ⟨g,0,none⟩),.int .i64 ((n8:Nat):Int),.pointer (some ⟨g,0,none⟩),.int .i64 ((n9:Nat):Int),.pointer (some ⟨g,0,none⟩),.int .i64 ((n10:Nat):Int),.pointer (some ⟨g,0,none⟩),.int .i64 ((n11:Nat):Int)] 33)] W5:=hR;have R5:=hdd hR;clear hR R4;simp only[putL,bhD,bhG,fs0,fs1,fsn,dSw,dSt,dWc,dWa,dv,di,dp,ds',bhE,bhF,nuTn,nuT0,nuT1,nuU0,nuU1];have HF:Hid (PtsP w B ns g N 54 (axU p.1 p.2.2.2.1) (axU p.2.1 p.2.2.2.2.1) (axW p.1 p.2.1 p.2.2.1 p.2.2.2.1 p.2.2.2.2.1 p.2.2.2.2.2) p.1 p.2.1 p.2.2.1 (1) su 1 (.returned (.tuple #[.slice (some ⟨b12,0,none⟩) 2 2,.bool false,.nilIface])) W5):=hdd ⟨fun h=>by omega,fun h=>by omega,fun _=>⟨[n8,n9,n10,n11],b12,rfl,rfl,_,(R5.out.sub (dH [2]) (by simp)).few (dH [3,4,5,6])⟩,fun h=>absurd h.2.1 (by decide)⟩
   clear R5;go_wp2;refine bodyPost_ret (v:=.tuple #[_,_,_]) (by simp[results,Tryz.results84,go_sem];exact⟨rfl,rfl,rfl⟩) rfl ?_;exact HF.out
theorem aeJ(h1:dI p.1 p.2.1 p.2.2.1)(h2:dI p.2.2.2.1 p.2.2.2.2.1 p.2.2.2.2.2)(ho:(FloatKind.f64.format.order p.1 p.2.2.2.1==some Ordering.eq)=false)(s1:∀w,Calls Tryz.prog 108 #[.float .f64 p.2.2.2.1,.float .f64 p.1] w (RetV w (.int .i64 su)))(s2:∀w,Calls Tryz.prog 108 #[.float .f64 p.2.2.2.2.1,.float .f64 p.2.1] w (RetV w (.int .i64 sv)))(hS:dY PT (cutF (axU p.1 p.2.2.2.1) (axU p.2.1 p.2.2.2.2.1) (axW p.1 p.2.1 p.2.2.1 p.2.2.2.1 p.2.2.2.2.1 p.2.2.2.2.2) p.1 p.2.1 p.2.2.1) (-1)):FnOk 84 g 54 #[.pointer (some ⟨g,0,none⟩),curV 2 p.1 p.2.1 p.2.2.1,curV 2 p.2.2.2.1 p.2.2.2.2.1 p.2.2.2.2.2] [] (fun ks=>.tuple #[.slice none 0 0,.bool false,.nilIface]) []:=FnOk.of fun w B ns N hR hN=>(oQ h1 h2 ho s1 s2 hS (Or.inl rfl) hR hN).mono fun _ _ h=>h.1 rfl
theorem ac8(h1:dI p.1 p.2.1 p.2.2.1)(h2:dI p.2.2.2.1 p.2.2.2.2.1 p.2.2.2.2.2)(ho:(FloatKind.f64.format.order p.1 p.2.2.2.1==some Ordering.eq)=false)(s1:∀w,Calls Tryz.prog 108 #[.float .f64 p.2.2.2.1,.float .f64 p.1] w (RetV w (.int .i64 su)))(s2:∀w,Calls Tryz.prog 108 #[.float .f64 p.2.2.2.2.1,.float .f64 p.2.1] w (RetV w (.int .i64 sv)))(hS:dY PT (cutF (axU p.1 p.2.2.2.1) (axU p.2.1 p.2.2.2.2.1) (axW p.1 p.2.1 p.2.2.1 p.2.2.2.1 p.2.2.2.2.1 p.2.2.2.2.2) p.1 p.2.1 p.2.2.1) (0)):FnBk 84 g 54 #[.pointer (some ⟨g,0,none⟩),curV 2 p.1 p.2.1 p.2.2.1,curV 2 p.2.2.2.1 p.2.2.2.2.1 p.2.2.2.2.2] [] (fun ks b=>.tuple #[.slice (some ⟨b,0,none⟩) 1 1,.bool false,.nilIface]) [cutX (axU p.1 p.2.2.2.1) (axU p.2.1 p.2.2.2.2.1) (axW p.1 p.2.1 p.2.2.1 p.2.2.2.1 p.2.2.2.2.1 p.2.2.2.2.2) p.1 p.2.1,cutY (axU p.1 p.2.2.2.1) (axU p.2.1 p.2.2.2.2.1) (axW p.1 p.2.1 p.2.2.1 p.2.2.2.1 p.2.2.2.2.1 p.2.2.2.2.2) p.1 p.2.1] (fun ks=>.cells #[.pointer (some ⟨g,0,none⟩),.int .i64 ((ks.getD 0 0:Nat):Int),.pointer (some ⟨g,0,none⟩),.int .i64 ((ks.getD 1 0:Nat):Int)] 33):=FnBk.of fun w B ns N hR hN=>(oQ h1 h2 ho s1 s2 hS (Or.inr (Or.inl rfl)) hR hN).mono fun _ _ h=>h.2.1 rfl
theorem ac9(h1:dI p.1 p.2.1 p.2.2.1)(h2:dI p.2.2.2.1 p.2.2.2.2.1 p.2.2.2.2.2)(ho:(FloatKind.f64.format.order p.1 p.2.2.2.1==some Ordering.eq)=false)(s1:∀w,Calls Tryz.prog 108 #[.float .f64 p.2.2.2.1,.float .f64 p.1] w (RetV w (.int .i64 su)))(s2:∀w,Calls Tryz.prog 108 #[.float .f64 p.2.2.2.2.1,.float .f64 p.2.1] w (RetV w (.int .i64 1)))(hS:dY PT (cutF (axU p.1 p.2.2.2.1) (axU p.2.1 p.2.2.2.2.1) (axW p.1 p.2.1 p.2.2.1 p.2.2.2.1 p.2.2.2.2.1 p.2.2.2.2.2) p.1 p.2.1 p.2.2.1) (1)):FnBk 84 g 54 #[.pointer (some ⟨g,0,none⟩),curV 2 p.1 p.2.1 p.2.2.1,curV 2 p.2.2.2.1 p.2.2.2.2.1 p.2.2.2.2.2] [] (fun ks b=>.tuple #[.slice (some ⟨b,0,none⟩) 2 2,.bool false,.nilIface]) [kF (axU p.1 p.2.2.2.1) (axU p.2.1 p.2.2.2.2.1) (axW p.1 p.2.1 p.2.2.1 p.2.2.2.1 p.2.2.2.2.1 p.2.2.2.2.2) p.1 p.2.1 p.2.2.1,kG (axU p.1 p.2.2.2.1) (axU p.2.1 p.2.2.2.2.1) (axW p.1 p.2.1 p.2.2.1 p.2.2.2.1 p.2.2.2.2.1 p.2.2.2.2.2) p.1 p.2.1 p.2.2.1,kH (axU p.1 p.2.2.2.1) (axU p.2.1 p.2.2.2.2.1) (axW p.1 p.2.1 p.2.2.1 p.2.2.2.1 p.2.2.2.2.1 p.2.2.2.2.2) p.1 p.2.1 p.2.2.1,kI (axU p.1 p.2.2.2.1) (axU p.2.1 p.2.2.2.2.1) (axW p.1 p.2.1 p.2.2.1 p.2.2.2.1 p.2.2.2.2.1 p.2.2.2.2.2) p.1 p.2.1 p.2.2.1] (fun ks=>.cells #[.pointer (some ⟨g,0,none⟩),.int .i64 ((ks.getD 0 0:Nat):Int),.pointer (some ⟨g,0,none⟩),.int .i64 ((ks.getD 1 0:Nat):Int),.pointer (some ⟨g,0,none⟩),.int .i64 ((ks.getD 2 0:Nat):Int),.pointer (some ⟨g,0,none⟩),.int .i64 ((ks.getD 3 0:Nat):Int)] 33):=FnBk.of fun w B ns N hR hN=>(oQ h1 h2 ho s1 s2 hS (Or.inr (Or.inr ⟨rfl,rfl⟩)) hR hN).mono fun _ _ h=>h.2.2.1 ⟨rfl,rfl⟩
abbrev pl0(p:Nat×Nat×Nat×Nat×Nat×Nat):Ex:=.leaf p.2.2.2.1
abbrev pl1(p:Nat×Nat×Nat×Nat×Nat×Nat):Ex:=.leaf p.2.2.2.2.1
abbrev pl2(p:Nat×Nat×Nat×Nat×Nat×Nat):Ex:=.leaf p.2.2.2.2.2
abbrev pl3(p:Nat×Nat×Nat×Nat×Nat×Nat):Ex:=cutX (pl0 p) (pl1 p) (pl2 p) p.1 p.2.1
abbrev pl4(p:Nat×Nat×Nat×Nat×Nat×Nat):Ex:=cutY (pl0 p) (pl1 p) (pl2 p) p.1 p.2.1
abbrev pl5(p:Nat×Nat×Nat×Nat×Nat×Nat):Ex:=kF (pl0 p) (pl1 p) (pl2 p) p.1 p.2.1 p.2.2.1
abbrev pl6(p:Nat×Nat×Nat×Nat×Nat×Nat):Ex:=kG (pl0 p) (pl1 p) (pl2 p) p.1 p.2.1 p.2.2.1
abbrev pl7(p:Nat×Nat×Nat×Nat×Nat×Nat):Ex:=kH (pl0 p) (pl1 p) (pl2 p) p.1 p.2.1 p.2.2.1
abbrev pl8(p:Nat×Nat×Nat×Nat×Nat×Nat):Ex:=kI (pl0 p) (pl1 p) (pl2 p) p.1 p.2.1 p.2.2.1
theorem adA(h1:dI p.1 p.2.1 p.2.2.1)(h2:nI p.2.2.2.1 p.2.2.2.2.1 p.2.2.2.2.2)(s1:∀w,Calls Tryz.prog 108 #[.float .f64 p.2.2.2.1,.float .f64 0] w (RetV w (.int .i64 su)))(s2:∀w,Calls Tryz.prog 108 #[.float .f64 p.2.2.2.2.1,.float .f64 0] w (RetV w (.int .i64 sv)))(hS:dY PT (cutF (.leaf p.2.2.2.1) (.leaf p.2.2.2.2.1) (.leaf p.2.2.2.2.2) p.1 p.2.1 p.2.2.1) q)(hq:q=-1\/q=0\/q=1/\(sv=1\/SwOk su sv))(hR:Run ⟨w,B,ns⟩ g N [] [] w)(hN:N+33<=20000):Calls Tryz.prog 45 #[.pointer (some ⟨g,0,none⟩),curV 2 p.1 p.2.1 p.2.2.1,curV 1 p.2.2.2.1 p.2.2.2.2.1 p.2.2.2.2.2] w (PtsP w B ns g N 33 (.leaf p.2.2.2.1) (.leaf p.2.2.2.2.1) (.leaf p.2.2.2.2.2) p.1 p.2.1 p.2.2.1 q su sv):=by
 have R1:=hdd hR;clear hR;go_enter Tryz.func45,Tryz.ntmps45
 go_upto_region 0 with fail
 refine Spec.go [.w (.c (.ptr 0 0)),.w (.c (.ptr 1 0)),.w (.c (.v (Value.slice none 0 0))),.w (.c (.v (Value.bool false))),.w (.c (.v Value.nilIface))] [0,1]
  [] [⟨0,29,curC 2 p.1 p.2.1 p.2.2.1,none⟩,⟨1,29,curC 1 p.2.2.2.1 p.2.2.2.2.1 p.2.2.2.2.2,none⟩]
  [0,0,0,0,0] [[],[],[],[],[]] [(1,.w (.agg ([.v (.int .i64 2),.v (.float .f64 p.1),.v (.float .f64 p.2.1),.v (.float .f64 p.2.2.1)]))),(2,.w (.agg ([.v (.int .i64 1),.v (.float .f64 p.2.2.2.1),.v (.float .f64 p.2.2.2.2.1),.v (.float .f64 p.2.2.2.2.2)])))]
  [5,6,7,8,9] [] 5 N [] [] R1.out
  (fun b hM=>aA (aA (aA (aA (aA aK
    (aT b m0))
    (aT b m1))
    (aB b))
    (aB b))
    (aB b)) ?_
 intro b1 b2 ν W2 hR;have R2:=hdd hR;clear hR R1;simp only[putL,bhD,bhG,fs0,fs1,fsn,dSw,dSt,dWc,dWa,dv,di,dp,ds',bhE,bhF,nuTn,nuT0,nuT1,nuU0,nuU1]
 go_upto_region 1 with fail
 refine Spec.go [.w (.agg ([.v (.int .i64 2),.v (.float .f64 p.1),.v (.float .f64 p.2.1),.v (.float .f64 p.2.2.1)])),.w (.agg ([.v (.int .i64 1),.v (.float .f64 p.2.2.2.1),.v (.float .f64 p.2.2.2.2.1),.v (.float .f64 p.2.2.2.2.2)])),.w (.c (.v .nilIface)),.w (.c (.v .nilIface))] []
  [] [⟨0,29,curC 2 p.1 p.2.1 p.2.2.1,none⟩,⟨1,29,curC 1 p.2.2.2.1 p.2.2.2.2.1 p.2.2.2.2.2,none⟩]
  [0,0,0,0] [[],[],[0,1],[0,1,2]] [(4,.w (.c (.ptr 0 0))),(5,.w (.c (.ptr 1 0)))]
  [14,15,16,10] [b1,b2] 4 N [] [] R2.out
  (fun b hM=>aA (aA (aA (aA aK
    (aF b 4 m0))
    (aF b 4 m1))
    (aJ b (oK hM rfl rfl rfl (fun w=>ac7 (fun _=>tX h1) (fun _=>ahX h2)))))
    (aB b)) ?_
 intro ν W3 hR;replace hR:Run ⟨w,B,ns⟩ g N [] [(b1,.cells #[(.int .i64 2),(.float .f64 p.1),(.float .f64 p.2.1),(.float .f64 p.2.2.1)] 29),(b2,.cells #[(.int .i64 1),(.float .f64 p.2.2.2.1),(.float .f64 p.2.2.2.2.1),(.float .f64 p.2.2.2.2.2)] 29)] W3:=hR;have R3:=hdd hR;clear hR R2;simp only[putL,bhD,bhG,fs0,fs1,fsn,dSw,dSt,dWc,dWa,dv,di,dp,ds',bhE,bhF,nuTn,nuT0,nuT1,nuU0,nuU1];rcases hq with rfl|rfl|⟨rfl,rfl|hw⟩
 . obtain⟨c0,c1,c2,c3⟩:=aO (R3.out.at m0);obtain⟨d0,d1,d2,d3⟩:=aO (R3.out.at m1)
   go_upto_region 12 with fail
   clear c0 c1 c2 c3 d0 d1 d2 d3;refine Spec.go [.w (.c (.v (.pointer (some ⟨g,0,none⟩)))),.w (.agg ([.v (.int .i64 2),.v (.float .f64 p.1),.v (.float .f64 p.2.1),.v (.float .f64 p.2.2.1)])),.w (.c (.v (.pointer (some ⟨g,0,none⟩)))),.w (.agg ([.v (.int .i64 1),.v (.float .f64 p.2.2.2.1),.v (.float .f64 p.2.2.2.2.1),.v (.float .f64 p.2.2.2.2.2)])),.w (.agg ([.v (.pointer (some ⟨g,0,none⟩)),.id 2,.v (.pointer (some ⟨g,0,none⟩)),.id 3,.v (.pointer (some ⟨g,0,none⟩)),.id 4,.v (.int .i64 su),.v (.int .i64 sv)])),.tup [.c (.v (.slice none 0 0)),.c (.v .nilIface)],.tup [.c (.v (.slice none 0 0)),.c (.v .nilIface)],.w (.c (.v (.slice none 0 0))),.w (.c (.v .nilIface)),.w (.c (.v (.slice none 0 0))),.w (.c (.v .nilIface))] [4,4,4]
    [(2,(pl0 p)),(3,(pl1 p)),(4,(pl2 p))] [⟨0,29,curC 2 p.1 p.2.1 p.2.2.1,none⟩,⟨1,29,curC 1 p.2.2.2.1 p.2.2.2.2.1 p.2.2.2.2.2,none⟩]
    [0,0,0,0,3,30,0,0,0,0,0] [[],[],[],[],[2,3],rgn 5,rgn 6,rgn 7,rgn 7,rgn 8,[0,1,2,3,4,5,6,8]] [(0,.w (.c (.v (.pointer (some ⟨g,0,none⟩))))),(4,.w (.c (.ptr 0 0))),(5,.w (.c (.ptr 1 0)))]
    [48,49,50,51,52,53,47,54,55,11,13] [b1,b2] 11 (N+33) [] [] R3.out
    (fun b hM=>aA (aA (aA (aA (aA (aA (aA (aA (aA (aA (aA aK
      (aB b))
      (aF b 4 m0))
      (aB b))
      (aF b 4 m1))
      (aJ b (c_fn (ix:=[]) (ts:=[2,3,4]) hM (fun ν=>jP (h2) (fun _=>s1 _) (fun _=>s2 _)))))
      (aJ b (c_fn (ix:=[0,1,2]) (ts:=[]) hM (fun ν=>alI (su:=su) (sv:=sv) (p:=((pl0 p),(pl1 p),(pl2 p),p.1,p.2.1,p.2.2.1)) (h1) hS))))
      (aB b))
      (aB b))
      (aB b))
      (aB b))
      (aB b)) ?_
   intro n3 n4 n5 ν W4 hR;replace hR:Run ⟨w,B,ns⟩ g (N+33) [((pl0 p),n3),((pl1 p),n4),((pl2 p),n5)] [(b1,.cells #[(.int .i64 2),(.float .f64 p.1),(.float .f64 p.2.1),(.float .f64 p.2.2.1)] 29),(b2,.cells #[(.int .i64 1),(.float .f64 p.2.2.2.1),(.float .f64 p.2.2.2.2.1),(.float .f64 p.2.2.2.2.2)] 29)] W4:=hR;have R4:=hdd hR;clear hR R3;simp only[putL,bhD,bhG,fs0,fs1,fsn,dSw,dSt,dWc,dWa,dv,di,dp,ds',bhE,bhF,nuTn,nuT0,nuT1,nuU0,nuU1];have HF:Hid (PtsP w B ns g N 33 (.leaf p.2.2.2.1) (.leaf p.2.2.2.2.1) (.leaf p.2.2.2.2.2) p.1 p.2.1 p.2.2.1 (-1) su sv (.returned (.tuple #[.slice none 0 0,.bool false,.nilIface])) W4):=hdd ⟨fun _=>⟨[],rfl,rfl,_,R4.out.few (dH [])⟩,fun h=>by omega,fun h=>by omega,fun h=>absurd h.1 (by decide)⟩;clear R4;go_wp2;refine bodyPost_ret (v:=.tuple #[_,_,_]) (by simp[results,Tryz.results45,go_sem];exact⟨rfl,rfl,rfl⟩) rfl ?_;exact HF.out
 . obtain⟨c0,c1,c2,c3⟩:=aO (R3.out.at m0);obtain⟨d0,d1,d2,d3⟩:=aO (R3.out.at m1)
   go_upto_region 12 with fail
   clear c0 c1 c2 c3 d0 d1 d2 d3;refine Spec.go [.w (.c (.v (.pointer (some ⟨g,0,none⟩)))),.w (.agg ([.v (.int .i64 2),.v (.float .f64 p.1),.v (.float .f64 p.2.1),.v (.float .f64 p.2.2.1)])),.w (.c (.v (.pointer (some ⟨g,0,none⟩)))),.w (.agg ([.v (.int .i64 1),.v (.float .f64 p.2.2.2.1),.v (.float .f64 p.2.2.2.2.1),.v (.float .f64 p.2.2.2.2.2)])),.w (.agg ([.v (.pointer (some ⟨g,0,none⟩)),.id 2,.v (.pointer (some ⟨g,0,none⟩)),.id 3,.v (.pointer (some ⟨g,0,none⟩)),.id 4,.v (.int .i64 su),.v (.int .i64 sv)])),.tup [.c (.sl 7 1),.c (.v .nilIface)],.tup [.c (.sl 7 1),.c (.v .nilIface)],.w (.c (.sl 7 1)),.w (.c (.v .nilIface)),.w (.c (.sl 7 1)),.w (.c (.v .nilIface))] [4,4,4,5,5,5]
    [(2,(pl0 p)),(3,(pl1 p)),(4,(pl2 p)),(5,(pl3 p)),(6,(pl4 p))] [⟨0,29,curC 2 p.1 p.2.1 p.2.2.1,none⟩,⟨1,29,curC 1 p.2.2.2.1 p.2.2.2.2.1 p.2.2.2.2.2,none⟩,⟨7,33,bY g 5 6,none⟩]
    [0,0,0,0,3,30,0,0,0,0,0] [[],[],[],[],[2,3],rgn 5,rgn 6,rgn 7,rgn 7,rgn 8,[0,1,2,3,4,5,6,8]] [(0,.w (.c (.v (.pointer (some ⟨g,0,none⟩))))),(4,.w (.c (.ptr 0 0))),(5,.w (.c (.ptr 1 0)))]
    [48,49,50,51,52,53,47,54,55,11,13] [b1,b2] 11 (N+33) [] [] R3.out
    (fun b hM=>aA (aA (aA (aA (aA (aA (aA (aA (aA (aA (aA aK
      (aB b))
      (aF b 4 m0))
      (aB b))
      (aF b 4 m1))
      (aJ b (c_fn (ix:=[]) (ts:=[2,3,4]) hM (fun ν=>jP (h2) (fun _=>s1 _) (fun _=>s2 _)))))
      (iY b m2 (c_fb (ix:=[0,1,2]) (ts:=[5,6]) hM (fun ν=>afU (su:=su) (sv:=sv) (p:=((pl0 p),(pl1 p),(pl2 p),p.1,p.2.1,p.2.2.1)) (h1) hS))))
      (aB b))
      (aB b))
      (aB b))
      (aB b))
      (aB b)) ?_
   intro n3 n4 n5 n6 n7 b8 ν W4 hR;replace hR:Run ⟨w,B,ns⟩ g (N+33) [((pl0 p),n3),((pl1 p),n4),((pl2 p),n5),((pl3 p),n6),((pl4 p),n7)] [(b1,.cells #[(.int .i64 2),(.float .f64 p.1),(.float .f64 p.2.1),(.float .f64 p.2.2.1)] 29),(b2,.cells #[(.int .i64 1),(.float .f64 p.2.2.2.1),(.float .f64 p.2.2.2.2.1),(.float .f64 p.2.2.2.2.2)] 29),(b8,kD g n6 n7)] W4:=hR;have R4:=hdd hR;clear hR R3;simp only[putL,bhD,bhG,fs0,fs1,fsn,dSw,dSt,dWc,dWa,dv,di,dp,ds',bhE,bhF,nuTn,nuT0,nuT1,nuU0,nuU1];have HF:Hid (PtsP w B ns g N 33 (.leaf p.2.2.2.1) (.leaf p.2.2.2.2.1) (.leaf p.2.2.2.2.2) p.1 p.2.1 p.2.2.1 (0) su sv (.returned (.tuple #[.slice (some ⟨b8,0,none⟩) 1 1,.bool false,.nilIface])) W4):=hdd ⟨fun h=>by omega,fun _=>⟨[n6,n7],b8,rfl,rfl,_,(R4.out.sub (dH [2]) (by simp)).few (dH [3,4])⟩,fun h=>by omega,fun h=>absurd h.1 (by decide)⟩;clear R4;go_wp2;refine bodyPost_ret (v:=.tuple #[_,_,_]) (by simp[results,Tryz.results45,go_sem];exact⟨rfl,rfl,rfl⟩) rfl ?_
   exact HF.out
 . obtain⟨c0,c1,c2,c3⟩:=aO (R3.out.at m0);obtain⟨d0,d1,d2,d3⟩:=aO (R3.out.at m1)
   go_upto_region 12 with fail
   clear c0 c1 c2 c3 d0 d1 d2 d3;refine Spec.go [.w (.c (.v (.pointer (some ⟨g,0,none⟩)))),.w (.agg ([.v (.int .i64 2),.v (.float .f64 p.1),.v (.float .f64 p.2.1),.v (.float .f64 p.2.2.1)])),.w (.c (.v (.pointer (some ⟨g,0,none⟩)))),.w (.agg ([.v (.int .i64 1),.v (.float .f64 p.2.2.2.1),.v (.float .f64 p.2.2.2.2.1),.v (.float .f64 p.2.2.2.2.2)])),.w (.agg ([.v (.pointer (some ⟨g,0,none⟩)),.id 2,.v (.pointer (some ⟨g,0,none⟩)),.id 3,.v (.pointer (some ⟨g,0,none⟩)),.id 4,.v (.int .i64 su),.v (.int .i64 1)])),.tup [.c (.sl 9 2),.c (.v .nilIface)],.tup [.c (.sl 9 2),.c (.v .nilIface)],.w (.c (.sl 9 2)),.w (.c (.v .nilIface)),.w (.c (.sl 9 2)),.w (.c (.v .nilIface))] [4,4,4,5,5,5,5,5]
    [(2,(pl0 p)),(3,(pl1 p)),(4,(pl2 p)),(5,(pl5 p)),(6,(pl6 p)),(7,(pl7 p)),(8,(pl8 p))] [⟨0,29,curC 2 p.1 p.2.1 p.2.2.1,none⟩,⟨1,29,curC 1 p.2.2.2.1 p.2.2.2.2.1 p.2.2.2.2.2,none⟩,⟨9,33,[.v (.pointer (some ⟨g,0,none⟩)),.id 5,.v (.pointer (some ⟨g,0,none⟩)),.id 6,.v (.pointer (some ⟨g,0,none⟩)),.id 7,.v (.pointer (some ⟨g,0,none⟩)),.id 8],none⟩]
    [0,0,0,0,3,30,0,0,0,0,0] [[],[],[],[],[2,3],rgn 5,rgn 6,rgn 7,rgn 7,rgn 8,[0,1,2,3,4,5,6,8]] [(0,.w (.c (.v (.pointer (some ⟨g,0,none⟩))))),(4,.w (.c (.ptr 0 0))),(5,.w (.c (.ptr 1 0)))]
    [48,49,50,51,52,53,47,54,55,11,13] [b1,b2] 11 (N+33) [] [] R3.out
    (fun b hM=>aA (aA (aA (aA (aA (aA (aA (aA (aA (aA (aA aK
      (aB b))
      (aF b 4 m0))
      (aB b))
      (aF b 4 m1))
      (aJ b (c_fn (ix:=[]) (ts:=[2,3,4]) hM (fun ν=>jP (h2) (fun _=>s1 _) (fun _=>s2 _)))))
      (iY b m2 (c_fb (ix:=[0,1,2]) (ts:=[5,6,7,8]) hM (fun ν=>afV (su:=su) (p:=((pl0 p),(pl1 p),(pl2 p),p.1,p.2.1,p.2.2.1)) (h1) hS))))
      (aB b))
      (aB b))
      (aB b))
      (aB b))
      (aB b)) ?_
   intro n3 n4 n5 n6 n7 n8 n9 b10 ν W4 hR;replace hR:Run ⟨w,B,ns⟩ g (N+33) [((pl0 p),n3),((pl1 p),n4),((pl2 p),n5),((pl5 p),n6),((pl6 p),n7),((pl7 p),n8),((pl8 p),n9)] [(b1,.cells #[(.int .i64 2),(.float .f64 p.1),(.float .f64 p.2.1),(.float .f64 p.2.2.1)] 29),(b2,.cells #[(.int .i64 1),(.float .f64 p.2.2.2.1),(.float .f64 p.2.2.2.2.1),(.float .f64 p.2.2.2.2.2)] 29),(b10,.cells #[.pointer (some ⟨g,0,none⟩),.int .i64 ((n6:Nat):Int),.pointer (some ⟨g,0,none⟩),.int .i64 ((n7:Nat):Int),.pointer (some ⟨g,0,none⟩),.int .i64 ((n8:Nat):Int),.pointer (some ⟨g,0,none⟩),.int .i64 ((n9:Nat):Int)] 33)] W4:=hR;have R4:=hdd hR;clear hR R3;simp only[putL,bhD,bhG,fs0,fs1,fsn,dSw,dSt,dWc,dWa,dv,di,dp,ds',bhE,bhF,nuTn,nuT0,nuT1,nuU0,nuU1];have HF:Hid (PtsP w B ns g N 33 (.leaf p.2.2.2.1) (.leaf p.2.2.2.2.1) (.leaf p.2.2.2.2.2) p.1 p.2.1 p.2.2.1 (1) su 1 (.returned (.tuple #[.slice (some ⟨b10,0,none⟩) 2 2,.bool false,.nilIface])) W4):=hdd ⟨fun h=>by omega,fun h=>by omega,fun _=>⟨[n6,n7,n8,n9],b10,rfl,rfl,_,(R4.out.sub (dH [2]) (by simp)).few (dH [3,4,5,6])⟩,fun h=>absurd h.2.1 (by decide)⟩
   clear R4;go_wp2;refine bodyPost_ret (v:=.tuple #[_,_,_]) (by simp[results,Tryz.results45,go_sem];exact⟨rfl,rfl,rfl⟩) rfl ?_;exact HF.out
 . obtain⟨c0,c1,c2,c3⟩:=aO (R3.out.at m0);obtain⟨d0,d1,d2,d3⟩:=aO (R3.out.at m1)
   go_upto_region 12 with fail
   clear c0 c1 c2 c3 d0 d1 d2 d3;refine Spec.go [.w (.c (.v (.pointer (some ⟨g,0,none⟩)))),.w (.agg ([.v (.int .i64 2),.v (.float .f64 p.1),.v (.float .f64 p.2.1),.v (.float .f64 p.2.2.1)])),.w (.c (.v (.pointer (some ⟨g,0,none⟩)))),.w (.agg ([.v (.int .i64 1),.v (.float .f64 p.2.2.2.1),.v (.float .f64 p.2.2.2.2.1),.v (.float .f64 p.2.2.2.2.2)])),.w (.agg ([.v (.pointer (some ⟨g,0,none⟩)),.id 2,.v (.pointer (some ⟨g,0,none⟩)),.id 3,.v (.pointer (some ⟨g,0,none⟩)),.id 4,.v (.int .i64 su),.v (.int .i64 sv)])),.tup [.c (.sl 9 2),.c (.v .nilIface)],.tup [.c (.sl 9 2),.c (.v .nilIface)],.w (.c (.sl 9 2)),.w (.c (.v .nilIface)),.w (.c (.sl 9 2)),.w (.c (.v .nilIface))] [4,4,4,5,5,5,5,5]
    [(2,(pl0 p)),(3,(pl1 p)),(4,(pl2 p)),(5,(pl7 p)),(6,(pl8 p)),(7,(pl5 p)),(8,(pl6 p))] [⟨0,29,curC 2 p.1 p.2.1 p.2.2.1,none⟩,⟨1,29,curC 1 p.2.2.2.1 p.2.2.2.2.1 p.2.2.2.2.2,none⟩,⟨9,33,[.v (.pointer (some ⟨g,0,none⟩)),.id 5,.v (.pointer (some ⟨g,0,none⟩)),.id 6,.v (.pointer (some ⟨g,0,none⟩)),.id 7,.v (.pointer (some ⟨g,0,none⟩)),.id 8],none⟩]
    [0,0,0,0,3,30,0,0,0,0,0] [[],[],[],[],[2,3],rgn 5,rgn 6,rgn 7,rgn 7,rgn 8,[0,1,2,3,4,5,6,8]] [(0,.w (.c (.v (.pointer (some ⟨g,0,none⟩))))),(4,.w (.c (.ptr 0 0))),(5,.w (.c (.ptr 1 0)))]
    [48,49,50,51,52,53,47,54,55,11,13] [b1,b2] 11 (N+33) [] [] R3.out
    (fun b hM=>aA (aA (aA (aA (aA (aA (aA (aA (aA (aA (aA aK
      (aB b))
      (aF b 4 m0))
      (aB b))
      (aF b 4 m1))
      (aJ b (c_fn (ix:=[]) (ts:=[2,3,4]) hM (fun ν=>jP (h2) (fun _=>s1 _) (fun _=>s2 _)))))
      (iY b m2 (c_fb (ix:=[0,1,2]) (ts:=[5,6,7,8]) hM (fun ν=>anN (su:=su) (sv:=sv) hw (p:=((pl0 p),(pl1 p),(pl2 p),p.1,p.2.1,p.2.2.1)) (h1) hS))))
      (aB b))
      (aB b))
      (aB b))
      (aB b))
      (aB b)) ?_
   intro n3 n4 n5 n6 n7 n8 n9 b10 ν W4 hR;replace hR:Run ⟨w,B,ns⟩ g (N+33) [((pl0 p),n3),((pl1 p),n4),((pl2 p),n5),((pl7 p),n6),((pl8 p),n7),((pl5 p),n8),((pl6 p),n9)] [(b1,.cells #[(.int .i64 2),(.float .f64 p.1),(.float .f64 p.2.1),(.float .f64 p.2.2.1)] 29),(b2,.cells #[(.int .i64 1),(.float .f64 p.2.2.2.1),(.float .f64 p.2.2.2.2.1),(.float .f64 p.2.2.2.2.2)] 29),(b10,.cells #[.pointer (some ⟨g,0,none⟩),.int .i64 ((n6:Nat):Int),.pointer (some ⟨g,0,none⟩),.int .i64 ((n7:Nat):Int),.pointer (some ⟨g,0,none⟩),.int .i64 ((n8:Nat):Int),.pointer (some ⟨g,0,none⟩),.int .i64 ((n9:Nat):Int)] 33)] W4:=hR;have R4:=hdd hR;clear hR R3;simp only[putL,bhD,bhG,fs0,fs1,fsn,dSw,dSt,dWc,dWa,dv,di,dp,ds',bhE,bhF,nuTn,nuT0,nuT1,nuU0,nuU1];have HF:Hid (PtsP w B ns g N 33 (.leaf p.2.2.2.1) (.leaf p.2.2.2.2.1) (.leaf p.2.2.2.2.2) p.1 p.2.1 p.2.2.1 (1) su sv (.returned (.tuple #[.slice (some ⟨b10,0,none⟩) 2 2,.bool false,.nilIface])) W4):=hdd ⟨fun h=>by omega,fun h=>by omega,fun h=>(of_decide_eq_false hw.1 (by have:=h.2;omega)).elim,fun _=>⟨[n6,n7,n8,n9],b10,rfl,rfl,_,(R4.out.sub (dH [2]) (by simp)).few (dH [3,4,5,6])⟩⟩
   clear R4;go_wp2;refine bodyPost_ret (v:=.tuple #[_,_,_]) (by simp[results,Tryz.results45,go_sem];exact⟨rfl,rfl,rfl⟩) rfl ?_;exact HF.out
theorem alN(h1:dI p.1 p.2.1 p.2.2.1)(h2:nI p.2.2.2.1 p.2.2.2.2.1 p.2.2.2.2.2)(s1:∀w,Calls Tryz.prog 108 #[.float .f64 p.2.2.2.1,.float .f64 0] w (RetV w (.int .i64 su)))(s2:∀w,Calls Tryz.prog 108 #[.float .f64 p.2.2.2.2.1,.float .f64 0] w (RetV w (.int .i64 sv)))(hS:dY PT (cutF (.leaf p.2.2.2.1) (.leaf p.2.2.2.2.1) (.leaf p.2.2.2.2.2) p.1 p.2.1 p.2.2.1) (0)):FnBk 45 g 33 #[.pointer (some ⟨g,0,none⟩),curV 2 p.1 p.2.1 p.2.2.1,curV 1 p.2.2.2.1 p.2.2.2.2.1 p.2.2.2.2.2] [] (fun ks b=>.tuple #[.slice (some ⟨b,0,none⟩) 1 1,.bool false,.nilIface]) [cutX (.leaf p.2.2.2.1) (.leaf p.2.2.2.2.1) (.leaf p.2.2.2.2.2) p.1 p.2.1,cutY (.leaf p.2.2.2.1) (.leaf p.2.2.2.2.1) (.leaf p.2.2.2.2.2) p.1 p.2.1] (fun ks=>.cells #[.pointer (some ⟨g,0,none⟩),.int .i64 ((ks.getD 0 0:Nat):Int),.pointer (some ⟨g,0,none⟩),.int .i64 ((ks.getD 1 0:Nat):Int)] 33):=FnBk.of fun w B ns N hR hN=>(adA h1 h2 s1 s2 hS (Or.inr (Or.inl rfl)) hR hN).mono fun _ _ h=>h.2.1 rfl
theorem alO(hw:SwOk su sv)(h1:dI p.1 p.2.1 p.2.2.1)(h2:nI p.2.2.2.1 p.2.2.2.2.1 p.2.2.2.2.2)(s1:∀w,Calls Tryz.prog 108 #[.float .f64 p.2.2.2.1,.float .f64 0] w (RetV w (.int .i64 su)))(s2:∀w,Calls Tryz.prog 108 #[.float .f64 p.2.2.2.2.1,.float .f64 0] w (RetV w (.int .i64 sv)))(hS:dY PT (cutF (.leaf p.2.2.2.1) (.leaf p.2.2.2.2.1) (.leaf p.2.2.2.2.2) p.1 p.2.1 p.2.2.1) (1)):FnBk 45 g 33 #[.pointer (some ⟨g,0,none⟩),curV 2 p.1 p.2.1 p.2.2.1,curV 1 p.2.2.2.1 p.2.2.2.2.1 p.2.2.2.2.2] [] (fun ks b=>.tuple #[.slice (some ⟨b,0,none⟩) 2 2,.bool false,.nilIface]) [kH (.leaf p.2.2.2.1) (.leaf p.2.2.2.2.1) (.leaf p.2.2.2.2.2) p.1 p.2.1 p.2.2.1,kI (.leaf p.2.2.2.1) (.leaf p.2.2.2.2.1) (.leaf p.2.2.2.2.2) p.1 p.2.1 p.2.2.1,kF (.leaf p.2.2.2.1) (.leaf p.2.2.2.2.1) (.leaf p.2.2.2.2.2) p.1 p.2.1 p.2.2.1,kG (.leaf p.2.2.2.1) (.leaf p.2.2.2.2.1) (.leaf p.2.2.2.2.2) p.1 p.2.1 p.2.2.1] (fun ks=>.cells #[.pointer (some ⟨g,0,none⟩),.int .i64 ((ks.getD 0 0:Nat):Int),.pointer (some ⟨g,0,none⟩),.int .i64 ((ks.getD 1 0:Nat):Int),.pointer (some ⟨g,0,none⟩),.int .i64 ((ks.getD 2 0:Nat):Int),.pointer (some ⟨g,0,none⟩),.int .i64 ((ks.getD 3 0:Nat):Int)] 33):=FnBk.of fun w B ns N hR hN=>(adA h1 h2 s1 s2 hS (Or.inr (Or.inr ⟨rfl,Or.inr hw⟩)) hR hN).mono fun _ _ h=>h.2.2.2 ⟨rfl,hw⟩
abbrev pc0(p:Nat×Nat×Nat×Nat×Nat×Nat):Ex:=axU p.1 p.2.2.2.1
abbrev pc1(p:Nat×Nat×Nat×Nat×Nat×Nat):Ex:=axU p.2.1 p.2.2.2.2.1
abbrev pc2(p:Nat×Nat×Nat×Nat×Nat×Nat):Ex:=axW p.1 p.2.1 p.2.2.1 p.2.2.2.1 p.2.2.2.2.1 p.2.2.2.2.2
abbrev pc3(p:Nat×Nat×Nat×Nat×Nat×Nat):Ex:=cutX (pc0 p) (pc1 p) (pc2 p) p.1 p.2.1
abbrev pc4(p:Nat×Nat×Nat×Nat×Nat×Nat):Ex:=cutY (pc0 p) (pc1 p) (pc2 p) p.1 p.2.1
abbrev pc5(p:Nat×Nat×Nat×Nat×Nat×Nat):Ex:=kF (pc0 p) (pc1 p) (pc2 p) p.1 p.2.1 p.2.2.1
abbrev pc6(p:Nat×Nat×Nat×Nat×Nat×Nat):Ex:=kG (pc0 p) (pc1 p) (pc2 p) p.1 p.2.1 p.2.2.1
abbrev pc7(p:Nat×Nat×Nat×Nat×Nat×Nat):Ex:=kH (pc0 p) (pc1 p) (pc2 p) p.1 p.2.1 p.2.2.1
abbrev pc8(p:Nat×Nat×Nat×Nat×Nat×Nat):Ex:=kI (pc0 p) (pc1 p) (pc2 p) p.1 p.2.1 p.2.2.1
theorem alP(h1:dI p.1 p.2.1 p.2.2.1)(h2:dI p.2.2.2.1 p.2.2.2.2.1 p.2.2.2.2.2)(ho:(FloatKind.f64.format.order p.1 p.2.2.2.1==some Ordering.eq)=false)(s1:∀w,Calls Tryz.prog 108 #[.float .f64 p.2.2.2.1,.float .f64 p.1] w (RetV w (.int .i64 su)))(s2:∀w,Calls Tryz.prog 108 #[.float .f64 p.2.2.2.2.1,.float .f64 p.2.1] w (RetV w (.int .i64 sv)))(hS:dY PT (cutF (axU p.1 p.2.2.2.1) (axU p.2.1 p.2.2.2.2.1) (axW p.1 p.2.1 p.2.2.1 p.2.2.2.1 p.2.2.2.2.1 p.2.2.2.2.2) p.1 p.2.1 p.2.2.1) q)(hq:q=-1\/q=0\/q=1/\sv=1)(hR:Run ⟨w,B,ns⟩ g N [] [] w)(hN:N+54<=20000):Calls Tryz.prog 45 #[.pointer (some ⟨g,0,none⟩),curV 2 p.1 p.2.1 p.2.2.1,curV 2 p.2.2.2.1 p.2.2.2.2.1 p.2.2.2.2.2] w (PtsP w B ns g N 54 (axU p.1 p.2.2.2.1) (axU p.2.1 p.2.2.2.2.1) (axW p.1 p.2.1 p.2.2.1 p.2.2.2.1 p.2.2.2.2.1 p.2.2.2.2.2) p.1 p.2.1 p.2.2.1 q su sv):=by
 have R1:=hdd hR;clear hR;go_enter Tryz.func45,Tryz.ntmps45
 go_upto_region 0 with fail
 refine Spec.go [.w (.c (.ptr 0 0)),.w (.c (.ptr 1 0)),.w (.c (.v (Value.slice none 0 0))),.w (.c (.v (Value.bool false))),.w (.c (.v Value.nilIface))] [0,1]
  [] [⟨0,29,curC 2 p.1 p.2.1 p.2.2.1,none⟩,⟨1,29,curC 2 p.2.2.2.1 p.2.2.2.2.1 p.2.2.2.2.2,none⟩]
  [0,0,0,0,0] [[],[],[],[],[]] [(1,.w (.agg ([.v (.int .i64 2),.v (.float .f64 p.1),.v (.float .f64 p.2.1),.v (.float .f64 p.2.2.1)]))),(2,.w (.agg ([.v (.int .i64 2),.v (.float .f64 p.2.2.2.1),.v (.float .f64 p.2.2.2.2.1),.v (.float .f64 p.2.2.2.2.2)])))]
  [5,6,7,8,9] [] 5 N [] [] R1.out
  (fun b hM=>aA (aA (aA (aA (aA aK
    (aT b m0))
    (aT b m1))
    (aB b))
    (aB b))
    (aB b)) ?_
 intro b1 b2 ν W2 hR;have R2:=hdd hR;clear hR R1;simp only[putL,bhD,bhG,fs0,fs1,fsn,dSw,dSt,dWc,dWa,dv,di,dp,ds',bhE,bhF,nuTn,nuT0,nuT1,nuU0,nuU1]
 go_upto_region 1 with fail
 refine Spec.go [.w (.agg ([.v (.int .i64 2),.v (.float .f64 p.1),.v (.float .f64 p.2.1),.v (.float .f64 p.2.2.1)])),.w (.agg ([.v (.int .i64 2),.v (.float .f64 p.2.2.2.1),.v (.float .f64 p.2.2.2.2.1),.v (.float .f64 p.2.2.2.2.2)])),.w (.c (.v .nilIface)),.w (.c (.v .nilIface))] []
  [] [⟨0,29,curC 2 p.1 p.2.1 p.2.2.1,none⟩,⟨1,29,curC 2 p.2.2.2.1 p.2.2.2.2.1 p.2.2.2.2.2,none⟩]
  [0,0,0,0] [[],[],[0,1],[0,1,2]] [(4,.w (.c (.ptr 0 0))),(5,.w (.c (.ptr 1 0)))]
  [14,15,16,10] [b1,b2] 4 N [] [] R2.out
  (fun b hM=>aA (aA (aA (aA aK
    (aF b 4 m0))
    (aF b 4 m1))
    (aJ b (oK hM rfl rfl rfl (fun w=>ac7 (fun _=>tX h1) (fun _=>tX h2)))))
    (aB b)) ?_
 intro ν W3 hR;replace hR:Run ⟨w,B,ns⟩ g N [] [(b1,.cells #[(.int .i64 2),(.float .f64 p.1),(.float .f64 p.2.1),(.float .f64 p.2.2.1)] 29),(b2,.cells #[(.int .i64 2),(.float .f64 p.2.2.2.1),(.float .f64 p.2.2.2.2.1),(.float .f64 p.2.2.2.2.2)] 29)] W3:=hR;have R3:=hdd hR;clear hR R2;simp only[putL,bhD,bhG,fs0,fs1,fsn,dSw,dSt,dWc,dWa,dv,di,dp,ds',bhE,bhF,nuTn,nuT0,nuT1,nuU0,nuU1];rcases hq with rfl|rfl|⟨rfl,rfl⟩
 . obtain⟨c0,c1,c2,c3⟩:=aO (R3.out.at m0);obtain⟨d0,d1,d2,d3⟩:=aO (R3.out.at m1)
   go_upto_region 13 with fail
   clear c0 c1 c2 c3 d0 d1 d2 d3;refine Spec.go [.w (.c (.v (.pointer (some ⟨g,0,none⟩)))),.w (.agg ([.v (.int .i64 2),.v (.float .f64 p.1),.v (.float .f64 p.2.1),.v (.float .f64 p.2.2.1)])),.w (.agg ([.v (.int .i64 2),.v (.float .f64 p.2.2.2.1),.v (.float .f64 p.2.2.2.2.1),.v (.float .f64 p.2.2.2.2.2)])),.tup [.c (.v (.slice none 0 0)),.c (.v (.bool false)),.c (.v .nilIface)],.tup [.c (.v (.slice none 0 0)),.c (.v (.bool false)),.c (.v .nilIface)],.w (.c (.v (.slice none 0 0))),.w (.c (.v (.bool false))),.w (.c (.v .nilIface)),.w (.c (.v (.slice none 0 0))),.w (.c (.v (.bool false))),.w (.c (.v .nilIface))] []
    [] [⟨0,29,curC 2 p.1 p.2.1 p.2.2.1,none⟩,⟨1,29,curC 2 p.2.2.2.1 p.2.2.2.2.1 p.2.2.2.2.2,none⟩]
    [0,0,0,54,0,0,0,0,0,0,0] [[],[],[],[0,1,2],rgn 4,rgn 5,rgn 5,rgn 5,rgn 6,[0,1,2,3,4,6],[0,1,2,3,4,7]] [(0,.w (.c (.v (.pointer (some ⟨g,0,none⟩))))),(4,.w (.c (.ptr 0 0))),(5,.w (.c (.ptr 1 0)))]
    [57,58,59,60,56,61,62,63,11,12,13] [b1,b2] 11 (N+54) [] [] R3.out
    (fun b hM=>aA (aA (aA (aA (aA (aA (aA (aA (aA (aA (aA aK
      (aB b))
      (aF b 4 m0))
      (aF b 4 m1))
      (aJ b (c_fn (ix:=[]) (ts:=[]) hM (fun ν=>aeJ h1 h2 ho s1 s2 hS))))
      (aB b))
      (aB b))
      (aB b))
      (aB b))
      (aB b))
      (aB b))
      (aB b)) ?_
   intro ν W4 hR;replace hR:Run ⟨w,B,ns⟩ g (N+54) [] [(b1,.cells #[(.int .i64 2),(.float .f64 p.1),(.float .f64 p.2.1),(.float .f64 p.2.2.1)] 29),(b2,.cells #[(.int .i64 2),(.float .f64 p.2.2.2.1),(.float .f64 p.2.2.2.2.1),(.float .f64 p.2.2.2.2.2)] 29)] W4:=hR;have R4:=hdd hR;clear hR R3;simp only[putL,bhD,bhG,fs0,fs1,fsn,dSw,dSt,dWc,dWa,dv,di,dp,ds',bhE,bhF,nuTn,nuT0,nuT1,nuU0,nuU1];have HF:Hid (PtsP w B ns g N 54 (axU p.1 p.2.2.2.1) (axU p.2.1 p.2.2.2.2.1) (axW p.1 p.2.1 p.2.2.1 p.2.2.2.1 p.2.2.2.2.1 p.2.2.2.2.2) p.1 p.2.1 p.2.2.1 (-1) su sv (.returned (.tuple #[.slice none 0 0,.bool false,.nilIface])) W4):=hdd ⟨fun _=>⟨[],rfl,rfl,_,R4.out.few (dH [])⟩,fun h=>by omega,fun h=>by omega,fun h=>absurd h.1 (by decide)⟩;clear R4;go_wp2;refine bodyPost_ret (v:=.tuple #[_,_,_]) (by simp[results,Tryz.results45,go_sem];exact⟨rfl,rfl,rfl⟩) rfl ?_;exact HF.out
 . obtain⟨c0,c1,c2,c3⟩:=aO (R3.out.at m0);obtain⟨d0,d1,d2,d3⟩:=aO (R3.out.at m1)
   go_upto_region 13 with fail
   clear c0 c1 c2 c3 d0 d1 d2 d3;refine Spec.go [.w (.c (.v (.pointer (some ⟨g,0,none⟩)))),.w (.agg ([.v (.int .i64 2),.v (.float .f64 p.1),.v (.float .f64 p.2.1),.v (.float .f64 p.2.2.1)])),.w (.agg ([.v (.int .i64 2),.v (.float .f64 p.2.2.2.1),.v (.float .f64 p.2.2.2.2.1),.v (.float .f64 p.2.2.2.2.2)])),.tup [.c (.sl 4 1),.c (.v (.bool false)),.c (.v .nilIface)],.tup [.c (.sl 4 1),.c (.v (.bool false)),.c (.v .nilIface)],.w (.c (.sl 4 1)),.w (.c (.v (.bool false))),.w (.c (.v .nilIface)),.w (.c (.sl 4 1)),.w (.c (.v (.bool false))),.w (.c (.v .nilIface))] [3,3,3]
    [(2,(pc3 p)),(3,(pc4 p))] [⟨0,29,curC 2 p.1 p.2.1 p.2.2.1,none⟩,⟨1,29,curC 2 p.2.2.2.1 p.2.2.2.2.1 p.2.2.2.2.2,none⟩,⟨4,33,bY g 2 3,none⟩]
    [0,0,0,54,0,0,0,0,0,0,0] [[],[],[],[0,1,2],rgn 4,rgn 5,rgn 5,rgn 5,rgn 6,[0,1,2,3,4,6],[0,1,2,3,4,7]] [(0,.w (.c (.v (.pointer (some ⟨g,0,none⟩))))),(4,.w (.c (.ptr 0 0))),(5,.w (.c (.ptr 1 0)))]
    [57,58,59,60,56,61,62,63,11,12,13] [b1,b2] 11 (N+54) [] [] R3.out
    (fun b hM=>aA (aA (aA (aA (aA (aA (aA (aA (aA (aA (aA aK
      (aB b))
      (aF b 4 m0))
      (aF b 4 m1))
      (iY b m2 (c_fb (ix:=[]) (ts:=[2,3]) hM (fun ν=>ac8 h1 h2 ho s1 s2 hS))))
      (aB b))
      (aB b))
      (aB b))
      (aB b))
      (aB b))
      (aB b))
      (aB b)) ?_
   intro n3 n4 b5 ν W4 hR;replace hR:Run ⟨w,B,ns⟩ g (N+54) [((pc3 p),n3),((pc4 p),n4)] [(b1,.cells #[(.int .i64 2),(.float .f64 p.1),(.float .f64 p.2.1),(.float .f64 p.2.2.1)] 29),(b2,.cells #[(.int .i64 2),(.float .f64 p.2.2.2.1),(.float .f64 p.2.2.2.2.1),(.float .f64 p.2.2.2.2.2)] 29),(b5,kD g n3 n4)] W4:=hR;have R4:=hdd hR;clear hR R3;simp only[putL,bhD,bhG,fs0,fs1,fsn,dSw,dSt,dWc,dWa,dv,di,dp,ds',bhE,bhF,nuTn,nuT0,nuT1,nuU0,nuU1];have HF:Hid (PtsP w B ns g N 54 (axU p.1 p.2.2.2.1) (axU p.2.1 p.2.2.2.2.1) (axW p.1 p.2.1 p.2.2.1 p.2.2.2.1 p.2.2.2.2.1 p.2.2.2.2.2) p.1 p.2.1 p.2.2.1 (0) su sv (.returned (.tuple #[.slice (some ⟨b5,0,none⟩) 1 1,.bool false,.nilIface])) W4):=hdd ⟨fun h=>by omega,fun _=>⟨[n3,n4],b5,rfl,rfl,_,(R4.out.sub (dH [2]) (by simp)).few (dH [0,1])⟩,fun h=>by omega,fun h=>absurd h.1 (by decide)⟩;clear R4;go_wp2;refine bodyPost_ret (v:=.tuple #[_,_,_]) (by simp[results,Tryz.results45,go_sem];exact⟨rfl,rfl,rfl⟩) rfl ?_
   exact HF.out
 . obtain⟨c0,c1,c2,c3⟩:=aO (R3.out.at m0);obtain⟨d0,d1,d2,d3⟩:=aO (R3.out.at m1)
   go_upto_region 13 with fail
   clear c0 c1 c2 c3 d0 d1 d2 d3;refine Spec.go [.w (.c (.v (.pointer (some ⟨g,0,none⟩)))),.w (.agg ([.v (.int .i64 2),.v (.float .f64 p.1),.v (.float .f64 p.2.1),.v (.float .f64 p.2.2.1)])),.w (.agg ([.v (.int .i64 2),.v (.float .f64 p.2.2.2.1),.v (.float .f64 p.2.2.2.2.1),.v (.float .f64 p.2.2.2.2.2)])),.tup [.c (.sl 6 2),.c (.v (.bool false)),.c (.v .nilIface)],.tup [.c (.sl 6 2),.c (.v (.bool false)),.c (.v .nilIface)],.w (.c (.sl 6 2)),.w (.c (.v (.bool false))),.w (.c (.v .nilIface)),.w (.c (.sl 6 2)),.w (.c (.v (.bool false))),.w (.c (.v .nilIface))] [3,3,3,3,3]
    [(2,(pc5 p)),(3,(pc6 p)),(4,(pc7 p)),(5,(pc8 p))] [⟨0,29,curC 2 p.1 p.2.1 p.2.2.1,none⟩,⟨1,29,curC 2 p.2.2.2.1 p.2.2.2.2.1 p.2.2.2.2.2,none⟩,⟨6,33,[.v (.pointer (some ⟨g,0,none⟩)),.id 2,.v (.pointer (some ⟨g,0,none⟩)),.id 3,.v (.pointer (some ⟨g,0,none⟩)),.id 4,.v (.pointer (some ⟨g,0,none⟩)),.id 5],none⟩]
    [0,0,0,54,0,0,0,0,0,0,0] [[],[],[],[0,1,2],rgn 4,rgn 5,rgn 5,rgn 5,rgn 6,[0,1,2,3,4,6],[0,1,2,3,4,7]] [(0,.w (.c (.v (.pointer (some ⟨g,0,none⟩))))),(4,.w (.c (.ptr 0 0))),(5,.w (.c (.ptr 1 0)))]
    [57,58,59,60,56,61,62,63,11,12,13] [b1,b2] 11 (N+54) [] [] R3.out
    (fun b hM=>aA (aA (aA (aA (aA (aA (aA (aA (aA (aA (aA aK
      (aB b))
      (aF b 4 m0))
      (aF b 4 m1))
      (iY b m2 (c_fb (ix:=[]) (ts:=[2,3,4,5]) hM (fun ν=>ac9 h1 h2 ho s1 s2 hS))))
      (aB b))
      (aB b))
      (aB b))
      (aB b))
      (aB b))
      (aB b))
      (aB b)) ?_
   intro n3 n4 n5 n6 b7 ν W4 hR;replace hR:Run ⟨w,B,ns⟩ g (N+54) [((pc5 p),n3),((pc6 p),n4),((pc7 p),n5),((pc8 p),n6)] [(b1,.cells #[(.int .i64 2),(.float .f64 p.1),(.float .f64 p.2.1),(.float .f64 p.2.2.1)] 29),(b2,.cells #[(.int .i64 2),(.float .f64 p.2.2.2.1),(.float .f64 p.2.2.2.2.1),(.float .f64 p.2.2.2.2.2)] 29),(b7,.cells #[.pointer (some ⟨g,0,none⟩),.int .i64 ((n3:Nat):Int),.pointer (some ⟨g,0,none⟩),.int .i64 ((n4:Nat):Int),.pointer (some ⟨g,0,none⟩),.int .i64 ((n5:Nat):Int),.pointer (some ⟨g,0,none⟩),.int .i64 ((n6:Nat):Int)] 33)] W4:=hR;have R4:=hdd hR;clear hR R3;simp only[putL,bhD,bhG,fs0,fs1,fsn,dSw,dSt,dWc,dWa,dv,di,dp,ds',bhE,bhF,nuTn,nuT0,nuT1,nuU0,nuU1];have HF:Hid (PtsP w B ns g N 54 (axU p.1 p.2.2.2.1) (axU p.2.1 p.2.2.2.2.1) (axW p.1 p.2.1 p.2.2.1 p.2.2.2.1 p.2.2.2.2.1 p.2.2.2.2.2) p.1 p.2.1 p.2.2.1 (1) su 1 (.returned (.tuple #[.slice (some ⟨b7,0,none⟩) 2 2,.bool false,.nilIface])) W4):=hdd ⟨fun h=>by omega,fun h=>by omega,fun _=>⟨[n3,n4,n5,n6],b7,rfl,rfl,_,(R4.out.sub (dH [2]) (by simp)).few (dH [0,1,2,3])⟩,fun h=>absurd h.2.1 (by decide)⟩
   clear R4;go_wp2;refine bodyPost_ret (v:=.tuple #[_,_,_]) (by simp[results,Tryz.results45,go_sem];exact⟨rfl,rfl,rfl⟩) rfl ?_;exact HF.out
theorem adB(h1:dI p.1 p.2.1 p.2.2.1)(h2:dI p.2.2.2.1 p.2.2.2.2.1 p.2.2.2.2.2)(ho:(FloatKind.f64.format.order p.1 p.2.2.2.1==some Ordering.eq)=false)(s1:∀w,Calls Tryz.prog 108 #[.float .f64 p.2.2.2.1,.float .f64 p.1] w (RetV w (.int .i64 su)))(s2:∀w,Calls Tryz.prog 108 #[.float .f64 p.2.2.2.2.1,.float .f64 p.2.1] w (RetV w (.int .i64 sv)))(hS:dY PT (cutF (axU p.1 p.2.2.2.1) (axU p.2.1 p.2.2.2.2.1) (axW p.1 p.2.1 p.2.2.1 p.2.2.2.1 p.2.2.2.2.1 p.2.2.2.2.2) p.1 p.2.1 p.2.2.1) (0)):FnBk 45 g 54 #[.pointer (some ⟨g,0,none⟩),curV 2 p.1 p.2.1 p.2.2.1,curV 2 p.2.2.2.1 p.2.2.2.2.1 p.2.2.2.2.2] [] (fun ks b=>.tuple #[.slice (some ⟨b,0,none⟩) 1 1,.bool false,.nilIface]) [cutX (axU p.1 p.2.2.2.1) (axU p.2.1 p.2.2.2.2.1) (axW p.1 p.2.1 p.2.2.1 p.2.2.2.1 p.2.2.2.2.1 p.2.2.2.2.2) p.1 p.2.1,cutY (axU p.1 p.2.2.2.1) (axU p.2.1 p.2.2.2.2.1) (axW p.1 p.2.1 p.2.2.1 p.2.2.2.1 p.2.2.2.2.1 p.2.2.2.2.2) p.1 p.2.1] (fun ks=>.cells #[.pointer (some ⟨g,0,none⟩),.int .i64 ((ks.getD 0 0:Nat):Int),.pointer (some ⟨g,0,none⟩),.int .i64 ((ks.getD 1 0:Nat):Int)] 33):=FnBk.of fun w B ns N hR hN=>(alP h1 h2 ho s1 s2 hS (Or.inr (Or.inl rfl)) hR hN).mono fun _ _ h=>h.2.1 rfl
end Go.Proofs.YtjaafolhfihegaaGreatDoor
