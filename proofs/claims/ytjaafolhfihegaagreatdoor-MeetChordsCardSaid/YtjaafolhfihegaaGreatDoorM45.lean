/- A part of the proof: contracts of functions and plain laws (QlMxClmL, AlvFxClmL, FeCxClmL, QlNxClmL, MwAxClmL, MtFxClmL). -/
import Derived.Test.YtjaafolhfihegaaGreatDoorM34
import Derived.Test.YtjaafolhfihegaaGreatDoorM33
import Derived.Test.YtjaafolhfihegaaGreatDoorM16
import Derived.Test.YtjaafolhfihegaaGreatDoorM15
import Derived.Test.YtjaafolhfihegaaGreatDoorM14
import Derived.Test.YtjaafolhfihegaaGreatDoorM13
import Derived.Test.YtjaafolhfihegaaGreatDoorM12
import Derived.Test.YtjaafolhfihegaaGreatDoorM08
import Derived.Test.YtjaafolhfihegaaGreatDoorM07
import Derived.Test.YtjaafolhfihegaaGreatDoorM06
import Derived.Test.YtjaafolhfihegaaGreatDoorM05
import Derived.Test.YtjaafolhfihegaaGreatDoorM04
import Derived.Test.YtjaafolhfihegaaGreatDoorM03
import Derived.Test.YtjaafolhfihegaaGreatDoorM02
import Derived.Test.YtjaafolhfihegaaGreatDoorM01
import Derived.Test.YtjaafolhfihegaaGreatDoorM11
import Derived.Test.YtjaafolhfihegaaGreatDoorM10
import Derived.Test.YtjaafolhfihegaaGreatDoorM09
import Derived.Test.YtjaafolhfihegaaGreatDoorM32
import Derived.Test.YtjaafolhfihegaaGreatDoorM31
import Derived.Test.YtjaafolhfihegaaGreatDoorM30
import Derived.Test.YtjaafolhfihegaaGreatDoorM29
import Derived.Test.YtjaafolhfihegaaGreatDoorM28
import Derived.Test.YtjaafolhfihegaaGreatDoorM24
import Derived.Test.YtjaafolhfihegaaGreatDoorM23
import Derived.Test.YtjaafolhfihegaaGreatDoorM21
import Derived.Test.YtjaafolhfihegaaGreatDoorM20
import Derived.Test.YtjaafolhfihegaaGreatDoorM19
import Derived.Test.YtjaafolhfihegaaGreatDoorM22
import Derived.Test.YtjaafolhfihegaaGreatDoorM27
import Derived.Test.YtjaafolhfihegaaGreatDoorM26
import Derived.Test.YtjaafolhfihegaaGreatDoorM25
import Derived.Test.YtjaafolhfihegaaGreatDoorM43
import Derived.Test.YtjaafolhfihegaaGreatDoorM18
import Derived.Test.YtjaafolhfihegaaGreatDoorM44
import Derived.WalkKit
import Derived.Laws.NewFold
set_option linter.unusedVariables false
set_option linter.unusedSimpArgs false
set_option maxHeartbeats 25600000
set_option maxRecDepth 100000
namespace Go.Proofs.YtjaafolhfihegaaGreatDoor
open Go.RowKit Go.Maps
open Re (rat ofI ofN)
variable{v:Int}
theorem sgp(h:0<v):v.sign=1:=Int.sign_eq_one_iff_pos.2 h
theorem sgn'(h:v<0):v.sign=-1:=Int.sign_eq_neg_one_iff_neg.2 h
theorem sgz(h:v=0):v.sign=0:=by rw[h];rfl
end Go.Proofs.YtjaafolhfihegaaGreatDoor
namespace Go.Proofs.YtjaafolhfihegaaGreatDoor
open Go.RowKit Go.Maps Go.Stop Go.Extern
theorem amW{w:World}(hT:Tab w)(htb:1<w.heap.size):Calls Tryz.prog 42 #[] w (RetV w (.bool true)):=
 yC (fun _=>agL (p:=(0,0,4611686018427387904,4607182418800017408,0,4607182418800017408)) eG.1 eG.2.1 eG.2.2.1 eG.2.2.2.1 fun _ _ _=>agP (su:=1) (sv:=0) ⟨by decide,Or.inr ⟨by decide,by decide⟩⟩ (p:=(.leaf 4607182418800017408,.leaf 0,.leaf 4607182418800017408,0,0,4611686018427387904)) eG.1 eG.2.2.2.2) hT htb
end Go.Proofs.YtjaafolhfihegaaGreatDoor
namespace Go.Proofs.YtjaafolhfihegaaGreatDoor
open Go.RowKit Go.Maps Ieee
section
variable{x y:Nat}{a b:Int}
theorem qH(hx:Iw x a)(hy:Iw y b)(h:(a*b).natAbs<2^53):∃r,Op2 .mul x y r/\Iw r (a*b):=by
 obtain⟨f1,v1⟩:=abF hx;obtain⟨f2,v2⟩:=abF hy;obtain⟨r,h1,h2,h3,h4⟩:=aiU (i:=0) (j:=0) f1 f2 (by omega) (by omega) (by omega) v1 v2 h;exact⟨r,fun w=>run_float_arith w .mul 27 .f64 x y r h1,apJ h2 h3 (by rw[h4,Nat.add_zero])⟩
end
end Go.Proofs.YtjaafolhfihegaaGreatDoor
namespace Go.Proofs.YtjaafolhfihegaaGreatDoor
open Go.RowKit Go.Maps
open Re (rat ofI ofN)
variable{m:Nat}
theorem nab{x y:Int}{n:Nat}(h:x.natAbs<=m)(g:y.natAbs<=n):(x*y).natAbs<=m*n:=by rw[Int.natAbs_mul];exact Nat.mul_le_mul h g
theorem nadd{x y:Int}{n:Nat}(h:x.natAbs<=m)(g:y.natAbs<=n):(x+y).natAbs<=m+n:=Nat.le_trans (Int.natAbs_add_le x y) (Nat.add_le_add h g)
theorem nlt{x:Int}{n:Nat}(h:x.natAbs<=m)(k:m<2^n:=by decide):x.natAbs<2^n:=Nat.lt_of_le_of_lt h k
theorem rne{q:Rat}{z:Int}(h:q=(z:Rat))(hz:z≠0):q≠0:=by
 rw[h];intro e;exact hz (Rat.intCast_inj.1 (by rw[e];rfl))
section
variable{u v w a b c se sn:Sh}{U V W:Ex}{A B C:Nat}{p q r x y e n z:Rat}
end
section
variable(a b u v s:Rat)
end
end Go.Proofs.YtjaafolhfihegaaGreatDoor
namespace Go.Proofs.YtjaafolhfihegaaGreatDoor
open Go.RowKit Go.Maps Go.Stop Go.Extern
theorem b53{x:Int}{m:Nat}(h:x.natAbs<=m)(k:m<2^53:=by decide):x.natAbs<2^53:=Nat.lt_of_le_of_lt h k
end Go.Proofs.YtjaafolhfihegaaGreatDoor
namespace Go.Proofs.YtjaafolhfihegaaGreatDoor
open Go.RowKit Go.Maps
open List renaming setIfInBounds_toArray->bj1,map_cons->bj2,map_nil->bj3,set->bj4
variable{su sv:Int}{g:Nat}{p:Nat×Nat×Nat×Nat×Nat×Nat}
abbrev pm0(p:Nat×Nat×Nat×Nat×Nat×Nat):Ex:=.leaf p.2.2.2.1
abbrev pm1(p:Nat×Nat×Nat×Nat×Nat×Nat):Ex:=.leaf p.2.2.2.2.1
abbrev pm2(p:Nat×Nat×Nat×Nat×Nat×Nat):Ex:=.leaf p.2.2.2.2.2
abbrev pm3(p:Nat×Nat×Nat×Nat×Nat×Nat):Ex:=cutX (pm0 p) (pm1 p) (pm2 p) p.1 p.2.1
abbrev pm4(p:Nat×Nat×Nat×Nat×Nat×Nat):Ex:=cutY (pm0 p) (pm1 p) (pm2 p) p.1 p.2.1
abbrev pm5(p:Nat×Nat×Nat×Nat×Nat×Nat):Ex:=gI (pm0 p) (pm1 p) (pm2 p) p.1 p.2.1 p.2.2.1
abbrev pm6(p:Nat×Nat×Nat×Nat×Nat×Nat):Ex:=gJ (pm0 p) (pm1 p) (pm2 p) p.1 p.2.1 p.2.2.1
abbrev pm7(p:Nat×Nat×Nat×Nat×Nat×Nat):Ex:=gK (pm0 p) (pm1 p) (pm2 p) p.1 p.2.1 p.2.2.1
abbrev pm8(p:Nat×Nat×Nat×Nat×Nat×Nat):Ex:=gL (pm0 p) (pm1 p) (pm2 p) p.1 p.2.1 p.2.2.1
theorem sP{q:Int}(h1:dJ p.1 p.2.1 p.2.2.1)(h2:dC p.2.2.2.1 p.2.2.2.2.1 p.2.2.2.2.2)(s1:∀w,Calls Tryz.prog 108 #[.float .f64 p.2.2.2.1,.float .f64 0] w (RetV w (.int .i64 su)))(s2:∀w,Calls Tryz.prog 108 #[.float .f64 p.2.2.2.2.1,.float .f64 0] w (RetV w (.int .i64 sv)))(hS:bD PT (cutF (.leaf p.2.2.2.1) (.leaf p.2.2.2.2.1) (.leaf p.2.2.2.2.2) p.1 p.2.1 p.2.2.1) q)(hq:q=-1\/q=0\/q=1/\(sv=1\/SwOk su sv)){w:World}{B:Nat}{ns:List Nd}{N:Nat}(hR:Run ⟨w,B,ns⟩ g N [] [] w)(hN:N+33<=20000):Calls Tryz.prog 45 #[.pointer (some ⟨g,0,none⟩),curV 1 p.2.2.2.1 p.2.2.2.2.1 p.2.2.2.2.2,curV 2 p.1 p.2.1 p.2.2.1] w (PtsP w B ns g N 33 (.leaf p.2.2.2.1) (.leaf p.2.2.2.2.1) (.leaf p.2.2.2.2.2) p.1 p.2.1 p.2.2.1 q su sv):=by
 have R1:=hdd hR;clear hR;go_enter Tryz.func45,Tryz.ntmps45
 go_upto_region 0 with fail
 refine Spec.go [.w (.c (.ptr 0 0)),.w (.c (.ptr 1 0)),.w (.c (.v (Value.slice none 0 0))),.w (.c (.v (Value.bool false))),.w (.c (.v Value.nilIface))] [0,1]
  [] [⟨0,29,curC 1 p.2.2.2.1 p.2.2.2.2.1 p.2.2.2.2.2,none⟩,⟨1,29,curC 2 p.1 p.2.1 p.2.2.1,none⟩]
  [0,0,0,0,0] [[],[],[],[],[]] [(1,.w (.agg ([.v (.int .i64 1),.v (.float .f64 p.2.2.2.1),.v (.float .f64 p.2.2.2.2.1),.v (.float .f64 p.2.2.2.2.2)]))),(2,.w (.agg ([.v (.int .i64 2),.v (.float .f64 p.1),.v (.float .f64 p.2.1),.v (.float .f64 p.2.2.1)])))]
  [5,6,7,8,9] [] 5 N [] [] R1.out
  (fun b hM=>aA (aA (aA (aA (aA aH
    (aI b m0))
    (aI b m1))
    (aB b))
    (aB b))
    (aB b)) ?_
 intro b1 b2 ν W2 hR;have R2:=hdd hR;clear hR R1;simp only[putL,bj1,bj4,fs0,fs1,fsn,dSw,dSt,dWc,dWa,dv,di,dp,ds',bj2,bj3,nuTn,nuT0,nuT1,nuU0,nuU1]
 go_upto_region 1 with fail
 refine Spec.go [.w (.agg ([.v (.int .i64 1),.v (.float .f64 p.2.2.2.1),.v (.float .f64 p.2.2.2.2.1),.v (.float .f64 p.2.2.2.2.2)])),.w (.agg ([.v (.int .i64 2),.v (.float .f64 p.1),.v (.float .f64 p.2.1),.v (.float .f64 p.2.2.1)])),.w (.c (.v .nilIface)),.w (.c (.v .nilIface))] []
  [] [⟨0,29,curC 1 p.2.2.2.1 p.2.2.2.2.1 p.2.2.2.2.2,none⟩,⟨1,29,curC 2 p.1 p.2.1 p.2.2.1,none⟩]
  [0,0,0,0] [[],[],[0,1],[0,1,2]] [(4,.w (.c (.ptr 0 0))),(5,.w (.c (.ptr 1 0)))]
  [14,15,16,10] [b1,b2] 4 N [] [] R2.out
  (fun b hM=>aA (aA (aA (aA aH
    (aD b 4 m0))
    (aD b 4 m1))
    (aG b (oK hM rfl rfl rfl (fun w=>oF (fun _=>p9 h2) (fun _=>kU h1)))))
    (aB b)) ?_
 intro ν W3 hR;replace hR:Run ⟨w,B,ns⟩ g N [] [(b1,.cells #[(.int .i64 1),(.float .f64 p.2.2.2.1),(.float .f64 p.2.2.2.2.1),(.float .f64 p.2.2.2.2.2)] 29),(b2,.cells #[(.int .i64 2),(.float .f64 p.1),(.float .f64 p.2.1),(.float .f64 p.2.2.1)] 29)] W3:=hR;have R3:=hdd hR;clear hR R2;simp only[putL,bj1,bj4,fs0,fs1,fsn,dSw,dSt,dWc,dWa,dv,di,dp,ds',bj2,bj3,nuTn,nuT0,nuT1,nuU0,nuU1];obtain⟨c0,c1,c2,c3⟩:=aL (R3.out.at m0);obtain⟨d0,d1,d2,d3⟩:=aL (R3.out.at m1)
 go_upto_region 11 with fail
 clear c0 c1 c2 c3 d0 d1 d2 d3;refine Spec.go [.w (.agg ([.v (.int .i64 2),.v (.float .f64 p.1),.v (.float .f64 p.2.1),.v (.float .f64 p.2.2.1)])),.w (.agg ([.v (.int .i64 1),.v (.float .f64 p.2.2.2.1),.v (.float .f64 p.2.2.2.2.1),.v (.float .f64 p.2.2.2.2.2)])),noS,noS] []
  [] [⟨0,29,curC 1 p.2.2.2.1 p.2.2.2.2.1 p.2.2.2.2.2,some (2,[.v (.int .i64 2),.v (.float .f64 p.1),.v (.float .f64 p.2.1),.v (.float .f64 p.2.2.1)])⟩,⟨1,29,curC 2 p.1 p.2.1 p.2.2.1,some (3,[.v (.int .i64 1),.v (.float .f64 p.2.2.2.1),.v (.float .f64 p.2.2.2.2.1),.v (.float .f64 p.2.2.2.2.2)])⟩]
  [0,0,0,0] [[],[],[0,1],[0,1,2]] [(5,.w (.c (.ptr 1 0))),(4,.w (.c (.ptr 0 0)))]
  [45,46,0,0] [b1,b2] 4 N [] [] R3.out
  (fun b hM=>aA (aA (aA (aA aH
    (aD b 4 m1))
    (aD b 4 m0))
    (aV b 4 m0))
    (aV b 4 m1)) ?_
 intro ν W4 hR;replace hR:Run ⟨w,B,ns⟩ g N [] [(b1,.cells #[(.int .i64 2),(.float .f64 p.1),(.float .f64 p.2.1),(.float .f64 p.2.2.1)] 29),(b2,.cells #[(.int .i64 1),(.float .f64 p.2.2.2.1),(.float .f64 p.2.2.2.2.1),(.float .f64 p.2.2.2.2.2)] 29)] W4:=hR;have R4:=hdd hR;clear hR R3;simp only[putL,bj1,bj4,fs0,fs1,fsn,dSw,dSt,dWc,dWa,dv,di,dp,ds',bj2,bj3,nuTn,nuT0,nuT1,nuU0,nuU1];rcases hq with rfl|rfl|⟨rfl,rfl|hw⟩
 . go_upto_region 12 with fail
   refine Spec.go [.w (.c (.v (.pointer (some ⟨g,0,none⟩)))),.w (.agg ([.v (.int .i64 2),.v (.float .f64 p.1),.v (.float .f64 p.2.1),.v (.float .f64 p.2.2.1)])),.w (.c (.v (.pointer (some ⟨g,0,none⟩)))),.w (.agg ([.v (.int .i64 1),.v (.float .f64 p.2.2.2.1),.v (.float .f64 p.2.2.2.2.1),.v (.float .f64 p.2.2.2.2.2)])),.w (.agg ([.v (.pointer (some ⟨g,0,none⟩)),.id 2,.v (.pointer (some ⟨g,0,none⟩)),.id 3,.v (.pointer (some ⟨g,0,none⟩)),.id 4,.v (.int .i64 su),.v (.int .i64 sv)])),.tup [.c (.v (.slice none 0 0)),.c (.v .nilIface)],.tup [.c (.v (.slice none 0 0)),.c (.v .nilIface)],.w (.c (.v (.slice none 0 0))),.w (.c (.v .nilIface)),.w (.c (.v (.slice none 0 0))),.w (.c (.v .nilIface))] [4,4,4]
    [(2,(pm0 p)),(3,(pm1 p)),(4,(pm2 p))] [⟨0,29,curC 2 p.1 p.2.1 p.2.2.1,none⟩,⟨1,29,curC 1 p.2.2.2.1 p.2.2.2.2.1 p.2.2.2.2.2,none⟩]
    [0,0,0,0,3,30,0,0,0,0,0] [[],[],[],[],[2,3],rgn 5,rgn 6,rgn 7,rgn 7,rgn 8,[0,1,2,3,4,5,6,8]] [(0,.w (.c (.v (.pointer (some ⟨g,0,none⟩))))),(4,.w (.c (.ptr 0 0))),(5,.w (.c (.ptr 1 0)))]
    [48,49,50,51,52,53,47,54,55,11,13] [b1,b2] 11 (N+33) [] [] R4.out
    (fun b hM=>aA (aA (aA (aA (aA (aA (aA (aA (aA (aA (aA aH
      (aB b))
      (aD b 4 m0))
      (aB b))
      (aD b 4 m1))
      (aG b (c_fn (ix:=[]) (ts:=[2,3,4]) hM (fun ν=>iI (h2) (fun _=>s1 _) (fun _=>s2 _)))))
      (aG b (c_fn (ix:=[0,1,2]) (ts:=[]) hM (fun ν=>aqK (su:=su) (sv:=sv) (p:=((pm0 p),(pm1 p),(pm2 p),p.1,p.2.1,p.2.2.1)) (h1) hS))))
      (aB b))
      (aB b))
      (aB b))
      (aB b))
      (aB b)) ?_
   intro n3 n4 n5 ν W5 hR;replace hR:Run ⟨w,B,ns⟩ g (N+33) [((pm0 p),n3),((pm1 p),n4),((pm2 p),n5)] [(b1,.cells #[(.int .i64 2),(.float .f64 p.1),(.float .f64 p.2.1),(.float .f64 p.2.2.1)] 29),(b2,.cells #[(.int .i64 1),(.float .f64 p.2.2.2.1),(.float .f64 p.2.2.2.2.1),(.float .f64 p.2.2.2.2.2)] 29)] W5:=hR;have R5:=hdd hR;clear hR R4;simp only[putL,bj1,bj4,fs0,fs1,fsn,dSw,dSt,dWc,dWa,dv,di,dp,ds',bj2,bj3,nuTn,nuT0,nuT1,nuU0,nuU1];have HF:Hid (PtsP w B ns g N 33 (.leaf p.2.2.2.1) (.leaf p.2.2.2.2.1) (.leaf p.2.2.2.2.2) p.1 p.2.1 p.2.2.1 (-1) su sv (.returned (.tuple #[.slice none 0 0,.bool false,.nilIface])) W5):=hdd ⟨fun _=>⟨[],rfl,rfl,_,R5.out.few (bX [])⟩,fun h=>by omega,fun h=>by omega,fun h=>absurd h.1 (by decide)⟩;clear R5;go_wp2;refine bodyPost_ret (v:=.tuple #[_,_,_]) (by simp[results,Tryz.results45,go_sem];exact⟨rfl,rfl,rfl⟩) rfl ?_;exact HF.out
 . go_upto_region 12 with fail
   refine Spec.go [.w (.c (.v (.pointer (some ⟨g,0,none⟩)))),.w (.agg ([.v (.int .i64 2),.v (.float .f64 p.1),.v (.float .f64 p.2.1),.v (.float .f64 p.2.2.1)])),.w (.c (.v (.pointer (some ⟨g,0,none⟩)))),.w (.agg ([.v (.int .i64 1),.v (.float .f64 p.2.2.2.1),.v (.float .f64 p.2.2.2.2.1),.v (.float .f64 p.2.2.2.2.2)])),.w (.agg ([.v (.pointer (some ⟨g,0,none⟩)),.id 2,.v (.pointer (some ⟨g,0,none⟩)),.id 3,.v (.pointer (some ⟨g,0,none⟩)),.id 4,.v (.int .i64 su),.v (.int .i64 sv)])),.tup [.c (.sl 7 1),.c (.v .nilIface)],.tup [.c (.sl 7 1),.c (.v .nilIface)],.w (.c (.sl 7 1)),.w (.c (.v .nilIface)),.w (.c (.sl 7 1)),.w (.c (.v .nilIface))] [4,4,4,5,5,5]
    [(2,(pm0 p)),(3,(pm1 p)),(4,(pm2 p)),(5,(pm3 p)),(6,(pm4 p))] [⟨0,29,curC 2 p.1 p.2.1 p.2.2.1,none⟩,⟨1,29,curC 1 p.2.2.2.1 p.2.2.2.2.1 p.2.2.2.2.2,none⟩,⟨7,33,aY g 5 6,none⟩]
    [0,0,0,0,3,30,0,0,0,0,0] [[],[],[],[],[2,3],rgn 5,rgn 6,rgn 7,rgn 7,rgn 8,[0,1,2,3,4,5,6,8]] [(0,.w (.c (.v (.pointer (some ⟨g,0,none⟩))))),(4,.w (.c (.ptr 0 0))),(5,.w (.c (.ptr 1 0)))]
    [48,49,50,51,52,53,47,54,55,11,13] [b1,b2] 11 (N+33) [] [] R4.out
    (fun b hM=>aA (aA (aA (aA (aA (aA (aA (aA (aA (aA (aA aH
      (aB b))
      (aD b 4 m0))
      (aB b))
      (aD b 4 m1))
      (aG b (c_fn (ix:=[]) (ts:=[2,3,4]) hM (fun ν=>iI (h2) (fun _=>s1 _) (fun _=>s2 _)))))
      (kR b m2 (c_fb (ix:=[0,1,2]) (ts:=[5,6]) hM (fun ν=>aoZ (su:=su) (sv:=sv) (p:=((pm0 p),(pm1 p),(pm2 p),p.1,p.2.1,p.2.2.1)) (h1) hS))))
      (aB b))
      (aB b))
      (aB b))
      (aB b))
      (aB b)) ?_
   intro n3 n4 n5 n6 n7 b8 ν W5 hR;replace hR:Run ⟨w,B,ns⟩ g (N+33) [((pm0 p),n3),((pm1 p),n4),((pm2 p),n5),((pm3 p),n6),((pm4 p),n7)] [(b1,.cells #[(.int .i64 2),(.float .f64 p.1),(.float .f64 p.2.1),(.float .f64 p.2.2.1)] 29),(b2,.cells #[(.int .i64 1),(.float .f64 p.2.2.2.1),(.float .f64 p.2.2.2.2.1),(.float .f64 p.2.2.2.2.2)] 29),(b8,dX g n6 n7)] W5:=hR;have R5:=hdd hR;clear hR R4;simp only[putL,bj1,bj4,fs0,fs1,fsn,dSw,dSt,dWc,dWa,dv,di,dp,ds',bj2,bj3,nuTn,nuT0,nuT1,nuU0,nuU1];have HF:Hid (PtsP w B ns g N 33 (.leaf p.2.2.2.1) (.leaf p.2.2.2.2.1) (.leaf p.2.2.2.2.2) p.1 p.2.1 p.2.2.1 (0) su sv (.returned (.tuple #[.slice (some ⟨b8,0,none⟩) 1 1,.bool false,.nilIface])) W5):=hdd ⟨fun h=>by omega,fun _=>⟨[n6,n7],b8,rfl,rfl,_,(R5.out.sub (bX [2]) (by simp)).few (bX [3,4])⟩,fun h=>by omega,fun h=>absurd h.1 (by decide)⟩;clear R5;go_wp2;refine bodyPost_ret (v:=.tuple #[_,_,_]) (by simp[results,Tryz.results45,go_sem];exact⟨rfl,rfl,rfl⟩) rfl ?_
   exact HF.out
 . go_upto_region 12 with fail
   refine Spec.go [.w (.c (.v (.pointer (some ⟨g,0,none⟩)))),.w (.agg ([.v (.int .i64 2),.v (.float .f64 p.1),.v (.float .f64 p.2.1),.v (.float .f64 p.2.2.1)])),.w (.c (.v (.pointer (some ⟨g,0,none⟩)))),.w (.agg ([.v (.int .i64 1),.v (.float .f64 p.2.2.2.1),.v (.float .f64 p.2.2.2.2.1),.v (.float .f64 p.2.2.2.2.2)])),.w (.agg ([.v (.pointer (some ⟨g,0,none⟩)),.id 2,.v (.pointer (some ⟨g,0,none⟩)),.id 3,.v (.pointer (some ⟨g,0,none⟩)),.id 4,.v (.int .i64 su),.v (.int .i64 1)])),.tup [.c (.sl 9 2),.c (.v .nilIface)],.tup [.c (.sl 9 2),.c (.v .nilIface)],.w (.c (.sl 9 2)),.w (.c (.v .nilIface)),.w (.c (.sl 9 2)),.w (.c (.v .nilIface))] [4,4,4,5,5,5,5,5]
    [(2,(pm0 p)),(3,(pm1 p)),(4,(pm2 p)),(5,(pm5 p)),(6,(pm6 p)),(7,(pm7 p)),(8,(pm8 p))] [⟨0,29,curC 2 p.1 p.2.1 p.2.2.1,none⟩,⟨1,29,curC 1 p.2.2.2.1 p.2.2.2.2.1 p.2.2.2.2.2,none⟩,⟨9,33,[.v (.pointer (some ⟨g,0,none⟩)),.id 5,.v (.pointer (some ⟨g,0,none⟩)),.id 6,.v (.pointer (some ⟨g,0,none⟩)),.id 7,.v (.pointer (some ⟨g,0,none⟩)),.id 8],none⟩]
    [0,0,0,0,3,30,0,0,0,0,0] [[],[],[],[],[2,3],rgn 5,rgn 6,rgn 7,rgn 7,rgn 8,[0,1,2,3,4,5,6,8]] [(0,.w (.c (.v (.pointer (some ⟨g,0,none⟩))))),(4,.w (.c (.ptr 0 0))),(5,.w (.c (.ptr 1 0)))]
    [48,49,50,51,52,53,47,54,55,11,13] [b1,b2] 11 (N+33) [] [] R4.out
    (fun b hM=>aA (aA (aA (aA (aA (aA (aA (aA (aA (aA (aA aH
      (aB b))
      (aD b 4 m0))
      (aB b))
      (aD b 4 m1))
      (aG b (c_fn (ix:=[]) (ts:=[2,3,4]) hM (fun ν=>iI (h2) (fun _=>s1 _) (fun _=>s2 _)))))
      (kR b m2 (c_fb (ix:=[0,1,2]) (ts:=[5,6,7,8]) hM (fun ν=>ao0 (su:=su) (p:=((pm0 p),(pm1 p),(pm2 p),p.1,p.2.1,p.2.2.1)) (h1) hS))))
      (aB b))
      (aB b))
      (aB b))
      (aB b))
      (aB b)) ?_
   intro n3 n4 n5 n6 n7 n8 n9 b10 ν W5 hR;replace hR:Run ⟨w,B,ns⟩ g (N+33) [((pm0 p),n3),((pm1 p),n4),((pm2 p),n5),((pm5 p),n6),((pm6 p),n7),((pm7 p),n8),((pm8 p),n9)] [(b1,.cells #[(.int .i64 2),(.float .f64 p.1),(.float .f64 p.2.1),(.float .f64 p.2.2.1)] 29),(b2,.cells #[(.int .i64 1),(.float .f64 p.2.2.2.1),(.float .f64 p.2.2.2.2.1),(.float .f64 p.2.2.2.2.2)] 29),(b10,.cells #[.pointer (some ⟨g,0,none⟩),.int .i64 ((n6:Nat):Int),.pointer (some ⟨g,0,none⟩),.int .i64 ((n7:Nat):Int),.pointer (some ⟨g,0,none⟩),.int .i64 ((n8:Nat):Int),.pointer (some ⟨g,0,none⟩),.int .i64 ((n9:Nat):Int)] 33)] W5:=hR;have R5:=hdd hR;clear hR R4;simp only[putL,bj1,bj4,fs0,fs1,fsn,dSw,dSt,dWc,dWa,dv,di,dp,ds',bj2,bj3,nuTn,nuT0,nuT1,nuU0,nuU1];have HF:Hid (PtsP w B ns g N 33 (.leaf p.2.2.2.1) (.leaf p.2.2.2.2.1) (.leaf p.2.2.2.2.2) p.1 p.2.1 p.2.2.1 (1) su 1 (.returned (.tuple #[.slice (some ⟨b10,0,none⟩) 2 2,.bool false,.nilIface])) W5):=hdd ⟨fun h=>by omega,fun h=>by omega,fun _=>⟨[n6,n7,n8,n9],b10,rfl,rfl,_,(R5.out.sub (bX [2]) (by simp)).few (bX [3,4,5,6])⟩,fun h=>absurd h.2.1 (by decide)⟩
   clear R5;go_wp2;refine bodyPost_ret (v:=.tuple #[_,_,_]) (by simp[results,Tryz.results45,go_sem];exact⟨rfl,rfl,rfl⟩) rfl ?_;exact HF.out
 . go_upto_region 12 with fail
   refine Spec.go [.w (.c (.v (.pointer (some ⟨g,0,none⟩)))),.w (.agg ([.v (.int .i64 2),.v (.float .f64 p.1),.v (.float .f64 p.2.1),.v (.float .f64 p.2.2.1)])),.w (.c (.v (.pointer (some ⟨g,0,none⟩)))),.w (.agg ([.v (.int .i64 1),.v (.float .f64 p.2.2.2.1),.v (.float .f64 p.2.2.2.2.1),.v (.float .f64 p.2.2.2.2.2)])),.w (.agg ([.v (.pointer (some ⟨g,0,none⟩)),.id 2,.v (.pointer (some ⟨g,0,none⟩)),.id 3,.v (.pointer (some ⟨g,0,none⟩)),.id 4,.v (.int .i64 su),.v (.int .i64 sv)])),.tup [.c (.sl 9 2),.c (.v .nilIface)],.tup [.c (.sl 9 2),.c (.v .nilIface)],.w (.c (.sl 9 2)),.w (.c (.v .nilIface)),.w (.c (.sl 9 2)),.w (.c (.v .nilIface))] [4,4,4,5,5,5,5,5]
    [(2,(pm0 p)),(3,(pm1 p)),(4,(pm2 p)),(5,(pm7 p)),(6,(pm8 p)),(7,(pm5 p)),(8,(pm6 p))] [⟨0,29,curC 2 p.1 p.2.1 p.2.2.1,none⟩,⟨1,29,curC 1 p.2.2.2.1 p.2.2.2.2.1 p.2.2.2.2.2,none⟩,⟨9,33,[.v (.pointer (some ⟨g,0,none⟩)),.id 5,.v (.pointer (some ⟨g,0,none⟩)),.id 6,.v (.pointer (some ⟨g,0,none⟩)),.id 7,.v (.pointer (some ⟨g,0,none⟩)),.id 8],none⟩]
    [0,0,0,0,3,30,0,0,0,0,0] [[],[],[],[],[2,3],rgn 5,rgn 6,rgn 7,rgn 7,rgn 8,[0,1,2,3,4,5,6,8]] [(0,.w (.c (.v (.pointer (some ⟨g,0,none⟩))))),(4,.w (.c (.ptr 0 0))),(5,.w (.c (.ptr 1 0)))]
    [48,49,50,51,52,53,47,54,55,11,13] [b1,b2] 11 (N+33) [] [] R4.out
    (fun b hM=>aA (aA (aA (aA (aA (aA (aA (aA (aA (aA (aA aH
      (aB b))
      (aD b 4 m0))
      (aB b))
      (aD b 4 m1))
      (aG b (c_fn (ix:=[]) (ts:=[2,3,4]) hM (fun ν=>iI (h2) (fun _=>s1 _) (fun _=>s2 _)))))
      (kR b m2 (c_fb (ix:=[0,1,2]) (ts:=[5,6,7,8]) hM (fun ν=>agP (su:=su) (sv:=sv) hw (p:=((pm0 p),(pm1 p),(pm2 p),p.1,p.2.1,p.2.2.1)) (h1) hS))))
      (aB b))
      (aB b))
      (aB b))
      (aB b))
      (aB b)) ?_
   intro n3 n4 n5 n6 n7 n8 n9 b10 ν W5 hR;replace hR:Run ⟨w,B,ns⟩ g (N+33) [((pm0 p),n3),((pm1 p),n4),((pm2 p),n5),((pm7 p),n6),((pm8 p),n7),((pm5 p),n8),((pm6 p),n9)] [(b1,.cells #[(.int .i64 2),(.float .f64 p.1),(.float .f64 p.2.1),(.float .f64 p.2.2.1)] 29),(b2,.cells #[(.int .i64 1),(.float .f64 p.2.2.2.1),(.float .f64 p.2.2.2.2.1),(.float .f64 p.2.2.2.2.2)] 29),(b10,.cells #[.pointer (some ⟨g,0,none⟩),.int .i64 ((n6:Nat):Int),.pointer (some ⟨g,0,none⟩),.int .i64 ((n7:Nat):Int),.pointer (some ⟨g,0,none⟩),.int .i64 ((n8:Nat):Int),.pointer (some ⟨g,0,none⟩),.int .i64 ((n9:Nat):Int)] 33)] W5:=hR;have R5:=hdd hR;clear hR R4;simp only[putL,bj1,bj4,fs0,fs1,fsn,dSw,dSt,dWc,dWa,dv,di,dp,ds',bj2,bj3,nuTn,nuT0,nuT1,nuU0,nuU1];have HF:Hid (PtsP w B ns g N 33 (.leaf p.2.2.2.1) (.leaf p.2.2.2.2.1) (.leaf p.2.2.2.2.2) p.1 p.2.1 p.2.2.1 (1) su sv (.returned (.tuple #[.slice (some ⟨b10,0,none⟩) 2 2,.bool false,.nilIface])) W5):=hdd ⟨fun h=>by omega,fun h=>by omega,fun h=>(of_decide_eq_false hw.1 (by have:=h.2;omega)).elim,fun _=>⟨[n6,n7,n8,n9],b10,rfl,rfl,_,(R5.out.sub (bX [2]) (by simp)).few (bX [3,4,5,6])⟩⟩
   clear R5;go_wp2;refine bodyPost_ret (v:=.tuple #[_,_,_]) (by simp[results,Tryz.results45,go_sem];exact⟨rfl,rfl,rfl⟩) rfl ?_;exact HF.out
theorem ao1(h1:dJ p.1 p.2.1 p.2.2.1)(h2:dC p.2.2.2.1 p.2.2.2.2.1 p.2.2.2.2.2)(s1:∀w,Calls Tryz.prog 108 #[.float .f64 p.2.2.2.1,.float .f64 0] w (RetV w (.int .i64 su)))(s2:∀w,Calls Tryz.prog 108 #[.float .f64 p.2.2.2.2.1,.float .f64 0] w (RetV w (.int .i64 sv)))(hS:bD PT (cutF (.leaf p.2.2.2.1) (.leaf p.2.2.2.2.1) (.leaf p.2.2.2.2.2) p.1 p.2.1 p.2.2.1) (-1)):FnOk 45 g 33 #[.pointer (some ⟨g,0,none⟩),curV 1 p.2.2.2.1 p.2.2.2.2.1 p.2.2.2.2.2,curV 2 p.1 p.2.1 p.2.2.1] [] (fun ks=>.tuple #[.slice none 0 0,.bool false,.nilIface]) []:=FnOk.of fun w B ns N hR hN=>(sP h1 h2 s1 s2 hS (Or.inl rfl) hR hN).mono fun _ _ h=>h.1 rfl
theorem amX(h1:dJ p.1 p.2.1 p.2.2.1)(h2:dC p.2.2.2.1 p.2.2.2.2.1 p.2.2.2.2.2)(s1:∀w,Calls Tryz.prog 108 #[.float .f64 p.2.2.2.1,.float .f64 0] w (RetV w (.int .i64 su)))(s2:∀w,Calls Tryz.prog 108 #[.float .f64 p.2.2.2.2.1,.float .f64 0] w (RetV w (.int .i64 sv)))(hS:bD PT (cutF (.leaf p.2.2.2.1) (.leaf p.2.2.2.2.1) (.leaf p.2.2.2.2.2) p.1 p.2.1 p.2.2.1) (0)):FnBk 45 g 33 #[.pointer (some ⟨g,0,none⟩),curV 1 p.2.2.2.1 p.2.2.2.2.1 p.2.2.2.2.2,curV 2 p.1 p.2.1 p.2.2.1] [] (fun ks b=>.tuple #[.slice (some ⟨b,0,none⟩) 1 1,.bool false,.nilIface]) [cutX (.leaf p.2.2.2.1) (.leaf p.2.2.2.2.1) (.leaf p.2.2.2.2.2) p.1 p.2.1,cutY (.leaf p.2.2.2.1) (.leaf p.2.2.2.2.1) (.leaf p.2.2.2.2.2) p.1 p.2.1] (fun ks=>.cells #[.pointer (some ⟨g,0,none⟩),.int .i64 ((ks.getD 0 0:Nat):Int),.pointer (some ⟨g,0,none⟩),.int .i64 ((ks.getD 1 0:Nat):Int)] 33):=FnBk.of fun w B ns N hR hN=>(sP h1 h2 s1 s2 hS (Or.inr (Or.inl rfl)) hR hN).mono fun _ _ h=>h.2.1 rfl
theorem amY(h1:dJ p.1 p.2.1 p.2.2.1)(h2:dC p.2.2.2.1 p.2.2.2.2.1 p.2.2.2.2.2)(s1:∀w,Calls Tryz.prog 108 #[.float .f64 p.2.2.2.1,.float .f64 0] w (RetV w (.int .i64 su)))(s2:∀w,Calls Tryz.prog 108 #[.float .f64 p.2.2.2.2.1,.float .f64 0] w (RetV w (.int .i64 1)))(hS:bD PT (cutF (.leaf p.2.2.2.1) (.leaf p.2.2.2.2.1) (.leaf p.2.2.2.2.2) p.1 p.2.1 p.2.2.1) (1)):FnBk 45 g 33 #[.pointer (some ⟨g,0,none⟩),curV 1 p.2.2.2.1 p.2.2.2.2.1 p.2.2.2.2.2,curV 2 p.1 p.2.1 p.2.2.1] [] (fun ks b=>.tuple #[.slice (some ⟨b,0,none⟩) 2 2,.bool false,.nilIface]) [gI (.leaf p.2.2.2.1) (.leaf p.2.2.2.2.1) (.leaf p.2.2.2.2.2) p.1 p.2.1 p.2.2.1,gJ (.leaf p.2.2.2.1) (.leaf p.2.2.2.2.1) (.leaf p.2.2.2.2.2) p.1 p.2.1 p.2.2.1,gK (.leaf p.2.2.2.1) (.leaf p.2.2.2.2.1) (.leaf p.2.2.2.2.2) p.1 p.2.1 p.2.2.1,gL (.leaf p.2.2.2.1) (.leaf p.2.2.2.2.1) (.leaf p.2.2.2.2.2) p.1 p.2.1 p.2.2.1] (fun ks=>.cells #[.pointer (some ⟨g,0,none⟩),.int .i64 ((ks.getD 0 0:Nat):Int),.pointer (some ⟨g,0,none⟩),.int .i64 ((ks.getD 1 0:Nat):Int),.pointer (some ⟨g,0,none⟩),.int .i64 ((ks.getD 2 0:Nat):Int),.pointer (some ⟨g,0,none⟩),.int .i64 ((ks.getD 3 0:Nat):Int)] 33):=FnBk.of fun w B ns N hR hN=>(sP h1 h2 s1 s2 hS (Or.inr (Or.inr ⟨rfl,Or.inl rfl⟩)) hR hN).mono fun _ _ h=>h.2.2.1 ⟨rfl,rfl⟩
theorem amZ(hw:SwOk su sv)(h1:dJ p.1 p.2.1 p.2.2.1)(h2:dC p.2.2.2.1 p.2.2.2.2.1 p.2.2.2.2.2)(s1:∀w,Calls Tryz.prog 108 #[.float .f64 p.2.2.2.1,.float .f64 0] w (RetV w (.int .i64 su)))(s2:∀w,Calls Tryz.prog 108 #[.float .f64 p.2.2.2.2.1,.float .f64 0] w (RetV w (.int .i64 sv)))(hS:bD PT (cutF (.leaf p.2.2.2.1) (.leaf p.2.2.2.2.1) (.leaf p.2.2.2.2.2) p.1 p.2.1 p.2.2.1) (1)):FnBk 45 g 33 #[.pointer (some ⟨g,0,none⟩),curV 1 p.2.2.2.1 p.2.2.2.2.1 p.2.2.2.2.2,curV 2 p.1 p.2.1 p.2.2.1] [] (fun ks b=>.tuple #[.slice (some ⟨b,0,none⟩) 2 2,.bool false,.nilIface]) [gK (.leaf p.2.2.2.1) (.leaf p.2.2.2.2.1) (.leaf p.2.2.2.2.2) p.1 p.2.1 p.2.2.1,gL (.leaf p.2.2.2.1) (.leaf p.2.2.2.2.1) (.leaf p.2.2.2.2.2) p.1 p.2.1 p.2.2.1,gI (.leaf p.2.2.2.1) (.leaf p.2.2.2.2.1) (.leaf p.2.2.2.2.2) p.1 p.2.1 p.2.2.1,gJ (.leaf p.2.2.2.1) (.leaf p.2.2.2.2.1) (.leaf p.2.2.2.2.2) p.1 p.2.1 p.2.2.1] (fun ks=>.cells #[.pointer (some ⟨g,0,none⟩),.int .i64 ((ks.getD 0 0:Nat):Int),.pointer (some ⟨g,0,none⟩),.int .i64 ((ks.getD 1 0:Nat):Int),.pointer (some ⟨g,0,none⟩),.int .i64 ((ks.getD 2 0:Nat):Int),.pointer (some ⟨g,0,none⟩),.int .i64 ((ks.getD 3 0:Nat):Int)] 33):=FnBk.of fun w B ns N hR hN=>(sP h1 h2 s1 s2 hS (Or.inr (Or.inr ⟨rfl,Or.inr hw⟩)) hR hN).mono fun _ _ h=>h.2.2.2 ⟨rfl,hw⟩
end Go.Proofs.YtjaafolhfihegaaGreatDoor
