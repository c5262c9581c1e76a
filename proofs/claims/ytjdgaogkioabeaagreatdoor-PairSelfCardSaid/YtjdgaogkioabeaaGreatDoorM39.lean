/- A part of the proof: contracts of functions and plain laws (QlLxClmV, FeCxClmV, QlNxClmV, MwAxClmV, LiBxClmV, TuCxClmV, QlVxClmV). -/
import Derived.Test.YtjdgaogkioabeaaGreatDoorM32
import Derived.Test.YtjdgaogkioabeaaGreatDoorM16
import Derived.Test.YtjdgaogkioabeaaGreatDoorM15
import Derived.Test.YtjdgaogkioabeaaGreatDoorM14
import Derived.Test.YtjdgaogkioabeaaGreatDoorM13
import Derived.Test.YtjdgaogkioabeaaGreatDoorM12
import Derived.Test.YtjdgaogkioabeaaGreatDoorM08
import Derived.Test.YtjdgaogkioabeaaGreatDoorM07
import Derived.Test.YtjdgaogkioabeaaGreatDoorM06
import Derived.Test.YtjdgaogkioabeaaGreatDoorM05
import Derived.Test.YtjdgaogkioabeaaGreatDoorM04
import Derived.Test.YtjdgaogkioabeaaGreatDoorM03
import Derived.Test.YtjdgaogkioabeaaGreatDoorM02
import Derived.Test.YtjdgaogkioabeaaGreatDoorM01
import Derived.Test.YtjdgaogkioabeaaGreatDoorM11
import Derived.Test.YtjdgaogkioabeaaGreatDoorM10
import Derived.Test.YtjdgaogkioabeaaGreatDoorM09
import Derived.Test.YtjdgaogkioabeaaGreatDoorM31
import Derived.Test.YtjdgaogkioabeaaGreatDoorM30
import Derived.Test.YtjdgaogkioabeaaGreatDoorM29
import Derived.Test.YtjdgaogkioabeaaGreatDoorM28
import Derived.Test.YtjdgaogkioabeaaGreatDoorM27
import Derived.Test.YtjdgaogkioabeaaGreatDoorM24
import Derived.Test.YtjdgaogkioabeaaGreatDoorM23
import Derived.Test.YtjdgaogkioabeaaGreatDoorM21
import Derived.Test.YtjdgaogkioabeaaGreatDoorM20
import Derived.Test.YtjdgaogkioabeaaGreatDoorM22
import Derived.Test.YtjdgaogkioabeaaGreatDoorM26
import Derived.Test.YtjdgaogkioabeaaGreatDoorM25
import Derived.Test.YtjdgaogkioabeaaGreatDoorM38
import Derived.Test.YtjdgaogkioabeaaGreatDoorM19
import Derived.Test.YtjdgaogkioabeaaGreatDoorM18
import Derived.WalkKit
import Derived.Laws.NewFold
import Derived.IntWalk
set_option linter.unusedVariables false
set_option linter.unusedSimpArgs false
set_option maxHeartbeats 25600000
set_option maxRecDepth 100000
namespace Go.Proofs.YtjdgaogkioabeaaGreatDoor
open Go.RowKit Go.Maps
open Re (rat ofI ofN)
abbrev lL(p q s t:Nat):Ex:=.sub (.mul (.leaf p) (.leaf q)) (.mul (.leaf s) (.leaf t))
end Go.Proofs.YtjdgaogkioabeaaGreatDoor
namespace Go.Proofs.YtjdgaogkioabeaaGreatDoor
open Go.RowKit Go.Maps Ieee
theorem afT(s:Bool)(m k:Nat):signed (!s) m k=-signed s m k:=by
 rw[fO,fO];cases s<;>simp
theorem anF{x y:Nat}(hx:fin x)(hy:fin y):∃r,double.sub x y=some r/\r<2^64/\Near r (fv x-fv y) 1074:=by
 obtain⟨m,p,e1,p1,v1⟩:=fG hx;obtain⟨n,q,e2,q1,v2⟩:=fG hy;have hp:=iH v1;have hq:=iH v2;have h:double.sub x y=some (double.nearest (if signed (fneg x) m (p-min p q).toNat+signed (!fneg y) n (q-min p q).toNat=0 then fneg x&& !fneg y else signed (fneg x) m (p-min p q).toNat+signed (!fneg y) n (q-min p q).toNat<0) (signed (fneg x) m (p-min p q).toNat+signed (!fneg y) n (q-min p q).toNat).natAbs (min p q)):=by
  unfold Format.sub;rw[e1,e2];rfl
 refine⟨_,h,double.sub_lt h,?_⟩;refine gI _ _ _ 1074 (by omega) (by omega) _ ?_;have s1:signed (fneg x) m (p-min p q).toNat*(2^(min p q+1074).toNat:Nat)=fv x:=by
  rw[gH,fO,hp];have:(p-min p q).toNat+(min p q+1074).toNat=(p+1074).toNat:=by omega
  rw[this]
 have s2:signed (!fneg y) n (q-min p q).toNat*(2^(min p q+1074).toNat:Nat)=-fv y:=by
  rw[gH,afT,fO,hq];have:(q-min p q).toNat+(min p q+1074).toNat=(q+1074).toNat:=by omega
  rw[this]
 rw[Int.sub_eq_add_neg,<-s1,<-s2,<-Int.add_mul];generalize signed (fneg x) m (p-min p q).toNat+signed (!fneg y) n (q-min p q).toNat=T;have e:(min p q+(1074:Nat):Int).toNat=(min p q+1074).toNat:=rfl;rw[e];generalize (2^(min p q+1074).toNat:Nat)=M;by_cases h0:T=0
 . subst h0;simp
 . rw[if_neg h0]
   by_cases h1:T<0
   . rw[if_pos (by simpa using h1)]
     rw[Int.natCast_mul,<-Int.neg_mul];congr 1;omega
   . rw[if_neg (by simpa using h1)]
     rw[Int.natCast_mul];congr 1;omega
section
variable{x y:Nat}{a b:Int}
theorem apE(hx:Iw x a)(hy:Iw y b)(h:(a-b).natAbs<2^53):∃r,double.sub x y=some r/\Iw r (a-b):=by
 obtain⟨f1,v1⟩:=sJ hx;obtain⟨f2,v2⟩:=sJ hy;obtain⟨r,h1,h2,hn⟩:=anF f1 f2;obtain⟨h3,h4⟩:=hn.exact (abO (1074-0) h (by omega)) (by
  rw[v1,v2,<-Int.sub_mul,show(2^(1074-1074):Nat)=1 by decide];omega)
 exact⟨r,h1,am0 h2 h3 h4⟩
theorem aq3(hx:Iw x a)(hy:Iw y b)(h:(a-b).natAbs<2^53):∃r,Op2 .sub x y r/\Iw r (a-b):=by
 obtain⟨r,h1,h2⟩:=apE hx hy h;exact⟨r,fun w=>run_float_arith w .sub 30 .f64 x y r h1,h2⟩
theorem oW(hx:Iw x a)(hy:Iw y b)(h:(a*b).natAbs<2^53):∃r,Op2 .mul x y r/\Iw r (a*b):=by
 obtain⟨f1,v1⟩:=sJ hx;obtain⟨f2,v2⟩:=sJ hy;obtain⟨r,h1,h2,h3,h4⟩:=ajG (i:=0) (j:=0) f1 f2 (by omega) (by omega) (by omega) v1 v2 h;exact⟨r,fun w=>run_float_arith w .mul 30 .f64 x y r h1,am0 h2 h3 (by rw[h4,Nat.add_zero])⟩
end
end Go.Proofs.YtjdgaogkioabeaaGreatDoor
namespace Go.Proofs.YtjdgaogkioabeaaGreatDoor
open Go.RowKit Go.Maps
open Re (rat ofI ofN)
variable{m:Nat}
theorem nab{x y:Int}{n:Nat}(h:x.natAbs<=m)(g:y.natAbs<=n):(x*y).natAbs<=m*n:=by rw[Int.natAbs_mul];exact Nat.mul_le_mul h g
theorem nadd{x y:Int}{n:Nat}(h:x.natAbs<=m)(g:y.natAbs<=n):(x+y).natAbs<=m+n:=Nat.le_trans (Int.natAbs_add_le x y) (Nat.add_le_add h g)
section
variable{u v w a b c se sn:Sh}{U V W:Ex}{A B C:Nat}{p q r x y e n z:Rat}
end
section
variable(a b u v s:Rat)
end
end Go.Proofs.YtjdgaogkioabeaaGreatDoor
namespace Go.Proofs.YtjdgaogkioabeaaGreatDoor
open Go.RowKit Go.Maps Go.Stop Go.Extern
theorem nsub{x y:Int}{m n:Nat}(h:x.natAbs<=m)(g:y.natAbs<=n):(x-y).natAbs<=m+n:=by omega
theorem apF{b:Nat}{T:Int}(h:Iw b T):Iw (b ^^^ 2^63) (-T):=by
 obtain⟨h1,h2,h3⟩:=nD h.1.1;refine⟨⟨h1,by unfold fin;rw[h2];exact h.1.2⟩,?_⟩;unfold fv;rw[h3,uR,Int.neg_mul];exact congrArg (- ·) h.2
theorem anG(b:Nat)(w:World):(Op.unary UnOp.neg (.float .f64 b)).run Tryz.prog w=.ok (.float .f64 (b ^^^ 2^63)) w:=by kernel_rfl
end Go.Proofs.YtjdgaogkioabeaaGreatDoor
namespace Go.Proofs.YtjdgaogkioabeaaGreatDoor
open Go.RowKit Go.Maps
theorem ajH{w:World}{a b c a' b' c':Nat}(h:iJ a b c)(h':iJ a' b' c'):Calls Tryz.prog 70 #[curV 1 a b c,curV 1 a' b' c'] w (RetV w .nilIface):=by
 obtain⟨w2,hw2,hb2,hs2,b1,b2⟩:=pro2 w (curO 1 a b c) (curO 1 a' b' c');obtain⟨c0,c1,c2,c3⟩:=aG b1;obtain⟨d0,d1,d2,d3⟩:=aG b2;have HB:=hdd hb2;have H1:Hid (∀w,Calls Tryz.prog 42 #[curV 1 a b c] w (RetV w .nilIface)):=hdd fun w=>aa3 h;have H2:Hid (∀w,Calls Tryz.prog 42 #[curV 1 a' b' c'] w (RetV w .nilIface)):=hdd fun w=>aa3 h';clear hb2 hs2 b1 b2 h h';go_enter Tryz.func70,Tryz.ntmps70
 go_wp2_with fail
 refine(H1.out _).mono ?_;rintro e w3⟨rfl,hb⟩;have HB3:=hdd (HB.out.trans (hb.mono HB.out.size));replace d0:=cbl d0 hb;replace d1:=cbl d1 hb;replace d2:=cbl d2 hb;replace d3:=cbl d3 hb;clear hb c0 c1 c2 c3 hw2;go_wp2_with fail
 refine(H2.out _).mono ?_;rintro e w4⟨rfl,hb⟩;have HB4:=hdd (HB3.out.trans (hb.mono HB3.out.size));clear hb;go_wp2;go_ret;exact⟨rfl,HB4.out⟩
end Go.Proofs.YtjdgaogkioabeaaGreatDoor
namespace Go.Proofs.YtjdgaogkioabeaaGreatDoor
open Go.RowKit Go.Maps Go.Stop Go.Extern
variable{g i j k l wa wb wc:Nat}{W:World}
def pX(g:Nat)(av:Value)(K0:List (Ex×Nat))(ok:Bool):Prop:=
 ∀(s:Bs) (N:Nat) (K:List (Ex×Nat)) (l:List (Nat×Obj)) (W:World),Run s g N K l W->N+20<=20000->(∀p∈K0,p∈K)->
  Calls Tryz.prog 14 #[.pointer (some ⟨g,0,none⟩),av] W (fun e W'=>∃r,e=.returned r/\(ok=true->r=.nilIface)/\(ok=false->∃t x,r=.iface t x)/\Run s g (N+20) K l W')
theorem ErK.shape {S:Nat->Prop}{w:World}{n:Nat}{v:Value}{k:Int}(h:ErK S w n v k):∃t x,v=.iface t x:=by cases h<;>exact⟨_,_,rfl⟩
theorem apG{ca cb cc:Nat}{K0:List (Ex×Nat)}(ha:ca<18446744073709551616)(hb:cb<18446744073709551616)(hc:cc<18446744073709551616)(h:¬iJ ca cb cc):pX g (arcW g 1 ca cb cc i j k l) K0 false:=by
 intro s N K ls W hR hN hK;obtain⟨w1,hw1,hb1,hs1,b1⟩:=pro1 W (.cells #[.int .i64 1,.float .f64 ca,.float .f64 cb,.float .f64 cc,.pointer (some ⟨g,0,none⟩),.int .i64 (i:Int),.pointer (some ⟨g,0,none⟩),.int .i64 (j:Int),.pointer (some ⟨g,0,none⟩),.int .i64 (k:Int),.pointer (some ⟨g,0,none⟩),.int .i64 (l:Int)] 38);have c0:=aA (k:=0) (v:=.int .i64 1) b1 rfl;have c1:=aA (k:=1) (v:=.float .f64 ca) b1 rfl;have c2:=aA (k:=2) (v:=.float .f64 cb) b1 rfl;have c3:=aA (k:=3) (v:=.float .f64 cc) b1 rfl;have HB:=hdd hb1;have HR:=hdd hR;have hN':=hdd hN;have HL:=hdd (yM (w:=w1) ha hb hc h);clear ha hb hc h hb1 hs1 b1 hR hN hK;go_enter Tryz.func14,Tryz.ntmps14
 go_wp2_with fail
 refine HL.out.mono ?_;rintro e w2⟨er,n,rfl,-,hk,hb2⟩;obtain⟨t,x,rfl⟩:=hk.shape;have HB2:=hdd (aC HB.out hb2);clear hk hb2 HL HB c0 c1 c2 c3 hw1;go_wp2_with fail
 refine(ad8 (t:=t) (x:=x)).mono ?_;rintro e w3⟨t2,x2,rfl,hb3⟩;have HF:=hdd ((HR.out.step (aC HB2.out hb3)).more (show N<=N+20 by omega));clear hb3 HB2 HR;go_wp2;go_ret;exact⟨_,rfl,fun h=>by simp at h,fun _=>⟨_,_,rfl⟩,HF.out⟩
theorem ad9:Calls Tryz.prog 15 #[arcW g 2 wa wb wc i j k l] W (RetV W (arcW g 2 wa wb wc i j k l)):=by
 obtain⟨w1,hw1,hb1,hs1,b1,b2⟩:=pro2 W (.cells #[.int .i64 2,.float .f64 wa,.float .f64 wb,.float .f64 wc,.pointer (some ⟨g,0,none⟩),.int .i64 (i:Int),.pointer (some ⟨g,0,none⟩),.int .i64 (j:Int),.pointer (some ⟨g,0,none⟩),.int .i64 (k:Int),.pointer (some ⟨g,0,none⟩),.int .i64 (l:Int)] 38) (.cells #[.int .i64 0,.float .f64 0,.float .f64 0,.float .f64 0,.pointer none,.int .i64 0,.pointer none,.int .i64 0,.pointer none,.int .i64 0,.pointer none,.int .i64 0] 38);have x0:=aA (k:=0) (v:=.int .i64 2) b1 rfl;have x1:=aA (k:=1) (v:=.float .f64 wa) b1 rfl;have x2:=aA (k:=2) (v:=.float .f64 wb) b1 rfl;have x3:=aA (k:=3) (v:=.float .f64 wc) b1 rfl;have x4:=aA (k:=4) (v:=.pointer (some ⟨g,0,none⟩)) b1 rfl;have x5:=aA (k:=5) (v:=.int .i64 (i:Int)) b1 rfl;have x6:=aA (k:=6) (v:=.pointer (some ⟨g,0,none⟩)) b1 rfl;have x7:=aA (k:=7) (v:=.int .i64 (j:Int)) b1 rfl;have x8:=aA (k:=8) (v:=.pointer (some ⟨g,0,none⟩)) b1 rfl;have x9:=aA (k:=9) (v:=.int .i64 (k:Int)) b1 rfl;have x10:=aA (k:=10) (v:=.pointer (some ⟨g,0,none⟩)) b1 rfl;have x11:=aA (k:=11) (v:=.int .i64 (l:Int)) b1 rfl
 have y0:=aA (k:=0) (v:=.int .i64 0) b2 rfl;have y1:=aA (k:=1) (v:=.float .f64 0) b2 rfl;have y2:=aA (k:=2) (v:=.float .f64 0) b2 rfl;have y3:=aA (k:=3) (v:=.float .f64 0) b2 rfl;have y4:=aA (k:=4) (v:=.pointer none) b2 rfl;have y5:=aA (k:=5) (v:=.int .i64 0) b2 rfl;have y6:=aA (k:=6) (v:=.pointer none) b2 rfl;have y7:=aA (k:=7) (v:=.int .i64 0) b2 rfl;have y8:=aA (k:=8) (v:=.pointer none) b2 rfl;have y9:=aA (k:=9) (v:=.int .i64 0) b2 rfl;have y10:=aA (k:=10) (v:=.pointer none) b2 rfl;have y11:=aA (k:=11) (v:=.int .i64 0) b2 rfl;have z2:=gZ b2;have z1:=gZ b1;have B1:=hdd b1;have B2:=hdd b2;have HB:=hdd hb1;clear b1 b2 hb1 hs1;have hst:=aL;go_enter Tryz.func15,Tryz.ntmps15
 go_wp2_with fail
 obtain⟨w5,hw5⟩:∃v,fC w1 (W.heap.size+1) 0 [.int .i64 2,.float .f64 wa,.float .f64 wb,.float .f64 wc,.pointer (some ⟨g,0,none⟩),.int .i64 (i:Int),.pointer (some ⟨g,0,none⟩),.int .i64 (j:Int),.pointer (some ⟨g,0,none⟩),.int .i64 (k:Int),.pointer (some ⟨g,0,none⟩),.int .i64 (l:Int)]=v:=⟨_,rfl⟩;have gw5:=dQ (b:=W.heap.size+1) [.int .i64 2,.float .f64 wa,.float .f64 wb,.float .f64 wc,.pointer (some ⟨g,0,none⟩),.int .i64 (i:Int),.pointer (some ⟨g,0,none⟩),.int .i64 (j:Int),.pointer (some ⟨g,0,none⟩),.int .i64 (k:Int),.pointer (some ⟨g,0,none⟩),.int .i64 (l:Int)] 0 w1;have sw5:=iN (vs:=[.int .i64 2,.float .f64 wa,.float .f64 wb,.float .f64 wc,.pointer (some ⟨g,0,none⟩),.int .i64 (i:Int),.pointer (some ⟨g,0,none⟩),.int .i64 (j:Int),.pointer (some ⟨g,0,none⟩),.int .i64 (k:Int),.pointer (some ⟨g,0,none⟩),.int .i64 (l:Int)]) B2.out rfl;rw[hw5]at gw5 sw5;have HF:=hdd (HB.out.trans (Below.of_grown gw5 HB.out.size (Nat.le_succ _)));have F:=hdd sw5;simp only[fC]at hw5;clear x0 x1 x2 x3 x4 x5 x6 x7 x8 x9 x10 x11 y0 y1 y2 y3 y4 y5 y6 y7 y8 y9 y10 y11 z2 gw5 sw5
 simp only[hw5];clear hw5;have x0:=aA (k:=0) (v:=.int .i64 2) F.out rfl;have x1:=aA (k:=1) (v:=.float .f64 wa) F.out rfl;have x2:=aA (k:=2) (v:=.float .f64 wb) F.out rfl;have x3:=aA (k:=3) (v:=.float .f64 wc) F.out rfl;have x4:=aA (k:=4) (v:=.pointer (some ⟨g,0,none⟩)) F.out rfl;have x5:=aA (k:=5) (v:=.int .i64 (i:Int)) F.out rfl;have x6:=aA (k:=6) (v:=.pointer (some ⟨g,0,none⟩)) F.out rfl;have x7:=aA (k:=7) (v:=.int .i64 (j:Int)) F.out rfl;have x8:=aA (k:=8) (v:=.pointer (some ⟨g,0,none⟩)) F.out rfl;have x9:=aA (k:=9) (v:=.int .i64 (k:Int)) F.out rfl;have x10:=aA (k:=10) (v:=.pointer (some ⟨g,0,none⟩)) F.out rfl;have x11:=aA (k:=11) (v:=.int .i64 (l:Int)) F.out rfl;go_wp2;refine bodyPost_ret (v:=.agg #[_,_,_,_,_,_,_,_,_,_,_,_]) (by simp[results,Tryz.results15,go_sem,x0,x1,x2,x3,x4,x5,x6,x7,x8,x9,x10,x11];first|exact⟨rfl,rfl,rfl,rfl,rfl,rfl,rfl,rfl,rfl,rfl,rfl,rfl⟩|rfl) rfl ?_;exact⟨rfl,HF.out⟩
theorem aeA:Calls Tryz.prog 15 #[arcW g 1 wa wb wc i j k l] W (RetV W (arcW g 1 wa wb wc k l i j)):=by
 obtain⟨w1,hw1,hb1,hs1,b1,b2⟩:=pro2 W (.cells #[.int .i64 1,.float .f64 wa,.float .f64 wb,.float .f64 wc,.pointer (some ⟨g,0,none⟩),.int .i64 (i:Int),.pointer (some ⟨g,0,none⟩),.int .i64 (j:Int),.pointer (some ⟨g,0,none⟩),.int .i64 (k:Int),.pointer (some ⟨g,0,none⟩),.int .i64 (l:Int)] 38) (.cells #[.int .i64 0,.float .f64 0,.float .f64 0,.float .f64 0,.pointer none,.int .i64 0,.pointer none,.int .i64 0,.pointer none,.int .i64 0,.pointer none,.int .i64 0] 38);have x0:=aA (k:=0) (v:=.int .i64 1) b1 rfl;have x1:=aA (k:=1) (v:=.float .f64 wa) b1 rfl;have x2:=aA (k:=2) (v:=.float .f64 wb) b1 rfl;have x3:=aA (k:=3) (v:=.float .f64 wc) b1 rfl;have x4:=aA (k:=4) (v:=.pointer (some ⟨g,0,none⟩)) b1 rfl;have x5:=aA (k:=5) (v:=.int .i64 (i:Int)) b1 rfl;have x6:=aA (k:=6) (v:=.pointer (some ⟨g,0,none⟩)) b1 rfl;have x7:=aA (k:=7) (v:=.int .i64 (j:Int)) b1 rfl;have x8:=aA (k:=8) (v:=.pointer (some ⟨g,0,none⟩)) b1 rfl;have x9:=aA (k:=9) (v:=.int .i64 (k:Int)) b1 rfl;have x10:=aA (k:=10) (v:=.pointer (some ⟨g,0,none⟩)) b1 rfl;have x11:=aA (k:=11) (v:=.int .i64 (l:Int)) b1 rfl
 have y0:=aA (k:=0) (v:=.int .i64 0) b2 rfl;have y1:=aA (k:=1) (v:=.float .f64 0) b2 rfl;have y2:=aA (k:=2) (v:=.float .f64 0) b2 rfl;have y3:=aA (k:=3) (v:=.float .f64 0) b2 rfl;have y4:=aA (k:=4) (v:=.pointer none) b2 rfl;have y5:=aA (k:=5) (v:=.int .i64 0) b2 rfl;have y6:=aA (k:=6) (v:=.pointer none) b2 rfl;have y7:=aA (k:=7) (v:=.int .i64 0) b2 rfl;have y8:=aA (k:=8) (v:=.pointer none) b2 rfl;have y9:=aA (k:=9) (v:=.int .i64 0) b2 rfl;have y10:=aA (k:=10) (v:=.pointer none) b2 rfl;have y11:=aA (k:=11) (v:=.int .i64 0) b2 rfl;have z2:=gZ b2;have z1:=gZ b1;have B1:=hdd b1;have B2:=hdd b2;have HB:=hdd hb1;clear b1 b2 hb1 hs1;have hst:=aL;go_enter Tryz.func15,Tryz.ntmps15
 go_upto_region 3 with fail
 obtain⟨w2,hw2⟩:∃v,fC w1 (W.heap.size) 4 [.pointer (some ⟨g,0,none⟩),.int .i64 (k:Int),.pointer (some ⟨g,0,none⟩),.int .i64 (l:Int),.pointer (some ⟨g,0,none⟩),.int .i64 (i:Int),.pointer (some ⟨g,0,none⟩),.int .i64 (j:Int)]=v:=⟨_,rfl⟩;have gw2:=dQ (b:=W.heap.size) [.pointer (some ⟨g,0,none⟩),.int .i64 (k:Int),.pointer (some ⟨g,0,none⟩),.int .i64 (l:Int),.pointer (some ⟨g,0,none⟩),.int .i64 (i:Int),.pointer (some ⟨g,0,none⟩),.int .i64 (j:Int)] 4 w1;have sw2:(fC w1 (W.heap.size) 4 [.pointer (some ⟨g,0,none⟩),.int .i64 (k:Int),.pointer (some ⟨g,0,none⟩),.int .i64 (l:Int),.pointer (some ⟨g,0,none⟩),.int .i64 (i:Int),.pointer (some ⟨g,0,none⟩),.int .i64 (j:Int)]).heap[W.heap.size]? =some (.cells #[.int .i64 1,.float .f64 wa,.float .f64 wb,.float .f64 wc,.pointer (some ⟨g,0,none⟩),.int .i64 (k:Int),.pointer (some ⟨g,0,none⟩),.int .i64 (l:Int),.pointer (some ⟨g,0,none⟩),.int .i64 (i:Int),.pointer (some ⟨g,0,none⟩),.int .i64 (j:Int)] 38):=sK [.pointer (some ⟨g,0,none⟩),.int .i64 (k:Int),.pointer (some ⟨g,0,none⟩),.int .i64 (l:Int),.pointer (some ⟨g,0,none⟩),.int .i64 (i:Int),.pointer (some ⟨g,0,none⟩),.int .i64 (j:Int)] [.int .i64 1,.float .f64 wa,.float .f64 wb,.float .f64 wc] _ _ B1.out rfl
 rw[hw2]at gw2 sw2;have B3:=hdd sw2;have B4:=hdd ((gw2.block (W.heap.size+1) (aH B2.out) (by simp)).trans B2.out);have HB2:=hdd (HB.out.trans (Below.of_grown gw2 HB.out.size nlr));simp only[fC]at hw2;clear x0 x1 x2 x3 x4 x5 x6 x7 x8 x9 x10 x11 y0 y1 y2 y3 y4 y5 y6 y7 y8 y9 y10 y11 z1 z2 gw2 sw2 B1 B2 HB hw1;simp only[hw2];clear hw2;have x0:=aA (k:=0) (v:=.int .i64 1) B3.out rfl;have x1:=aA (k:=1) (v:=.float .f64 wa) B3.out rfl;have x2:=aA (k:=2) (v:=.float .f64 wb) B3.out rfl;have x3:=aA (k:=3) (v:=.float .f64 wc) B3.out rfl;have x4:=aA (k:=4) (v:=.pointer (some ⟨g,0,none⟩)) B3.out rfl;have x5:=aA (k:=5) (v:=.int .i64 (k:Int)) B3.out rfl;have x6:=aA (k:=6) (v:=.pointer (some ⟨g,0,none⟩)) B3.out rfl;have x7:=aA (k:=7) (v:=.int .i64 (l:Int)) B3.out rfl;have x8:=aA (k:=8) (v:=.pointer (some ⟨g,0,none⟩)) B3.out rfl;have x9:=aA (k:=9) (v:=.int .i64 (i:Int)) B3.out rfl;have x10:=aA (k:=10) (v:=.pointer (some ⟨g,0,none⟩)) B3.out rfl;have x11:=aA (k:=11) (v:=.int .i64 (j:Int)) B3.out rfl
 have y0:=aA (k:=0) (v:=.int .i64 0) B4.out rfl;have y1:=aA (k:=1) (v:=.float .f64 0) B4.out rfl;have y2:=aA (k:=2) (v:=.float .f64 0) B4.out rfl;have y3:=aA (k:=3) (v:=.float .f64 0) B4.out rfl;have y4:=aA (k:=4) (v:=.pointer none) B4.out rfl;have y5:=aA (k:=5) (v:=.int .i64 0) B4.out rfl;have y6:=aA (k:=6) (v:=.pointer none) B4.out rfl;have y7:=aA (k:=7) (v:=.int .i64 0) B4.out rfl;have y8:=aA (k:=8) (v:=.pointer none) B4.out rfl;have y9:=aA (k:=9) (v:=.int .i64 0) B4.out rfl;have y10:=aA (k:=10) (v:=.pointer none) B4.out rfl;have y11:=aA (k:=11) (v:=.int .i64 0) B4.out rfl;have z2:=gZ B4.out;go_wp2_with fail
 obtain⟨w5,hw5⟩:∃v,fC w2 (W.heap.size+1) 0 [.int .i64 1,.float .f64 wa,.float .f64 wb,.float .f64 wc,.pointer (some ⟨g,0,none⟩),.int .i64 (k:Int),.pointer (some ⟨g,0,none⟩),.int .i64 (l:Int),.pointer (some ⟨g,0,none⟩),.int .i64 (i:Int),.pointer (some ⟨g,0,none⟩),.int .i64 (j:Int)]=v:=⟨_,rfl⟩;have gw5:=dQ (b:=W.heap.size+1) [.int .i64 1,.float .f64 wa,.float .f64 wb,.float .f64 wc,.pointer (some ⟨g,0,none⟩),.int .i64 (k:Int),.pointer (some ⟨g,0,none⟩),.int .i64 (l:Int),.pointer (some ⟨g,0,none⟩),.int .i64 (i:Int),.pointer (some ⟨g,0,none⟩),.int .i64 (j:Int)] 0 w2;have sw5:=iN (vs:=[.int .i64 1,.float .f64 wa,.float .f64 wb,.float .f64 wc,.pointer (some ⟨g,0,none⟩),.int .i64 (k:Int),.pointer (some ⟨g,0,none⟩),.int .i64 (l:Int),.pointer (some ⟨g,0,none⟩),.int .i64 (i:Int),.pointer (some ⟨g,0,none⟩),.int .i64 (j:Int)]) B4.out rfl;rw[hw5]at gw5 sw5;have HF:=hdd (HB2.out.trans (Below.of_grown gw5 HB2.out.size (Nat.le_succ _)));have F:=hdd sw5;simp only[fC]at hw5;clear x0 x1 x2 x3 x4 x5 x6 x7 x8 x9 x10 x11 y0 y1 y2 y3 y4 y5 y6 y7 y8 y9 y10 y11 z2 gw5 sw5
 simp only[hw5];clear hw5;have x0:=aA (k:=0) (v:=.int .i64 1) F.out rfl;have x1:=aA (k:=1) (v:=.float .f64 wa) F.out rfl;have x2:=aA (k:=2) (v:=.float .f64 wb) F.out rfl;have x3:=aA (k:=3) (v:=.float .f64 wc) F.out rfl;have x4:=aA (k:=4) (v:=.pointer (some ⟨g,0,none⟩)) F.out rfl;have x5:=aA (k:=5) (v:=.int .i64 (k:Int)) F.out rfl;have x6:=aA (k:=6) (v:=.pointer (some ⟨g,0,none⟩)) F.out rfl;have x7:=aA (k:=7) (v:=.int .i64 (l:Int)) F.out rfl;have x8:=aA (k:=8) (v:=.pointer (some ⟨g,0,none⟩)) F.out rfl;have x9:=aA (k:=9) (v:=.int .i64 (i:Int)) F.out rfl;have x10:=aA (k:=10) (v:=.pointer (some ⟨g,0,none⟩)) F.out rfl;have x11:=aA (k:=11) (v:=.int .i64 (j:Int)) F.out rfl;go_wp2;refine bodyPost_ret (v:=.agg #[_,_,_,_,_,_,_,_,_,_,_,_]) (by simp[results,Tryz.results15,go_sem,x0,x1,x2,x3,x4,x5,x6,x7,x8,x9,x10,x11];first|exact⟨rfl,rfl,rfl,rfl,rfl,rfl,rfl,rfl,rfl,rfl,rfl,rfl⟩|rfl) rfl ?_;exact⟨rfl,HF.out⟩
end Go.Proofs.YtjdgaogkioabeaaGreatDoor
namespace Go.Proofs.YtjdgaogkioabeaaGreatDoor
open Go.RowKit Go.Maps
theorem tmb(k:Int)(n:Nat)(h:0<n):(k.tmod (n:Int)).natAbs<=n-1:=by
 have h1:=Int.lt_tmod_of_pos k (show(0:Int)<(n:Int) by omega);have h2:=Int.tmod_lt_of_pos k (show(0:Int)<(n:Int) by omega);omega
theorem aq4:Iw 4627730092099895296 25:=ahB
end Go.Proofs.YtjdgaogkioabeaaGreatDoor
