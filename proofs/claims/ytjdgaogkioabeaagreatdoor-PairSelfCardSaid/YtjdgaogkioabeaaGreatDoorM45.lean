/- A part of the proof: contracts of functions and plain laws (MkCxClmV, MkExClmV). -/
import Derived.Test.YtjdgaogkioabeaaGreatDoorM40
import Derived.Test.YtjdgaogkioabeaaGreatDoorM32
import Derived.Test.YtjdgaogkioabeaaGreatDoorM20
import Derived.Test.YtjdgaogkioabeaaGreatDoorM19
import Derived.Test.YtjdgaogkioabeaaGreatDoorM18
import Derived.Test.YtjdgaogkioabeaaGreatDoorM38
import Derived.Test.YtjdgaogkioabeaaGreatDoorM16
import Derived.Test.YtjdgaogkioabeaaGreatDoorM01
import Derived.Test.YtjdgaogkioabeaaGreatDoorM12
import Derived.Test.YtjdgaogkioabeaaGreatDoorM07
import Derived.Test.YtjdgaogkioabeaaGreatDoorM06
import Derived.Test.YtjdgaogkioabeaaGreatDoorM05
import Derived.Test.YtjdgaogkioabeaaGreatDoorM04
import Derived.Test.YtjdgaogkioabeaaGreatDoorM03
import Derived.Test.YtjdgaogkioabeaaGreatDoorM02
import Derived.Test.YtjdgaogkioabeaaGreatDoorM39
import Derived.Test.YtjdgaogkioabeaaGreatDoorM11
import Derived.Test.YtjdgaogkioabeaaGreatDoorM10
import Derived.Test.YtjdgaogkioabeaaGreatDoorM08
import Derived.Test.YtjdgaogkioabeaaGreatDoorM09
import Derived.Test.YtjdgaogkioabeaaGreatDoorM15
import Derived.Test.YtjdgaogkioabeaaGreatDoorM14
import Derived.Test.YtjdgaogkioabeaaGreatDoorM13
import Derived.Test.YtjdgaogkioabeaaGreatDoorM31
import Derived.Test.YtjdgaogkioabeaaGreatDoorM30
import Derived.Test.YtjdgaogkioabeaaGreatDoorM29
import Derived.Test.YtjdgaogkioabeaaGreatDoorM28
import Derived.Test.YtjdgaogkioabeaaGreatDoorM27
import Derived.Test.YtjdgaogkioabeaaGreatDoorM24
import Derived.Test.YtjdgaogkioabeaaGreatDoorM23
import Derived.Test.YtjdgaogkioabeaaGreatDoorM21
import Derived.Test.YtjdgaogkioabeaaGreatDoorM22
import Derived.Test.YtjdgaogkioabeaaGreatDoorM26
import Derived.Test.YtjdgaogkioabeaaGreatDoorM25
import Derived.Test.YtjdgaogkioabeaaGreatDoorM44
set_option linter.unusedVariables false
set_option linter.unusedSimpArgs false
set_option maxHeartbeats 25600000
set_option maxRecDepth 100000
namespace Go.Proofs.YtjdgaogkioabeaaGreatDoor
open Go.RowKit Go.Maps Go.Stop Go.Extern
open List renaming mem_cons_of_mem->blB,nodup_cons->blD,mem_cons->blE
open Nat renaming le_add_right->blC
variable{r:Bool}{I Kk U V X Y kd oo:Int}{K:List (Ex×Nat)}{l ln:List (Nat×Obj)}{N P0 Q1 bb g n p0 p1 q0 q1 wa wb wc wx wy:Nat}{O:Obj}{W:World}
theorem anI{s:Bs}(hR:Run s g N K ((bb,O)::(ln++l)) W)(hB:BrdB bb n ln O)(hN:N+4<=20000)(hn:n<900)(hM:aeC X Y U V I Kk wx wy r kd wa wb wc p0 p1 q0 q1)(hO:aeD oo p0 q1 P0 Q1)(f0:FlOk P0)(f1:FlOk p1)(f2:FlOk q0)(f3:FlOk Q1)(hr:r=true):
 Calls Tryz.prog 9 #[ahJ r X Y U V I Kk oo,.pointer (some ⟨g,0,none⟩),.pointer (some ⟨bb,0,none⟩)] W (fun e W'=>∃(i j k m:Nat) (O':Obj) (ln':List (Nat×Obj)),e=.returned (.tuple #[arcW g kd wa wb wc i j k m,refW kd wa wb wc n])/\BrdB bb (n+4) ln' O'/\Run s g (N+4) ((.leaf P0,i)::(.leaf p1,j)::(.leaf q0,k)::(.leaf Q1,m)::K) ((bb,O')::(ln'++l)) W'):=by
 obtain⟨w3,hw3,hb3,hs3,b1,b2,b3⟩:=pro3 W (aeB r X Y U V I Kk oo) (.cells #[.int .i64 0,.float .f64 0,.float .f64 0,.float .f64 0,.pointer none,.int .i64 0,.pointer none,.int .i64 0,.pointer none,.int .i64 0,.pointer none,.int .i64 0] 38) (.cells #[.int .i64 0,.float .f64 0,.float .f64 0,.float .f64 0,.int .i64 0,.int .i64 0,.int .i64 0,.int .i64 0] 42);have C1:∀k v,[.bool r,.int .i64 X,.int .i64 Y,.int .i64 U,.int .i64 V,.int .i64 I,.int .i64 Kk,.int .i64 oo][k]? =some v->w3.cell? ⟨W.heap.size,k,none⟩=some v:=fun k v h=>aA b1 h;have c0:=C1 0 _ rfl;have c1:=C1 1 _ rfl;have c2:=C1 2 _ rfl;have c3:=C1 3 _ rfl;have c4:=C1 4 _ rfl;have c5:=C1 5 _ rfl;have c6:=C1 6 _ rfl;have c7:=C1 7 _ rfl;have HR:=hdd hR;have HB:=hdd hB;have HB3:=hdd hb3;have B1:=hdd b1;have B2:=hdd b2;have B3:=hdd b3;have FF:=hdd (And.intro f0 (And.intro f1 (And.intro f2 f3)));obtain⟨hx,hy,hM⟩:=hM;obtain⟨o,ho,hO⟩:=hO;have HO:=hdd hO;have HM:=hdd hM;replace hr:=hdd hr;clear hR hB hb3 b1 b2 b3 C1 f0 f1 f2 f3 hM hO;have hst:=aL
 go_enter Tryz.func9,Tryz.ntmps9
 go_wp2_with fail
 go_quiet (fail)
 obtain⟨v3,hv3⟩:∃v,w3.drewN nq=v:=⟨_,rfl⟩;have hx':floatOfInt FloatKind.f64 (X.tmod 7)=wx:=hx;have hy':floatOfInt FloatKind.f64 (Y.tmod 7)=wy:=hy;simp only[hv3,hx',hy'];have hh:v3.heap=w3.heap:=by rw[<-hv3];rfl
 have D1:=B1.out;have D2:=B2.out;have D3:=B3.out;rw[<-hh]at D1 D2 D3;replace D1:=hdd D1;replace D2:=hdd D2;replace D3:=hdd D3;have HV:Hid (Below W.heap.size W v3):=hdd (by rw[<-hv3];exact⟨HB3.out.os,HB3.out.tape,HB3.out.output,HB3.out.size,HB3.out.block⟩);have hvs:v3.heap.size=W.heap.size+3:=by rw[hh];exact hs3
 clear hh hw3 hs3 c0 c1 c2 c3 c4 c5 c6 c7 hv3 hx hy hx' hy' B1 B2 B3 HB3;clear nq;obtain⟨w5,hw5,hb5,hs5,b4,b5⟩:=pro2 v3 (curO 0 0 0 0) (.cells #[.float .f64 0,.float .f64 0,.float .f64 0,.float .f64 0] 68);rw[hvs]at b4 b5;have E1:=hdd (hbl D1.out hb5);have E2:=hdd (hbl D2.out hb5);have E3:=hdd (hbl D3.out hb5);have E4:=hdd b4;have E5:=hdd b5;have H5:=hdd (aC HV.out hb5);have C1:∀k v,[.bool r,.int .i64 X,.int .i64 Y,.int .i64 U,.int .i64 V,.int .i64 I,.int .i64 Kk,.int .i64 oo][k]? =some v->w5.cell? ⟨W.heap.size,k,none⟩=some v:=fun k v h=>aA E1.out h;have c0:=C1 0 _ rfl;have c1:=C1 1 _ rfl;have c2:=C1 2 _ rfl;have c3:=C1 3 _ rfl;have c4:=C1 4 _ rfl;have c5:=C1 5 _ rfl;have c6:=C1 6 _ rfl;have c7:=C1 7 _ rfl;obtain⟨d0,d1,d2,d3⟩:=aG b4;obtain⟨e0,e1,e2,e3⟩:=kK b4;clear D1 D2 D3 HV hb5 b4 b5 C1 w3;rcases HM.out with ⟨rfl,hk,hwa,hwb,hwc,J,L,hJ,hI,hL,hK,a1,a2,a3,a4⟩|⟨rfl,hk,wu,ws,wt,zz1,zz2,a1,a2,b1,b2,hu,hv,hwb,n1,n2,n3,hs,ht,o1,o2,o3,o4,o5,o6,o7,o8⟩
 rotate_left
 . exact absurd hr.out (by decide)
 clear hr;clear HM;have CI:=hdd (fun w=>oV (w:=w) hJ hI);have CK:=hdd (fun w=>oV (w:=w) hL hK);clear hI hK;go_wp2_with fail
 obtain⟨w6,hw6,hb6,q1,q2⟩:=xY (a:=.int .i64 2) (b:=.float .f64 wx) (c:=.float .f64 wy) (d:=.float .f64 4627730092099895296) H5.out (blC _ 3) E4.out;simp only[hw6];have G1:=hdd ((q2 (W.heap.size) (by omega)).trans E1.out);have G2:=hdd ((q2 (W.heap.size+1) (by omega)).trans E2.out);have G3:=hdd ((q2 (W.heap.size+2) (by omega)).trans E3.out);have G5:=hdd ((q2 (W.heap.size+4) (by omega)).trans E5.out);have G4:=hdd q1;have H6:=hdd hb6;clear c0 c1 c2 c3 c4 c5 c6 c7 d0 d1 d2 d3 e0 e1 e2 e3 E1 E2 E3 E4 E5 H5 hb6 q1 q2 hw6;have hix0:=ixp0 I Kk;have hix1:=ixp1 I Kk;refine wp_loop_rounds 3 ?_;rw[rounds_succ];go_wp2_with fail
 refine(CI.out _).mono ?_;rintro e w7⟨rfl,hb7⟩;have I1:=hdd (hbl G1.out hb7);have I2:=hdd (hbl G2.out hb7);have I3:=hdd (hbl G3.out hb7);have I4:=hdd (hbl G4.out hb7);have I5:=hdd (hbl G5.out hb7);have H7:=hdd (H6.out.trans (hb7.mono H6.out.size));obtain⟨d0,d1,d2,d3⟩:=aG I5.out;obtain⟨e0,e1,e2,e3⟩:=kK I5.out;clear G1 G2 G3 G4 G5 H6 hb7 CI;go_wp2_with (simp only[a1,a2])
 obtain⟨w8,hw8,hb8,r1,r2⟩:=afO (a:=.float .f64 p0) (b:=.float .f64 p1) H7.out (show W.heap.size<=W.heap.size+3+1 by omega) I5.out;simp only[hw8];have G1:=hdd ((r2 (W.heap.size) (by omega)).trans I1.out);have G2:=hdd ((r2 (W.heap.size+1) (by omega)).trans I2.out);have G3:=hdd ((r2 (W.heap.size+2) (by omega)).trans I3.out);have G4:=hdd ((r2 (W.heap.size+3) (by omega)).trans I4.out);have G5:=hdd r1;have H8:=hdd hb8;clear d0 d1 d2 d3 e0 e1 e2 e3 I1 I2 I3 I4 I5 H7 hb8 r1 r2 hw8;rw[rounds_succ];go_wp2_with fail
 refine(CK.out _).mono ?_;rintro e w9⟨rfl,hb9⟩;have I1:=hdd (hbl G1.out hb9);have I2:=hdd (hbl G2.out hb9);have I3:=hdd (hbl G3.out hb9);have I4:=hdd (hbl G4.out hb9);have I5:=hdd (hbl G5.out hb9);have H9:=hdd (H8.out.trans (hb9.mono H8.out.size));obtain⟨d0,d1,d2,d3⟩:=aG I5.out;obtain⟨e0,e1,e2,e3⟩:=kK I5.out;clear G1 G2 G3 G4 G5 H8 hb9 CK;go_wp2_with (simp only[a3,a4])
 obtain⟨wz,hwz,hbz,r1,r2⟩:=afP (a:=.float .f64 q0) (b:=.float .f64 q1) H9.out (show W.heap.size<=W.heap.size+3+1 by omega) I5.out;simp only[hwz];have G1:=hdd ((r2 (W.heap.size) (by omega)).trans I1.out);have G2:=hdd ((r2 (W.heap.size+1) (by omega)).trans I2.out);have G3:=hdd ((r2 (W.heap.size+2) (by omega)).trans I3.out);have G4:=hdd ((r2 (W.heap.size+3) (by omega)).trans I4.out);have G5:=hdd r1;have HA:=hdd hbz;clear d0 d1 d2 d3 e0 e1 e2 e3 I1 I2 I3 I4 I5 H9 hbz r1 r2 hwz;replace G4:Hid (wz.heap[W.heap.size+3]? =some (curO kd wa wb wc)):=hdd (by rw[hk,hwa,hwb,hwc];exact G4.out);clear a1 a2 a3 a4 hJ hL hk hwa hwb hwc;have c7:=aA (k:=7) (v:=.int .i64 oo) G1.out rfl;rcases HO.out with ⟨k1,k2,k3,rfl⟩|⟨k1,k2,rfl,k3⟩|⟨k1,k2,rfl,rfl⟩;have e0:=aA (k:=0) (v:=.float .f64 p0) G5.out rfl;have z5:=gZ G5.out;rw[rounds_succ];go_wp2_with (simp only[ho,k1,k2,k3])
 obtain⟨wv,hwv,hbv,r1,r2⟩:=vI (k:=0) (a:=.float .f64 P0) HA.out (show W.heap.size<=W.heap.size+3+1 by omega) (cs:=[.float .f64 p0,.float .f64 p1,.float .f64 q0,.float .f64 Q1]) G5.out;simp only[hwv];have J1:=hdd ((r2 (W.heap.size) (by omega)).trans G1.out);have J2:=hdd ((r2 (W.heap.size+1) (by omega)).trans G2.out);have J3:=hdd ((r2 (W.heap.size+2) (by omega)).trans G3.out);have J4:=hdd ((r2 (W.heap.size+3) (by omega)).trans G4.out);have J5:=hdd r1;have HC:=hdd hbv;clear e0 z5 G1 G2 G3 G4 G5 HA r1 r2 hbv hwv
 rotate_left
 have e3:=aA (k:=3) (v:=.float .f64 q1) G5.out rfl;have z5:=gZ G5.out;rw[rounds_succ];go_wp2_with (simp only[ho,k1,k2,k3])
 obtain⟨wv,hwv,hbv,r1,r2⟩:=vI (k:=3) (a:=.float .f64 Q1) HA.out (show W.heap.size<=W.heap.size+3+1 by omega) (cs:=[.float .f64 P0,.float .f64 p1,.float .f64 q0,.float .f64 q1]) G5.out;simp only[hwv];have J1:=hdd ((r2 (W.heap.size) (by omega)).trans G1.out);have J2:=hdd ((r2 (W.heap.size+1) (by omega)).trans G2.out);have J3:=hdd ((r2 (W.heap.size+2) (by omega)).trans G3.out);have J4:=hdd ((r2 (W.heap.size+3) (by omega)).trans G4.out);have J5:=hdd r1;have HC:=hdd hbv;clear e3 z5 G1 G2 G3 G4 G5 HA r1 r2 hbv hwv
 rotate_left
 rw[rounds_succ];go_wp2_with (simp only[ho,k1,k2])
 have J1:=G1;have J2:=G2;have J3:=G3;have J4:=G4;have J5:=G5;have HC:=HA;clear G1 G2 G3 G4 G5 HA;generalize wz=wv at c7 J1 J2 J3 J4 J5 HC|-
 all_goals (
  clear c7 k1 k2 ho;have HD:Below W.heap.size W wv.drew:=⟨HC.out.os,HC.out.tape,HC.out.output,HC.out.size,HC.out.block⟩;have R0:=hdd ((HR.out.keeps HD [(W.heap.size+1,.cells #[.int .i64 0,.float .f64 0,.float .f64 0,.float .f64 0,.pointer none,.int .i64 0,.pointer none,.int .i64 0,.pointer none,.int .i64 0,.pointer none,.int .i64 0] 38),(W.heap.size+2,.cells #[.int .i64 0,.float .f64 0,.float .f64 0,.float .f64 0,.int .i64 0,.int .i64 0,.int .i64 0,.int .i64 0] 42),(W.heap.size+3,curO kd wa wb wc),(W.heap.size+4,.cells #[.float .f64 P0,.float .f64 p1,.float .f64 q0,.float .f64 Q1] 68)] (by
   intro p hp;simp only[blE,List.not_mem_nil,or_false]at hp;rcases hp with rfl|rfl|rfl|rfl
   . exact⟨J2.out,blC _ _⟩
   . exact⟨J3.out,blC _ _⟩
   . exact⟨J4.out,blC _ _⟩
   . exact⟨J5.out,blC _ _⟩) (by simp)).perm xA)
  have SP1:=hdd (R0.out.spot (by omega) FF.out.1.1 FF.out.2.1.1 FF.out.1.2 FF.out.2.1.2);have Q4:=R0.out.at (m_lb m2);have Q5:=R0.out.at (m_lb m3);have d0:=aA (k:=0) (v:=.int .i64 kd) Q4 rfl;have d1:=aA (k:=1) (v:=.float .f64 wa) Q4 rfl;have d2:=aA (k:=2) (v:=.float .f64 wb) Q4 rfl;have d3:=aA (k:=3) (v:=.float .f64 wc) Q4 rfl;have e0:=aA (k:=0) (v:=.float .f64 P0) Q5 rfl;have e1:=aA (k:=1) (v:=.float .f64 p1) Q5 rfl;have e2:=aA (k:=2) (v:=.float .f64 q0) Q5 rfl;have e3:=aA (k:=3) (v:=.float .f64 Q1) Q5 rfl;clear Q4 Q5 HD
  go_region_held3 (fun w'=>w'.cell? ⟨W.heap.size+3,0,none⟩=some (.int .i64 kd)/\w'.cell? ⟨W.heap.size+3,1,none⟩=some (.float .f64 wa)/\w'.cell? ⟨W.heap.size+3,2,none⟩=some (.float .f64 wb)/\w'.cell? ⟨W.heap.size+3,3,none⟩=some (.float .f64 wc)/\w'.cell? ⟨W.heap.size+3+1,0,none⟩=some (.float .f64 P0)/\w'.cell? ⟨W.heap.size+3+1,1,none⟩=some (.float .f64 p1)/\w'.cell? ⟨W.heap.size+3+1,2,none⟩=some (.float .f64 q0)/\w'.cell? ⟨W.heap.size+3+1,3,none⟩=some (.float .f64 Q1)) (go_keep)
   (first
   |(go_at_call 11
     with_reducible refine SP1.out.mono ?_
     rintro e w1⟨i,j,rfl,hr⟩;have R1:=hdd hr;have Q4:=R1.out.at (m_lb m2);have Q5:=R1.out.at (m_lb m3);have d0:=aA (k:=0) (v:=.int .i64 kd) Q4 rfl;have d1:=aA (k:=1) (v:=.float .f64 wa) Q4 rfl;have d2:=aA (k:=2) (v:=.float .f64 wb) Q4 rfl;have d3:=aA (k:=3) (v:=.float .f64 wc) Q4 rfl;have e0:=aA (k:=0) (v:=.float .f64 P0) Q5 rfl;have e1:=aA (k:=1) (v:=.float .f64 p1) Q5 rfl;have e2:=aA (k:=2) (v:=.float .f64 q0) Q5 rfl;have e3:=aA (k:=3) (v:=.float .f64 Q1) Q5 rfl;have SP2:=hdd (R1.out.spot (by omega) FF.out.2.2.1.1 FF.out.2.2.2.1 FF.out.2.2.1.2 FF.out.2.2.2.2);clear Q4 Q5 hr)
   |(go_at_call 11
     with_reducible refine SP2.out.mono ?_
     rintro e w2⟨k,m,rfl,hr⟩;have R2:=hdd hr;have Q4:=R2.out.at (m_lb m2);have Q5:=R2.out.at (m_lb m3);have d0:=aA (k:=0) (v:=.int .i64 kd) Q4 rfl;have d1:=aA (k:=1) (v:=.float .f64 wa) Q4 rfl;have d2:=aA (k:=2) (v:=.float .f64 wb) Q4 rfl;have d3:=aA (k:=3) (v:=.float .f64 wc) Q4 rfl;have e0:=aA (k:=0) (v:=.float .f64 P0) Q5 rfl;have e1:=aA (k:=1) (v:=.float .f64 p1) Q5 rfl;have e2:=aA (k:=2) (v:=.float .f64 q0) Q5 rfl;have e3:=aA (k:=3) (v:=.float .f64 Q1) Q5 rfl;have BA1:=hdd (R2.out.brd_at (x:=P0) (y:=p1) HB.out (by omega));clear Q4 Q5 hr)
   |(go_at_call 18
     with_reducible refine BA1.out.mono ?_
     rintro e w4⟨rfl,O1,ln1,hB1,hr⟩;have R3:=hdd hr;have Q4:=R3.out.at (m_lb m2);have Q5:=R3.out.at (m_lb m3);have d0:=aA (k:=0) (v:=.int .i64 kd) Q4 rfl;have d1:=aA (k:=1) (v:=.float .f64 wa) Q4 rfl;have d2:=aA (k:=2) (v:=.float .f64 wb) Q4 rfl;have d3:=aA (k:=3) (v:=.float .f64 wc) Q4 rfl;have e0:=aA (k:=0) (v:=.float .f64 P0) Q5 rfl;have e1:=aA (k:=1) (v:=.float .f64 p1) Q5 rfl;have e2:=aA (k:=2) (v:=.float .f64 q0) Q5 rfl;have e3:=aA (k:=3) (v:=.float .f64 Q1) Q5 rfl;have BA2:=hdd (R3.out.brd_at (x:=q0) (y:=Q1) hB1 (by omega));clear Q4 Q5 hr)
   |(go_at_call 18
     with_reducible refine BA2.out.mono ?_
     rintro e w5⟨rfl,O2,ln2,hB2,hr⟩;have R4:=hdd hr;have Q4:=R4.out.at (m_lb m2);have Q5:=R4.out.at (m_lb m3);have d0:=aA (k:=0) (v:=.int .i64 kd) Q4 rfl;have d1:=aA (k:=1) (v:=.float .f64 wa) Q4 rfl;have d2:=aA (k:=2) (v:=.float .f64 wb) Q4 rfl;have d3:=aA (k:=3) (v:=.float .f64 wc) Q4 rfl;have e0:=aA (k:=0) (v:=.float .f64 P0) Q5 rfl;have e1:=aA (k:=1) (v:=.float .f64 p1) Q5 rfl;have e2:=aA (k:=2) (v:=.float .f64 q0) Q5 rfl;have e3:=aA (k:=3) (v:=.float .f64 Q1) Q5 rfl;have Q6:=R4.out.at (m_lb m0);have Q7:=R4.out.at (m_lb m1);have B4:=hdd hB2;have x0:=aA (k:=0) (v:=.int .i64 0) Q6 rfl;have x1:=aA (k:=1) (v:=.float .f64 0) Q6 rfl;have x2:=aA (k:=2) (v:=.float .f64 0) Q6 rfl;have x3:=aA (k:=3) (v:=.float .f64 0) Q6 rfl;have x4:=aA (k:=4) (v:=.pointer none) Q6 rfl;have x5:=aA (k:=5) (v:=.int .i64 0) Q6 rfl;have x6:=aA (k:=6) (v:=.pointer none) Q6 rfl;have x7:=aA (k:=7) (v:=.int .i64 0) Q6 rfl;have x8:=aA (k:=8) (v:=.pointer none) Q6 rfl;have x9:=aA (k:=9) (v:=.int .i64 0) Q6 rfl;have x10:=aA (k:=10) (v:=.pointer none) Q6 rfl;have x11:=aA (k:=11) (v:=.int .i64 0) Q6 rfl;have y0:=aA (k:=0) (v:=.int .i64 0) Q7 rfl;have y1:=aA (k:=1) (v:=.float .f64 0) Q7 rfl;have y2:=aA (k:=2) (v:=.float .f64 0) Q7 rfl;have y3:=aA (k:=3) (v:=.float .f64 0) Q7 rfl;have y4:=aA (k:=4) (v:=.int .i64 0) Q7 rfl;have y5:=aA (k:=5) (v:=.int .i64 0) Q7 rfl;have y6:=aA (k:=6) (v:=.int .i64 0) Q7 rfl;have y7:=aA (k:=7) (v:=.int .i64 0) Q7 rfl
     have z6:=gZ Q6;have z7:=gZ Q7;have P6:=hdd Q6;have P7:=hdd Q7;clear Q6 Q7;clear Q4 Q5 hr))
  obtain⟨w6,hw6⟩:∃v,fC w5 (W.heap.size+1) 0 [(.int .i64 kd),(.float .f64 wa),(.float .f64 wb),(.float .f64 wc),(.pointer (some ⟨g,0,none⟩)),(.int .i64 (i:Int)),(.pointer (some ⟨g,0,none⟩)),(.int .i64 (j:Int)),(.pointer (some ⟨g,0,none⟩)),(.int .i64 (k:Int)),(.pointer (some ⟨g,0,none⟩)),(.int .i64 (m:Int))]=v:=⟨_,rfl⟩;obtain⟨w7,hw7⟩:∃v,fC w6 (W.heap.size+1+1) 0 [(.int .i64 kd),(.float .f64 wa),(.float .f64 wb),(.float .f64 wc),(.int .i64 (n:Int)),(.int .i64 ((n:Int)+1)),(.int .i64 ((n:Int)+2)),(.int .i64 ((n:Int)+2+1))]=v:=⟨_,rfl⟩;have g6:=dQ (b:=W.heap.size+1) [(.int .i64 kd),(.float .f64 wa),(.float .f64 wb),(.float .f64 wc),(.pointer (some ⟨g,0,none⟩)),(.int .i64 (i:Int)),(.pointer (some ⟨g,0,none⟩)),(.int .i64 (j:Int)),(.pointer (some ⟨g,0,none⟩)),(.int .i64 (k:Int)),(.pointer (some ⟨g,0,none⟩)),(.int .i64 (m:Int))] 0 w5;have g7:=dQ (b:=W.heap.size+1+1) [(.int .i64 kd),(.float .f64 wa),(.float .f64 wb),(.float .f64 wc),(.int .i64 (n:Int)),(.int .i64 ((n:Int)+1)),(.int .i64 ((n:Int)+2)),(.int .i64 ((n:Int)+2+1))] 0 w6
  have s6:=iN (vs:=[(.int .i64 kd),(.float .f64 wa),(.float .f64 wb),(.float .f64 wc),(.pointer (some ⟨g,0,none⟩)),(.int .i64 (i:Int)),(.pointer (some ⟨g,0,none⟩)),(.int .i64 (j:Int)),(.pointer (some ⟨g,0,none⟩)),(.int .i64 (k:Int)),(.pointer (some ⟨g,0,none⟩)),(.int .i64 (m:Int))]) P6.out rfl;rw[hw6]at g6 s6;rw[hw7]at g7;have s7:=iN (vs:=[(.int .i64 kd),(.float .f64 wa),(.float .f64 wb),(.float .f64 wc),(.int .i64 (n:Int)),(.int .i64 ((n:Int)+1)),(.int .i64 ((n:Int)+2)),(.int .i64 ((n:Int)+2+1))]) ((g6.block (W.heap.size+1+1) (aH P7.out) (by simp)).trans P7.out) rfl;rw[hw7]at s7;have s6':=(g7.block (W.heap.size+1) (aH s6) (by simp)).trans s6;unfold fC at hw6 hw7;simp only[fC]at hw6 hw7;clear x0 x1 x2 x3 x4 x5 x6 x7 x8 x9 x10 x11 y0 y1 y2 y3 y4 y5 y6 y7 z6 z7 d0 d1 d2 d3 e0 e1 e2 e3;simp only[hw6,hw7];have RF:=hdd ((((R4.out.perm xA.symm).write g6 s6).perm (List.Perm.swap _ _ _)).write g7 s7);have HF:Hid (Run s g (N+4) ((.leaf P0,i)::(.leaf p1,j)::(.leaf q0,k)::(.leaf Q1,m)::K) ((bb,O2)::(ln2++l)) w7):=hdd ((RF.out.sub (fun p hp=>blB _ (blB _ (blB _ (blB _ hp)))) (by
   have h:=RF.out.nodup;rw[List.map_cons]at h;have h:=(blD.1 (blD.1 (blD.1 (blD.1 h).2).2).2).2;exact h)).few fun p hp=>by
    simp only[blE]at hp|-;rcases hp with rfl|rfl|rfl|rfl|h
    . simp
    . simp
    . simp
    . simp
    . simp[h])
  have x0:=aA (k:=0) (v:=.int .i64 kd) s6' rfl;have x1:=aA (k:=1) (v:=.float .f64 wa) s6' rfl;have x2:=aA (k:=2) (v:=.float .f64 wb) s6' rfl;have x3:=aA (k:=3) (v:=.float .f64 wc) s6' rfl;have x4:=aA (k:=4) (v:=.pointer (some ⟨g,0,none⟩)) s6' rfl;have x5:=aA (k:=5) (v:=.int .i64 (i:Int)) s6' rfl;have x6:=aA (k:=6) (v:=.pointer (some ⟨g,0,none⟩)) s6' rfl;have x7:=aA (k:=7) (v:=.int .i64 (j:Int)) s6' rfl;have x8:=aA (k:=8) (v:=.pointer (some ⟨g,0,none⟩)) s6' rfl;have x9:=aA (k:=9) (v:=.int .i64 (k:Int)) s6' rfl;have x10:=aA (k:=10) (v:=.pointer (some ⟨g,0,none⟩)) s6' rfl;have x11:=aA (k:=11) (v:=.int .i64 (m:Int)) s6' rfl;have y0:=aA (k:=0) (v:=.int .i64 kd) s7 rfl;have y1:=aA (k:=1) (v:=.float .f64 wa) s7 rfl;have y2:=aA (k:=2) (v:=.float .f64 wb) s7 rfl;have y3:=aA (k:=3) (v:=.float .f64 wc) s7 rfl;have y4:=aA (k:=4) (v:=.int .i64 (n:Int)) s7 rfl;have y5:=aA (k:=5) (v:=.int .i64 ((n:Int)+1)) s7 rfl;have y6:=aA (k:=6) (v:=.int .i64 ((n:Int)+2)) s7 rfl;have y7:=aA (k:=7) (v:=.int .i64 ((n:Int)+2+1)) s7 rfl
  clear g6 g7 s6 s6' s7 RF hw6 hw7;go_wp2;refine bodyPost_ret (v:=.tuple #[.agg #[_,_,_,_,_,_,_,_,_,_,_,_],.agg #[_,_,_,_,_,_,_,_]]) (by simp[results,Tryz.results9,go_sem,x0,x1,x2,x3,x4,x5,x6,x7,x8,x9,x10,x11,y0,y1,y2,y3,y4,y5,y6,y7];first|exact⟨⟨rfl,rfl,rfl,rfl,rfl,rfl,rfl,rfl,rfl,rfl,rfl,rfl⟩,⟨rfl,rfl,rfl,rfl,rfl,rfl,rfl,rfl⟩⟩|rfl) rfl ?_;exact⟨i,j,k,m,O2,ln2,rfl,B4.out,HF.out⟩
  )
theorem anJ{s:Bs}(hR:Run s g N K ((bb,O)::(ln++l)) W)(hB:BrdB bb n ln O)(hN:N+4<=20000)(hn:n<900)(hM:aeC X Y U V I Kk wx wy r kd wa wb wc p0 p1 q0 q1)(hO:aeD oo p0 q1 P0 Q1)(f0:FlOk P0)(f1:FlOk p1)(f2:FlOk q0)(f3:FlOk Q1):
 Calls Tryz.prog 9 #[ahJ r X Y U V I Kk oo,.pointer (some ⟨g,0,none⟩),.pointer (some ⟨bb,0,none⟩)] W (fun e W'=>∃(i j k m:Nat) (O':Obj) (ln':List (Nat×Obj)),e=.returned (.tuple #[arcW g kd wa wb wc i j k m,refW kd wa wb wc n])/\BrdB bb (n+4) ln' O'/\Run s g (N+4) ((.leaf P0,i)::(.leaf p1,j)::(.leaf q0,k)::(.leaf Q1,m)::K) ((bb,O')::(ln'++l)) W'):=by
 cases h:r
 . subst h;exact anH hR hB hN hn hM hO f0 f1 f2 f3 rfl
 . subst h;exact anI hR hB hN hn hM hO f0 f1 f2 f3 rfl
end Go.Proofs.YtjdgaogkioabeaaGreatDoor
