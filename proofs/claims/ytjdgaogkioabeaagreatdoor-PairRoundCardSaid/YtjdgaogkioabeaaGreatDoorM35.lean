/- A part of the proof: contracts of functions and plain laws (SnAxClmU, MkAxClmU, PrRxClmU, QlWxClmU). -/
import Derived.Test.YtjdgaogkioabeaaGreatDoorM18
import Derived.Test.YtjdgaogkioabeaaGreatDoorM17
import Derived.Test.YtjdgaogkioabeaaGreatDoorM16
import Derived.Test.YtjdgaogkioabeaaGreatDoorM01
import Derived.Test.YtjdgaogkioabeaaGreatDoorM12
import Derived.Test.YtjdgaogkioabeaaGreatDoorM07
import Derived.Test.YtjdgaogkioabeaaGreatDoorM06
import Derived.Test.YtjdgaogkioabeaaGreatDoorM05
import Derived.Test.YtjdgaogkioabeaaGreatDoorM04
import Derived.Test.YtjdgaogkioabeaaGreatDoorM03
import Derived.Test.YtjdgaogkioabeaaGreatDoorM02
import Derived.Test.YtjdgaogkioabeaaGreatDoorM15
import Derived.Test.YtjdgaogkioabeaaGreatDoorM14
import Derived.Test.YtjdgaogkioabeaaGreatDoorM13
import Derived.Test.YtjdgaogkioabeaaGreatDoorM08
import Derived.Test.YtjdgaogkioabeaaGreatDoorM11
import Derived.Test.YtjdgaogkioabeaaGreatDoorM10
import Derived.Test.YtjdgaogkioabeaaGreatDoorM09
import Derived.Test.YtjdgaogkioabeaaGreatDoorM19
import Derived.Test.YtjdgaogkioabeaaGreatDoorM32
import Derived.Test.YtjdgaogkioabeaaGreatDoorM20
import Derived.Test.YtjdgaogkioabeaaGreatDoorM31
import Derived.Test.YtjdgaogkioabeaaGreatDoorM30
import Derived.Test.YtjdgaogkioabeaaGreatDoorM29
import Derived.Test.YtjdgaogkioabeaaGreatDoorM28
import Derived.Test.YtjdgaogkioabeaaGreatDoorM27
import Derived.Test.YtjdgaogkioabeaaGreatDoorM24
import Derived.Test.YtjdgaogkioabeaaGreatDoorM23
import Derived.Test.YtjdgaogkioabeaaGreatDoorM21
import Derived.Test.YtjdgaogkioabeaaGreatDoorM22
import Derived.Test.YtjdgaogkioabeaaGreatDoorM26
import Derived.Test.YtjdgaogkioabeaaGreatDoorM25
import Derived.Test.YtjdgaogkioabeaaGreatDoorM34
import Derived.Test.YtjdgaogkioabeaaGreatDoorM33
set_option linter.unusedVariables false
set_option linter.unusedSimpArgs false
set_option maxHeartbeats 25600000
set_option maxRecDepth 100000
namespace Go.Proofs.YtjdgaogkioabeaaGreatDoor
open Go.RowKit Go.Maps
abbrev arcV(g a b c i j k l:Nat):Value:=.agg #[.int .i64 2,.float .f64 a,.float .f64 b,.float .f64 c,.pointer (some ⟨g,0,none⟩),.int .i64 ((i:Nat):Int),.pointer (some ⟨g,0,none⟩),.int .i64 ((j:Nat):Int),.pointer (some ⟨g,0,none⟩),.int .i64 ((k:Nat):Int),.pointer (some ⟨g,0,none⟩),.int .i64 ((l:Nat):Int)]
section
variable{g a b c i j k l i' j' k' l' i'' j'' k'' l'':Nat}{ν:Nat->Nat}
end
end Go.Proofs.YtjdgaogkioabeaaGreatDoor
namespace Go.Proofs.YtjdgaogkioabeaaGreatDoor
open Go.RowKit Go.Maps Go.Stop Go.Extern
open List renaming mem_cons_of_mem->bj9,nodup_cons->bkB,mem_cons->bkC
open Nat renaming le_add_right->bkA
abbrev aV(x y u v i k:Int):Value:=.agg #[.bool true,.int .i64 x,.int .i64 y,.int .i64 u,.int .i64 v,.int .i64 i,.int .i64 k,.int .i64 0]
abbrev aO(x y u v i k:Int):Obj:=.cells #[.bool true,.int .i64 x,.int .i64 y,.int .i64 u,.int .i64 v,.int .i64 i,.int .i64 k,.int .i64 0] 45
abbrev arcR(a b n:Nat):Value:=.agg #[.int .i64 2,.float .f64 a,.float .f64 b,.float .f64 4627730092099895296,.int .i64 (n:Int),.int .i64 ((n:Int)+1),.int .i64 ((n:Int)+2),.int .i64 ((n:Int)+2+1)]
theorem yD{s:Bs}{g N bb n J L:Nat}{K:List (Ex×Nat)}{l ln:List (Nat×Obj)}{W:World}{O:Obj}{X Y U V I Kk:Int}{wx wy p0 p1 q0 q1:Nat}(hR:Run s g N K ((bb,O)::(ln++l)) W)(hB:BrdB bb n ln O)(hN:N+4<=20000)(hn:n<900)(hJ:J<12)(hI:(I.tmod 12+12).tmod 12=(J:Int))(hL:L<12)(hK:(Kk.tmod 12+12).tmod 12=(L:Int))
 (hx:fl (X.tmod 7)=wx) (hy:fl (Y.tmod 7)=wy) (a1:Op2 .add wx (kX J) p0) (a2:Op2 .add wy (kY J) p1) (a3:Op2 .add wx (kX L) q0) (a4:Op2 .add wy (kY L) q1) (f0:FlOk p0) (f1:FlOk p1) (f2:FlOk q0) (f3:FlOk q1):
 Calls Tryz.prog 9 #[aV X Y U V I Kk,.pointer (some ⟨g,0,none⟩),.pointer (some ⟨bb,0,none⟩)] W (fun e W'=>∃(i j k m:Nat) (O':Obj) (ln':List (Nat×Obj)),e=.returned (.tuple #[arcV g wx wy 4627730092099895296 i j k m,arcR wx wy n])/\BrdB bb (n+4) ln' O'/\Run s g (N+4) ((.leaf p0,i)::(.leaf p1,j)::(.leaf q0,k)::(.leaf q1,m)::K) ((bb,O')::(ln'++l)) W'):=by
 obtain⟨w3,hw3,hb3,hs3,b1,b2,b3⟩:=pro3 W (aO X Y U V I Kk) (.cells #[.int .i64 0,.float .f64 0,.float .f64 0,.float .f64 0,.pointer none,.int .i64 0,.pointer none,.int .i64 0,.pointer none,.int .i64 0,.pointer none,.int .i64 0] 38) (.cells #[.int .i64 0,.float .f64 0,.float .f64 0,.float .f64 0,.int .i64 0,.int .i64 0,.int .i64 0,.int .i64 0] 42);have C1:∀k v,[.bool true,.int .i64 X,.int .i64 Y,.int .i64 U,.int .i64 V,.int .i64 I,.int .i64 Kk,.int .i64 0][k]? =some v->w3.cell? ⟨W.heap.size,k,none⟩=some v:=fun k v h=>aA b1 h;have c0:=C1 0 _ rfl;have c1:=C1 1 _ rfl;have c2:=C1 2 _ rfl;have c5:=C1 5 _ rfl;have c6:=C1 6 _ rfl;have c7:=C1 7 _ rfl;have HR:=hdd hR;have HB:=hdd hB;have HB3:=hdd hb3;have B1:=hdd b1;have B2:=hdd b2;have B3:=hdd b3;have CI:=hdd (fun w=>oV (w:=w) hJ hI);have CK:=hdd (fun w=>oV (w:=w) hL hK);have FF:=hdd (And.intro f0 (And.intro f1 (And.intro f2 f3)));clear hR hB hb3 b1 b2 b3 C1 hI hK f0 f1 f2 f3;have hst:=aL;go_enter Tryz.func9,Tryz.ntmps9
 go_wp2_with fail
 go_quiet (fail)
 obtain⟨v3,hv3⟩:∃v,w3.drewN nq=v:=⟨_,rfl⟩;have hx':floatOfInt FloatKind.f64 (X.tmod 7)=wx:=hx;have hy':floatOfInt FloatKind.f64 (Y.tmod 7)=wy:=hy;simp only[hv3,hx',hy'];have hh:v3.heap=w3.heap:=by rw[<-hv3];rfl
 have D1:=B1.out;have D2:=B2.out;have D3:=B3.out;rw[<-hh]at D1 D2 D3;replace D1:=hdd D1;replace D2:=hdd D2;replace D3:=hdd D3;have HV:Hid (Below W.heap.size W v3):=hdd (by rw[<-hv3];exact⟨HB3.out.os,HB3.out.tape,HB3.out.output,HB3.out.size,HB3.out.block⟩);have hvs:v3.heap.size=W.heap.size+3:=by rw[hh];exact hs3
 clear hh hw3 hs3 c0 c1 c2 c5 c6 c7 hv3 hx hy hx' hy' B1 B2 B3 HB3;clear nq;obtain⟨w5,hw5,hb5,hs5,b4,b5⟩:=pro2 v3 (curO 0 0 0 0) (.cells #[.float .f64 0,.float .f64 0,.float .f64 0,.float .f64 0] 68);rw[hvs]at b4 b5;have E1:=hdd (hbl D1.out hb5);have E2:=hdd (hbl D2.out hb5);have E3:=hdd (hbl D3.out hb5);have E4:=hdd b4;have E5:=hdd b5;have H5:=hdd (aC HV.out hb5);have C1:∀k v,[.bool true,.int .i64 X,.int .i64 Y,.int .i64 U,.int .i64 V,.int .i64 I,.int .i64 Kk,.int .i64 0][k]? =some v->w5.cell? ⟨W.heap.size,k,none⟩=some v:=fun k v h=>aA E1.out h;have c0:=C1 0 _ rfl;have c5:=C1 5 _ rfl;have c6:=C1 6 _ rfl;have c7:=C1 7 _ rfl;obtain⟨d0,d1,d2,d3⟩:=aG b4;obtain⟨e0,e1,e2,e3⟩:=kK b4;clear D1 D2 D3 HV hb5 b4 b5 C1 w3;go_wp2_with fail
 obtain⟨w6,hw6,hb6,q1,q2⟩:=xY (a:=.int .i64 2) (b:=.float .f64 wx) (c:=.float .f64 wy) (d:=.float .f64 4627730092099895296) H5.out (bkA _ 3) E4.out;simp only[hw6];have G1:=hdd ((q2 W.heap.size (by omega)).trans E1.out);have G2:=hdd ((q2 (W.heap.size+1) (by omega)).trans E2.out);have G3:=hdd ((q2 (W.heap.size+2) (by omega)).trans E3.out);have G4:=hdd q1;have G5:=hdd ((q2 (W.heap.size+4) (by omega)).trans E5.out);have H6:=hdd hb6;clear c0 c5 c6 c7 d0 d1 d2 d3 e0 e1 e2 e3 E1 E2 E3 E4 E5 H5 hb6 q1 q2 hw6 hw5 hs5;have hix0:=ixp0 I Kk;have hix1:=ixp1 I Kk;refine wp_loop_rounds 3 ?_;rw[rounds_succ];go_wp2_with fail
 refine(CI.out _).mono ?_;rintro e w7⟨rfl,hb7⟩;have I1:=hdd (hbl G1.out hb7);have I2:=hdd (hbl G2.out hb7);have I3:=hdd (hbl G3.out hb7);have I4:=hdd (hbl G4.out hb7);have I5:=hdd (hbl G5.out hb7);have H7:=hdd (H6.out.trans (hb7.mono H6.out.size));obtain⟨d0,d1,d2,d3⟩:=aG I5.out;obtain⟨e0,e1,e2,e3⟩:=kK I5.out;clear G1 G2 G3 G4 G5 H6 hb7 CI;go_wp2_with (simp only[a1,a2])
 obtain⟨w8,hw8,hb8,r1,r2⟩:=afO (a:=.float .f64 p0) (b:=.float .f64 p1) H7.out (show W.heap.size<=W.heap.size+3+1 by omega) I5.out;simp only[hw8];have G1:=hdd ((r2 W.heap.size (by omega)).trans I1.out);have G2:=hdd ((r2 (W.heap.size+1) (by omega)).trans I2.out);have G3:=hdd ((r2 (W.heap.size+2) (by omega)).trans I3.out);have G4:=hdd ((r2 (W.heap.size+3) (by omega)).trans I4.out);have G5:=hdd r1;have H8:=hdd hb8;clear d0 d1 d2 d3 e0 e1 e2 e3 I1 I2 I3 I4 I5 H7 hb8 r1 r2 hw8;rw[rounds_succ];go_wp2_with fail
 refine(CK.out _).mono ?_;rintro e w9⟨rfl,hb9⟩;have I1:=hdd (hbl G1.out hb9);have I2:=hdd (hbl G2.out hb9);have I3:=hdd (hbl G3.out hb9);have I4:=hdd (hbl G4.out hb9);have I5:=hdd (hbl G5.out hb9);have H9:=hdd (H8.out.trans (hb9.mono H8.out.size));obtain⟨d0,d1,d2,d3⟩:=aG I5.out;obtain⟨e0,e1,e2,e3⟩:=kK I5.out;clear G1 G2 G3 G4 G5 H8 hb9 CK;go_wp2_with (simp only[a3,a4])
 obtain⟨wa,hwa,hba,r1,r2⟩:=afP (a:=.float .f64 q0) (b:=.float .f64 q1) H9.out (show W.heap.size<=W.heap.size+3+1 by omega) I5.out;simp only[hwa];have G1:=hdd ((r2 W.heap.size (by omega)).trans I1.out);have G2:=hdd ((r2 (W.heap.size+1) (by omega)).trans I2.out);have G3:=hdd ((r2 (W.heap.size+2) (by omega)).trans I3.out);have G4:=hdd ((r2 (W.heap.size+3) (by omega)).trans I4.out);have G5:=hdd r1;have HA:=hdd hba;clear d0 d1 d2 d3 e0 e1 e2 e3 I1 I2 I3 I4 I5 H9 hba r1 r2 hwa;have c7:=aA (k:=7) (v:=.int .i64 0) G1.out rfl;have hbit:Go.bits BinOp.and IntKind.i64 0 15=0:=by decide
 rw[rounds_succ];go_wp2_with fail
 clear c7 hbit hix0 hix1;have HD:Below W.heap.size W wa.drew:=⟨HA.out.os,HA.out.tape,HA.out.output,HA.out.size,HA.out.block⟩;have R0:=hdd ((HR.out.keeps HD [(W.heap.size+1,.cells #[.int .i64 0,.float .f64 0,.float .f64 0,.float .f64 0,.pointer none,.int .i64 0,.pointer none,.int .i64 0,.pointer none,.int .i64 0,.pointer none,.int .i64 0] 38),(W.heap.size+2,.cells #[.int .i64 0,.float .f64 0,.float .f64 0,.float .f64 0,.int .i64 0,.int .i64 0,.int .i64 0,.int .i64 0] 42),(W.heap.size+3,curO 2 wx wy 4627730092099895296),(W.heap.size+4,.cells #[.float .f64 p0,.float .f64 p1,.float .f64 q0,.float .f64 q1] 68)] (by
  intro p hp;simp only[bkC,List.not_mem_nil,or_false]at hp;rcases hp with rfl|rfl|rfl|rfl
  . exact⟨G2.out,bkA _ _⟩
  . exact⟨G3.out,bkA _ _⟩
  . exact⟨G4.out,bkA _ _⟩
  . exact⟨G5.out,bkA _ _⟩) (by simp)).perm xA)
 have SP1:=hdd (R0.out.spot (by omega) FF.out.1.1 FF.out.2.1.1 FF.out.1.2 FF.out.2.1.2);have Q4:=R0.out.at (m_lb m2);have Q5:=R0.out.at (m_lb m3);obtain⟨d0,d1,d2,d3⟩:=aG Q4;obtain⟨e0,e1,e2,e3⟩:=aG Q5;clear Q4 Q5 HD
 go_region_held3 (fun w'=>w'.cell? ⟨W.heap.size+3,0,none⟩=some (.int .i64 2)/\w'.cell? ⟨W.heap.size+3,1,none⟩=some (.float .f64 wx)/\w'.cell? ⟨W.heap.size+3,2,none⟩=some (.float .f64 wy)/\w'.cell? ⟨W.heap.size+3,3,none⟩=some (.float .f64 4627730092099895296)/\w'.cell? ⟨W.heap.size+3+1,0,none⟩=some (.float .f64 p0)/\w'.cell? ⟨W.heap.size+3+1,1,none⟩=some (.float .f64 p1)/\w'.cell? ⟨W.heap.size+3+1,2,none⟩=some (.float .f64 q0)/\w'.cell? ⟨W.heap.size+3+1,3,none⟩=some (.float .f64 q1)) (go_keep)
  (first
  |(go_at_call 11
    with_reducible refine SP1.out.mono ?_
    rintro e w1⟨i,j,rfl,hr⟩;have R1:=hdd hr;have Q4:=R1.out.at (m_lb m2);have Q5:=R1.out.at (m_lb m3);obtain⟨d0,d1,d2,d3⟩:=aG Q4;obtain⟨e0,e1,e2,e3⟩:=aG Q5;have SP2:=hdd (R1.out.spot (by omega) FF.out.2.2.1.1 FF.out.2.2.2.1 FF.out.2.2.1.2 FF.out.2.2.2.2);clear Q4 Q5 hr)
  |(go_at_call 11
    with_reducible refine SP2.out.mono ?_
    rintro e w2⟨k,m,rfl,hr⟩;have R2:=hdd hr;have Q4:=R2.out.at (m_lb m2);have Q5:=R2.out.at (m_lb m3);obtain⟨d0,d1,d2,d3⟩:=aG Q4;obtain⟨e0,e1,e2,e3⟩:=aG Q5;have BA1:=hdd (R2.out.brd_at (x:=p0) (y:=p1) HB.out (by omega));clear Q4 Q5 hr)
  |(go_at_call 18
    with_reducible refine BA1.out.mono ?_
    rintro e w4⟨rfl,O1,ln1,hB1,hr⟩;have R3:=hdd hr;have Q4:=R3.out.at (m_lb m2);have Q5:=R3.out.at (m_lb m3);obtain⟨d0,d1,d2,d3⟩:=aG Q4;obtain⟨e0,e1,e2,e3⟩:=aG Q5;have BA2:=hdd (R3.out.brd_at (x:=q0) (y:=q1) hB1 (by omega));clear Q4 Q5 hr)
  |(go_at_call 18
    with_reducible refine BA2.out.mono ?_
    rintro e w5⟨rfl,O2,ln2,hB2,hr⟩;have R4:=hdd hr;have Q4:=R4.out.at (m_lb m2);have Q5:=R4.out.at (m_lb m3);obtain⟨d0,d1,d2,d3⟩:=aG Q4;obtain⟨e0,e1,e2,e3⟩:=aG Q5;have Q6:=R4.out.at (m_lb m0);have Q7:=R4.out.at (m_lb m1);have B4:=hdd hB2;obtain⟨x0,x1,x2,x3,x4,x5,x6,x7,x8,x9,x10,x11⟩:=aF Q6;obtain⟨y0,y1,y2,y3,y4,y5,y6,y7⟩:=kQ Q7;have z6:=gZ Q6;have z7:=gZ Q7;have P6:=hdd Q6;have P7:=hdd Q7;clear Q6 Q7;clear Q4 Q5 hr))
 obtain⟨w6,hw6⟩:∃v,fC w5 (W.heap.size+1) 0 [(.int .i64 2),(.float .f64 wx),(.float .f64 wy),(.float .f64 4627730092099895296),(.pointer (some ⟨g,0,none⟩)),(.int .i64 (i:Int)),(.pointer (some ⟨g,0,none⟩)),(.int .i64 (j:Int)),(.pointer (some ⟨g,0,none⟩)),(.int .i64 (k:Int)),(.pointer (some ⟨g,0,none⟩)),(.int .i64 (m:Int))]=v:=⟨_,rfl⟩;obtain⟨w7,hw7⟩:∃v,fC w6 (W.heap.size+1+1) 0 [(.int .i64 2),(.float .f64 wx),(.float .f64 wy),(.float .f64 4627730092099895296),(.int .i64 (n:Int)),(.int .i64 ((n:Int)+1)),(.int .i64 ((n:Int)+2)),(.int .i64 ((n:Int)+2+1))]=v:=⟨_,rfl⟩;have g6:=dQ (b:=W.heap.size+1) [(.int .i64 2),(.float .f64 wx),(.float .f64 wy),(.float .f64 4627730092099895296),(.pointer (some ⟨g,0,none⟩)),(.int .i64 (i:Int)),(.pointer (some ⟨g,0,none⟩)),(.int .i64 (j:Int)),(.pointer (some ⟨g,0,none⟩)),(.int .i64 (k:Int)),(.pointer (some ⟨g,0,none⟩)),(.int .i64 (m:Int))] 0 w5;have g7:=dQ (b:=W.heap.size+1+1) [(.int .i64 2),(.float .f64 wx),(.float .f64 wy),(.float .f64 4627730092099895296),(.int .i64 (n:Int)),(.int .i64 ((n:Int)+1)),(.int .i64 ((n:Int)+2)),(.int .i64 ((n:Int)+2+1))] 0 w6
 have s6:=iN (vs:=[(.int .i64 2),(.float .f64 wx),(.float .f64 wy),(.float .f64 4627730092099895296),(.pointer (some ⟨g,0,none⟩)),(.int .i64 (i:Int)),(.pointer (some ⟨g,0,none⟩)),(.int .i64 (j:Int)),(.pointer (some ⟨g,0,none⟩)),(.int .i64 (k:Int)),(.pointer (some ⟨g,0,none⟩)),(.int .i64 (m:Int))]) P6.out rfl;rw[hw6]at g6 s6;rw[hw7]at g7;have s7:=iN (vs:=[(.int .i64 2),(.float .f64 wx),(.float .f64 wy),(.float .f64 4627730092099895296),(.int .i64 (n:Int)),(.int .i64 ((n:Int)+1)),(.int .i64 ((n:Int)+2)),(.int .i64 ((n:Int)+2+1))]) ((g6.block (W.heap.size+1+1) (aH P7.out) (by simp)).trans P7.out) rfl;rw[hw7]at s7;have s6':=(g7.block (W.heap.size+1) (aH s6) (by simp)).trans s6;unfold fC at hw6 hw7;simp only[fC]at hw6 hw7;clear x0 x1 x2 x3 x4 x5 x6 x7 x8 x9 x10 x11 y0 y1 y2 y3 y4 y5 y6 y7 z6 z7 d0 d1 d2 d3 e0 e1 e2 e3;simp only[hw6,hw7];have RF:=hdd ((((R4.out.perm xA.symm).write g6 s6).perm (List.Perm.swap _ _ _)).write g7 s7);have HF:Hid (Run s g (N+4) ((.leaf p0,i)::(.leaf p1,j)::(.leaf q0,k)::(.leaf q1,m)::K) ((bb,O2)::(ln2++l)) w7):=hdd ((RF.out.sub (fun p hp=>bj9 _ (bj9 _ (bj9 _ (bj9 _ hp)))) (by
  have h:=RF.out.nodup;rw[List.map_cons]at h;have h:=(bkB.1 (bkB.1 (bkB.1 (bkB.1 h).2).2).2).2;exact h)).few fun p hp=>by
   simp only[bkC]at hp|-;rcases hp with rfl|rfl|rfl|rfl|h
   . simp
   . simp
   . simp
   . simp
   . simp[h])
 obtain⟨x0,x1,x2,x3,x4,x5,x6,x7,x8,x9,x10,x11⟩:=aF s6';obtain⟨y0,y1,y2,y3,y4,y5,y6,y7⟩:=kQ s7;clear g6 g7 s6 s6' s7 RF hw6 hw7;go_wp2;refine bodyPost_ret (v:=.tuple #[.agg #[_,_,_,_,_,_,_,_,_,_,_,_],.agg #[_,_,_,_,_,_,_,_]]) (by simp[results,Tryz.results9,go_sem,x0,x1,x2,x3,x4,x5,x6,x7,x8,x9,x10,x11,y0,y1,y2,y3,y4,y5,y6,y7];first|exact⟨⟨rfl,rfl,rfl,rfl,rfl,rfl,rfl,rfl,rfl,rfl,rfl,rfl⟩,⟨rfl,rfl,rfl,rfl,rfl,rfl,rfl,rfl⟩⟩|rfl) rfl ?_;exact⟨i,j,k,m,O2,ln2,rfl,B4.out,HF.out⟩
end Go.Proofs.YtjdgaogkioabeaaGreatDoor
namespace Go.Proofs.YtjdgaogkioabeaaGreatDoor
open Go.RowKit Go.Maps
variable{i j k m n:Nat}
def eqI(j l:Nat):Bool:=cmpP (kXi j) (kYi j) (kXi l) (kYi l)==0
def rndI(a b x:Nat):Bool:=rndP (kXi a) (kYi a) (kXi b) (kYi b) (kXi x) (kYi x)
def cyc(a b x:Nat):Bool:=a==b||x==a||x==b||decide ((x+12-a)%12<(b+12-a)%12)
theorem kW:∀a b:Fin 12,eqI a b=(a.val==b.val):=by decide+kernel
theorem ad7:∀a b x:Fin 12,rndI a b x=cyc a b x:=by decide+kernel
def ovI(i k j m:Nat):Bool:=i==k||j==m||(cyc j m i&& !(i==m))||(cyc i k j&& !(j==k))
def shI(i k j m:Nat):Bool:=decide ((j+12-i)%12<(k+11-i)%12+1)||decide ((i+12-j)%12<(m+11-j)%12+1)
theorem arU:∀i k j m:Fin 12,ovI i k j m=shI i k j m:=by decide+kernel
def anyN:Nat->(Nat->Bool)->Bool
 |0,_=>false
 |n+1,f=>anyN n f||f n
theorem rJ{f:Nat->Bool}:anyN n f=true↔∃v,v<n/\f v=true:=by
 induction n with
 |zero=>simp[anyN]
 |succ n ih=>
  rw[anyN,Bool.or_eq_true,ih];constructor
  . rintro(⟨v,h,e⟩|h)
    . exact⟨v,by omega,e⟩
    . exact⟨n,by omega,h⟩
  . rintro⟨v,h,e⟩
    rcases Nat.lt_or_ge v n with h'|h'
    . exact Or.inl ⟨v,h',e⟩
    . obtain rfl:v=n:=by omega
      exact Or.inr e
theorem ajF{o:Nat}(hi:i<12)(hj:j<12)(hn:n<=12)(ho:o<=12)(hn0:0<n)(ho0:0<o):
 anyN n (fun v=>anyN o fun w=>(i+v)%12==(j+w)%12)=(decide ((j+12-i)%12<n)||decide ((i+12-j)%12<o)):=by
 rw[Bool.eq_iff_iff,rJ,Bool.or_eq_true,decide_eq_true_iff,decide_eq_true_iff];constructor
 . rintro⟨v,hv,h⟩
   obtain⟨w,hw,e⟩:=rJ.1 h;have e:=beq_iff_eq.1 e;omega
 . rintro(h|h)
   . exact⟨_,h,rJ.2 ⟨0,ho0,beq_iff_eq.2 (by omega)⟩⟩
   . exact⟨0,hn0,rJ.2 ⟨_,h,beq_iff_eq.2 (by omega)⟩⟩
theorem aqZ(hi:i<12)(hk:k<12)(hj:j<12)(hm:m<12):ovP (kXi i) (kYi i) (kXi k) (kYi k) (kXi j) (kYi j) (kXi m) (kYi m)=shI i k j m:=by
 rw[<-arU ⟨i,hi⟩ ⟨k,hk⟩ ⟨j,hj⟩ ⟨m,hm⟩];have h1:=kW ⟨i,hi⟩ ⟨k,hk⟩;have h2:=kW ⟨j,hj⟩ ⟨m,hm⟩;have h3:=kW ⟨i,hi⟩ ⟨m,hm⟩;have h4:=kW ⟨j,hj⟩ ⟨k,hk⟩;have h5:=ad7 ⟨j,hj⟩ ⟨m,hm⟩ ⟨i,hi⟩;have h6:=ad7 ⟨i,hi⟩ ⟨k,hk⟩ ⟨j,hj⟩;simp only[eqI,rndI]at h1 h2 h3 h4 h5 h6;unfold ovP ovI;rw[h1,h2,h3,h4,h5,h6]
theorem aq0(hi:i<12)(hk:k<12)(hj:j<12)(hm:m<12):jnP (kXi i) (kYi i) (kXi k) (kYi k) (kXi j) (kYi j) (kXi m) (kYi m)=pj i k j m:=by
 have h1:=kW ⟨i,hi⟩ ⟨k,hk⟩;have h2:=kW ⟨j,hj⟩ ⟨m,hm⟩;have h3:=kW ⟨i,hi⟩ ⟨m,hm⟩;have h4:=kW ⟨j,hj⟩ ⟨k,hk⟩;simp only[eqI]at h1 h2 h3 h4;unfold jnP pj;rw[h1,h2,h3,h4]
end Go.Proofs.YtjdgaogkioabeaaGreatDoor
namespace Go.Proofs.YtjdgaogkioabeaaGreatDoor
open Go.RowKit Go.Maps
open Re (rat ofI ofN)
theorem am8(J:Fin 12):kXi J*kXi J+kYi J*kYi J=25:=by
 revert J;decide
end Go.Proofs.YtjdgaogkioabeaaGreatDoor
