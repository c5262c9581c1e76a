/- A part of the proof: contracts of functions and plain laws (MkA, QlW, AlvS, MoA, QlV). -/
import Derived.Test.YtjaafolhfihegaaGreatDoorK17
import Derived.Test.YtjaafolhfihegaaGreatDoorK34
import Derived.Test.YtjaafolhfihegaaGreatDoorK35
set_option linter.unusedVariables false
set_option linter.unusedSimpArgs false
set_option maxHeartbeats 25600000
set_option maxRecDepth 100000
namespace Go.Proofs.YtjaafolhfihegaaGreatDoor
open Go.RowKit Go.Maps Go.Stop Go.Extern
open Go.RowKit.Below renaming heap_setCell->bg2
open List renaming mem_cons_of_mem->bg0,nodup_cons->bg3,mem_append->bg4,mem_cons->bg5
open Nat renaming le_add_right->bg1
variable{l ln:List (Nat×Obj)}{B g:Nat}{T:TypeId}{a b z0 z1 z2 z3:Value}{w w0 w1:World}
abbrev aV(x y u v i k:Int):Value:=.agg #[.bool true,.int .i64 x,.int .i64 y,.int .i64 u,.int .i64 v,.int .i64 i,.int .i64 k,.int .i64 0]
abbrev aO(x y u v i k:Int):Obj:=.cells #[.bool true,.int .i64 x,.int .i64 y,.int .i64 u,.int .i64 v,.int .i64 i,.int .i64 k,.int .i64 0] 23
theorem ixp0(a b:Int)(w:World):(Instr.index 77 (.agg #[.int .i64 a,.int .i64 b]) (.int .i64 0)).run Tryz.prog w=.ok (.int .i64 a) w:=by kernel_rfl
theorem ixp1(a b:Int)(w:World):(Instr.index 77 (.agg #[.int .i64 a,.int .i64 b]) (.int .i64 1)).run Tryz.prog w=.ok (.int .i64 b) w:=by kernel_rfl
theorem an1(hb:Below B w0 w1)(hg:B<=g)(h:w1.heap[g]? =some (.cells #[z0,z1,z2,z3] T (0,0))):
 ∃w2,(w1.setCell ⟨g,0,none⟩ a).setCell ⟨g,1,none⟩ b=w2/\Below B w0 w2/\w2.heap[g]? =some (.cells #[a,b,z2,z3] T (0,0))/\∀i,g≠i->w2.heap[i]? =w1.heap[i]? :=
 ⟨_,rfl,(hb.setCell hg _).setCell hg _,lF (cs:=[a,z1,z2,z3]) (k:=1) (lF (cs:=[z0,z1,z2,z3]) (k:=0) h),fun i hi=>by rw[bg2 _ _ _ _ (by simp;omega),bg2 _ _ _ _ (by simp;omega)]⟩
theorem an2(hb:Below B w0 w1)(hg:B<=g)(h:w1.heap[g]? =some (.cells #[z0,z1,z2,z3] T (0,0))):
 ∃w2,(w1.setCell ⟨g,2,none⟩ a).setCell ⟨g,3,none⟩ b=w2/\Below B w0 w2/\w2.heap[g]? =some (.cells #[z0,z1,a,b] T (0,0))/\∀i,g≠i->w2.heap[i]? =w1.heap[i]? :=
 ⟨_,rfl,(hb.setCell hg _).setCell hg _,lF (cs:=[z0,z1,a,z3]) (k:=3) (lF (cs:=[z0,z1,z2,z3]) (k:=2) h),fun i hi=>by rw[bg2 _ _ _ _ (by simp;omega),bg2 _ _ _ _ (by simp;omega)]⟩
def iB(w:World)(b:Nat):Nat->List Value->World
 |_,[]=>w
 |k,v::vs=>iB (w.setCell ⟨b,k,none⟩ v) b (k+1) vs
theorem eH{b:Nat}:∀(vs:List Value) (k:Nat) (w:World),w.grownBy (iB w b k vs) (some b)
 |[],_,w=>lY w _
 |v::vs,k,w=>grownBy_trans (grownBy_set (lY w _) v) (eH vs (k+1) _)
theorem yP{b:Nat}{T:TypeId}:∀(vs pre rest:List Value) (w:World),w.heap[b]? =some (.cells (pre++rest).toArray T (0,0))->rest.length=vs.length->(iB w b pre.length vs).heap[b]? =some (.cells (pre++vs).toArray T (0,0))
 |[],pre,[],w,h,_=>h
 |[],_,_::_,_,_,e=>by simp at e
 |_::_,_,[],_,_,e=>by simp at e
 |v::vs,pre,r::rest,w,h,e=>by
  have h1:=lF (k:=pre.length) (v:=v) h;have e1:(pre++r::rest).set pre.length v=(pre++[v])++rest:=by simp
  rw[e1]at h1;have h2:=yP vs (pre++[v]) rest _ h1 (by simpa using e);rw[List.append_assoc]at h2;rw[List.length_append,List.length_singleton]at h2;exact h2
theorem iK{b:Nat}{cs vs:List Value}(h:w.heap[b]? =some (.cells cs.toArray T (0,0)))(e:cs.length=vs.length):(iB w b 0 vs).heap[b]? =some (.cells vs.toArray T (0,0)):=yP vs [] cs w h e
theorem m_lb{x y:Nat×Obj}{lb:List (Nat×Obj)}(h:x∈lb):x∈y::(ln++(lb++l)):=bg0 _ (bg4.2 (Or.inr (bg4.2 (Or.inl h))))
theorem kC{b:Nat}{cs:Array Value}(h:w.heap[b]? =some (.cells cs T (0,0)))(k:Nat):w.frozen? ⟨b,k,none⟩=false:=by simp[World.frozen?,h]
abbrev arcR(a b n:Nat):Value:=.agg #[.int .i64 2,.float .f64 a,.float .f64 b,.float .f64 4627730092099895296,.int .i64 (n:Int),.int .i64 ((n:Int)+1),.int .i64 ((n:Int)+2),.int .i64 ((n:Int)+2+1)]
theorem wU{s:Bs}{N bb n J L:Nat}{K:List (Ex×Nat)}{W:World}{O:Obj}{X Y U V I Kk:Int}{wx wy p0 p1 q0 q1:Nat}(hR:Run s g N K ((bb,O)::(ln++l)) W)(hB:BrdB bb n ln O)(hN:N+4<=20000)(hn:n<900)(hJ:J<12)(hI:(I.tmod 12+12).tmod 12=(J:Int))(hL:L<12)(hK:(Kk.tmod 12+12).tmod 12=(L:Int))
 (hx:fl (X.tmod 7)=wx) (hy:fl (Y.tmod 7)=wy) (a1:Op2 .add wx (kX J) p0) (a2:Op2 .add wy (kY J) p1) (a3:Op2 .add wx (kX L) q0) (a4:Op2 .add wy (kY L) q1) (f0:FlOk p0) (f1:FlOk p1) (f2:FlOk q0) (f3:FlOk q1):
 Calls Tryz.prog 14 #[aV X Y U V I Kk,.pointer (some ⟨g,0,none⟩),.pointer (some ⟨bb,0,none⟩)] W (fun e W'=>∃(i j k m:Nat) (O':Obj) (ln':List (Nat×Obj)),e=.returned (.tuple #[arcV g wx wy 4627730092099895296 i j k m,arcR wx wy n])/\BrdB bb (n+4) ln' O'/\Run s g (N+4) ((.leaf p0,i)::(.leaf p1,j)::(.leaf q0,k)::(.leaf q1,m)::K) ((bb,O')::(ln'++l)) W'):=by
 obtain⟨w3,hw3,hb3,hs3,b1,b2,b3⟩:=pro3 W (aO X Y U V I Kk) (.cells #[.int .i64 0,.float .f64 0,.float .f64 0,.float .f64 0,.pointer none,.int .i64 0,.pointer none,.int .i64 0,.pointer none,.int .i64 0,.pointer none,.int .i64 0] 35) (.cells #[.int .i64 0,.float .f64 0,.float .f64 0,.float .f64 0,.int .i64 0,.int .i64 0,.int .i64 0,.int .i64 0] 39);have C1:∀k v,[.bool true,.int .i64 X,.int .i64 Y,.int .i64 U,.int .i64 V,.int .i64 I,.int .i64 Kk,.int .i64 0][k]? =some v->w3.cell? ⟨W.heap.size,k,none⟩=some v:=fun k v h=>aB b1 h;have c0:=C1 0 _ rfl;have c1:=C1 1 _ rfl;have c2:=C1 2 _ rfl;have c5:=C1 5 _ rfl;have c6:=C1 6 _ rfl;have c7:=C1 7 _ rfl;have HR:=hdd hR;have HB:=hdd hB;have HB3:=hdd hb3;have B1:=hdd b1;have B2:=hdd b2;have B3:=hdd b3;have CI:=hdd (fun w=>yO (w:=w) hJ hI);have CK:=hdd (fun w=>yO (w:=w) hL hK);have FF:=hdd (And.intro f0 (And.intro f1 (And.intro f2 f3)));clear hR hB hb3 b1 b2 b3 C1 hI hK f0 f1 f2 f3;have hst:=aY;go_enter Tryz.func14,Tryz.ntmps14
 go_wp2_with fail
 go_quiet (fail)
 obtain⟨v3,hv3⟩:∃v,w3.drewN nq=v:=⟨_,rfl⟩;have hx':floatOfInt FloatKind.f64 (X.tmod 7)=wx:=hx;have hy':floatOfInt FloatKind.f64 (Y.tmod 7)=wy:=hy;simp only[hv3,hx',hy'];have hh:v3.heap=w3.heap:=by rw[<-hv3];rfl
 have D1:=B1.out;have D2:=B2.out;have D3:=B3.out;rw[<-hh]at D1 D2 D3;replace D1:=hdd D1;replace D2:=hdd D2;replace D3:=hdd D3;have HV:Hid (Below W.heap.size W v3):=hdd (by rw[<-hv3];exact⟨HB3.out.os,HB3.out.tape,HB3.out.output,HB3.out.size,HB3.out.block⟩);have hvs:v3.heap.size=W.heap.size+3:=by rw[hh];exact hs3
 clear hh hw3 hs3 c0 c1 c2 c5 c6 c7 hv3 hx hy hx' hy' B1 B2 B3 HB3;clear nq;obtain⟨w5,hw5,hb5,hs5,b4,b5⟩:=pro2 v3 (curO 0 0 0 0) (.cells #[.float .f64 0,.float .f64 0,.float .f64 0,.float .f64 0] 100);rw[hvs]at b4 b5;have E1:=hdd (hbl D1.out hb5);have E2:=hdd (hbl D2.out hb5);have E3:=hdd (hbl D3.out hb5);have E4:=hdd b4;have E5:=hdd b5;have H5:=hdd (aC HV.out hb5);have C1:∀k v,[.bool true,.int .i64 X,.int .i64 Y,.int .i64 U,.int .i64 V,.int .i64 I,.int .i64 Kk,.int .i64 0][k]? =some v->w5.cell? ⟨W.heap.size,k,none⟩=some v:=fun k v h=>aB E1.out h;have c0:=C1 0 _ rfl;have c5:=C1 5 _ rfl;have c6:=C1 6 _ rfl;have c7:=C1 7 _ rfl;obtain⟨d0,d1,d2,d3⟩:=bC b4;obtain⟨e0,e1,e2,e3⟩:=vH b4;clear D1 D2 D3 HV hb5 b4 b5 C1 w3;go_wp2_with fail
 obtain⟨w6,hw6,hb6,q1,q2⟩:=akG (a:=.int .i64 2) (b:=.float .f64 wx) (c:=.float .f64 wy) (d:=.float .f64 4627730092099895296) H5.out (bg1 _ 3) E4.out;simp only[hw6];have G1:=hdd ((q2 W.heap.size (by omega)).trans E1.out);have G2:=hdd ((q2 (W.heap.size+1) (by omega)).trans E2.out);have G3:=hdd ((q2 (W.heap.size+2) (by omega)).trans E3.out);have G4:=hdd q1;have G5:=hdd ((q2 (W.heap.size+4) (by omega)).trans E5.out);have H6:=hdd hb6;clear c0 c5 c6 c7 d0 d1 d2 d3 e0 e1 e2 e3 E1 E2 E3 E4 E5 H5 hb6 q1 q2 hw6 hw5 hs5;have hix0:=ixp0 I Kk;have hix1:=ixp1 I Kk;refine wp_loop_rounds 3 ?_;rw[rounds_succ];go_wp2_with fail
 refine(CI.out _).mono ?_;rintro e w7⟨rfl,hb7⟩;have I1:=hdd (hbl G1.out hb7);have I2:=hdd (hbl G2.out hb7);have I3:=hdd (hbl G3.out hb7);have I4:=hdd (hbl G4.out hb7);have I5:=hdd (hbl G5.out hb7);have H7:=hdd (H6.out.trans (hb7.mono H6.out.size));obtain⟨d0,d1,d2,d3⟩:=bC I5.out;obtain⟨e0,e1,e2,e3⟩:=vH I5.out;clear G1 G2 G3 G4 G5 H6 hb7 CI;go_wp2_with (simp only[a1,a2])
 obtain⟨w8,hw8,hb8,r1,r2⟩:=an1 (a:=.float .f64 p0) (b:=.float .f64 p1) H7.out (show W.heap.size<=W.heap.size+3+1 by omega) I5.out;simp only[hw8];have G1:=hdd ((r2 W.heap.size (by omega)).trans I1.out);have G2:=hdd ((r2 (W.heap.size+1) (by omega)).trans I2.out);have G3:=hdd ((r2 (W.heap.size+2) (by omega)).trans I3.out);have G4:=hdd ((r2 (W.heap.size+3) (by omega)).trans I4.out);have G5:=hdd r1;have H8:=hdd hb8;clear d0 d1 d2 d3 e0 e1 e2 e3 I1 I2 I3 I4 I5 H7 hb8 r1 r2 hw8;rw[rounds_succ];go_wp2_with fail
 refine(CK.out _).mono ?_;rintro e w9⟨rfl,hb9⟩;have I1:=hdd (hbl G1.out hb9);have I2:=hdd (hbl G2.out hb9);have I3:=hdd (hbl G3.out hb9);have I4:=hdd (hbl G4.out hb9);have I5:=hdd (hbl G5.out hb9);have H9:=hdd (H8.out.trans (hb9.mono H8.out.size));obtain⟨d0,d1,d2,d3⟩:=bC I5.out;obtain⟨e0,e1,e2,e3⟩:=vH I5.out;clear G1 G2 G3 G4 G5 H8 hb9 CK;go_wp2_with (simp only[a3,a4])
 obtain⟨wa,hwa,hba,r1,r2⟩:=an2 (a:=.float .f64 q0) (b:=.float .f64 q1) H9.out (show W.heap.size<=W.heap.size+3+1 by omega) I5.out;simp only[hwa];have G1:=hdd ((r2 W.heap.size (by omega)).trans I1.out);have G2:=hdd ((r2 (W.heap.size+1) (by omega)).trans I2.out);have G3:=hdd ((r2 (W.heap.size+2) (by omega)).trans I3.out);have G4:=hdd ((r2 (W.heap.size+3) (by omega)).trans I4.out);have G5:=hdd r1;have HA:=hdd hba;clear d0 d1 d2 d3 e0 e1 e2 e3 I1 I2 I3 I4 I5 H9 hba r1 r2 hwa;have c7:=aB (k:=7) (v:=.int .i64 0) G1.out rfl;have hbit:Go.bits BinOp.and IntKind.i64 0 15=0:=by decide
 rw[rounds_succ];go_wp2_with fail
 clear c7 hbit hix0 hix1;have HD:Below W.heap.size W wa.drew:=⟨HA.out.os,HA.out.tape,HA.out.output,HA.out.size,HA.out.block⟩;have R0:=hdd ((HR.out.keeps HD [(W.heap.size+1,.cells #[.int .i64 0,.float .f64 0,.float .f64 0,.float .f64 0,.pointer none,.int .i64 0,.pointer none,.int .i64 0,.pointer none,.int .i64 0,.pointer none,.int .i64 0] 35),(W.heap.size+2,.cells #[.int .i64 0,.float .f64 0,.float .f64 0,.float .f64 0,.int .i64 0,.int .i64 0,.int .i64 0,.int .i64 0] 39),(W.heap.size+3,curO 2 wx wy 4627730092099895296),(W.heap.size+4,.cells #[.float .f64 p0,.float .f64 p1,.float .f64 q0,.float .f64 q1] 100)] (by
  intro p hp;simp only[bg5,List.not_mem_nil,or_false]at hp;rcases hp with rfl|rfl|rfl|rfl
  . exact⟨G2.out,bg1 _ _⟩
  . exact⟨G3.out,bg1 _ _⟩
  . exact⟨G4.out,bg1 _ _⟩
  . exact⟨G5.out,bg1 _ _⟩) (by simp)).perm abF)
 have SP1:=hdd (R0.out.spot (by omega) FF.out.1.1 FF.out.2.1.1 FF.out.1.2 FF.out.2.1.2);have Q4:=R0.out.at (m_lb m2);have Q5:=R0.out.at (m_lb m3);have d0:=aB (k:=0) (v:=.int .i64 2) Q4 rfl;have d1:=aB (k:=1) (v:=.float .f64 wx) Q4 rfl;have d2:=aB (k:=2) (v:=.float .f64 wy) Q4 rfl;have d3:=aB (k:=3) (v:=.float .f64 4627730092099895296) Q4 rfl;have e0:=aB (k:=0) (v:=.float .f64 p0) Q5 rfl;have e1:=aB (k:=1) (v:=.float .f64 p1) Q5 rfl;have e2:=aB (k:=2) (v:=.float .f64 q0) Q5 rfl;have e3:=aB (k:=3) (v:=.float .f64 q1) Q5 rfl;clear Q4 Q5 HD
 go_region_held3 (fun w'=>w'.cell? ⟨W.heap.size+3,0,none⟩=some (.int .i64 2)/\w'.cell? ⟨W.heap.size+3,1,none⟩=some (.float .f64 wx)/\w'.cell? ⟨W.heap.size+3,2,none⟩=some (.float .f64 wy)/\w'.cell? ⟨W.heap.size+3,3,none⟩=some (.float .f64 4627730092099895296)/\w'.cell? ⟨W.heap.size+3+1,0,none⟩=some (.float .f64 p0)/\w'.cell? ⟨W.heap.size+3+1,1,none⟩=some (.float .f64 p1)/\w'.cell? ⟨W.heap.size+3+1,2,none⟩=some (.float .f64 q0)/\w'.cell? ⟨W.heap.size+3+1,3,none⟩=some (.float .f64 q1)) (go_keep)
  (first
  |(go_at_call 24
    with_reducible refine SP1.out.mono ?_
    rintro e w1⟨i,j,rfl,hr⟩;have R1:=hdd hr;have Q4:=R1.out.at (m_lb m2);have Q5:=R1.out.at (m_lb m3);have d0:=aB (k:=0) (v:=.int .i64 2) Q4 rfl;have d1:=aB (k:=1) (v:=.float .f64 wx) Q4 rfl;have d2:=aB (k:=2) (v:=.float .f64 wy) Q4 rfl;have d3:=aB (k:=3) (v:=.float .f64 4627730092099895296) Q4 rfl;have e0:=aB (k:=0) (v:=.float .f64 p0) Q5 rfl;have e1:=aB (k:=1) (v:=.float .f64 p1) Q5 rfl;have e2:=aB (k:=2) (v:=.float .f64 q0) Q5 rfl;have e3:=aB (k:=3) (v:=.float .f64 q1) Q5 rfl;have SP2:=hdd (R1.out.spot (by omega) FF.out.2.2.1.1 FF.out.2.2.2.1 FF.out.2.2.1.2 FF.out.2.2.2.2);clear Q4 Q5 hr)
  |(go_at_call 24
    with_reducible refine SP2.out.mono ?_
    rintro e w2⟨k,m,rfl,hr⟩;have R2:=hdd hr;have Q4:=R2.out.at (m_lb m2);have Q5:=R2.out.at (m_lb m3);have d0:=aB (k:=0) (v:=.int .i64 2) Q4 rfl;have d1:=aB (k:=1) (v:=.float .f64 wx) Q4 rfl;have d2:=aB (k:=2) (v:=.float .f64 wy) Q4 rfl;have d3:=aB (k:=3) (v:=.float .f64 4627730092099895296) Q4 rfl;have e0:=aB (k:=0) (v:=.float .f64 p0) Q5 rfl;have e1:=aB (k:=1) (v:=.float .f64 p1) Q5 rfl;have e2:=aB (k:=2) (v:=.float .f64 q0) Q5 rfl;have e3:=aB (k:=3) (v:=.float .f64 q1) Q5 rfl;have BA1:=hdd (R2.out.brd_at (x:=p0) (y:=p1) HB.out (by omega));clear Q4 Q5 hr)
  |(go_at_call 52
    with_reducible refine BA1.out.mono ?_
    rintro e w4⟨rfl,O1,ln1,hB1,hr⟩;have R3:=hdd hr;have Q4:=R3.out.at (m_lb m2);have Q5:=R3.out.at (m_lb m3);have d0:=aB (k:=0) (v:=.int .i64 2) Q4 rfl;have d1:=aB (k:=1) (v:=.float .f64 wx) Q4 rfl;have d2:=aB (k:=2) (v:=.float .f64 wy) Q4 rfl;have d3:=aB (k:=3) (v:=.float .f64 4627730092099895296) Q4 rfl;have e0:=aB (k:=0) (v:=.float .f64 p0) Q5 rfl;have e1:=aB (k:=1) (v:=.float .f64 p1) Q5 rfl;have e2:=aB (k:=2) (v:=.float .f64 q0) Q5 rfl;have e3:=aB (k:=3) (v:=.float .f64 q1) Q5 rfl;have BA2:=hdd (R3.out.brd_at (x:=q0) (y:=q1) hB1 (by omega));clear Q4 Q5 hr)
  |(go_at_call 52
    with_reducible refine BA2.out.mono ?_
    rintro e w5⟨rfl,O2,ln2,hB2,hr⟩;have R4:=hdd hr;have Q4:=R4.out.at (m_lb m2);have Q5:=R4.out.at (m_lb m3);have d0:=aB (k:=0) (v:=.int .i64 2) Q4 rfl;have d1:=aB (k:=1) (v:=.float .f64 wx) Q4 rfl;have d2:=aB (k:=2) (v:=.float .f64 wy) Q4 rfl;have d3:=aB (k:=3) (v:=.float .f64 4627730092099895296) Q4 rfl;have e0:=aB (k:=0) (v:=.float .f64 p0) Q5 rfl;have e1:=aB (k:=1) (v:=.float .f64 p1) Q5 rfl;have e2:=aB (k:=2) (v:=.float .f64 q0) Q5 rfl;have e3:=aB (k:=3) (v:=.float .f64 q1) Q5 rfl;have Q6:=R4.out.at (m_lb m0);have Q7:=R4.out.at (m_lb m1);have B4:=hdd hB2;have x0:=aB (k:=0) (v:=.int .i64 0) Q6 rfl;have x1:=aB (k:=1) (v:=.float .f64 0) Q6 rfl;have x2:=aB (k:=2) (v:=.float .f64 0) Q6 rfl;have x3:=aB (k:=3) (v:=.float .f64 0) Q6 rfl;have x4:=aB (k:=4) (v:=.pointer none) Q6 rfl;have x5:=aB (k:=5) (v:=.int .i64 0) Q6 rfl;have x6:=aB (k:=6) (v:=.pointer none) Q6 rfl;have x7:=aB (k:=7) (v:=.int .i64 0) Q6 rfl;have x8:=aB (k:=8) (v:=.pointer none) Q6 rfl;have x9:=aB (k:=9) (v:=.int .i64 0) Q6 rfl;have x10:=aB (k:=10) (v:=.pointer none) Q6 rfl;have x11:=aB (k:=11) (v:=.int .i64 0) Q6 rfl;have y0:=aB (k:=0) (v:=.int .i64 0) Q7 rfl;have y1:=aB (k:=1) (v:=.float .f64 0) Q7 rfl;have y2:=aB (k:=2) (v:=.float .f64 0) Q7 rfl;have y3:=aB (k:=3) (v:=.float .f64 0) Q7 rfl;have y4:=aB (k:=4) (v:=.int .i64 0) Q7 rfl;have y5:=aB (k:=5) (v:=.int .i64 0) Q7 rfl;have y6:=aB (k:=6) (v:=.int .i64 0) Q7 rfl;have y7:=aB (k:=7) (v:=.int .i64 0) Q7 rfl
    have z6:=kC Q6;have z7:=kC Q7;have P6:=hdd Q6;have P7:=hdd Q7;clear Q6 Q7;clear Q4 Q5 hr))
 obtain⟨w6,hw6⟩:∃v,iB w5 (W.heap.size+1) 0 [(.int .i64 2),(.float .f64 wx),(.float .f64 wy),(.float .f64 4627730092099895296),(.pointer (some ⟨g,0,none⟩)),(.int .i64 (i:Int)),(.pointer (some ⟨g,0,none⟩)),(.int .i64 (j:Int)),(.pointer (some ⟨g,0,none⟩)),(.int .i64 (k:Int)),(.pointer (some ⟨g,0,none⟩)),(.int .i64 (m:Int))]=v:=⟨_,rfl⟩;obtain⟨w7,hw7⟩:∃v,iB w6 (W.heap.size+1+1) 0 [(.int .i64 2),(.float .f64 wx),(.float .f64 wy),(.float .f64 4627730092099895296),(.int .i64 (n:Int)),(.int .i64 ((n:Int)+1)),(.int .i64 ((n:Int)+2)),(.int .i64 ((n:Int)+2+1))]=v:=⟨_,rfl⟩;have g6:=eH (b:=W.heap.size+1) [(.int .i64 2),(.float .f64 wx),(.float .f64 wy),(.float .f64 4627730092099895296),(.pointer (some ⟨g,0,none⟩)),(.int .i64 (i:Int)),(.pointer (some ⟨g,0,none⟩)),(.int .i64 (j:Int)),(.pointer (some ⟨g,0,none⟩)),(.int .i64 (k:Int)),(.pointer (some ⟨g,0,none⟩)),(.int .i64 (m:Int))] 0 w5;have g7:=eH (b:=W.heap.size+1+1) [(.int .i64 2),(.float .f64 wx),(.float .f64 wy),(.float .f64 4627730092099895296),(.int .i64 (n:Int)),(.int .i64 ((n:Int)+1)),(.int .i64 ((n:Int)+2)),(.int .i64 ((n:Int)+2+1))] 0 w6
 have s6:=iK (vs:=[(.int .i64 2),(.float .f64 wx),(.float .f64 wy),(.float .f64 4627730092099895296),(.pointer (some ⟨g,0,none⟩)),(.int .i64 (i:Int)),(.pointer (some ⟨g,0,none⟩)),(.int .i64 (j:Int)),(.pointer (some ⟨g,0,none⟩)),(.int .i64 (k:Int)),(.pointer (some ⟨g,0,none⟩)),(.int .i64 (m:Int))]) P6.out rfl;rw[hw6]at g6 s6;rw[hw7]at g7;have s7:=iK (vs:=[(.int .i64 2),(.float .f64 wx),(.float .f64 wy),(.float .f64 4627730092099895296),(.int .i64 (n:Int)),(.int .i64 ((n:Int)+1)),(.int .i64 ((n:Int)+2)),(.int .i64 ((n:Int)+2+1))]) ((g6.block (W.heap.size+1+1) (aG P7.out) (by simp)).trans P7.out) rfl;rw[hw7]at s7;have s6':=(g7.block (W.heap.size+1) (aG s6) (by simp)).trans s6;unfold iB at hw6 hw7;simp only[iB]at hw6 hw7;clear x0 x1 x2 x3 x4 x5 x6 x7 x8 x9 x10 x11 y0 y1 y2 y3 y4 y5 y6 y7 z6 z7 d0 d1 d2 d3 e0 e1 e2 e3;simp only[hw6,hw7];have RF:=hdd ((((R4.out.perm abF.symm).write g6 s6).perm (List.Perm.swap _ _ _)).write g7 s7);have HF:Hid (Run s g (N+4) ((.leaf p0,i)::(.leaf p1,j)::(.leaf q0,k)::(.leaf q1,m)::K) ((bb,O2)::(ln2++l)) w7):=hdd ((RF.out.sub (fun p hp=>bg0 _ (bg0 _ (bg0 _ (bg0 _ hp)))) (by
  have h:=RF.out.nodup;rw[List.map_cons]at h;have h:=(bg3.1 (bg3.1 (bg3.1 (bg3.1 h).2).2).2).2;exact h)).few fun p hp=>by
   simp only[bg5]at hp|-;rcases hp with rfl|rfl|rfl|rfl|h
   . simp
   . simp
   . simp
   . simp
   . simp[h])
 have x0:=aB (k:=0) (v:=.int .i64 2) s6' rfl;have x1:=aB (k:=1) (v:=.float .f64 wx) s6' rfl;have x2:=aB (k:=2) (v:=.float .f64 wy) s6' rfl;have x3:=aB (k:=3) (v:=.float .f64 4627730092099895296) s6' rfl;have x4:=aB (k:=4) (v:=.pointer (some ⟨g,0,none⟩)) s6' rfl;have x5:=aB (k:=5) (v:=.int .i64 (i:Int)) s6' rfl;have x6:=aB (k:=6) (v:=.pointer (some ⟨g,0,none⟩)) s6' rfl;have x7:=aB (k:=7) (v:=.int .i64 (j:Int)) s6' rfl;have x8:=aB (k:=8) (v:=.pointer (some ⟨g,0,none⟩)) s6' rfl;have x9:=aB (k:=9) (v:=.int .i64 (k:Int)) s6' rfl;have x10:=aB (k:=10) (v:=.pointer (some ⟨g,0,none⟩)) s6' rfl;have x11:=aB (k:=11) (v:=.int .i64 (m:Int)) s6' rfl;have y0:=aB (k:=0) (v:=.int .i64 2) s7 rfl;have y1:=aB (k:=1) (v:=.float .f64 wx) s7 rfl;have y2:=aB (k:=2) (v:=.float .f64 wy) s7 rfl;have y3:=aB (k:=3) (v:=.float .f64 4627730092099895296) s7 rfl;have y4:=aB (k:=4) (v:=.int .i64 (n:Int)) s7 rfl;have y5:=aB (k:=5) (v:=.int .i64 ((n:Int)+1)) s7 rfl;have y6:=aB (k:=6) (v:=.int .i64 ((n:Int)+2)) s7 rfl;have y7:=aB (k:=7) (v:=.int .i64 ((n:Int)+2+1)) s7 rfl
 clear g6 g7 s6 s6' s7 RF hw6 hw7;go_wp2;refine bodyPost_ret (v:=.tuple #[.agg #[_,_,_,_,_,_,_,_,_,_,_,_],.agg #[_,_,_,_,_,_,_,_]]) (by simp[results,Tryz.results14,go_sem,x0,x1,x2,x3,x4,x5,x6,x7,x8,x9,x10,x11,y0,y1,y2,y3,y4,y5,y6,y7];first|exact⟨⟨rfl,rfl,rfl,rfl,rfl,rfl,rfl,rfl,rfl,rfl,rfl,rfl⟩,⟨rfl,rfl,rfl,rfl,rfl,rfl,rfl,rfl⟩⟩|rfl) rfl ?_;exact⟨i,j,k,m,O2,ln2,rfl,B4.out,HF.out⟩
end Go.Proofs.YtjaafolhfihegaaGreatDoor
namespace Go.Proofs.YtjaafolhfihegaaGreatDoor
open Go.RowKit Go.Maps
open Re (rat ofI ofN)
open Bool renaming eq_iff_iff->bg6
variable{A1 A2 B1 B2 X X1 X2 Y:Int}{a1 a2 b1 b2 x x1 x2 y:Nat}
theorem wV(hx:Iw x X)(hy:Iw y Y)(bx:X.natAbs<=12)(b_y:Y.natAbs<=12):dQ PT (.sub (.leaf x) (.leaf y)) (X-Y).sign:=
 ((hx.fit (L:=[]) 4 (nlt bx) (by decide)).rsub (hy.fit 4 (nlt b_y) (by decide))).sign 1 (by decide) (by push_cast;grind) (by kernel_rfl)
theorem amE(v:Int):(v.sign==0)=(v==0):=by
 rw[bg6,beq_iff_eq,beq_iff_eq];exact Int.sign_eq_zero_iff_zero
theorem amF(a b:Int):(a-b==0)=(a==b):=by
 rw[bg6,beq_iff_eq,beq_iff_eq];omega
theorem oJ(h1:Iw a1 A1)(h2:Iw a2 A2)(g1:Iw b1 B1)(g2:Iw b2 B2)(c1:A1.natAbs<=12)(c2:A2.natAbs<=12)(d1:B1.natAbs<=12)(d2:B2.natAbs<=12):
 ∃c,gM PT (.leaf a1) (.leaf a2) (.leaf b1) (.leaf b2) c/\(c==0)=(A1==B1&&A2==B2):=by
 refine⟨_,⟨(A1-B1).sign,(A2-B2).sign,trivial,wV h1 g1 c1 d1,fun _=>⟨trivial,wV h2 g2 c2 d2⟩,rfl⟩,?_⟩;by_cases h:(A1-B1).sign=0
 . rw[if_pos h,amE,amF,show(A1==B1)=true from beq_iff_eq.2 (by have:=Int.sign_eq_zero_iff_zero.1 h;omega),Bool.true_and]
 . rw[if_neg h,show((A1-B1).sign==0)=false from beq_eq_false_iff_ne.2 h,show(A1==B1)=false from beq_eq_false_iff_ne.2 (fun e=>h (by rw[e,Int.sub_self];rfl)),Bool.false_and]
theorem akH(h1:Iw a1 A1)(h2:Iw a2 A2)(g1:Iw b1 B1)(g2:Iw b2 B2)(k1:Iw x1 X1)(k2:Iw x2 X2)(c1:A1.natAbs<=12)(c2:A2.natAbs<=12)(d1:B1.natAbs<=12)(d2:B2.natAbs<=12)(e1:X1.natAbs<=12)(e2:X2.natAbs<=12):
 rR PT (.leaf a1) (.leaf a2) (.leaf x1) (.leaf x2) (.leaf b1) (.leaf b2) ((X1-A1)*(B2-A2)-(X2-A2)*(B1-A1)).sign:=by
 have f1:=h1.fit (L:=[]) 4 (nlt c1) (by decide);have f2:=h2.fit (L:=[]) 4 (nlt c2) (by decide);have f3:=g1.fit (L:=[]) 4 (nlt d1) (by decide);have f4:=g2.fit (L:=[]) 4 (nlt d2) (by decide);have f5:=k1.fit (L:=[]) 4 (nlt e1) (by decide);have f6:=k2.fit (L:=[]) 4 (nlt e2) (by decide);exact(((f5.rsub f1).rmul (f4.rsub f2)).rsub ((f6.rsub f2).rmul (f3.rsub f1))).sign 1 (by decide) (by push_cast;grind) (by kernel_rfl)
def onB(a1 a2 b1 b2 x1 x2:Int):Bool:=(a1==b1&&a2==b2)||(x1==a1&&x2==a2)||(x1==b1&&x2==b2)||decide (0<(x1-a1)*(b2-a2)-(x2-a2)*(b1-a1))
theorem lL(h1:Iw a1 A1)(h2:Iw a2 A2)(g1:Iw b1 B1)(g2:Iw b2 B2)(k1:Iw x1 X1)(k2:Iw x2 X2)(c1:A1.natAbs<=12)(c2:A2.natAbs<=12)(d1:B1.natAbs<=12)(d2:B2.natAbs<=12)(e1:X1.natAbs<=12)(e2:X2.natAbs<=12):
 oN (.leaf a1) (.leaf a2) (.leaf b1) (.leaf b2) (.leaf x1) (.leaf x2) (onB A1 A2 B1 B2 X1 X2):=by
 obtain⟨p,p1,p2⟩:=oJ h1 h2 g1 g2 c1 c2 d1 d2;obtain⟨q,q1,q2⟩:=oJ k1 k2 h1 h2 e1 e2 c1 c2;obtain⟨r,r1,r2⟩:=oJ k1 k2 g1 g2 e1 e2 d1 d2;refine⟨p,q,r,_,p1,q1,r1,akH h1 h2 g1 g2 k1 k2 c1 c2 d1 d2 e1 e2,?_⟩;unfold onB;rw[p2,q2,r2]
 congr 1
 rw[bg6,beq_iff_eq,decide_eq_true_iff];exact Int.sign_eq_one_iff_pos
theorem kD{a b c:Nat}{A B C:Int}(ha:Iw a A)(hb:Iw b B)(hc:Iw c C)(hx:Iw x X)(hy:Iw y Y)(b1:A.natAbs<=12)(b2:B.natAbs<=12)(b3:C.natAbs<=25)(b4:X.natAbs<=12)(b5:Y.natAbs<=12)(h:(X-A)*(X-A)+(Y-B)*(Y-B)=C):dQ PT (gQ a b c (.leaf x) (.leaf y)) 0:=by
 have f1:=ha.fit (L:=[]) 4 (nlt b1) (by decide);have f2:=hb.fit (L:=[]) 4 (nlt b2) (by decide);have f3:=hc.fit (L:=[]) 5 (nlt b3) (by decide);have f4:=hx.fit (L:=[]) 4 (nlt b4) (by decide);have f5:=hy.fit (L:=[]) 4 (nlt b5) (by decide);refine((((f4.rsub f1).rmul (f4.rsub f1)).radd ((f5.rsub f2).rmul (f5.rsub f2))).rsub f3).zero ?_ (by kernel_rfl);rw[<-h];push_cast;grind
theorem akI(x y a1 a2 b1 b2 x1 x2:Int):onB (x+a1) (y+a2) (x+b1) (y+b2) (x+x1) (y+x2)=onB a1 a2 b1 b2 x1 x2:=by
 have e:∀u p q:Int,(u+p==u+q)=(p==q):=fun u p q=>by rw[bg6,beq_iff_eq,beq_iff_eq];omega
 unfold onB;rw[e,e,e,e,e,e,show x+x1-(x+a1)=x1-a1 by omega,show y+b2-(y+a2)=b2-a2 by omega,show y+x2-(y+a2)=x2-a2 by omega,show x+b1-(x+a1)=b1-a1 by omega]
def eqB(J L:Nat):Bool:=kXi J==kXi L&&kYi J==kYi L
def onR(J L M:Nat):Bool:=onB (kXi J) (kYi J) (kXi L) (kYi L) (kXi M) (kYi M)
theorem amG:∀J L M:Fin 12,(let s:=onR J L M;let t:=onR L J M;let u:=s&& !(eqB M J)&& !(eqB M L);let v:=t&& !(eqB M L)&& !(eqB M J);
 if eqB J L then s&&t&&u==v else(s||t)&& !(u&&t)&& !(v&&s)&&(s&&t)==(!u&& !v))=true:=by decide+kernel
theorem an3(J:Fin 12):kXi J*kXi J+kYi J*kYi J=25:=by
 revert J;decide
end Go.Proofs.YtjaafolhfihegaaGreatDoor
namespace Go.Proofs.YtjaafolhfihegaaGreatDoor
open Go.RowKit Go.Maps Go.Stop Go.Extern
open List renaming setIfInBounds_toArray->bg7,map_cons->bg8,map_nil->bg9,set->bhA
theorem fV:Iw 0 0:=⟨akF,aoS⟩
theorem wW:Iw 13830554455654793216 (-1):=⟨⟨by decide,by decide⟩,by kernel_rfl⟩
theorem yQ:(mG 0 0 4607182418800017408/\(FloatKind.f64.format.order 4607182418800017408 0==some Ordering.eq)=false/\dQ PT (gQ 0 0 4607182418800017408 (.leaf 4607182418800017408) (.leaf 0)) 0/\dQ PT (gQ 0 0 4607182418800017408 (.leaf 13830554455654793216) (.leaf 0)) 0)/\
 ((dQ PT (gQ 0 0 4607182418800017408 (.leaf 0) (.leaf 4607182418800017408)) 0/\oN (.leaf 4607182418800017408) (.leaf 0) (.leaf 13830554455654793216) (.leaf 0) (.leaf 0) (.leaf 4607182418800017408) true)/\(dQ PT (gQ 0 0 4607182418800017408 (.leaf 0) (.leaf 13830554455654793216)) 0/\oN (.leaf 4607182418800017408) (.leaf 0) (.leaf 13830554455654793216) (.leaf 0) (.leaf 0) (.leaf 13830554455654793216) false)/\oN (.leaf 4607182418800017408) (.leaf 0) (.leaf 13830554455654793216) (.leaf 0) (.leaf 4607182418800017408) (.leaf 0) true/\gM PT (.leaf 4607182418800017408) (.leaf 0) (.leaf 4607182418800017408) (.leaf 0) 0/\gM PT (.leaf 4607182418800017408) (.leaf 0) (.leaf 13830554455654793216) (.leaf 0) 1):=
 ⟨⟨⟨akF,akF,iw_1.1,by rw[amT];exact Int.mul_nonneg (by decide) (Int.natCast_nonneg _)⟩,by decide,kD fV fV iw_1 iw_1 fV (by decide) (by decide) (by decide) (by decide) (by decide) (by decide),kD fV fV iw_1 wW fV (by decide) (by decide) (by decide) (by decide) (by decide) (by decide)⟩,
   ⟨kD fV fV iw_1 fV iw_1 (by decide) (by decide) (by decide) (by decide) (by decide) (by decide),lL iw_1 fV wW fV fV iw_1 (by decide) (by decide) (by decide) (by decide) (by decide) (by decide)⟩,
   ⟨kD fV fV iw_1 fV wW (by decide) (by decide) (by decide) (by decide) (by decide) (by decide),lL iw_1 fV wW fV fV wW (by decide) (by decide) (by decide) (by decide) (by decide) (by decide)⟩,
   lL iw_1 fV wW fV iw_1 fV (by decide) (by decide) (by decide) (by decide) (by decide) (by decide),⟨_,_,trivial,wV iw_1 iw_1 (by decide) (by decide),fun _=>⟨trivial,wV fV fV (by decide) (by decide)⟩,rfl⟩,⟨_,0,trivial,wV iw_1 wW (by decide) (by decide),fun h=>absurd h (by decide),rfl⟩⟩
theorem amH{w:World}(hT:Tab w)(htb:1<w.heap.size):
 Calls Tryz.prog 29 #[] w (RetV w (.bool true)):=by
 have HN:=hdd (ad9 (l:=[]) (Below.refl w.heap.size w) (fun p hp=>by cases hp) (by simp) hT htb);clear hT htb;have HC:=hdd yQ.1;have HX:=hdd yQ.2;go_enter Tryz.func29,Tryz.ntmps29
 go_wp2_with fail
 refine HN.out.mono ?_;rintro e W1⟨g,rfl,hR⟩;have R1:=hdd hR;clear hR HN;dsimp only
 go_upto_region 4 with fail
 refine Spec.go [.w (.agg ([.v (Value.int IntKind.i64 2),.v (.float .f64 0),.v (.float .f64 0),.v (Value.float FloatKind.f64 4607182418800017408)])),.w (.c (.v (.pointer (some ⟨g,0,none⟩)))),bD g 0 1,.w (.c (.v (.pointer (some ⟨g,0,none⟩)))),bD g 2 3,.w (.agg ([.v (Value.int IntKind.i64 2),.v (.float .f64 0),.v (.float .f64 0),.v (Value.float FloatKind.f64 4607182418800017408),.v (.pointer (some ⟨g,0,none⟩)),.id 0,.v (.pointer (some ⟨g,0,none⟩)),.id 1,.v (.pointer (some ⟨g,0,none⟩)),.id 2,.v (.pointer (some ⟨g,0,none⟩)),.id 3])),.w (.c (.ptr 4 0)),noS] [2,2,4,4,6]
  [(0,(.leaf 4607182418800017408)),(1,(.leaf 0)),(2,(.leaf 13830554455654793216)),(3,(.leaf 0))] [⟨4,35,[.v (.int .i64 0),.v (.float .f64 0),.v (.float .f64 0),.v (.float .f64 0),.v (.pointer none),.v (.int .i64 0),.v (.pointer none),.v (.int .i64 0),.v (.pointer none),.v (.int .i64 0),.v (.pointer none),.v (.int .i64 0)],some (7,[.v (Value.int IntKind.i64 2),.v (.float .f64 0),.v (.float .f64 0),.v (Value.float FloatKind.f64 4607182418800017408),.v (.pointer (some ⟨g,0,none⟩)),.id 0,.v (.pointer (some ⟨g,0,none⟩)),.id 1,.v (.pointer (some ⟨g,0,none⟩)),.id 2,.v (.pointer (some ⟨g,0,none⟩)),.id 3])⟩]
  [0,0,2,0,2,0,0,0] [[],[],[1],[],[3],rgn 5,[],rgn 7] [(1,.w (.c (.v (.pointer (some ⟨g,0,none⟩)))))]
  [13,14,15,16,17,18,3,0] [] 8 4 [] [] R1.out
  (fun b hM=>aA (aA (aA (aA (aA (aA (aA (aA aM
    (aD b))
    (aD b))
    (aX b (c_at hM (by decide) (by decide) (by decide) (by decide) rfl rfl rfl rfl (by decide) rfl)))
    (aD b))
    (aX b (c_at hM (by decide) (by decide) (by decide) (by decide) rfl rfl rfl rfl (by decide) rfl)))
    (aD b))
    (bI b m0))
    (fK b 12 m0)) ?_
 intro n1 n2 n3 n4 b5 ν W2 hR;have R2:=hdd hR;clear hR R1;simp only[putL,bg7,bhA,fs0,fs1,fsn,dSw,dSt,dWc,dWa,dv,di,dp,ds',bg8,bg9,nuTn,nuT0,nuT1,nuU0,nuU1,dA12,dP8,dP24]
 go_upto_region 5 with fail
 refine Spec.go [.w (.c (.v (.pointer (some ⟨g,0,none⟩)))),.w (.agg ([.v (Value.int IntKind.i64 2),.v (.float .f64 0),.v (.float .f64 0),.v (Value.float FloatKind.f64 4607182418800017408),.v (.pointer (some ⟨g,0,none⟩)),.id 0,.v (.pointer (some ⟨g,0,none⟩)),.id 1,.v (.pointer (some ⟨g,0,none⟩)),.id 2,.v (.pointer (some ⟨g,0,none⟩)),.id 3])),.w (.c (.v (.pointer (some ⟨g,0,none⟩)))),bD g 5 6,.tup [.c (.v (.bool true)),.c (.v .nilIface)],.tup [.c (.v (.bool true)),.c (.v .nilIface)],.w (.c (.v (.bool true))),.w (.c (.v .nilIface)),.w (.c (.v (.bool true))),.w (.c (.v .nilIface))] [3,3]
  [(0,(.leaf 4607182418800017408)),(1,(.leaf 0)),(2,(.leaf 13830554455654793216)),(3,(.leaf 0)),(5,(.leaf 0)),(6,(.leaf 4607182418800017408))] [⟨4,35,[.v (Value.int IntKind.i64 2),.v (.float .f64 0),.v (.float .f64 0),.v (Value.float FloatKind.f64 4607182418800017408),.v (.pointer (some ⟨g,0,none⟩)),.id 0,.v (.pointer (some ⟨g,0,none⟩)),.id 1,.v (.pointer (some ⟨g,0,none⟩)),.id 2,.v (.pointer (some ⟨g,0,none⟩)),.id 3],none⟩]
  [0,0,0,2,40,0,0,0,0,0] [[],[],[],[2],rgn 4,rgn 5,rgn 6,rgn 6,rgn 7,[0,1,2,3,4,5,7]] [(1,.w (.c (.v (.pointer (some ⟨g,0,none⟩))))),(2,.w (.c (.ptr 4 0)))]
  [20,21,22,23,24,19,25,26,4,5] [n1,n2,n3,n4,b5] 10 46 [] [] R2.out
  (fun b hM=>aA (aA (aA (aA (aA (aA (aA (aA (aA (aA aM
    (aD b))
    (aL b 12 m0))
    (aD b))
    (aX b (c_at hM (by decide) (by decide) (by decide) (by decide) rfl rfl rfl rfl (by decide) rfl)))
    (aX b (c_fn (ix:=[0,1,2,3,4,5]) (ts:=[]) hM (fun ν=>qR HC.out.1 HC.out.2.1 HC.out.2.2.1 HC.out.2.2.2 HX.out.1.1 HX.out.1.2))))
    (aD b))
    (aD b))
    (aD b))
    (aD b))
    (aD b)) ?_
 intro n6 n7 ν W3 hR;have R3:=hdd hR;clear hR R2;simp only[putL,bg7,bhA,fs0,fs1,fsn,dSw,dSt,dWc,dWa,dv,di,dp,ds',bg8,bg9,nuTn,nuT0,nuT1,nuU0,nuU1,dA12,dP8,dP24]
 go_upto_region 6 with fail
 refine Spec.go [.w (.c (.v (.pointer (some ⟨g,0,none⟩)))),.w (.agg ([.v (Value.int IntKind.i64 2),.v (.float .f64 0),.v (.float .f64 0),.v (Value.float FloatKind.f64 4607182418800017408),.v (.pointer (some ⟨g,0,none⟩)),.id 0,.v (.pointer (some ⟨g,0,none⟩)),.id 1,.v (.pointer (some ⟨g,0,none⟩)),.id 2,.v (.pointer (some ⟨g,0,none⟩)),.id 3])),.w (.c (.v (.pointer (some ⟨g,0,none⟩)))),bD g 5 6,.tup [.c (.v (.bool false)),.c (.v .nilIface)],.tup [.c (.v (.bool false)),.c (.v .nilIface)],.w (.c (.v (.bool false))),.w (.c (.v .nilIface)),.w (.c (.v (.bool false))),.w (.c (.v .nilIface))] [3,3]
  [(0,(.leaf 4607182418800017408)),(1,(.leaf 0)),(2,(.leaf 13830554455654793216)),(3,(.leaf 0)),(5,(.leaf 0)),(6,(.leaf 13830554455654793216))] [⟨4,35,[.v (Value.int IntKind.i64 2),.v (.float .f64 0),.v (.float .f64 0),.v (Value.float FloatKind.f64 4607182418800017408),.v (.pointer (some ⟨g,0,none⟩)),.id 0,.v (.pointer (some ⟨g,0,none⟩)),.id 1,.v (.pointer (some ⟨g,0,none⟩)),.id 2,.v (.pointer (some ⟨g,0,none⟩)),.id 3],none⟩]
  [0,0,0,2,40,0,0,0,0,0] [[],[],[],[2],rgn 4,rgn 5,rgn 6,rgn 6,rgn 7,[0,1,2,3,4,5,7]] [(1,.w (.c (.v (.pointer (some ⟨g,0,none⟩))))),(2,.w (.c (.ptr 4 0)))]
  [28,29,30,31,32,27,33,34,6,7] [n1,n2,n3,n4,b5] 10 88 [true,true,true,true,false,false] [] R3.out
  (fun b hM=>aA (aA (aA (aA (aA (aA (aA (aA (aA (aA aM
    (aD b))
    (aL b 12 m0))
    (aD b))
    (aX b (c_at hM (by decide) (by decide) (by decide) (by decide) rfl rfl rfl rfl (by decide) rfl)))
    (aX b (c_fn (ix:=[0,1,2,3,4,5]) (ts:=[]) hM (fun ν=>qR HC.out.1 HC.out.2.1 HC.out.2.2.1 HC.out.2.2.2 HX.out.2.1.1 HX.out.2.1.2))))
    (aD b))
    (aD b))
    (aD b))
    (aD b))
    (aD b)) ?_
 intro n8 n9 ν W4 hR;have R4:=hdd hR;clear hR R3;simp only[putL,bg7,bhA,fs0,fs1,fsn,dSw,dSt,dWc,dWa,dv,di,dp,ds',bg8,bg9,nuTn,nuT0,nuT1,nuU0,nuU1,dA12,dP8,dP24]
 go_upto_region 7 with fail
 refine Spec.go [.w (.c (.v (.pointer (some ⟨g,0,none⟩)))),.w (.agg ([.v (Value.int IntKind.i64 2),.v (.float .f64 0),.v (.float .f64 0),.v (Value.float FloatKind.f64 4607182418800017408),.v (.pointer (some ⟨g,0,none⟩)),.id 0,.v (.pointer (some ⟨g,0,none⟩)),.id 1,.v (.pointer (some ⟨g,0,none⟩)),.id 2,.v (.pointer (some ⟨g,0,none⟩)),.id 3])),.w (.c (.v (.pointer (some ⟨g,0,none⟩)))),bD g 5 6,.tup [.c (.v (.bool (true&& !(((0:Int))==0)&& !(((1:Int))==0)))),.c (.v .nilIface)],.tup [.c (.v (.bool (true&& !(((0:Int))==0)&& !(((1:Int))==0)))),.c (.v .nilIface)],.w (.c (.v (.bool (true&& !(((0:Int))==0)&& !(((1:Int))==0))))),.w (.c (.v .nilIface)),.w (.c (.v (.bool (true&& !(((0:Int))==0)&& !(((1:Int))==0))))),.w (.c (.v .nilIface))] [3,3]
  [(0,(.leaf 4607182418800017408)),(1,(.leaf 0)),(2,(.leaf 13830554455654793216)),(3,(.leaf 0)),(5,(.leaf 4607182418800017408)),(6,(.leaf 0))] [⟨4,35,[.v (Value.int IntKind.i64 2),.v (.float .f64 0),.v (.float .f64 0),.v (Value.float FloatKind.f64 4607182418800017408),.v (.pointer (some ⟨g,0,none⟩)),.id 0,.v (.pointer (some ⟨g,0,none⟩)),.id 1,.v (.pointer (some ⟨g,0,none⟩)),.id 2,.v (.pointer (some ⟨g,0,none⟩)),.id 3],none⟩]
  [0,0,0,2,44,0,0,0,0,0] [[],[],[],[2],rgn 4,rgn 5,rgn 6,rgn 6,rgn 7,[0,1,2,3,4,5,7]] [(1,.w (.c (.v (.pointer (some ⟨g,0,none⟩))))),(2,.w (.c (.ptr 4 0)))]
  [36,37,38,39,40,35,41,42,8,9] [n1,n2,n3,n4,b5] 10 134 [true,true,true,true,false,false] [] R4.out
  (fun b hM=>aA (aA (aA (aA (aA (aA (aA (aA (aA (aA aM
    (aD b))
    (aL b 12 m0))
    (aD b))
    (aX b (c_at hM (by decide) (by decide) (by decide) (by decide) rfl rfl rfl rfl (by decide) rfl)))
    (aX b (c_fn (ix:=[0,1,2,3,4,5]) (ts:=[]) hM (fun ν=>wT HC.out.1 HC.out.2.1 HC.out.2.2.1 HC.out.2.2.2 HC.out.2.2.1 HX.out.2.2.1 HX.out.2.2.2.1 HX.out.2.2.2.2))))
    (aD b))
    (aD b))
    (aD b))
    (aD b))
    (aD b)) ?_
 intro n10 n11 ν W5 hR;replace hR:Run (bs w) g 134 [((.leaf 4607182418800017408),n1),((.leaf 0),n2),((.leaf 13830554455654793216),n3),((.leaf 0),n4),((.leaf 4607182418800017408),n10),((.leaf 0),n11)] [(b5,.cells #[(Value.int IntKind.i64 2),.float .f64 0,.float .f64 0,(Value.float FloatKind.f64 4607182418800017408),.pointer (some ⟨g,0,none⟩),.int .i64 ((n1:Nat):Int),.pointer (some ⟨g,0,none⟩),.int .i64 ((n2:Nat):Int),.pointer (some ⟨g,0,none⟩),.int .i64 ((n3:Nat):Int),.pointer (some ⟨g,0,none⟩),.int .i64 ((n4:Nat):Int)] 35)] W5:=hR;have R5:=hdd hR;clear hR R4;simp only[putL,bg7,bhA,fs0,fs1,fsn,dSw,dSt,dWc,dWa,dv,di,dp,ds',bg8,bg9,nuTn,nuT0,nuT1,nuU0,nuU1,dA12,dP8,dP24];have HB:=hdd R5.out.below;clear R5 HC HX;go_wp2;go_ret;exact⟨rfl,HB.out⟩
end Go.Proofs.YtjaafolhfihegaaGreatDoor
namespace Go.Proofs.YtjaafolhfihegaaGreatDoor
open Go.RowKit Go.Maps
variable{a:Int}
theorem akJ(k:Int):∃J:Nat,J<12/\(k.tmod 12+12).tmod 12=(J:Int):=by
 have h1:=Int.lt_tmod_of_pos k (show(0:Int)<12 by omega);have h3:0<=(k.tmod 12+12).tmod 12:=Int.tmod_nonneg _ (by omega);have h4:=Int.tmod_lt_of_pos (k.tmod 12+12) (show(0:Int)<12 by omega);exact⟨((k.tmod 12+12).tmod 12).toNat,by omega,by omega⟩
theorem flw(h:a.natAbs<=6):Iw (fl a) a:=⟨⟨(adN (by omega)).1,(adN (by omega)).2.1⟩,(adN (by omega)).2.2⟩
theorem rT{J:Nat}(k:Int)(hJ:J<12)(e:k.tmod 7=a):Iw (fl a) a/\a.natAbs<=6/\(∃p,Op2 .add (fl a) (kX J) p/\Iw p (a+kXi J)/\(a+kXi J).natAbs<=12)/\∃p,Op2 .add (fl a) (kY J) p/\Iw p (a+kYi J)/\(a+kYi J).natAbs<=12:=by
 have h1:=Int.lt_tmod_of_pos k (show(0:Int)<7 by omega);have h2:=Int.tmod_lt_of_pos k (show(0:Int)<7 by omega);obtain⟨i1,i2⟩:=amC hJ;obtain⟨b1,b2⟩:=amD hJ;have h0:Iw (fl a) a:=flw (by omega);obtain⟨p,o1,p1⟩:=aj8 h0 i1 (by omega);obtain⟨q,o2,q1⟩:=aj8 h0 i2 (by omega);exact⟨h0,by omega,⟨p,o1,p1,by omega⟩,q,o2,q1,by omega⟩
end Go.Proofs.YtjaafolhfihegaaGreatDoor
