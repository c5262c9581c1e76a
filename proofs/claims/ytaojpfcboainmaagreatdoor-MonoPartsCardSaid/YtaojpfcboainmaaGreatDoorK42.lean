/- A part of the proof: contracts of functions and plain laws (MkA, MnB, QlW, MnA, CiA). -/
import Derived.Test.YtaojpfcboainmaaGreatDoorK41
import Derived.Test.YtaojpfcboainmaaGreatDoorK17
import Derived.Test.YtaojpfcboainmaaGreatDoorK33
import Derived.Test.YtaojpfcboainmaaGreatDoorK34
import Derived.Deep.AppendLies
import Derived.Test.YtaojpfcboainmaaGreatDoorK32
set_option linter.unusedVariables false
set_option linter.unusedSimpArgs false
set_option maxHeartbeats 25600000
set_option maxRecDepth 100000
namespace Go.Proofs.YtaojpfcboainmaaGreatDoor
section
open Go.RowKit Go.Maps Go.Stop Go.Extern
open Go.RowKit.Below renaming heap_setCell->ar2
open Go.Value.slice renaming injEq->ar6
open List renaming mem_cons_of_mem->ar0,nodup_cons->ar3,mem_append->ar4,length_append->ar5,length_singleton->ar8,mem_cons_self->ar9,append_assoc->asA,mem_map->asB,length_cons->asC,map_append->asD,mem_cons->asE,map_cons->asF
open Nat renaming le_add_right->ar1
open Option.some renaming injEq->ar7
variable{l ln:List (Nat×Obj)}{vs:List Value}{B b c r:Nat}{a z0 z1 z2 z3:Value}{w w0 w1:World}
abbrev aV(x y u v i k:Int):Value:=.agg #[.bool true,.int .i64 x,.int .i64 y,.int .i64 u,.int .i64 v,.int .i64 i,.int .i64 k,.int .i64 0]
abbrev aO(x y u v i k:Int):Obj:=.cells #[.bool true,.int .i64 x,.int .i64 y,.int .i64 u,.int .i64 v,.int .i64 i,.int .i64 k,.int .i64 0] 23
theorem ixp0(a b:Int)(w:World):(Instr.index 63 (.agg #[.int .i64 a,.int .i64 b]) (.int .i64 0)).run Tryz.prog w=.ok (.int .i64 a) w:=by kernel_rfl
theorem ixp1(a b:Int)(w:World):(Instr.index 63 (.agg #[.int .i64 a,.int .i64 b]) (.int .i64 1)).run Tryz.prog w=.ok (.int .i64 b) w:=by kernel_rfl
theorem ao8{g:Nat}{T:TypeId}{b:Value}(hb:Below B w0 w1)(hg:B<=g)(h:w1.heap[g]? =some (.cells #[z0,z1,z2,z3] T (0,0))):
 ∃w2,(w1.setCell ⟨g,0,none⟩ a).setCell ⟨g,1,none⟩ b=w2/\Below B w0 w2/\w2.heap[g]? =some (.cells #[a,b,z2,z3] T (0,0))/\∀i,g≠i->w2.heap[i]? =w1.heap[i]? :=
 ⟨_,rfl,(hb.setCell hg _).setCell hg _,kC (cs:=[a,z1,z2,z3]) (k:=1) (kC (cs:=[z0,z1,z2,z3]) (k:=0) h),fun i hi=>by rw[ar2 _ _ _ _ (by simp;omega),ar2 _ _ _ _ (by simp;omega)]⟩
theorem ao9{g:Nat}{T:TypeId}{b:Value}(hb:Below B w0 w1)(hg:B<=g)(h:w1.heap[g]? =some (.cells #[z0,z1,z2,z3] T (0,0))):
 ∃w2,(w1.setCell ⟨g,2,none⟩ a).setCell ⟨g,3,none⟩ b=w2/\Below B w0 w2/\w2.heap[g]? =some (.cells #[z0,z1,a,b] T (0,0))/\∀i,g≠i->w2.heap[i]? =w1.heap[i]? :=
 ⟨_,rfl,(hb.setCell hg _).setCell hg _,kC (cs:=[z0,z1,a,z3]) (k:=3) (kC (cs:=[z0,z1,z2,z3]) (k:=2) h),fun i hi=>by rw[ar2 _ _ _ _ (by simp;omega),ar2 _ _ _ _ (by simp;omega)]⟩
def gG(w:World)(b:Nat):Nat->List Value->World
 |_,[]=>w
 |k,v::vs=>gG (w.setCell ⟨b,k,none⟩ v) b (k+1) vs
theorem dU{b:Nat}:∀(vs:List Value) (k:Nat) (w:World),w.grownBy (gG w b k vs) (some b)
 |[],_,w=>mH w _
 |v::vs,k,w=>grownBy_trans (grownBy_set (mH w _) v) (dU vs (k+1) _)
theorem zA{b:Nat}{T:TypeId}:∀(vs pre rest:List Value) (w:World),w.heap[b]? =some (.cells (pre++rest).toArray T (0,0))->rest.length=vs.length->(gG w b pre.length vs).heap[b]? =some (.cells (pre++vs).toArray T (0,0))
 |[],pre,[],w,h,_=>h
 |[],_,_::_,_,_,e=>by simp at e
 |_::_,_,[],_,_,e=>by simp at e
 |v::vs,pre,r::rest,w,h,e=>by
  have h1:=kC (k:=pre.length) (v:=v) h;have e1:(pre++r::rest).set pre.length v=(pre++[v])++rest:=by simp
  rw[e1]at h1;have h2:=zA vs (pre++[v]) rest _ h1 (by simpa using e);rw[asA]at h2;rw[ar5,ar8]at h2;exact h2
theorem jK{T:TypeId}{cs:List Value}(h:w.heap[b]? =some (.cells cs.toArray T (0,0)))(e:cs.length=vs.length):(gG w b 0 vs).heap[b]? =some (.cells vs.toArray T (0,0)):=zA vs [] cs w h e
theorem m_lb{x y:Nat×Obj}{lb:List (Nat×Obj)}(h:x∈lb):x∈y::(ln++(lb++l)):=ar0 _ (ar4.2 (Or.inr (ar4.2 (Or.inl h))))
theorem mQ{T:TypeId}{cs:Array Value}(h:w.heap[b]? =some (.cells cs T (0,0)))(k:Nat):w.frozen? ⟨b,k,none⟩=false:=by simp[World.frozen?,h]
abbrev arcR(a b n:Nat):Value:=.agg #[.int .i64 2,.float .f64 a,.float .f64 b,.float .f64 4627730092099895296,.int .i64 (n:Int),.int .i64 ((n:Int)+1),.int .i64 ((n:Int)+2),.int .i64 ((n:Int)+2+1)]
theorem xE{s:Bs}{g N bb n J L:Nat}{K:List (Ex×Nat)}{W:World}{O:Obj}{X Y U V I Kk:Int}{wx wy p0 p1 q0 q1:Nat}(hR:Run s g N K ((bb,O)::(ln++l)) W)(hB:BrdB bb n ln O)(hN:N+4<=20000)(hn:n<900)(hJ:J<12)(hI:(I.tmod 12+12).tmod 12=(J:Int))(hL:L<12)(hK:(Kk.tmod 12+12).tmod 12=(L:Int))
 (hx:fl (X.tmod 7)=wx) (hy:fl (Y.tmod 7)=wy) (a1:Op2 .add wx (kX J) p0) (a2:Op2 .add wy (kY J) p1) (a3:Op2 .add wx (kX L) q0) (a4:Op2 .add wy (kY L) q1) (f0:FlOk p0) (f1:FlOk p1) (f2:FlOk q0) (f3:FlOk q1):
 Calls Tryz.prog 10 #[aV X Y U V I Kk,.pointer (some ⟨g,0,none⟩),.pointer (some ⟨bb,0,none⟩)] W (fun e W'=>∃(i j k m:Nat) (O':Obj) (ln':List (Nat×Obj)),e=.returned (.tuple #[arcV g wx wy 4627730092099895296 i j k m,arcR wx wy n])/\BrdB bb (n+4) ln' O'/\Run s g (N+4) ((.leaf p0,i)::(.leaf p1,j)::(.leaf q0,k)::(.leaf q1,m)::K) ((bb,O')::(ln'++l)) W'):=by
 obtain⟨w3,hw3,hb3,hs3,b1,b2,b3⟩:=pro3 W (aO X Y U V I Kk) (.cells #[.int .i64 0,.float .f64 0,.float .f64 0,.float .f64 0,.pointer none,.int .i64 0,.pointer none,.int .i64 0,.pointer none,.int .i64 0,.pointer none,.int .i64 0] 39) (.cells #[.int .i64 0,.float .f64 0,.float .f64 0,.float .f64 0,.int .i64 0,.int .i64 0,.int .i64 0,.int .i64 0] 43);have C1:∀k v,[.bool true,.int .i64 X,.int .i64 Y,.int .i64 U,.int .i64 V,.int .i64 I,.int .i64 Kk,.int .i64 0][k]? =some v->w3.cell? ⟨W.heap.size,k,none⟩=some v:=fun k v h=>aB b1 h;have c0:=C1 0 _ rfl;have c1:=C1 1 _ rfl;have c2:=C1 2 _ rfl;have c5:=C1 5 _ rfl;have c6:=C1 6 _ rfl;have c7:=C1 7 _ rfl;have HR:=hdd hR;have HB:=hdd hB;have HB3:=hdd hb3;have B1:=hdd b1;have B2:=hdd b2;have B3:=hdd b3;have CI:=hdd (fun w=>y9 (w:=w) hJ hI);have CK:=hdd (fun w=>y9 (w:=w) hL hK);have FF:=hdd (And.intro f0 (And.intro f1 (And.intro f2 f3)));clear hR hB hb3 b1 b2 b3 C1 hI hK f0 f1 f2 f3;have hst:=aY;go_enter Tryz.func10,Tryz.ntmps10
 go_wp2_with fail
 go_quiet (fail)
 obtain⟨v3,hv3⟩:∃v,w3.drewN nq=v:=⟨_,rfl⟩;have hx':floatOfInt FloatKind.f64 (X.tmod 7)=wx:=hx;have hy':floatOfInt FloatKind.f64 (Y.tmod 7)=wy:=hy;simp only[hv3,hx',hy'];have hh:v3.heap=w3.heap:=by rw[<-hv3];rfl
 have D1:=B1.out;have D2:=B2.out;have D3:=B3.out;rw[<-hh]at D1 D2 D3;replace D1:=hdd D1;replace D2:=hdd D2;replace D3:=hdd D3;have HV:Hid (Below W.heap.size W v3):=hdd (by rw[<-hv3];exact⟨HB3.out.os,HB3.out.tape,HB3.out.output,HB3.out.size,HB3.out.block⟩);have hvs:v3.heap.size=W.heap.size+3:=by rw[hh];exact hs3
 clear hh hw3 hs3 c0 c1 c2 c5 c6 c7 hv3 hx hy hx' hy' B1 B2 B3 HB3;clear nq;obtain⟨w5,hw5,hb5,hs5,b4,b5⟩:=pro2 v3 (curO 0 0 0 0) (.cells #[.float .f64 0,.float .f64 0,.float .f64 0,.float .f64 0] 72);rw[hvs]at b4 b5;have E1:=hdd (hbl D1.out hb5);have E2:=hdd (hbl D2.out hb5);have E3:=hdd (hbl D3.out hb5);have E4:=hdd b4;have E5:=hdd b5;have H5:=hdd (aC HV.out hb5);have C1:∀k v,[.bool true,.int .i64 X,.int .i64 Y,.int .i64 U,.int .i64 V,.int .i64 I,.int .i64 Kk,.int .i64 0][k]? =some v->w5.cell? ⟨W.heap.size,k,none⟩=some v:=fun k v h=>aB E1.out h;have c0:=C1 0 _ rfl;have c5:=C1 5 _ rfl;have c6:=C1 6 _ rfl;have c7:=C1 7 _ rfl;obtain⟨d0,d1,d2,d3⟩:=aW b4;obtain⟨e0,e1,e2,e3⟩:=vM b4;clear D1 D2 D3 HV hb5 b4 b5 C1 w3;go_wp2_with fail
 obtain⟨w6,hw6,hb6,q1,q2⟩:=alH (a:=.int .i64 2) (b:=.float .f64 wx) (c:=.float .f64 wy) (d:=.float .f64 4627730092099895296) H5.out (ar1 _ 3) E4.out;simp only[hw6];have G1:=hdd ((q2 W.heap.size (by omega)).trans E1.out);have G2:=hdd ((q2 (W.heap.size+1) (by omega)).trans E2.out);have G3:=hdd ((q2 (W.heap.size+2) (by omega)).trans E3.out);have G4:=hdd q1;have G5:=hdd ((q2 (W.heap.size+4) (by omega)).trans E5.out);have H6:=hdd hb6;clear c0 c5 c6 c7 d0 d1 d2 d3 e0 e1 e2 e3 E1 E2 E3 E4 E5 H5 hb6 q1 q2 hw6 hw5 hs5;have hix0:=ixp0 I Kk;have hix1:=ixp1 I Kk;refine wp_loop_rounds 3 ?_;rw[rounds_succ];go_wp2_with fail
 refine(CI.out _).mono ?_;rintro e w7⟨rfl,hb7⟩;have I1:=hdd (hbl G1.out hb7);have I2:=hdd (hbl G2.out hb7);have I3:=hdd (hbl G3.out hb7);have I4:=hdd (hbl G4.out hb7);have I5:=hdd (hbl G5.out hb7);have H7:=hdd (H6.out.trans (hb7.mono H6.out.size));obtain⟨d0,d1,d2,d3⟩:=aW I5.out;obtain⟨e0,e1,e2,e3⟩:=vM I5.out;clear G1 G2 G3 G4 G5 H6 hb7 CI;go_wp2_with (simp only[a1,a2])
 obtain⟨w8,hw8,hb8,r1,r2⟩:=ao8 (a:=.float .f64 p0) (b:=.float .f64 p1) H7.out (show W.heap.size<=W.heap.size+3+1 by omega) I5.out;simp only[hw8];have G1:=hdd ((r2 W.heap.size (by omega)).trans I1.out);have G2:=hdd ((r2 (W.heap.size+1) (by omega)).trans I2.out);have G3:=hdd ((r2 (W.heap.size+2) (by omega)).trans I3.out);have G4:=hdd ((r2 (W.heap.size+3) (by omega)).trans I4.out);have G5:=hdd r1;have H8:=hdd hb8;clear d0 d1 d2 d3 e0 e1 e2 e3 I1 I2 I3 I4 I5 H7 hb8 r1 r2 hw8;rw[rounds_succ];go_wp2_with fail
 refine(CK.out _).mono ?_;rintro e w9⟨rfl,hb9⟩;have I1:=hdd (hbl G1.out hb9);have I2:=hdd (hbl G2.out hb9);have I3:=hdd (hbl G3.out hb9);have I4:=hdd (hbl G4.out hb9);have I5:=hdd (hbl G5.out hb9);have H9:=hdd (H8.out.trans (hb9.mono H8.out.size));obtain⟨d0,d1,d2,d3⟩:=aW I5.out;obtain⟨e0,e1,e2,e3⟩:=vM I5.out;clear G1 G2 G3 G4 G5 H8 hb9 CK;go_wp2_with (simp only[a3,a4])
 obtain⟨wa,hwa,hba,r1,r2⟩:=ao9 (a:=.float .f64 q0) (b:=.float .f64 q1) H9.out (show W.heap.size<=W.heap.size+3+1 by omega) I5.out;simp only[hwa];have G1:=hdd ((r2 W.heap.size (by omega)).trans I1.out);have G2:=hdd ((r2 (W.heap.size+1) (by omega)).trans I2.out);have G3:=hdd ((r2 (W.heap.size+2) (by omega)).trans I3.out);have G4:=hdd ((r2 (W.heap.size+3) (by omega)).trans I4.out);have G5:=hdd r1;have HA:=hdd hba;clear d0 d1 d2 d3 e0 e1 e2 e3 I1 I2 I3 I4 I5 H9 hba r1 r2 hwa;have c7:=aB (k:=7) (v:=.int .i64 0) G1.out rfl;have hbit:Go.bits BinOp.and IntKind.i64 0 15=0:=by decide
 rw[rounds_succ];go_wp2_with fail
 clear c7 hbit hix0 hix1;have HD:Below W.heap.size W wa.drew:=⟨HA.out.os,HA.out.tape,HA.out.output,HA.out.size,HA.out.block⟩;have R0:=hdd ((HR.out.keeps HD [(W.heap.size+1,.cells #[.int .i64 0,.float .f64 0,.float .f64 0,.float .f64 0,.pointer none,.int .i64 0,.pointer none,.int .i64 0,.pointer none,.int .i64 0,.pointer none,.int .i64 0] 39),(W.heap.size+2,.cells #[.int .i64 0,.float .f64 0,.float .f64 0,.float .f64 0,.int .i64 0,.int .i64 0,.int .i64 0,.int .i64 0] 43),(W.heap.size+3,curO 2 wx wy 4627730092099895296),(W.heap.size+4,.cells #[.float .f64 p0,.float .f64 p1,.float .f64 q0,.float .f64 q1] 72)] (by
  intro p hp;simp only[asE,List.not_mem_nil,or_false]at hp;rcases hp with rfl|rfl|rfl|rfl
  . exact⟨G2.out,ar1 _ _⟩
  . exact⟨G3.out,ar1 _ _⟩
  . exact⟨G4.out,ar1 _ _⟩
  . exact⟨G5.out,ar1 _ _⟩) (by simp)).perm abS)
 have SP1:=hdd (R0.out.spot (by omega) FF.out.1.1 FF.out.2.1.1 FF.out.1.2 FF.out.2.1.2);have Q4:=R0.out.at (m_lb m2);have Q5:=R0.out.at (m_lb m3);obtain⟨d0,d1,d2,d3⟩:=aW Q4;obtain⟨e0,e1,e2,e3⟩:=aW Q5;clear Q4 Q5 HD
 go_region_held3 (fun w'=>w'.cell? ⟨W.heap.size+3,0,none⟩=some (.int .i64 2)/\w'.cell? ⟨W.heap.size+3,1,none⟩=some (.float .f64 wx)/\w'.cell? ⟨W.heap.size+3,2,none⟩=some (.float .f64 wy)/\w'.cell? ⟨W.heap.size+3,3,none⟩=some (.float .f64 4627730092099895296)/\w'.cell? ⟨W.heap.size+3+1,0,none⟩=some (.float .f64 p0)/\w'.cell? ⟨W.heap.size+3+1,1,none⟩=some (.float .f64 p1)/\w'.cell? ⟨W.heap.size+3+1,2,none⟩=some (.float .f64 q0)/\w'.cell? ⟨W.heap.size+3+1,3,none⟩=some (.float .f64 q1)) (go_keep)
  (first
  |(go_at_call 17
    with_reducible refine SP1.out.mono ?_
    rintro e w1⟨i,j,rfl,hr⟩;have R1:=hdd hr;have Q4:=R1.out.at (m_lb m2);have Q5:=R1.out.at (m_lb m3);obtain⟨d0,d1,d2,d3⟩:=aW Q4;obtain⟨e0,e1,e2,e3⟩:=aW Q5;have SP2:=hdd (R1.out.spot (by omega) FF.out.2.2.1.1 FF.out.2.2.2.1 FF.out.2.2.1.2 FF.out.2.2.2.2);clear Q4 Q5 hr)
  |(go_at_call 17
    with_reducible refine SP2.out.mono ?_
    rintro e w2⟨k,m,rfl,hr⟩;have R2:=hdd hr;have Q4:=R2.out.at (m_lb m2);have Q5:=R2.out.at (m_lb m3);obtain⟨d0,d1,d2,d3⟩:=aW Q4;obtain⟨e0,e1,e2,e3⟩:=aW Q5;have BA1:=hdd (R2.out.brd_at (x:=p0) (y:=p1) HB.out (by omega));clear Q4 Q5 hr)
  |(go_at_call 22
    with_reducible refine BA1.out.mono ?_
    rintro e w4⟨rfl,O1,ln1,hB1,hr⟩;have R3:=hdd hr;have Q4:=R3.out.at (m_lb m2);have Q5:=R3.out.at (m_lb m3);obtain⟨d0,d1,d2,d3⟩:=aW Q4;obtain⟨e0,e1,e2,e3⟩:=aW Q5;have BA2:=hdd (R3.out.brd_at (x:=q0) (y:=q1) hB1 (by omega));clear Q4 Q5 hr)
  |(go_at_call 22
    with_reducible refine BA2.out.mono ?_
    rintro e w5⟨rfl,O2,ln2,hB2,hr⟩;have R4:=hdd hr;have Q4:=R4.out.at (m_lb m2);have Q5:=R4.out.at (m_lb m3);obtain⟨d0,d1,d2,d3⟩:=aW Q4;obtain⟨e0,e1,e2,e3⟩:=aW Q5;have Q6:=R4.out.at (m_lb m0);have Q7:=R4.out.at (m_lb m1);have B4:=hdd hB2;obtain⟨x0,x1,x2,x3,x4,x5,x6,x7,x8,x9,x10,x11⟩:=ap1 Q6;obtain⟨y0,y1,y2,y3,y4,y5,y6,y7⟩:=ap5 Q7;have z6:=mQ Q6;have z7:=mQ Q7;have P6:=hdd Q6;have P7:=hdd Q7;clear Q6 Q7;clear Q4 Q5 hr))
 obtain⟨w6,hw6⟩:∃v,gG w5 (W.heap.size+1) 0 [(.int .i64 2),(.float .f64 wx),(.float .f64 wy),(.float .f64 4627730092099895296),(.pointer (some ⟨g,0,none⟩)),(.int .i64 (i:Int)),(.pointer (some ⟨g,0,none⟩)),(.int .i64 (j:Int)),(.pointer (some ⟨g,0,none⟩)),(.int .i64 (k:Int)),(.pointer (some ⟨g,0,none⟩)),(.int .i64 (m:Int))]=v:=⟨_,rfl⟩;obtain⟨w7,hw7⟩:∃v,gG w6 (W.heap.size+1+1) 0 [(.int .i64 2),(.float .f64 wx),(.float .f64 wy),(.float .f64 4627730092099895296),(.int .i64 (n:Int)),(.int .i64 ((n:Int)+1)),(.int .i64 ((n:Int)+2)),(.int .i64 ((n:Int)+2+1))]=v:=⟨_,rfl⟩;have g6:=dU (b:=W.heap.size+1) [(.int .i64 2),(.float .f64 wx),(.float .f64 wy),(.float .f64 4627730092099895296),(.pointer (some ⟨g,0,none⟩)),(.int .i64 (i:Int)),(.pointer (some ⟨g,0,none⟩)),(.int .i64 (j:Int)),(.pointer (some ⟨g,0,none⟩)),(.int .i64 (k:Int)),(.pointer (some ⟨g,0,none⟩)),(.int .i64 (m:Int))] 0 w5;have g7:=dU (b:=W.heap.size+1+1) [(.int .i64 2),(.float .f64 wx),(.float .f64 wy),(.float .f64 4627730092099895296),(.int .i64 (n:Int)),(.int .i64 ((n:Int)+1)),(.int .i64 ((n:Int)+2)),(.int .i64 ((n:Int)+2+1))] 0 w6
 have s6:=jK (vs:=[(.int .i64 2),(.float .f64 wx),(.float .f64 wy),(.float .f64 4627730092099895296),(.pointer (some ⟨g,0,none⟩)),(.int .i64 (i:Int)),(.pointer (some ⟨g,0,none⟩)),(.int .i64 (j:Int)),(.pointer (some ⟨g,0,none⟩)),(.int .i64 (k:Int)),(.pointer (some ⟨g,0,none⟩)),(.int .i64 (m:Int))]) P6.out rfl;rw[hw6]at g6 s6;rw[hw7]at g7;have s7:=jK (vs:=[(.int .i64 2),(.float .f64 wx),(.float .f64 wy),(.float .f64 4627730092099895296),(.int .i64 (n:Int)),(.int .i64 ((n:Int)+1)),(.int .i64 ((n:Int)+2)),(.int .i64 ((n:Int)+2+1))]) ((g6.block (W.heap.size+1+1) (aG P7.out) (by simp)).trans P7.out) rfl;rw[hw7]at s7;have s6':=(g7.block (W.heap.size+1) (aG s6) (by simp)).trans s6;unfold gG at hw6 hw7;simp only[gG]at hw6 hw7;clear x0 x1 x2 x3 x4 x5 x6 x7 x8 x9 x10 x11 y0 y1 y2 y3 y4 y5 y6 y7 z6 z7 d0 d1 d2 d3 e0 e1 e2 e3;simp only[hw6,hw7];have RF:=hdd ((((R4.out.perm abS.symm).write g6 s6).perm (List.Perm.swap _ _ _)).write g7 s7);have HF:Hid (Run s g (N+4) ((.leaf p0,i)::(.leaf p1,j)::(.leaf q0,k)::(.leaf q1,m)::K) ((bb,O2)::(ln2++l)) w7):=hdd ((RF.out.sub (fun p hp=>ar0 _ (ar0 _ (ar0 _ (ar0 _ hp)))) (by
  have h:=RF.out.nodup;rw[asF]at h;have h:=(ar3.1 (ar3.1 (ar3.1 (ar3.1 h).2).2).2).2;exact h)).few fun p hp=>by
   simp only[asE]at hp|-;rcases hp with rfl|rfl|rfl|rfl|h
   . simp
   . simp
   . simp
   . simp
   . simp[h])
 obtain⟨x0,x1,x2,x3,x4,x5,x6,x7,x8,x9,x10,x11⟩:=ap1 s6';obtain⟨y0,y1,y2,y3,y4,y5,y6,y7⟩:=ap5 s7;clear g6 g7 s6 s6' s7 RF hw6 hw7;go_wp2;refine bodyPost_ret (v:=.tuple #[.agg #[_,_,_,_,_,_,_,_,_,_,_,_],.agg #[_,_,_,_,_,_,_,_]]) (by simp[results,Tryz.results10,go_sem,x0,x1,x2,x3,x4,x5,x6,x7,x8,x9,x10,x11,y0,y1,y2,y3,y4,y5,y6,y7];first|exact⟨⟨rfl,rfl,rfl,rfl,rfl,rfl,rfl,rfl,rfl,rfl,rfl,rfl⟩,⟨rfl,rfl,rfl,rfl,rfl,rfl,rfl,rfl⟩⟩|rfl) rfl ?_;exact⟨i,j,k,m,O2,ln2,rfl,B4.out,HF.out⟩
def FnAny(f:FuncId)(g d:Nat)(av:Array Value)(K0:List (Ex×Nat))(Post:List (Ex×Nat)->List (Nat×Obj)->Ending->Prop):Prop:=
 ∀(s:Bs) (N:Nat) (K:List (Ex×Nat)) (l:List (Nat×Obj)) (W:World),Run s g N K l W->N+d<=20000->(∀p∈K0,p∈K)->Calls Tryz.prog f av W (fun e W'=>∃K1 l1,Post K1 l1 e/\Run s g (N+d) (K1++K) (l1++l) W')
def pK(w:World)(B:Nat)(ns:List Nd)(g N:Nat)(Post:List (Ex×Nat)->List (Nat×Obj)->Ending->Prop)(e:Ending)(W':World):Prop:=∃K1 l1,Post K1 l1 e/\Run ⟨w,B,ns⟩ g N K1 l1 W'
theorem FnAny.of {f:FuncId}{g d:Nat}{av:Array Value}{K0:List (Ex×Nat)}{Post:List (Ex×Nat)->List (Nat×Obj)->Ending->Prop}(h:∀w B ns N,Run ⟨w,B,ns⟩ g N K0 [] w->N+d<=20000->Calls Tryz.prog f av w (pK w B ns g (N+d) Post)):FnAny f g d av K0 Post:=by
 intro s N K l W hR hN hK;obtain⟨ns',hs,hI⟩:=hR;refine(h W s.B ns' N (Run.enter hs.st (fun p hp=>hI p (hK p hp))) hN).mono ?_;rintro e W'⟨K1,l1,hP,ns'',hs2,hI2⟩;have hst:=hs.step hs2.st hs2.pre hs2.grew.2.2;refine⟨K1,l1,hP,ns'',⟨hst.grew,fun p hp=> ?_,hst.hw,?_⟩,fun p hp=> ?_⟩
 . rcases ar4.1 hp with hp|hp
   . obtain⟨k1,k2,k3⟩:=hs2.kept _ hp
     exact⟨k1,k2,Nat.le_trans hs.grew.2.2.size k3⟩
   . exact hst.kept p hp
 . rw[asD,List.nodup_append]
   refine⟨hs2.nodup,hst.nodup,fun a ha b hb e=> ?_⟩;obtain⟨p,hp,rfl⟩:=asB.1 ha;obtain⟨q,hq,rfl⟩:=asB.1 hb;have h1:=hs.lt hq;have h2:W.heap.size<=p.1:=(hs2.kept p hp).2.2;omega
 . rcases ar4.1 hp with hp|hp
   . exact hI2 p hp
   . exact(hI p hp).mono hs2.pre
section
variable{s:Bs}{g N n sz:Nat}{K:List (Ex×Nat)}{L lr:List (Nat×Obj)}{W:World}{v:Value}{xs:List Value}{T:TypeId}
theorem aaQ{ops:Array Oper}{rest:List Oper}{o:Oper}{a:Act}{Q:Exit->Act->World->Prop}{Ts:TypeId}{z:Value}{bytes:Nat}{news:List Value}
 (und:Tryz.prog.underlying Ts=some (.slice T)) (info:(Tryz.prog.info? T).map (fun i=>(i.zero,i.size,i.bytes))=some (some z,sz,bytes)) (hz:z.cells.size=sz) (h0:0<sz) (hO:OwnR T sz v n xs lr) (hR:Run s g N K (lr++L) W) (hb:W.heap[b]? =some (.cells news.toArray T))
 (hl:news.length=sz) (h1:∀u∈news,u.oneCell'=true) (hn:n<=1000) (hby:bytes<=1000) (hgd:o.guard=none) (sl x:Operand) (ho:o.op=.call {callee:=.builtin .append,args:=#[sl,x],argTypes:=#[Ts,Ts]}) (hs:a.eval sl=v) (c:Nat) (hx:a.eval x=.slice (some ⟨b,0,none⟩) 1 c)
 (h:∀r cap lr' w',OwnR T sz (.slice (some ⟨r,0,none⟩) (n+1) cap) (n+1) (xs++news) lr'->Run s g N K (lr'++L) w'->wpList Tryz.prog ops Q rest (a.put o.dst (.slice (some ⟨r,0,none⟩) (n+1) cap)) w'):wpList Tryz.prog ops Q (o::rest) a W:=by
 obtain⟨i,hi,i0,i1,i2⟩:=info_parts info;have h4:(n+1)*bytes<=1001*1000:=Nat.mul_le_mul (by omega) hby;exact wpList_append_lies _ hgd sl x Ts ho 0 T i z sz bytes und hi i0 i1 i2 hz h0 v n xs hs (hO.own hR) ⟨b,0,none⟩ 1 c news hx (by omega) (World.news_of_block hb) h1 (by decide) (by unfold maxLen;omega) (by omega) (Nat.zero_le _) _ rfl fun r cap w' o1 o2 o3 _=>by
  obtain⟨lr',p,q⟩:=hO.grow hR o1 o2 o3;exact h r cap lr' w' p q
theorem acT{b:Nat}{T:TypeId}:∀(vs pre rest post:List Value) (w:World),w.heap[b]? =some (.cells (pre++(rest++post)).toArray T (0,0))->rest.length=vs.length->(gG w b pre.length vs).heap[b]? =some (.cells (pre++(vs++post)).toArray T (0,0))
 |[],pre,[],_,w,h,_=>h
 |[],_,_::_,_,_,_,e=>by simp at e
 |_::_,_,[],_,_,_,e=>by simp at e
 |v::vs,pre,r::rest,post,w,h,e=>by
  have h1:=kC (k:=pre.length) (v:=v) h;have e1:(pre++(r::rest++post)).set pre.length v=(pre++[v])++(rest++post):=by simp
  rw[e1]at h1;have h2:=acT vs (pre++[v]) rest post _ h1 (by simpa using e);rw[asA]at h2;rw[ar5,ar8]at h2;exact h2
theorem OwnR.frz (h:OwnR T sz (.slice (some ⟨r,0,none⟩) n c) n xs lr)(hR:Run s g N K (lr++L) W)(k:Nat):W.frozen? ⟨r,k,none⟩=false:=by
 rcases h.2 with ⟨e,-⟩|⟨r',cap,cur,e,rfl,-⟩
 . simp at e
 . simp only[ar6,ar7,Addr.mk.injEq]at e
   obtain⟨⟨rfl,-⟩,-,-⟩:=e;exact frzI (hR.at (ar9 ..)) k
theorem OwnR.ne {o:Obj}(h:OwnR T sz (.slice (some ⟨r,0,none⟩) n c) n xs lr)(hR:Run s g N K (lr++L) W)(hb:(b,o)∈L):r≠b:=by
 rcases h.2 with ⟨e,-⟩|⟨r',cap,cur,e,rfl,-⟩
 . simp at e
 . simp only[ar6,ar7,Addr.mk.injEq]at e
   obtain⟨⟨rfl,-⟩,-,-⟩:=e;have hn:=hR.nodup;rw[asD,asF,List.cons_append,ar3]at hn;intro e;exact hn.1 (e▸List.mem_append_right _ (asB.2 ⟨_,hb,rfl⟩))
theorem OwnR.sets (h:OwnR T sz (.slice (some ⟨r,0,none⟩) n c) n xs lr)(hR:Run s g N K (lr++L) W)(hl:vs.length=xs.length):∃lr',OwnR T sz (.slice (some ⟨r,0,none⟩) n c) n vs lr'/\Run s g N K (lr'++L) (gG W r 0 vs):=by
 rcases h.2 with ⟨e,-⟩|⟨r',cap,cur,e,rfl,h1,h2,h3,h4⟩
 . simp at e
 . simp only[ar6,ar7,Addr.mk.injEq]at e
   obtain⟨⟨rfl,-⟩,-,rfl⟩:=e;have hr:=hR.at (ar9 ..);have e:cur=(xs++cur.toList.drop (n*sz)).toArray:=by rw[<-h4,List.take_append_drop]
   have hs:=acT vs [] xs (cur.toList.drop (n*sz)) W (by rw[List.nil_append,<-e];exact hr) hl.symm;have hx:=h.1;refine⟨[(r,.cells (vs++cur.toList.drop (n*sz)).toArray T)],⟨by omega,Or.inr ⟨r,c,_,rfl,rfl,h1,h2,?_,?_⟩⟩,Run.write hR (dU vs 0 W) hs⟩
   . rw[e]at h3;simp only[List.size_toArray,ar5]at h3|-;omega
   . show(vs++cur.toList.drop (n*sz)).take (n*sz)=vs
     rw[<-hx,<-hl,List.take_left'];rfl
end
abbrev alM(g:Nat)(kd:Int)(ca cb cc i j k l:Nat):Value:=.agg #[.int .i64 kd,.float .f64 ca,.float .f64 cb,.float .f64 cc,.pointer (some ⟨g,0,none⟩),.int .i64 (i:Int),.pointer (some ⟨g,0,none⟩),.int .i64 (j:Int),.pointer (some ⟨g,0,none⟩),.int .i64 (k:Int),.pointer (some ⟨g,0,none⟩),.int .i64 (l:Int)]
abbrev jM(g:Nat)(kd:Int)(ca cb cc i j k l:Nat):Obj:=.cells #[.int .i64 kd,.float .f64 ca,.float .f64 cb,.float .f64 cc,.pointer (some ⟨g,0,none⟩),.int .i64 (i:Int),.pointer (some ⟨g,0,none⟩),.int .i64 (j:Int),.pointer (some ⟨g,0,none⟩),.int .i64 (k:Int),.pointer (some ⟨g,0,none⟩),.int .i64 (l:Int)] 39
def KnP(K:List (Ex×Nat)):List (Ex×Ex)->List (Nat×Nat)->Prop
 |[],[]=>True
 |e::es,p::ps=>((e.1,p.1)∈K/\(e.2,p.2)∈K)/\KnP K es ps
 |_,_=>False
theorem KnP.mono {K K':List (Ex×Nat)}(h:∀p∈K,p∈K'):∀{es:List (Ex×Ex)} {ps:List (Nat×Nat)},KnP K es ps->KnP K' es ps
 |[],[],_=>trivial
 |_::_,_::_,⟨⟨h1,h2⟩,h3⟩=>⟨⟨h _ h1,h _ h2⟩,KnP.mono h h3⟩
 |[],_::_,h=>h.elim
 |_::_,[],h=>h.elim
theorem KnP.len {K:List (Ex×Nat)}:∀{es:List (Ex×Ex)} {ps:List (Nat×Nat)},KnP K es ps->ps.length=es.length
 |[],[],_=>rfl
 |_::_,_::_,⟨_,h3⟩=>by rw[asC,asC,KnP.len h3]
 |[],_::_,h=>h.elim
 |_::_,[],h=>h.elim
theorem afP:Tryz.prog.underlying 58=some (.slice 37):=by kernel_rfl
theorem acU:(Tryz.prog.info? 37).map (fun i=>(i.zero,i.size,i.bytes))=some (some (.agg #[.pointer none,.int .i64 0,.pointer none,.int .i64 0]),4,32):=by kernel_rfl
end
section
open Go.RowKit Go.Maps
open Re (rat ofI ofN)
open Bool renaming eq_iff_iff->asG
variable{A C:Int}
theorem anJ(v:Int):(v.sign==0)=(v==0):=by
 rw[asG,beq_iff_eq,beq_iff_eq];exact Int.sign_eq_zero_iff_zero
theorem anK(a b:Int):(a-b==0)=(a==b):=by
 rw[asG,beq_iff_eq,beq_iff_eq];omega
def onB(a1 a2 b1 b2 x1 x2:Int):Bool:=(a1==b1&&a2==b2)||(x1==a1&&x2==a2)||(x1==b1&&x2==b2)||decide (0<(x1-a1)*(b2-a2)-(x2-a2)*(b1-a1))
theorem acV(x y a1 a2 b1 b2 x1 x2:Int):onB (x+a1) (y+a2) (x+b1) (y+b2) (x+x1) (y+x2)=onB a1 a2 b1 b2 x1 x2:=by
 have e:∀u p q:Int,(u+p==u+q)=(p==q):=fun u p q=>by rw[asG,beq_iff_eq,beq_iff_eq];omega
 unfold onB;rw[e,e,e,e,e,e,show x+x1-(x+a1)=x1-a1 by omega,show y+b2-(y+a2)=b2-a2 by omega,show y+x2-(y+a2)=x2-a2 by omega,show x+b1-(x+a1)=b1-a1 by omega]
def eqB(J L:Nat):Bool:=kXi J==kXi L&&kYi J==kYi L
def onR(J L M:Nat):Bool:=onB (kXi J) (kYi J) (kXi L) (kYi L) (kXi M) (kYi M)
theorem apA(J:Fin 12):kXi J*kXi J+kYi J*kYi J=25:=by
 revert J;decide
def ctV:Ct:=⟨7,32765,5,0,66643⟩
abbrev Iv(c:Nat)(e:Ex)(k:Int):Prop:=Fit [.root (.leaf c)] (.lit ctV 10) e (rat (k:Rat))
def Ct.under (a:Ct):Bool:=decide (a.M<=7/\32765<=a.W/\a.u<=5/\a.l<=0/\a.s<=66643)
section
variable{c:Nat}
theorem Fit.lift {L:List Ex}{s:Sh}{e:Ex}{v:Re}(h:Fit L s e v)(hs:(s.ok L.length&&(s.ct L.length).under&&decide (s.cost<=10))=true):Fit L (.lit ctV 10) e v:=fun _=>by
 simp only[Bool.and_eq_true]at hs;have g:=h hs.1.1;obtain⟨h1,h2,h3,h4,h5⟩:=of_decide_eq_true hs.1.2;exact⟨g.vl.mono h1 h2 h3 h4 h5,Nat.le_trans g.cost (of_decide_eq_true hs.2),g.gd⟩
theorem oQ{w:Nat}{k:Int}(h:Iw w k)(b:k.natAbs<=12):Iv c (.leaf w) k:=(h.fit (L:=[.root (.leaf c)]) 4 (nlt b) (by decide)).lift (by kernel_rfl)
theorem afQ{a:Nat}{r:Int}(ha:Iw a A)(bA:A.natAbs<=12)(hc:Iw c C)(bC:C.natAbs<=25)(h0:0<=r)(hr:r*r=C):Iv c (.sub (.leaf a) (.root (.leaf c))) (A-r)/\Iv c (.add (.leaf a) (.root (.leaf c))) (A+r):=by
 have f1:=ha.fit (L:=[.root (.leaf c)]) 4 (nlt bA) (by decide);have f2:=(hc.fit (L:=[.root (.leaf c)]) 5 (nlt bC) (by decide)).rroot (q:=(r:Rat)) (by rw[<-Rat.intCast_zero];exact Rat.intCast_le_intCast.2 h0) (by rw[<-Rat.intCast_mul,hr]) (List.mem_singleton.2 rfl);constructor
 . have:=(f1.rsub f2).lift (by kernel_rfl);rwa[<-Rat.intCast_sub]at this
 . have:=(f1.radd f2).lift (by kernel_rfl);rwa[<-Rat.intCast_add]at this
variable{a1 a2 b1 b2 x1 x2:Ex}{A1 A2 B1 B2 X1 X2:Int}
theorem le_v(hx:Iv c a1 A1)(hy:Iv c b1 B1):dQ PT (.sub a1 b1) (A1-B1).sign:=(Fit.rsub hx hy).sign 1 (by decide) (by push_cast;grind) (by kernel_rfl)
theorem pM(h1:Iv c a1 A1)(h2:Iv c a2 A2)(g1:Iv c b1 B1)(g2:Iv c b2 B2):∃z,iK PT a1 a2 b1 b2 z/\(z==0)=(A1==B1&&A2==B2):=by
 refine⟨_,⟨(A1-B1).sign,(A2-B2).sign,trivial,le_v h1 g1,fun _=>⟨trivial,le_v h2 g2⟩,rfl⟩,?_⟩;by_cases h:(A1-B1).sign=0
 . rw[if_pos h,anJ,anK,show(A1==B1)=true from beq_iff_eq.2 (by have:=Int.sign_eq_zero_iff_zero.1 h;omega),Bool.true_and]
 . rw[if_neg h,show((A1-B1).sign==0)=false from beq_eq_false_iff_ne.2 h,show(A1==B1)=false from beq_eq_false_iff_ne.2 (fun e=>h (by rw[e,Int.sub_self];rfl)),Bool.false_and]
theorem aaR(h1:Iv c a1 A1)(h2:Iv c a2 A2)(g1:Iv c b1 B1)(g2:Iv c b2 B2)(k1:Iv c x1 X1)(k2:Iv c x2 X2):tC a1 a2 b1 b2 x1 x2 (onB A1 A2 B1 B2 X1 X2):=by
 obtain⟨p,p1,p2⟩:=pM h1 h2 g1 g2;obtain⟨q,q1,q2⟩:=pM k1 k2 h1 h2;obtain⟨r,r1,r2⟩:=pM k1 k2 g1 g2;refine⟨p,q,r,((X1-A1)*(B2-A2)-(X2-A2)*(B1-A1)).sign,p1,q1,r1,?_,?_⟩
 . exact(((Fit.rsub k1 h1).rmul (Fit.rsub g2 h2)).rsub ((Fit.rsub k2 h2).rmul (Fit.rsub g1 h1))).sign 1 (by decide) (by push_cast;grind) (by kernel_rfl)
 . unfold onB
   rw[p2,q2,r2]
   congr 1
   rw[asG,beq_iff_eq,decide_eq_true_iff];exact Int.sign_eq_one_iff_pos
theorem alI{wa wb:Nat}{B:Int}(ha:Iw wa A)(hb:Iw wb B)(hc:Iw c C)(bA:A.natAbs<=12)(bB:B.natAbs<=12)(bC:C.natAbs<=25)(hx:Iv c x1 X1)(hy:Iv c x2 X2)(h:(X1-A)*(X1-A)+(X2-B)*(X2-B)=C):dQ PT (fQ wa wb c x1 x2) 0:=by
 have f1:=ha.fit (L:=[.root (.leaf c)]) 4 (nlt bA) (by decide);have f2:=hb.fit (L:=[.root (.leaf c)]) 4 (nlt bB) (by decide);have f3:=hc.fit (L:=[.root (.leaf c)]) 5 (nlt bC) (by decide);refine((((Fit.rsub hx f1).rmul (Fit.rsub hx f1)).radd ((Fit.rsub hy f2).rmul (Fit.rsub hy f2))).rsub f3).zero ?_ (by kernel_rfl);rw[<-h];push_cast;grind
end
def InH(A1 A2 B1 B2 X1 X2:Ex)(b:Bool):Prop:=∃(r:Bool) (c2 c3:Int),tC A1 A2 B1 B2 X1 X2 r/\iK PT X1 X2 A1 A2 c2/\iK PT X1 X2 B1 B2 c3/\(r&& !(c2==0)&& !(c3==0))=b
theorem alJ{c:Nat}{a1 a2 b1 b2 x1 x2:Ex}{A1 A2 B1 B2 X1 X2:Int}(h1:Iv c a1 A1)(h2:Iv c a2 A2)(g1:Iv c b1 B1)(g2:Iv c b2 B2)(k1:Iv c x1 X1)(k2:Iv c x2 X2):InH a1 a2 b1 b2 x1 x2 (onB A1 A2 B1 B2 X1 X2&& !(X1==A1&&X2==A2)&& !(X1==B1&&X2==B2)):=by
 obtain⟨q,q1,q2⟩:=pM k1 k2 h1 h2;obtain⟨r,r1,r2⟩:=pM k1 k2 g1 g2;exact⟨_,q,r,aaR h1 h2 g1 g2 k1 k2,q1,r1,by rw[q2,r2]⟩
theorem apB{g i j k l m n ca cb cc:Nat}{A1 A2 B1 B2 X1 X2:Ex}{b:Bool}(h1:lK ca cb cc)(h0:(FloatKind.f64.format.order cc 0==some Ordering.eq)=false)(s1:dQ PT (fQ ca cb cc A1 A2) 0)(s2:dQ PT (fQ ca cb cc B1 B2) 0)(s3:dQ PT (fQ ca cb cc X1 X2) 0)(h:InH A1 A2 B1 B2 X1 X2 b):
 FnOk 39 g 44 #[.pointer (some ⟨g,0,none⟩),arcV g ca cb cc i j k l,bY g m n] [(A1,i),(A2,j),(B1,k),(B2,l),(X1,m),(X2,n)] (fun _=>.tuple #[.bool b,.nilIface]) []:=by
 obtain⟨r,c2,c3,hw,h2,h3,rfl⟩:=h;exact alG h1 h0 s1 s2 s3 hw h2 h3
def innB(J L M:Nat):Bool:=onR J L M&& !(eqB M J)&& !(eqB M L)
def cutB(i6 i0 f:Bool):List Nat:=if i6 then(if i0 then(if f then[6,0]else[0,6])else[6])else if i0 then[0]else[]
def tF(J L:Nat):List Nat:=cutB (innB J L 6) (innB J L 0) (onR J 0 6)
def chain{α:Type}:α->List α->List (α×α)
 |_,[]=>[]
 |p,q::qs=>(p,q)::chain q qs
theorem aq1:∀J L:Fin 12,((chain J.val (tF J L++[L.val])).all fun p=>tF p.1 p.2==[])=true:=by decide+kernel
end
section
open Go.RowKit Go.Maps
theorem acW{g ca cb cc:Nat}(hcc:FlOk cc):FnOk 61 g 2 #[.pointer (some ⟨g,0,none⟩),curV 2 ca cb cc] [] (fun ks=>numV g (ks.getD 0 0)) [.root (.leaf cc)]:=FnOk.of fun w B ns N hR hN=>by
 have R1:=hdd hR;clear hR;go_enter Tryz.func61,Tryz.ntmps61
 go_upto_region 0 with fail
 refine Spec.go [.w (.c (.ptr 0 0)),.w (.c (.ptr 1 0))] [0,1]
  [] [⟨0,33,curC 2 ca cb cc,none⟩,⟨1,35,[.v (.pointer none),.v (.int .i64 0)],none⟩]
  [0,0] [[],[]] [(1,.w (.agg ([.v (.int .i64 2),.v (.float .f64 ca),.v (.float .f64 cb),.v (.float .f64 cc)])))]
  [4,5] [] 2 N [] [] R1.out
  (fun b hM=>aA (aA aL
    (aS b m0))
    (aS b m1)) ?_
 intro b1 b2 ν W2 hR;have R2:=hdd hR;clear hR R1;simp only[putL,List.setIfInBounds_toArray,List.set,fs0,fs1,fsn,dSw,dSt,dWc,dWa,dv,di,dp,ds',List.map_cons,List.map_nil,nuTn,nuT0,nuT1,nuU0,nuU1]
 go_upto_region 1 with fail
 refine Spec.go [.w (.c (.v (.pointer (some ⟨g,0,none⟩)))),.w (.c (.ptr 0 3)),.w (.c (.v (.float .f64 cc))),numS g 2,numS g 3,noS] [3,4]
  [(2,(.leaf cc)),(3,(.root (.leaf cc)))] [⟨0,33,curC 2 ca cb cc,none⟩,⟨1,35,[.v (.pointer none),.v (.int .i64 0)],some (5,numC g 3)⟩]
  [0,0,0,1,1,0] [[],[],[1],[0,1,2],rgn 4,rgn 5] [(0,.w (.c (.v (.pointer (some ⟨g,0,none⟩))))),(3,.w (.c (.ptr 0 0))),(4,.w (.c (.ptr 1 0)))]
  [6,7,8,9,10,0] [b1,b2] 6 (N+2) [] [] R2.out
  (fun b hM=>aA (aA (aA (aA (aA (aA aL
    (aD b))
    (aD b))
    (kW b m0))
    (bF b (c_of hM hcc.1 hcc.2 rfl rfl rfl rfl)))
    (bF b (ao5 hM m0 rfl rfl rfl rfl rfl)))
    (dM b 2 m1)) ?_
 intro n3 n4 ν W3 hR;replace hR:Run ⟨w,B,ns⟩ g (N+2) [((.leaf cc),n3),((.root (.leaf cc)),n4)] [(b1,.cells #[(.int .i64 2),(.float .f64 ca),(.float .f64 cb),(.float .f64 cc)] 33),(b2,numO g n4)] W3:=hR;have R3:=hdd hR;clear hR R2;simp only[putL,List.setIfInBounds_toArray,List.set,fs0,fs1,fsn,dSw,dSt,dWc,dWa,dv,di,dp,ds',List.map_cons,List.map_nil,nuTn,nuT0,nuT1,nuU0,nuU1];go_wp2;obtain⟨x0,x1,-,-⟩:=aF (R3.out.at m1);refine bodyPost_ret (v:=.agg #[_,_]) (by simp[results,Tryz.results61,go_sem,x0,x1];first|exact⟨rfl,rfl⟩|rfl) rfl ?_;exact⟨[n4],rfl,rfl,_,R3.out.few (gF [1])⟩
end
end Go.Proofs.YtaojpfcboainmaaGreatDoor
