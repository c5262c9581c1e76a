/- A part of the proof: contracts of functions and plain laws (TuW). -/
import Derived.Test.YtjaafolhfihegaaGreatDoorU41
import Derived.Test.YtjaafolhfihegaaGreatDoorU42
import Derived.Test.YtjaafolhfihegaaGreatDoorU43
set_option linter.unusedVariables false
set_option linter.unusedSimpArgs false
set_option maxHeartbeats 25600000
set_option maxRecDepth 100000
namespace Go.Proofs.YtjaafolhfihegaaGreatDoor
open Go.RowKit Go.Maps Go.Stop Go.Extern
open List renaming setIfInBounds_toArray->bjC,map_cons->bjD,map_nil->bjE,not_mem_nil->bjF,mem_cons->bjG,mem_singleton->bjH,set->bjI
def aqN(s:Bs)(g bb:Nat)(l:List (Nat×Obj))(kd:Int)(wa wb wc P0 P1 Q0 Q1:Nat)(e:Ending)(W':World):Prop:=∃(i j k m:Nat) (O':Obj) (ln':List (Nat×Obj)),e=.returned (.tuple #[arcW g kd wa wb wc i j k m,refW kd wa wb wc 0])/\BrdB bb (0+4) ln' O'/\Run s g (0+4) ((.leaf P0,i)::(.leaf P1,j)::(.leaf Q0,k)::(.leaf Q1,m)::[]) ((bb,O')::(ln'++l)) W'
theorem yF{w:World}{r:Bool}{X Y U V I Kk oo:Int}(hT:Tab w)(htb:1<w.heap.size):
 Calls Tryz.prog 3 #[.agg #[.bool r,.int .i64 X,.int .i64 Y,.int .i64 U,.int .i64 V,.int .i64 I,.int .i64 Kk,.int .i64 oo]] w (RetV w (.bool true)):=by
 obtain⟨kd,wa,wb,wc,p0,P1,Q0,q1,P0,Q1,wx,wy,hM,hO,hf,⟨hw1,hw2,hw3⟩,hX⟩:=aeZ r X Y U V I Kk oo;have MK1:Hid (∀(g bb:Nat) (l:List (Nat×Obj)) (W:World) (O:Obj),Run (bs w) g 0 [] ((bb,O)::([]++l)) W->BrdB bb 0 [] O->Calls Tryz.prog 14 #[aW r X Y U V I Kk oo,.pointer (some ⟨g,0,none⟩),.pointer (some ⟨bb,0,none⟩)] W (aqN (bs w) g bb l kd wa wb wc P0 P1 Q0 Q1)):=hdd fun g bb l W O hR hB=>amB hR hB (by omega) (by omega) hM hO hf.1 hf.2.1 hf.2.2.1 hf.2.2.2;have NQ:Hid (∀(g i j k m:Nat) (w:World),(binOp .neq 35 (arcW g kd wa wb wc i j k m) (arcW g kd wa wb wc i j k m)).run Tryz.prog w=.ok (.bool false) w):=hdd fun g i j k m w=>an8 hw1 hw2 hw3 w;have HX:=hdd hX;obtain⟨w2,hw2',hb2,hs2,b10⟩:=pro1 w (.cells #[.bool r,.int .i64 X,.int .i64 Y,.int .i64 U,.int .i64 V,.int .i64 I,.int .i64 Kk,.int .i64 oo] 23);have HA:=hdd (an7 (hT.below hb2) (Nat.lt_of_lt_of_le htb hb2.size));have HT:=hdd (And.intro hT htb);have HB2:=hdd hb2;have B10:=hdd b10;clear hT htb hb2 hs2 b10 hM hO hf hw1 hw2 hw3 hX
 have hst:=aQ;go_enter Tryz.func3,Tryz.ntmps3
 go_wp2_with fail
 refine HA.out.mono ?_;rintro e w3⟨rfl,hb3⟩;have HB3:=hdd (aC HB2.out hb3);have B11:=hdd (hbl B10.out hb3);clear hb3 HA HB2 B10 hw2';have HN:=hdd (afN (w0:=w) (l:=[(w.heap.size,(.cells #[.bool r,.int .i64 X,.int .i64 Y,.int .i64 U,.int .i64 V,.int .i64 I,.int .i64 Kk,.int .i64 oo] 23))]) HB3.out (fun q hp=>by
  simp only[bjG,bjF,or_false]at hp;subst hp;exact⟨B11.out,Nat.le_refl _⟩) (by simp) HT.out.1 HT.out.2)
 go_wp2_with fail
 refine HN.out.mono ?_;rintro e W1⟨g,rfl,hR⟩;have R1:=hdd hR;clear hR HN HT B11 HB3;dsimp only;obtain⟨w5,hw5,hb5,hs5,b5⟩:=pro1 W1 (.cells #[.slice none 0 0,.int .i64 0] 45);have R2:Hid (Run (bs w) g 0 [] ((W1.heap.size,.cells #[.slice none 0 0,.int .i64 0] 45)::([]++[(w.heap.size,(.cells #[.bool r,.int .i64 X,.int .i64 Y,.int .i64 U,.int .i64 V,.int .i64 I,.int .i64 Kk,.int .i64 oo] 23))])) w5):=hdd (hw5▸R1.out.alloc _);have Q1':=R1.out.at (m0);have c0:=aA (k:=0) (v:=.bool r) Q1' rfl;have c1:=aA (k:=1) (v:=.int .i64 X) Q1' rfl;have c2:=aA (k:=2) (v:=.int .i64 Y) Q1' rfl;have c3:=aA (k:=3) (v:=.int .i64 U) Q1' rfl;have c4:=aA (k:=4) (v:=.int .i64 V) Q1' rfl;have c5:=aA (k:=5) (v:=.int .i64 I) Q1' rfl;have c6:=aA (k:=6) (v:=.int .i64 Kk) Q1' rfl;have c7:=aA (k:=7) (v:=.int .i64 oo) Q1' rfl;clear R1 hb5 hs5 b5 Q1';go_wp2_with fail
 refine(MK1.out _ _ _ _ _ R2.out BrdB.nil).mono ?_;rintro e W3⟨i,j,kk,m,O1,ln1,rfl,hB1,hR3⟩;have R3:=hdd hR3;clear hR3 hB1 MK1 R2 c0 c1 c2 c3 c4 c5 c6 c7 hw5;obtain⟨v1,hv1,hd1,he1,f1,f2⟩:=pro2 W3 (.cells #[.int .i64 0,.float .f64 0,.float .f64 0,.float .f64 0,.pointer none,.int .i64 0,.pointer none,.int .i64 0,.pointer none,.int .i64 0,.pointer none,.int .i64 0] 35) (.cells #[.int .i64 0,.float .f64 0,.float .f64 0,.float .f64 0,.int .i64 0,.int .i64 0,.int .i64 0,.int .i64 0] 39);have x0:=aA (k:=0) (v:=.int .i64 0) f1 rfl;have x1:=aA (k:=1) (v:=.float .f64 0) f1 rfl;have x2:=aA (k:=2) (v:=.float .f64 0) f1 rfl;have x3:=aA (k:=3) (v:=.float .f64 0) f1 rfl;have x4:=aA (k:=4) (v:=.pointer none) f1 rfl;have x5:=aA (k:=5) (v:=.int .i64 0) f1 rfl;have x6:=aA (k:=6) (v:=.pointer none) f1 rfl;have x7:=aA (k:=7) (v:=.int .i64 0) f1 rfl;have x8:=aA (k:=8) (v:=.pointer none) f1 rfl;have x9:=aA (k:=9) (v:=.int .i64 0) f1 rfl;have x10:=aA (k:=10) (v:=.pointer none) f1 rfl;have x11:=aA (k:=11) (v:=.int .i64 0) f1 rfl
 have y0:=aA (k:=0) (v:=.int .i64 0) f2 rfl;have y1:=aA (k:=1) (v:=.float .f64 0) f2 rfl;have y2:=aA (k:=2) (v:=.float .f64 0) f2 rfl;have y3:=aA (k:=3) (v:=.float .f64 0) f2 rfl;have y4:=aA (k:=4) (v:=.int .i64 0) f2 rfl;have y5:=aA (k:=5) (v:=.int .i64 0) f2 rfl;have y6:=aA (k:=6) (v:=.int .i64 0) f2 rfl;have y7:=aA (k:=7) (v:=.int .i64 0) f2 rfl;have z1:=gY f1;have z2:=gY f2;have F1:=hdd f1;have F2:=hdd f2;have D1:=hdd hd1;clear f1 f2 hd1
 go_upto_region 7 with fail
 obtain⟨v2,hv2⟩:∃v,gK v1 (W3.heap.size) 0 [.int .i64 kd,.float .f64 wa,.float .f64 wb,.float .f64 wc,.pointer (some ⟨g,0,none⟩),.int .i64 (i:Int),.pointer (some ⟨g,0,none⟩),.int .i64 (j:Int),.pointer (some ⟨g,0,none⟩),.int .i64 (kk:Int),.pointer (some ⟨g,0,none⟩),.int .i64 (m:Int)]=v:=⟨_,rfl⟩;have gv2:=eH (b:=W3.heap.size) [.int .i64 kd,.float .f64 wa,.float .f64 wb,.float .f64 wc,.pointer (some ⟨g,0,none⟩),.int .i64 (i:Int),.pointer (some ⟨g,0,none⟩),.int .i64 (j:Int),.pointer (some ⟨g,0,none⟩),.int .i64 (kk:Int),.pointer (some ⟨g,0,none⟩),.int .i64 (m:Int)] 0 v1;have sv2:=jO (vs:=[.int .i64 kd,.float .f64 wa,.float .f64 wb,.float .f64 wc,.pointer (some ⟨g,0,none⟩),.int .i64 (i:Int),.pointer (some ⟨g,0,none⟩),.int .i64 (j:Int),.pointer (some ⟨g,0,none⟩),.int .i64 (kk:Int),.pointer (some ⟨g,0,none⟩),.int .i64 (m:Int)]) F1.out rfl;rw[hv2]at gv2 sv2;obtain⟨v3,hv3⟩:∃v,gK v2 (W3.heap.size+1) 0 [.int .i64 kd,.float .f64 wa,.float .f64 wb,.float .f64 wc,.int .i64 0,.int .i64 1,.int .i64 2,.int .i64 3]=v:=⟨_,rfl⟩
 have gv3:=eH (b:=W3.heap.size+1) [.int .i64 kd,.float .f64 wa,.float .f64 wb,.float .f64 wc,.int .i64 0,.int .i64 1,.int .i64 2,.int .i64 3] 0 v2;have sv3:=jO (vs:=[.int .i64 kd,.float .f64 wa,.float .f64 wb,.float .f64 wc,.int .i64 0,.int .i64 1,.int .i64 2,.int .i64 3]) ((gv2.block (W3.heap.size+1) (aG F2.out) (by simp)).trans F2.out) rfl;rw[hv3]at gv3 sv3;have F3:=hdd ((gv3.block (W3.heap.size) (aG sv2) (by simp)).trans sv2);have D3:=hdd ((D1.out.trans (Below.of_grown gv2 D1.out.size nlr)).trans (Below.of_grown gv3 (Nat.le_trans D1.out.size gv2.size) (Nat.le_add_right _ 1)));simp only[gK]at hv2 hv3;clear x0 x1 x2 x3 x4 x5 x6 x7 x8 x9 x10 x11 y0 y1 y2 y3 y4 y5 y6 y7 z1 z2 gv2 gv3 sv2 sv3 F1 F2 D1 hv1 he1;simp only[hv2,hv3];clear hv2 hv3;have R5:=R3.out.keeps D3.out [(W3.heap.size,(.cells #[.int .i64 kd,.float .f64 wa,.float .f64 wb,.float .f64 wc,.pointer (some ⟨g,0,none⟩),.int .i64 (i:Int),.pointer (some ⟨g,0,none⟩),.int .i64 (j:Int),.pointer (some ⟨g,0,none⟩),.int .i64 (kk:Int),.pointer (some ⟨g,0,none⟩),.int .i64 (m:Int)] 35))] (by
  intro q hp;obtain rfl:=bjH.1 hp;exact⟨F3.out,Nat.le_refl _⟩) (by simp)
 have R1:Hid (Run (bs w) g 4 [(.leaf P0,i),(.leaf P1,j),(.leaf Q0,kk),(.leaf Q1,m)] [(W3.heap.size,(.cells #[.int .i64 kd,.float .f64 wa,.float .f64 wb,.float .f64 wc,.pointer (some ⟨g,0,none⟩),.int .i64 (i:Int),.pointer (some ⟨g,0,none⟩),.int .i64 (j:Int),.pointer (some ⟨g,0,none⟩),.int .i64 (kk:Int),.pointer (some ⟨g,0,none⟩),.int .i64 (m:Int)] 35))] v3):=hdd (R5.sub (fun q hp=>by
  obtain rfl:=bjH.1 hp;exact List.mem_cons_self ..) (by simp))
 clear R5 R3 D3 F3;generalize W3.heap.size=b4 at R1|-;obtain⟨T1,T2,T3,T4,E1,E2,E3,E4,F1,F2,F3,F4,ok,⟨y1,y2⟩,k1,k2,n1,n2,hk⟩:=HX.out;have CK1:=hdd k1;have CK2:=hdd k2;have EN1:=hdd n1;have EN2:=hdd n2;have CP:=hdd (And.intro y1 y2);clear k1 k2 n1 n2 y1 y2 HX;rcases hk with hk|hk;refine Spec.go [.w (.agg ((dS g kd wa wb wc 0 1 2 3))),.w (.agg ((dS g kd wa wb wc 0 1 2 3))),.w (.c (.ptr 5 0)),noS] [2]
  [(0,(.leaf P0)),(1,(.leaf P1)),(2,(.leaf Q0)),(3,(.leaf Q1))] [⟨4,35,(dS g kd wa wb wc 0 1 2 3),none⟩,⟨5,35,[.v (.int .i64 0),.v (.float .f64 0),.v (.float .f64 0),.v (.float .f64 0),.v (.pointer none),.v (.int .i64 0),.v (.pointer none),.v (.int .i64 0),.v (.pointer none),.v (.int .i64 0),.v (.pointer none),.v (.int .i64 0)],some (3,(dS g kd wa wb wc 0 1 2 3))⟩]
  [0,0,0,0] [[],[0],[],[0,1,2]] [(4,.w (.c (.ptr 4 0)))]
  [31,32,7,0] [i,j,kk,m,b4] 4 4 [] [] R1.out
  (fun b hM=>aB (aB (aB (aB aN
    (aY b 12 m0))
    (bD b (al8 hM rfl rfl (fun ν w=>adM hk.1))))
    (bC b m1))
    (dD b 12 m1)) ?_
 intro b1 ν W2 hR;replace hR:Run (bs w) g 4 [((.leaf P0),i),((.leaf P1),j),((.leaf Q0),kk),((.leaf Q1),m)] [(b4,.cells #[(.int .i64 kd),(.float .f64 wa),(.float .f64 wb),(.float .f64 wc),.pointer (some ⟨g,0,none⟩),.int .i64 ((i:Nat):Int),.pointer (some ⟨g,0,none⟩),.int .i64 ((j:Nat):Int),.pointer (some ⟨g,0,none⟩),.int .i64 ((kk:Nat):Int),.pointer (some ⟨g,0,none⟩),.int .i64 ((m:Nat):Int)] 35),(b1,.cells #[(.int .i64 kd),(.float .f64 wa),(.float .f64 wb),(.float .f64 wc),.pointer (some ⟨g,0,none⟩),.int .i64 ((i:Nat):Int),.pointer (some ⟨g,0,none⟩),.int .i64 ((j:Nat):Int),.pointer (some ⟨g,0,none⟩),.int .i64 ((kk:Nat):Int),.pointer (some ⟨g,0,none⟩),.int .i64 ((m:Nat):Int)] 35)] W2:=hR;have R2:=hdd hR;clear hR R1;simp only[putL,bjC,bjI,fs0,fs1,fsn,dSw,dSt,dWc,dWa,dv,di,dp,ds',bjD,bjE,nuTn,nuT0,nuT1,nuU0,nuU1,dA12,dP8,dP24,dF];obtain⟨t1,t2,t3,t4,HB,R3⟩:∃t1 t2 t3 t4:Nat,Hid (∀w,Calls Tryz.prog 15 #[arcW g kd wa wb wc t1 t2 t3 t4] w (RetV w (arcW g kd wa wb wc i j kk m)))/\Hid (Run (bs w) g 4 [(.leaf P0,i),(.leaf P1,j),(.leaf Q0,kk),(.leaf Q1,m),(T1,t1),(T2,t2),(T3,t3),(T4,t4)] [(b4,(.cells #[.int .i64 kd,.float .f64 wa,.float .f64 wb,.float .f64 wc,.pointer (some ⟨g,0,none⟩),.int .i64 (i:Int),.pointer (some ⟨g,0,none⟩),.int .i64 (j:Int),.pointer (some ⟨g,0,none⟩),.int .i64 (kk:Int),.pointer (some ⟨g,0,none⟩),.int .i64 (m:Int)] 35)),(b1,(.cells #[.int .i64 kd,.float .f64 wa,.float .f64 wb,.float .f64 wc,.pointer (some ⟨g,0,none⟩),.int .i64 (t1:Int),.pointer (some ⟨g,0,none⟩),.int .i64 (t2:Int),.pointer (some ⟨g,0,none⟩),.int .i64 (t3:Int),.pointer (some ⟨g,0,none⟩),.int .i64 (t4:Int)] 35))] W2):=⟨i,j,kk,m,hdd (fun w=>adM hk.1),hdd (R2.out.few (fun p hp=>by
  obtain⟨-,rfl,rfl,rfl,rfl⟩:=hk;simp only[bjG,bjF,or_false]at hp|-;rcases hp with rfl|rfl|rfl|rfl|rfl|rfl|rfl|rfl<;>simp))⟩
 clear hk R2
 skip
 rotate_left
 refine Spec.go [.w (.agg ((dS g kd wa wb wc 0 1 2 3))),.w (.agg ((dS g kd wa wb wc 2 3 0 1))),.w (.c (.ptr 5 0)),noS] [2]
  [(0,(.leaf P0)),(1,(.leaf P1)),(2,(.leaf Q0)),(3,(.leaf Q1))] [⟨4,35,(dS g kd wa wb wc 0 1 2 3),none⟩,⟨5,35,[.v (.int .i64 0),.v (.float .f64 0),.v (.float .f64 0),.v (.float .f64 0),.v (.pointer none),.v (.int .i64 0),.v (.pointer none),.v (.int .i64 0),.v (.pointer none),.v (.int .i64 0),.v (.pointer none),.v (.int .i64 0)],some (3,(dS g kd wa wb wc 2 3 0 1))⟩]
  [0,0,0,0] [[],[0],[],[0,1,2]] [(4,.w (.c (.ptr 4 0)))]
  [31,32,7,0] [i,j,kk,m,b4] 4 4 [] [] R1.out
  (fun b hM=>aB (aB (aB (aB aN
    (aY b 12 m0))
    (bD b (al8 hM rfl rfl (fun ν w=>adN hk.1))))
    (bC b m1))
    (dD b 12 m1)) ?_
 intro b1 ν W2 hR;replace hR:Run (bs w) g 4 [((.leaf P0),i),((.leaf P1),j),((.leaf Q0),kk),((.leaf Q1),m)] [(b4,.cells #[(.int .i64 kd),(.float .f64 wa),(.float .f64 wb),(.float .f64 wc),.pointer (some ⟨g,0,none⟩),.int .i64 ((i:Nat):Int),.pointer (some ⟨g,0,none⟩),.int .i64 ((j:Nat):Int),.pointer (some ⟨g,0,none⟩),.int .i64 ((kk:Nat):Int),.pointer (some ⟨g,0,none⟩),.int .i64 ((m:Nat):Int)] 35),(b1,.cells #[(.int .i64 kd),(.float .f64 wa),(.float .f64 wb),(.float .f64 wc),.pointer (some ⟨g,0,none⟩),.int .i64 ((kk:Nat):Int),.pointer (some ⟨g,0,none⟩),.int .i64 ((m:Nat):Int),.pointer (some ⟨g,0,none⟩),.int .i64 ((i:Nat):Int),.pointer (some ⟨g,0,none⟩),.int .i64 ((j:Nat):Int)] 35)] W2:=hR;have R2:=hdd hR;clear hR R1;simp only[putL,bjC,bjI,fs0,fs1,fsn,dSw,dSt,dWc,dWa,dv,di,dp,ds',bjD,bjE,nuTn,nuT0,nuT1,nuU0,nuU1,dA12,dP8,dP24,dF];obtain⟨t1,t2,t3,t4,HB,R3⟩:∃t1 t2 t3 t4:Nat,Hid (∀w,Calls Tryz.prog 15 #[arcW g kd wa wb wc t1 t2 t3 t4] w (RetV w (arcW g kd wa wb wc i j kk m)))/\Hid (Run (bs w) g 4 [(.leaf P0,i),(.leaf P1,j),(.leaf Q0,kk),(.leaf Q1,m),(T1,t1),(T2,t2),(T3,t3),(T4,t4)] [(b4,(.cells #[.int .i64 kd,.float .f64 wa,.float .f64 wb,.float .f64 wc,.pointer (some ⟨g,0,none⟩),.int .i64 (i:Int),.pointer (some ⟨g,0,none⟩),.int .i64 (j:Int),.pointer (some ⟨g,0,none⟩),.int .i64 (kk:Int),.pointer (some ⟨g,0,none⟩),.int .i64 (m:Int)] 35)),(b1,(.cells #[.int .i64 kd,.float .f64 wa,.float .f64 wb,.float .f64 wc,.pointer (some ⟨g,0,none⟩),.int .i64 (t1:Int),.pointer (some ⟨g,0,none⟩),.int .i64 (t2:Int),.pointer (some ⟨g,0,none⟩),.int .i64 (t3:Int),.pointer (some ⟨g,0,none⟩),.int .i64 (t4:Int)] 35))] W2):=⟨kk,m,i,j,hdd (fun w=>adN hk.1),hdd (R2.out.few (fun p hp=>by
  obtain⟨-,rfl,rfl,rfl,rfl⟩:=hk;simp only[bjG,bjF,or_false]at hp|-;rcases hp with rfl|rfl|rfl|rfl|rfl|rfl|rfl|rfl<;>simp))⟩
 clear hk R2
 skip
 all_goals (
  go_upto_region 8 with fail
  replace R3:=hdd R3.out.drew;have q4:=R3.out.at m0;have q6:=R3.out.at m1;have x0:=aA (k:=0) (v:=.int .i64 kd) q4 rfl;have x1:=aA (k:=1) (v:=.float .f64 wa) q4 rfl;have x2:=aA (k:=2) (v:=.float .f64 wb) q4 rfl;have x3:=aA (k:=3) (v:=.float .f64 wc) q4 rfl;have x4:=aA (k:=4) (v:=.pointer (some ⟨g,0,none⟩)) q4 rfl;have x5:=aA (k:=5) (v:=.int .i64 (i:Int)) q4 rfl;have x6:=aA (k:=6) (v:=.pointer (some ⟨g,0,none⟩)) q4 rfl;have x7:=aA (k:=7) (v:=.int .i64 (j:Int)) q4 rfl;have x8:=aA (k:=8) (v:=.pointer (some ⟨g,0,none⟩)) q4 rfl;have x9:=aA (k:=9) (v:=.int .i64 (kk:Int)) q4 rfl;have x10:=aA (k:=10) (v:=.pointer (some ⟨g,0,none⟩)) q4 rfl;have x11:=aA (k:=11) (v:=.int .i64 (m:Int)) q4 rfl;have y0:=aA (k:=0) (v:=.int .i64 kd) q6 rfl;have y1:=aA (k:=1) (v:=.float .f64 wa) q6 rfl;have y2:=aA (k:=2) (v:=.float .f64 wb) q6 rfl;have y3:=aA (k:=3) (v:=.float .f64 wc) q6 rfl;have y4:=aA (k:=4) (v:=.pointer (some ⟨g,0,none⟩)) q6 rfl;have y5:=aA (k:=5) (v:=.int .i64 (t1:Int)) q6 rfl;have y6:=aA (k:=6) (v:=.pointer (some ⟨g,0,none⟩)) q6 rfl;have y7:=aA (k:=7) (v:=.int .i64 (t2:Int)) q6 rfl;have y8:=aA (k:=8) (v:=.pointer (some ⟨g,0,none⟩)) q6 rfl;have y9:=aA (k:=9) (v:=.int .i64 (t3:Int)) q6 rfl;have y10:=aA (k:=10) (v:=.pointer (some ⟨g,0,none⟩)) q6 rfl;have y11:=aA (k:=11) (v:=.int .i64 (t4:Int)) q6 rfl
  clear q4 q6;have nq:=NQ.out g i j kk m;have CA:Hid (∀(l:List (Nat×Obj)) (W:World),Run (bs w) g 4 [(.leaf P0,i),(.leaf P1,j),(.leaf Q0,kk),(.leaf Q1,m),(T1,t1),(T2,t2),(T3,t3),(T4,t4)] l W->Calls Tryz.prog 16 #[.pointer (some ⟨g,0,none⟩),arcW g kd wa wb wc i j kk m] W (fun e W'=>∃r,e=.returned r/\(ok=true->r=.nilIface)/\(ok=false->∃t x,r=.iface t x)/\Run (bs w) g 24 [(.leaf P0,i),(.leaf P1,j),(.leaf Q0,kk),(.leaf Q1,m),(T1,t1),(T2,t2),(T3,t3),(T4,t4)] l W')):=hdd fun l W hR=>CK1.out g i j kk m _ _ _ _ _ hR (by omega) (fP [0,1,2,3]);have CT:Hid (∀(l:List (Nat×Obj)) (W:World),Run (bs w) g 24 [(.leaf P0,i),(.leaf P1,j),(.leaf Q0,kk),(.leaf Q1,m),(T1,t1),(T2,t2),(T3,t3),(T4,t4)] l W->Calls Tryz.prog 16 #[.pointer (some ⟨g,0,none⟩),arcW g kd wa wb wc t1 t2 t3 t4] W (fun e W'=>∃r,e=.returned r/\(ok=true->r=.nilIface)/\(ok=false->∃t x,r=.iface t x)/\Run (bs w) g 44 [(.leaf P0,i),(.leaf P1,j),(.leaf Q0,kk),(.leaf Q1,m),(T1,t1),(T2,t2),(T3,t3),(T4,t4)] l W')):=hdd fun l W hR=>CK2.out g t1 t2 t3 t4 _ _ _ _ _ hR (by omega) (fP [4,5,6,7])
  clear CK1 CK2
  cases ok
  case' false=>
   go_region_held3 (fun w'=>w'.cell? ⟨b4,0,none⟩=some (.int .i64 kd)/\w'.cell? ⟨b4,1,none⟩=some (.float .f64 wa)/\w'.cell? ⟨b4,2,none⟩=some (.float .f64 wb)/\w'.cell? ⟨b4,3,none⟩=some (.float .f64 wc)/\w'.cell? ⟨b4,4,none⟩=some (.pointer (some ⟨g,0,none⟩))/\w'.cell? ⟨b4,5,none⟩=some (.int .i64 (i:Int))/\w'.cell? ⟨b4,6,none⟩=some (.pointer (some ⟨g,0,none⟩))/\w'.cell? ⟨b4,7,none⟩=some (.int .i64 (j:Int))/\w'.cell? ⟨b4,8,none⟩=some (.pointer (some ⟨g,0,none⟩))/\w'.cell? ⟨b4,9,none⟩=some (.int .i64 (kk:Int))/\w'.cell? ⟨b4,10,none⟩=some (.pointer (some ⟨g,0,none⟩))/\w'.cell? ⟨b4,11,none⟩=some (.int .i64 (m:Int))/\w'.cell? ⟨b1,0,none⟩=some (.int .i64 kd)/\w'.cell? ⟨b1,1,none⟩=some (.float .f64 wa)/\w'.cell? ⟨b1,2,none⟩=some (.float .f64 wb)/\w'.cell? ⟨b1,3,none⟩=some (.float .f64 wc)/\w'.cell? ⟨b1,4,none⟩=some (.pointer (some ⟨g,0,none⟩))/\w'.cell? ⟨b1,5,none⟩=some (.int .i64 (t1:Int))/\w'.cell? ⟨b1,6,none⟩=some (.pointer (some ⟨g,0,none⟩))/\w'.cell? ⟨b1,7,none⟩=some (.int .i64 (t2:Int))/\w'.cell? ⟨b1,8,none⟩=some (.pointer (some ⟨g,0,none⟩))/\w'.cell? ⟨b1,9,none⟩=some (.int .i64 (t3:Int))/\w'.cell? ⟨b1,10,none⟩=some (.pointer (some ⟨g,0,none⟩))/\w'.cell? ⟨b1,11,none⟩=some (.int .i64 (t4:Int))) (go_keep)
    (first
    |(go_at_call 15
      with_reducible refine(HB.out _).mono ?_
      rintro e w5⟨rfl,hb5⟩;have R4:=hdd (R3.out.step hb5);have q4:=R4.out.at m0;have q6:=R4.out.at m1;have x0:=aA (k:=0) (v:=.int .i64 kd) q4 rfl;have x1:=aA (k:=1) (v:=.float .f64 wa) q4 rfl;have x2:=aA (k:=2) (v:=.float .f64 wb) q4 rfl;have x3:=aA (k:=3) (v:=.float .f64 wc) q4 rfl;have x4:=aA (k:=4) (v:=.pointer (some ⟨g,0,none⟩)) q4 rfl;have x5:=aA (k:=5) (v:=.int .i64 (i:Int)) q4 rfl;have x6:=aA (k:=6) (v:=.pointer (some ⟨g,0,none⟩)) q4 rfl;have x7:=aA (k:=7) (v:=.int .i64 (j:Int)) q4 rfl;have x8:=aA (k:=8) (v:=.pointer (some ⟨g,0,none⟩)) q4 rfl;have x9:=aA (k:=9) (v:=.int .i64 (kk:Int)) q4 rfl;have x10:=aA (k:=10) (v:=.pointer (some ⟨g,0,none⟩)) q4 rfl;have x11:=aA (k:=11) (v:=.int .i64 (m:Int)) q4 rfl;have y0:=aA (k:=0) (v:=.int .i64 kd) q6 rfl;have y1:=aA (k:=1) (v:=.float .f64 wa) q6 rfl;have y2:=aA (k:=2) (v:=.float .f64 wb) q6 rfl;have y3:=aA (k:=3) (v:=.float .f64 wc) q6 rfl;have y4:=aA (k:=4) (v:=.pointer (some ⟨g,0,none⟩)) q6 rfl;have y5:=aA (k:=5) (v:=.int .i64 (t1:Int)) q6 rfl;have y6:=aA (k:=6) (v:=.pointer (some ⟨g,0,none⟩)) q6 rfl;have y7:=aA (k:=7) (v:=.int .i64 (t2:Int)) q6 rfl;have y8:=aA (k:=8) (v:=.pointer (some ⟨g,0,none⟩)) q6 rfl;have y9:=aA (k:=9) (v:=.int .i64 (t3:Int)) q6 rfl;have y10:=aA (k:=10) (v:=.pointer (some ⟨g,0,none⟩)) q6 rfl;have y11:=aA (k:=11) (v:=.int .i64 (t4:Int)) q6 rfl
      clear q4 q6;clear hb5)
    |(go_at_call 16
      with_reducible refine(CA.out _ _ R4.out).mono ?_
      rintro e w6⟨r1,rfl,h1,h2,hR⟩;obtain⟨ty1,xv1,rfl⟩:=h2 trivial;have R5:=hdd hR;have q4:=R5.out.at m0;have q6:=R5.out.at m1;have x0:=aA (k:=0) (v:=.int .i64 kd) q4 rfl;have x1:=aA (k:=1) (v:=.float .f64 wa) q4 rfl;have x2:=aA (k:=2) (v:=.float .f64 wb) q4 rfl;have x3:=aA (k:=3) (v:=.float .f64 wc) q4 rfl;have x4:=aA (k:=4) (v:=.pointer (some ⟨g,0,none⟩)) q4 rfl;have x5:=aA (k:=5) (v:=.int .i64 (i:Int)) q4 rfl;have x6:=aA (k:=6) (v:=.pointer (some ⟨g,0,none⟩)) q4 rfl;have x7:=aA (k:=7) (v:=.int .i64 (j:Int)) q4 rfl;have x8:=aA (k:=8) (v:=.pointer (some ⟨g,0,none⟩)) q4 rfl;have x9:=aA (k:=9) (v:=.int .i64 (kk:Int)) q4 rfl;have x10:=aA (k:=10) (v:=.pointer (some ⟨g,0,none⟩)) q4 rfl;have x11:=aA (k:=11) (v:=.int .i64 (m:Int)) q4 rfl;have y0:=aA (k:=0) (v:=.int .i64 kd) q6 rfl;have y1:=aA (k:=1) (v:=.float .f64 wa) q6 rfl;have y2:=aA (k:=2) (v:=.float .f64 wb) q6 rfl;have y3:=aA (k:=3) (v:=.float .f64 wc) q6 rfl;have y4:=aA (k:=4) (v:=.pointer (some ⟨g,0,none⟩)) q6 rfl;have y5:=aA (k:=5) (v:=.int .i64 (t1:Int)) q6 rfl;have y6:=aA (k:=6) (v:=.pointer (some ⟨g,0,none⟩)) q6 rfl;have y7:=aA (k:=7) (v:=.int .i64 (t2:Int)) q6 rfl;have y8:=aA (k:=8) (v:=.pointer (some ⟨g,0,none⟩)) q6 rfl;have y9:=aA (k:=9) (v:=.int .i64 (t3:Int)) q6 rfl;have y10:=aA (k:=10) (v:=.pointer (some ⟨g,0,none⟩)) q6 rfl;have y11:=aA (k:=11) (v:=.int .i64 (t4:Int)) q6 rfl
      clear q4 q6;clear hR h1 h2)
    |(go_at_call 16
      with_reducible refine(CT.out _ _ R5.out).mono ?_
      rintro e w7⟨r2,rfl,h1,h2,hR⟩;obtain⟨ty2,xv2,rfl⟩:=h2 trivial;have R6:=hdd hR;have q4:=R6.out.at m0;have q6:=R6.out.at m1;have x0:=aA (k:=0) (v:=.int .i64 kd) q4 rfl;have x1:=aA (k:=1) (v:=.float .f64 wa) q4 rfl;have x2:=aA (k:=2) (v:=.float .f64 wb) q4 rfl;have x3:=aA (k:=3) (v:=.float .f64 wc) q4 rfl;have x4:=aA (k:=4) (v:=.pointer (some ⟨g,0,none⟩)) q4 rfl;have x5:=aA (k:=5) (v:=.int .i64 (i:Int)) q4 rfl;have x6:=aA (k:=6) (v:=.pointer (some ⟨g,0,none⟩)) q4 rfl;have x7:=aA (k:=7) (v:=.int .i64 (j:Int)) q4 rfl;have x8:=aA (k:=8) (v:=.pointer (some ⟨g,0,none⟩)) q4 rfl;have x9:=aA (k:=9) (v:=.int .i64 (kk:Int)) q4 rfl;have x10:=aA (k:=10) (v:=.pointer (some ⟨g,0,none⟩)) q4 rfl;have x11:=aA (k:=11) (v:=.int .i64 (m:Int)) q4 rfl;have y0:=aA (k:=0) (v:=.int .i64 kd) q6 rfl;have y1:=aA (k:=1) (v:=.float .f64 wa) q6 rfl;have y2:=aA (k:=2) (v:=.float .f64 wb) q6 rfl;have y3:=aA (k:=3) (v:=.float .f64 wc) q6 rfl;have y4:=aA (k:=4) (v:=.pointer (some ⟨g,0,none⟩)) q6 rfl;have y5:=aA (k:=5) (v:=.int .i64 (t1:Int)) q6 rfl;have y6:=aA (k:=6) (v:=.pointer (some ⟨g,0,none⟩)) q6 rfl;have y7:=aA (k:=7) (v:=.int .i64 (t2:Int)) q6 rfl;have y8:=aA (k:=8) (v:=.pointer (some ⟨g,0,none⟩)) q6 rfl;have y9:=aA (k:=9) (v:=.int .i64 (t3:Int)) q6 rfl;have y10:=aA (k:=10) (v:=.pointer (some ⟨g,0,none⟩)) q6 rfl;have y11:=aA (k:=11) (v:=.int .i64 (t4:Int)) q6 rfl
      clear q4 q6;clear hR h1 h2))
   have R1:=R6;clear x0 x1 x2 x3 x4 x5 x6 x7 x8 x9 x10 x11 y0 y1 y2 y3 y4 y5 y6 y7 y8 y9 y10 y11 R6 nq CA CT
   go_upto_region 10 with fail
  case' true=>
   go_region_held3 (fun w'=>w'.cell? ⟨b4,0,none⟩=some (.int .i64 kd)/\w'.cell? ⟨b4,1,none⟩=some (.float .f64 wa)/\w'.cell? ⟨b4,2,none⟩=some (.float .f64 wb)/\w'.cell? ⟨b4,3,none⟩=some (.float .f64 wc)/\w'.cell? ⟨b4,4,none⟩=some (.pointer (some ⟨g,0,none⟩))/\w'.cell? ⟨b4,5,none⟩=some (.int .i64 (i:Int))/\w'.cell? ⟨b4,6,none⟩=some (.pointer (some ⟨g,0,none⟩))/\w'.cell? ⟨b4,7,none⟩=some (.int .i64 (j:Int))/\w'.cell? ⟨b4,8,none⟩=some (.pointer (some ⟨g,0,none⟩))/\w'.cell? ⟨b4,9,none⟩=some (.int .i64 (kk:Int))/\w'.cell? ⟨b4,10,none⟩=some (.pointer (some ⟨g,0,none⟩))/\w'.cell? ⟨b4,11,none⟩=some (.int .i64 (m:Int))/\w'.cell? ⟨b1,0,none⟩=some (.int .i64 kd)/\w'.cell? ⟨b1,1,none⟩=some (.float .f64 wa)/\w'.cell? ⟨b1,2,none⟩=some (.float .f64 wb)/\w'.cell? ⟨b1,3,none⟩=some (.float .f64 wc)/\w'.cell? ⟨b1,4,none⟩=some (.pointer (some ⟨g,0,none⟩))/\w'.cell? ⟨b1,5,none⟩=some (.int .i64 (t1:Int))/\w'.cell? ⟨b1,6,none⟩=some (.pointer (some ⟨g,0,none⟩))/\w'.cell? ⟨b1,7,none⟩=some (.int .i64 (t2:Int))/\w'.cell? ⟨b1,8,none⟩=some (.pointer (some ⟨g,0,none⟩))/\w'.cell? ⟨b1,9,none⟩=some (.int .i64 (t3:Int))/\w'.cell? ⟨b1,10,none⟩=some (.pointer (some ⟨g,0,none⟩))/\w'.cell? ⟨b1,11,none⟩=some (.int .i64 (t4:Int))) (go_keep)
    (first
    |(go_at_call 15
      with_reducible refine(HB.out _).mono ?_
      rintro e w5⟨rfl,hb5⟩;have R4:=hdd (R3.out.step hb5);have q4:=R4.out.at m0;have q6:=R4.out.at m1;have x0:=aA (k:=0) (v:=.int .i64 kd) q4 rfl;have x1:=aA (k:=1) (v:=.float .f64 wa) q4 rfl;have x2:=aA (k:=2) (v:=.float .f64 wb) q4 rfl;have x3:=aA (k:=3) (v:=.float .f64 wc) q4 rfl;have x4:=aA (k:=4) (v:=.pointer (some ⟨g,0,none⟩)) q4 rfl;have x5:=aA (k:=5) (v:=.int .i64 (i:Int)) q4 rfl;have x6:=aA (k:=6) (v:=.pointer (some ⟨g,0,none⟩)) q4 rfl;have x7:=aA (k:=7) (v:=.int .i64 (j:Int)) q4 rfl;have x8:=aA (k:=8) (v:=.pointer (some ⟨g,0,none⟩)) q4 rfl;have x9:=aA (k:=9) (v:=.int .i64 (kk:Int)) q4 rfl;have x10:=aA (k:=10) (v:=.pointer (some ⟨g,0,none⟩)) q4 rfl;have x11:=aA (k:=11) (v:=.int .i64 (m:Int)) q4 rfl;have y0:=aA (k:=0) (v:=.int .i64 kd) q6 rfl;have y1:=aA (k:=1) (v:=.float .f64 wa) q6 rfl;have y2:=aA (k:=2) (v:=.float .f64 wb) q6 rfl;have y3:=aA (k:=3) (v:=.float .f64 wc) q6 rfl;have y4:=aA (k:=4) (v:=.pointer (some ⟨g,0,none⟩)) q6 rfl;have y5:=aA (k:=5) (v:=.int .i64 (t1:Int)) q6 rfl;have y6:=aA (k:=6) (v:=.pointer (some ⟨g,0,none⟩)) q6 rfl;have y7:=aA (k:=7) (v:=.int .i64 (t2:Int)) q6 rfl;have y8:=aA (k:=8) (v:=.pointer (some ⟨g,0,none⟩)) q6 rfl;have y9:=aA (k:=9) (v:=.int .i64 (t3:Int)) q6 rfl;have y10:=aA (k:=10) (v:=.pointer (some ⟨g,0,none⟩)) q6 rfl;have y11:=aA (k:=11) (v:=.int .i64 (t4:Int)) q6 rfl
      clear q4 q6;clear hb5)
    |(go_at_call 16
      with_reducible refine(CA.out _ _ R4.out).mono ?_
      rintro e w6⟨r1,rfl,h1,h2,hR⟩;obtain rfl:=h1 trivial;have R5:=hdd hR;have q4:=R5.out.at m0;have q6:=R5.out.at m1;have x0:=aA (k:=0) (v:=.int .i64 kd) q4 rfl;have x1:=aA (k:=1) (v:=.float .f64 wa) q4 rfl;have x2:=aA (k:=2) (v:=.float .f64 wb) q4 rfl;have x3:=aA (k:=3) (v:=.float .f64 wc) q4 rfl;have x4:=aA (k:=4) (v:=.pointer (some ⟨g,0,none⟩)) q4 rfl;have x5:=aA (k:=5) (v:=.int .i64 (i:Int)) q4 rfl;have x6:=aA (k:=6) (v:=.pointer (some ⟨g,0,none⟩)) q4 rfl;have x7:=aA (k:=7) (v:=.int .i64 (j:Int)) q4 rfl;have x8:=aA (k:=8) (v:=.pointer (some ⟨g,0,none⟩)) q4 rfl;have x9:=aA (k:=9) (v:=.int .i64 (kk:Int)) q4 rfl;have x10:=aA (k:=10) (v:=.pointer (some ⟨g,0,none⟩)) q4 rfl;have x11:=aA (k:=11) (v:=.int .i64 (m:Int)) q4 rfl;have y0:=aA (k:=0) (v:=.int .i64 kd) q6 rfl;have y1:=aA (k:=1) (v:=.float .f64 wa) q6 rfl;have y2:=aA (k:=2) (v:=.float .f64 wb) q6 rfl;have y3:=aA (k:=3) (v:=.float .f64 wc) q6 rfl;have y4:=aA (k:=4) (v:=.pointer (some ⟨g,0,none⟩)) q6 rfl;have y5:=aA (k:=5) (v:=.int .i64 (t1:Int)) q6 rfl;have y6:=aA (k:=6) (v:=.pointer (some ⟨g,0,none⟩)) q6 rfl;have y7:=aA (k:=7) (v:=.int .i64 (t2:Int)) q6 rfl;have y8:=aA (k:=8) (v:=.pointer (some ⟨g,0,none⟩)) q6 rfl;have y9:=aA (k:=9) (v:=.int .i64 (t3:Int)) q6 rfl;have y10:=aA (k:=10) (v:=.pointer (some ⟨g,0,none⟩)) q6 rfl;have y11:=aA (k:=11) (v:=.int .i64 (t4:Int)) q6 rfl
      clear q4 q6;clear hR h1 h2)
    |(go_at_call 16
      with_reducible refine(CT.out _ _ R5.out).mono ?_
      rintro e w7⟨r2,rfl,h1,h2,hR⟩;obtain rfl:=h1 trivial;have R6:=hdd hR;have q4:=R6.out.at m0;have q6:=R6.out.at m1;have x0:=aA (k:=0) (v:=.int .i64 kd) q4 rfl;have x1:=aA (k:=1) (v:=.float .f64 wa) q4 rfl;have x2:=aA (k:=2) (v:=.float .f64 wb) q4 rfl;have x3:=aA (k:=3) (v:=.float .f64 wc) q4 rfl;have x4:=aA (k:=4) (v:=.pointer (some ⟨g,0,none⟩)) q4 rfl;have x5:=aA (k:=5) (v:=.int .i64 (i:Int)) q4 rfl;have x6:=aA (k:=6) (v:=.pointer (some ⟨g,0,none⟩)) q4 rfl;have x7:=aA (k:=7) (v:=.int .i64 (j:Int)) q4 rfl;have x8:=aA (k:=8) (v:=.pointer (some ⟨g,0,none⟩)) q4 rfl;have x9:=aA (k:=9) (v:=.int .i64 (kk:Int)) q4 rfl;have x10:=aA (k:=10) (v:=.pointer (some ⟨g,0,none⟩)) q4 rfl;have x11:=aA (k:=11) (v:=.int .i64 (m:Int)) q4 rfl;have y0:=aA (k:=0) (v:=.int .i64 kd) q6 rfl;have y1:=aA (k:=1) (v:=.float .f64 wa) q6 rfl;have y2:=aA (k:=2) (v:=.float .f64 wb) q6 rfl;have y3:=aA (k:=3) (v:=.float .f64 wc) q6 rfl;have y4:=aA (k:=4) (v:=.pointer (some ⟨g,0,none⟩)) q6 rfl;have y5:=aA (k:=5) (v:=.int .i64 (t1:Int)) q6 rfl;have y6:=aA (k:=6) (v:=.pointer (some ⟨g,0,none⟩)) q6 rfl;have y7:=aA (k:=7) (v:=.int .i64 (t2:Int)) q6 rfl;have y8:=aA (k:=8) (v:=.pointer (some ⟨g,0,none⟩)) q6 rfl;have y9:=aA (k:=9) (v:=.int .i64 (t3:Int)) q6 rfl;have y10:=aA (k:=10) (v:=.pointer (some ⟨g,0,none⟩)) q6 rfl;have y11:=aA (k:=11) (v:=.int .i64 (t4:Int)) q6 rfl
      clear q4 q6;clear hR h1 h2))
   have R1:=R6;clear x0 x1 x2 x3 x4 x5 x6 x7 x8 x9 x10 x11 y0 y1 y2 y3 y4 y5 y6 y7 y8 y9 y10 y11 R6 nq CA CT
   go_upto_region 10 with fail
  all_goals (
   refine Spec.go [.w (.agg ((dS g kd wa wb wc 0 1 2 3))),.tup [.agg (bF g 10 11),.agg (bF g 12 13),.c (.v .nilIface)],.tup [.agg (bF g 10 11),.agg (bF g 12 13),.c (.v .nilIface)],dA g 10 11,dA g 12 13,.w (.c (.v .nilIface)),.w (.c (.ptr 14 0)),.w (.c (.ptr 15 0)),noS,noS,.w (.c (.v .nilIface))] [1,1,1,1,6,7]
    [(0,(.leaf P0)),(1,(.leaf P1)),(2,(.leaf Q0)),(3,(.leaf Q1)),(4,T1),(5,T2),(6,T3),(7,T4),(10,E1),(11,E2),(12,E3),(13,E4)] [⟨8,35,(dS g kd wa wb wc 0 1 2 3),none⟩,⟨9,35,(dS g kd wa wb wc 4 5 6 7),none⟩,⟨14,33,[.v (.pointer none),.v (.int .i64 0),.v (.pointer none),.v (.int .i64 0)],some (8,bF g 10 11)⟩,⟨15,33,[.v (.pointer none),.v (.int .i64 0),.v (.pointer none),.v (.int .i64 0)],some (9,bF g 12 13)⟩]
    [0,2,0,0,0,0,0,0,0,0,0] [[],[0],[0,1],[0,1,2],[0,1,2],[0,1,2],[],[],[0,1,2,3,6,7],[0,1,2,3,4,6,7,8],[0,1,2,5]] [(4,.w (.c (.ptr 8 0)))]
    [49,50,48,51,52,53,8,9,0,0,10] [i,j,kk,m,t1,t2,t3,t4,b4,b1] 11 46 [] [] R1.out
    (fun b hM=>aB (aB (aB (aB (aB (aB (aB (aB (aB (aB (aB aN
      (aY b 12 m0))
      (bD b (c_fn (ix:=[0,1,2,3]) (ts:=[10,11,12,13]) hM (fun ν=>EN1.out g (ν 0) (ν 1) (ν 2) (ν 3)))))
      (aF b))
      (aF b))
      (aF b))
      (aF b))
      (bC b m2))
      (bC b m3))
      (dD b 4 m2))
      (dD b 4 m3))
      (aF b)) ?_
   intro n1 n2 n3 n4 b5 b6 ν W2 hR;have R2:=hdd hR;clear hR R1;simp only[putL,bjC,bjI,fs0,fs1,fsn,dSw,dSt,dWc,dWa,dv,di,dp,ds',bjD,bjE,nuTn,nuT0,nuT1,nuU0,nuU1,dA12,dP8,dP24,dF]
   go_upto_region 11 with fail
   refine Spec.go [.w (.agg ((dS g kd wa wb wc 0 1 2 3))),.tup [.agg (bF g 11 12),.agg (bF g 13 14),.c (.v .nilIface)],.tup [.agg (bF g 11 12),.agg (bF g 13 14),.c (.v .nilIface)],dA g 11 12,dA g 13 14,.w (.c (.v .nilIface)),.w (.c (.ptr 15 0)),.w (.c (.ptr 16 0)),noS,noS,.w (.c (.v .nilIface))] [1,1,1,1,6,7]
    [(0,T1),(1,T2),(2,T3),(3,T4),(5,E1),(6,E2),(7,E3),(8,E4),(11,F1),(12,F2),(13,F3),(14,F4)] [⟨4,35,(dS g kd wa wb wc 0 1 2 3),none⟩,⟨9,33,bF g 5 6,none⟩,⟨10,33,bF g 7 8,none⟩,⟨15,33,[.v (.pointer none),.v (.int .i64 0),.v (.pointer none),.v (.int .i64 0)],some (8,bF g 11 12)⟩,⟨16,33,[.v (.pointer none),.v (.int .i64 0),.v (.pointer none),.v (.int .i64 0)],some (9,bF g 13 14)⟩]
    [0,2,0,0,0,0,0,0,0,0,0] [[],[0],[0,1],[0,1,2],[0,1,2],[0,1,2],[],[],[0,1,2,3,6,7],[0,1,2,3,4,6,7,8],[0,1,2,5]] [(6,.w (.c (.ptr 4 0)))]
    [55,56,54,57,58,59,11,12,0,0,13] [t1,t2,t3,t4,b1,n1,n2,n3,n4,b5,b6] 11 48 [false,false,false,false] [false] R2.out
    (fun b hM=>aB (aB (aB (aB (aB (aB (aB (aB (aB (aB (aB aN
      (aY b 12 m0))
      (bD b (c_fn (ix:=[0,1,2,3]) (ts:=[11,12,13,14]) hM (fun ν=>EN2.out g (ν 0) (ν 1) (ν 2) (ν 3)))))
      (aF b))
      (aF b))
      (aF b))
      (aF b))
      (bC b m3))
      (bC b m4))
      (dD b 4 m3))
      (dD b 4 m4))
      (aF b)) ?_
   intro n7 n8 n9 n10 b11 b12 ν W3 hR;have R3:=hdd hR;clear hR R2;simp only[putL,bjC,bjI,fs0,fs1,fsn,dSw,dSt,dWc,dWa,dv,di,dp,ds',bjD,bjE,nuTn,nuT0,nuT1,nuU0,nuU1,dA12,dP8,dP24,dF]
   go_upto_region 12 with fail
   refine Spec.go [dA g 0 1,dA g 6 7,.tup [.c (.v (.bool ((0:Int)==0))),.c (.v .nilIface)],.tup [.c (.v (.bool ((0:Int)==0))),.c (.v .nilIface)],.w (.c (.v (.bool ((0:Int)==0)))),.w (.c (.v .nilIface)),.w (.c (.v (.bool ((0:Int)==0)))),.w (.c (.v .nilIface))] []
    [(0,E1),(1,E2),(2,E3),(3,E4),(6,F1),(7,F2),(8,F3),(9,F4)] [⟨4,33,bF g 0 1,none⟩,⟨5,33,bF g 2 3,none⟩,⟨10,33,bF g 6 7,none⟩,⟨11,33,bF g 8 9,none⟩]
    [0,0,2,0,0,0,0,0] [[],[],[0,1],[0,1,2],rgn 4,rgn 4,rgn 5,[0,1,2,3,5]] [(7,.w (.c (.ptr 4 0))),(10,.w (.c (.ptr 10 0)))]
    [61,62,63,60,64,65,14,15] [n1,n2,n3,n4,b5,b6,n7,n8,n9,n10,b11,b12] 8 50 [false,false,false,false] [false] R3.out
    (fun b hM=>aB (aB (aB (aB (aB (aB (aB (aB aN
      (aY b 4 m0))
      (aY b 4 m2))
      (bD b (aeH hM m0 m1 rfl rfl m4 m5 rfl rfl rfl rfl rfl CP.out.1)))
      (aF b))
      (aF b))
      (aF b))
      (aF b))
      (aF b)) ?_
   intro ν W4 hR;have R4:=hdd hR;clear hR R3;simp only[putL,bjC,bjI,fs0,fs1,fsn,dSw,dSt,dWc,dWa,dv,di,dp,ds',bjD,bjE,nuTn,nuT0,nuT1,nuU0,nuU1,dA12,dP8,dP24,dF]
   go_upto_region 13 with fail
   refine Spec.go [dA g 2 3,dA g 8 9,.tup [.c (.v (.bool ((0:Int)==0))),.c (.v .nilIface)],.tup [.c (.v (.bool ((0:Int)==0))),.c (.v .nilIface)],.w (.c (.v (.bool ((0:Int)==0)))),.w (.c (.v .nilIface)),.w (.c (.v (.bool ((0:Int)==0)))),.w (.c (.v .nilIface))] []
    [(0,E1),(1,E2),(2,E3),(3,E4),(6,F1),(7,F2),(8,F3),(9,F4)] [⟨4,33,bF g 0 1,none⟩,⟨5,33,bF g 2 3,none⟩,⟨10,33,bF g 6 7,none⟩,⟨11,33,bF g 8 9,none⟩]
    [0,0,2,0,0,0,0,0] [[],[],[0,1],[0,1,2],rgn 4,rgn 4,rgn 5,[0,1,2,3,5]] [(8,.w (.c (.ptr 5 0))),(11,.w (.c (.ptr 11 0)))]
    [67,68,69,66,70,71,16,17] [n1,n2,n3,n4,b5,b6,n7,n8,n9,n10,b11,b12] 8 52 [] [] R4.out
    (fun b hM=>aB (aB (aB (aB (aB (aB (aB (aB aN
      (aY b 4 m1))
      (aY b 4 m3))
      (bD b (aeH hM m2 m3 rfl rfl m6 m7 rfl rfl rfl rfl rfl CP.out.2)))
      (aF b))
      (aF b))
      (aF b))
      (aF b))
      (aF b)) ?_
   intro ν W5 hR;replace hR:Run (bs w) g 52 [(E1,n1),(E2,n2),(E3,n3),(E4,n4),(F1,n7),(F2,n8),(F3,n9),(F4,n10)] [(b5,iL g n1 n2),(b6,iL g n3 n4),(b11,iL g n7 n8),(b12,iL g n9 n10)] W5:=hR;have R5:=hdd hR;clear hR R4;simp only[putL,bjC,bjI,fs0,fs1,fsn,dSw,dSt,dWc,dWa,dv,di,dp,ds',bjD,bjE,nuTn,nuT0,nuT1,nuU0,nuU1,dA12,dP8,dP24,dF];have HF:=hdd R5.out.below;clear R5 EN1 EN2 CP NQ;go_wp2;go_ret;exact⟨rfl,HF.out⟩
   )
  )
end Go.Proofs.YtjaafolhfihegaaGreatDoor
