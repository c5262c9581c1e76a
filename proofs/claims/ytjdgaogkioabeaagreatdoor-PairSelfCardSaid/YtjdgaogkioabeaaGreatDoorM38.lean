/- A part of the proof: contracts of functions and plain laws (FlAxClmV, FlGxClmV, CkAxClmV, CkBxClmV, RunAxClmV, SymCxClmV, TuAxClmV, FnAxClmV, FeAxClmV). -/
import Derived.Test.YtjdgaogkioabeaaGreatDoorM12
import Derived.Test.YtjdgaogkioabeaaGreatDoorM11
import Derived.Test.YtjdgaogkioabeaaGreatDoorM10
import Derived.Test.YtjdgaogkioabeaaGreatDoorM08
import Derived.Test.YtjdgaogkioabeaaGreatDoorM09
import Derived.Test.YtjdgaogkioabeaaGreatDoorM01
import Derived.Test.YtjdgaogkioabeaaGreatDoorM07
import Derived.Test.YtjdgaogkioabeaaGreatDoorM06
import Derived.Test.YtjdgaogkioabeaaGreatDoorM05
import Derived.Test.YtjdgaogkioabeaaGreatDoorM04
import Derived.Test.YtjdgaogkioabeaaGreatDoorM03
import Derived.Test.YtjdgaogkioabeaaGreatDoorM02
import Derived.LaidEql
import Derived.Lib.IfaceEq
import Derived.Stop.Asserts
import Derived.Recover
import Derived.Defers
import Derived.Test.YtjdgaogkioabeaaGreatDoorM16
import Derived.Test.YtjdgaogkioabeaaGreatDoorM15
import Derived.Test.YtjdgaogkioabeaaGreatDoorM14
import Derived.Test.YtjdgaogkioabeaaGreatDoorM13
import Derived.Test.YtjdgaogkioabeaaGreatDoorM18
import Derived.Test.YtjdgaogkioabeaaGreatDoorM17
import Derived.Test.YtjdgaogkioabeaaGreatDoorM32
set_option linter.unusedVariables false
set_option linter.unusedSimpArgs false
set_option maxHeartbeats 25600000
set_option maxRecDepth 100000
namespace Go.Proofs.YtjdgaogkioabeaaGreatDoor
open Go.RowKit Go.Maps Go.Stop Go.Extern
variable{k:Int}{b n:Nat}{S:Nat->Prop}{v:Value}{w w' w1:World}
inductive ErK(S:Nat->Prop)(w:World):Nat->Value->Int->Prop
 |kind {k:Int}:1<=k->k<=7->ErK S w 0 (.iface 99 (.int .i64 k)) k
 |inn {n b:Nat} {v:Value} {k:Int}:S b->w.cell? ⟨b,1,none⟩=some v->ErK S w n v k->ErK S w (n+1) (.iface 115 (.pointer (some ⟨b,0,none⟩))) k
 |att {n b:Nat} {v:Value} {k:Int}:S b->w.cell? ⟨b,1,none⟩=some v->ErK S w n v k->ErK S w (n+1) (.iface 126 (.pointer (some ⟨b,0,none⟩))) k
theorem ErK.block (h:w.cell? ⟨b,1,none⟩=some v):b<w.heap.size:=World.block_lt_of_cell? w _ h
theorem ErK.keep (h:ErK S w n v k)(hb:∀b,S b->b<w.heap.size->w'.cell? ⟨b,1,none⟩=w.cell? ⟨b,1,none⟩):ErK S w' n v k:=by
 induction h with
 |kind h1 h2=>exact .kind h1 h2
 |inn h0 h1 _ ih=>exact .inn h0 ((hb _ h0 (ErK.block h1)).trans h1) ih
 |att h0 h1 _ ih=>exact .att h0 ((hb _ h0 (ErK.block h1)).trans h1) ih
theorem ErK.mono {T:Nat->Prop}(h:ErK S w n v k)(hb:∀b,S b->b<w.heap.size->T b):ErK T w n v k:=by
 induction h with
 |kind h1 h2=>exact .kind h1 h2
 |inn h0 h1 _ ih=>exact .inn (hb _ h0 (ErK.block h1)) h1 ih
 |att h0 h1 _ ih=>exact .att (hb _ h0 (ErK.block h1)) h1 ih
theorem ErK.low (h:ErK S w n v k)(hb:Below w.heap.size w w'):ErK S w' n v k:=
 h.keep fun _ _ hl=>World.cell?_of_block (hb.block _ hl)
abbrev anA(w w':World)(b:Nat):Prop:=w.heap.size<=b/\b<w'.heap.size
def RetEr(w:World)(k:Int)(e:Ending)(w':World):Prop:=∃er n,e=.returned er/\n<=1000/\ErK (anA w w') w' n er k/\Below w.heap.size w w'
theorem aq1{s:ByteArray}(h:ErK S w n v k):
 Calls Tryz.prog 44 #[.string s,v] w (fun e w'=>∃er,e=.returned er/\ErK (fun b=>S b\/anA w w' b) w' (n+1) er k/\Below w.heap.size w w'):=by
 have hnn:∃t x,v=.iface t x:=by cases h<;>exact⟨_,_,rfl⟩
 obtain⟨vt,vx,rfl⟩:=hnn;have hb:Below w.heap.size w (w.alloc (.cells #[.string s,.iface vt vx] 117)):=Below.alloc (Below.refl _ _) nlr _;have HE:Hid (ErK (fun b=>S b\/anA w (w.alloc (.cells #[.string s,.iface vt vx] 117)) b) (w.alloc (.cells #[.string s,.iface vt vx] 117)) (n+1) (.iface 115 (.pointer (some ⟨w.heap.size,0,none⟩))) k):=hdd (.inn (Or.inr ⟨Nat.le_refl _,by simp⟩) (by simp) ((h.low hb).mono fun _ h _=>Or.inl h));have HB:=hdd hb;clear h hb;go_enter Tryz.func44,Tryz.ntmps44
 go_wp2;go_ret;exact⟨_,rfl,HE.out,HB.out⟩
theorem degen_any:Calls Tryz.prog 45 #[] w (fun e w'=>e=.returned (.iface 99 (.int .i64 5))/\w'=w):=by
 go_enter Tryz.func45,Tryz.ntmps45
 go_wp2;go_ret;exact⟨rfl,rfl⟩
theorem in_line:Calls Tryz.prog 44 #[.string ⟨#[108,105,110,101]⟩,.iface 99 (.int .i64 5)] w1 (RetEr w1 5):=
 (aq1 (w:=w1) (ErK.kind (S:=fun _=>False) (k:=5) (by decide) (by decide))).mono fun _ _ ⟨er,h1,h2,h3⟩=>⟨er,1,h1,by omega,h2.mono fun b hb _=>by
   rcases hb with h|h
   . exact h.elim
   . exact h,h3⟩
theorem RetEr.up {e:Ending}(h:RetEr w1 k e w')(hb:Below w.heap.size w w1):RetEr w k e w':=by
 obtain⟨er,n,h1,h2,h3,h4⟩:=h;exact⟨er,n,h1,h2,h3.mono fun b hb' _=>⟨Nat.le_trans hb.size hb'.1,hb'.2⟩,hb.trans (h4.mono hb.size)⟩
theorem anB{a c:Nat}(ha:a<18446744073709551616)(hb:b<18446744073709551616)(hc:c<18446744073709551616)(h:¬iJ a b c):Calls Tryz.prog 42 #[curV 1 a b c] w (RetEr w 5):=by
 obtain⟨w1,hw1,hb1,hs1,b1⟩:=pro1 w (curO 1 a b c);obtain⟨c0,c1,c2,c3⟩:=aG b1;have HB:=hdd hb1;have FA:Hid (∀w',Calls Tryz.prog 63 #[.float .f64 a] w' (RetB w' (decide (fin a)))):=hdd fun w'=>lQ ha;have FB:Hid (∀w',Calls Tryz.prog 63 #[.float .f64 b] w' (RetB w' (decide (fin b)))):=hdd fun w'=>lQ hb;have FC:Hid (∀w',Calls Tryz.prog 63 #[.float .f64 c] w' (RetB w' (decide (fin c)))):=hdd fun w'=>lQ hc;by_cases fa:fin a
 . rw[decide_eq_true fa]at FA
   by_cases fb:fin b
   . rw[decide_eq_true fb]at FB
     by_cases fc:fin c
     . rw[decide_eq_true fc]at FC
       have ea:=jW (b:=a) fa.num num0;have eb:=jW (b:=b) fb.num num0;rw[sr0,decide_eq_true (qQ.2 (Classical.byContradiction fun k=>h ⟨⟨ha,fa⟩,⟨hb,fb⟩,⟨hc,fc⟩,Or.inl k⟩))]at ea;rw[sr0,decide_eq_true (qQ.2 (Classical.byContradiction fun k=>h ⟨⟨ha,fa⟩,⟨hb,fb⟩,⟨hc,fc⟩,Or.inr k⟩))]at eb;replace ea:=nK ea;replace eb:=nK eb;rw[Bool.not_true]at ea eb;clear ha hb hc h hb1 hs1 b1 fa fb fc;go_enter Tryz.func42,Tryz.ntmps42
       go_wp2_with fail
       refine(FA.out _).mono ?_;rintro e w2⟨rfl,hw⟩;obtain rfl:=hw;go_wp2_with fail
       refine(FB.out _).mono ?_;rintro e w2⟨rfl,hw⟩;obtain rfl:=hw;go_wp2_with fail
       refine(FC.out _).mono ?_;rintro e w2⟨rfl,hw⟩;obtain rfl:=hw;go_wp2_with fail
       refine degen_any.mono ?_;rintro e w2⟨rfl,hw⟩;obtain rfl:=hw;go_wp2_with fail
       refine in_line.mono ?_;rintro e w2 hr;obtain⟨er,n,rfl,-⟩:=id hr;have HR:=hdd hr;clear hr;go_wp2;go_ret;exact HR.out.up HB.out
     . rw[decide_eq_false fc]at FC
       clear ha hb hc h hb1 hs1 b1 fa fb fc;go_enter Tryz.func42,Tryz.ntmps42
       go_wp2_with fail
       refine(FA.out _).mono ?_;rintro e w2⟨rfl,hw⟩;obtain rfl:=hw;go_wp2_with fail
       refine(FB.out _).mono ?_;rintro e w2⟨rfl,hw⟩;obtain rfl:=hw;go_wp2_with fail
       refine(FC.out _).mono ?_;rintro e w2⟨rfl,hw⟩;obtain rfl:=hw;go_wp2_with fail
       refine degen_any.mono ?_;rintro e w2⟨rfl,hw⟩;obtain rfl:=hw;go_wp2_with fail
       refine in_line.mono ?_;rintro e w2 hr;obtain⟨er,n,rfl,-⟩:=id hr;have HR:=hdd hr;clear hr;go_wp2;go_ret;exact HR.out.up HB.out
   . rw[decide_eq_false fb]at FB
     clear ha hb hc h hb1 hs1 b1 fa fb FC;go_enter Tryz.func42,Tryz.ntmps42
     go_wp2_with fail
     refine(FA.out _).mono ?_;rintro e w2⟨rfl,hw⟩;obtain rfl:=hw;go_wp2_with fail
     refine(FB.out _).mono ?_;rintro e w2⟨rfl,hw⟩;obtain rfl:=hw;go_wp2_with fail
     refine degen_any.mono ?_;rintro e w2⟨rfl,hw⟩;obtain rfl:=hw;go_wp2_with fail
     refine in_line.mono ?_;rintro e w2 hr;obtain⟨er,n,rfl,-⟩:=id hr;have HR:=hdd hr;clear hr;go_wp2;go_ret;exact HR.out.up HB.out
 . rw[decide_eq_false fa]at FA
   clear ha hb hc h hb1 hs1 b1 fa FB FC;go_enter Tryz.func42,Tryz.ntmps42
   go_wp2_with fail
   refine(FA.out _).mono ?_;rintro e w2⟨rfl,hw⟩;obtain rfl:=hw;go_wp2_with fail
   refine degen_any.mono ?_;rintro e w2⟨rfl,hw⟩;obtain rfl:=hw;go_wp2_with fail
   refine in_line.mono ?_;rintro e w2 hr;obtain⟨er,n,rfl,-⟩:=id hr;have HR:=hdd hr;clear hr;go_wp2;go_ret;exact HR.out.up HB.out
end Go.Proofs.YtjdgaogkioabeaaGreatDoor
namespace Go.Proofs.YtjdgaogkioabeaaGreatDoor
open Go.RowKit Go.Maps
section
variable{α:Type}{a:α}{l:List α}
theorem m9{b0 b1 b2 b3 b4 b5 b6 b7 b8:α}:a∈b0::b1::b2::b3::b4::b5::b6::b7::b8::a::l:=.tail _ m8
theorem m10{b0 b1 b2 b3 b4 b5 b6 b7 b8 b9:α}:a∈b0::b1::b2::b3::b4::b5::b6::b7::b8::b9::a::l:=.tail _ m9
theorem m11{b0 b1 b2 b3 b4 b5 b6 b7 b8 b9 b10:α}:a∈b0::b1::b2::b3::b4::b5::b6::b7::b8::b9::b10::a::l:=.tail _ m10
end
section
variable{s:Bs}{w0 w1 W W':World}{g N M:Nat}{K:List (Ex×Nat)}{l l':List (Nat×Obj)}
end
section
variable{s:Bs}{W W':World}{g N M:Nat}{K:List (Ex×Nat)}{l:List (Nat×Obj)}{x y:Ex}{ns:List Nd}
end
section
variable{s:Bs}{W:World}{g N i j k m b v:Nat}{K:List (Ex×Nat)}{l:List (Nat×Obj)}{x y:Ex}{q:Int}
variable{px py qx qy rx ry:Ex}{i' j' k':Nat}
end
abbrev valS(v:Value):SV:=.w (.c (.v v))
section
variable{S:Spec Ex}{w0:Bs}{g c0:Nat}{a0:Act}{ν0:Nat->Nat}{i:Nat}{Q:Exit->Act->World->Prop}
variable(hM:c0+S.total<=20000){m n m' n' m2 n2 t t':Nat}{x y x' y' x2 y2:Ex}{q:Int}
include hM
section
variable(hx:(m,x)∈S.know)(hy:(n,y)∈S.know)(px:S.pre i m=true)(py:S.pre i n=true)
include hx px
include hy py
section
variable(hx':(m',x')∈S.know)(hy':(n',y')∈S.know)(px':S.pre i m'=true)(py':S.pre i n'=true)
include hx' hy' px' py'
end
end
theorem aq2{f:FuncId}{args:Array Value}{v:Value}(hc:S.cost i=0)(hv:S.val i=valS v)(hk:S.made i=[])(h:∀w,Calls Tryz.prog f args w (RetV w v)):mJ S w0 g c0 i f (fun _=>args):=
 ac3 hM (d:=0) hc (fun ν=>by rw[hv];rfl) hk fun lst ν c w hD hl hR=>(h w).mono fun _ _ hr=>⟨hr.1,hR.step hr.2⟩
end
end Go.Proofs.YtjdgaogkioabeaaGreatDoor
namespace Go.Proofs.YtjdgaogkioabeaaGreatDoor
open Go.RowKit Go.Maps Go.Stop Go.Extern
open Go.Value renaming ownBlock->bkK,oneCell'->bkL
open Option.some renaming inj->bkJ,injEq->bkM
variable{b:Nat}{w:World}
abbrev arcW(g:Nat)(kd:Int)(wa wb wc i j k l:Nat):Value:=.agg #[.int .i64 kd,.float .f64 wa,.float .f64 wb,.float .f64 wc,.pointer (some ⟨g,0,none⟩),.int .i64 (i:Int),.pointer (some ⟨g,0,none⟩),.int .i64 (j:Int),.pointer (some ⟨g,0,none⟩),.int .i64 (k:Int),.pointer (some ⟨g,0,none⟩),.int .i64 (l:Int)]
theorem abT:Calls Tryz.prog 30 #[] w (fun e w'=>e=.returned (.iface 99 (.int .i64 4))/\w=w'):=by
 go_enter Tryz.func30,Tryz.ntmps30
 go_wp2;go_ret;exact⟨rfl,rfl⟩
theorem yM{a c:Nat}(ha:a<18446744073709551616)(hb:b<18446744073709551616)(hc:c<18446744073709551616)(h:¬iJ a b c):Calls Tryz.prog 27 #[curV 1 a b c] w (RetEr w 5):=by
 obtain⟨w1,hw1,hb1,hs1,b1⟩:=pro1 w (curO 1 a b c);obtain⟨c0,c1,c2,c3⟩:=aG b1;have HB:=hdd hb1;have HL:=hdd (anB (w:=w1) ha hb hc h);clear h hb1 hs1 b1 ha hb hc;go_enter Tryz.func27,Tryz.ntmps27
 go_wp2_with fail
 refine HL.out.mono ?_;rintro e w2 hr;obtain⟨er,n,rfl,-⟩:=id hr;have HR:=hdd hr;clear hr;go_wp2;go_ret;exact HR.out.up HB.out
theorem abU{T:TypeId}{cs:Array Value}(h:w.heap[b]? =some (.cells cs T (0,0)))(k:Nat):w.frozen? ⟨b,k,none⟩=false:=by simp[World.frozen?,h]
def anC(w:World)(e:Ending)(w':World):Prop:=∃t x,e=.returned (.iface t x)/\Below w.heap.size w w'
theorem yF:Tryz.prog.underlying 118=some (.slice 49):=by kernel_rfl
theorem anD:(Tryz.prog.info? 49).map (fun i=>(i.zero,i.size,i.bytes))=some (some (.nilIface),1,16):=by kernel_rfl
theorem anE{t1 t2:TypeId}{x1 x2:Value}(c0:w.cell? ⟨b,0,none⟩=some (.iface t1 x1))(c1:w.cell? ⟨b,1,none⟩=some (.iface t2 x2)):
 Calls Tryz.prog 46 #[.slice (some ⟨b,0,none⟩) 2 2] w (anC w):=by
 have hbl:b<w.heap.size:=World.block_lt_of_cell? w _ c0;obtain⟨i0,hi0,hz0,hz1,hz2⟩:=info_parts anD;obtain⟨w2,hrun,hown,hgr⟩:=run_make_own (P:=Tryz.prog) w w.heap.size 118 49 i0 .nilIface 1 yF hi0 hz0 hz1 .i64 .i64 2 (by rw[hz2];omega) (by unfold maxLen;omega) nlr;have hb2:Below w.heap.size w w2:=⟨hgr.os,hgr.tape,hgr.output,hgr.size,fun b hb=>hgr.block b hb (by simp)⟩;have hrun':(Instr.makeSlice 118 (.int .i64 0) (.int .i64 2)).run Tryz.prog w=.ok (.slice (some ⟨w.heap.size,0,none⟩) 0 2) w2:=by simpa using hrun
 have hs2:w.heap.size<w2.heap.size:=by
  rcases hown.2 with ⟨h,-⟩|⟨g,_,_,h,-,h2,-⟩
  . simp at h
  . simp only[Value.slice.injEq,bkM,Addr.mk.injEq]at h
    obtain⟨⟨rfl,-⟩,-⟩:=h;exact aH h2
 obtain⟨w3,hw3,hb3,hs3,b3⟩:=pro1 w2 (.cells #[.slice (some ⟨w.heap.size,0,none⟩) 0 2] 121);obtain⟨w4,hw4,hb4,hs4,b4⟩:=pro1 w3 (.cells #[.iface t1 x1] 49);have e0:=aA (k:=0) (v:=.slice (some ⟨w.heap.size,0,none⟩) 0 2) b3 rfl;have d0:=cell_below (cbl c0 hb2) hb3 nlr;have d1:=cell_below (cbl c1 hb2) hb3 nlr;have f0:=cbl e0 hb4;have F1:=hdd (cbl d1 hb4);have HO4:=hdd ((hown.kept (aW (row:=none) hb3) (Or.inr (by simp[bkK]))).kept (aW (row:=none) hb4) (Or.inr (by simp[bkK])));have HC4:=hdd (gK b4);have HI0:=hdd hi0;have HZ0:=hdd hz0;have HZ1:=hdd hz1;have HZ2:=hdd hz2;have HB4:=hdd (aC (aC hb2 hb3) hb4);have HS4:Hid (w.heap.size<=w4.heap.size):=hdd HB4.out.size;have G4:=hdd (aI b3 hb4 (aH b3));have zz:=abU G4.out;have HL2:Hid (w.heap.size<w2.heap.size/\w2.heap.size<w4.heap.size/\b<w.heap.size):=hdd ⟨hs2,by have:=aH b3;have:=hb4.size;omega,hbl⟩;clear hown hgr hb2 hrun hs2 hb3 hs3 b3 hb4 hs4 b4 hi0 hz0 hz1 hz2 f0 zz hbl
 go_enter Tryz.func46,Tryz.ntmps46
 go_wp2_with fail
 refine wp_loop_rounds 3 ?_;rw[rounds_succ];go_wp2_with fail
 rw[rounds_succ];go_wp2_with fail
 rw[rounds_succ];go_wp2_with fail
 refine wp_loop_rounds 3 ?_;rw[rounds_succ];go_wp2_with (first
  |(at_builtin
    go_loud (
    refine wpList_append_lies _ rfl _ _ 118 rfl w.heap.size 49 i0 .nilIface 1 16 yF HI0.out HZ0.out HZ1.out HZ2.out rfl (by decide) _ 0 [] rfl HO4.out ⟨w3.heap.size,0,none⟩ 1 1 [.iface t1 x1] rfl rfl HC4.out (by simp[bkL]) (by decide) (by unfold maxLen;omega) (by omega) HS4.out w4.heap.size rfl ?_;intro r cap w5 hown5 hgrow5 hat5 hlt5;have HO5:=hdd hown5;have HG5:=hdd hgrow5;have HA5:=hdd hat5;have G5:=hdd ((hgrow5.block w2.heap.size HL2.out.2.1 (fun e=>absurd (show some w2.heap.size=some w.heap.size from e) (fun k=>by have h1:=HL2.out.1;have h2:=bkJ k;omega))).trans G4.out);have zz:=abU G5.out;have g0:=aA (k:=0) (v:=.slice (some ⟨w.heap.size,0,none⟩) 0 2) G5.out rfl;clear hown5 hgrow5 hat5 hlt5)))
 have HB5:=hdd (HB4.out.trans (Below.of_grown HG5.out HS4.out (by simp[bkK])));have D5:Hid (w5.cell? ⟨b,1,none⟩=some (.iface t2 x2)):=hdd (cbl c1 HB5.out);have hr:r≠w2.heap.size:=by
  have h1:=HL2.out;rcases HA5.out with h|h
  . have h2:w.heap.size=r:=bkJ h;omega
  . omega
 obtain⟨w6,hw6⟩:∃v,w5.setCell ⟨w2.heap.size,0,none⟩ (.slice (some ⟨r,0,none⟩) 1 cap)=v:=⟨_,rfl⟩;have g6:=grownBy_set (kN w5 (some w2.heap.size)) (i:=0) (.slice (some ⟨r,0,none⟩) 1 cap);have s6:=lJ (cs:=[.slice (some ⟨w.heap.size,0,none⟩) 0 2]) (k:=0) (v:=.slice (some ⟨r,0,none⟩) 1 cap) G5.out;rw[hw6]at g6 s6;have HR:Hid (w.heap.size<=r):=hdd (by
  rcases HA5.out with h|h
  . have h2:w.heap.size=r:=bkJ h;omega
  . have:=HL2.out;omega)
 have HO6:=hdd (HO5.out.kept g6 (Or.inr (fun e=>hr (bkJ e))));have HB6:=hdd (HB5.out.trans (Below.of_grown g6 HB5.out.size (Nat.le_of_lt HL2.out.1)));have G6:=hdd s6;simp only[hw6];have c6:=cbl c1 HB6.out;have g0:=aA (k:=0) (v:=.slice (some ⟨r,0,none⟩) 1 cap) G6.out rfl;obtain⟨w7,hw7,hb7,hs7,b7⟩:=pro1 w6 (.cells #[.iface t2 x2] 49);have HO7:=hdd (HO6.out.kept (aW (row:=none) hb7) (Or.inr (by simp[bkK])));have HC7:=hdd (gK b7);have HS7:Hid (w.heap.size<=w7.heap.size):=hdd (aC HB6.out hb7).size;have G7:=hdd (aI G6.out hb7 (aH G6.out));have HB7:=hdd (aC HB6.out hb7);have HL7:Hid (w2.heap.size<w7.heap.size):=hdd (aH G7.out);clear g6 s6 hw6 hb7 hs7 b7 HG5 HA5 G5 HB5 D5 HB4 G4 HC4 HO4 F1 d0 d1 hrun' c0 c1 HO5 HO6 zz;rw[rounds_succ];go_wp2_with (first
  |(at_builtin
    go_loud (
    refine wpList_append_lies _ rfl _ _ 118 rfl w.heap.size 49 i0 .nilIface 1 16 yF HI0.out HZ0.out HZ1.out HZ2.out rfl (by decide) _ 1 [.iface t1 x1] rfl HO7.out ⟨w6.heap.size,0,none⟩ 1 1 [.iface t2 x2] rfl rfl HC7.out (by simp[bkL]) (by decide) (by unfold maxLen;omega) (by omega) HS7.out w7.heap.size rfl ?_;intro r2 cap2 w8 hown8 hgrow8 hat8 hlt8;have HG8:=hdd hgrow8;have G8:=hdd ((hgrow8.block w2.heap.size HL7.out (fun e=>hr (bkJ (show some w2.heap.size=some r from e)).symm)).trans G7.out);have zz:=abU G8.out;have g8:=aA (k:=0) (v:=.slice (some ⟨r,0,none⟩) 1 cap) G8.out rfl;clear hown8 hgrow8 hat8 hlt8)))
 have HB8:=hdd (HB7.out.trans (Below.of_grown HG8.out HS7.out (HR.out)));obtain⟨w9,hw9⟩:∃v,w8.setCell ⟨w2.heap.size,0,none⟩ (.slice (some ⟨r2,0,none⟩) 2 cap2)=v:=⟨_,rfl⟩;have g9:=grownBy_set (kN w8 (some w2.heap.size)) (i:=0) (.slice (some ⟨r2,0,none⟩) 2 cap2);rw[hw9]at g9;have HB9:=hdd (HB8.out.trans (Below.of_grown g9 HB8.out.size (Nat.le_of_lt HL2.out.1)));simp only[hw9];clear hw9 g9 HB8 HG8 G8 zz g8;rw[rounds_succ];go_wp2;go_ret;exact⟨_,_,rfl,HB9.out⟩
theorem ad8{t:TypeId}{x:Value}:Calls Tryz.prog 28 #[.iface t x] w (anC w):=by
 obtain⟨w1,hw1,hb1,hs1,b1⟩:=pro1 w (.cells #[.iface 99 (.int .i64 4),.iface t x] 49);have HJ:=hdd (anE (w:=w1) (aA (k:=0) (v:=.iface 99 (.int .i64 4)) b1 rfl) (aA (k:=1) (v:=.iface t x) b1 rfl));have HB:=hdd hb1;have HI:Hid (∀w',Calls Tryz.prog 30 #[] w' (fun e w2=>e=.returned (.iface 99 (.int .i64 4))/\w'=w2)):=hdd fun w'=>abT;clear hb1 hs1 b1;go_enter Tryz.func28,Tryz.ntmps28
 go_wp2_with fail
 refine(HI.out _).mono ?_;rintro e w2⟨rfl,rfl⟩;go_wp2_with fail
 refine HJ.out.mono ?_;rintro e w3⟨t2,x2,rfl,hb3⟩;have HB3:=hdd (aC HB.out hb3);clear hb3;go_wp2;go_ret;exact⟨_,_,rfl,HB3.out⟩
end Go.Proofs.YtjdgaogkioabeaaGreatDoor
namespace Go.Proofs.YtjdgaogkioabeaaGreatDoor
open Go.RowKit Go.Maps
open List renaming mem_append->bkN,mem_cons->bkO,zip_cons_cons->bkP,all_eq_true->bkQ,map_cons->bkR,mem_map->bkS
section
variable{f:FuncId}{g d:Nat}{av:Array Value}{K0:List (Ex×Nat)}{V:List Nat->Value}{es:List Ex}
end
def letters:List Nat->List Nat->(Nat->Nat)->Nat->Nat
 |t::ts,k::ks,ν,n=>if n=t then k else letters ts ks ν n
 |_,_,ν,n=>ν n
theorem uF:∀(ts ks:List Nat) (ν:Nat->Nat) (n:Nat),n∉ts->letters ts ks ν n=ν n
 |[],_,_,_,_=>rfl
 |_::_,[],_,_,_=>rfl
 |t::ts,k::ks,ν,n,h=>by
  rw[bkO]at h;show(if n=t then k else letters ts ks ν n)=ν n;rw[if_neg (fun e=>h (Or.inl e)),uF ts ks ν n (fun e=>h (Or.inr e))]
theorem uG:∀(ts ks:List Nat) (ν:Nat->Nat),ts.Nodup->ks.length=ts.length->ts.map (letters ts ks ν)=ks
 |[],[],_,_,_=>rfl
 |[],_::_,_,_,h=>by simp at h
 |_::_,[],_,_,h=>by simp at h
 |t::ts,k::ks,ν,hn,h=>by
  rw[List.nodup_cons]at hn;have e:ts.map (letters (t::ts) (k::ks) ν)=ts.map (letters ts ks ν):=List.map_congr_left fun n hm=>by
   show(if n=t then k else letters ts ks ν n)=_;rw[if_neg (fun e=>hn.1 (by rw[<-e];exact hm))]
  rw[bkR,e,uG ts ks ν hn.2 (by simpa using h)];show(if t=t then k else _)::ks=k::ks;rw[if_pos rfl]
theorem uH{α:Type}{h:Nat->Nat}{q:Nat×α}:∀{ts:List Nat} {es:List α},q∈ts.zip es->(q.2,h q.1)∈es.zip (ts.map h)
 |[],_,hq=>by simp at hq
 |_::_,[],hq=>by simp at hq
 |t::ts,e::es,hq=>by
  rw[bkP,bkO]at hq;rw[bkR,bkP,bkO];rcases hq with rfl|hq
  . exact Or.inl rfl
  . exact Or.inr (uH hq)
section
variable{S:Spec Ex}{w0:Bs}{g c0 i d:Nat}{f:FuncId}{args:(Nat->Nat)->Array Value}{ix ts:List Nat}{V:List Nat->Value}{es:List Ex}
theorem retL{lst:Nat->Bool}{ν:Nat->Nat}{c:Nat}{l:List (Nat×Obj)}{w':World}{ks:List Nat}(ht:(ts.all fun t=>S.cr t==some i)=true)(hn:ts.Nodup)(hk:S.made i=ts.zip es)(h1:ks.length=ts.length)(hR:Run w0 g c (es.zip ks++S.K lst ν) l w'):
 ∃ν',(∀n,S.cr n≠some i->ν' n=ν n)/\ts.map ν'=ks/\Run w0 g c (S.newK i ν'++S.K lst ν) l w':=by
 have hm:=uG ts ks ν hn h1;refine⟨letters ts ks ν,fun n h=>uF ts ks ν n fun hin=>h (by have:=bkQ.1 ht n hin;simpa using this),hm,hR.few fun p hp=> ?_⟩;rcases bkN.1 hp with h|h
 . obtain⟨q,h2,rfl⟩:=wY h
   rw[hk]at h2;have:=uH (h:=letters ts ks ν) h2;rw[hm]at this;exact bkN.2 (Or.inl this)
 . exact bkN.2 (Or.inr h)
theorem c_fn(hM:c0+S.total<=20000)(F:∀ν,FnOk f g d (args ν) ((ix.map fun j=>S.know.getD j (0,.leaf 0)).map fun q=>(q.2,ν q.1)) V es)
 (hix:(ix.all fun j=>decide (j<S.know.length)&&S.pre i (S.know.getD j (0,.leaf 0)).1)=true:=by kernel_rfl) (hc:S.cost i=d:=by rfl) (hv:∀ν,(S.val i).den ν=V (ts.map ν):=by intro _;rfl)
 (ht:(ts.all fun t=>S.cr t==some i)=true:=by kernel_rfl) (hk:S.made i=ts.zip es:=by rfl) (hn:ts.Nodup:=by decide) (hl:ts.length=es.length:=by rfl):mJ S w0 g c0 i f args:=by
 intro lst ν c w hD hcl hG;rw[hc]at hcl;refine(F ν w0 c _ _ w hG (by omega) fun p hp=> ?_).mono ?_
 . obtain⟨q,h1,rfl⟩:=bkS.1 hp
   obtain⟨j,h2,rfl⟩:=bkS.1 h1;have h3:=bkQ.1 hix j h2;rw[Bool.and_eq_true,decide_eq_true_eq]at h3;refine qR ?_ (pre_on h3.2 hD);rw[List.getD_eq_getElem?_getD,List.getElem?_eq_getElem h3.1];exact List.getElem_mem h3.1
 . rintro e w'⟨ks,k1,rfl,hR⟩
   obtain⟨ν',a1,a2,a3⟩:=retL ht hn hk (by omega) hR;exact⟨ν',a1,by rw[hv,a2],by rw[hc];exact a3⟩
end
end Go.Proofs.YtjdgaogkioabeaaGreatDoor
namespace Go.Proofs.YtjdgaogkioabeaaGreatDoor
open Ieee
theorem ajG{x y i j:Nat}{a b:Int}(hx:fin x)(hy:fin y)(hi:i<=1074)(hj:j<=1074)(hij:i+j<=1074)(va:fv x=a*(2^(1074-i):Nat))(vb:fv y=b*(2^(1074-j):Nat))(h:(a*b).natAbs<2^53):
 ∃r,double.mul x y=some r/\r<2^64/\fin r/\fv r=a*b*(2^(1074-(i+j)):Nat):=by
 obtain⟨r,h1,h2,hn⟩:=nA hx hy;obtain⟨h3,h4⟩:=hn.exact (abO (1074-(i+j)) h (by omega)) (by
  rw[va,vb];generalize hu:(2148-1074:Nat)=u;have e:(2^(1074-i):Nat)*2^(1074-j)=2^(1074-(i+j))*2^u:=by
   rw[<-Nat.pow_add,<-Nat.pow_add];congr 1;omega
  generalize (2^(1074-i):Nat)=A at*;generalize (2^(1074-j):Nat)=B at*;generalize (2^(1074-(i+j)):Nat)=C at*;generalize (2^u:Nat)=D at*;have e2:(A:Int)*B=C*D:=by exact_mod_cast e
  rw[show a*(A:Int)*(b*B)=a*b*(A*B) by grind,e2];grind)
 exact⟨r,h1,h2,h3,h4⟩
end Go.Proofs.YtjdgaogkioabeaaGreatDoor
