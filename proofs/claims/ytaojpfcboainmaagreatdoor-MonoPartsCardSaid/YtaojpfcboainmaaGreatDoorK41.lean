/- A part of the proof: contracts of functions and plain laws (EX0, CeA). -/
import Derived.Test.YtaojpfcboainmaaGreatDoorK30
import Derived.Test.YtaojpfcboainmaaGreatDoorK32
import Derived.Test.YtaojpfcboainmaaGreatDoorK33
import Derived.Test.YtaojpfcboainmaaGreatDoorK34
import Derived.Test.YtaojpfcboainmaaGreatDoorK16
set_option linter.unusedVariables false
set_option linter.unusedSimpArgs false
set_option maxHeartbeats 25600000
set_option maxRecDepth 100000
namespace Go.Proofs.YtaojpfcboainmaaGreatDoor
section
open Ieee
theorem aq0{x y i j:Nat}{a b:Int}(hx:fin x)(hy:fin y)(hi:i<=1074)(hj:j<=1074)(hij:i+j<=1074)(va:fv x=a*(2^(1074-i):Nat))(vb:fv y=b*(2^(1074-j):Nat))(h:(a*b).natAbs<2^53):
 ∃r,double.mul x y=some r/\r<2^64/\fin r/\fv r=a*b*(2^(1074-(i+j)):Nat):=by
 obtain⟨r,h1,h2,hn⟩:=qE hx hy;obtain⟨h3,h4⟩:=hn.exact (ak0 (1074-(i+j)) h (by omega)) (by
  rw[va,vb];generalize hu:(2148-1074:Nat)=u;have e:(2^(1074-i):Nat)*2^(1074-j)=2^(1074-(i+j))*2^u:=by
   rw[<-Nat.pow_add,<-Nat.pow_add];congr 1;omega
  generalize (2^(1074-i):Nat)=A at*;generalize (2^(1074-j):Nat)=B at*;generalize (2^(1074-(i+j)):Nat)=C at*;generalize (2^u:Nat)=D at*;have e2:(A:Int)*B=C*D:=by exact_mod_cast e
  rw[show a*(A:Int)*(b*B)=a*b*(A*B) by grind,e2];grind)
 exact⟨r,h1,h2,h3,h4⟩
end
section
open Go.RowKit Go.Maps Go.Stop Go.Extern
variable{k:Int}{a b c n:Nat}{S:Nat->Prop}{v:Value}{w w' w1:World}
inductive ErK(S:Nat->Prop)(w:World):Nat->Value->Int->Prop
 |kind {k:Int}:1<=k->k<=7->ErK S w 0 (.iface 99 (.int .i64 k)) k
 |inn {n b:Nat} {v:Value} {k:Int}:S b->w.cell? ⟨b,1,none⟩=some v->ErK S w n v k->ErK S w (n+1) (.iface 117 (.pointer (some ⟨b,0,none⟩))) k
 |att {n b:Nat} {v:Value} {k:Int}:S b->w.cell? ⟨b,1,none⟩=some v->ErK S w n v k->ErK S w (n+1) (.iface 155 (.pointer (some ⟨b,0,none⟩))) k
theorem ErK.block (h:w.cell? ⟨b,1,none⟩=some v):b<w.heap.size:=World.block_lt_of_cell? w _ h
theorem ErK.keep (h:ErK S w n v k)(hb:∀b,S b->b<w.heap.size->w'.cell? ⟨b,1,none⟩=w.cell? ⟨b,1,none⟩):ErK S w' n v k:=by
 induction h with
 |kind h1 h2=>exact .kind h1 h2
 |inn h0 h1 _ ih=>exact .inn h0 ((hb _ h0 (ErK.block h1)).trans h1) ih
 |att h0 h1 _ ih=>exact .att h0 ((hb _ h0 (ErK.block h1)).trans h1) ih
theorem ErK.mono {T:Nat->Prop}(h:ErK S w n v k)(hb:∀b,S b->b<w.heap.size->T b):ErK T w n v k:=by
 induction h with
 |kind h1 h2=>exact .kind h1 h2
 |inn h0 h1 _ ih=>exact .inn (hb _ h0 (ErK.block h1)) h1 ih
 |att h0 h1 _ ih=>exact .att (hb _ h0 (ErK.block h1)) h1 ih
theorem ErK.low (h:ErK S w n v k)(hb:Below w.heap.size w w'):ErK S w' n v k:=
 h.keep fun _ _ hl=>World.cell?_of_block (hb.block _ hl)
abbrev aq3(w w':World)(b:Nat):Prop:=w.heap.size<=b/\b<w'.heap.size
def RetEr(w:World)(k:Int)(e:Ending)(w':World):Prop:=∃er n,e=.returned er/\n<=1000/\ErK (aq3 w w') w' n er k/\Below w.heap.size w w'
theorem arQ{s:ByteArray}(h:ErK S w n v k):
 Calls Tryz.prog 44 #[.string s,v] w (fun e w'=>∃er,e=.returned er/\ErK (fun b=>S b\/aq3 w w' b) w' (n+1) er k/\Below w.heap.size w w'):=by
 have hnn:∃t x,v=.iface t x:=by cases h<;>exact⟨_,_,rfl⟩
 obtain⟨vt,vx,rfl⟩:=hnn;have hb:Below w.heap.size w (w.alloc (.cells #[.string s,.iface vt vx] 119)):=Below.alloc (Below.refl _ _) nlr _;have HE:Hid (ErK (fun b=>S b\/aq3 w (w.alloc (.cells #[.string s,.iface vt vx] 119)) b) (w.alloc (.cells #[.string s,.iface vt vx] 119)) (n+1) (.iface 117 (.pointer (some ⟨w.heap.size,0,none⟩))) k):=hdd (.inn (Or.inr ⟨Nat.le_refl _,by simp⟩) (by simp) ((h.low hb).mono fun _ h _=>Or.inl h));have HB:=hdd hb;clear h hb;go_enter Tryz.func44,Tryz.ntmps44
 go_wp2;go_ret;exact⟨_,rfl,HE.out,HB.out⟩
theorem degen_any:Calls Tryz.prog 45 #[] w (fun e w'=>e=.returned (.iface 99 (.int .i64 5))/\w'=w):=by
 go_enter Tryz.func45,Tryz.ntmps45
 go_wp2;go_ret;exact⟨rfl,rfl⟩
theorem ap6{r:Bool}(h:(FloatKind.f64.format.order a b==some Ordering.eq)=r):(FloatKind.f64.format.order a b != some Ordering.eq)= !r:=by
 show(!(FloatKind.f64.format.order a b==some Ordering.eq))= !r;rw[h]
theorem aqA:sr b=0↔fv b=0:=by
 have h1:=vB (a:=sr b) (b:=0);have h2:=vB (a:=0) (b:=sr b);rw[dY]at h1 h2;unfold fv;omega
def ap7(a b c:Nat):Prop:=FlOk a/\FlOk b/\FlOk c/\(fv a≠0\/fv b≠0)
theorem ap4(ha:a<18446744073709551616):Calls Tryz.prog 65 #[.float .f64 a] w (RetB w (decide (fin a))):=fU ha
theorem in_line:Calls Tryz.prog 44 #[.string ⟨#[108,105,110,101]⟩,.iface 99 (.int .i64 5)] w1 (RetEr w1 5):=
 (arQ (w:=w1) (ErK.kind (S:=fun _=>False) (k:=5) (by decide) (by decide))).mono fun _ _ ⟨er,h1,h2,h3⟩=>⟨er,1,h1,by omega,h2.mono fun b hb _=>by
   rcases hb with h|h
   . exact h.elim
   . exact h,h3⟩
theorem RetEr.up {e:Ending}(h:RetEr w1 k e w')(hb:Below w.heap.size w w1):RetEr w k e w':=by
 obtain⟨er,n,h1,h2,h3,h4⟩:=h;exact⟨er,n,h1,h2,h3.mono fun b hb' _=>⟨Nat.le_trans hb.size hb'.1,hb'.2⟩,hb.trans (h4.mono hb.size)⟩
theorem arH(h:ap7 a b c):Calls Tryz.prog 42 #[curV 1 a b c] w (RetV w .nilIface):=by
 obtain⟨ha,hb,hc,h0⟩:=h;obtain⟨w1,hw1,hb1,hs1,b1⟩:=pro1 w (curO 1 a b c);obtain⟨c0,c1,c2,c3⟩:=aW b1;have HB:=hdd hb1;have FA:Hid (∀w',Calls Tryz.prog 65 #[.float .f64 a] w' (RetB w' true)):=hdd fun w'=>by have:=ap4 (w:=w') ha.1;rwa[decide_eq_true ha.2]at this
 have FB:Hid (∀w',Calls Tryz.prog 65 #[.float .f64 b] w' (RetB w' true)):=hdd fun w'=>by have:=ap4 (w:=w') hb.1;rwa[decide_eq_true hb.2]at this
 have FC:Hid (∀w',Calls Tryz.prog 65 #[.float .f64 c] w' (RetB w' true)):=hdd fun w'=>by have:=ap4 (w:=w') hc.1;rwa[decide_eq_true hc.2]at this
 have ea:=rM (b:=a) ha.2.num num0;have eb:=rM (b:=b) hb.2.num num0;rw[sr0]at ea eb;by_cases hz:fv a=0
 . have hz2:¬sr b=0:=fun e=>h0.elim (fun k=>k hz) (fun k=>k (aqA.1 e))
   rw[decide_eq_true (aqA.2 hz)]at ea;rw[decide_eq_false hz2]at eb;replace ea:=ap6 ea;replace eb:=ap6 eb;rw[Bool.not_true]at ea;rw[Bool.not_false]at eb;clear ha hb hc h0 hb1 hs1 b1 hz hz2;go_enter Tryz.func42,Tryz.ntmps42
   go_wp2_with fail
   refine(FA.out _).mono ?_;rintro e w2⟨rfl,hw⟩;obtain rfl:=hw;go_wp2_with fail
   refine(FB.out _).mono ?_;rintro e w2⟨rfl,hw⟩;obtain rfl:=hw;go_wp2_with fail
   refine(FC.out _).mono ?_;rintro e w2⟨rfl,hw⟩;obtain rfl:=hw;go_wp2;go_ret;exact⟨rfl,HB.out⟩
 . rw[decide_eq_false (fun e=>hz (aqA.1 e))]at ea
   replace ea:=ap6 ea;rw[Bool.not_false]at ea;clear ha hb hc h0 hb1 hs1 b1 hz eb;go_enter Tryz.func42,Tryz.ntmps42
   go_wp2_with fail
   refine(FA.out _).mono ?_;rintro e w2⟨rfl,hw⟩;obtain rfl:=hw;go_wp2_with fail
   refine(FB.out _).mono ?_;rintro e w2⟨rfl,hw⟩;obtain rfl:=hw;go_wp2_with fail
   refine(FC.out _).mono ?_;rintro e w2⟨rfl,hw⟩;obtain rfl:=hw;go_wp2;go_ret;exact⟨rfl,HB.out⟩
theorem aq4(ha:a<18446744073709551616)(hb:b<18446744073709551616)(hc:c<18446744073709551616)(h:¬ap7 a b c):Calls Tryz.prog 42 #[curV 1 a b c] w (RetEr w 5):=by
 obtain⟨w1,hw1,hb1,hs1,b1⟩:=pro1 w (curO 1 a b c);obtain⟨c0,c1,c2,c3⟩:=aW b1;have HB:=hdd hb1;have FA:Hid (∀w',Calls Tryz.prog 65 #[.float .f64 a] w' (RetB w' (decide (fin a)))):=hdd fun w'=>ap4 ha;have FB:Hid (∀w',Calls Tryz.prog 65 #[.float .f64 b] w' (RetB w' (decide (fin b)))):=hdd fun w'=>ap4 hb;have FC:Hid (∀w',Calls Tryz.prog 65 #[.float .f64 c] w' (RetB w' (decide (fin c)))):=hdd fun w'=>ap4 hc;by_cases fa:fin a
 . rw[decide_eq_true fa]at FA
   by_cases fb:fin b
   . rw[decide_eq_true fb]at FB
     by_cases fc:fin c
     . rw[decide_eq_true fc]at FC
       have ea:=rM (b:=a) fa.num num0;have eb:=rM (b:=b) fb.num num0;rw[sr0,decide_eq_true (aqA.2 (Classical.byContradiction fun k=>h ⟨⟨ha,fa⟩,⟨hb,fb⟩,⟨hc,fc⟩,Or.inl k⟩))]at ea;rw[sr0,decide_eq_true (aqA.2 (Classical.byContradiction fun k=>h ⟨⟨ha,fa⟩,⟨hb,fb⟩,⟨hc,fc⟩,Or.inr k⟩))]at eb;replace ea:=ap6 ea;replace eb:=ap6 eb;rw[Bool.not_true]at ea eb;clear ha hb hc h hb1 hs1 b1 fa fb fc;go_enter Tryz.func42,Tryz.ntmps42
       go_wp2_with fail
       refine(FA.out _).mono ?_;rintro e w2⟨rfl,hw⟩;obtain rfl:=hw;go_wp2_with fail
       refine(FB.out _).mono ?_;rintro e w2⟨rfl,hw⟩;obtain rfl:=hw;go_wp2_with fail
       refine(FC.out _).mono ?_;rintro e w2⟨rfl,hw⟩;obtain rfl:=hw;go_wp2_with fail
       refine degen_any.mono ?_;rintro e w2⟨rfl,hw⟩;obtain rfl:=hw;go_wp2_with fail
       refine in_line.mono ?_;rintro e w2 hr;obtain⟨er,n,rfl,-⟩:=id hr;have HR:=hdd hr;clear hr;go_wp2;go_ret;exact HR.out.up HB.out
     . rw[decide_eq_false fc]at FC
       clear ha hb hc h hb1 hs1 b1 fa fb fc;go_enter Tryz.func42,Tryz.ntmps42
       go_wp2_with fail
       refine(FA.out _).mono ?_;rintro e w2⟨rfl,hw⟩;obtain rfl:=hw;go_wp2_with fail
       refine(FB.out _).mono ?_;rintro e w2⟨rfl,hw⟩;obtain rfl:=hw;go_wp2_with fail
       refine(FC.out _).mono ?_;rintro e w2⟨rfl,hw⟩;obtain rfl:=hw;go_wp2_with fail
       refine degen_any.mono ?_;rintro e w2⟨rfl,hw⟩;obtain rfl:=hw;go_wp2_with fail
       refine in_line.mono ?_;rintro e w2 hr;obtain⟨er,n,rfl,-⟩:=id hr;have HR:=hdd hr;clear hr;go_wp2;go_ret;exact HR.out.up HB.out
   . rw[decide_eq_false fb]at FB
     clear ha hb hc h hb1 hs1 b1 fa fb FC;go_enter Tryz.func42,Tryz.ntmps42
     go_wp2_with fail
     refine(FA.out _).mono ?_;rintro e w2⟨rfl,hw⟩;obtain rfl:=hw;go_wp2_with fail
     refine(FB.out _).mono ?_;rintro e w2⟨rfl,hw⟩;obtain rfl:=hw;go_wp2_with fail
     refine degen_any.mono ?_;rintro e w2⟨rfl,hw⟩;obtain rfl:=hw;go_wp2_with fail
     refine in_line.mono ?_;rintro e w2 hr;obtain⟨er,n,rfl,-⟩:=id hr;have HR:=hdd hr;clear hr;go_wp2;go_ret;exact HR.out.up HB.out
 . rw[decide_eq_false fa]at FA
   clear ha hb hc h hb1 hs1 b1 fa FB FC;go_enter Tryz.func42,Tryz.ntmps42
   go_wp2_with fail
   refine(FA.out _).mono ?_;rintro e w2⟨rfl,hw⟩;obtain rfl:=hw;go_wp2_with fail
   refine degen_any.mono ?_;rintro e w2⟨rfl,hw⟩;obtain rfl:=hw;go_wp2_with fail
   refine in_line.mono ?_;rintro e w2 hr;obtain⟨er,n,rfl,-⟩:=id hr;have HR:=hdd hr;clear hr;go_wp2;go_ret;exact HR.out.up HB.out
end
section
open Go.RowKit Go.Maps
open List renaming setIfInBounds_toArray->arY,set->arZ
abbrev aqB(x y:Ex)(a b c:Nat):Ex:=.sub (.add (.mul (.leaf a) x) (.mul (.leaf b) y)) (.leaf c)
theorem aqR{g i j ca cb cc:Nat}{X Y:Ex}(hca:FlOk ca)(hcb:FlOk cb)(hcc:FlOk cc):FnOk 47 g 7 #[.pointer (some ⟨g,0,none⟩),curV 1 ca cb cc,bY g i j] [(X,i),(Y,j)] (fun ks=>numV g (ks.getD 0 0)) [aqB X Y ca cb cc]:=FnOk.of fun w B ns N hR hN=>by
 have R1:=hdd hR;clear hR;go_enter Tryz.func47,Tryz.ntmps47
 go_upto_region 0 with fail
 refine Spec.run (S:=⟨_,fun i=>([.w (.c (.ptr 2 0)),.w (.c (.ptr 3 0)),.w (.c (.ptr 4 0))]:List SV).getD i noS,fun n=>([none,none,some 0,some 1,some 2]:List (Option Nat)).getD n none,
  [(0,X),(1,Y)],[⟨2,33,[.v (.int .i64 1),.v (.float .f64 ca),.v (.float .f64 cb),.v (.float .f64 cc)],none⟩,⟨3,37,aN g 0 1,none⟩,⟨4,35,[.v (.pointer none),.v (.int .i64 0)],none⟩],
  fun i=>([0,0,0]:List Nat).getD i 0,fun i=>([[],[],[]]:List (List Nat)).getD i [],[(1,.w (.agg ([.v (.int .i64 1),.v (.float .f64 ca),.v (.float .f64 cb),.v (.float .f64 cc)]))),(2,bJ g 0 1)]⟩)
  (W:=runW ⟨w,B,ns⟩ g) (ν0:=fun n=>([i,j]:List Nat).getD n 0) (c0:=N)
  (fs:=fun ν=>[(4,.pointer (some ⟨(ν 2),0,none⟩)),(5,.pointer (some ⟨(ν 3),0,none⟩)),(6,.pointer (some ⟨(ν 4),0,none⟩))]) 3 N [] []
  ⟨Spec.wf_of (by kernel_rfl),gZ (by kernel_rfl),fB ⟨rfl,rfl,trivial⟩⟩ R1.out (Run.nodup R1.out) (by omega)
  (fun b hM=>aA (aA (aA aL
    (aS b m0))
    (aS b m1))
    (aS b m2)) ?_
 intro ν W2 hν hR;replace hR:Run ⟨w,B,ns⟩ g N [(X,ν 0),(Y,ν 1)] [((ν 2),.cells #[(.int .i64 1),(.float .f64 ca),(.float .f64 cb),(.float .f64 cc)] 33),((ν 3),aQ g (ν 0) (ν 1)),((ν 4),.cells #[.pointer none,.int .i64 0] 35)] W2:=hR;have e0:ν 0=i:=hν 0 rfl;have e1:ν 1=j:=hν 1 rfl;simp only[e0,e1]at hR|-;clear hν e0 e1;generalize ν 2=b1 at hR|-;generalize ν 3=b2 at hR|-;generalize ν 4=b3 at hR|-;have R2:=hdd hR;clear hR R1;simp only[putL,arY,arZ]
 go_upto_region 1 with fail
 refine Spec.run (S:=⟨_,fun i=>([.w (.c (.v (.pointer (some ⟨g,0,none⟩)))),.w (.c (.ptr 2 1)),.w (.c (.v (.float .f64 ca))),numS g 5,.w (.c (.ptr 3 0)),numS g 0,.w (.c (.sl 6 1)),numS g 7,.w (.c (.ptr 8 0)),noS]:List SV).getD i noS,fun n=>([none,none,none,none,none,some 3,some 6,some 7,some 8]:List (Option Nat)).getD n none,
  [(0,X),(1,Y),(5,(.leaf ca)),(7,(.mul (.leaf ca) X))],[⟨2,33,[.v (.int .i64 1),.v (.float .f64 ca),.v (.float .f64 cb),.v (.float .f64 cc)],none⟩,⟨3,37,aN g 0 1,none⟩,⟨4,35,[.v (.pointer none),.v (.int .i64 0)],none⟩,⟨6,35,numC g 0,none⟩,⟨8,35,[.v (.pointer none),.v (.int .i64 0)],some (9,numC g 7)⟩],
  fun i=>([0,0,0,1,0,0,0,1,0,0]:List Nat).getD i 0,fun i=>([[],[],[1],[0,1,2],[],[4],[4,5],[0,1,2,3,4,5,6],[],[0,1,2,3,4,5,6,7,8]]:List (List Nat)).getD i [],[(0,.w (.c (.v (.pointer (some ⟨g,0,none⟩))))),(4,.w (.c (.ptr 2 0))),(5,.w (.c (.ptr 3 0)))]⟩)
  (W:=runW ⟨w,B,ns⟩ g) (ν0:=fun n=>([i,j,b1,b2,b3]:List Nat).getD n 0) (c0:=N)
  (fs:=fun ν=>[(9,.pointer (some ⟨g,0,none⟩)),(10,.pointer (some ⟨(ν 2),1,none⟩)),(11,(.float .f64 ca)),(12,numV g (ν 5)),(13,.pointer (some ⟨(ν 3),0,none⟩)),(14,numV g (ν 0)),(15,.slice (some ⟨(ν 6),0,none⟩) 1 1),(16,numV g (ν 7)),(7,.pointer (some ⟨(ν 8),0,none⟩))]) 10 (N+2) [] []
  ⟨Spec.wf_of (by kernel_rfl),gZ (by kernel_rfl),fB ⟨rfl,rfl,rfl,trivial⟩⟩ R2.out (Run.nodup R2.out) (by omega)
  (fun b hM=>aA (aA (aA (aA (aA (aA (aA (aA (aA (aA aL
    (aD b))
    (aD b))
    (kW b m0))
    (bF b (c_of hM hca.1 hca.2 rfl rfl rfl rfl)))
    (aD b))
    (aK b 2 m1))
    (oP b m3))
    (bF b (afG hM m2 m0 rfl rfl m3 rfl rfl rfl rfl rfl rfl rfl rfl)))
    (aS b m4))
    (dM b 2 m4)) ?_
 intro ν W3 hν hR;replace hR:Run ⟨w,B,ns⟩ g (N+2) [(X,ν 0),(Y,ν 1),((.leaf ca),ν 5),((.mul (.leaf ca) X),ν 7)] [((ν 2),.cells #[(.int .i64 1),(.float .f64 ca),(.float .f64 cb),(.float .f64 cc)] 33),((ν 3),aQ g (ν 0) (ν 1)),((ν 4),.cells #[.pointer none,.int .i64 0] 35),((ν 6),numO g (ν 0)),((ν 8),numO g (ν 7))] W3:=hR;have e0:ν 0=i:=hν 0 rfl;have e1:ν 1=j:=hν 1 rfl;have e2:ν 2=b1:=hν 2 rfl;have e3:ν 3=b2:=hν 3 rfl;have e4:ν 4=b3:=hν 4 rfl;simp only[e0,e1,e2,e3,e4]at hR|-;clear hν e0 e1 e2 e3 e4;generalize ν 5=n4 at hR|-;generalize ν 6=b5 at hR|-;generalize ν 7=n6 at hR|-;generalize ν 8=b7 at hR|-;have R3:=hdd hR;clear hR R2;simp only[putL,arY,arZ]
 go_upto_region 2 with fail
 refine Spec.run (S:=⟨_,fun i=>([.w (.c (.v (.pointer (some ⟨g,0,none⟩)))),.w (.c (.ptr 2 2)),.w (.c (.v (.float .f64 cb))),numS g 7,.w (.c (.ptr 3 2)),numS g 1,.w (.c (.sl 8 1)),numS g 9,.w (.c (.ptr 10 0)),noS]:List SV).getD i noS,fun n=>([none,none,none,none,none,none,none,some 3,some 6,some 7,some 8]:List (Option Nat)).getD n none,
  [(0,X),(1,Y),(5,(.mul (.leaf ca) X)),(7,(.leaf cb)),(9,(.mul (.leaf cb) Y))],[⟨2,33,[.v (.int .i64 1),.v (.float .f64 ca),.v (.float .f64 cb),.v (.float .f64 cc)],none⟩,⟨3,37,aN g 0 1,none⟩,⟨4,35,[.v (.pointer none),.v (.int .i64 0)],none⟩,⟨6,35,numC g 5,none⟩,⟨8,35,numC g 1,none⟩,⟨10,35,[.v (.pointer none),.v (.int .i64 0)],some (9,numC g 9)⟩],
  fun i=>([0,0,0,1,0,0,0,1,0,0]:List Nat).getD i 0,fun i=>([[],[],[1],[0,1,2],[],[4],[4,5],[0,1,2,3,4,5,6],[],[0,1,2,3,4,5,6,7,8]]:List (List Nat)).getD i [],[(0,.w (.c (.v (.pointer (some ⟨g,0,none⟩))))),(4,.w (.c (.ptr 2 0))),(5,.w (.c (.ptr 3 0)))]⟩)
  (W:=runW ⟨w,B,ns⟩ g) (ν0:=fun n=>([i,j,b1,b2,b3,n6,b7]:List Nat).getD n 0) (c0:=(N+2))
  (fs:=fun ν=>[(17,.pointer (some ⟨g,0,none⟩)),(18,.pointer (some ⟨(ν 2),2,none⟩)),(19,(.float .f64 cb)),(20,numV g (ν 7)),(21,.pointer (some ⟨(ν 3),2,none⟩)),(22,numV g (ν 1)),(23,.slice (some ⟨(ν 8),0,none⟩) 1 1),(24,numV g (ν 9)),(8,.pointer (some ⟨(ν 10),0,none⟩))]) 10 (N+4) [true,true,false] [true,true,true,false]
  ⟨Spec.wf_of (by kernel_rfl),gZ (by kernel_rfl),fB ⟨rfl,rfl,rfl,trivial⟩⟩ R3.out (Run.nodup R3.out) (by omega)
  (fun b hM=>aA (aA (aA (aA (aA (aA (aA (aA (aA (aA aL
    (aD b))
    (aD b))
    (kW b m0))
    (bF b (c_of hM hcb.1 hcb.2 rfl rfl rfl rfl)))
    (aD b))
    (aK b 2 m1))
    (oP b m4))
    (bF b (afG hM m3 m1 rfl rfl m4 rfl rfl rfl rfl rfl rfl rfl rfl)))
    (aS b m5))
    (dM b 2 m5)) ?_
 intro ν W4 hν hR;replace hR:Run ⟨w,B,ns⟩ g (N+4) [(X,ν 0),(Y,ν 1),((.mul (.leaf ca) X),ν 5),((.leaf cb),ν 7),((.mul (.leaf cb) Y),ν 9)] [((ν 2),.cells #[(.int .i64 1),(.float .f64 ca),(.float .f64 cb),(.float .f64 cc)] 33),((ν 3),aQ g (ν 0) (ν 1)),((ν 4),.cells #[.pointer none,.int .i64 0] 35),((ν 6),numO g (ν 5)),((ν 8),numO g (ν 1)),((ν 10),numO g (ν 9))] W4:=hR;have e0:ν 0=i:=hν 0 rfl;have e1:ν 1=j:=hν 1 rfl;have e2:ν 2=b1:=hν 2 rfl;have e3:ν 3=b2:=hν 3 rfl;have e4:ν 4=b3:=hν 4 rfl;have e5:ν 5=n6:=hν 5 rfl;have e6:ν 6=b7:=hν 6 rfl;simp only[e0,e1,e2,e3,e4,e5,e6]at hR|-;clear hν e0 e1 e2 e3 e4 e5 e6;generalize ν 7=n8 at hR|-;generalize ν 8=b9 at hR|-;generalize ν 9=n10 at hR|-;generalize ν 10=b11 at hR|-;have R4:=hdd hR;clear hR R3;simp only[putL,arY,arZ]
 go_upto_region 3 with fail
 refine Spec.run (S:=⟨_,fun i=>([numS g 2,numS g 4,.w (.c (.sl 6 1)),numS g 7,.w (.c (.v (.pointer (some ⟨g,0,none⟩)))),.w (.c (.ptr 0 3)),.w (.c (.v (.float .f64 cc))),numS g 8,numS g 9,noS]:List SV).getD i noS,fun n=>([none,none,none,none,none,none,some 2,some 3,some 7,some 8]:List (Option Nat)).getD n none,
  [(2,(.mul (.leaf ca) X)),(4,(.mul (.leaf cb) Y)),(7,(.add (.mul (.leaf ca) X) (.mul (.leaf cb) Y))),(8,(.leaf cc)),(9,(.sub (.add (.mul (.leaf ca) X) (.mul (.leaf cb) Y)) (.leaf cc)))],[⟨0,33,[.v (.int .i64 1),.v (.float .f64 ca),.v (.float .f64 cb),.v (.float .f64 cc)],none⟩,⟨1,35,[.v (.pointer none),.v (.int .i64 0)],some (9,numC g 9)⟩,⟨3,35,numC g 2,none⟩,⟨5,35,numC g 4,none⟩,⟨6,35,numC g 4,none⟩],
  fun i=>([0,0,0,1,0,0,0,1,1,0]:List Nat).getD i 0,fun i=>([[],[],[1],[0,1,2],[],[],[5],[4,5,6],[0,1,2,3,4,5,6,7],[0,1,2,3,4,5,6,7,8]]:List (List Nat)).getD i [],[(7,.w (.c (.ptr 3 0))),(8,.w (.c (.ptr 5 0))),(0,.w (.c (.v (.pointer (some ⟨g,0,none⟩))))),(4,.w (.c (.ptr 0 0))),(6,.w (.c (.ptr 1 0)))]⟩)
  (W:=runW ⟨w,B,ns⟩ g) (ν0:=fun n=>([b1,b3,n6,b7,n10,b11]:List Nat).getD n 0) (c0:=(N+4))
  (fs:=fun ν=>[(25,numV g (ν 2)),(26,numV g (ν 4)),(27,.slice (some ⟨(ν 6),0,none⟩) 1 1),(28,numV g (ν 7)),(29,.pointer (some ⟨g,0,none⟩)),(30,.pointer (some ⟨(ν 0),3,none⟩)),(31,(.float .f64 cc)),(32,numV g (ν 8)),(33,numV g (ν 9))]) 10 (N+7) [false,false,true,false] [true,false,true,true,false]
  ⟨Spec.wf_of (by kernel_rfl),gZ (by kernel_rfl),fB ⟨rfl,rfl,rfl,rfl,rfl,trivial⟩⟩ R4.out (Run.nodup R4.out) (by omega)
  (fun b hM=>aA (aA (aA (aA (aA (aA (aA (aA (aA (aA aL
    (aK b 2 m2))
    (aK b 2 m3))
    (oP b m4))
    (bF b (anY hM m0 m1 rfl rfl m4 rfl rfl rfl rfl rfl rfl rfl rfl)))
    (aD b))
    (aD b))
    (kW b m0))
    (bF b (c_of hM hcc.1 hcc.2 rfl rfl rfl rfl)))
    (bF b (rC hM m2 m3 rfl rfl rfl rfl rfl rfl)))
    (dM b 2 m1)) ?_
 intro ν W5 hν hR;replace hR:Run ⟨w,B,ns⟩ g (N+7) [((.mul (.leaf ca) X),ν 2),((.mul (.leaf cb) Y),ν 4),((.add (.mul (.leaf ca) X) (.mul (.leaf cb) Y)),ν 7),((.leaf cc),ν 8),((.sub (.add (.mul (.leaf ca) X) (.mul (.leaf cb) Y)) (.leaf cc)),ν 9)] [((ν 0),.cells #[(.int .i64 1),(.float .f64 ca),(.float .f64 cb),(.float .f64 cc)] 33),((ν 1),numO g (ν 9)),((ν 3),numO g (ν 2)),((ν 5),numO g (ν 4)),((ν 6),numO g (ν 4))] W5:=hR;have e0:ν 0=b1:=hν 0 rfl;have e1:ν 1=b3:=hν 1 rfl;have e2:ν 2=n6:=hν 2 rfl;have e3:ν 3=b7:=hν 3 rfl;have e4:ν 4=n10:=hν 4 rfl;have e5:ν 5=b11:=hν 5 rfl;simp only[e0,e1,e2,e3,e4,e5]at hR|-;clear hν e0 e1 e2 e3 e4 e5;generalize ν 6=b12 at hR|-;generalize ν 7=n13 at hR|-;generalize ν 8=n14 at hR|-;generalize ν 9=n15 at hR|-;have R5:=hdd hR;clear hR R4;simp only[putL,arY,arZ];go_wp2;obtain⟨x0,x1,-,-⟩:=aF (R5.out.at m1);refine bodyPost_ret (v:=.agg #[_,_]) (by simp[results,Tryz.results47,go_sem,x0,x1];first|exact⟨rfl,rfl⟩|rfl) rfl ?_;exact⟨[n15],rfl,rfl,_,R5.out.few (gF [4])⟩
end
section
open Go.RowKit Go.Maps Go.Stop Go.Extern
theorem aqG{w:World}{a b c:Nat}(h:ap7 a b c):Calls Tryz.prog 25 #[curV 1 a b c] w (RetV w .nilIface):=by
 obtain⟨w1,hw1,hb1,hs1,b1⟩:=pro1 w (curO 1 a b c);obtain⟨c0,c1,c2,c3⟩:=aW b1;have HB:=hdd hb1;have HL:=hdd (arH (w:=w1) h);clear h hb1 hs1 b1;go_enter Tryz.func25,Tryz.ntmps25
 go_wp2_with fail
 refine HL.out.mono ?_;rintro e w2⟨rfl,hb⟩;have HB2:=hdd (HB.out.trans (hb.mono HB.out.size));clear hb;go_wp2;go_ret;exact⟨rfl,HB2.out⟩
end
section
open Go.RowKit Go.Maps Ieee
theorem aqS(s:Bool)(m k:Nat):signed (!s) m k=-signed s m k:=by
 rw[jT,jT];cases s<;>simp
theorem aq5{x y:Nat}(hx:fin x)(hy:fin y):∃r,double.sub x y=some r/\r<2^64/\Near r (fv x-fv y) 1074:=by
 obtain⟨m,p,e1,p1,v1⟩:=gW hx;obtain⟨n,q,e2,q1,v2⟩:=gW hy;have hp:=jO v1;have hq:=jO v2;have h:double.sub x y=some (double.nearest (if signed (fneg x) m (p-min p q).toNat+signed (!fneg y) n (q-min p q).toNat=0 then fneg x&& !fneg y else signed (fneg x) m (p-min p q).toNat+signed (!fneg y) n (q-min p q).toNat<0) (signed (fneg x) m (p-min p q).toNat+signed (!fneg y) n (q-min p q).toNat).natAbs (min p q)):=by
  unfold Format.sub;rw[e1,e2];rfl
 refine⟨_,h,double.sub_lt h,?_⟩;refine iI _ _ _ 1074 (by omega) (by omega) _ ?_;have s1:signed (fneg x) m (p-min p q).toNat*(2^(min p q+1074).toNat:Nat)=fv x:=by
  rw[jP,jT,hp];have:(p-min p q).toNat+(min p q+1074).toNat=(p+1074).toNat:=by omega
  rw[this]
 have s2:signed (!fneg y) n (q-min p q).toNat*(2^(min p q+1074).toNat:Nat)=-fv y:=by
  rw[jP,aqS,jT,hq];have:(q-min p q).toNat+(min p q+1074).toNat=(q+1074).toNat:=by omega
  rw[this]
 rw[Int.sub_eq_add_neg,<-s1,<-s2,<-Int.add_mul];generalize signed (fneg x) m (p-min p q).toNat+signed (!fneg y) n (q-min p q).toNat=T;have e:(min p q+(1074:Nat):Int).toNat=(min p q+1074).toNat:=rfl;rw[e];generalize (2^(min p q+1074).toNat:Nat)=M;by_cases h0:T=0
 . subst h0;simp
 . rw[if_neg h0]
   by_cases h1:T<0
   . rw[if_pos (by simpa using h1)]
     rw[Int.natCast_mul,<-Int.neg_mul];congr 1;omega
   . rw[if_neg (by simpa using h1)]
     rw[Int.natCast_mul];congr 1;omega
section
variable{x y:Nat}{a b:Int}
theorem arI(hx:Iw x a)(hy:Iw y b)(h:(a-b).natAbs<2^53):∃r,double.sub x y=some r/\Iw r (a-b):=by
 obtain⟨f1,v1⟩:=alB hx;obtain⟨f2,v2⟩:=alB hy;obtain⟨r,h1,h2,hn⟩:=aq5 f1 f2;obtain⟨h3,h4⟩:=hn.exact (ak0 (1074-0) h (by omega)) (by
  rw[v1,v2,<-Int.sub_mul,show(2^(1074-1074):Nat)=1 by decide];omega)
 exact⟨r,h1,apY h2 h3 h4⟩
theorem arR(hx:Iw x a)(hy:Iw y b)(h:(a-b).natAbs<2^53):∃r,Op2 .sub x y r/\Iw r (a-b):=by
 obtain⟨r,h1,h2⟩:=arI hx hy h;exact⟨r,fun w=>run_float_arith w .sub 31 .f64 x y r h1,h2⟩
theorem ap8(hx:Iw x a)(hy:Iw y b)(h:(a*b).natAbs<2^53):∃r,Op2 .mul x y r/\Iw r (a*b):=by
 obtain⟨f1,v1⟩:=alB hx;obtain⟨f2,v2⟩:=alB hy;obtain⟨r,h1,h2,h3,h4⟩:=aq0 (i:=0) (j:=0) f1 f2 (by omega) (by omega) (by omega) v1 v2 h;exact⟨r,fun w=>run_float_arith w .mul 31 .f64 x y r h1,apY h2 h3 (by rw[h4,Nat.add_zero])⟩
end
end
section
open Go.RowKit Go.Maps
open Re (rat ofI ofN)
variable{m:Nat}
theorem nab{x y:Int}{n:Nat}(h:x.natAbs<=m)(g:y.natAbs<=n):(x*y).natAbs<=m*n:=by rw[Int.natAbs_mul];exact Nat.mul_le_mul h g
theorem nadd{x y:Int}{n:Nat}(h:x.natAbs<=m)(g:y.natAbs<=n):(x+y).natAbs<=m+n:=Nat.le_trans (Int.natAbs_add_le x y) (Nat.add_le_add h g)
section
variable{u v w a b c se sn:Sh}{U V W:Ex}{A B C:Nat}{p q r x y e n z:Rat}
end
section
variable(a b u v s:Rat)
end
end
section
open Go.RowKit Go.Maps Go.Stop Go.Extern
theorem nsub{x y:Int}{m n:Nat}(h:x.natAbs<=m)(g:y.natAbs<=n):(x-y).natAbs<=m+n:=by omega
theorem arJ{b:Nat}{T:Int}(h:Iw b T):Iw (b ^^^ 2^63) (-T):=by
 obtain⟨h1,h2,h3⟩:=qH h.1.1;refine⟨⟨h1,by unfold fin;rw[h2];exact h.1.2⟩,?_⟩;unfold fv;rw[h3,zK,Int.neg_mul];exact congrArg (- ·) h.2
theorem aq6(b:Nat)(w:World):(Op.unary UnOp.neg (.float .f64 b)).run Tryz.prog w=.ok (.float .f64 (b ^^^ 2^63)) w:=by kernel_rfl
end
section
open Go.RowKit
variable{g:Nat}{T:TypeId}{v0 v1 v2 v3 v4 v5 v6 v7:Value}{w:World}
theorem ap5(h:w.heap[g]? =some (.cells #[v0,v1,v2,v3,v4,v5,v6,v7] T (0,0))):
 w.cell? ⟨g,0,none⟩=some v0/\w.cell? ⟨g,1,none⟩=some v1/\w.cell? ⟨g,2,none⟩=some v2/\w.cell? ⟨g,3,none⟩=some v3/\w.cell? ⟨g,4,none⟩=some v4/\w.cell? ⟨g,5,none⟩=some v5/\w.cell? ⟨g,6,none⟩=some v6/\w.cell? ⟨g,7,none⟩=some v7:=
 ⟨aB (k:=0) h rfl,aB (k:=1) h rfl,aB (k:=2) h rfl,aB (k:=3) h rfl,aB (k:=4) h rfl,aB (k:=5) h rfl,aB (k:=6) h rfl,aB (k:=7) h rfl⟩
theorem ap1{v8 v9 v10 v11:Value}(h:w.heap[g]? =some (.cells #[v0,v1,v2,v3,v4,v5,v6,v7,v8,v9,v10,v11] T (0,0))):
 w.cell? ⟨g,0,none⟩=some v0/\w.cell? ⟨g,1,none⟩=some v1/\w.cell? ⟨g,2,none⟩=some v2/\w.cell? ⟨g,3,none⟩=some v3/\w.cell? ⟨g,4,none⟩=some v4/\w.cell? ⟨g,5,none⟩=some v5/\w.cell? ⟨g,6,none⟩=some v6/\w.cell? ⟨g,7,none⟩=some v7/\w.cell? ⟨g,8,none⟩=some v8/\w.cell? ⟨g,9,none⟩=some v9/\w.cell? ⟨g,10,none⟩=some v10/\w.cell? ⟨g,11,none⟩=some v11:=
 ⟨aB (k:=0) h rfl,aB (k:=1) h rfl,aB (k:=2) h rfl,aB (k:=3) h rfl,aB (k:=4) h rfl,aB (k:=5) h rfl,aB (k:=6) h rfl,aB (k:=7) h rfl,aB (k:=8) h rfl,aB (k:=9) h rfl,aB (k:=10) h rfl,aB (k:=11) h rfl⟩
end
end Go.Proofs.YtaojpfcboainmaaGreatDoor
