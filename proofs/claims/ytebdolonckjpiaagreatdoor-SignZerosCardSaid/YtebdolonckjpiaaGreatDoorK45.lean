/- A part of the proof: contracts of functions and plain laws (EX0). -/
import Derived.Test.YtebdolonckjpiaaGreatDoorK15
import Derived.Test.YtebdolonckjpiaaGreatDoorK16
import Derived.Test.YtebdolonckjpiaaGreatDoorK18
import Derived.Test.YtebdolonckjpiaaGreatDoorK19
import Derived.Test.YtebdolonckjpiaaGreatDoorK29
import Derived.Test.YtebdolonckjpiaaGreatDoorK31
import Derived.Test.YtebdolonckjpiaaGreatDoorK34
set_option linter.unusedVariables false
set_option linter.unusedSimpArgs false
set_option maxHeartbeats 25600000
set_option maxRecDepth 100000
namespace Go.Proofs.YtebdolonckjpiaaGreatDoor
theorem aoQ{P:Ex->Prop}{ns ns':List Nd}{a:Ex}{i k:Nat}(h:AllIs P ns)(ha:Is ns a i)(hn:ns'[k]? =some ⟨5,0,i,0⟩)(hns:ns'=ns\/ns'=ns++[⟨5,0,i,0⟩])(hP:P (.root a)):
 Is ns' (.root a) k/\AllIs P ns'/\ns<+:ns':=by
 by_cases hkl:k<ns.length
 . have hnk:ns[k]? =some ⟨5,0,i,0⟩:=by
    rcases hns with rfl|rfl
    . exact hn
    . rwa[List.getElem?_append_left hkl]at hn
   have hb4:i<k:=by
    rcases h.before hnk with ⟨h0,-⟩|⟨h0,-⟩|⟨-,-,-,i',e1,h1⟩
    . simp at h0
    . rcases h0 with h0|h0|h0|h0<;>simp at h0
    . simp at e1;omega
   have hI:Is ns (.root a) k:=⟨i,hnk,hb4,ha⟩;rcases hns with rfl|rfl
   . exact⟨hI,h,List.prefix_rfl⟩
   . have hp:ns<+:ns++[⟨5,0,i,0⟩]:=⟨_,rfl⟩
     exact⟨hI.mono hp,h.snoc (e:=.root a) ⟨i,by simp,ha.lt,ha.mono hp⟩ hP,hp⟩
 . rcases hns with rfl|rfl
   . exact absurd (List.getElem?_eq_some_iff.1 hn).1 hkl
   . have hp:ns<+:ns++[⟨5,0,i,0⟩]:=⟨_,rfl⟩
     have:k=ns.length:=by have:=(List.getElem?_eq_some_iff.1 hn).1;simp at this;omega
     subst this;have hI:Is (ns++[⟨5,0,i,0⟩]) (.root a) ns.length:=⟨i,hn,ha.lt,ha.mono hp⟩;exact⟨hI,h.snoc hI hP,hp⟩
end Go.Proofs.YtebdolonckjpiaaGreatDoor
namespace Go.Proofs.YtebdolonckjpiaaGreatDoor
open Go.RowKit Go.Maps
section
variable{P:Ex->Prop}{B N:Nat}{w w':World}{g:Nat}{ns ns':List Nd}
end
theorem ao1{P:Ex->Prop}{B N:Nat}{w:World}{g i j:Nat}{ns:List Nd}{a b:Ex}(hs:St P B N w g ns)(hN:N<20000)(ha:Is ns a i)(hb:Is ns b j)(hP:P (.div a b)):
 Calls Tryz.prog 36 #[.pointer (some ⟨g,0,none⟩),.int .i64 (i:Int),.int .i64 (j:Int)] w (RetE P B (N+1) w g ns idV (.div a b)):=by
 have HP:=hdd (qD (n:=⟨4,0,i,j⟩) hs.dag (adE (Or.inr (Or.inr (Or.inr rfl))) ha.lt hb.lt hs.dag.len) (by simp) (by have:=hs.room;omega));have HR:Hid (∀(w':World) (k:Nat) (ns':List Nd),DagP w' g ns'->ns'[k]? =some ⟨4,0,i,j⟩->(ns'=ns\/ns'=ns++[⟨4,0,i,j⟩])->DS g w w'->RetE P B (N+1) w g ns idV (.div a b) (.returned (.int .i64 (k:Int))) w'):=
  hdd fun w' k ns' h1 h2 h3 h4=>ah5 (mk:=idV) hs (Or.inr (Or.inr (Or.inr rfl))) ha hb hP h1 h2 h3 h4
 clear hs hN ha hb hP;dsimp only at HP;go_enter Tryz.func36,Tryz.ntmps36
 go_wp2_with fail
 refine HP.out.mono ?_;rintro e w2⟨k,ns',rfl,hd2,hi,hns,hs⟩;have HF:=hdd (HR.out _ _ _ hd2 hi hns hs);clear hd2 hi hns hs;go_wp2;go_ret;exact HF.out
theorem aoR{P:Ex->Prop}{B N:Nat}{w:World}{g i:Nat}{ns:List Nd}{a:Ex}(hs:St P B N w g ns)(hN:N<20000)(ha:Is ns a i)(hP:P (.root a)):
 Calls Tryz.prog 32 #[.pointer (some ⟨g,0,none⟩),.int .i64 (i:Int)] w (RetE P B (N+1) w g ns idV (.root a)):=by
 have hnd:NdIn ⟨5,0,i,0⟩ ns.length:=by
  have h1:=ha.lt;have h2:=hs.dag.len;refine⟨Or.inr (Or.inr ⟨rfl,rfl,?_,rfl⟩),?_,?_,?_⟩
  . simp;omega
  . intro h;simp at h
  . intro _;simp;omega
  . intro _ h;simp at h
 have HP:=hdd (qD (n:=⟨5,0,i,0⟩) hs.dag hnd (by simp) (by have:=hs.room;omega));have HS:=hdd hs;have HA:=hdd ha;have HE:=hdd hP;clear hs hN ha hP hnd;dsimp only at HP;go_enter Tryz.func32,Tryz.ntmps32
 go_wp2_with fail
 refine HP.out.mono ?_;rintro e w2⟨k,ns',rfl,hd2,hi,hns,hs⟩;have HR:Hid (RetE P B (N+1) w g ns idV (.root a) (.returned (idV k)) w2):=hdd (by
  obtain⟨q1,q2,q3⟩:=aoQ HS.out.all HA.out hi hns HE.out;refine⟨k,ns',rfl,HS.out.step hd2 q2 hs ?_,q3,q1,hs⟩;have:=HS.out.room;rcases hns with rfl|rfl
  . omega
  . simp;omega)
 unfold idV at HR;clear hd2 hi hns hs;go_wp2;go_ret;exact HR.out
section
variable{α:Type}{a:α}{l:List α}
end
section
variable{s:Bs}{w0 w1 W W':World}{g N M:Nat}{K:List (Ex×Nat)}{l l':List (Nat×Obj)}
end
def RtO(s:Bs)(g N:Nat)(K:List (Ex×Nat))(l:List (Nat×Obj))(x:Ex)(e:Ending)(W':World):Prop:=∃k:Nat,e=.returned (.int .i64 (k:Int))/\Run s g N ((x,k)::K) l W'
section
variable{s:Bs}{W W':World}{g N M:Nat}{K:List (Ex×Nat)}{l:List (Nat×Obj)}{x y:Ex}{ns:List Nd}
end
section
variable{s:Bs}{W:World}{g N i j k m b v:Nat}{K:List (Ex×Nat)}{l:List (Nat×Obj)}{x y:Ex}{q:Int}
variable{px py qx qy rx ry:Ex}{i' j' k':Nat}
end
end Go.Proofs.YtebdolonckjpiaaGreatDoor
namespace Go.Proofs.YtebdolonckjpiaaGreatDoor
open Go.RowKit Go.Maps Go.Stop Go.Extern
open Go.Instr renaming typeAssert->apK
open Go.World renaming cell?_of_block->apL,cell?_setCell_same->apM
variable{j k:Int}{b n:Nat}{S T:Nat->Prop}{v:Value}{w w':World}
inductive ErK(S:Nat->Prop)(w:World):Nat->Value->Int->Prop
 |kind {k:Int}:1<=k->k<=7->ErK S w 0 (.iface 140 (.int .i64 k)) k
 |inn {n b:Nat} {v:Value} {k:Int}:S b->w.cell? ⟨b,1,none⟩=some v->ErK S w n v k->ErK S w (n+1) (.iface 223 (.pointer (some ⟨b,0,none⟩))) k
 |att {n b:Nat} {v:Value} {k:Int}:S b->w.cell? ⟨b,1,none⟩=some v->ErK S w n v k->ErK S w (n+1) (.iface 188 (.pointer (some ⟨b,0,none⟩))) k
theorem ErK.block (h:w.cell? ⟨b,1,none⟩=some v):b<w.heap.size:=World.block_lt_of_cell? w _ h
theorem ErK.keep (h:ErK S w n v k)(hb:∀b,S b->b<w.heap.size->w'.cell? ⟨b,1,none⟩=w.cell? ⟨b,1,none⟩):ErK S w' n v k:=by
 induction h with
 |kind h1 h2=>exact .kind h1 h2
 |inn h0 h1 _ ih=>exact .inn h0 ((hb _ h0 (ErK.block h1)).trans h1) ih
 |att h0 h1 _ ih=>exact .att h0 ((hb _ h0 (ErK.block h1)).trans h1) ih
theorem ErK.mono (h:ErK S w n v k)(hb:∀b,S b->b<w.heap.size->T b):ErK T w n v k:=by
 induction h with
 |kind h1 h2=>exact .kind h1 h2
 |inn h0 h1 _ ih=>exact .inn (hb _ h0 (ErK.block h1)) h1 ih
 |att h0 h1 _ ih=>exact .att (hb _ h0 (ErK.block h1)) h1 ih
theorem ErK.low (h:ErK S w n v k)(hb:Below w.heap.size w w'):ErK S w' n v k:=
 h.keep fun _ _ hl=>apL (hb.block _ hl)
theorem ErK.bound (h:ErK S w n v k):1<=k/\k<=7:=by
 induction h with
 |kind h1 h2=>exact⟨h1,h2⟩
 |inn _ _ _ ih=>exact ih
 |att _ _ _ ih=>exact ih
theorem ErK.det (h:ErK S w n v k):∀{m:Nat} {j:Int},ErK T w m v j->n=m:=by
 induction h with
 |kind h1 h2=>intro m j h;cases h;rfl
 |inn _ h1 _ ih=>
  intro m j h;cases h with
  |inn _ g1 g2=>rw[h1]at g1;cases g1;rw[ih g2]
 |att _ h1 _ ih=>
  intro m j h;cases h with
  |att _ g1 g2=>rw[h1]at g1;cases g1;rw[ih g2]
noncomputable def edep(w:World)(v:Value):Nat:=by
 classical
 exact if h:∃n k,ErK (fun _=>True) w n v k then Classical.choose h else 0
theorem ErK.edep (h:ErK S w n v k):edep w v=n:=by
 unfold Go.Proofs.YtebdolonckjpiaaGreatDoor.edep;have hx:∃n k,ErK (fun _=>True) w n v k:=⟨n,k,h.mono fun _ _ _=>trivial⟩;rw[dif_pos hx];obtain⟨j,hj⟩:=Classical.choose_spec hx;exact hj.det h
theorem an6(h:w.cell? ⟨b,1,none⟩=some v):
 Calls Tryz.prog 361 #[.pointer (some ⟨b,0,none⟩)] w (fun e w'=>e=.returned v/\w'=w):=by
 go_enter Tryz.func361,Tryz.ntmps361
 go_wp2;go_ret;exact⟨rfl,rfl⟩
theorem an7(h:w.cell? ⟨b,1,none⟩=some v):
 Calls Tryz.prog 359 #[.pointer (some ⟨b,0,none⟩)] w (fun e w'=>e=.returned v/\w'=w):=by
 go_enter Tryz.func359,Tryz.ntmps359
 go_wp2;go_ret;exact⟨rfl,rfl⟩
theorem anU(v:Value)(xT:TypeId)(w:World):(apK (.iface 140 v) xT 264 true).run Tryz.prog w=.ok (.tuple #[.nilIface,.bool false]) w:=run_typeAssert_lacksB Tryz.underlying264 (by kernel_rfl) (by kernel_rfl) v xT w
theorem anR(v:Value)(xT:TypeId)(w:World):(apK (.iface 140 v) xT 265 true).run Tryz.prog w=.ok (.tuple #[.nilIface,.bool false]) w:=run_typeAssert_lacksB Tryz.underlying265 (by kernel_rfl) (by kernel_rfl) v xT w
theorem aoS(v:Value)(xT:TypeId)(w:World):(apK (.iface 140 v) xT 271 true).run Tryz.prog w=.ok (.tuple #[.nilIface,.bool false]) w:=run_typeAssert_lacksB Tryz.underlying271 (by kernel_rfl) (by kernel_rfl) v xT w
theorem anV(v:Value)(xT:TypeId)(w:World):(apK (.iface 223 v) xT 264 true).run Tryz.prog w=.ok (.tuple #[.iface 223 v,.bool true]) w:=run_typeAssert_hasB Tryz.underlying264 (by kernel_rfl) v xT w
theorem apC(v:Value)(xT:TypeId)(w:World):(apK (.iface 223 v) xT 271 true).run Tryz.prog w=.ok (.tuple #[.nilIface,.bool false]) w:=run_typeAssert_lacksB Tryz.underlying271 (by kernel_rfl) (by kernel_rfl) v xT w
theorem anW(v:Value)(xT:TypeId)(w:World):(apK (.iface 188 v) xT 264 true).run Tryz.prog w=.ok (.tuple #[.iface 188 v,.bool true]) w:=run_typeAssert_hasB Tryz.underlying264 (by kernel_rfl) v xT w
theorem apD(v:Value)(xT:TypeId)(w:World):(apK (.iface 188 v) xT 271 true).run Tryz.prog w=.ok (.tuple #[.nilIface,.bool false]) w:=run_typeAssert_lacksB Tryz.underlying271 (by kernel_rfl) (by kernel_rfl) v xT w
theorem anO (v : Value) (w : World) : (Go.method 439 223 v "Unwrap").run Tryz.prog w = .ok (361, v) w := by kernel_rfl
theorem anP (v : Value) (w : World) : (Go.method 439 188 v "Unwrap").run Tryz.prog w = .ok (359, v) w := by kernel_rfl
theorem aoM{s:Nat}{c:Int}(h:ErK S w n v k)(hc:w.cell? ⟨s,0,none⟩=some (.int .i64 c))(hz:w.frozen? ⟨s,0,none⟩=false)(hc0:0<=c)(hcn:c+n<16777216)(hs:∀b,(∃v,w.cell? ⟨b,1,none⟩=some v)->b≠s):
 Calls Tryz.prog 137 #[v,.int .i64 0,.pointer (some ⟨s,0,none⟩)] w (fun e w'=>e=.returned (.bool false)/\Fr (fun b=>b=s) w w'):=by
 have HS:=hdd hs;have nK:=anU;have nKs:=anR;have uI:=anV;have uA:=anW;have mI:=anO;have mA:=anP;have HH:=hdd h;have HC:=hdd hc;have HZ:=hdd hz;clear hs h hc hz;go_enter Tryz.func137,Tryz.ntmps137
 go_wp2_with fail
 go_loopw [0] (fun v' wr=>∃n':Nat,n'<=n/\Hid (ErK S w n' v' k)/\Hid (Fr (fun b=>b=s) w wr)/\Hid (wr.cell? ⟨s,0,none⟩=some (.int .i64 (c+(n-n':Nat))))/\Hid (wr.frozen? ⟨s,0,none⟩=false)) (fun v' _=>edep w v')
 case atStart=>exact⟨n,Nat.le_refl _,HH,hdd (Fr.of_below (Below.refl _ _)),hdd (by rw[Nat.sub_self];simpa using HC.out),HZ⟩
 case round=>
  obtain⟨n',hn',HE,HF,HCC,HZZ⟩:=hrel;have cs:=HCC.out;have fs:=HZZ.out;have hle:¬(c+((n-n':Nat):Int)+1>16777216):=by omega
  have hE:=HE.out;clear HE
  cases hE with
  |kind h1 h2=>
   go_wp2_with fail
   go_ret;exact⟨rfl,Fr.setCell HF.out rfl _⟩
  |@inn n1 b v1 k h0 h1 h2=>
   have HE2:=hdd h2;have HED:Hid (edep w (.iface 223 (.pointer (some ⟨b,0,none⟩)))=n1+1/\edep w v1=n1):=hdd ⟨(ErK.inn h0 h1 h2).edep,h2.edep⟩;have hbs:b≠s:=HS.out b ⟨_,h1⟩;have h1r:wr.cell? ⟨b,1,none⟩=some v1:=(apL (HF.out.block b (ErK.block h1) (fun h=>hbs h))).trans h1;have HU:Hid (∀u,Calls Tryz.prog 361 #[.pointer (some ⟨b,0,none⟩)] (wr.setCell ⟨s,0,none⟩ u) (fun e w''=>e=.returned v1/\w''=wr.setCell ⟨s,0,none⟩ u)):=hdd fun u=>an6 ((apL (Below.heap_setCell wr _ u b hbs)).trans h1r);clear h0 h1 h2 h1r hbs;go_wp2_with fail
   refine(HU.out _).mono ?_;rintro e w2⟨rfl,rfl⟩;go_wp2_with fail
   go_roundw
   case rel=>
    refine⟨n1,by omega,HE2,hdd (Fr.setCell HF.out rfl _),hdd ?_,hdd (by simp[fs])⟩;have:((n-n1:Nat):Int)=((n-(n1+1):Nat):Int)+1:=by omega
    rw[this,<-Int.add_assoc];exact apM _ _ _ cs
   case measure=>have:=HED.out;simp[this]
  |@att n1 b v1 k h0 h1 h2=>
   have HE2:=hdd h2;have HED:Hid (edep w (.iface 188 (.pointer (some ⟨b,0,none⟩)))=n1+1/\edep w v1=n1):=hdd ⟨(ErK.att h0 h1 h2).edep,h2.edep⟩;have hbs:b≠s:=HS.out b ⟨_,h1⟩;have h1r:wr.cell? ⟨b,1,none⟩=some v1:=(apL (HF.out.block b (ErK.block h1) (fun h=>hbs h))).trans h1;have HU:Hid (∀u,Calls Tryz.prog 359 #[.pointer (some ⟨b,0,none⟩)] (wr.setCell ⟨s,0,none⟩ u) (fun e w''=>e=.returned v1/\w''=wr.setCell ⟨s,0,none⟩ u)):=hdd fun u=>an7 ((apL (Below.heap_setCell wr _ u b hbs)).trans h1r);clear h0 h1 h2 h1r hbs;go_wp2_with fail
   refine(HU.out _).mono ?_;rintro e w2⟨rfl,rfl⟩;go_wp2_with fail
   go_roundw
   case rel=>
    refine⟨n1,by omega,HE2,hdd (Fr.setCell HF.out rfl _),hdd ?_,hdd (by simp[fs])⟩;have:((n-n1:Nat):Int)=((n-(n1+1):Nat):Int)+1:=by omega
    rw[this,<-Int.add_assoc];exact apM _ _ _ cs
   case measure=>have:=HED.out;simp[this]
theorem an8(h:ErK S w n v k)(hn:n<16777216):
 Calls Tryz.prog 80 #[v] w (fun e w'=>e=.returned (.bool false)/\Below w.heap.size w w'):=by
 have hb1:Below w.heap.size w (w.alloc (.cells #[.int .i64 0] 3)):=Below.alloc (Below.refl _ _) nlr _;have h1:=h.low hb1;have HL:=hdd (aoM (s:=w.heap.size) (c:=0) h1 (by simp) (by simp) (by omega) (by omega) (fun b hb=>by
  obtain⟨v',hv'⟩:=hb;intro hbs;subst hbs;simp at hv'))
 have HB:=hdd hb1;clear h h1 hb1;go_enter Tryz.func80,Tryz.ntmps80
 go_wp2_with fail
 refine HL.out.mono ?_;rintro e w2⟨rfl,hf⟩;have HB2:Hid (Below w.heap.size w w2):=hdd (HB.out.trans (hf.below HB.out.size (fun i hi=>by omega)));go_wp2_with fail
 go_ret;exact⟨rfl,HB2.out⟩
theorem aoT(v:Value)(w:World):(Extern.ReflectliteType.typeOf #[.iface 140 v]).run Tryz.prog w=.ok (.iface 269 (.agg #[.pointer (some ⟨7,140,none⟩)])) w:=by kernel_rfl
def cmpX (args : Array Value) : Sem Value := Extern.ReflectliteType.method (fun t => do Extern.Rtype.noPackHeld "Comparable" t; pure (.bool (← typeInfo t).comparable)) args
theorem an2(w:World):(cmpX #[.agg #[.pointer (some ⟨7,140,none⟩)]]).run Tryz.prog w=.ok (.bool true) w:=by kernel_rfl
theorem anS (v : Value) (w : World) : (Go.method 439 269 v "Comparable").run Tryz.prog w = .ok (365, v) w := by kernel_rfl
theorem ao2(a b:Int)(w:World):(binOp .eql 35 (.iface 140 (.int .i64 a)) (.iface 140 (.int .i64 b))).run Tryz.prog w=.ok (.bool (a==b)) w:=
 Lib.run_eql_iface_int w a b Tryz.underlying35 (by kernel_rfl) Tryz.underlying140
theorem aoU(h:ErK S w n v k):
 Calls Tryz.prog 139 #[v,.iface 140 (.int .i64 j),.bool true] w (fun e w'=>e=.returned (.bool (k==j))/\w'=w):=by
 have nK:=anU;have nKs:=anR;have iK:=aoS;have iI:=apC;have iA:=apD;have uI:=anV;have uA:=anW;have mI:=anO;have mA:=anP;have eq:=ao2;have eI:∀(p x:Value) (w:World),(binOp .eql 35 (.iface 223 p) (.iface 140 x)).run Tryz.prog w=.ok (.bool false) w:=fun p x w=>run_eql_iface_types (P:=Tryz.prog) _ _ p x Tryz.underlying35 (by decide) w;have eA:∀(p x:Value) (w:World),(binOp .eql 35 (.iface 188 p) (.iface 140 x)).run Tryz.prog w=.ok (.bool false) w:=fun p x w=>run_eql_iface_types (P:=Tryz.prog) _ _ p x Tryz.underlying35 (by decide) w;have HH:=hdd h;clear h;go_enter Tryz.func139,Tryz.ntmps139
 go_wp2_with fail
 go_loopw [0] (fun v' wr=>∃n':Nat,n'<=n/\Hid (ErK S w n' v' k)/\wr=w) (fun v' _=>edep w v')
 case atStart=>exact⟨n,Nat.le_refl _,HH,rfl⟩
 case round=>
  obtain⟨n',hn',HE,rfl⟩:=hrel;have hE:=HE.out;clear HE
  cases hE with
  |kind h1 h2=>
   go_wp2_with fail
   all_goals go_ret
   all_goals exact⟨by simp_all,rfl⟩
  |@inn n1 b v1 k h0 h1 h2=>
   have HE2:=hdd h2;have HED:Hid (edep wr (.iface 223 (.pointer (some ⟨b,0,none⟩)))=n1+1/\edep wr v1=n1):=hdd ⟨(ErK.inn h0 h1 h2).edep,h2.edep⟩;have HU:=hdd (an6 h1);have hnn:∃t x,v1=.iface t x:=by cases h2<;>exact⟨_,_,rfl⟩
   obtain⟨vt,vx,hvv⟩:=hnn;subst hvv;clear h0 h1 h2;go_wp2_with fail
   refine HU.out.mono ?_;rintro e w2⟨rfl,rfl⟩;go_wp2_with fail
   go_roundw
   case rel=>exact⟨n1,by omega,HE2,trivial⟩
   case measure=>have:=HED.out;simp[this]
  |@att n1 b v1 k h0 h1 h2=>
   have HE2:=hdd h2;have HED:Hid (edep wr (.iface 188 (.pointer (some ⟨b,0,none⟩)))=n1+1/\edep wr v1=n1):=hdd ⟨(ErK.att h0 h1 h2).edep,h2.edep⟩;have HU:=hdd (an7 h1);have hnn:∃t x,v1=.iface t x:=by cases h2<;>exact⟨_,_,rfl⟩
   obtain⟨vt,vx,hvv⟩:=hnn;subst hvv;clear h0 h1 h2;go_wp2_with fail
   refine HU.out.mono ?_;rintro e w2⟨rfl,rfl⟩;go_wp2_with fail
   go_roundw
   case rel=>exact⟨n1,by omega,HE2,trivial⟩
   case measure=>have:=HED.out;simp[this]
theorem apE(h:ErK S w n v k):
 Calls Tryz.prog 81 #[v,.iface 140 (.int .i64 j)] w (fun e w'=>e=.returned (.bool (k==j))/\w'=w):=by
 have hnn:∃t x,v=.iface t x:=by cases h<;>exact⟨_,_,rfl⟩
 obtain⟨vt,vx,rfl⟩:=hnn;have h8:=@run_callFunc_extern Tryz.prog 138 _ Extern.ReflectliteType.typeOf Tryz.func138 (by kernel_rfl) (by kernel_rfl) (by kernel_rfl) (by kernel_rfl);have h32:=@run_callFunc_extern Tryz.prog 365 _ cmpX Tryz.func365 (by kernel_rfl) (by kernel_rfl) (by kernel_rfl) (by kernel_rfl);have tT:=aoT;have cT:=an2;have mR:=anS;have HH:=hdd (aoU (j:=j) h);clear h;go_enter Tryz.func81,Tryz.ntmps81
 go_wp2_with fail
 refine HH.out.mono ?_;rintro e w2⟨rfl,rfl⟩;go_wp2_with fail
 go_ret;exact⟨rfl,rfl⟩
theorem aoN(p:Addr)(w:World):
 CallsD Tryz.prog 79 #[.pointer (some p)] .returning w fun e u' w'=>e=.returned (.tuple #[])/\u'=.returning/\w'=w:=by
 refine callsD_of_wpS Tryz.func79 rfl fun c₀ cs hu=> ?_;apply wpS_seq;apply wpS_region;simp[wpOpsS,go_sem,recoverD,hu,Tryz.ntmps79,Exit.thenS];refine wpS_cond (t:=false) (by simp[Act.eval,Array.replicate]) ?_;simp only[Bool.false_eq_true,if_false];refine wpS_of_wp (wp_skip ?_)
 cases c₀
 simp_all[bodyPostS,results,Tryz.results79]
theorem aoV(h:ErK S w n v k)(hn:n<16777216):
 Calls Tryz.prog 29 #[v] w (fun e w'=>e=.returned (.int .i64 k)/\Below w.heap.size w w'):=by
 have hmf:∀(fn:Fn) (first cap:Array Value) (w:World),(Instr.makeFunc fn first cap).run Tryz.prog w=.ok (.func fn first cap) w:=fun _ _ _ _=>rfl;have hnn:∃t x,v=.iface t x:=by cases h<;>exact⟨_,_,rfl⟩
 obtain⟨vt,vx,rfl⟩:=hnn;have hbd:=h.bound;obtain⟨w1,hw1,hb1,hs1,b1⟩:=pro1 w (.cells #[.int .i64 0] 3);have HE1:=hdd (an8 (h.low hb1) hn);have HB1:=hdd hb1;have HIS:Hid (∀w' j,Below w.heap.size w w'->Calls Tryz.prog 81 #[.iface vt vx,.iface 140 (.int .i64 j)] w' (fun e w''=>e=.returned (.bool (k==j))/\w''=w')):=hdd fun w' j h'=>apE (h.low h');clear h
 go_enter_defers Tryz.func29,Tryz.ntmps29
 have c0:w1.cell? ⟨w.heap.size,0,none⟩=some (.int .i64 0):=by simp[<-hw1]
 have z0:w1.frozen? ⟨w.heap.size,0,none⟩=false:=by simp[<-hw1]
 go_wp2_with fail
 refine HE1.out.mono ?_;rintro e w2⟨rfl,hb2⟩;have c2:w2.cell? ⟨w.heap.size,0,none⟩=some (.int .i64 0):=cell_below c0 hb2 (by omega);have z2:w2.frozen? ⟨w.heap.size,0,none⟩=false:=(hb2.frozen (by simp[hs1])).trans z0;have HB2:=hdd (HB1.out.trans (hb2.mono HB1.out.size));clear hb2 c0 z0;go_wp2_with fail
 go_loopw [3] (fun i wr=>∃j:Int,1<=j/\j<=k/\i=.int .i64 j/\wr=w2) (fun i _=>(8-intOf i).toNat)
 case atStart=>exact⟨1,by omega,hbd.1,rfl,rfl⟩
 case round=>
  obtain⟨j,hj1,hjk,rfl,rfl⟩:=hrel;have h7:j<=7:=by omega
  go_wp2_with fail
  refine(HIS.out _ j HB2.out).mono ?_;rintro e w3⟨rfl,rfl⟩;by_cases hkj:k=j
  . subst hkj
    have hbk:(k==k)=true:=by simp
    rw[hbk];go_wp2_with fail
    refine leaves_cons (f:=79) (args:=#[.pointer (some ⟨w.heap.size,0,none⟩)]) (by simp) (by simp[go_sem]) ?_;refine(aoN ⟨w.heap.size,0,none⟩ _).mono ?_;rintro e u' w''⟨rfl,rfl,rfl⟩;have HF:=HB2.out.setCell (p:=⟨w.heap.size,0,none⟩) nlr (.int .i64 k);simp[Leaves,settle,results,Tryz.results29,go_sem,c2];exact HF
  . have hbk:(k==j)=false:=by simp[hkj]
    rw[hbk];go_wp2_with fail
    go_roundw
    case rel=>exact⟨j+1,by omega,by omega,by go_num,trivial⟩
    case measure=>simp[intOf];omega
abbrev an1(w w':World)(b:Nat):Prop:=w.heap.size<=b/\b<w'.heap.size
def anX(w:World)(v:Value)(k:Int)(e:Ending)(w':World):Prop:=∃er n,e=.returned (.tuple #[v,er])/\n<=1000/\ErK (an1 w w') w' n er k/\Below w.heap.size w w'
def apH(w:World)(k:Int)(e:Ending)(w':World):Prop:=∃er n,e=.returned er/\n<=1000/\ErK (an1 w w') w' n er k/\Below w.heap.size w w'
end Go.Proofs.YtebdolonckjpiaaGreatDoor
namespace Go.Proofs.YtebdolonckjpiaaGreatDoor
open Classical renaming byContradiction->apN
open Rat renaming mul_nonneg->apO,mul_pos->apP
variable{a r:Bl}{G M P W:Int}
def Far(G:Int)(x:Rat):Prop:=p2 (-G)<=x\/x<=-p2 (-G)
theorem anY{x y t:Rat}(hx:Am M x)(hy:Far G y)(e:t*y=x):Am (M+G) t:=by
 have hp:=bU (-G);have e1:p2 (M+G)*p2 (-G)=p2 M:=by rw[<-dD];congr 1;omega
 have hM:=bU (M+G);obtain⟨h1,h2⟩:=hx;have s1:0<=p2 (M+G):=by grind
 constructor
 . apply apN;intro hc
   rcases hy with hy|hy
   . have a1:=apP (a:=-p2 (M+G)-t) (b:=p2 (-G)) (by grind) hp
     have a2:=apO (a:=-t) (b:=y-p2 (-G)) (by grind) (by grind);grind
   . have a1:=apP (a:=-p2 (M+G)-t) (b:=p2 (-G)) (by grind) hp
     have a2:=apO (a:=-t) (b:=-y-p2 (-G)) (by grind) (by grind);grind
 . apply apN;intro hc
   rcases hy with hy|hy
   . have a1:=apP (a:=t-p2 (M+G)) (b:=p2 (-G)) (by grind) hp
     have a2:=apO (a:=t) (b:=y-p2 (-G)) (by grind) (by grind);grind
   . have a1:=apP (a:=t-p2 (M+G)) (b:=p2 (-G)) (by grind) hp
     have a2:=apO (a:=t) (b:=-y-p2 (-G)) (by grind) (by grind);grind
theorem ao3{Ma Mb Wa Wb:Int}{b:Bl}(hP:1<=P)(h:Acc Ma Wa a)(k:Acc Mb Wb b)(ha:rv a.lo<=rv a.hi)(hb:rv b.lo<=rv b.hi)(f1:Far G (rv b.lo))(f2:Far G (rv b.hi))
 (w1:W<=Wa-G-2) (w2:W<=Wb-Ma-2*G-2) (w3:W<=P-Ma-G-3) (hr:quoB a b P=some r):Acc (Ma+G+1) W r:=by
 unfold quoB at hr
 split at hr
 . rename_i hs
   injection hr with hr;subst hr;have n1:b.lo.man≠0:=by rcases jP hs with g|g<;>omega
   have n2:b.hi.man≠0:=by rcases jP hs with g|g<;>omega
   have v1:rv b.lo≠0:=fun g=>n1 ((bC _).2.2.1 g);have v2:rv b.hi≠0:=fun g=>n2 ((bC _).2.2.1 g);obtain⟨t1,e1⟩:=sH (rv a.hi) (rv b.hi) v2;obtain⟨t2,e2⟩:=sH (rv a.hi) (rv b.lo) v1;obtain⟨t3,e3⟩:=sH (rv a.lo) (rv b.hi) v2;obtain⟨t4,e4⟩:=sH (rv a.lo) (rv b.lo) v1;have hl:=(mF (quoD a.hi b.hi P (-1)) (quoD a.hi b.lo P (-1)) (quoD a.lo b.hi P (-1)) (quoD a.lo b.lo P (-1))).2.2.2.2;have hh:=(mG (quoD a.hi b.hi P 1) (quoD a.hi b.lo P 1) (quoD a.lo b.hi P 1) (quoD a.lo b.lo P 1)).2.2.2.2;have A1:=anY h.2.1 f2 e1;have A2:=anY h.2.1 f1 e2;have A3:=anY h.1 f2 e3;have A4:=anY h.1 f1 e4
   -- each end is near one of the quotients
   have near:∀(m:Dy) (dir:Int),(m=quoD a.hi b.hi P dir\/m=quoD a.hi b.lo P dir\/m=quoD a.lo b.hi P dir\/m=quoD a.lo b.lo P dir)->∃t x y:Rat,(x=rv a.lo\/x=rv a.hi)/\(y=rv b.lo\/y=rv b.hi)/\t*y=x/\Am (Ma+G) t/\Err P (rv m) t:=by
    intro m dir hm;rcases hm with hm|hm|hm|hm<;>rw[hm]
    . exact⟨t1,_,_,Or.inr rfl,Or.inr rfl,e1,A1,(kD _ _ dir hP n2 e1).2.2⟩
    . exact⟨t2,_,_,Or.inr rfl,Or.inl rfl,e2,A2,(kD _ _ dir hP n1 e2).2.2⟩
    . exact⟨t3,_,_,Or.inl rfl,Or.inr rfl,e3,A3,(kD _ _ dir hP n2 e3).2.2⟩
    . exact⟨t4,_,_,Or.inl rfl,Or.inl rfl,e4,A4,(kD _ _ dir hP n1 e4).2.2⟩
   obtain⟨t,x,y,hx,hy,et,At,Et⟩:=near (kE a b P) (-1) hl;obtain⟨t',x',y',hx',hy',et',At',Et'⟩:=near (kF a b P) 1 hh;refine⟨Et.am hP At,Et'.am hP At',?_⟩;have b1:=(Et.bd At).2;have b2:=(Et'.bd At').1;show rv (kF a b P)-rv (kE a b P)<=p2 (-W);have wx:=vH h ha x' x hx' hx;have wy:=vH k hb y y' hy hy'
   -- (t' - t) * y' = x' - x + t * (y - y')
   have hy2:Far G y':=by rcases hy' with g|g<;>rw[g]<;>assumption
   have A5:=Am.mul At (N:=-Wb) (y:=y-y') wy;have hd:Am (max (-Wa) (Ma+G+-Wb)+1) (x'-x+t*(y-y')):=by
    refine Am.add (Am.mono (M:=-Wa) wx (by omega)) (A5.mono (by omega))
   have A6:=anY hd hy2 (t:=t'-t) (by grind);have q1:=half (a:=max (-Wa) (Ma+G+-Wb)+1+G) (b:=-W) (by omega);have q3:=quarter (a:=Ma+G+1-P) (b:=-W) (by omega);have:=A6.2;grind
 . cases hr
theorem ao9{u v e:Rat}(hu:0<=u)(hv:0<=v)(he:0<=e)(h:u*u-v*v<=e*e):u-v<=e:=by
 apply apN;intro hc;have h1:0<(u-v-e)*(u+v+e):=apP (by grind) (by grind);have h2:0<=v*e:=apO hv he;grind
theorem aoW{H V T:Int}(hP:1<=P)(h:Acc M W a)(hM:M<=2*H)(hV:2*V<=W)(w1:T<=V-1)(w2:T<=P-H-4)(hr:rG a P=some r):Acc (H+2) T r:=by
 unfold rG at hr
 split at hr
 . cases hr
 . rename_i hs
   injection hr with hr;subst hr;obtain⟨k1,k2,k3⟩:=nI a;obtain⟨q,q',q1,q2,q3,q4,q5,q6,-,q8,q9,q10⟩:=aaW (bD a) (-1) hP k1;obtain⟨u,u',u1,u2,u3,u4,u5,-,u7,u8,u9,u10⟩:=aaW a.hi 1 hP (by omega);have hp1:=jZ (show-P<=0 by omega);rw[lI]at hp1;have hH:=bU H;have eH:p2 (2*H)=p2 H*p2 H:=by rw[<-dD];congr 1;omega
   have root_am:∀x y:Rat,0<=x->x*x<=y->y<=p2 M->x<=p2 H:=by
    intro x y h1 h2 h3;have:=jZ hM;have:=ao9 (u:=x) (v:=0) (e:=p2 H) h1 Rat.le_refl (by grind) (by grind);grind
   have hlo:rv (bD a)<=p2 M:=by rcases k3 with g|g<;>rw[g]<;>first|exact h.1.2|(have:=bU M;grind)
   have lq:=root_am q _ q1 q3 hlo;have lu:=root_am u _ u1 u3 h.2.1.2;have step:∀x x':Rat,0<=x->x<=p2 H->x'-x<=x*p2 (-P)->x'<=p2 (H+1):=by
    intro x x' h1 h2 h3;have:=apO (a:=x) (b:=1-p2 (-P)) h1 (by grind);rw[iT];grind
   have lq':=step q q' q1 lq q8;have lu':=step u u' u1 lu u8;have hH1:=bU (H+1);have aq:Am (H+1) q:=⟨by grind,by have:=jZ (show H<=H+1 by omega);grind⟩;have aq':Am (H+1) q':=⟨by grind,lq'⟩;have au:Am (H+1) u:=⟨by grind,by have:=jZ (show H<=H+1 by omega);grind⟩;have au':Am (H+1) u':=⟨by grind,lu'⟩;have e2:H+1+1=H+2:=by omega
   have m1:=q9.am hP aq;have m2:=u10.am hP au';rw[e2]at m1 m2;refine⟨m1,m2,?_⟩;show rv (aO a.hi P 1)-rv (aO (bD a) P (-1))<=p2 (-T);have b1:=(q10.bd aq').2;have b2:=(u9.bd au).1;have hw:rv a.hi-rv (bD a)<=p2 (-W):=by have:=h.2.2;grind
   have hV2:=jZ (show-W<=-V+-V by omega);rw[dD]at hV2;have hpV:=bU (-V);have hd:=ao9 (u:=u) (v:=q') (e:=p2 (-V)) u1 (by grind) (by grind) (by grind);have g1:=half (a:=-V) (b:=-T) (by omega);have g2:=quarter (a:=H+1+1-P) (b:=-T) (by omega);grind
end Go.Proofs.YtebdolonckjpiaaGreatDoor
namespace Go.Proofs.YtebdolonckjpiaaGreatDoor
open Re (rat)
section
variable{L:List Ex}{P:Int}{a b:Ex}{x y z:Re}{c d:Ct}
theorem Vl.far (hL:Lok L)(h:Vl L P a x c)(h0:x≠0):rat (p2 (-ctG L.length c+1))<=Re.ab x:=by
 refine Re.le_trans (Re.rat_le.2 (jZ ?_)) (ak3 hL h.den h.roots h0);unfold ctG;have h1:max (uE a).1 (uE a).2<=max c.u c.l:=by have:=h.hu;have:=h.hl;omega
 have:=Nat.mul_le_mul_right (2^L.length) h1;omega
theorem Vl.div (hP:1<=P)(hL:Lok L)(h:Vl L P a x c)(k:Vl L P b y d)(h0:y≠0)(hz:z*y=x)(hW:ctG L.length d<=d.W):Vl L P (.div a b) z (anF P L.length c d):=by
 obtain⟨r,h1,h2,h3,h4⟩:=h.le hP;obtain⟨t,k1,k2,k3,k4⟩:=k.le hP;have:=h.hu;have:=h.hl;have:=h.hs;have:=k.hu;have:=k.hl;have:=k.hs;have hf:=amR k3 k2 (k.far hL h0) hW;obtain⟨q,hq⟩:=quo_some hf r P;refine⟨h.den.div k.den h0 hz,⟨h.fin,k.fin⟩,⟨h.roots,k.roots⟩,⟨q,by unfold gH;rw[h1,k1];exact hq,?_⟩,by simp only[uE,anF];omega,by simp only[uE,anF];omega,by simp only[cK,anF];omega⟩;refine ao3 (G:=ctG L.length d) hP h2 k2 h4 k4 ?_ ?_ (by simp only[anF];omega) (by simp only[anF];omega) (by simp only[anF];omega) hq
 . rcases hf with g|g
   . exact Or.inl g.1
   . exact Or.inr g.1
 . rcases hf with g|g
   . exact Or.inl g.2
   . exact Or.inr g.2
theorem Vl.root (hP:1<=P)(h:Vl L P a x c)(h0:0<=y)(hy:y*y=x)(hm:Ex.root a∈L):Vl L P (.root a) y (amS P c):=by
 obtain⟨r,h1,h2,h3,h4⟩:=h.le hP;have:=h.hu;have:=h.hl;have:=h.hs;obtain⟨q,hq,-⟩:=akW hP h3 h0 hy;refine⟨h.den.root h0 hy,h.fin,⟨hm,h.roots⟩,⟨q,by unfold gH;rw[h1];exact hq,?_⟩,?_,?_,by simp only[cK,amS];omega⟩
 . exact aoW (H:=(c.M+1)/2) (V:=c.W/2) hP h2 (by omega) (by omega) (by simp only[amS];omega) (by simp only[amS];omega) hq
 . simp only[uE,amS];split<;>simp only<;>omega
 . simp only[uE,amS];split<;>simp only<;>omega
theorem Lok.nil:Lok []:=⟨trivial,fun r hr=>by cases hr⟩
end
end Go.Proofs.YtebdolonckjpiaaGreatDoor
namespace Go.Proofs.YtebdolonckjpiaaGreatDoor
open Go.RowKit Go.Maps
open Re (rat ofI ofN)
variable{K j:Nat}{v:Re}
theorem AllGd.div {a b:Ex}(h:AllGd a)(k:AllGd b)(hG:Gd K j b v):AllGd (.div a b):=
 ⟨fun x y s=>by cases s with|refl=>exact⟨_,_,_,hG⟩|divL s=>exact h.1 x y s|divR s=>exact k.1 x y s,fun x s=>by cases s with|divL s=>exact h.2 x s|divR s=>exact k.2 x s⟩
theorem AllGd.root {a:Ex}(h:AllGd a)(hG:Gd K j a v):AllGd (.root a):=
 ⟨fun x y s=>by cases s with|root s=>exact h.1 x y s,fun x s=>by cases s with|refl=>exact⟨_,_,_,hG⟩|root s=>exact h.2 x s⟩
section
variable{L:List Ex}{a b:Ex}{x y z:Re}{k m n:Nat}
end
section
variable{L:List Ex}{b:Nat}{x:Int}
end
section
variable{L:List Ex}{s t:Sh}{a b:Ex}{x y z:Re}
theorem Fit.div (hL:Lok L)(h:Fit L s a x)(g:Fit L t b y)(h0:y≠0)(hz:z*y=x):Fit L (.div s t) (.div a b) z:=fun k=>by
 simp only[Sh.ok,Bool.and_eq_true]at k;have h:=h k.1;have g:=g k.2.1;exact⟨Vl.div (by omega) hL h.vl g.vl h0 hz (of_decide_eq_true k.2.2.2),by have:=h.cost;have:=g.cost;simp only[bX,Sh.cost];omega,h.gd.div g.gd (g.good k.2.2.1)⟩
theorem Fit.root (h:Fit L s a x)(h0:0<=y)(hy:y*y=x)(hm:Ex.root a∈L):Fit L (.root s) (.root a) y:=fun k=>by
 simp only[Sh.ok,Bool.and_eq_true]at k;have h:=h k.1;exact⟨Vl.root (by omega) h.vl h0 hy hm,by have:=h.cost;simp only[bX,Sh.cost];omega,h.gd.root (h.good k.2)⟩
end
theorem anN{L:List Ex}{k:Int}(n:Nat)(h:k.natAbs<2^n)(hn:n<=53):Fit L (.leaf n 0) (li k) (rat (k:Rat)):=by
 obtain⟨h1,h2,h3⟩:=qM (k:=k) (Nat.lt_of_lt_of_le h (Nat.pow_le_pow_right (by omega) hn));exact Fit.leaf n h1 h2 h3 h
section
variable{L:List Ex}{s t:Sh}{a b:Ex}{p q:Rat}
end
end Go.Proofs.YtebdolonckjpiaaGreatDoor
namespace Go.Proofs.YtebdolonckjpiaaGreatDoor
open Go.RowKit Go.Maps Go.Stop Go.Extern
abbrev w25:Nat:=4627730092099895296
end Go.Proofs.YtebdolonckjpiaaGreatDoor
