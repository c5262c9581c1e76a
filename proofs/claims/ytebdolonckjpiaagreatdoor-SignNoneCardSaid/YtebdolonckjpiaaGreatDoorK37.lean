/- A part of the proof: contracts of functions and plain laws (EX0, FlH, FlI, SgE). -/
import Derived.Test.YtebdolonckjpiaaGreatDoorK15
import Derived.Test.YtebdolonckjpiaaGreatDoorK16
import Derived.Test.YtebdolonckjpiaaGreatDoorK18
import Derived.Test.YtebdolonckjpiaaGreatDoorK19
import Derived.Test.YtebdolonckjpiaaGreatDoorK29
import Derived.Test.YtebdolonckjpiaaGreatDoorK31
import Derived.Test.YtebdolonckjpiaaGreatDoorK34
import Derived.Test.YtebdolonckjpiaaGreatDoorK35
import Derived.Deep.DeepCutAuto
set_option linter.unusedVariables false
set_option linter.unusedSimpArgs false
set_option maxHeartbeats 25600000
set_option maxRecDepth 100000
namespace Go.Proofs.YtebdolonckjpiaaGreatDoor
theorem aoF{P:Ex->Prop}{ns ns':List Nd}{a:Ex}{i k:Nat}(h:AllIs P ns)(ha:Is ns a i)(hn:ns'[k]? =some ⟨5,0,i,0⟩)(hns:ns'=ns\/ns'=ns++[⟨5,0,i,0⟩])(hP:P (.root a)):
 Is ns' (.root a) k/\AllIs P ns'/\ns<+:ns':=by
 by_cases hkl:k<ns.length
 . have hnk:ns[k]? =some ⟨5,0,i,0⟩:=by
    rcases hns with rfl|rfl
    . exact hn
    . rwa[List.getElem?_append_left hkl]at hn
   have hb4:i<k:=by
    rcases h.before hnk with ⟨h0,-⟩|⟨h0,-⟩|⟨-,-,-,i',e1,h1⟩
    . simp at h0
    . rcases h0 with h0|h0|h0|h0<;>simp at h0
    . simp at e1;omega
   have hI:Is ns (.root a) k:=⟨i,hnk,hb4,ha⟩;rcases hns with rfl|rfl
   . exact⟨hI,h,List.prefix_rfl⟩
   . have hp:ns<+:ns++[⟨5,0,i,0⟩]:=⟨_,rfl⟩
     exact⟨hI.mono hp,h.snoc (e:=.root a) ⟨i,by simp,ha.lt,ha.mono hp⟩ hP,hp⟩
 . rcases hns with rfl|rfl
   . exact absurd (List.getElem?_eq_some_iff.1 hn).1 hkl
   . have hp:ns<+:ns++[⟨5,0,i,0⟩]:=⟨_,rfl⟩
     have:k=ns.length:=by have:=(List.getElem?_eq_some_iff.1 hn).1;simp at this;omega
     subst this;have hI:Is (ns++[⟨5,0,i,0⟩]) (.root a) ns.length:=⟨i,hn,ha.lt,ha.mono hp⟩;exact⟨hI,h.snoc hI hP,hp⟩
end Go.Proofs.YtebdolonckjpiaaGreatDoor
namespace Go.Proofs.YtebdolonckjpiaaGreatDoor
open Go.RowKit Go.Maps
section
variable{P:Ex->Prop}{B N:Nat}{w w':World}{g:Nat}{ns ns':List Nd}
end
theorem aoM{P:Ex->Prop}{B N:Nat}{w:World}{g i j:Nat}{ns:List Nd}{a b:Ex}(hs:St P B N w g ns)(hN:N<20000)(ha:Is ns a i)(hb:Is ns b j)(hP:P (.div a b)):
 Calls Tryz.prog 36 #[.pointer (some ⟨g,0,none⟩),.int .i64 (i:Int),.int .i64 (j:Int)] w (RetE P B (N+1) w g ns idV (.div a b)):=by
 have HP:=hdd (qD (n:=⟨4,0,i,j⟩) hs.dag (adE (Or.inr (Or.inr (Or.inr rfl))) ha.lt hb.lt hs.dag.len) (by simp) (by have:=hs.room;omega));have HR:Hid (∀(w':World) (k:Nat) (ns':List Nd),DagP w' g ns'->ns'[k]? =some ⟨4,0,i,j⟩->(ns'=ns\/ns'=ns++[⟨4,0,i,j⟩])->DS g w w'->RetE P B (N+1) w g ns idV (.div a b) (.returned (.int .i64 (k:Int))) w'):=
  hdd fun w' k ns' h1 h2 h3 h4=>ah5 (mk:=idV) hs (Or.inr (Or.inr (Or.inr rfl))) ha hb hP h1 h2 h3 h4
 clear hs hN ha hb hP;dsimp only at HP;go_enter Tryz.func36,Tryz.ntmps36
 go_wp2_with fail
 refine HP.out.mono ?_;rintro e w2⟨k,ns',rfl,hd2,hi,hns,hs⟩;have HF:=hdd (HR.out _ _ _ hd2 hi hns hs);clear hd2 hi hns hs;go_wp2;go_ret;exact HF.out
theorem aoG{P:Ex->Prop}{B N:Nat}{w:World}{g i:Nat}{ns:List Nd}{a:Ex}(hs:St P B N w g ns)(hN:N<20000)(ha:Is ns a i)(hP:P (.root a)):
 Calls Tryz.prog 32 #[.pointer (some ⟨g,0,none⟩),.int .i64 (i:Int)] w (RetE P B (N+1) w g ns idV (.root a)):=by
 have hnd:NdIn ⟨5,0,i,0⟩ ns.length:=by
  have h1:=ha.lt;have h2:=hs.dag.len;refine⟨Or.inr (Or.inr ⟨rfl,rfl,?_,rfl⟩),?_,?_,?_⟩
  . simp;omega
  . intro h;simp at h
  . intro _;simp;omega
  . intro _ h;simp at h
 have HP:=hdd (qD (n:=⟨5,0,i,0⟩) hs.dag hnd (by simp) (by have:=hs.room;omega));have HS:=hdd hs;have HA:=hdd ha;have HE:=hdd hP;clear hs hN ha hP hnd;dsimp only at HP;go_enter Tryz.func32,Tryz.ntmps32
 go_wp2_with fail
 refine HP.out.mono ?_;rintro e w2⟨k,ns',rfl,hd2,hi,hns,hs⟩;have HR:Hid (RetE P B (N+1) w g ns idV (.root a) (.returned (idV k)) w2):=hdd (by
  obtain⟨q1,q2,q3⟩:=aoF HS.out.all HA.out hi hns HE.out;refine⟨k,ns',rfl,HS.out.step hd2 q2 hs ?_,q3,q1,hs⟩;have:=HS.out.room;rcases hns with rfl|rfl
  . omega
  . simp;omega)
 unfold idV at HR;clear hd2 hi hns hs;go_wp2;go_ret;exact HR.out
theorem goes_none{w:World}{g k:Nat}{ns:List Nd}(hd:DagP w g ns)(hk:k<ns.length):
 Calls Tryz.prog 65 #[.agg #[.pointer (some ⟨g,0,none⟩),.int .i64 (k:Int)],.slice none 0 0] w (RetV w (.bool true)):=by
 obtain⟨w1,hw1,hb1,hs1,b1⟩:=pro1 w (.cells #[.pointer (some ⟨g,0,none⟩),.int .i64 (k:Int)] 27);obtain⟨c0,c1,-,-⟩:=aC b1;have HV:=hdd (qE (hd.below hb1) hk);have HB:=hdd hb1;clear hd hk hb1 hs1 b1;go_enter Tryz.func65,Tryz.ntmps65
 go_wp2_with fail
 refine HV.out.mono ?_;rintro e w2⟨rfl,hb2⟩;have HB2:=hdd (aB HB.out hb2);clear hb2;go_wp2_with fail
 go_loopw [12] (fun i wr=>i=.int .i64 0/\Hid (wr=w2)) (fun _ _=>0)
 case atStart=>exact⟨rfl,hdd rfl⟩
 case round=>
  obtain⟨rfl,HW⟩:=hrel;obtain rfl:=HW.out;clear HW;go_wp2;go_ret;exact⟨rfl,HB2.out⟩
section
variable{P:Ex->Prop}{B N M:Nat}{w W W':World}{g:Nat}{ns ns' ns'':List Nd}{l:List (Nat×Obj)}
end
theorem size_al(w:World)(o:Obj):(w.alloc o).heap.size=w.heap.size+1:=by simp
section
variable{P:Ex->Prop}{B N M:Nat}{w W W':World}{g i j b v:Nat}{ns ns' ns'':List Nd}{l:List (Nat×Obj)}{x y:Ex}
end
section
variable{α:Type}{a:α}{l:List α}
end
section
variable{s:Bs}{w0 w1 W W':World}{g N M:Nat}{K:List (Ex×Nat)}{l l':List (Nat×Obj)}
end
def RtO(s:Bs)(g N:Nat)(K:List (Ex×Nat))(l:List (Nat×Obj))(x:Ex)(e:Ending)(W':World):Prop:=∃k:Nat,e=.returned (.int .i64 (k:Int))/\Run s g N ((x,k)::K) l W'
section
variable{s:Bs}{W W':World}{g N M:Nat}{K:List (Ex×Nat)}{l:List (Nat×Obj)}{x y:Ex}{ns:List Nd}
end
section
variable{s:Bs}{W:World}{g N i j k m b v:Nat}{K:List (Ex×Nat)}{l:List (Nat×Obj)}{x y:Ex}{q:Int}
variable{px py qx qy rx ry:Ex}{i' j' k':Nat}
end
end Go.Proofs.YtebdolonckjpiaaGreatDoor
namespace Go.Proofs.YtebdolonckjpiaaGreatDoor
open Go.RowKit Go.Maps Go.Stop Go.Extern
open Go.Instr renaming typeAssert->ao1
open Go.World renaming cell?_of_block->ao2,cell?_setCell_same->ao3
variable{j k:Int}{b n:Nat}{S T:Nat->Prop}{v:Value}{w w':World}
inductive ErK(S:Nat->Prop)(w:World):Nat->Value->Int->Prop
 |kind {k:Int}:1<=k->k<=7->ErK S w 0 (.iface 140 (.int .i64 k)) k
 |inn {n b:Nat} {v:Value} {k:Int}:S b->w.cell? ⟨b,1,none⟩=some v->ErK S w n v k->ErK S w (n+1) (.iface 223 (.pointer (some ⟨b,0,none⟩))) k
 |att {n b:Nat} {v:Value} {k:Int}:S b->w.cell? ⟨b,1,none⟩=some v->ErK S w n v k->ErK S w (n+1) (.iface 188 (.pointer (some ⟨b,0,none⟩))) k
theorem ErK.block (h:w.cell? ⟨b,1,none⟩=some v):b<w.heap.size:=World.block_lt_of_cell? w _ h
theorem ErK.keep (h:ErK S w n v k)(hb:∀b,S b->b<w.heap.size->w'.cell? ⟨b,1,none⟩=w.cell? ⟨b,1,none⟩):ErK S w' n v k:=by
 induction h with
 |kind h1 h2=>exact .kind h1 h2
 |inn h0 h1 _ ih=>exact .inn h0 ((hb _ h0 (ErK.block h1)).trans h1) ih
 |att h0 h1 _ ih=>exact .att h0 ((hb _ h0 (ErK.block h1)).trans h1) ih
theorem ErK.mono (h:ErK S w n v k)(hb:∀b,S b->b<w.heap.size->T b):ErK T w n v k:=by
 induction h with
 |kind h1 h2=>exact .kind h1 h2
 |inn h0 h1 _ ih=>exact .inn (hb _ h0 (ErK.block h1)) h1 ih
 |att h0 h1 _ ih=>exact .att (hb _ h0 (ErK.block h1)) h1 ih
theorem ErK.low (h:ErK S w n v k)(hb:Below w.heap.size w w'):ErK S w' n v k:=
 h.keep fun _ _ hl=>ao2 (hb.block _ hl)
theorem ErK.bound (h:ErK S w n v k):1<=k/\k<=7:=by
 induction h with
 |kind h1 h2=>exact⟨h1,h2⟩
 |inn _ _ _ ih=>exact ih
 |att _ _ _ ih=>exact ih
theorem ErK.det (h:ErK S w n v k):∀{m:Nat} {j:Int},ErK T w m v j->n=m:=by
 induction h with
 |kind h1 h2=>intro m j h;cases h;rfl
 |inn _ h1 _ ih=>
  intro m j h;cases h with
  |inn _ g1 g2=>rw[h1]at g1;cases g1;rw[ih g2]
 |att _ h1 _ ih=>
  intro m j h;cases h with
  |att _ g1 g2=>rw[h1]at g1;cases g1;rw[ih g2]
noncomputable def edep(w:World)(v:Value):Nat:=by
 classical
 exact if h:∃n k,ErK (fun _=>True) w n v k then Classical.choose h else 0
theorem ErK.edep (h:ErK S w n v k):edep w v=n:=by
 unfold Go.Proofs.YtebdolonckjpiaaGreatDoor.edep;have hx:∃n k,ErK (fun _=>True) w n v k:=⟨n,k,h.mono fun _ _ _=>trivial⟩;rw[dif_pos hx];obtain⟨j,hj⟩:=Classical.choose_spec hx;exact hj.det h
theorem an2(h:w.cell? ⟨b,1,none⟩=some v):
 Calls Tryz.prog 361 #[.pointer (some ⟨b,0,none⟩)] w (fun e w'=>e=.returned v/\w'=w):=by
 go_enter Tryz.func361,Tryz.ntmps361
 go_wp2;go_ret;exact⟨rfl,rfl⟩
theorem an3(h:w.cell? ⟨b,1,none⟩=some v):
 Calls Tryz.prog 359 #[.pointer (some ⟨b,0,none⟩)] w (fun e w'=>e=.returned v/\w'=w):=by
 go_enter Tryz.func359,Tryz.ntmps359
 go_wp2;go_ret;exact⟨rfl,rfl⟩
theorem anS(v:Value)(xT:TypeId)(w:World):(ao1 (.iface 140 v) xT 264 true).run Tryz.prog w=.ok (.tuple #[.nilIface,.bool false]) w:=run_typeAssert_lacksB Tryz.underlying264 (by kernel_rfl) (by kernel_rfl) v xT w
theorem anQ(v:Value)(xT:TypeId)(w:World):(ao1 (.iface 140 v) xT 265 true).run Tryz.prog w=.ok (.tuple #[.nilIface,.bool false]) w:=run_typeAssert_lacksB Tryz.underlying265 (by kernel_rfl) (by kernel_rfl) v xT w
theorem aoH(v:Value)(xT:TypeId)(w:World):(ao1 (.iface 140 v) xT 271 true).run Tryz.prog w=.ok (.tuple #[.nilIface,.bool false]) w:=run_typeAssert_lacksB Tryz.underlying271 (by kernel_rfl) (by kernel_rfl) v xT w
theorem anT(v:Value)(xT:TypeId)(w:World):(ao1 (.iface 223 v) xT 264 true).run Tryz.prog w=.ok (.tuple #[.iface 223 v,.bool true]) w:=run_typeAssert_hasB Tryz.underlying264 (by kernel_rfl) v xT w
theorem aoU(v:Value)(xT:TypeId)(w:World):(ao1 (.iface 223 v) xT 271 true).run Tryz.prog w=.ok (.tuple #[.nilIface,.bool false]) w:=run_typeAssert_lacksB Tryz.underlying271 (by kernel_rfl) (by kernel_rfl) v xT w
theorem anU(v:Value)(xT:TypeId)(w:World):(ao1 (.iface 188 v) xT 264 true).run Tryz.prog w=.ok (.tuple #[.iface 188 v,.bool true]) w:=run_typeAssert_hasB Tryz.underlying264 (by kernel_rfl) v xT w
theorem aoV(v:Value)(xT:TypeId)(w:World):(ao1 (.iface 188 v) xT 271 true).run Tryz.prog w=.ok (.tuple #[.nilIface,.bool false]) w:=run_typeAssert_lacksB Tryz.underlying271 (by kernel_rfl) (by kernel_rfl) v xT w
theorem anN (v : Value) (w : World) : (Go.method 439 223 v "Unwrap").run Tryz.prog w = .ok (361, v) w := by kernel_rfl
theorem anO (v : Value) (w : World) : (Go.method 439 188 v "Unwrap").run Tryz.prog w = .ok (359, v) w := by kernel_rfl
theorem aoC{s:Nat}{c:Int}(h:ErK S w n v k)(hc:w.cell? ⟨s,0,none⟩=some (.int .i64 c))(hz:w.frozen? ⟨s,0,none⟩=false)(hc0:0<=c)(hcn:c+n<16777216)(hs:∀b,(∃v,w.cell? ⟨b,1,none⟩=some v)->b≠s):
 Calls Tryz.prog 137 #[v,.int .i64 0,.pointer (some ⟨s,0,none⟩)] w (fun e w'=>e=.returned (.bool false)/\Fr (fun b=>b=s) w w'):=by
 have HS:=hdd hs;have nK:=anS;have nKs:=anQ;have uI:=anT;have uA:=anU;have mI:=anN;have mA:=anO;have HH:=hdd h;have HC:=hdd hc;have HZ:=hdd hz;clear hs h hc hz;go_enter Tryz.func137,Tryz.ntmps137
 go_wp2_with fail
 go_loopw [0] (fun v' wr=>∃n':Nat,n'<=n/\Hid (ErK S w n' v' k)/\Hid (Fr (fun b=>b=s) w wr)/\Hid (wr.cell? ⟨s,0,none⟩=some (.int .i64 (c+(n-n':Nat))))/\Hid (wr.frozen? ⟨s,0,none⟩=false)) (fun v' _=>edep w v')
 case atStart=>exact⟨n,Nat.le_refl _,HH,hdd (Fr.of_below (Below.refl _ _)),hdd (by rw[Nat.sub_self];simpa using HC.out),HZ⟩
 case round=>
  obtain⟨n',hn',HE,HF,HCC,HZZ⟩:=hrel;have cs:=HCC.out;have fs:=HZZ.out;have hle:¬(c+((n-n':Nat):Int)+1>16777216):=by omega
  have hE:=HE.out;clear HE
  cases hE with
  |kind h1 h2=>
   go_wp2_with fail
   go_ret;exact⟨rfl,Fr.setCell HF.out rfl _⟩
  |@inn n1 b v1 k h0 h1 h2=>
   have HE2:=hdd h2;have HED:Hid (edep w (.iface 223 (.pointer (some ⟨b,0,none⟩)))=n1+1/\edep w v1=n1):=hdd ⟨(ErK.inn h0 h1 h2).edep,h2.edep⟩;have hbs:b≠s:=HS.out b ⟨_,h1⟩;have h1r:wr.cell? ⟨b,1,none⟩=some v1:=(ao2 (HF.out.block b (ErK.block h1) (fun h=>hbs h))).trans h1;have HU:Hid (∀u,Calls Tryz.prog 361 #[.pointer (some ⟨b,0,none⟩)] (wr.setCell ⟨s,0,none⟩ u) (fun e w''=>e=.returned v1/\w''=wr.setCell ⟨s,0,none⟩ u)):=hdd fun u=>an2 ((ao2 (Below.heap_setCell wr _ u b hbs)).trans h1r);clear h0 h1 h2 h1r hbs;go_wp2_with fail
   refine(HU.out _).mono ?_;rintro e w2⟨rfl,rfl⟩;go_wp2_with fail
   go_roundw
   case rel=>
    refine⟨n1,by omega,HE2,hdd (Fr.setCell HF.out rfl _),hdd ?_,hdd (by simp[fs])⟩;have:((n-n1:Nat):Int)=((n-(n1+1):Nat):Int)+1:=by omega
    rw[this,<-Int.add_assoc];exact ao3 _ _ _ cs
   case measure=>have:=HED.out;simp[this]
  |@att n1 b v1 k h0 h1 h2=>
   have HE2:=hdd h2;have HED:Hid (edep w (.iface 188 (.pointer (some ⟨b,0,none⟩)))=n1+1/\edep w v1=n1):=hdd ⟨(ErK.att h0 h1 h2).edep,h2.edep⟩;have hbs:b≠s:=HS.out b ⟨_,h1⟩;have h1r:wr.cell? ⟨b,1,none⟩=some v1:=(ao2 (HF.out.block b (ErK.block h1) (fun h=>hbs h))).trans h1;have HU:Hid (∀u,Calls Tryz.prog 359 #[.pointer (some ⟨b,0,none⟩)] (wr.setCell ⟨s,0,none⟩ u) (fun e w''=>e=.returned v1/\w''=wr.setCell ⟨s,0,none⟩ u)):=hdd fun u=>an3 ((ao2 (Below.heap_setCell wr _ u b hbs)).trans h1r);clear h0 h1 h2 h1r hbs;go_wp2_with fail
   refine(HU.out _).mono ?_;rintro e w2⟨rfl,rfl⟩;go_wp2_with fail
   go_roundw
   case rel=>
    refine⟨n1,by omega,HE2,hdd (Fr.setCell HF.out rfl _),hdd ?_,hdd (by simp[fs])⟩;have:((n-n1:Nat):Int)=((n-(n1+1):Nat):Int)+1:=by omega
    rw[this,<-Int.add_assoc];exact ao3 _ _ _ cs
   case measure=>have:=HED.out;simp[this]
theorem an4(h:ErK S w n v k)(hn:n<16777216):
 Calls Tryz.prog 80 #[v] w (fun e w'=>e=.returned (.bool false)/\Below w.heap.size w w'):=by
 have hb1:Below w.heap.size w (w.alloc (.cells #[.int .i64 0] 3)):=Below.alloc (Below.refl _ _) nlr _;have h1:=h.low hb1;have HL:=hdd (aoC (s:=w.heap.size) (c:=0) h1 (by simp) (by simp) (by omega) (by omega) (fun b hb=>by
  obtain⟨v',hv'⟩:=hb;intro hbs;subst hbs;simp at hv'))
 have HB:=hdd hb1;clear h h1 hb1;go_enter Tryz.func80,Tryz.ntmps80
 go_wp2_with fail
 refine HL.out.mono ?_;rintro e w2⟨rfl,hf⟩;have HB2:Hid (Below w.heap.size w w2):=hdd (HB.out.trans (hf.below HB.out.size (fun i hi=>by omega)));go_wp2_with fail
 go_ret;exact⟨rfl,HB2.out⟩
theorem aoI(v:Value)(w:World):(Extern.ReflectliteType.typeOf #[.iface 140 v]).run Tryz.prog w=.ok (.iface 269 (.agg #[.pointer (some ⟨7,140,none⟩)])) w:=by kernel_rfl
def cmpX (args : Array Value) : Sem Value := Extern.ReflectliteType.method (fun t => do Extern.Rtype.noPackHeld "Comparable" t; pure (.bool (← typeInfo t).comparable)) args
theorem an0(w:World):(cmpX #[.agg #[.pointer (some ⟨7,140,none⟩)]]).run Tryz.prog w=.ok (.bool true) w:=by kernel_rfl
theorem anR (v : Value) (w : World) : (Go.method 439 269 v "Comparable").run Tryz.prog w = .ok (365, v) w := by kernel_rfl
theorem aoN(a b:Int)(w:World):(binOp .eql 35 (.iface 140 (.int .i64 a)) (.iface 140 (.int .i64 b))).run Tryz.prog w=.ok (.bool (a==b)) w:=
 Lib.run_eql_iface_int w a b Tryz.underlying35 (by kernel_rfl) Tryz.underlying140
theorem aoJ(h:ErK S w n v k):
 Calls Tryz.prog 139 #[v,.iface 140 (.int .i64 j),.bool true] w (fun e w'=>e=.returned (.bool (k==j))/\w'=w):=by
 have nK:=anS;have nKs:=anQ;have iK:=aoH;have iI:=aoU;have iA:=aoV;have uI:=anT;have uA:=anU;have mI:=anN;have mA:=anO;have eq:=aoN;have eI:∀(p x:Value) (w:World),(binOp .eql 35 (.iface 223 p) (.iface 140 x)).run Tryz.prog w=.ok (.bool false) w:=fun p x w=>run_eql_iface_types (P:=Tryz.prog) _ _ p x Tryz.underlying35 (by decide) w;have eA:∀(p x:Value) (w:World),(binOp .eql 35 (.iface 188 p) (.iface 140 x)).run Tryz.prog w=.ok (.bool false) w:=fun p x w=>run_eql_iface_types (P:=Tryz.prog) _ _ p x Tryz.underlying35 (by decide) w;have HH:=hdd h;clear h;go_enter Tryz.func139,Tryz.ntmps139
 go_wp2_with fail
 go_loopw [0] (fun v' wr=>∃n':Nat,n'<=n/\Hid (ErK S w n' v' k)/\wr=w) (fun v' _=>edep w v')
 case atStart=>exact⟨n,Nat.le_refl _,HH,rfl⟩
 case round=>
  obtain⟨n',hn',HE,rfl⟩:=hrel;have hE:=HE.out;clear HE
  cases hE with
  |kind h1 h2=>
   go_wp2_with fail
   all_goals go_ret
   all_goals exact⟨by simp_all,rfl⟩
  |@inn n1 b v1 k h0 h1 h2=>
   have HE2:=hdd h2;have HED:Hid (edep wr (.iface 223 (.pointer (some ⟨b,0,none⟩)))=n1+1/\edep wr v1=n1):=hdd ⟨(ErK.inn h0 h1 h2).edep,h2.edep⟩;have HU:=hdd (an2 h1);have hnn:∃t x,v1=.iface t x:=by cases h2<;>exact⟨_,_,rfl⟩
   obtain⟨vt,vx,hvv⟩:=hnn;subst hvv;clear h0 h1 h2;go_wp2_with fail
   refine HU.out.mono ?_;rintro e w2⟨rfl,rfl⟩;go_wp2_with fail
   go_roundw
   case rel=>exact⟨n1,by omega,HE2,trivial⟩
   case measure=>have:=HED.out;simp[this]
  |@att n1 b v1 k h0 h1 h2=>
   have HE2:=hdd h2;have HED:Hid (edep wr (.iface 188 (.pointer (some ⟨b,0,none⟩)))=n1+1/\edep wr v1=n1):=hdd ⟨(ErK.att h0 h1 h2).edep,h2.edep⟩;have HU:=hdd (an3 h1);have hnn:∃t x,v1=.iface t x:=by cases h2<;>exact⟨_,_,rfl⟩
   obtain⟨vt,vx,hvv⟩:=hnn;subst hvv;clear h0 h1 h2;go_wp2_with fail
   refine HU.out.mono ?_;rintro e w2⟨rfl,rfl⟩;go_wp2_with fail
   go_roundw
   case rel=>exact⟨n1,by omega,HE2,trivial⟩
   case measure=>have:=HED.out;simp[this]
theorem aoW(h:ErK S w n v k):
 Calls Tryz.prog 81 #[v,.iface 140 (.int .i64 j)] w (fun e w'=>e=.returned (.bool (k==j))/\w'=w):=by
 have hnn:∃t x,v=.iface t x:=by cases h<;>exact⟨_,_,rfl⟩
 obtain⟨vt,vx,rfl⟩:=hnn;have h8:=@run_callFunc_extern Tryz.prog 138 _ Extern.ReflectliteType.typeOf Tryz.func138 (by kernel_rfl) (by kernel_rfl) (by kernel_rfl) (by kernel_rfl);have h32:=@run_callFunc_extern Tryz.prog 365 _ cmpX Tryz.func365 (by kernel_rfl) (by kernel_rfl) (by kernel_rfl) (by kernel_rfl);have tT:=aoI;have cT:=an0;have mR:=anR;have HH:=hdd (aoJ (j:=j) h);clear h;go_enter Tryz.func81,Tryz.ntmps81
 go_wp2_with fail
 refine HH.out.mono ?_;rintro e w2⟨rfl,rfl⟩;go_wp2_with fail
 go_ret;exact⟨rfl,rfl⟩
theorem aoD(p:Addr)(w:World):
 CallsD Tryz.prog 79 #[.pointer (some p)] .returning w fun e u' w'=>e=.returned (.tuple #[])/\u'=.returning/\w'=w:=by
 refine callsD_of_wpS Tryz.func79 rfl fun c₀ cs hu=> ?_;apply wpS_seq;apply wpS_region;simp[wpOpsS,go_sem,recoverD,hu,Tryz.ntmps79,Exit.thenS];refine wpS_cond (t:=false) (by simp[Act.eval,Array.replicate]) ?_;simp only[Bool.false_eq_true,if_false];refine wpS_of_wp (wp_skip ?_)
 cases c₀
 simp_all[bodyPostS,results,Tryz.results79]
theorem an5(h:ErK S w n v k)(hn:n<16777216):
 Calls Tryz.prog 29 #[v] w (fun e w'=>e=.returned (.int .i64 k)/\Below w.heap.size w w'):=by
 have hmf:∀(fn:Fn) (first cap:Array Value) (w:World),(Instr.makeFunc fn first cap).run Tryz.prog w=.ok (.func fn first cap) w:=fun _ _ _ _=>rfl;have hnn:∃t x,v=.iface t x:=by cases h<;>exact⟨_,_,rfl⟩
 obtain⟨vt,vx,rfl⟩:=hnn;have hbd:=h.bound;obtain⟨w1,hw1,hb1,hs1,b1⟩:=pro1 w (.cells #[.int .i64 0] 3);have HE1:=hdd (an4 (h.low hb1) hn);have HB1:=hdd hb1;have HIS:Hid (∀w' j,Below w.heap.size w w'->Calls Tryz.prog 81 #[.iface vt vx,.iface 140 (.int .i64 j)] w' (fun e w''=>e=.returned (.bool (k==j))/\w''=w')):=hdd fun w' j h'=>aoW (h.low h');clear h
 go_enter_defers Tryz.func29,Tryz.ntmps29
 have c0:w1.cell? ⟨w.heap.size,0,none⟩=some (.int .i64 0):=by simp[<-hw1]
 have z0:w1.frozen? ⟨w.heap.size,0,none⟩=false:=by simp[<-hw1]
 go_wp2_with fail
 refine HE1.out.mono ?_;rintro e w2⟨rfl,hb2⟩;have c2:w2.cell? ⟨w.heap.size,0,none⟩=some (.int .i64 0):=cell_below c0 hb2 (by omega);have z2:w2.frozen? ⟨w.heap.size,0,none⟩=false:=(hb2.frozen (by simp[hs1])).trans z0;have HB2:=hdd (HB1.out.trans (hb2.mono HB1.out.size));clear hb2 c0 z0;go_wp2_with fail
 go_loopw [3] (fun i wr=>∃j:Int,1<=j/\j<=k/\i=.int .i64 j/\wr=w2) (fun i _=>(8-intOf i).toNat)
 case atStart=>exact⟨1,by omega,hbd.1,rfl,rfl⟩
 case round=>
  obtain⟨j,hj1,hjk,rfl,rfl⟩:=hrel;have h7:j<=7:=by omega
  go_wp2_with fail
  refine(HIS.out _ j HB2.out).mono ?_;rintro e w3⟨rfl,rfl⟩;by_cases hkj:k=j
  . subst hkj
    have hbk:(k==k)=true:=by simp
    rw[hbk];go_wp2_with fail
    refine leaves_cons (f:=79) (args:=#[.pointer (some ⟨w.heap.size,0,none⟩)]) (by simp) (by simp[go_sem]) ?_;refine(aoD ⟨w.heap.size,0,none⟩ _).mono ?_;rintro e u' w''⟨rfl,rfl,rfl⟩;have HF:=HB2.out.setCell (p:=⟨w.heap.size,0,none⟩) nlr (.int .i64 k);simp[Leaves,settle,results,Tryz.results29,go_sem,c2];exact HF
  . have hbk:(k==j)=false:=by simp[hkj]
    rw[hbk];go_wp2_with fail
    go_roundw
    case rel=>exact⟨j+1,by omega,by omega,by go_num,trivial⟩
    case measure=>simp[intOf];omega
abbrev anZ(w w':World)(b:Nat):Prop:=w.heap.size<=b/\b<w'.heap.size
def anX(w:World)(v:Value)(k:Int)(e:Ending)(w':World):Prop:=∃er n,e=.returned (.tuple #[v,er])/\n<=1000/\ErK (anZ w w') w' n er k/\Below w.heap.size w w'
def aoZ(w:World)(k:Int)(e:Ending)(w':World):Prop:=∃er n,e=.returned er/\n<=1000/\ErK (anZ w w') w' n er k/\Below w.heap.size w w'
theorem malformed_any:Calls Tryz.prog 94 #[] w (fun e w'=>e=.returned (.iface 140 (.int .i64 1))/\w'=w):=by
 go_enter Tryz.func94,Tryz.ntmps94
 go_wp2;go_ret;exact⟨rfl,rfl⟩
end Go.Proofs.YtebdolonckjpiaaGreatDoor
namespace Go.Proofs.YtebdolonckjpiaaGreatDoor
theorem aoT{u v e:Rat}(hu:0<=u)(hv:0<=v)(he:0<=e)(h:u*u-v*v<=e*e):u-v<=e:=by
 apply Classical.byContradiction;intro hc;have h1:0<(u-v-e)*(u+v+e):=Rat.mul_pos (by grind) (by grind);have h2:0<=v*e:=Rat.mul_nonneg hv he;grind
theorem aoK{M W P H V T:Int}{a r:Bl}(hP:1<=P)(h:Acc M W a)(hM:M<=2*H)(hV:2*V<=W)(w1:T<=V-1)(w2:T<=P-H-4)(hr:rG a P=some r):Acc (H+2) T r:=by
 unfold rG at hr
 split at hr
 . cases hr
 . rename_i hs
   injection hr with hr;subst hr;obtain⟨k1,k2,k3⟩:=nI a;obtain⟨q,q',q1,q2,q3,q4,q5,q6,-,q8,q9,q10⟩:=aaW (bD a) (-1) hP k1;obtain⟨u,u',u1,u2,u3,u4,u5,-,u7,u8,u9,u10⟩:=aaW a.hi 1 hP (by omega);have hp1:=jZ (show-P<=0 by omega);rw[lI]at hp1;have hH:=bU H;have eH:p2 (2*H)=p2 H*p2 H:=by rw[<-dD];congr 1;omega
   have root_am:∀x y:Rat,0<=x->x*x<=y->y<=p2 M->x<=p2 H:=by
    intro x y h1 h2 h3;have:=jZ hM;have:=aoT (u:=x) (v:=0) (e:=p2 H) h1 Rat.le_refl (by grind) (by grind);grind
   have hlo:rv (bD a)<=p2 M:=by rcases k3 with g|g<;>rw[g]<;>first|exact h.1.2|(have:=bU M;grind)
   have lq:=root_am q _ q1 q3 hlo;have lu:=root_am u _ u1 u3 h.2.1.2;have step:∀x x':Rat,0<=x->x<=p2 H->x'-x<=x*p2 (-P)->x'<=p2 (H+1):=by
    intro x x' h1 h2 h3;have:=Rat.mul_nonneg (a:=x) (b:=1-p2 (-P)) h1 (by grind);rw[iT];grind
   have lq':=step q q' q1 lq q8;have lu':=step u u' u1 lu u8;have hH1:=bU (H+1);have aq:Am (H+1) q:=⟨by grind,by have:=jZ (show H<=H+1 by omega);grind⟩;have aq':Am (H+1) q':=⟨by grind,lq'⟩;have au:Am (H+1) u:=⟨by grind,by have:=jZ (show H<=H+1 by omega);grind⟩;have au':Am (H+1) u':=⟨by grind,lu'⟩;have e2:H+1+1=H+2:=by omega
   have m1:=q9.am hP aq;have m2:=u10.am hP au';rw[e2]at m1 m2;refine⟨m1,m2,?_⟩;show rv (aO a.hi P 1)-rv (aO (bD a) P (-1))<=p2 (-T);have b1:=(q10.bd aq').2;have b2:=(u9.bd au).1;have hw:rv a.hi-rv (bD a)<=p2 (-W):=by have:=h.2.2;grind
   have hV2:=jZ (show-W<=-V+-V by omega);rw[dD]at hV2;have hpV:=bU (-V);have hd:=aoT (u:=u) (v:=q') (e:=p2 (-V)) u1 (by grind) (by grind) (by grind);have g1:=half (a:=-V) (b:=-T) (by omega);have g2:=quarter (a:=H+1+1-P) (b:=-T) (by omega);grind
end Go.Proofs.YtebdolonckjpiaaGreatDoor
namespace Go.Proofs.YtebdolonckjpiaaGreatDoor
open Re (rat)
section
variable{L:List Ex}{P:Int}{a b:Ex}{x y z:Re}{c d:Ct}
theorem Vl.root (hP:1<=P)(h:Vl L P a x c)(h0:0<=y)(hy:y*y=x)(hm:Ex.root a∈L):Vl L P (.root a) y (amS P c):=by
 obtain⟨r,h1,h2,h3,h4⟩:=h.le hP;have:=h.hu;have:=h.hl;have:=h.hs;obtain⟨q,hq,-⟩:=akW hP h3 h0 hy;refine⟨h.den.root h0 hy,h.fin,⟨hm,h.roots⟩,⟨q,by unfold gH;rw[h1];exact hq,?_⟩,?_,?_,by simp only[cK,amS];omega⟩
 . exact aoK (H:=(c.M+1)/2) (V:=c.W/2) hP h2 (by omega) (by omega) (by simp only[amS];omega) (by simp only[amS];omega) hq
 . simp only[uE,amS];split<;>simp only<;>omega
 . simp only[uE,amS];split<;>simp only<;>omega
end
end Go.Proofs.YtebdolonckjpiaaGreatDoor
namespace Go.Proofs.YtebdolonckjpiaaGreatDoor
open Go.RowKit Go.Maps
open Re (rat ofI ofN)
theorem AllGd.root {a:Ex}{K j:Nat}{v:Re}(h:AllGd a)(hG:Gd K j a v):AllGd (.root a):=
 ⟨fun x y s=>by cases s with|root s=>exact h.1 x y s,fun x s=>by cases s with|refl=>exact⟨_,_,_,hG⟩|root s=>exact h.2 x s⟩
section
variable{L:List Ex}{a b:Ex}{x y z:Re}{k m n:Nat}
end
section
variable{L:List Ex}{b:Nat}{x:Int}
end
section
variable{L:List Ex}{s t:Sh}{a b:Ex}{x y z:Re}
theorem Fit.root (h:Fit L s a x)(h0:0<=y)(hy:y*y=x)(hm:Ex.root a∈L):Fit L (.root s) (.root a) y:=fun k=>by
 simp only[Sh.ok,Bool.and_eq_true]at k;have h:=h k.1;exact⟨Vl.root (by omega) h.vl h0 hy hm,by have:=h.cost;simp only[bX,Sh.cost];omega,h.gd.root (h.good k.2)⟩
end
theorem anW{L:List Ex}{k:Int}(n:Nat)(h:k.natAbs<2^n)(hn:n<=53):Fit L (.leaf n 0) (li k) (rat (k:Rat)):=by
 obtain⟨h1,h2,h3⟩:=qM (k:=k) (Nat.lt_of_lt_of_le h (Nat.pow_le_pow_right (by omega) hn));exact Fit.leaf n h1 h2 h3 h
section
variable{L:List Ex}{s t:Sh}{a b:Ex}{p q:Rat}
end
end Go.Proofs.YtebdolonckjpiaaGreatDoor
namespace Go.Proofs.YtebdolonckjpiaaGreatDoor
open Go.RowKit Go.Maps
def numL(g:Nat):List Nat->List Value
 |[]=>[]
 |k::ks=>.pointer (some ⟨g,0,none⟩)::.int .i64 (k:Int)::numL g ks
def RowN(g:Nat)(v:Value)(ids:List Nat)(lr:List (Nat×Obj)):Prop:=
 (ids=[]/\v=.slice none 0 0/\lr=[])\/∃(b c:Nat) (sp:List Value),v=.slice (some ⟨b,0,none⟩) ids.length c/\lr=[(b,.cells (numL g ids++sp).toArray 27)]
section
variable{s:Bs}{g N b c m k:Nat}{K:List (Ex×Nat)}{l lr:List (Nat×Obj)}{W:World}{v:Value}{ids:List Nat}{sp:List Value}
end
section
variable{s:Bs}{g N:Nat}{K:List (Ex×Nat)}{l l':List (Nat×Obj)}{W W':World}{b bb nb:Nat}{o O O':Obj}
theorem Run.keeps (h:Run s g N K l W)(hb:Below W.heap.size W W')(lb:List (Nat×Obj))(ho:∀p∈lb,W'.heap[p.1]? =some p.2/\W.heap.size<=p.1)(hnd:(lb.map (·.1)).Nodup):Run s g N K (lb++l) W':=by
 obtain⟨ns',hs,hK⟩:=h;have h':=hs.below hb;refine⟨ns',⟨h'.grew,fun p hp=> ?_,h'.hw,?_⟩,hK⟩
 . rcases List.mem_append.1 hp with hp|hp
   . obtain⟨q1,q2⟩:=ho p hp
     exact⟨q1,fun hd=>by have:=hs.grew.1.dag.dagB ((DagB.congr (hb.block g hs.grew.1.dag.glt)).1 hd);omega,Nat.le_trans hs.grew.2.2.size q2⟩
   . exact h'.kept p hp
 . rw[List.map_append,List.nodup_append]
   refine⟨hnd,h'.nodup,fun a ha b hb' e=> ?_⟩;obtain⟨p,hp,rfl⟩:=List.mem_map.1 ha;obtain⟨q,hq,rfl⟩:=List.mem_map.1 hb';have:=hs.lt hq;have:=(ho p hp).2;omega
end
end Go.Proofs.YtebdolonckjpiaaGreatDoor
namespace Go.Proofs.YtebdolonckjpiaaGreatDoor
open Go.RowKit Go.Maps Go.Stop Go.Extern
open List renaming getElem?_eq_getElem->ao4,mem_of_getElem?->ao8
open Nat renaming lt_succ_iff_lt_or_eq->ao5,le_trans->ao6
open Option.some renaming inj->ao7,injEq->ao9
variable{a b e e0:Ex}{k kk:Int}{p q x:Nat}
section
variable{P:Ex->Prop}{B N:Nat}{w W:World}{g:Nat}{ns ns':List Nd}{l:List (Nat×Obj)}
end
theorem an6{w:World}{i:Int}(h1:1<=k)(h2:k<=7):
 Calls Tryz.prog 69 #[.int .i64 i,.iface 140 (.int .i64 k)] w (aoZ w k):=by
 have hb:Below w.heap.size w (w.alloc (.cells #[.int .i64 i,.iface 140 (.int .i64 k)] 190)):=Below.alloc (Below.refl _ _) nlr _;have HE:Hid (ErK (anZ w (w.alloc (.cells #[.int .i64 i,.iface 140 (.int .i64 k)] 190))) (w.alloc (.cells #[.int .i64 i,.iface 140 (.int .i64 k)] 190)) (0+1) (.iface 188 (.pointer (some ⟨w.heap.size,0,none⟩))) k):=hdd (.att ⟨Nat.le_refl _,by simp⟩ (by simp) (.kind h1 h2));have HB:=hdd hb;clear h1 h2 hb;go_enter Tryz.func69,Tryz.ntmps69
 go_wp2;go_ret;exact⟨_,_,rfl,by omega,HE.out,HB.out⟩
def Fine(e:Ex):Prop:=(∃v,DenR e v)/\AllGd e
def BadE(e:Ex)(k:Int):Prop:=(∃a b K j,e=.div a b/\k=2/\Fine a/\Fine b/\Gd K j b 0)\/∃a v K j,e=.root a/\k=3/\Fine a/\Gd K j a v/\v<0
theorem BadE.div_in (h:BadE e k)(hs:SubE (.div a b) e):(k=2/\∃K j,Gd K j b 0)\/∃f,Fine f/\SubE (.div a b) f:=by
 rcases h with ⟨a0,b0,K,j,rfl,rfl,ha,hb,hg⟩|⟨a0,v,K,j,rfl,rfl,ha,hg,hv⟩
 . cases hs with
   |refl=>exact Or.inl ⟨rfl,K,j,hg⟩
   |divL h=>exact Or.inr ⟨a0,ha,h⟩
   |divR h=>exact Or.inr ⟨b0,hb,h⟩
 . cases hs with
   |root h=>exact Or.inr ⟨a0,ha,h⟩
theorem BadE.root_in (h:BadE e k)(hs:SubE (.root a) e):(k=3/\∃v K j,Gd K j a v/\v<0)\/∃f,Fine f/\SubE (.root a) f:=by
 rcases h with ⟨a0,b0,K,j,rfl,rfl,ha,hb,hg⟩|⟨a0,v,K,j,rfl,rfl,ha,hg,hv⟩
 . cases hs with
   |divL h=>exact Or.inr ⟨a0,ha,h⟩
   |divR h=>exact Or.inr ⟨b0,hb,h⟩
 . cases hs with
   |refl=>exact Or.inl ⟨rfl,v,K,j,hg,hv⟩
   |root h=>exact Or.inr ⟨a0,ha,h⟩
theorem BadE.op {ns:List Nd}{n:Nd}(h:BadE e k)(hI:Is ns e x)(hn:ns[x]? =some n):n.kind=4\/n.kind=5:=by
 rcases h with ⟨a0,b0,K,j,rfl,-⟩|⟨a0,v,K,j,rfl,-⟩
 . obtain⟨p,q,h,-⟩:=hI;rw[hn]at h;cases h;exact Or.inl rfl
 . obtain⟨p,h,-⟩:=hI;rw[hn]at h;cases h;exact Or.inr rfl
theorem BadE.div_at {ns:List Nd}(h:BadE e k)(hI:Is ns e x)(hn:ns[x]? =some ⟨4,0,(p:Int),(q:Int)⟩):sgT ns q=0:=by
 rcases h with ⟨a0,b0,K,j,rfl,-,-,-,hg⟩|⟨a0,v,K,j,rfl,-⟩
 . obtain⟨p',q',h,-,-,-,h5⟩:=hI
   rw[hn]at h;simp only[ao9,Nd.mk.injEq,true_and]at h;obtain rfl:q=q':=by omega
   rw[yT h5 hg.den,Re.sgn_zero]
 . obtain⟨p',h,-⟩:=hI;rw[hn]at h;simp at h
theorem BadE.root_at {ns:List Nd}(h:BadE e k)(hI:Is ns e x)(hn:ns[x]? =some ⟨5,0,(p:Int),0⟩):sgT ns p<0:=by
 rcases h with ⟨a0,b0,K,j,rfl,-⟩|⟨a0,v,K,j,rfl,-,-,hg,hv⟩
 . obtain⟨p',q',h,-⟩:=hI;rw[hn]at h;simp at h
 . obtain⟨p',h,-,h3⟩:=hI
   rw[hn]at h;simp only[ao9,Nd.mk.injEq,true_and,and_true]at h;obtain rfl:p=p':=by omega
   rw[yT h3 hg.den,Re.sgn_neg hv];decide
theorem BadE.div_case {ns:List Nd}(h:BadE e k)(hs:SubE (.div a b) e)(hi:Is ns b q):GdAt ns q/\(sgT ns q=0/\k=2\/sgT ns q≠0):=by
 rcases h.div_in hs with ⟨hk,K,j,hg⟩|⟨f,⟨⟨v,hf⟩,hg⟩,hs'⟩
 . exact⟨⟨b,K,j,0,hi,hg⟩,Or.inl ⟨by rw[yT hi hg.den,Re.sgn_zero],hk⟩⟩
 . have:=ak8 hf hg hs' hi
   exact⟨this.1,Or.inr this.2⟩
theorem BadE.root_case {ns:List Nd}(h:BadE e k)(hs:SubE (.root a) e)(hi:Is ns a q):GdAt ns q/\(sgT ns q<0/\k=3\/¬sgT ns q<0):=by
 rcases h.root_in hs with ⟨hk,v,K,j,hg,hv⟩|⟨f,⟨⟨v,hf⟩,hg⟩,hs'⟩
 . exact⟨⟨a,K,j,v,hi,hg⟩,Or.inl ⟨by rw[yT hi hg.den,Re.sgn_neg hv];decide,hk⟩⟩
 . have:=ajG hf hg hs' hi
   exact⟨this.1,Or.inr this.2⟩
theorem divzero_any{w:World}:Calls Tryz.prog 127 #[] w (fun e w'=>e=.returned (.iface 140 (.int .i64 2))/\w'=w):=by
 go_enter Tryz.func127,Tryz.ntmps127
 go_wp2;go_ret;exact⟨rfl,rfl⟩
theorem negroot_any{w:World}:Calls Tryz.prog 128 #[] w (fun e w'=>e=.returned (.iface 140 (.int .i64 3))/\w'=w):=by
 go_enter Tryz.func128,Tryz.ntmps128
 go_wp2;go_ret;exact⟨rfl,rfl⟩
theorem ErK.iface {S:Nat->Prop}{w:World}{n:Nat}{v:Value}(h:ErK S w n v k):∃t x,v=.iface t x:=by cases h<;>exact⟨_,_,rfl⟩
theorem an1{w:World}{g root:Nat}{ns:List Nd}(hd:DagP w g ns)(ok:OkNs ns)(hlf:iH ns)(hro:iI ns)(hI:Is ns e0 root)(hbad:BadE e0 kk)(hT:Tab w):
 Calls Tryz.prog 73 #[.pointer (some ⟨g,0,none⟩),.int .i64 (root:Int),.agg #[.bool true,.int .i64 32]] w (anX w (.pointer none) kk):=by
 obtain⟨w1,hw1,hb1,hs1,b1⟩:=pro1 w (.cells #[.bool true,.int .i64 32] 65);obtain⟨c0,c1,-,-⟩:=aC b1;have hr:=hI.lt;obtain⟨nr,hnr⟩:∃n,ns[root]? =some n:=⟨_,ao4 hr⟩;have HB1:=hdd hb1;have HN1:=hdd (fB (hd.below hb1) hnr);have HDW:=hdd hd;have HBAD:=hdd hbad;have HI0:=hdd hI;have HLN:=hdd hd.len;have HNJ:Hid (∀w',Below w.heap.size w w'->Calls Tryz.prog 125 #[.pointer (some ⟨g,0,none⟩),.int .i64 (root:Int),.agg #[.bool true,.int .i64 32]] w' (RetJ w' g root ns)):=hdd fun w' h=>yU (hd.below h) ok hlf hro hr;have HJS:Hid (∀w' j ms l (p:Nat),Below w.heap.size w w'->JG w' j ms g ns l->p∈l->GdAt ns p->Calls Tryz.prog 75 #[.pointer (some ⟨j,0,none⟩),.int .i64 (p:Int)] w' (fun e w''=>e=.returned (.tuple #[.int .i64 (sgT ns p),.nilIface])/\Fr (fun b=>b=ms) w' w''/\JG w'' j ms g ns l)):=hdd fun w' j ms l p h hj hl ⟨a,K,jj,v,hi,hg⟩=>mO hj hl (hd.below h) ok hlf hro hi hg (hT.below h);have HBE:Hid (∀w' b0,Below w.heap.size w w'->w'.heap[b0]? =some (.cells #[.int .i64 (root:Int)] 3 (0,0))->Calls Tryz.prog 126 #[.pointer (some ⟨g,0,none⟩),.slice (some ⟨b0,0,none⟩) 1 1] w' (o6 w' ns root)):=hdd fun w' b0 h hb=>jJ (hd.below h) ok hr hb
 clear hd ok hlf hro hr hb1 b1 hs1 hnr hI hbad hT;have hst:=aX;go_enter Tryz.func73,Tryz.ntmps73
 go_wp2_with fail
 refine HN1.out.mono ?_;rintro e w2⟨rfl,hb2⟩;obtain⟨w3,hw3,z0,z1,z2,z3,y0,y1,y2,y3,w4,hw4,hb4,hs4⟩:=new4 w2 144 (.int .i64 0) (.float .f64 0) (.int .i64 0) (.int .i64 0) (.int .i64 nr.kind) (.float .f64 nr.val) (.int .i64 nr.a) (.int .i64 nr.b);have h14:=aB hb2 hb4;replace c0:=cbl c0 h14;replace c1:=cbl c1 h14;have HB4:=hdd (HB1.out.trans (h14.mono HB1.out.size));clear hb2 hb4 hs4 h14;go_wp2_with fail
 refine(HNJ.out _ HB4.out).mono ?_;rintro e w5⟨hb5,j,ms,l0,rfl,hms,hms5,hI0,hjp⟩;obtain⟨w6,hw6,hb6,hs6,b6⟩:=pro1 w5 (.cells #[.int .i64 (root:Int)] 3);have h46:=aB hb5 hb6;have HB6:=hdd (HB4.out.trans (h46.mono HB4.out.size));have HJ6:=hdd (hjp.below hb6);have HIL:=hdd hI0;have HM6:Hid (ms<w6.heap.size):=hdd (by have:=hb6.size;omega);have HMS:=hdd (ao6 HB4.out.size hms);have HBE6:=hdd (HBE.out w6 _ HB6.out b6);clear hb5 hb6 hs6 b6 h46 hjp hms hms5 hI0 c0 c1 z0 z1 z2 z3 y0 y1 y2 y3 hw3 hw4;go_wp2_with fail
 refine HBE6.out.mono ?_;rintro e w7⟨hb7,v7,l,rfl,hl,hI⟩;obtain⟨bl,cl,rfl,hlc,hcm,-⟩:=id hl;have HL:=hdd hl;have HI:=hdd hI;have HB7:=hdd (HB6.out.trans (hb7.mono HB6.out.size));have HJ7:=hdd (HJ6.out.below hb7);have HMS7:Hid (w.heap.size<=ms):=HMS;have HLL:=hdd (mJ hI HLN.out);clear hb7 hl hI hlc hcm hw6;go_wp2_with fail
 go_loopw [37] (fun i wr=>∃k:Nat,k<=l.length/\i=.int .i64 (k:Int)/\Hid (Fr (fun b=>b=ms) w7 wr)/\Hid (JG wr j ms g ns l0)/\Hid (∀i<k,l[i]? ≠some root)) (fun i _=>((l.length:Int)-intOf i).toNat)
 case atStart=>exact⟨0,Nat.zero_le _,rfl,hdd (Fr.of_below (Below.refl _ _)),HJ7,hdd (fun i h=>absurd h (Nat.not_lt_zero _))⟩
 case round=>
  obtain⟨k,hk,rfl,HF,HJR,HNO⟩:=hrel;have HBR:Hid (Below w.heap.size w wr):=hdd (HB7.out.trans (HF.out.below HB7.out.size (fun b hb=>by have:=HMS.out;omega)));rcases Nat.lt_or_ge k l.length with hlt|hge
  . obtain⟨x,hx⟩:∃x,l[k]? =some x:=⟨_,ao4 hlt⟩
    have hxl:x<ns.length:=HI.out.lt x (ao8 hx);obtain⟨n,hn⟩:∃n,ns[x]? =some n:=⟨_,ao4 hxl⟩;have cx:=(HL.out.fr HF.out (fun b hb=>by have:=HM6.out;omega)).cell hx;have HN:=hdd (fB (HDW.out.below HBR.out) hn);have hkI:(k:Int)<(l.length:Int):=by omega
    have hk0:(0:Int)<=(k:Int):=by omega
    have hlI:(l.length:Int)<=20000:=by have:=HLL.out;omega
    have HKL:=hdd hlt;have hx0:x∈l0:=ak9 HI.out HIL.out x (ao8 hx);have hkc:=acQ (yS HIL.out HI0.out x hx0) hn;have HCL:Hid (∀o∈opsN n,∃y∈l0,(y:Int)=o):=hdd (HIL.out.cl x hx0 n hn);have HXX:=hdd hx;have HNX:=hdd hn;clear hx hn hxl hlt hx0;rcases hkc with ⟨hk4,hk5⟩|⟨a,b,p,q,rfl,hs,hi⟩|⟨a,p,rfl,hs,hi⟩
    . have HNO2:Hid (∀i<k+1,l[i]? ≠some root):=hdd fun i hi he=>by
       rcases ao5.1 hi with h|rfl
       . exact HNO.out i h he
       . rw[HXX.out]at he
         obtain rfl:=ao7 he;exact(HBAD.out.op HI0.out HNX.out).elim hk4 hk5
      go_wp2_with fail
      refine HN.out.mono ?_;rintro e w8⟨rfl,hb8⟩;obtain⟨w9,hw9,z0,z1,z2,z3,y0,y1,y2,y3,wa,hwa,hba,hsa⟩:=new4 w8 144 (.int .i64 0) (.float .f64 0) (.int .i64 0) (.int .i64 0) (.int .i64 n.kind) (.float .f64 n.val) (.int .i64 n.a) (.int .i64 n.b);obtain⟨x0,x1,x2,x3⟩:=aU hsa;have HFa:=hdd (HF.out.trans (Fr.of_below (aB hb8 hba)));have HJa:=hdd (HJR.out.below (aB hb8 hba));clear hb8 hba hsa cx;go_wp2_with fail
      go_roundw
      case rel=>exact⟨k+1,by have:=HKL.out;omega,by go_num,HFa,HJa,HNO2⟩
      case measure=>have:=HKL.out;simp[intOf];omega
    . obtain⟨hga,hcs⟩:=HBAD.out.div_case hs hi
      have hq0:q∈l0:=by
       obtain⟨y,hy,e⟩:=HCL.out (q:Int) (by simp[opsN]);have:y=q:=by omega
       rw[<-this];exact hy
      have HGA:=hdd hga;have HQ0:=hdd hq0;clear hga hq0 hs hi;dsimp only at HN;go_wp2_with fail
      refine HN.out.mono ?_;rintro e w8⟨rfl,hb8⟩;obtain⟨w9,hw9,z0,z1,z2,z3,y0,y1,y2,y3,wa,hwa,hba,hsa⟩:=new4 w8 144 (.int .i64 0) (.float .f64 0) (.int .i64 0) (.int .i64 0) (.int .i64 4) (.float .f64 0) (.int .i64 (p:Int)) (.int .i64 (q:Int));obtain⟨x0,x1,x2,x3⟩:=aU hsa;have HFa:=hdd (HF.out.trans (Fr.of_below (aB hb8 hba)));have HJa:=hdd (HJR.out.below (aB hb8 hba));have HBa:=hdd (HBR.out.trans ((aB hb8 hba).mono HBR.out.size));clear hb8 hba hsa cx;go_wp2_with fail
      refine(HJS.out _ _ _ _ q HBa.out HJa.out HQ0.out HGA.out).mono ?_;rintro e wb⟨rfl,hfb,hjb⟩;have HFb:=hdd (HFa.out.trans hfb);have HJb:=hdd hjb;clear hfb hjb x0 x1 x2 x3 z0 z1 z2 z3 y0 y1 y2 y3 hw9 hwa;have HNO2:sgT ns q≠0->Hid (∀i<k+1,l[i]? ≠some root):=fun hsg=>hdd fun i hi he=>by
       rcases ao5.1 hi with h|rfl
       . exact HNO.out i h he
       . rw[HXX.out]at he
         obtain rfl:=ao7 he;exact hsg (HBAD.out.div_at HI0.out HNX.out)
      generalize sgT ns q=S at*;rcases hcs with ⟨rfl,rfl⟩|hsg
      . have HBb:Hid (Below w.heap.size w wb):=hdd (HB7.out.trans (HFb.out.below HB7.out.size (fun b hb=>by have:=HMS.out;omega)))
        clear HNO2 HFb HJb;go_wp2_with fail
        refine divzero_any.mono ?_;rintro e wc⟨rfl,rfl⟩;go_wp2_with fail
        refine(an6 (by omega) (by omega)).mono ?_;rintro e wd⟨er,n,rfl,hn,he,hb4⟩;have HE:=hdd (And.intro hn (he.mono (T:=anZ w wd) fun b hb _=>⟨ao6 HBb.out.size hb.1,hb.2⟩));have HBd:=hdd (aB HBb.out hb4);clear hn he hb4;go_wp2
        go_ret2
        exact⟨_,_,rfl,HE.out.1,HE.out.2,HBd.out⟩
      . have HNO3:=HNO2 (by omega)
        clear HNO2;go_wp2_with fail
        go_roundw
        case rel=>exact⟨k+1,by have:=HKL.out;omega,by go_num,HFb,HJb,HNO3⟩
        case measure=>have:=HKL.out;simp[intOf];omega
    . obtain⟨hga,hcs⟩:=HBAD.out.root_case hs hi
      have hq0:p∈l0:=by
       obtain⟨y,hy,e⟩:=HCL.out (p:Int) (by simp[opsN]);have:y=p:=by omega
       rw[<-this];exact hy
      have HGA:=hdd hga;have HQ0:=hdd hq0;clear hga hq0 hs hi;dsimp only at HN;go_wp2_with fail
      refine HN.out.mono ?_;rintro e w8⟨rfl,hb8⟩;obtain⟨w9,hw9,z0,z1,z2,z3,y0,y1,y2,y3,wa,hwa,hba,hsa⟩:=new4 w8 144 (.int .i64 0) (.float .f64 0) (.int .i64 0) (.int .i64 0) (.int .i64 5) (.float .f64 0) (.int .i64 (p:Int)) (.int .i64 0);obtain⟨x0,x1,x2,x3⟩:=aU hsa;have HFa:=hdd (HF.out.trans (Fr.of_below (aB hb8 hba)));have HJa:=hdd (HJR.out.below (aB hb8 hba));have HBa:=hdd (HBR.out.trans ((aB hb8 hba).mono HBR.out.size));clear hb8 hba hsa cx;go_wp2_with fail
      refine(HJS.out _ _ _ _ p HBa.out HJa.out HQ0.out HGA.out).mono ?_;rintro e wb⟨rfl,hfb,hjb⟩;have HFb:=hdd (HFa.out.trans hfb);have HJb:=hdd hjb;clear hfb hjb x0 x1 x2 x3 z0 z1 z2 z3 y0 y1 y2 y3 hw9 hwa;have HNO2:¬sgT ns p<0->Hid (∀i<k+1,l[i]? ≠some root):=fun hsg=>hdd fun i hi he=>by
       rcases ao5.1 hi with h|rfl
       . exact HNO.out i h he
       . rw[HXX.out]at he
         obtain rfl:=ao7 he;exact hsg (HBAD.out.root_at HI0.out HNX.out)
      generalize sgT ns p=S at*;rcases hcs with ⟨hneg,rfl⟩|hsg
      . have HBb:Hid (Below w.heap.size w wb):=hdd (HB7.out.trans (HFb.out.below HB7.out.size (fun b hb=>by have:=HMS.out;omega)))
        clear HNO2 HFb HJb;go_wp2_with fail
        refine negroot_any.mono ?_;rintro e wc⟨rfl,rfl⟩;go_wp2_with fail
        refine(an6 (by omega) (by omega)).mono ?_;rintro e wd⟨er,n,rfl,hn,he,hb4⟩;have HE:=hdd (And.intro hn (he.mono (T:=anZ w wd) fun b hb _=>⟨ao6 HBb.out.size hb.1,hb.2⟩));have HBd:=hdd (aB HBb.out hb4);clear hn he hb4;go_wp2
        go_ret2
        exact⟨_,_,rfl,HE.out.1,HE.out.2,HBd.out⟩
      . have HNO3:=HNO2 (by omega)
        clear HNO2;go_wp2_with fail
        go_roundw
        case rel=>exact⟨k+1,by have:=HKL.out;omega,by go_num,HFb,HJb,HNO3⟩
        case measure=>have:=HKL.out;simp[intOf];omega
  . have hke:k=l.length:=by omega
    subst hke;obtain⟨i,hi⟩:=List.mem_iff_getElem?.1 HI.out.rt;exact absurd hi (HNO.out i (List.getElem?_eq_some_iff.1 hi).1)
theorem an7{w:World}{g root:Nat}{ns:List Nd}(hd:DagP w g ns)(ok:OkNs ns)(hlf:iH ns)(hro:iI ns)(hI:Is ns e0 root)(hbad:BadE e0 kk)(hT:Tab w):
 Calls Tryz.prog 27 #[.pointer (some ⟨g,0,none⟩),.int .i64 (root:Int),.slice none 0 0] w (anX w (.int .i64 0) kk):=by
 have HEX:Hid (∀w',Below w.heap.size w w'->Calls Tryz.prog 73 #[.pointer (some ⟨g,0,none⟩),.int .i64 (root:Int),.agg #[.bool true,.int .i64 32]] w' (anX w' (.pointer none) kk)):=hdd fun w' h=>an1 (hd.below h) ok hlf hro hI hbad (hT.below h);clear hd ok hlf hro hI hbad hT;go_enter Tryz.func27,Tryz.ntmps27
 go_wp2_with fail
 refine chosen_any.mono ?_;rintro e w1⟨rfl,hb1⟩;have HB1:=hdd hb1;clear hb1;go_wp2_with fail
 refine(HEX.out _ HB1.out).mono ?_;rintro e w2⟨er,n,rfl,hn,he,hb2⟩;obtain⟨vt,vx,rfl⟩:=he.iface;have HE:=hdd (And.intro hn (he.mono (T:=anZ w w2) fun b hb _=>⟨ao6 HB1.out.size hb.1,hb.2⟩));have HB2:=hdd (aB HB1.out hb2);clear hn he hb2 HEX;go_wp2
 go_ret2
 exact⟨_,_,rfl,HE.out.1,HE.out.2,HB2.out⟩
end Go.Proofs.YtebdolonckjpiaaGreatDoor
