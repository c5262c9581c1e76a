/- A part of the proof: contracts of functions and plain laws (EX0, LawK, LawT, FeB, FnA, FlA, FlB, FlC, FlD, FlE, FlF, FlG, CkA, CkB, LiA, QlL, NrL, NrM, OpA, TwD). -/
import Derived.Test.YtjdgaogkioabeabGreatDoorK29
import Derived.Test.YtjdgaogkioabeabGreatDoorRows
import Derived.Test.YtjdgaogkioabeabGreatDoorK25
import Derived.ProofKit
import Derived.OpenShut
import Derived.LaidMore
import Derived.Lay
import Derived.Lib.LaidTab
import Derived.Stop.Joined
import Derived.Test.YtjdgaogkioabeabGreatDoorK30
import Derived.Test.YtjdgaogkioabeabGreatDoorK10
import Derived.Test.YtjdgaogkioabeabGreatDoorK22
import Derived.LaidEql
import Derived.Lib.IfaceEq
import Derived.Stop.Asserts
import Derived.Recover
import Derived.Defers
import Derived.Test.YtjdgaogkioabeabGreatDoorK27
import Derived.Test.YtjdgaogkioabeabGreatDoorK32
import Derived.IntWalk
set_option linter.unusedVariables false
set_option linter.unusedSimpArgs false
set_option maxHeartbeats 25600000
set_option maxRecDepth 100000
namespace Go.Proofs.YtjdgaogkioabeabGreatDoor
section
open Go.RowKit Go.Maps
open Re (rat ofI ofN)
section
variable{L:List Ex}{a b:Ex}{x y z:Re}{k m n:Nat}
end
theorem akX{b:Nat}{x:Int}(hv:fv b=x*(U74:Int)):leafD b=mkDy x 0:=by
 obtain⟨u,hu,hU⟩:=iK;unfold leafD;rw[hv,hU];have:=aeU x 0 u;rw[show(0:Int)-u=-1074 by omega]at this;exact this
theorem al1(x:Int):rv (mkDy x 0)=(x:Rat):=by rw[jW,kK,Rat.mul_one]
section
variable{L:List Ex}{b:Nat}{x:Int}
end
end
section
open Go.ChangeShapes Go.WideShapes Go.ChangeAt Go.RowKit
open Go.MakeChecks renaming laidMetH_plain->al9
variable{W:World}
def alZ : List (String × DataW Unit) := [("math/bits.deBruijn64tab", Rows.laid_math_bits_deBruijn64tab)]
theorem alV:ownKnob Tryz.prog.godebug=none:=by kernel_rfl
theorem akY : Tryz.prog.globalNamed "math/bits.deBruijn64tab" = some 0 := by kernel_rfl
theorem alL:(Tryz.prog.globals[0]?).map (·.type)=some 194:=by kernel_rfl
theorem alW:Tryz.prog.underlying 194=some (.array 64 5):=by kernel_rfl
theorem al2:Tryz.prog.underlying 5=some (.int .u8):=by kernel_rfl
theorem alM:Tryz.prog.cellsOf 5=1:=by kernel_rfl
theorem alB:Tryz.prog.cellsOf 194=64:=by kernel_rfl
def tabZ:List Int:=Lib.deBruijn64tab.map fun(x:Nat)=>(x:Int)
theorem alX : alZ = [("math/bits.deBruijn64tab", Lib.tabData .u8 tabZ)] := by kernel_rfl
theorem ak3(h:laidMetH Tryz.prog alZ W):Tab W:=by
 rw[al9 _ _ _ (by kernel_rfl),alX]at h;have hT:=Lib.tabIs_of_head akY alL alW al2 alM alB h;intro j hj;have hl:tabZ.length=Lib.deBruijn64tab.length:=by simp[tabZ]
 have:=hT.cell akY j (by omega);rw[this];have e:tabZ.getD j 0=((Lib.deBruijn64tab.getD j 0:Nat):Int):=by
  simp only[tabZ,List.getD_eq_getElem?_getD,List.getElem?_map];rw[List.getElem?_eq_getElem hj];rfl
 rw[e]
theorem al3(h:Tab W):0<W.heap.size:=World.block_lt_of_cell? W _ (h 0 (by decide))
section
variable{H:Type}{enc:TypeId×Value->H}
theorem alC{f:Func}{s:ChangeSpec}{W':World}{args:Array Value}{ds:List (DataW H)}{before:List MemPlace}
 (hW:DataW.Whole enc Tryz.prog f.params.toList s.vars false W args.toList ds [] before) (hv:s.vars=[]) (hr:f.resultTypes=#[4]) (hs:s.fn H (ds++[])={results:=[.lit (.bool true)],args:=ds})
 (hargs:∀sp:Nat->Bool,(∀p∈before,sp p.block=true)->DataW.TrodAll enc Tryz.prog W' 0 sp true f.params.toList args.toList ds before) (hb:Below W.heap.size W W'):
 s.post enc Tryz.prog f false true false false W args (.bool true) W':=by
 have hlt:∀p∈before,p.block<W.heap.size:=fun p hp=>hW.lt p hp;have hold:∀p∈before,(fun b=>decide (b<W.heap.size)) p.block=true:=fun p hp=>by simpa using hlt p hp
 have hres:∀(b:Nat) (sp:Nat->Bool) (hd:Bool),DataW.TrodAll enc Tryz.prog W' b sp hd f.resultTypes.toList ((Value.bool true).resultList f.resultTypes.size) [.lit (.bool true)] []:=by
  intro b sp hd;rw[hr];exact trodAll_cons_mk (shut_bool Tryz.underlying4 _) trodAll_mk0
 have hvars:∀sp:Nat->Bool,DataW.TrodVars enc Tryz.prog W' sp s.vars [] []:=fun sp=>by rw[hv];rfl
 refine⟨ds,[],before,[],before,[],hW,?_,?_,?_,?_,fun h=>by cases h⟩
 . rw[hs];exact hres _ _ _
 . rw[hs];exact hargs _ hold
 . rw[hs];exact hvars _
 . refine World.keptBut_mono (fun p hp=> ?_) (hb.frame (· ∈before))
   exact⟨hp,by simpa using hp⟩
end
def akU : List (String × DataW Unit) := [("math/bits.deBruijn32tab", Rows.laid_math_bits_deBruijn32tab), ("math/bits.deBruijn64tab", Rows.laid_math_bits_deBruijn64tab), ("internal/strconv.uint64pow10", Rows.laid_internal_strconv_uint64pow10)]
theorem ak0{P:Program}{x:String×DataW Unit}{r:List (String×DataW Unit)}(h:laidMet P (x::r) W):laidMet P r W:=by
 obtain⟨ps,⟨g,t,cs,fuel,p,q,h1,h2,h3,h4,h5,rfl⟩,hn,hr⟩:=h;exact⟨q,h5,(List.nodup_append.1 hn).2.1,fun b off hm=>hr b off (List.mem_append_right _ hm)⟩
theorem ak4{P:Program}{x:String×DataW Unit}{r:List (String×DataW Unit)}(h:laidMet P (x::r) W):laidMet P [x] W:=by
 obtain⟨ps,⟨g,t,cs,fuel,p,q,h1,h2,h3,h4,h5,rfl⟩,hn,hr⟩:=h;refine⟨MemPlace.row ⟨g,0,none⟩ cs.size++p++[],⟨g,t,cs,fuel,p,[],h1,h2,h3,h4,rfl,rfl⟩,?_,fun b off hm=>hr b off ?_⟩
 . rw[List.append_nil];exact(List.nodup_append.1 hn).1
 . rw[List.append_nil]at hm;exact List.mem_append_left _ hm
theorem ak1(h:laidMetH Tryz.prog akU W):Tab W:=by
 rw[al9 _ _ _ (by kernel_rfl)]at h;refine ak3 ?_;rw[al9 _ _ _ (by kernel_rfl)];exact ak4 (ak0 h)
end
section
open Ieee
open Re (rat ofI ofN)

end
section
open Go.RowKit Go.Maps
section
variable{f:FuncId}{g d:Nat}{av:Array Value}{K0:List (Ex×Nat)}{V:List Nat->Value}{es:List Ex}
end
section
variable{S:Spec Ex}{w0:Bs}{g c0 i d:Nat}{f:FuncId}{args:(Nat->Nat)->Array Value}{ix ts:List Nat}{V:List Nat->Value}{es:List Ex}
end
end
section
open Go.RowKit Go.Maps Go.Stop Go.Extern
open Go.Instr renaming typeAssert->amA
open Go.World renaming cell?_of_block->amB,cell?_setCell_same->amC
variable{j k:Int}{b n:Nat}{S T:Nat->Prop}{v:Value}{w w':World}
inductive ErK(S:Nat->Prop)(w:World):Nat->Value->Int->Prop
 |kind {k:Int}:1<=k->k<=7->ErK S w 0 (.iface 81 (.int .i64 k)) k
 |inn {n b:Nat} {v:Value} {k:Int}:S b->w.cell? ⟨b,1,none⟩=some v->ErK S w n v k->ErK S w (n+1) (.iface 132 (.pointer (some ⟨b,0,none⟩))) k
 |att {n b:Nat} {v:Value} {k:Int}:S b->w.cell? ⟨b,1,none⟩=some v->ErK S w n v k->ErK S w (n+1) (.iface 235 (.pointer (some ⟨b,0,none⟩))) k
theorem ErK.block (h:w.cell? ⟨b,1,none⟩=some v):b<w.heap.size:=World.block_lt_of_cell? w _ h
theorem ErK.keep (h:ErK S w n v k)(hb:∀b,S b->b<w.heap.size->w'.cell? ⟨b,1,none⟩=w.cell? ⟨b,1,none⟩):ErK S w' n v k:=by
 induction h with
 |kind h1 h2=>exact .kind h1 h2
 |inn h0 h1 _ ih=>exact .inn h0 ((hb _ h0 (ErK.block h1)).trans h1) ih
 |att h0 h1 _ ih=>exact .att h0 ((hb _ h0 (ErK.block h1)).trans h1) ih
theorem ErK.mono (h:ErK S w n v k)(hb:∀b,S b->b<w.heap.size->T b):ErK T w n v k:=by
 induction h with
 |kind h1 h2=>exact .kind h1 h2
 |inn h0 h1 _ ih=>exact .inn (hb _ h0 (ErK.block h1)) h1 ih
 |att h0 h1 _ ih=>exact .att (hb _ h0 (ErK.block h1)) h1 ih
theorem ErK.low (h:ErK S w n v k)(hb:Below w.heap.size w w'):ErK S w' n v k:=
 h.keep fun _ _ hl=>amB (hb.block _ hl)
theorem ErK.bound (h:ErK S w n v k):1<=k/\k<=7:=by
 induction h with
 |kind h1 h2=>exact⟨h1,h2⟩
 |inn _ _ _ ih=>exact ih
 |att _ _ _ ih=>exact ih
theorem ErK.det (h:ErK S w n v k):∀{m:Nat} {j:Int},ErK T w m v j->n=m:=by
 induction h with
 |kind h1 h2=>intro m j h;cases h;rfl
 |inn _ h1 _ ih=>
  intro m j h;cases h with
  |inn _ g1 g2=>rw[h1]at g1;cases g1;rw[ih g2]
 |att _ h1 _ ih=>
  intro m j h;cases h with
  |att _ g1 g2=>rw[h1]at g1;cases g1;rw[ih g2]
noncomputable def edep(w:World)(v:Value):Nat:=by
 classical
 exact if h:∃n k,ErK (fun _=>True) w n v k then Classical.choose h else 0
theorem ErK.edep (h:ErK S w n v k):edep w v=n:=by
 unfold Go.Proofs.YtjdgaogkioabeabGreatDoor.edep;have hx:∃n k,ErK (fun _=>True) w n v k:=⟨n,k,h.mono fun _ _ _=>trivial⟩;rw[dif_pos hx];obtain⟨j,hj⟩:=Classical.choose_spec hx;exact hj.det h
theorem ak5(h:w.cell? ⟨b,1,none⟩=some v):
 Calls Tryz.prog 269 #[.pointer (some ⟨b,0,none⟩)] w (fun e w'=>e=.returned v/\w'=w):=by
 go_enter Tryz.func269,Tryz.ntmps269
 go_wp2;go_ret;exact⟨rfl,rfl⟩
theorem ak6(h:w.cell? ⟨b,1,none⟩=some v):
 Calls Tryz.prog 284 #[.pointer (some ⟨b,0,none⟩)] w (fun e w'=>e=.returned v/\w'=w):=by
 go_enter Tryz.func284,Tryz.ntmps284
 go_wp2;go_ret;exact⟨rfl,rfl⟩
theorem akR(v:Value)(xT:TypeId)(w:World):(amA (.iface 81 v) xT 164 true).run Tryz.prog w=.ok (.tuple #[.nilIface,.bool false]) w:=run_typeAssert_lacksB Tryz.underlying164 (by kernel_rfl) (by kernel_rfl) v xT w
theorem akO(v:Value)(xT:TypeId)(w:World):(amA (.iface 81 v) xT 165 true).run Tryz.prog w=.ok (.tuple #[.nilIface,.bool false]) w:=run_typeAssert_lacksB Tryz.underlying165 (by kernel_rfl) (by kernel_rfl) v xT w
theorem alN(v:Value)(xT:TypeId)(w:World):(amA (.iface 81 v) xT 171 true).run Tryz.prog w=.ok (.tuple #[.nilIface,.bool false]) w:=run_typeAssert_lacksB Tryz.underlying171 (by kernel_rfl) (by kernel_rfl) v xT w
theorem akS(v:Value)(xT:TypeId)(w:World):(amA (.iface 132 v) xT 164 true).run Tryz.prog w=.ok (.tuple #[.iface 132 v,.bool true]) w:=run_typeAssert_hasB Tryz.underlying164 (by kernel_rfl) v xT w
theorem al4(v:Value)(xT:TypeId)(w:World):(amA (.iface 132 v) xT 171 true).run Tryz.prog w=.ok (.tuple #[.nilIface,.bool false]) w:=run_typeAssert_lacksB Tryz.underlying171 (by kernel_rfl) (by kernel_rfl) v xT w
theorem akT(v:Value)(xT:TypeId)(w:World):(amA (.iface 235 v) xT 164 true).run Tryz.prog w=.ok (.tuple #[.iface 235 v,.bool true]) w:=run_typeAssert_hasB Tryz.underlying164 (by kernel_rfl) v xT w
theorem al5(v:Value)(xT:TypeId)(w:World):(amA (.iface 235 v) xT 171 true).run Tryz.prog w=.ok (.tuple #[.nilIface,.bool false]) w:=run_typeAssert_lacksB Tryz.underlying171 (by kernel_rfl) (by kernel_rfl) v xT w
theorem akM (v : Value) (w : World) : (Go.method 335 132 v "Unwrap").run Tryz.prog w = .ok (269, v) w := by kernel_rfl
theorem akN (v : Value) (w : World) : (Go.method 335 235 v "Unwrap").run Tryz.prog w = .ok (284, v) w := by kernel_rfl
theorem alD{s:Nat}{c:Int}(h:ErK S w n v k)(hc:w.cell? ⟨s,0,none⟩=some (.int .i64 c))(hz:w.frozen? ⟨s,0,none⟩=false)(hc0:0<=c)(hcn:c+n<16777216)(hs:∀b,(∃v,w.cell? ⟨b,1,none⟩=some v)->b≠s):
 Calls Tryz.prog 76 #[v,.int .i64 0,.pointer (some ⟨s,0,none⟩)] w (fun e w'=>e=.returned (.bool false)/\Fr (fun b=>b=s) w w'):=by
 have HS:=hdd hs;have nK:=akR;have nKs:=akO;have uI:=akS;have uA:=akT;have mI:=akM;have mA:=akN;have HH:=hdd h;have HC:=hdd hc;have HZ:=hdd hz;clear hs h hc hz;go_enter Tryz.func76,Tryz.ntmps76
 go_wp2_with fail
 go_loopw [0] (fun v' wr=>∃n':Nat,n'<=n/\Hid (ErK S w n' v' k)/\Hid (Fr (fun b=>b=s) w wr)/\Hid (wr.cell? ⟨s,0,none⟩=some (.int .i64 (c+(n-n':Nat))))/\Hid (wr.frozen? ⟨s,0,none⟩=false)) (fun v' _=>edep w v')
 case atStart=>exact⟨n,Nat.le_refl _,HH,hdd (Fr.of_below (Below.refl _ _)),hdd (by rw[Nat.sub_self];simpa using HC.out),HZ⟩
 case round=>
  obtain⟨n',hn',HE,HF,HCC,HZZ⟩:=hrel;have cs:=HCC.out;have fs:=HZZ.out;have hle:¬(c+((n-n':Nat):Int)+1>16777216):=by omega
  have hE:=HE.out;clear HE
  cases hE with
  |kind h1 h2=>
   go_wp2_with fail
   go_ret;exact⟨rfl,Fr.setCell HF.out rfl _⟩
  |@inn n1 b v1 k h0 h1 h2=>
   have HE2:=hdd h2;have HED:Hid (edep w (.iface 132 (.pointer (some ⟨b,0,none⟩)))=n1+1/\edep w v1=n1):=hdd ⟨(ErK.inn h0 h1 h2).edep,h2.edep⟩;have hbs:b≠s:=HS.out b ⟨_,h1⟩;have h1r:wr.cell? ⟨b,1,none⟩=some v1:=(amB (HF.out.block b (ErK.block h1) (fun h=>hbs h))).trans h1;have HU:Hid (∀u,Calls Tryz.prog 269 #[.pointer (some ⟨b,0,none⟩)] (wr.setCell ⟨s,0,none⟩ u) (fun e w''=>e=.returned v1/\w''=wr.setCell ⟨s,0,none⟩ u)):=hdd fun u=>ak5 ((amB (Below.heap_setCell wr _ u b hbs)).trans h1r);clear h0 h1 h2 h1r hbs;go_wp2_with fail
   refine(HU.out _).mono ?_;rintro e w2⟨rfl,rfl⟩;go_wp2_with fail
   go_roundw
   case rel=>
    refine⟨n1,by omega,HE2,hdd (Fr.setCell HF.out rfl _),hdd ?_,hdd (by simp[fs])⟩;have:((n-n1:Nat):Int)=((n-(n1+1):Nat):Int)+1:=by omega
    rw[this,<-Int.add_assoc];exact amC _ _ _ cs
   case measure=>have:=HED.out;simp[this]
  |@att n1 b v1 k h0 h1 h2=>
   have HE2:=hdd h2;have HED:Hid (edep w (.iface 235 (.pointer (some ⟨b,0,none⟩)))=n1+1/\edep w v1=n1):=hdd ⟨(ErK.att h0 h1 h2).edep,h2.edep⟩;have hbs:b≠s:=HS.out b ⟨_,h1⟩;have h1r:wr.cell? ⟨b,1,none⟩=some v1:=(amB (HF.out.block b (ErK.block h1) (fun h=>hbs h))).trans h1;have HU:Hid (∀u,Calls Tryz.prog 284 #[.pointer (some ⟨b,0,none⟩)] (wr.setCell ⟨s,0,none⟩ u) (fun e w''=>e=.returned v1/\w''=wr.setCell ⟨s,0,none⟩ u)):=hdd fun u=>ak6 ((amB (Below.heap_setCell wr _ u b hbs)).trans h1r);clear h0 h1 h2 h1r hbs;go_wp2_with fail
   refine(HU.out _).mono ?_;rintro e w2⟨rfl,rfl⟩;go_wp2_with fail
   go_roundw
   case rel=>
    refine⟨n1,by omega,HE2,hdd (Fr.setCell HF.out rfl _),hdd ?_,hdd (by simp[fs])⟩;have:((n-n1:Nat):Int)=((n-(n1+1):Nat):Int)+1:=by omega
    rw[this,<-Int.add_assoc];exact amC _ _ _ cs
   case measure=>have:=HED.out;simp[this]
theorem ak7(h:ErK S w n v k)(hn:n<16777216):
 Calls Tryz.prog 43 #[v] w (fun e w'=>e=.returned (.bool false)/\Below w.heap.size w w'):=by
 have hb1:Below w.heap.size w (w.alloc (.cells #[.int .i64 0] 3)):=Below.alloc (Below.refl _ _) nlr _;have h1:=h.low hb1;have HL:=hdd (alD (s:=w.heap.size) (c:=0) h1 (by simp) (by simp) (by omega) (by omega) (fun b hb=>by
  obtain⟨v',hv'⟩:=hb;intro hbs;subst hbs;simp at hv'))
 have HB:=hdd hb1;clear h h1 hb1;go_enter Tryz.func43,Tryz.ntmps43
 go_wp2_with fail
 refine HL.out.mono ?_;rintro e w2⟨rfl,hf⟩;have HB2:Hid (Below w.heap.size w w2):=hdd (HB.out.trans (hf.below HB.out.size (fun i hi=>by omega)));go_wp2_with fail
 go_ret;exact⟨rfl,HB2.out⟩
theorem alO(v:Value)(w:World):(Extern.ReflectliteType.typeOf #[.iface 81 v]).run Tryz.prog w=.ok (.iface 169 (.agg #[.pointer (some ⟨7,81,none⟩)])) w:=by kernel_rfl
def cmpX (args : Array Value) : Sem Value := Extern.ReflectliteType.method (fun t => do Extern.Rtype.noPackHeld "Comparable" t; pure (.bool (← typeInfo t).comparable)) args
theorem ak2(w:World):(cmpX #[.agg #[.pointer (some ⟨7,81,none⟩)]]).run Tryz.prog w=.ok (.bool true) w:=by kernel_rfl
theorem akP (v : Value) (w : World) : (Go.method 335 169 v "Comparable").run Tryz.prog w = .ok (274, v) w := by kernel_rfl
theorem alY(a b:Int)(w:World):(binOp .eql 33 (.iface 81 (.int .i64 a)) (.iface 81 (.int .i64 b))).run Tryz.prog w=.ok (.bool (a==b)) w:=
 Lib.run_eql_iface_int w a b Tryz.underlying33 (by kernel_rfl) Tryz.underlying81
theorem alP(h:ErK S w n v k):
 Calls Tryz.prog 78 #[v,.iface 81 (.int .i64 j),.bool true] w (fun e w'=>e=.returned (.bool (k==j))/\w'=w):=by
 have nK:=akR;have nKs:=akO;have iK:=alN;have iI:=al4;have iA:=al5;have uI:=akS;have uA:=akT;have mI:=akM;have mA:=akN;have eq:=alY;have eI:∀(p x:Value) (w:World),(binOp .eql 33 (.iface 132 p) (.iface 81 x)).run Tryz.prog w=.ok (.bool false) w:=fun p x w=>run_eql_iface_types (P:=Tryz.prog) _ _ p x Tryz.underlying33 (by decide) w;have eA:∀(p x:Value) (w:World),(binOp .eql 33 (.iface 235 p) (.iface 81 x)).run Tryz.prog w=.ok (.bool false) w:=fun p x w=>run_eql_iface_types (P:=Tryz.prog) _ _ p x Tryz.underlying33 (by decide) w;have HH:=hdd h;clear h;go_enter Tryz.func78,Tryz.ntmps78
 go_wp2_with fail
 go_loopw [0] (fun v' wr=>∃n':Nat,n'<=n/\Hid (ErK S w n' v' k)/\wr=w) (fun v' _=>edep w v')
 case atStart=>exact⟨n,Nat.le_refl _,HH,rfl⟩
 case round=>
  obtain⟨n',hn',HE,rfl⟩:=hrel;have hE:=HE.out;clear HE
  cases hE with
  |kind h1 h2=>
   go_wp2_with fail
   all_goals go_ret
   all_goals exact⟨by simp_all,rfl⟩
  |@inn n1 b v1 k h0 h1 h2=>
   have HE2:=hdd h2;have HED:Hid (edep wr (.iface 132 (.pointer (some ⟨b,0,none⟩)))=n1+1/\edep wr v1=n1):=hdd ⟨(ErK.inn h0 h1 h2).edep,h2.edep⟩;have HU:=hdd (ak5 h1);have hnn:∃t x,v1=.iface t x:=by cases h2<;>exact⟨_,_,rfl⟩
   obtain⟨vt,vx,hvv⟩:=hnn;subst hvv;clear h0 h1 h2;go_wp2_with fail
   refine HU.out.mono ?_;rintro e w2⟨rfl,rfl⟩;go_wp2_with fail
   go_roundw
   case rel=>exact⟨n1,by omega,HE2,trivial⟩
   case measure=>have:=HED.out;simp[this]
  |@att n1 b v1 k h0 h1 h2=>
   have HE2:=hdd h2;have HED:Hid (edep wr (.iface 235 (.pointer (some ⟨b,0,none⟩)))=n1+1/\edep wr v1=n1):=hdd ⟨(ErK.att h0 h1 h2).edep,h2.edep⟩;have HU:=hdd (ak6 h1);have hnn:∃t x,v1=.iface t x:=by cases h2<;>exact⟨_,_,rfl⟩
   obtain⟨vt,vx,hvv⟩:=hnn;subst hvv;clear h0 h1 h2;go_wp2_with fail
   refine HU.out.mono ?_;rintro e w2⟨rfl,rfl⟩;go_wp2_with fail
   go_roundw
   case rel=>exact⟨n1,by omega,HE2,trivial⟩
   case measure=>have:=HED.out;simp[this]
theorem al6(h:ErK S w n v k):
 Calls Tryz.prog 44 #[v,.iface 81 (.int .i64 j)] w (fun e w'=>e=.returned (.bool (k==j))/\w'=w):=by
 have hnn:∃t x,v=.iface t x:=by cases h<;>exact⟨_,_,rfl⟩
 obtain⟨vt,vx,rfl⟩:=hnn;have h8:=@run_callFunc_extern Tryz.prog 77 _ Extern.ReflectliteType.typeOf Tryz.func77 (by kernel_rfl) (by kernel_rfl) (by kernel_rfl) (by kernel_rfl);have h32:=@run_callFunc_extern Tryz.prog 274 _ cmpX Tryz.func274 (by kernel_rfl) (by kernel_rfl) (by kernel_rfl) (by kernel_rfl);have tT:=alO;have cT:=ak2;have mR:=akP;have HH:=hdd (alP (j:=j) h);clear h;go_enter Tryz.func44,Tryz.ntmps44
 go_wp2_with fail
 refine HH.out.mono ?_;rintro e w2⟨rfl,rfl⟩;go_wp2_with fail
 go_ret;exact⟨rfl,rfl⟩
theorem alE(p:Addr)(w:World):
 CallsD Tryz.prog 42 #[.pointer (some p)] .returning w fun e u' w'=>e=.returned (.tuple #[])/\u'=.returning/\w'=w:=by
 refine callsD_of_wpS Tryz.func42 rfl fun c₀ cs hu=> ?_;apply wpS_seq;apply wpS_region;simp[wpOpsS,go_sem,recoverD,hu,Tryz.ntmps42,Exit.thenS];refine wpS_cond (t:=false) (by simp[Act.eval,Array.replicate]) ?_;simp only[Bool.false_eq_true,if_false];refine wpS_of_wp (wp_skip ?_)
 cases c₀
 simp_all[bodyPostS,results,Tryz.results42]
theorem alQ(h:ErK S w n v k)(hn:n<16777216):
 Calls Tryz.prog 12 #[v] w (fun e w'=>e=.returned (.int .i64 k)/\Below w.heap.size w w'):=by
 have hmf:∀(fn:Fn) (first cap:Array Value) (w:World),(Instr.makeFunc fn first cap).run Tryz.prog w=.ok (.func fn first cap) w:=fun _ _ _ _=>rfl;have hnn:∃t x,v=.iface t x:=by cases h<;>exact⟨_,_,rfl⟩
 obtain⟨vt,vx,rfl⟩:=hnn;have hbd:=h.bound;obtain⟨w1,hw1,hb1,hs1,b1⟩:=pro1 w (.cells #[.int .i64 0] 3);have HE1:=hdd (ak7 (h.low hb1) hn);have HB1:=hdd hb1;have HIS:Hid (∀w' j,Below w.heap.size w w'->Calls Tryz.prog 44 #[.iface vt vx,.iface 81 (.int .i64 j)] w' (fun e w''=>e=.returned (.bool (k==j))/\w''=w')):=hdd fun w' j h'=>al6 (h.low h');clear h
 go_enter_defers Tryz.func12,Tryz.ntmps12
 have c0:w1.cell? ⟨w.heap.size,0,none⟩=some (.int .i64 0):=by simp[<-hw1]
 have z0:w1.frozen? ⟨w.heap.size,0,none⟩=false:=by simp[<-hw1]
 go_wp2_with fail
 refine HE1.out.mono ?_;rintro e w2⟨rfl,hb2⟩;have c2:w2.cell? ⟨w.heap.size,0,none⟩=some (.int .i64 0):=cell_below c0 hb2 (by omega);have z2:w2.frozen? ⟨w.heap.size,0,none⟩=false:=(hb2.frozen (by simp[hs1])).trans z0;have HB2:=hdd (HB1.out.trans (hb2.mono HB1.out.size));clear hb2 c0 z0;go_wp2_with fail
 go_loopw [3] (fun i wr=>∃j:Int,1<=j/\j<=k/\i=.int .i64 j/\wr=w2) (fun i _=>(8-intOf i).toNat)
 case atStart=>exact⟨1,by omega,hbd.1,rfl,rfl⟩
 case round=>
  obtain⟨j,hj1,hjk,rfl,rfl⟩:=hrel;have h7:j<=7:=by omega
  go_wp2_with fail
  refine(HIS.out _ j HB2.out).mono ?_;rintro e w3⟨rfl,rfl⟩;by_cases hkj:k=j
  . subst hkj
    have hbk:(k==k)=true:=by simp
    rw[hbk];go_wp2_with fail
    refine leaves_cons (f:=42) (args:=#[.pointer (some ⟨w.heap.size,0,none⟩)]) (by simp) (by simp[go_sem]) ?_;refine(alE ⟨w.heap.size,0,none⟩ _).mono ?_;rintro e u' w''⟨rfl,rfl,rfl⟩;have HF:=HB2.out.setCell (p:=⟨w.heap.size,0,none⟩) nlr (.int .i64 k);simp[Leaves,settle,results,Tryz.results12,go_sem,c2];exact HF
  . have hbk:(k==j)=false:=by simp[hkj]
    rw[hbk];go_wp2_with fail
    go_roundw
    case rel=>exact⟨j+1,by omega,by omega,by go_num,trivial⟩
    case measure=>simp[intOf];omega
abbrev al0(w w':World)(b:Nat):Prop:=w.heap.size<=b/\b<w'.heap.size
theorem al7{s:ByteArray}(h:ErK S w n v k):
 Calls Tryz.prog 47 #[.string s,v] w (fun e w'=>∃er,e=.returned er/\ErK (fun b=>S b\/al0 w w' b) w' (n+1) er k/\Below w.heap.size w w'):=by
 have hnn:∃t x,v=.iface t x:=by cases h<;>exact⟨_,_,rfl⟩
 obtain⟨vt,vx,rfl⟩:=hnn;have hb:Below w.heap.size w (w.alloc (.cells #[.string s,.iface vt vx] 134)):=Below.alloc (Below.refl _ _) nlr _;have HE:Hid (ErK (fun b=>S b\/al0 w (w.alloc (.cells #[.string s,.iface vt vx] 134)) b) (w.alloc (.cells #[.string s,.iface vt vx] 134)) (n+1) (.iface 132 (.pointer (some ⟨w.heap.size,0,none⟩))) k):=hdd (.inn (Or.inr ⟨Nat.le_refl _,by simp⟩) (by simp) ((h.low hb).mono fun _ h _=>Or.inl h));have HB:=hdd hb;clear h hb;go_enter Tryz.func47,Tryz.ntmps47
 go_wp2;go_ret;exact⟨_,rfl,HE.out,HB.out⟩
end
section
open Go.RowKit Go.Maps

end
section
open Go.RowKit Go.Maps
open Re (rat ofI ofN)

end
section
open Go.RowKit Go.Maps
open Re (rat)
open Int renaming lt_or_le->amH
open Rat renaming mul_le_mul_of_nonneg_right->amD,intCast_le_intCast->amE,mul_le_mul_of_nonneg_left->amF,le_trans->amG,le_of_lt->amI
variable{d x y:Dy}{n:Int}
theorem alF{lo hi:Dy}{bits:Int}(h:rv hi-rv lo<=p2 (-bits)):cmpD (u6 hi lo) (mkDy 1 (-bits))<=0:=by
 have h1:=(afN (u6 hi lo) (mkDy 1 (-bits))).2;have e1:rv (u6 hi lo)=rv hi-rv lo:=by unfold u6;rw[wI,lZ];grind
 have e2:rv (mkDy 1 (-bits))=p2 (-bits):=by rw[jW];grind
 rw[e1,e2]at h1;rcases amH 0 (cmpD (u6 hi lo) (mkDy 1 (-bits)))with h2|h2
 . have:=h1.1 h2;grind
 . exact h2
theorem akZ(h:rv x<=rv y):cmpD x y<=0:=by
 rcases amH 0 (cmpD x y)with h2|h2
 . have:=(afN x y).2.1 h2;grind
 . exact h2
theorem alG(h:rv y<=rv x):0<=cmpD x y:=by
 rcases amH (cmpD x y) 0 with h2|h2
 . have:=(afN x y).1.1 h2;grind
 . exact h2
theorem ak8(n:Int):rv (mkDy n 0)=(n:Rat):=by rw[jW,kK];grind
theorem alH{P:Int}{b:Bl}(hd:rv d=(n:Rat))(hm:0<=d.man)(hP:1<=P)(hb:mI (atB d) P=some b):
 cmpD (mulD b.lo b.lo) (mkDy n 0)<=0/\0<=cmpD (mulD b.hi b.hi) (mkDy n 0)/\0<=b.lo.man:=by
 have hs:¬d.man<0:=by omega
 unfold mI atB aQ at hb;rw[if_neg hs,if_neg hs]at hb;obtain rfl:=Option.some.inj hb;obtain⟨q,q',h0,h1,h2,h3,h4,h5,h6,-⟩:=nX d (-1) hP hm;obtain⟨r,r',k0,k1,k2,k3,k4,k5,k6,-⟩:=nX d 1 hP hm;have a1:=h5 (by decide);have a2:=k6 (by decide);rw[hd]at h2 k3;refine⟨akZ ?_,alG ?_,?_⟩
 . show rv (mulD (aL d P (-1)) (aL d P (-1)))<=_
   rw[wJ,ak8];have:=amF a1 h4;have:=amD a1 h0;exact amG (amG (by assumption) (by assumption)) h2
 . show _<=rv (mulD (aL d P 1) (aL d P 1))
   rw[wJ,ak8];have k7:0<=r':=amG k0 k1;have b1:=amF a2 k7;have b2:=amD a2 k4;exact amG k3 (amG b1 b2)
 . show 0<=(aL d P (-1)).man
   rcases amH (aL d P (-1)).man 0 with h|h
   . exfalso
     unfold rv at h4;have hp:=bA (aL d P (-1)).exp;have h9:((aL d P (-1)).man:Rat)<=((-1:Int):Rat):=amE.2 (by omega);have h10:=amD h9 (amI hp);have e1:((-1:Int):Rat)=-1:=rfl;rw[e1]at h10;grind
   . exact h
theorem ak9{bits:Int}(hd:rv d=(n:Rat))(hm:0<=d.man)(hn:0<=n/\n<=1000000)(hb:0<=bits/\bits<=400):∃b,mI (atB d) 512=some b/\rv b.hi-rv b.lo<=p2 (-bits):=by
 have hs:¬d.man<0:=by omega
 refine⟨_,by unfold mI atB;rw[if_neg hs],?_⟩;have hA:Acc 20 2000 (atB d):=by
  have e20:p2 20=((1048576:Int):Rat):=by rw[show(20:Int)=((20:Nat):Int) from rfl,eQ];rfl
  have h1:(n:Rat)<=((1048576:Int):Rat):=amE.2 (by omega);have h0:((0:Int):Rat)<=(n:Rat):=amE.2 hn.1;have h2:-((1048576:Int):Rat)<=(n:Rat):=by
   have:(0:Rat)<=((1048576:Int):Rat):=by decide
   have h00:((0:Int):Rat)=0:=rfl;grind
  refine⟨⟨?_,?_⟩,⟨?_,?_⟩,?_⟩
  . show-p2 20<=rv d;rw[hd,e20];exact h2
  . show rv d<=p2 20;rw[hd,e20];exact h1
  . show-p2 20<=rv d;rw[hd,e20];exact h2
  . show rv d<=p2 20;rw[hd,e20];exact h1
  . show rv d-rv d<=_;rw[Rat.sub_self];exact amI (bA _)
 have h:=af0 (P:=512) (H:=10) (V:=bits+1) (T:=bits) (by decide) hA (by decide) (by omega) (by omega) (by omega) (r:=⟨aL (aQ (atB d)) 512 (-1),aL (atB d).hi 512 1⟩) (by unfold mI;rw[if_neg (show¬(atB d).hi.man<0 from hs)]);exact h.2.2
theorem alI(h:0<=n):0<=(mkDy n 0).man:=by
 unfold mkDy;split
 . exact Int.le_refl _
 . rw[decide_eq_false (by omega)];exact Int.natCast_nonneg _
def al8(n bits:Int)(b:Bl):Prop:=Okb b/\cmpD (u6 b.hi b.lo) (mkDy 1 (-bits))<=0/\cmpD (mulD b.lo b.lo) (mkDy n 0)<=0/\0<=cmpD (mulD b.hi b.hi) (mkDy n 0)/\0<=b.lo.man
theorem alA{bits:Int}(hn:0<=n/\n<=1000000)(hb:0<=bits/\bits<=400):CloE (.root (li n)) bits 4/\(∃q,lJ PT (.root (li n)) q)/\∀k b,k<=4->dA (.root (li n)) (pw k)=some b->fM b.lo b.hi bits=true->al8 n bits b:=by
 obtain⟨x,hx,ex⟩:=Re.exists_sqrt (show(0:Re)<=rat ((n:Int):Rat) by rw[Re.zero_rat,Re.rat_le];exact amE.2 hn.1);obtain⟨L,hL⟩:∃L:List Ex,L=[.root (li n)]:=⟨_,rfl⟩;have l1:L.length=1:=by rw[hL];rfl
 have f1:=xF (L:=L) (k:=n) 20 (by omega) (by decide);have X:=Fit.root f1 hx ex (by rw[hL];exact List.mem_singleton.2 rfl);have hX:=X (by rw[l1];decide+kernel);have gX:=hX.good (by rw[l1];decide+kernel);have sX:=X.sgn (P:=PT) (by rw[l1];decide+kernel);obtain⟨h1,h2,h3⟩:=ajZ (k:=n) (by omega);have hd:rv (leafD (fl n))=(n:Rat):=by rw[akX h3,al1]
 have hm:0<=(leafD (fl n)).man:=by rw[akX h3];exact alI hn.1
 have hc:CloE (.root (li n)) bits 4:=by
  refine⟨⟨x,gX.den⟩,gX.fin,Int.le_trans (jY (by decide) (by decide) _) gX.size,by decide,?_⟩;obtain⟨b,hb1,hb2⟩:=ak9 hd hm hn hb;refine⟨b,hb1,?_⟩;unfold fM;rw[decide_eq_true (alF hb2),Bool.or_true]
 refine⟨hc,⟨_,sX⟩,fun k b hk hne hnw=> ?_⟩;have hp:=(qD (Nat.le_refl k) (Nat.le_trans hk (by decide))).1;obtain⟨r1,r2,r3⟩:=alH hd hm hp (show mI (atB (leafD (fl n))) (pw k)=some b from hne);refine⟨aiK hc hk hne,?_,r1,r2,r3⟩;unfold fM at hnw;rw[Bool.or_eq_true]at hnw;rcases hnw with h|h
 . have h0:(u6 b.hi b.lo).man=0:=Int.sign_eq_zero_iff_zero.1 (beq_iff_eq.1 h)
   refine akZ ?_;have e1:rv (u6 b.hi b.lo)=0:=by unfold rv;rw[h0];exact Rat.zero_mul _
   have e2:rv (mkDy 1 (-bits))=p2 (-bits):=by rw[jW];grind
   rw[e1,e2];exact amI (bA _)
 . exact of_decide_eq_true h
end
section
open Go.RowKit Go.Maps
theorem alJ{w:World}:Calls Tryz.prog 48 #[] w (fun e w'=>e=.returned (.iface 81 (.int .i64 7))/\w'=w):=by
 go_enter Tryz.func48,Tryz.ntmps48
 go_wp2;go_ret;exact⟨rfl,rfl⟩
theorem alR{n:Nat}{w:World}(hT:Tab w)(hn:n<9223372036854775808)(hb:bits n<=1000):Calls Tryz.prog 23 #[.int .i64 n] w (RetD w.heap.size w (mkDy n 0)):=by
 obtain⟨w1,hw1,hb1,hs1,b1⟩:=pro1 w (.cells #[Value.bool false,.slice none 0 0,.int .i64 0] 55);have HO:=hdd (ahU (w:=w1) hn);have HB:=hdd hb1;have B1:=hdd b1;have HS:=hdd hs1;have HT:=hdd (hT.below hb1);have HBN:=hdd hb;clear hT hb hb1 b1 hs1;go_enter Tryz.func23,Tryz.ntmps23
 go_wp2_with fail
 refine HO.out.mono ?_;rintro e w2⟨hb2,v2,rfl,hz⟩;have HMK:=hdd (bW (e:=0) hz (HT.out.below hb2) (Nat.le_trans HBN.out (by decide)) (by decide));have HB2:=hdd (HB.out.trans (hb2.mono HB.out.size));have B2:=hdd (hbl B1.out hb2);have HS2:=hdd hb2.size;clear hb2 hz HO;go_wp2_with fail
 refine HMK.out.mono ?_;rintro e w3⟨hb3,v3,rfl,h⟩;obtain⟨b6,A6,n6,c6,rfl,-⟩:=id h;have B3:=hbl B2.out hb3;obtain⟨HFF,hFF⟩:=aJ (HB2.out.trans (hb3.mono HB2.out.size)) (g:=w.heap.size) nlr B3 h (fun b hb=>by have:=HS.out;have:=HS2.out;omega);obtain⟨e0,e1,e2,e3,e4,e5⟩:=cells3 B3;replace hFF:=hdd hFF;clear hb3 h B3;go_wp2;obtain⟨f0,f1,f2,-,-,-⟩:=cells3 hFF.out;refine bodyPost_ret (v:=.agg #[_,_,_]) (by simp[results,Tryz.results23,go_sem,f0,f1,f2];first|exact⟨rfl,rfl,rfl⟩|rfl) rfl ?_;exact HFF.out
theorem alS{P:Ex->Prop}{B N:Nat}{w:World}{g i:Nat}{ns:List Nd}{x:Ex}{bits q:Int}(hs:St P B N w g ns)(hx:Is ns x i)(hS:lJ P x q)(hb:bits<0):
 Calls Tryz.prog 22 #[numV g i,.int .i64 bits] w (fun e w'=>∃er,e=.returned (.tuple #[.agg #[.bool false,.slice none 0 0,.int .i64 0,.bool false,.slice none 0 0,.int .i64 0],er])/\ErK (fun _=>True) w' 1 er 7/\Below w.heap.size w w'):=by
 obtain⟨w2,hw2,hb2,hs2,b1,b2⟩:=pro2 w (.cells #[.pointer (some ⟨g,0,none⟩),.int .i64 (i:Int)] 28) (.cells #[.bool false,.slice none 0 0,.int .i64 0,.bool false,.slice none 0 0,.int .i64 0] 57);obtain⟨c0,c1,-,-⟩:=aB b1;have HSG:=hdd (zI (hs.below hb2) hx hS);have HB:=hdd hb2;have B2:=hdd b2;clear hs hx hS hb2 b1 b2 hs2;go_enter Tryz.func22,Tryz.ntmps22
 go_wp2_with fail
 refine HSG.out.mono ?_;rintro e w3⟨rfl,hb3⟩;have HB3:=hdd (HB.out.trans (hb3.mono HB.out.size));have B3:=hdd (hbl B2.out hb3);clear hb3 HSG HB B2 hw2;have HLM:=hdd fun w'=>alJ (w:=w');go_wp2_with fail
 refine(HLM.out _).mono ?_;rintro e w4⟨rfl,rfl⟩;have HIN:=hdd fun w' s=>al7 (S:=fun _=>False) (w:=w') (s:=s) (ErK.kind (k:=7) (by decide) (by decide));go_wp2_with fail
 refine(HIN.out _ _).mono ?_;rintro e w5⟨er,rfl,he,hb5⟩;obtain⟨t,vx,rfl⟩:∃t vx,er=.iface t vx:=by cases he<;>exact⟨_,_,rfl⟩
 have B5:=hbl B3.out hb5;obtain⟨p0,p1,p2,p3,p4,p5⟩:=aG B5;obtain⟨q0,q1,q2,q3,q4,q5⟩:=fB B5;have HBF:=hdd (eT (HB3.out.trans (hb5.mono HB3.out.size)) (g:=w.heap.size+1) (by omega) (.bool false) (.slice none 0 0) (.int .i64 0) (.bool false) (.slice none 0 0) (.int .i64 0));have hFF:=hdd (gP B5 (.bool false) (.slice none 0 0) (.int .i64 0) (.bool false) (.slice none 0 0) (.int .i64 0));have HER:Hid (ErK (fun _=>True) (put6 w5 (w.heap.size+1) (.bool false) (.slice none 0 0) (.int .i64 0) (.bool false) (.slice none 0 0) (.int .i64 0)) 1 (.iface t vx) 7):=hdd (by
  have h9:w.heap.size+1<w4.heap.size:=aF B3.out;refine(he.keep (w':=put6 w5 (w.heap.size+1) (.bool false) (.slice none 0 0) (.int .i64 0) (.bool false) (.slice none 0 0) (.int .i64 0)) fun b hS _=> ?_).mono fun _ _ _=>trivial;have hne:w.heap.size+1≠b:=by
   rcases hS with h|h
   . exact h.elim
   . have:=h.1;omega
  unfold World.cell?;rw[sP hne])
 clear he hb5 B5 HIN HLM;go_wp2;obtain⟨f0,f1,f2,f3,f4,f5⟩:=aG hFF.out;unfold put6 at f0 f1 f2 f3 f4 f5;refine bodyPost_ret (v:=.tuple #[.agg #[_,_,_,_,_,_],_]) (by simp[results,Tryz.results22,go_sem,f0,f1,f2,f3,f4,f5];first|exact⟨⟨rfl,rfl,rfl,rfl,rfl,rfl⟩,rfl⟩|rfl) rfl ?_;exact⟨_,rfl,HER.out,HBF.out⟩
section
variable{P:Program}{ρ:Operand->Value}{o:Oper}{t t2:TypeId}{x y:Operand}{a b v:Value}{w:World}
end
theorem alT(a:Int)(w:World):(convert 3 30 (.int .i64 a)).run Tryz.prog w=.ok (.float .f64 (fl a)) w:=by
 simp[go_sem];rfl
end
end Go.Proofs.YtjdgaogkioabeabGreatDoor
