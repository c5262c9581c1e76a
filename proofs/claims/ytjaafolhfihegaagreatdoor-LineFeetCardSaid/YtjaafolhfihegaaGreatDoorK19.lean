/- A part of the proof: contracts of functions and plain laws (FnA, FlA, FlB, FlC, FlD, FlE, FlF, FlG, CkA, CkB, LiA, DyA, DyB). -/
import Derived.Test.YtjaafolhfihegaaGreatDoorK18
import Derived.Test.YtjaafolhfihegaaGreatDoorK15
import Derived.LaidEql
import Derived.Lib.IfaceEq
import Derived.Stop.Asserts
import Derived.Recover
import Derived.Defers
import Derived.Test.YtjaafolhfihegaaGreatDoorK08
set_option linter.unusedVariables false
set_option linter.unusedSimpArgs false
set_option maxHeartbeats 25600000
set_option maxRecDepth 100000
namespace Go.Proofs.YtjaafolhfihegaaGreatDoor
open Go.RowKit Go.Maps
open List renaming mem_append->bc5,mem_cons->bc6,zip_cons_cons->bc7,all_eq_true->bc8,map_cons->bc9,mem_map->bdA
def RtN(s:Bs)(g N:Nat)(K:List (Ex×Nat))(l:List (Nat×Obj))(V:List Nat->Value)(es:List Ex)(e:Ending)(W':World):Prop:=
 ∃ks:List Nat,ks.length=es.length/\e=.returned (V ks)/\Run s g N (es.zip ks++K) l W'
def FnOk(f:FuncId)(g d:Nat)(av:Array Value)(K0:List (Ex×Nat))(V:List Nat->Value)(es:List Ex):Prop:=
 ∀(s:Bs) (N:Nat) (K:List (Ex×Nat)) (l:List (Nat×Obj)) (W:World),Run s g N K l W->N+d<=20000->(∀p∈K0,p∈K)->Calls Tryz.prog f av W (RtN s g (N+d) K l V es)
def yY(w:World)(B:Nat)(ns:List Nd)(g N:Nat)(V:List Nat->Value)(es:List Ex)(e:Ending)(W':World):Prop:=
 ∃ks:List Nat,ks.length=es.length/\e=.returned (V ks)/\∃l',Run ⟨w,B,ns⟩ g N (es.zip ks) l' W'
section
variable{f:FuncId}{g d:Nat}{av:Array Value}{K0:List (Ex×Nat)}{V:List Nat->Value}{es:List Ex}
theorem FnOk.of (h:∀w B ns N,Run ⟨w,B,ns⟩ g N K0 [] w->N+d<=20000->Calls Tryz.prog f av w (yY w B ns g (N+d) V es)):FnOk f g d av K0 V es:=by
 intro s N K l W hR hN hK;obtain⟨ns',hs,hI⟩:=hR;refine(h W s.B ns' N (Run.enter hs.st (fun p hp=>hI p (hK p hp))) hN).mono ?_;rintro e W'⟨ks,h1,rfl,l',ns'',hs2,hI2⟩;refine⟨ks,h1,rfl,ns'',hs.step hs2.st hs2.pre hs2.grew.2.2,fun p hp=> ?_⟩;rcases bc5.1 hp with hp|hp
 . exact hI2 p hp
 . exact(hI p hp).mono hs2.pre
theorem mJ{α:Type}{K K':List α}(ix:List Nat)(h:K'=ix.filterMap (K[·]?):=by rfl):∀p∈K',p∈K:=fun p hp=>by
 rw[h]at hp;obtain⟨j,-,h2⟩:=List.mem_filterMap.1 hp;exact List.mem_of_getElem? h2
end
def letters:List Nat->List Nat->(Nat->Nat)->Nat->Nat
 |t::ts,k::ks,ν,n=>if n=t then k else letters ts ks ν n
 |_,_,ν,n=>ν n
theorem tF:∀(ts ks:List Nat) (ν:Nat->Nat) (n:Nat),n∉ts->letters ts ks ν n=ν n
 |[],_,_,_,_=>rfl
 |_::_,[],_,_,_=>rfl
 |t::ts,k::ks,ν,n,h=>by
  rw[bc6]at h;show(if n=t then k else letters ts ks ν n)=ν n;rw[if_neg (fun e=>h (Or.inl e)),tF ts ks ν n (fun e=>h (Or.inr e))]
theorem tH:∀(ts ks:List Nat) (ν:Nat->Nat),ts.Nodup->ks.length=ts.length->ts.map (letters ts ks ν)=ks
 |[],[],_,_,_=>rfl
 |[],_::_,_,_,h=>by simp at h
 |_::_,[],_,_,h=>by simp at h
 |t::ts,k::ks,ν,hn,h=>by
  rw[List.nodup_cons]at hn;have e:ts.map (letters (t::ts) (k::ks) ν)=ts.map (letters ts ks ν):=List.map_congr_left fun n hm=>by
   show(if n=t then k else letters ts ks ν n)=_;rw[if_neg (fun e=>hn.1 (by rw[<-e];exact hm))]
  rw[bc9,e,tH ts ks ν hn.2 (by simpa using h)];show(if t=t then k else _)::ks=k::ks;rw[if_pos rfl]
theorem tJ{α:Type}{h:Nat->Nat}{q:Nat×α}:∀{ts:List Nat} {es:List α},q∈ts.zip es->(q.2,h q.1)∈es.zip (ts.map h)
 |[],_,hq=>by simp at hq
 |_::_,[],hq=>by simp at hq
 |t::ts,e::es,hq=>by
  rw[bc7,bc6]at hq;rw[bc9,bc7,bc6];rcases hq with rfl|hq
  . exact Or.inl rfl
  . exact Or.inr (tJ hq)
section
variable{S:Spec Ex}{w0:Bs}{g c0 i d:Nat}{f:FuncId}{args:(Nat->Nat)->Array Value}{ix ts:List Nat}{V:List Nat->Value}{es:List Ex}
theorem retL{lst:Nat->Bool}{ν:Nat->Nat}{c:Nat}{l:List (Nat×Obj)}{w':World}{ks:List Nat}(ht:(ts.all fun t=>S.cr t==some i)=true)(hn:ts.Nodup)(hk:S.made i=ts.zip es)(h1:ks.length=ts.length)(hR:Run w0 g c (es.zip ks++S.K lst ν) l w'):
 ∃ν',(∀n,S.cr n≠some i->ν' n=ν n)/\ts.map ν'=ks/\Run w0 g c (S.newK i ν'++S.K lst ν) l w':=by
 have hm:=tH ts ks ν hn h1;refine⟨letters ts ks ν,fun n h=>tF ts ks ν n fun hin=>h (by have:=bc8.1 ht n hin;simpa using this),hm,hR.few fun p hp=> ?_⟩;rcases bc5.1 hp with h|h
 . obtain⟨q,h2,rfl⟩:=qX h
   rw[hk]at h2;have:=tJ (h:=letters ts ks ν) h2;rw[hm]at this;exact bc5.2 (Or.inl this)
 . exact bc5.2 (Or.inr h)
theorem c_fn(hM:c0+S.total<=20000)(F:∀ν,FnOk f g d (args ν) ((ix.map fun j=>S.know.getD j (0,.leaf 0)).map fun q=>(q.2,ν q.1)) V es)
 (hix:(ix.all fun j=>decide (j<S.know.length)&&S.pre i (S.know.getD j (0,.leaf 0)).1)=true:=by kernel_rfl) (hc:S.cost i=d:=by rfl) (hv:∀ν,(S.val i).den ν=V (ts.map ν):=by intro _;rfl)
 (ht:(ts.all fun t=>S.cr t==some i)=true:=by kernel_rfl) (hk:S.made i=ts.zip es:=by rfl) (hn:ts.Nodup:=by decide) (hl:ts.length=es.length:=by rfl):gK S w0 g c0 i f args:=by
 intro lst ν c w hD hcl hG;rw[hc]at hcl;refine(F ν w0 c _ _ w hG (by omega) fun p hp=> ?_).mono ?_
 . obtain⟨q,h1,rfl⟩:=bdA.1 hp
   obtain⟨j,h2,rfl⟩:=bdA.1 h1;have h3:=bc8.1 hix j h2;rw[Bool.and_eq_true,decide_eq_true_eq]at h3;refine fG ?_ (pre_on h3.2 hD);rw[List.getD_eq_getElem?_getD,List.getElem?_eq_getElem h3.1];exact List.getElem_mem h3.1
 . rintro e w'⟨ks,k1,rfl,hR⟩
   obtain⟨ν',a1,a2,a3⟩:=retL ht hn hk (by omega) hR;exact⟨ν',a1,by rw[hv,a2],by rw[hc];exact a3⟩
end
end Go.Proofs.YtjaafolhfihegaaGreatDoor
namespace Go.Proofs.YtjaafolhfihegaaGreatDoor
open Go.RowKit Go.Maps Go.Stop Go.Extern
open Go.Instr renaming typeAssert->bdB
open Go.World renaming cell?_of_block->bdC,cell?_setCell_same->bdD
variable{j k:Int}{a b c n:Nat}{S T:Nat->Prop}{v:Value}{w w' w1:World}
inductive ErK(S:Nat->Prop)(w:World):Nat->Value->Int->Prop
 |kind {k:Int}:1<=k->k<=7->ErK S w 0 (.iface 135 (.int .i64 k)) k
 |inn {n b:Nat} {v:Value} {k:Int}:S b->w.cell? ⟨b,1,none⟩=some v->ErK S w n v k->ErK S w (n+1) (.iface 143 (.pointer (some ⟨b,0,none⟩))) k
 |att {n b:Nat} {v:Value} {k:Int}:S b->w.cell? ⟨b,1,none⟩=some v->ErK S w n v k->ErK S w (n+1) (.iface 153 (.pointer (some ⟨b,0,none⟩))) k
theorem ErK.block (h:w.cell? ⟨b,1,none⟩=some v):b<w.heap.size:=World.block_lt_of_cell? w _ h
theorem ErK.keep (h:ErK S w n v k)(hb:∀b,S b->b<w.heap.size->w'.cell? ⟨b,1,none⟩=w.cell? ⟨b,1,none⟩):ErK S w' n v k:=by
 induction h with
 |kind h1 h2=>exact .kind h1 h2
 |inn h0 h1 _ ih=>exact .inn h0 ((hb _ h0 (ErK.block h1)).trans h1) ih
 |att h0 h1 _ ih=>exact .att h0 ((hb _ h0 (ErK.block h1)).trans h1) ih
theorem ErK.mono (h:ErK S w n v k)(hb:∀b,S b->b<w.heap.size->T b):ErK T w n v k:=by
 induction h with
 |kind h1 h2=>exact .kind h1 h2
 |inn h0 h1 _ ih=>exact .inn (hb _ h0 (ErK.block h1)) h1 ih
 |att h0 h1 _ ih=>exact .att (hb _ h0 (ErK.block h1)) h1 ih
theorem ErK.low (h:ErK S w n v k)(hb:Below w.heap.size w w'):ErK S w' n v k:=
 h.keep fun _ _ hl=>bdC (hb.block _ hl)
theorem ErK.bound (h:ErK S w n v k):1<=k/\k<=7:=by
 induction h with
 |kind h1 h2=>exact⟨h1,h2⟩
 |inn _ _ _ ih=>exact ih
 |att _ _ _ ih=>exact ih
theorem ErK.det (h:ErK S w n v k):∀{m:Nat} {j:Int},ErK T w m v j->n=m:=by
 induction h with
 |kind h1 h2=>intro m j h;cases h;rfl
 |inn _ h1 _ ih=>
  intro m j h;cases h with
  |inn _ g1 g2=>rw[h1]at g1;cases g1;rw[ih g2]
 |att _ h1 _ ih=>
  intro m j h;cases h with
  |att _ g1 g2=>rw[h1]at g1;cases g1;rw[ih g2]
noncomputable def edep(w:World)(v:Value):Nat:=by
 classical
 exact if h:∃n k,ErK (fun _=>True) w n v k then Classical.choose h else 0
theorem ErK.edep (h:ErK S w n v k):edep w v=n:=by
 unfold Go.Proofs.YtjaafolhfihegaaGreatDoor.edep;have hx:∃n k,ErK (fun _=>True) w n v k:=⟨n,k,h.mono fun _ _ _=>trivial⟩;rw[dif_pos hx];obtain⟨j,hj⟩:=Classical.choose_spec hx;exact hj.det h
theorem ab7(h:w.cell? ⟨b,1,none⟩=some v):
 Calls Tryz.prog 275 #[.pointer (some ⟨b,0,none⟩)] w (fun e w'=>e=.returned v/\w'=w):=by
 go_enter Tryz.func275,Tryz.ntmps275
 go_wp2;go_ret;exact⟨rfl,rfl⟩
theorem ab8(h:w.cell? ⟨b,1,none⟩=some v):
 Calls Tryz.prog 277 #[.pointer (some ⟨b,0,none⟩)] w (fun e w'=>e=.returned v/\w'=w):=by
 go_enter Tryz.func277,Tryz.ntmps277
 go_wp2;go_ret;exact⟨rfl,rfl⟩
theorem qY(v:Value)(xT:TypeId)(w:World):(bdB (.iface 135 v) xT 176 true).run Tryz.prog w=.ok (.tuple #[.nilIface,.bool false]) w:=run_typeAssert_lacksB Tryz.underlying176 (by kernel_rfl) (by kernel_rfl) v xT w
theorem o9(v:Value)(xT:TypeId)(w:World):(bdB (.iface 135 v) xT 177 true).run Tryz.prog w=.ok (.tuple #[.nilIface,.bool false]) w:=run_typeAssert_lacksB Tryz.underlying177 (by kernel_rfl) (by kernel_rfl) v xT w
theorem aj9(v:Value)(xT:TypeId)(w:World):(bdB (.iface 135 v) xT 174 true).run Tryz.prog w=.ok (.tuple #[.nilIface,.bool false]) w:=run_typeAssert_lacksB Tryz.underlying174 (by kernel_rfl) (by kernel_rfl) v xT w
theorem tK(v:Value)(xT:TypeId)(w:World):(bdB (.iface 143 v) xT 176 true).run Tryz.prog w=.ok (.tuple #[.iface 143 v,.bool true]) w:=run_typeAssert_hasB Tryz.underlying176 (by kernel_rfl) v xT w
theorem aoQ(v:Value)(xT:TypeId)(w:World):(bdB (.iface 143 v) xT 174 true).run Tryz.prog w=.ok (.tuple #[.nilIface,.bool false]) w:=run_typeAssert_lacksB Tryz.underlying174 (by kernel_rfl) (by kernel_rfl) v xT w
theorem tL(v:Value)(xT:TypeId)(w:World):(bdB (.iface 153 v) xT 176 true).run Tryz.prog w=.ok (.tuple #[.iface 153 v,.bool true]) w:=run_typeAssert_hasB Tryz.underlying176 (by kernel_rfl) v xT w
theorem aoR(v:Value)(xT:TypeId)(w:World):(bdB (.iface 153 v) xT 174 true).run Tryz.prog w=.ok (.tuple #[.nilIface,.bool false]) w:=run_typeAssert_lacksB Tryz.underlying174 (by kernel_rfl) (by kernel_rfl) v xT w
theorem nO (v : Value) (w : World) : (Go.method 368 143 v "Unwrap").run Tryz.prog w = .ok (275, v) w := by kernel_rfl
theorem nP (v : Value) (w : World) : (Go.method 368 153 v "Unwrap").run Tryz.prog w = .ok (277, v) w := by kernel_rfl
theorem agW{s:Nat}{c:Int}(h:ErK S w n v k)(hc:w.cell? ⟨s,0,none⟩=some (.int .i64 c))(hz:w.frozen? ⟨s,0,none⟩=false)(hc0:0<=c)(hcn:c+n<16777216)(hs:∀b,(∃v,w.cell? ⟨b,1,none⟩=some v)->b≠s):
 Calls Tryz.prog 111 #[v,.int .i64 0,.pointer (some ⟨s,0,none⟩)] w (fun e w'=>e=.returned (.bool false)/\Fr (fun b=>b=s) w w'):=by
 have HS:=hdd hs;have nK:=qY;have nKs:=o9;have uI:=tK;have uA:=tL;have mI:=nO;have mA:=nP;have HH:=hdd h;have HC:=hdd hc;have HZ:=hdd hz;clear hs h hc hz;go_enter Tryz.func111,Tryz.ntmps111
 go_wp2_with fail
 go_loopw [0] (fun v' wr=>∃n':Nat,n'<=n/\Hid (ErK S w n' v' k)/\Hid (Fr (fun b=>b=s) w wr)/\Hid (wr.cell? ⟨s,0,none⟩=some (.int .i64 (c+(n-n':Nat))))/\Hid (wr.frozen? ⟨s,0,none⟩=false)) (fun v' _=>edep w v')
 case atStart=>exact⟨n,Nat.le_refl _,HH,hdd (Fr.of_below (Below.refl _ _)),hdd (by rw[Nat.sub_self];simpa using HC.out),HZ⟩
 case round=>
  obtain⟨n',hn',HE,HF,HCC,HZZ⟩:=hrel;have cs:=HCC.out;have fs:=HZZ.out;have hle:¬(c+((n-n':Nat):Int)+1>16777216):=by omega
  have hE:=HE.out;clear HE
  cases hE with
  |kind h1 h2=>
   go_wp2_with fail
   go_ret;exact⟨rfl,Fr.setCell HF.out rfl _⟩
  |@inn n1 b v1 k h0 h1 h2=>
   have HE2:=hdd h2;have HED:Hid (edep w (.iface 143 (.pointer (some ⟨b,0,none⟩)))=n1+1/\edep w v1=n1):=hdd ⟨(ErK.inn h0 h1 h2).edep,h2.edep⟩;have hbs:b≠s:=HS.out b ⟨_,h1⟩;have h1r:wr.cell? ⟨b,1,none⟩=some v1:=(bdC (HF.out.block b (ErK.block h1) (fun h=>hbs h))).trans h1;have HU:Hid (∀u,Calls Tryz.prog 275 #[.pointer (some ⟨b,0,none⟩)] (wr.setCell ⟨s,0,none⟩ u) (fun e w''=>e=.returned v1/\w''=wr.setCell ⟨s,0,none⟩ u)):=hdd fun u=>ab7 ((bdC (Below.heap_setCell wr _ u b hbs)).trans h1r);clear h0 h1 h2 h1r hbs;go_wp2_with fail
   refine(HU.out _).mono ?_;rintro e w2⟨rfl,rfl⟩;go_wp2_with fail
   go_roundw
   case rel=>
    refine⟨n1,by omega,HE2,hdd (Fr.setCell HF.out rfl _),hdd ?_,hdd (by simp[fs])⟩;have:((n-n1:Nat):Int)=((n-(n1+1):Nat):Int)+1:=by omega
    rw[this,<-Int.add_assoc];exact bdD _ _ _ cs
   case measure=>have:=HED.out;simp[this]
  |@att n1 b v1 k h0 h1 h2=>
   have HE2:=hdd h2;have HED:Hid (edep w (.iface 153 (.pointer (some ⟨b,0,none⟩)))=n1+1/\edep w v1=n1):=hdd ⟨(ErK.att h0 h1 h2).edep,h2.edep⟩;have hbs:b≠s:=HS.out b ⟨_,h1⟩;have h1r:wr.cell? ⟨b,1,none⟩=some v1:=(bdC (HF.out.block b (ErK.block h1) (fun h=>hbs h))).trans h1;have HU:Hid (∀u,Calls Tryz.prog 277 #[.pointer (some ⟨b,0,none⟩)] (wr.setCell ⟨s,0,none⟩ u) (fun e w''=>e=.returned v1/\w''=wr.setCell ⟨s,0,none⟩ u)):=hdd fun u=>ab8 ((bdC (Below.heap_setCell wr _ u b hbs)).trans h1r);clear h0 h1 h2 h1r hbs;go_wp2_with fail
   refine(HU.out _).mono ?_;rintro e w2⟨rfl,rfl⟩;go_wp2_with fail
   go_roundw
   case rel=>
    refine⟨n1,by omega,HE2,hdd (Fr.setCell HF.out rfl _),hdd ?_,hdd (by simp[fs])⟩;have:((n-n1:Nat):Int)=((n-(n1+1):Nat):Int)+1:=by omega
    rw[this,<-Int.add_assoc];exact bdD _ _ _ cs
   case measure=>have:=HED.out;simp[this]
theorem ab9(h:ErK S w n v k)(hn:n<16777216):
 Calls Tryz.prog 95 #[v] w (fun e w'=>e=.returned (.bool false)/\Below w.heap.size w w'):=by
 have hb1:Below w.heap.size w (w.alloc (.cells #[.int .i64 0] 3)):=Below.alloc (Below.refl _ _) nlr _;have h1:=h.low hb1;have HL:=hdd (agW (s:=w.heap.size) (c:=0) h1 (by simp) (by simp) (by omega) (by omega) (fun b hb=>by
  obtain⟨v',hv'⟩:=hb;intro hbs;subst hbs;simp at hv'))
 have HB:=hdd hb1;clear h h1 hb1;go_enter Tryz.func95,Tryz.ntmps95
 go_wp2_with fail
 refine HL.out.mono ?_;rintro e w2⟨rfl,hf⟩;have HB2:Hid (Below w.heap.size w w2):=hdd (HB.out.trans (hf.below HB.out.size (fun i hi=>by omega)));go_wp2_with fail
 go_ret;exact⟨rfl,HB2.out⟩
theorem akA(v:Value)(w:World):(Extern.ReflectliteType.typeOf #[.iface 135 v]).run Tryz.prog w=.ok (.iface 172 (.agg #[.pointer (some ⟨4,135,none⟩)])) w:=by kernel_rfl
def cmpX (args : Array Value) : Sem Value := Extern.ReflectliteType.method (fun t => do Extern.Rtype.noPackHeld "Comparable" t; pure (.bool (← typeInfo t).comparable)) args
theorem aaH(w:World):(cmpX #[.agg #[.pointer (some ⟨4,135,none⟩)]]).run Tryz.prog w=.ok (.bool true) w:=by kernel_rfl
theorem pK (v : Value) (w : World) : (Go.method 368 172 v "Comparable").run Tryz.prog w = .ok (281, v) w := by kernel_rfl
theorem amO(a b:Int)(w:World):(binOp .eql 48 (.iface 135 (.int .i64 a)) (.iface 135 (.int .i64 b))).run Tryz.prog w=.ok (.bool (a==b)) w:=
 Lib.run_eql_iface_int w a b Tryz.underlying48 (by kernel_rfl) Tryz.underlying135
theorem akB(h:ErK S w n v k):
 Calls Tryz.prog 88 #[v,.iface 135 (.int .i64 j),.bool true] w (fun e w'=>e=.returned (.bool (k==j))/\w'=w):=by
 have nK:=qY;have nKs:=o9;have iK:=aj9;have iI:=aoQ;have iA:=aoR;have uI:=tK;have uA:=tL;have mI:=nO;have mA:=nP;have eq:=amO;have eI:∀(p x:Value) (w:World),(binOp .eql 48 (.iface 143 p) (.iface 135 x)).run Tryz.prog w=.ok (.bool false) w:=fun p x w=>run_eql_iface_types (P:=Tryz.prog) _ _ p x Tryz.underlying48 (by decide) w;have eA:∀(p x:Value) (w:World),(binOp .eql 48 (.iface 153 p) (.iface 135 x)).run Tryz.prog w=.ok (.bool false) w:=fun p x w=>run_eql_iface_types (P:=Tryz.prog) _ _ p x Tryz.underlying48 (by decide) w;have HH:=hdd h;clear h;go_enter Tryz.func88,Tryz.ntmps88
 go_wp2_with fail
 go_loopw [0] (fun v' wr=>∃n':Nat,n'<=n/\Hid (ErK S w n' v' k)/\wr=w) (fun v' _=>edep w v')
 case atStart=>exact⟨n,Nat.le_refl _,HH,rfl⟩
 case round=>
  obtain⟨n',hn',HE,rfl⟩:=hrel;have hE:=HE.out;clear HE
  cases hE with
  |kind h1 h2=>
   go_wp2_with fail
   all_goals go_ret
   all_goals exact⟨by simp_all,rfl⟩
  |@inn n1 b v1 k h0 h1 h2=>
   have HE2:=hdd h2;have HED:Hid (edep wr (.iface 143 (.pointer (some ⟨b,0,none⟩)))=n1+1/\edep wr v1=n1):=hdd ⟨(ErK.inn h0 h1 h2).edep,h2.edep⟩;have HU:=hdd (ab7 h1);have hnn:∃t x,v1=.iface t x:=by cases h2<;>exact⟨_,_,rfl⟩
   obtain⟨vt,vx,hvv⟩:=hnn;subst hvv;clear h0 h1 h2;go_wp2_with fail
   refine HU.out.mono ?_;rintro e w2⟨rfl,rfl⟩;go_wp2_with fail
   go_roundw
   case rel=>exact⟨n1,by omega,HE2,trivial⟩
   case measure=>have:=HED.out;simp[this]
  |@att n1 b v1 k h0 h1 h2=>
   have HE2:=hdd h2;have HED:Hid (edep wr (.iface 153 (.pointer (some ⟨b,0,none⟩)))=n1+1/\edep wr v1=n1):=hdd ⟨(ErK.att h0 h1 h2).edep,h2.edep⟩;have HU:=hdd (ab8 h1);have hnn:∃t x,v1=.iface t x:=by cases h2<;>exact⟨_,_,rfl⟩
   obtain⟨vt,vx,hvv⟩:=hnn;subst hvv;clear h0 h1 h2;go_wp2_with fail
   refine HU.out.mono ?_;rintro e w2⟨rfl,rfl⟩;go_wp2_with fail
   go_roundw
   case rel=>exact⟨n1,by omega,HE2,trivial⟩
   case measure=>have:=HED.out;simp[this]
theorem aoS(h:ErK S w n v k):
 Calls Tryz.prog 49 #[v,.iface 135 (.int .i64 j)] w (fun e w'=>e=.returned (.bool (k==j))/\w'=w):=by
 have hnn:∃t x,v=.iface t x:=by cases h<;>exact⟨_,_,rfl⟩
 obtain⟨vt,vx,rfl⟩:=hnn;have h8:=@run_callFunc_extern Tryz.prog 87 _ Extern.ReflectliteType.typeOf Tryz.func87 (by kernel_rfl) (by kernel_rfl) (by kernel_rfl) (by kernel_rfl);have h32:=@run_callFunc_extern Tryz.prog 281 _ cmpX Tryz.func281 (by kernel_rfl) (by kernel_rfl) (by kernel_rfl) (by kernel_rfl);have tT:=akA;have cT:=aaH;have mR:=pK;have HH:=hdd (akB (j:=j) h);clear h;go_enter Tryz.func49,Tryz.ntmps49
 go_wp2_with fail
 refine HH.out.mono ?_;rintro e w2⟨rfl,rfl⟩;go_wp2_with fail
 go_ret;exact⟨rfl,rfl⟩
theorem agX(p:Addr)(w:World):
 CallsD Tryz.prog 94 #[.pointer (some p)] .returning w fun e u' w'=>e=.returned (.tuple #[])/\u'=.returning/\w'=w:=by
 refine callsD_of_wpS Tryz.func94 rfl fun c₀ cs hu=> ?_;apply wpS_seq;apply wpS_region;simp[wpOpsS,go_sem,recoverD,hu,Tryz.ntmps94,Exit.thenS];refine wpS_cond (t:=false) (by simp[Act.eval,Array.replicate]) ?_;simp only[Bool.false_eq_true,if_false];refine wpS_of_wp (wp_skip ?_)
 cases c₀
 simp_all[bodyPostS,results,Tryz.results94]
theorem akC(h:ErK S w n v k)(hn:n<16777216):
 Calls Tryz.prog 58 #[v] w (fun e w'=>e=.returned (.int .i64 k)/\Below w.heap.size w w'):=by
 have hmf:∀(fn:Fn) (first cap:Array Value) (w:World),(Instr.makeFunc fn first cap).run Tryz.prog w=.ok (.func fn first cap) w:=fun _ _ _ _=>rfl;have hnn:∃t x,v=.iface t x:=by cases h<;>exact⟨_,_,rfl⟩
 obtain⟨vt,vx,rfl⟩:=hnn;have hbd:=h.bound;obtain⟨w1,hw1,hb1,hs1,b1⟩:=pro1 w (.cells #[.int .i64 0] 3);have HE1:=hdd (ab9 (h.low hb1) hn);have HB1:=hdd hb1;have HIS:Hid (∀w' j,Below w.heap.size w w'->Calls Tryz.prog 49 #[.iface vt vx,.iface 135 (.int .i64 j)] w' (fun e w''=>e=.returned (.bool (k==j))/\w''=w')):=hdd fun w' j h'=>aoS (h.low h');clear h
 go_enter_defers Tryz.func58,Tryz.ntmps58
 have c0:w1.cell? ⟨w.heap.size,0,none⟩=some (.int .i64 0):=by simp[<-hw1]
 have z0:w1.frozen? ⟨w.heap.size,0,none⟩=false:=by simp[<-hw1]
 go_wp2_with fail
 refine HE1.out.mono ?_;rintro e w2⟨rfl,hb2⟩;have c2:w2.cell? ⟨w.heap.size,0,none⟩=some (.int .i64 0):=cell_below c0 hb2 (by omega);have z2:w2.frozen? ⟨w.heap.size,0,none⟩=false:=(hb2.frozen (by simp[hs1])).trans z0;have HB2:=hdd (HB1.out.trans (hb2.mono HB1.out.size));clear hb2 c0 z0;go_wp2_with fail
 go_loopw [3] (fun i wr=>∃j:Int,1<=j/\j<=k/\i=.int .i64 j/\wr=w2) (fun i _=>(8-intOf i).toNat)
 case atStart=>exact⟨1,by omega,hbd.1,rfl,rfl⟩
 case round=>
  obtain⟨j,hj1,hjk,rfl,rfl⟩:=hrel;have h7:j<=7:=by omega
  go_wp2_with fail
  refine(HIS.out _ j HB2.out).mono ?_;rintro e w3⟨rfl,rfl⟩;by_cases hkj:k=j
  . subst hkj
    have hbk:(k==k)=true:=by simp
    rw[hbk];go_wp2_with fail
    refine leaves_cons (f:=94) (args:=#[.pointer (some ⟨w.heap.size,0,none⟩)]) (by simp) (by simp[go_sem]) ?_;refine(agX ⟨w.heap.size,0,none⟩ _).mono ?_;rintro e u' w''⟨rfl,rfl,rfl⟩;have HF:=HB2.out.setCell (p:=⟨w.heap.size,0,none⟩) nlr (.int .i64 k);simp[Leaves,settle,results,Tryz.results58,go_sem,c2];exact HF
  . have hbk:(k==j)=false:=by simp[hkj]
    rw[hbk];go_wp2_with fail
    go_roundw
    case rel=>exact⟨j+1,by omega,by omega,by go_num,trivial⟩
    case measure=>simp[intOf];omega
abbrev akD(w w':World)(b:Nat):Prop:=w.heap.size<=b/\b<w'.heap.size
def RetEr(w:World)(k:Int)(e:Ending)(w':World):Prop:=∃er n,e=.returned er/\n<=1000/\ErK (akD w w') w' n er k/\Below w.heap.size w w'
theorem aoT{s:ByteArray}(h:ErK S w n v k):
 Calls Tryz.prog 61 #[.string s,v] w (fun e w'=>∃er,e=.returned er/\ErK (fun b=>S b\/akD w w' b) w' (n+1) er k/\Below w.heap.size w w'):=by
 have hnn:∃t x,v=.iface t x:=by cases h<;>exact⟨_,_,rfl⟩
 obtain⟨vt,vx,rfl⟩:=hnn;have hb:Below w.heap.size w (w.alloc (.cells #[.string s,.iface vt vx] 145)):=Below.alloc (Below.refl _ _) nlr _;have HE:Hid (ErK (fun b=>S b\/akD w (w.alloc (.cells #[.string s,.iface vt vx] 145)) b) (w.alloc (.cells #[.string s,.iface vt vx] 145)) (n+1) (.iface 143 (.pointer (some ⟨w.heap.size,0,none⟩))) k):=hdd (.inn (Or.inr ⟨Nat.le_refl _,by simp⟩) (by simp) ((h.low hb).mono fun _ h _=>Or.inl h));have HB:=hdd hb;clear h hb;go_enter Tryz.func61,Tryz.ntmps61
 go_wp2;go_ret;exact⟨_,rfl,HE.out,HB.out⟩
abbrev curV(k:Int)(a b c:Nat):Value:=.agg #[.int .i64 k,.float .f64 a,.float .f64 b,.float .f64 c]
abbrev curO(k:Int)(a b c:Nat):Obj:=.cells #[.int .i64 k,.float .f64 a,.float .f64 b,.float .f64 c] 29
abbrev FlOk(b:Nat):Prop:=b<18446744073709551616/\fin b
theorem degen_any:Calls Tryz.prog 62 #[] w (fun e w'=>e=.returned (.iface 135 (.int .i64 5))/\w'=w):=by
 go_enter Tryz.func62,Tryz.ntmps62
 go_wp2;go_ret;exact⟨rfl,rfl⟩
theorem nQ{r:Bool}(h:(FloatKind.f64.format.order a b==some Ordering.eq)=r):(FloatKind.f64.format.order a b != some Ordering.eq)= !r:=by
 show(!(FloatKind.f64.format.order a b==some Ordering.eq))= !r;rw[h]
theorem qZ:sr b=0↔fv b=0:=by
 have h1:=pJ (a:=sr b) (b:=0);have h2:=pJ (a:=0) (b:=sr b);rw[dV]at h1 h2;unfold fv;omega
def dH(a b c:Nat):Prop:=FlOk a/\FlOk b/\FlOk c/\(fv a≠0\/fv b≠0)
theorem lN(ha:a<18446744073709551616):Calls Tryz.prog 60 #[.float .f64 a] w (RetB w (decide (fin a))):=iT ha
theorem in_line:Calls Tryz.prog 61 #[.string ⟨#[108,105,110,101]⟩,.iface 135 (.int .i64 5)] w1 (RetEr w1 5):=
 (aoT (w:=w1) (ErK.kind (S:=fun _=>False) (k:=5) (by decide) (by decide))).mono fun _ _ ⟨er,h1,h2,h3⟩=>⟨er,1,h1,by omega,h2.mono fun b hb _=>by
   rcases hb with h|h
   . exact h.elim
   . exact h,h3⟩
theorem RetEr.up {e:Ending}(h:RetEr w1 k e w')(hb:Below w.heap.size w w1):RetEr w k e w':=by
 obtain⟨er,n,h1,h2,h3,h4⟩:=h;exact⟨er,n,h1,h2,h3.mono fun b hb' _=>⟨Nat.le_trans hb.size hb'.1,hb'.2⟩,hb.trans (h4.mono hb.size)⟩
theorem oO(h:dH a b c):Calls Tryz.prog 21 #[curV 1 a b c] w (RetV w .nilIface):=by
 obtain⟨ha,hb,hc,h0⟩:=h;obtain⟨w1,hw1,hb1,hs1,b1⟩:=pro1 w (curO 1 a b c);obtain⟨c0,c1,c2,c3⟩:=aR b1;have HB:=hdd hb1;have FA:Hid (∀w',Calls Tryz.prog 60 #[.float .f64 a] w' (RetB w' true)):=hdd fun w'=>by have:=lN (w:=w') ha.1;rwa[decide_eq_true ha.2]at this
 have FB:Hid (∀w',Calls Tryz.prog 60 #[.float .f64 b] w' (RetB w' true)):=hdd fun w'=>by have:=lN (w:=w') hb.1;rwa[decide_eq_true hb.2]at this
 have FC:Hid (∀w',Calls Tryz.prog 60 #[.float .f64 c] w' (RetB w' true)):=hdd fun w'=>by have:=lN (w:=w') hc.1;rwa[decide_eq_true hc.2]at this
 have ea:=kG (b:=a) ha.2.num num0;have eb:=kG (b:=b) hb.2.num num0;rw[sr0]at ea eb;by_cases hz:fv a=0
 . have hz2:¬sr b=0:=fun e=>h0.elim (fun k=>k hz) (fun k=>k (qZ.1 e))
   rw[decide_eq_true (qZ.2 hz)]at ea;rw[decide_eq_false hz2]at eb;replace ea:=nQ ea;replace eb:=nQ eb;rw[Bool.not_true]at ea;rw[Bool.not_false]at eb;clear ha hb hc h0 hb1 hs1 b1 hz hz2;go_enter Tryz.func21,Tryz.ntmps21
   go_wp2_with fail
   refine(FA.out _).mono ?_;rintro e w2⟨rfl,hw⟩;obtain rfl:=hw;go_wp2_with fail
   refine(FB.out _).mono ?_;rintro e w2⟨rfl,hw⟩;obtain rfl:=hw;go_wp2_with fail
   refine(FC.out _).mono ?_;rintro e w2⟨rfl,hw⟩;obtain rfl:=hw;go_wp2;go_ret;exact⟨rfl,HB.out⟩
 . rw[decide_eq_false (fun e=>hz (qZ.1 e))]at ea
   replace ea:=nQ ea;rw[Bool.not_false]at ea;clear ha hb hc h0 hb1 hs1 b1 hz eb;go_enter Tryz.func21,Tryz.ntmps21
   go_wp2_with fail
   refine(FA.out _).mono ?_;rintro e w2⟨rfl,hw⟩;obtain rfl:=hw;go_wp2_with fail
   refine(FB.out _).mono ?_;rintro e w2⟨rfl,hw⟩;obtain rfl:=hw;go_wp2_with fail
   refine(FC.out _).mono ?_;rintro e w2⟨rfl,hw⟩;obtain rfl:=hw;go_wp2;go_ret;exact⟨rfl,HB.out⟩
theorem wQ(ha:a<18446744073709551616)(hb:b<18446744073709551616)(hc:c<18446744073709551616)(h:¬dH a b c):Calls Tryz.prog 21 #[curV 1 a b c] w (RetEr w 5):=by
 obtain⟨w1,hw1,hb1,hs1,b1⟩:=pro1 w (curO 1 a b c);obtain⟨c0,c1,c2,c3⟩:=aR b1;have HB:=hdd hb1;have FA:Hid (∀w',Calls Tryz.prog 60 #[.float .f64 a] w' (RetB w' (decide (fin a)))):=hdd fun w'=>lN ha;have FB:Hid (∀w',Calls Tryz.prog 60 #[.float .f64 b] w' (RetB w' (decide (fin b)))):=hdd fun w'=>lN hb;have FC:Hid (∀w',Calls Tryz.prog 60 #[.float .f64 c] w' (RetB w' (decide (fin c)))):=hdd fun w'=>lN hc;by_cases fa:fin a
 . rw[decide_eq_true fa]at FA
   by_cases fb:fin b
   . rw[decide_eq_true fb]at FB
     by_cases fc:fin c
     . rw[decide_eq_true fc]at FC
       have ea:=kG (b:=a) fa.num num0;have eb:=kG (b:=b) fb.num num0;rw[sr0,decide_eq_true (qZ.2 (Classical.byContradiction fun k=>h ⟨⟨ha,fa⟩,⟨hb,fb⟩,⟨hc,fc⟩,Or.inl k⟩))]at ea;rw[sr0,decide_eq_true (qZ.2 (Classical.byContradiction fun k=>h ⟨⟨ha,fa⟩,⟨hb,fb⟩,⟨hc,fc⟩,Or.inr k⟩))]at eb;replace ea:=nQ ea;replace eb:=nQ eb;rw[Bool.not_true]at ea eb;clear ha hb hc h hb1 hs1 b1 fa fb fc;go_enter Tryz.func21,Tryz.ntmps21
       go_wp2_with fail
       refine(FA.out _).mono ?_;rintro e w2⟨rfl,hw⟩;obtain rfl:=hw;go_wp2_with fail
       refine(FB.out _).mono ?_;rintro e w2⟨rfl,hw⟩;obtain rfl:=hw;go_wp2_with fail
       refine(FC.out _).mono ?_;rintro e w2⟨rfl,hw⟩;obtain rfl:=hw;go_wp2_with fail
       refine degen_any.mono ?_;rintro e w2⟨rfl,hw⟩;obtain rfl:=hw;go_wp2_with fail
       refine in_line.mono ?_;rintro e w2 hr;obtain⟨er,n,rfl,-⟩:=id hr;have HR:=hdd hr;clear hr;go_wp2;go_ret;exact HR.out.up HB.out
     . rw[decide_eq_false fc]at FC
       clear ha hb hc h hb1 hs1 b1 fa fb fc;go_enter Tryz.func21,Tryz.ntmps21
       go_wp2_with fail
       refine(FA.out _).mono ?_;rintro e w2⟨rfl,hw⟩;obtain rfl:=hw;go_wp2_with fail
       refine(FB.out _).mono ?_;rintro e w2⟨rfl,hw⟩;obtain rfl:=hw;go_wp2_with fail
       refine(FC.out _).mono ?_;rintro e w2⟨rfl,hw⟩;obtain rfl:=hw;go_wp2_with fail
       refine degen_any.mono ?_;rintro e w2⟨rfl,hw⟩;obtain rfl:=hw;go_wp2_with fail
       refine in_line.mono ?_;rintro e w2 hr;obtain⟨er,n,rfl,-⟩:=id hr;have HR:=hdd hr;clear hr;go_wp2;go_ret;exact HR.out.up HB.out
   . rw[decide_eq_false fb]at FB
     clear ha hb hc h hb1 hs1 b1 fa fb FC;go_enter Tryz.func21,Tryz.ntmps21
     go_wp2_with fail
     refine(FA.out _).mono ?_;rintro e w2⟨rfl,hw⟩;obtain rfl:=hw;go_wp2_with fail
     refine(FB.out _).mono ?_;rintro e w2⟨rfl,hw⟩;obtain rfl:=hw;go_wp2_with fail
     refine degen_any.mono ?_;rintro e w2⟨rfl,hw⟩;obtain rfl:=hw;go_wp2_with fail
     refine in_line.mono ?_;rintro e w2 hr;obtain⟨er,n,rfl,-⟩:=id hr;have HR:=hdd hr;clear hr;go_wp2;go_ret;exact HR.out.up HB.out
 . rw[decide_eq_false fa]at FA
   clear ha hb hc h hb1 hs1 b1 fa FB FC;go_enter Tryz.func21,Tryz.ntmps21
   go_wp2_with fail
   refine(FA.out _).mono ?_;rintro e w2⟨rfl,hw⟩;obtain rfl:=hw;go_wp2_with fail
   refine degen_any.mono ?_;rintro e w2⟨rfl,hw⟩;obtain rfl:=hw;go_wp2_with fail
   refine in_line.mono ?_;rintro e w2 hr;obtain⟨er,n,rfl,-⟩:=id hr;have HR:=hdd hr;clear hr;go_wp2;go_ret;exact HR.out.up HB.out
end Go.Proofs.YtjaafolhfihegaaGreatDoor
namespace Go.Proofs.YtjaafolhfihegaaGreatDoor
open Go.RowKit Go.Maps
open List renaming setIfInBounds_toArray->bdE,set->bdF
abbrev fB(x y:Ex)(a b c:Nat):Ex:=.sub (.add (.mul (.leaf a) x) (.mul (.leaf b) y)) (.leaf c)
theorem mM{g i j ca cb cc:Nat}{X Y:Ex}(hca:FlOk ca)(hcb:FlOk cb)(hcc:FlOk cc):FnOk 25 g 7 #[.pointer (some ⟨g,0,none⟩),curV 1 ca cb cc,bP g i j] [(X,i),(Y,j)] (fun ks=>numV g (ks.getD 0 0)) [fB X Y ca cb cc]:=FnOk.of fun w B ns N hR hN=>by
 have R1:=hdd hR;clear hR;go_enter Tryz.func25,Tryz.ntmps25
 go_upto_region 0 with fail
 refine Spec.run (S:=⟨_,fun i=>([.w (.c (.ptr 2 0)),.w (.c (.ptr 3 0)),.w (.c (.ptr 4 0))]:List SV).getD i noS,fun n=>([none,none,some 0,some 1,some 2]:List (Option Nat)).getD n none,
  [(0,X),(1,Y)],[⟨2,29,[.v (.int .i64 1),.v (.float .f64 ca),.v (.float .f64 cb),.v (.float .f64 cc)],none⟩,⟨3,33,dL g 0 1,none⟩,⟨4,31,[.v (.pointer none),.v (.int .i64 0)],none⟩],
  fun i=>([0,0,0]:List Nat).getD i 0,fun i=>([[],[],[]]:List (List Nat)).getD i [],[(1,.w (.agg ([.v (.int .i64 1),.v (.float .f64 ca),.v (.float .f64 cb),.v (.float .f64 cc)]))),(2,fA g 0 1)]⟩)
  (W:=runW ⟨w,B,ns⟩ g) (ν0:=fun n=>([i,j]:List Nat).getD n 0) (c0:=N)
  (fs:=fun ν=>[(4,.pointer (some ⟨(ν 2),0,none⟩)),(5,.pointer (some ⟨(ν 3),0,none⟩)),(6,.pointer (some ⟨(ν 4),0,none⟩))]) 3 N [] []
  ⟨Spec.wf_of (by kernel_rfl),aU (by kernel_rfl),aM ⟨rfl,rfl,trivial⟩⟩ R1.out (Run.nodup R1.out) (by omega)
  (fun b hM=>aA (aA (aA aO
    (aW b m0))
    (aW b m1))
    (aW b m2)) ?_
 intro ν W2 hν hR;replace hR:Run ⟨w,B,ns⟩ g N [(X,ν 0),(Y,ν 1)] [((ν 2),.cells #[(.int .i64 1),(.float .f64 ca),(.float .f64 cb),(.float .f64 cc)] 29),((ν 3),dS g (ν 0) (ν 1)),((ν 4),.cells #[.pointer none,.int .i64 0] 31)] W2:=hR;have e0:ν 0=i:=hν 0 rfl;have e1:ν 1=j:=hν 1 rfl;simp only[e0,e1]at hR|-;clear hν e0 e1;generalize ν 2=b1 at hR|-;generalize ν 3=b2 at hR|-;generalize ν 4=b3 at hR|-;have R2:=hdd hR;clear hR R1;simp only[putL,bdE,bdF]
 go_upto_region 1 with fail
 refine Spec.run (S:=⟨_,fun i=>([.w (.c (.v (.pointer (some ⟨g,0,none⟩)))),.w (.c (.ptr 2 1)),.w (.c (.v (.float .f64 ca))),numS g 5,.w (.c (.ptr 3 0)),numS g 0,.w (.c (.sl 6 1)),numS g 7,.w (.c (.ptr 8 0)),noS]:List SV).getD i noS,fun n=>([none,none,none,none,none,some 3,some 6,some 7,some 8]:List (Option Nat)).getD n none,
  [(0,X),(1,Y),(5,(.leaf ca)),(7,(.mul (.leaf ca) X))],[⟨2,29,[.v (.int .i64 1),.v (.float .f64 ca),.v (.float .f64 cb),.v (.float .f64 cc)],none⟩,⟨3,33,dL g 0 1,none⟩,⟨4,31,[.v (.pointer none),.v (.int .i64 0)],none⟩,⟨6,31,numC g 0,none⟩,⟨8,31,[.v (.pointer none),.v (.int .i64 0)],some (9,numC g 7)⟩],
  fun i=>([0,0,0,1,0,0,0,1,0,0]:List Nat).getD i 0,fun i=>([[],[],[1],[0,1,2],[],[4],[4,5],[0,1,2,3,4,5,6],[],[0,1,2,3,4,5,6,7,8]]:List (List Nat)).getD i [],[(0,.w (.c (.v (.pointer (some ⟨g,0,none⟩))))),(4,.w (.c (.ptr 2 0))),(5,.w (.c (.ptr 3 0)))]⟩)
  (W:=runW ⟨w,B,ns⟩ g) (ν0:=fun n=>([i,j,b1,b2,b3]:List Nat).getD n 0) (c0:=N)
  (fs:=fun ν=>[(9,.pointer (some ⟨g,0,none⟩)),(10,.pointer (some ⟨(ν 2),1,none⟩)),(11,(.float .f64 ca)),(12,numV g (ν 5)),(13,.pointer (some ⟨(ν 3),0,none⟩)),(14,numV g (ν 0)),(15,.slice (some ⟨(ν 6),0,none⟩) 1 1),(16,numV g (ν 7)),(7,.pointer (some ⟨(ν 8),0,none⟩))]) 10 (N+2) [] []
  ⟨Spec.wf_of (by kernel_rfl),aU (by kernel_rfl),aM ⟨rfl,rfl,rfl,trivial⟩⟩ R2.out (Run.nodup R2.out) (by omega)
  (fun b hM=>aA (aA (aA (aA (aA (aA (aA (aA (aA (aA aO
    (aB b))
    (aB b))
    (aN b m0))
    (aI b (c_of hM hca.1 hca.2 rfl rfl rfl rfl)))
    (aB b))
    (aP b 2 m1))
    (dY b m3))
    (aI b (lM hM m2 m0 rfl rfl m3 rfl rfl rfl rfl rfl rfl rfl rfl)))
    (aW b m4))
    (dB b 2 m4)) ?_
 intro ν W3 hν hR;replace hR:Run ⟨w,B,ns⟩ g (N+2) [(X,ν 0),(Y,ν 1),((.leaf ca),ν 5),((.mul (.leaf ca) X),ν 7)] [((ν 2),.cells #[(.int .i64 1),(.float .f64 ca),(.float .f64 cb),(.float .f64 cc)] 29),((ν 3),dS g (ν 0) (ν 1)),((ν 4),.cells #[.pointer none,.int .i64 0] 31),((ν 6),numO g (ν 0)),((ν 8),numO g (ν 7))] W3:=hR;have e0:ν 0=i:=hν 0 rfl;have e1:ν 1=j:=hν 1 rfl;have e2:ν 2=b1:=hν 2 rfl;have e3:ν 3=b2:=hν 3 rfl;have e4:ν 4=b3:=hν 4 rfl;simp only[e0,e1,e2,e3,e4]at hR|-;clear hν e0 e1 e2 e3 e4;generalize ν 5=n4 at hR|-;generalize ν 6=b5 at hR|-;generalize ν 7=n6 at hR|-;generalize ν 8=b7 at hR|-;have R3:=hdd hR;clear hR R2;simp only[putL,bdE,bdF]
 go_upto_region 2 with fail
 refine Spec.run (S:=⟨_,fun i=>([.w (.c (.v (.pointer (some ⟨g,0,none⟩)))),.w (.c (.ptr 2 2)),.w (.c (.v (.float .f64 cb))),numS g 7,.w (.c (.ptr 3 2)),numS g 1,.w (.c (.sl 8 1)),numS g 9,.w (.c (.ptr 10 0)),noS]:List SV).getD i noS,fun n=>([none,none,none,none,none,none,none,some 3,some 6,some 7,some 8]:List (Option Nat)).getD n none,
  [(0,X),(1,Y),(5,(.mul (.leaf ca) X)),(7,(.leaf cb)),(9,(.mul (.leaf cb) Y))],[⟨2,29,[.v (.int .i64 1),.v (.float .f64 ca),.v (.float .f64 cb),.v (.float .f64 cc)],none⟩,⟨3,33,dL g 0 1,none⟩,⟨4,31,[.v (.pointer none),.v (.int .i64 0)],none⟩,⟨6,31,numC g 5,none⟩,⟨8,31,numC g 1,none⟩,⟨10,31,[.v (.pointer none),.v (.int .i64 0)],some (9,numC g 9)⟩],
  fun i=>([0,0,0,1,0,0,0,1,0,0]:List Nat).getD i 0,fun i=>([[],[],[1],[0,1,2],[],[4],[4,5],[0,1,2,3,4,5,6],[],[0,1,2,3,4,5,6,7,8]]:List (List Nat)).getD i [],[(0,.w (.c (.v (.pointer (some ⟨g,0,none⟩))))),(4,.w (.c (.ptr 2 0))),(5,.w (.c (.ptr 3 0)))]⟩)
  (W:=runW ⟨w,B,ns⟩ g) (ν0:=fun n=>([i,j,b1,b2,b3,n6,b7]:List Nat).getD n 0) (c0:=(N+2))
  (fs:=fun ν=>[(17,.pointer (some ⟨g,0,none⟩)),(18,.pointer (some ⟨(ν 2),2,none⟩)),(19,(.float .f64 cb)),(20,numV g (ν 7)),(21,.pointer (some ⟨(ν 3),2,none⟩)),(22,numV g (ν 1)),(23,.slice (some ⟨(ν 8),0,none⟩) 1 1),(24,numV g (ν 9)),(8,.pointer (some ⟨(ν 10),0,none⟩))]) 10 (N+4) [true,true,false] [true,true,true,false]
  ⟨Spec.wf_of (by kernel_rfl),aU (by kernel_rfl),aM ⟨rfl,rfl,rfl,trivial⟩⟩ R3.out (Run.nodup R3.out) (by omega)
  (fun b hM=>aA (aA (aA (aA (aA (aA (aA (aA (aA (aA aO
    (aB b))
    (aB b))
    (aN b m0))
    (aI b (c_of hM hcb.1 hcb.2 rfl rfl rfl rfl)))
    (aB b))
    (aP b 2 m1))
    (dY b m4))
    (aI b (lM hM m3 m1 rfl rfl m4 rfl rfl rfl rfl rfl rfl rfl rfl)))
    (aW b m5))
    (dB b 2 m5)) ?_
 intro ν W4 hν hR;replace hR:Run ⟨w,B,ns⟩ g (N+4) [(X,ν 0),(Y,ν 1),((.mul (.leaf ca) X),ν 5),((.leaf cb),ν 7),((.mul (.leaf cb) Y),ν 9)] [((ν 2),.cells #[(.int .i64 1),(.float .f64 ca),(.float .f64 cb),(.float .f64 cc)] 29),((ν 3),dS g (ν 0) (ν 1)),((ν 4),.cells #[.pointer none,.int .i64 0] 31),((ν 6),numO g (ν 5)),((ν 8),numO g (ν 1)),((ν 10),numO g (ν 9))] W4:=hR;have e0:ν 0=i:=hν 0 rfl;have e1:ν 1=j:=hν 1 rfl;have e2:ν 2=b1:=hν 2 rfl;have e3:ν 3=b2:=hν 3 rfl;have e4:ν 4=b3:=hν 4 rfl;have e5:ν 5=n6:=hν 5 rfl;have e6:ν 6=b7:=hν 6 rfl;simp only[e0,e1,e2,e3,e4,e5,e6]at hR|-;clear hν e0 e1 e2 e3 e4 e5 e6;generalize ν 7=n8 at hR|-;generalize ν 8=b9 at hR|-;generalize ν 9=n10 at hR|-;generalize ν 10=b11 at hR|-;have R4:=hdd hR;clear hR R3;simp only[putL,bdE,bdF]
 go_upto_region 3 with fail
 refine Spec.run (S:=⟨_,fun i=>([numS g 2,numS g 4,.w (.c (.sl 6 1)),numS g 7,.w (.c (.v (.pointer (some ⟨g,0,none⟩)))),.w (.c (.ptr 0 3)),.w (.c (.v (.float .f64 cc))),numS g 8,numS g 9,noS]:List SV).getD i noS,fun n=>([none,none,none,none,none,none,some 2,some 3,some 7,some 8]:List (Option Nat)).getD n none,
  [(2,(.mul (.leaf ca) X)),(4,(.mul (.leaf cb) Y)),(7,(.add (.mul (.leaf ca) X) (.mul (.leaf cb) Y))),(8,(.leaf cc)),(9,(.sub (.add (.mul (.leaf ca) X) (.mul (.leaf cb) Y)) (.leaf cc)))],[⟨0,29,[.v (.int .i64 1),.v (.float .f64 ca),.v (.float .f64 cb),.v (.float .f64 cc)],none⟩,⟨1,31,[.v (.pointer none),.v (.int .i64 0)],some (9,numC g 9)⟩,⟨3,31,numC g 2,none⟩,⟨5,31,numC g 4,none⟩,⟨6,31,numC g 4,none⟩],
  fun i=>([0,0,0,1,0,0,0,1,1,0]:List Nat).getD i 0,fun i=>([[],[],[1],[0,1,2],[],[],[5],[4,5,6],[0,1,2,3,4,5,6,7],[0,1,2,3,4,5,6,7,8]]:List (List Nat)).getD i [],[(7,.w (.c (.ptr 3 0))),(8,.w (.c (.ptr 5 0))),(0,.w (.c (.v (.pointer (some ⟨g,0,none⟩))))),(4,.w (.c (.ptr 0 0))),(6,.w (.c (.ptr 1 0)))]⟩)
  (W:=runW ⟨w,B,ns⟩ g) (ν0:=fun n=>([b1,b3,n6,b7,n10,b11]:List Nat).getD n 0) (c0:=(N+4))
  (fs:=fun ν=>[(25,numV g (ν 2)),(26,numV g (ν 4)),(27,.slice (some ⟨(ν 6),0,none⟩) 1 1),(28,numV g (ν 7)),(29,.pointer (some ⟨g,0,none⟩)),(30,.pointer (some ⟨(ν 0),3,none⟩)),(31,(.float .f64 cc)),(32,numV g (ν 8)),(33,numV g (ν 9))]) 10 (N+7) [false,false,true,false] [true,false,true,true,false]
  ⟨Spec.wf_of (by kernel_rfl),aU (by kernel_rfl),aM ⟨rfl,rfl,rfl,rfl,rfl,trivial⟩⟩ R4.out (Run.nodup R4.out) (by omega)
  (fun b hM=>aA (aA (aA (aA (aA (aA (aA (aA (aA (aA aO
    (aP b 2 m2))
    (aP b 2 m3))
    (dY b m4))
    (aI b (ab6 hM m0 m1 rfl rfl m4 rfl rfl rfl rfl rfl rfl rfl rfl)))
    (aB b))
    (aB b))
    (aN b m0))
    (aI b (c_of hM hcc.1 hcc.2 rfl rfl rfl rfl)))
    (aI b (wP hM m2 m3 rfl rfl rfl rfl rfl rfl)))
    (dB b 2 m1)) ?_
 intro ν W5 hν hR;replace hR:Run ⟨w,B,ns⟩ g (N+7) [((.mul (.leaf ca) X),ν 2),((.mul (.leaf cb) Y),ν 4),((.add (.mul (.leaf ca) X) (.mul (.leaf cb) Y)),ν 7),((.leaf cc),ν 8),((.sub (.add (.mul (.leaf ca) X) (.mul (.leaf cb) Y)) (.leaf cc)),ν 9)] [((ν 0),.cells #[(.int .i64 1),(.float .f64 ca),(.float .f64 cb),(.float .f64 cc)] 29),((ν 1),numO g (ν 9)),((ν 3),numO g (ν 2)),((ν 5),numO g (ν 4)),((ν 6),numO g (ν 4))] W5:=hR;have e0:ν 0=b1:=hν 0 rfl;have e1:ν 1=b3:=hν 1 rfl;have e2:ν 2=n6:=hν 2 rfl;have e3:ν 3=b7:=hν 3 rfl;have e4:ν 4=n10:=hν 4 rfl;have e5:ν 5=b11:=hν 5 rfl;simp only[e0,e1,e2,e3,e4,e5]at hR|-;clear hν e0 e1 e2 e3 e4 e5;generalize ν 6=b12 at hR|-;generalize ν 7=n13 at hR|-;generalize ν 8=n14 at hR|-;generalize ν 9=n15 at hR|-;have R5:=hdd hR;clear hR R4;simp only[putL,bdE,bdF];go_wp2;obtain⟨x0,x1,-,-⟩:=aD (R5.out.at m1);refine bodyPost_ret (v:=.agg #[_,_]) (by simp[results,Tryz.results25,go_sem,x0,x1];first|exact⟨rfl,rfl⟩|rfl) rfl ?_;exact⟨[n15],rfl,rfl,_,R5.out.few (mJ [4])⟩
end Go.Proofs.YtjaafolhfihegaaGreatDoor
namespace Go.Proofs.YtjaafolhfihegaaGreatDoor
open Go.RowKit
variable{xs:List Nat}{n:Nat}{p:Nat->Prop}{va:Value}{w:World}
theorem akE(a K m:Nat)(h:K<=m):a/2^K/2^(m-K)=a/2^m:=by
 rw[Nat.div_div_eq_div_mul,<-Nat.pow_add,Nat.add_sub_cancel' h]
theorem amP(hx:NatP p w va xs):
 Calls Tryz.prog 203 #[va,.int .i64 16777216] w (fun e w'=>∃K:Nat,(K:Int)=16777216/\RetN w.heap.size w (val xs/2^K) e w'):=
 (aeR (n:=16777216) hx nlr).mono fun _ _ h=>⟨16777216,rfl,h⟩
theorem kI(hx:NatP p w va xs)(hn:n<=9223372036854775807):
 Calls Tryz.prog 181 #[va,.int .i64 n] w (RetN w.heap.size w (val xs/2^n)):=by
 have HX:=hdd hx.any;clear hx;go_enter Tryz.func181,Tryz.ntmps181
 go_wp2_with fail
 go_loopw [0,1] (fun sv i wr=>∃(m:Nat) (ys:List Nat),m<=n/\i=.int .i64 m/\Hid (NatP AnyB wr sv ys)/\Hid (Below w.heap.size w wr)/\Hid (val ys/2^m=val xs/2^n)) (fun _ i _=>(intOf i).toNat)
 case atStart=>exact⟨n,xs,Nat.le_refl _,rfl,HX,hdd (Below.refl _ _),hdd rfl⟩
 case round=>
  obtain⟨m,ys,hm,rfl,HY,HB,HV⟩:=hrel;rcases Nat.lt_or_ge 16777216 m with h|h
  . have hi:(16777216:Int)<(m:Int):=by omega
    go_wp2_with fail
    refine(amP HY.out).mono ?_;rintro e w1⟨K,hK,hb,v1,zs,rfl,hz,tz,hvz⟩;have HZ:=hdd hz.any;have HB2:=hdd (HB.out.trans (hb.mono HB.out.size));have HV2:Hid (val zs/2^(m-K)=val xs/2^n):=hdd (by
     rw[hvz,<-HV.out];exact akE _ _ _ (by omega))
    have hsub:(m:Int)-16777216=((m-K:Nat):Int):=by omega
    clear hb hz tz hvz;go_wp2
    go_roundw
    case rel=>exact⟨m-K,zs,by omega,by go_num,HZ,HB2,HV2⟩
    case measure=>simp[intOf];omega
  . have hi:¬(16777216:Int)<(m:Int):=by omega
    go_wp2_with fail
    refine(aeR HY.out h).mono ?_;rintro e w1⟨hb,v1,zs,rfl,hz,tz,hvz⟩;have HF:=hdd (RetN.of (n:=val xs/2^n) (HB.out.trans (hb.mono HB.out.size)) (hz.weak fun b h _=>Nat.le_trans HB.out.size h) tz (by rw[hvz,HV.out]));clear hb hz tz hvz;go_wp2;go_ret;exact HF.out
theorem amQ(hx:NatP p w va xs)(hL:xs.length<1073741824):
 Calls Tryz.prog 237 #[va,.int .i64 16777216] w (fun e w'=>∃K:Nat,(K:Int)=16777216/\RetN w.heap.size w (val xs*2^K) e w'):=
 (aeQ (n:=16777216) hx nlr hL).mono fun _ _ h=>⟨16777216,rfl,h⟩
theorem akF(a K m:Nat)(h:K<=m):a*2^K*2^(m-K)=a*2^m:=by
 rw[Nat.mul_assoc,<-Nat.pow_add,Nat.add_sub_cancel' h]
theorem akG(xs zs:List Nat)(m n:Nat)(hx:OkL xs)(hz:OkL zs)(tz:Tr zs)(h:val zs*2^m=val xs*2^n):64*zs.length<=64*xs.length+n+63:=by
 have h1:=bO zs hz tz;have h2:bits (val zs)<=64*xs.length+n:=by
  rw[aG];have h3:val zs<=val zs*2^m:=Nat.le_mul_of_pos_right _ (Nat.two_pow_pos m);have h4:val xs<2^(64*xs.length):=by
   have:=bT xs hx;rwa[show B64=2^64 from rfl,<-Nat.pow_mul]at this
  have h5:val xs*2^n<2^(64*xs.length)*2^n:=Nat.mul_lt_mul_of_pos_right h4 (Nat.two_pow_pos n);rw[Nat.pow_add];omega
 omega
theorem iW(hx:NatP p w va xs)(hn:n<=134217728)(hL:xs.length<=1000000000):
 Calls Tryz.prog 228 #[va,.int .i64 n] w (RetN w.heap.size w (val xs*2^n)):=by
 have HX:=hdd hx.any;have HO:=hdd hx.ok;clear hx;have h0:¬(n:Int)<0:=by omega
 have h1:¬(134217728:Int)<(n:Int):=by omega
 go_enter Tryz.func228,Tryz.ntmps228
 go_wp2_with fail
 go_loopw [0,1] (fun sv i wr=>∃(m:Nat) (ys:List Nat),m<=n/\64*ys.length<=64*xs.length+n+63/\i=.int .i64 m/\Hid (NatP AnyB wr sv ys)/\Hid (Below w.heap.size w wr)/\Hid (val ys*2^m=val xs*2^n)) (fun _ i _=>(intOf i).toNat)
 case atStart=>exact⟨n,xs,Nat.le_refl _,by omega,rfl,HX,hdd (Below.refl _ _),hdd rfl⟩
 case round=>
  obtain⟨m,ys,hm,hl,rfl,HY,HB,HV⟩:=hrel;rcases Nat.lt_or_ge 16777216 m with h|h
  . have hi:(16777216:Int)<(m:Int):=by omega
    go_wp2_with fail
    refine(amQ HY.out (by omega)).mono ?_;rintro e w1⟨K,hK,hb,v1,zs,rfl,hz,tz,hvz⟩;have HZ:=hdd hz.any;have HB2:=hdd (HB.out.trans (hb.mono HB.out.size));have HV2:Hid (val zs*2^(m-K)=val xs*2^n):=hdd (by rw[hvz,<-HV.out];exact akF _ _ _ (by omega));have hl2:=akG xs zs _ n HO.out hz.ok tz HV2.out;have hsub:(m:Int)-16777216=((m-K:Nat):Int):=by omega
    clear hb hz tz hvz;go_wp2
    go_roundw
    case rel=>exact⟨m-K,zs,by omega,hl2,by go_num,HZ,HB2,HV2⟩
    case measure=>simp[intOf];omega
  . have hi:¬(16777216:Int)<(m:Int):=by omega
    go_wp2_with fail
    refine(aeQ HY.out h (by omega)).mono ?_;rintro e w1⟨hb,v1,zs,rfl,hz,tz,hvz⟩;have HF:=hdd (RetN.of (n:=val xs*2^n) (HB.out.trans (hb.mono HB.out.size)) (hz.weak fun b h _=>Nat.le_trans HB.out.size h) tz (by rw[hvz,HV.out]));clear hb hz tz hvz;go_wp2;go_ret;exact HF.out
end Go.Proofs.YtjaafolhfihegaaGreatDoor
