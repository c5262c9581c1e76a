/- A part of the proof: contracts of functions and plain laws (EX0, FnA, FlA, FlB, FlC, FlD, FlE, FlF, FlG, CkA). -/
import Derived.Test.YtgodkfgnhpnhcaaGreatDoorK33
import Derived.Test.YtgodkfgnhpnhcaaGreatDoorK12
import Derived.LaidEql
import Derived.Lib.IfaceEq
import Derived.Stop.Asserts
import Derived.Recover
import Derived.Defers
import Derived.Test.YtgodkfgnhpnhcaaGreatDoorK16
set_option linter.unusedVariables false
set_option linter.unusedSimpArgs false
set_option maxHeartbeats 25600000
set_option maxRecDepth 100000
namespace Go.Proofs.YtgodkfgnhpnhcaaGreatDoor
open Go.RowKit Go.Maps
open List renaming mem_append->apW,mem_cons->apX,zip_cons_cons->apY,all_eq_true->apZ,map_cons->ap0,mem_map->ap1
section
variable{P:Ex->Prop}{B N:Nat}{w w' w'' w0:World}{g:Nat}{ns ns':List Nd}
end
theorem aoO{P:Ex->Prop}{B N:Nat}{w:World}{g i j k l:Nat}{ns:List Nd}{px py qx qy:Ex}{s:Int}(hs:St P B N w g ns)(hN:N+1<20000)(hi:Is ns px i)(hj:Is ns py j)(hk:Is ns qx k)(hl:Is ns qy l)(hc:ajI P px py qx qy s):
 Calls Tryz.prog 29 #[aN g i j,aN g k l] w (RetQ P B (N+2) w g ns (.tuple #[.bool (s==0),.nilIface])):=by
 obtain⟨w2,hw2,hb2,hz2,b1,b2⟩:=pro2 w (.cells #[.pointer (some ⟨g,0,none⟩),.int .i64 (i:Int),.pointer (some ⟨g,0,none⟩),.int .i64 (j:Int)] 29) (.cells #[.pointer (some ⟨g,0,none⟩),.int .i64 (k:Int),.pointer (some ⟨g,0,none⟩),.int .i64 (l:Int)] 29);obtain⟨c0,c1,c2,c3⟩:=bH b1;obtain⟨d0,d1,d2,d3⟩:=bH b2;have HC:=hdd (ajJ (hs.below hb2) hN hi hj hk hl hc);have HGR:=hdd (Grew.start hs hb2);clear hs hN hi hj hk hl hc hb2 hz2 b1 b2;go_enter Tryz.func29,Tryz.ntmps29
 go_wp2_with fail
 refine HC.out.mono ?_;rintro e w3⟨rfl,ns1,h1,h2,h3⟩;have HF:=hdd (HGR.out.trans ⟨h1,h2,h3⟩);clear h1 h2 h3;go_wp2
 go_ret2
 exact⟨rfl,ns1,HF.out⟩
section
variable{α:Type}{a:α}{l:List α}
end
section
variable{s:Bs}{w0 w1 W W':World}{g N M:Nat}{K:List (Ex×Nat)}{l l':List (Nat×Obj)}
end
section
variable{s:Bs}{W W':World}{g N M:Nat}{K:List (Ex×Nat)}{l:List (Nat×Obj)}{x y:Ex}{ns:List Nd}
end
section
variable{s:Bs}{W:World}{g N i j k m b v:Nat}{K:List (Ex×Nat)}{l:List (Nat×Obj)}{x y:Ex}{q:Int}
variable{px py qx qy rx ry:Ex}{i' j' k':Nat}
theorem Run.same (h:Run s g N K l W)(hN:N+1<20000)(h1:(px,i)∈K)(h2:(py,i')∈K)(h3:(qx,j)∈K)(h4:(qy,j')∈K)(hc:ajI PT px py qx qy q):Calls Tryz.prog 29 #[aN g i i',aN g j j'] W (RtA s g (N+2) K l (.tuple #[.bool (q==0),.nilIface])):=by
 obtain⟨ns,hs,hK⟩:=h;exact(aoO hs.st hN (hK _ h1) (hK _ h2) (hK _ h3) (hK _ h4) hc).mono fun _ _ hr=>vY hs hK hr
end
section
variable{S:Spec Ex}{w0:Bs}{g c0:Nat}{a0:Act}{ν0:Nat->Nat}{i:Nat}{Q:Exit->Act->World->Prop}
variable(hM:c0+S.total<=20000){m n m' n' m2 n2 t t':Nat}{x y x' y' x2 y2:Ex}{q:Int}
include hM
section
variable(hx:(m,x)∈S.know)(hy:(n,y)∈S.know)(px:S.pre i m=true)(py:S.pre i n=true)
include hx px
include hy py
section
variable(hx':(m',x')∈S.know)(hy':(n',y')∈S.know)(px':S.pre i m'=true)(py':S.pre i n'=true)
include hx' hy' px' py'
theorem aoT(hc:S.cost i=2)(hv:S.val i=ansS (.int .i64 q))(hk:S.made i=[])(hS:ajI PT x y x' y' q):fI S w0 g c0 i 44 (fun ν=>#[aN g (ν m) (ν n),aN g (ν m') (ν n')]):=
 qH hM (d:=2) hc (fun ν=>by rw[hv];rfl) hk fun lst ν c w hD hl h=>h.cmpS (by omega) (dS hx (pre_on px hD)) (dS hy (pre_on py hD)) (dS hx' (pre_on px' hD)) (dS hy' (pre_on py' hD)) hS
theorem aoU(hc:S.cost i=2)(hv:S.val i=ansS (.bool (q==0)))(hk:S.made i=[])(hS:ajI PT x y x' y' q):fI S w0 g c0 i 29 (fun ν=>#[aN g (ν m) (ν n),aN g (ν m') (ν n')]):=
 qH hM (d:=2) hc (fun ν=>by rw[hv];rfl) hk fun lst ν c w hD hl h=>h.same (by omega) (dS hx (pre_on px hD)) (dS hy (pre_on py hD)) (dS hx' (pre_on px' hD)) (dS hy' (pre_on py' hD)) hS
end
end
end
def RtN(s:Bs)(g N:Nat)(K:List (Ex×Nat))(l:List (Nat×Obj))(V:List Nat->Value)(es:List Ex)(e:Ending)(W':World):Prop:=
 ∃ks:List Nat,ks.length=es.length/\e=.returned (V ks)/\Run s g N (es.zip ks++K) l W'
def FnOk(f:FuncId)(g d:Nat)(av:Array Value)(K0:List (Ex×Nat))(V:List Nat->Value)(es:List Ex):Prop:=
 ∀(s:Bs) (N:Nat) (K:List (Ex×Nat)) (l:List (Nat×Obj)) (W:World),Run s g N K l W->N+d<=20000->(∀p∈K0,p∈K)->Calls Tryz.prog f av W (RtN s g (N+d) K l V es)
def apQ(w:World)(B:Nat)(ns:List Nd)(g N:Nat)(V:List Nat->Value)(es:List Ex)(e:Ending)(W':World):Prop:=
 ∃ks:List Nat,ks.length=es.length/\e=.returned (V ks)/\∃l',Run ⟨w,B,ns⟩ g N (es.zip ks) l' W'
section
variable{f:FuncId}{g d:Nat}{av:Array Value}{K0:List (Ex×Nat)}{V:List Nat->Value}{es:List Ex}
theorem FnOk.of (h:∀w B ns N,Run ⟨w,B,ns⟩ g N K0 [] w->N+d<=20000->Calls Tryz.prog f av w (apQ w B ns g (N+d) V es)):FnOk f g d av K0 V es:=by
 intro s N K l W hR hN hK;obtain⟨ns',hs,hI⟩:=hR;refine(h W s.B ns' N (Run.enter hs.st (fun p hp=>hI p (hK p hp))) hN).mono ?_;rintro e W'⟨ks,h1,rfl,l',ns'',hs2,hI2⟩;refine⟨ks,h1,rfl,ns'',hs.step hs2.st hs2.pre hs2.grew.2.2,fun p hp=> ?_⟩;rcases apW.1 hp with hp|hp
 . exact hI2 p hp
 . exact(hI p hp).mono hs2.pre
theorem aoE{α:Type}{K K':List α}(ix:List Nat)(h:K'=ix.filterMap (K[·]?):=by rfl):∀p∈K',p∈K:=fun p hp=>by
 rw[h]at hp;obtain⟨j,-,h2⟩:=List.mem_filterMap.1 hp;exact List.mem_of_getElem? h2
end
def letters:List Nat->List Nat->(Nat->Nat)->Nat->Nat
 |t::ts,k::ks,ν,n=>if n=t then k else letters ts ks ν n
 |_,_,ν,n=>ν n
theorem an3:∀(ts ks:List Nat) (ν:Nat->Nat) (n:Nat),n∉ts->letters ts ks ν n=ν n
 |[],_,_,_,_=>rfl
 |_::_,[],_,_,_=>rfl
 |t::ts,k::ks,ν,n,h=>by
  rw[apX]at h;show(if n=t then k else letters ts ks ν n)=ν n;rw[if_neg (fun e=>h (Or.inl e)),an3 ts ks ν n (fun e=>h (Or.inr e))]
theorem an4:∀(ts ks:List Nat) (ν:Nat->Nat),ts.Nodup->ks.length=ts.length->ts.map (letters ts ks ν)=ks
 |[],[],_,_,_=>rfl
 |[],_::_,_,_,h=>by simp at h
 |_::_,[],_,_,h=>by simp at h
 |t::ts,k::ks,ν,hn,h=>by
  rw[List.nodup_cons]at hn;have e:ts.map (letters (t::ts) (k::ks) ν)=ts.map (letters ts ks ν):=List.map_congr_left fun n hm=>by
   show(if n=t then k else letters ts ks ν n)=_;rw[if_neg (fun e=>hn.1 (by rw[<-e];exact hm))]
  rw[ap0,e,an4 ts ks ν hn.2 (by simpa using h)];show(if t=t then k else _)::ks=k::ks;rw[if_pos rfl]
theorem an5{α:Type}{h:Nat->Nat}{q:Nat×α}:∀{ts:List Nat} {es:List α},q∈ts.zip es->(q.2,h q.1)∈es.zip (ts.map h)
 |[],_,hq=>by simp at hq
 |_::_,[],hq=>by simp at hq
 |t::ts,e::es,hq=>by
  rw[apY,apX]at hq;rw[ap0,apY,apX];rcases hq with rfl|hq
  . exact Or.inl rfl
  . exact Or.inr (an5 hq)
section
variable{S:Spec Ex}{w0:Bs}{g c0 i d:Nat}{f:FuncId}{args:(Nat->Nat)->Array Value}{ix ts:List Nat}{V:List Nat->Value}{es:List Ex}
theorem retL{lst:Nat->Bool}{ν:Nat->Nat}{c:Nat}{l:List (Nat×Obj)}{w':World}{ks:List Nat}(ht:(ts.all fun t=>S.cr t==some i)=true)(hn:ts.Nodup)(hk:S.made i=ts.zip es)(h1:ks.length=ts.length)(hR:Run w0 g c (es.zip ks++S.K lst ν) l w'):
 ∃ν',(∀n,S.cr n≠some i->ν' n=ν n)/\ts.map ν'=ks/\Run w0 g c (S.newK i ν'++S.K lst ν) l w':=by
 have hm:=an4 ts ks ν hn h1;refine⟨letters ts ks ν,fun n h=>an3 ts ks ν n fun hin=>h (by have:=apZ.1 ht n hin;simpa using this),hm,hR.few fun p hp=> ?_⟩;rcases apW.1 hp with h|h
 . obtain⟨q,h2,rfl⟩:=wC h
   rw[hk]at h2;have:=an5 (h:=letters ts ks ν) h2;rw[hm]at this;exact apW.2 (Or.inl this)
 . exact apW.2 (Or.inr h)
theorem c_fn(hM:c0+S.total<=20000)(F:∀ν,FnOk f g d (args ν) ((ix.map fun j=>S.know.getD j (0,.leaf 0)).map fun q=>(q.2,ν q.1)) V es)
 (hix:(ix.all fun j=>decide (j<S.know.length)&&S.pre i (S.know.getD j (0,.leaf 0)).1)=true:=by kernel_rfl) (hc:S.cost i=d:=by rfl) (hv:∀ν,(S.val i).den ν=V (ts.map ν):=by intro _;rfl)
 (ht:(ts.all fun t=>S.cr t==some i)=true:=by kernel_rfl) (hk:S.made i=ts.zip es:=by rfl) (hn:ts.Nodup:=by decide) (hl:ts.length=es.length:=by rfl):fI S w0 g c0 i f args:=by
 intro lst ν c w hD hcl hG;rw[hc]at hcl;refine(F ν w0 c _ _ w hG (by omega) fun p hp=> ?_).mono ?_
 . obtain⟨q,h1,rfl⟩:=ap1.1 hp
   obtain⟨j,h2,rfl⟩:=ap1.1 h1;have h3:=apZ.1 hix j h2;rw[Bool.and_eq_true,decide_eq_true_eq]at h3;refine dS ?_ (pre_on h3.2 hD);rw[List.getD_eq_getElem?_getD,List.getElem?_eq_getElem h3.1];exact List.getElem_mem h3.1
 . rintro e w'⟨ks,k1,rfl,hR⟩
   obtain⟨ν',a1,a2,a3⟩:=retL ht hn hk (by omega) hR;exact⟨ν',a1,by rw[hv,a2],by rw[hc];exact a3⟩
end
end Go.Proofs.YtgodkfgnhpnhcaaGreatDoor
namespace Go.Proofs.YtgodkfgnhpnhcaaGreatDoor
open Go.RowKit Go.Maps Go.Stop Go.Extern
open Go.Instr renaming typeAssert->ap2
open Go.World renaming cell?_of_block->ap3,cell?_setCell_same->ap4
variable{j k:Int}{a b c n:Nat}{S T:Nat->Prop}{v:Value}{w w':World}
inductive ErK(S:Nat->Prop)(w:World):Nat->Value->Int->Prop
 |kind {k:Int}:1<=k->k<=7->ErK S w 0 (.iface 135 (.int .i64 k)) k
 |inn {n b:Nat} {v:Value} {k:Int}:S b->w.cell? ⟨b,1,none⟩=some v->ErK S w n v k->ErK S w (n+1) (.iface 148 (.pointer (some ⟨b,0,none⟩))) k
 |att {n b:Nat} {v:Value} {k:Int}:S b->w.cell? ⟨b,1,none⟩=some v->ErK S w n v k->ErK S w (n+1) (.iface 181 (.pointer (some ⟨b,0,none⟩))) k
theorem ErK.block (h:w.cell? ⟨b,1,none⟩=some v):b<w.heap.size:=World.block_lt_of_cell? w _ h
theorem ErK.keep (h:ErK S w n v k)(hb:∀b,S b->b<w.heap.size->w'.cell? ⟨b,1,none⟩=w.cell? ⟨b,1,none⟩):ErK S w' n v k:=by
 induction h with
 |kind h1 h2=>exact .kind h1 h2
 |inn h0 h1 _ ih=>exact .inn h0 ((hb _ h0 (ErK.block h1)).trans h1) ih
 |att h0 h1 _ ih=>exact .att h0 ((hb _ h0 (ErK.block h1)).trans h1) ih
theorem ErK.mono (h:ErK S w n v k)(hb:∀b,S b->b<w.heap.size->T b):ErK T w n v k:=by
 induction h with
 |kind h1 h2=>exact .kind h1 h2
 |inn h0 h1 _ ih=>exact .inn (hb _ h0 (ErK.block h1)) h1 ih
 |att h0 h1 _ ih=>exact .att (hb _ h0 (ErK.block h1)) h1 ih
theorem ErK.low (h:ErK S w n v k)(hb:Below w.heap.size w w'):ErK S w' n v k:=
 h.keep fun _ _ hl=>ap3 (hb.block _ hl)
theorem ErK.bound (h:ErK S w n v k):1<=k/\k<=7:=by
 induction h with
 |kind h1 h2=>exact⟨h1,h2⟩
 |inn _ _ _ ih=>exact ih
 |att _ _ _ ih=>exact ih
theorem ErK.det (h:ErK S w n v k):∀{m:Nat} {j:Int},ErK T w m v j->n=m:=by
 induction h with
 |kind h1 h2=>intro m j h;cases h;rfl
 |inn _ h1 _ ih=>
  intro m j h;cases h with
  |inn _ g1 g2=>rw[h1]at g1;cases g1;rw[ih g2]
 |att _ h1 _ ih=>
  intro m j h;cases h with
  |att _ g1 g2=>rw[h1]at g1;cases g1;rw[ih g2]
noncomputable def edep(w:World)(v:Value):Nat:=by
 classical
 exact if h:∃n k,ErK (fun _=>True) w n v k then Classical.choose h else 0
theorem ErK.edep (h:ErK S w n v k):edep w v=n:=by
 unfold Go.Proofs.YtgodkfgnhpnhcaaGreatDoor.edep;have hx:∃n k,ErK (fun _=>True) w n v k:=⟨n,k,h.mono fun _ _ _=>trivial⟩;rw[dif_pos hx];obtain⟨j,hj⟩:=Classical.choose_spec hx;exact hj.det h
theorem aoH(h:w.cell? ⟨b,1,none⟩=some v):
 Calls Tryz.prog 307 #[.pointer (some ⟨b,0,none⟩)] w (fun e w'=>e=.returned v/\w'=w):=by
 go_enter Tryz.func307,Tryz.ntmps307
 go_wp2;go_ret;exact⟨rfl,rfl⟩
theorem aoI(h:w.cell? ⟨b,1,none⟩=some v):
 Calls Tryz.prog 310 #[.pointer (some ⟨b,0,none⟩)] w (fun e w'=>e=.returned v/\w'=w):=by
 go_enter Tryz.func310,Tryz.ntmps310
 go_wp2;go_ret;exact⟨rfl,rfl⟩
theorem an2(v:Value)(xT:TypeId)(w:World):(ap2 (.iface 135 v) xT 191 true).run Tryz.prog w=.ok (.tuple #[.nilIface,.bool false]) w:=run_typeAssert_lacksB Tryz.underlying191 (by kernel_rfl) (by kernel_rfl) v xT w
theorem anZ(v:Value)(xT:TypeId)(w:World):(ap2 (.iface 135 v) xT 192 true).run Tryz.prog w=.ok (.tuple #[.nilIface,.bool false]) w:=run_typeAssert_lacksB Tryz.underlying192 (by kernel_rfl) (by kernel_rfl) v xT w
theorem aoV(v:Value)(xT:TypeId)(w:World):(ap2 (.iface 135 v) xT 189 true).run Tryz.prog w=.ok (.tuple #[.nilIface,.bool false]) w:=run_typeAssert_lacksB Tryz.underlying189 (by kernel_rfl) (by kernel_rfl) v xT w
theorem an6(v:Value)(xT:TypeId)(w:World):(ap2 (.iface 148 v) xT 191 true).run Tryz.prog w=.ok (.tuple #[.iface 148 v,.bool true]) w:=run_typeAssert_hasB Tryz.underlying191 (by kernel_rfl) v xT w
theorem apE(v:Value)(xT:TypeId)(w:World):(ap2 (.iface 148 v) xT 189 true).run Tryz.prog w=.ok (.tuple #[.nilIface,.bool false]) w:=run_typeAssert_lacksB Tryz.underlying189 (by kernel_rfl) (by kernel_rfl) v xT w
theorem an7(v:Value)(xT:TypeId)(w:World):(ap2 (.iface 181 v) xT 191 true).run Tryz.prog w=.ok (.tuple #[.iface 181 v,.bool true]) w:=run_typeAssert_hasB Tryz.underlying191 (by kernel_rfl) v xT w
theorem apF(v:Value)(xT:TypeId)(w:World):(ap2 (.iface 181 v) xT 189 true).run Tryz.prog w=.ok (.tuple #[.nilIface,.bool false]) w:=run_typeAssert_lacksB Tryz.underlying189 (by kernel_rfl) (by kernel_rfl) v xT w
theorem anW (v : Value) (w : World) : (Go.method 389 148 v "Unwrap").run Tryz.prog w = .ok (307, v) w := by kernel_rfl
theorem anX (v : Value) (w : World) : (Go.method 389 181 v "Unwrap").run Tryz.prog w = .ok (310, v) w := by kernel_rfl
theorem aoP{s:Nat}{c:Int}(h:ErK S w n v k)(hc:w.cell? ⟨s,0,none⟩=some (.int .i64 c))(hz:w.frozen? ⟨s,0,none⟩=false)(hc0:0<=c)(hcn:c+n<16777216)(hs:∀b,(∃v,w.cell? ⟨b,1,none⟩=some v)->b≠s):
 Calls Tryz.prog 119 #[v,.int .i64 0,.pointer (some ⟨s,0,none⟩)] w (fun e w'=>e=.returned (.bool false)/\Fr (fun b=>b=s) w w'):=by
 have HS:=hdd hs;have nK:=an2;have nKs:=anZ;have uI:=an6;have uA:=an7;have mI:=anW;have mA:=anX;have HH:=hdd h;have HC:=hdd hc;have HZ:=hdd hz;clear hs h hc hz;go_enter Tryz.func119,Tryz.ntmps119
 go_wp2_with fail
 go_loopw [0] (fun v' wr=>∃n':Nat,n'<=n/\Hid (ErK S w n' v' k)/\Hid (Fr (fun b=>b=s) w wr)/\Hid (wr.cell? ⟨s,0,none⟩=some (.int .i64 (c+(n-n':Nat))))/\Hid (wr.frozen? ⟨s,0,none⟩=false)) (fun v' _=>edep w v')
 case atStart=>exact⟨n,Nat.le_refl _,HH,hdd (Fr.of_below (Below.refl _ _)),hdd (by rw[Nat.sub_self];simpa using HC.out),HZ⟩
 case round=>
  obtain⟨n',hn',HE,HF,HCC,HZZ⟩:=hrel;have cs:=HCC.out;have fs:=HZZ.out;have hle:¬(c+((n-n':Nat):Int)+1>16777216):=by omega
  have hE:=HE.out;clear HE
  cases hE with
  |kind h1 h2=>
   go_wp2_with fail
   go_ret;exact⟨rfl,Fr.setCell HF.out rfl _⟩
  |@inn n1 b v1 k h0 h1 h2=>
   have HE2:=hdd h2;have HED:Hid (edep w (.iface 148 (.pointer (some ⟨b,0,none⟩)))=n1+1/\edep w v1=n1):=hdd ⟨(ErK.inn h0 h1 h2).edep,h2.edep⟩;have hbs:b≠s:=HS.out b ⟨_,h1⟩;have h1r:wr.cell? ⟨b,1,none⟩=some v1:=(ap3 (HF.out.block b (ErK.block h1) (fun h=>hbs h))).trans h1;have HU:Hid (∀u,Calls Tryz.prog 307 #[.pointer (some ⟨b,0,none⟩)] (wr.setCell ⟨s,0,none⟩ u) (fun e w''=>e=.returned v1/\w''=wr.setCell ⟨s,0,none⟩ u)):=hdd fun u=>aoH ((ap3 (Below.heap_setCell wr _ u b hbs)).trans h1r);clear h0 h1 h2 h1r hbs;go_wp2_with fail
   refine(HU.out _).mono ?_;rintro e w2⟨rfl,rfl⟩;go_wp2_with fail
   go_roundw
   case rel=>
    refine⟨n1,by omega,HE2,hdd (Fr.setCell HF.out rfl _),hdd ?_,hdd (by simp[fs])⟩;have:((n-n1:Nat):Int)=((n-(n1+1):Nat):Int)+1:=by omega
    rw[this,<-Int.add_assoc];exact ap4 _ _ _ cs
   case measure=>have:=HED.out;simp[this]
  |@att n1 b v1 k h0 h1 h2=>
   have HE2:=hdd h2;have HED:Hid (edep w (.iface 181 (.pointer (some ⟨b,0,none⟩)))=n1+1/\edep w v1=n1):=hdd ⟨(ErK.att h0 h1 h2).edep,h2.edep⟩;have hbs:b≠s:=HS.out b ⟨_,h1⟩;have h1r:wr.cell? ⟨b,1,none⟩=some v1:=(ap3 (HF.out.block b (ErK.block h1) (fun h=>hbs h))).trans h1;have HU:Hid (∀u,Calls Tryz.prog 310 #[.pointer (some ⟨b,0,none⟩)] (wr.setCell ⟨s,0,none⟩ u) (fun e w''=>e=.returned v1/\w''=wr.setCell ⟨s,0,none⟩ u)):=hdd fun u=>aoI ((ap3 (Below.heap_setCell wr _ u b hbs)).trans h1r);clear h0 h1 h2 h1r hbs;go_wp2_with fail
   refine(HU.out _).mono ?_;rintro e w2⟨rfl,rfl⟩;go_wp2_with fail
   go_roundw
   case rel=>
    refine⟨n1,by omega,HE2,hdd (Fr.setCell HF.out rfl _),hdd ?_,hdd (by simp[fs])⟩;have:((n-n1:Nat):Int)=((n-(n1+1):Nat):Int)+1:=by omega
    rw[this,<-Int.add_assoc];exact ap4 _ _ _ cs
   case measure=>have:=HED.out;simp[this]
theorem aoJ(h:ErK S w n v k)(hn:n<16777216):
 Calls Tryz.prog 90 #[v] w (fun e w'=>e=.returned (.bool false)/\Below w.heap.size w w'):=by
 have hb1:Below w.heap.size w (w.alloc (.cells #[.int .i64 0] 3)):=Below.alloc (Below.refl _ _) nlr _;have h1:=h.low hb1;have HL:=hdd (aoP (s:=w.heap.size) (c:=0) h1 (by simp) (by simp) (by omega) (by omega) (fun b hb=>by
  obtain⟨v',hv'⟩:=hb;intro hbs;subst hbs;simp at hv'))
 have HB:=hdd hb1;clear h h1 hb1;go_enter Tryz.func90,Tryz.ntmps90
 go_wp2_with fail
 refine HL.out.mono ?_;rintro e w2⟨rfl,hf⟩;have HB2:Hid (Below w.heap.size w w2):=hdd (HB.out.trans (hf.below HB.out.size (fun i hi=>by omega)));go_wp2_with fail
 go_ret;exact⟨rfl,HB2.out⟩
theorem aoW(v:Value)(w:World):(Extern.ReflectliteType.typeOf #[.iface 135 v]).run Tryz.prog w=.ok (.iface 187 (.agg #[.pointer (some ⟨4,135,none⟩)])) w:=by kernel_rfl
def cmpX (args : Array Value) : Sem Value := Extern.ReflectliteType.method (fun t => do Extern.Rtype.noPackHeld "Comparable" t; pure (.bool (← typeInfo t).comparable)) args
theorem aoF(w:World):(cmpX #[.agg #[.pointer (some ⟨4,135,none⟩)]]).run Tryz.prog w=.ok (.bool true) w:=by kernel_rfl
theorem an0 (v : Value) (w : World) : (Go.method 389 187 v "Comparable").run Tryz.prog w = .ok (314, v) w := by kernel_rfl
theorem ao8(a b:Int)(w:World):(binOp .eql 34 (.iface 135 (.int .i64 a)) (.iface 135 (.int .i64 b))).run Tryz.prog w=.ok (.bool (a==b)) w:=
 Lib.run_eql_iface_int w a b Tryz.underlying34 (by kernel_rfl) Tryz.underlying135
theorem aoX(h:ErK S w n v k):
 Calls Tryz.prog 100 #[v,.iface 135 (.int .i64 j),.bool true] w (fun e w'=>e=.returned (.bool (k==j))/\w'=w):=by
 have nK:=an2;have nKs:=anZ;have iK:=aoV;have iI:=apE;have iA:=apF;have uI:=an6;have uA:=an7;have mI:=anW;have mA:=anX;have eq:=ao8;have eI:∀(p x:Value) (w:World),(binOp .eql 34 (.iface 148 p) (.iface 135 x)).run Tryz.prog w=.ok (.bool false) w:=fun p x w=>run_eql_iface_types (P:=Tryz.prog) _ _ p x Tryz.underlying34 (by decide) w;have eA:∀(p x:Value) (w:World),(binOp .eql 34 (.iface 181 p) (.iface 135 x)).run Tryz.prog w=.ok (.bool false) w:=fun p x w=>run_eql_iface_types (P:=Tryz.prog) _ _ p x Tryz.underlying34 (by decide) w;have HH:=hdd h;clear h;go_enter Tryz.func100,Tryz.ntmps100
 go_wp2_with fail
 go_loopw [0] (fun v' wr=>∃n':Nat,n'<=n/\Hid (ErK S w n' v' k)/\wr=w) (fun v' _=>edep w v')
 case atStart=>exact⟨n,Nat.le_refl _,HH,rfl⟩
 case round=>
  obtain⟨n',hn',HE,rfl⟩:=hrel;have hE:=HE.out;clear HE
  cases hE with
  |kind h1 h2=>
   go_wp2_with fail
   all_goals go_ret
   all_goals exact⟨by simp_all,rfl⟩
  |@inn n1 b v1 k h0 h1 h2=>
   have HE2:=hdd h2;have HED:Hid (edep wr (.iface 148 (.pointer (some ⟨b,0,none⟩)))=n1+1/\edep wr v1=n1):=hdd ⟨(ErK.inn h0 h1 h2).edep,h2.edep⟩;have HU:=hdd (aoH h1);have hnn:∃t x,v1=.iface t x:=by cases h2<;>exact⟨_,_,rfl⟩
   obtain⟨vt,vx,hvv⟩:=hnn;subst hvv;clear h0 h1 h2;go_wp2_with fail
   refine HU.out.mono ?_;rintro e w2⟨rfl,rfl⟩;go_wp2_with fail
   go_roundw
   case rel=>exact⟨n1,by omega,HE2,trivial⟩
   case measure=>have:=HED.out;simp[this]
  |@att n1 b v1 k h0 h1 h2=>
   have HE2:=hdd h2;have HED:Hid (edep wr (.iface 181 (.pointer (some ⟨b,0,none⟩)))=n1+1/\edep wr v1=n1):=hdd ⟨(ErK.att h0 h1 h2).edep,h2.edep⟩;have HU:=hdd (aoI h1);have hnn:∃t x,v1=.iface t x:=by cases h2<;>exact⟨_,_,rfl⟩
   obtain⟨vt,vx,hvv⟩:=hnn;subst hvv;clear h0 h1 h2;go_wp2_with fail
   refine HU.out.mono ?_;rintro e w2⟨rfl,rfl⟩;go_wp2_with fail
   go_roundw
   case rel=>exact⟨n1,by omega,HE2,trivial⟩
   case measure=>have:=HED.out;simp[this]
theorem apG(h:ErK S w n v k):
 Calls Tryz.prog 61 #[v,.iface 135 (.int .i64 j)] w (fun e w'=>e=.returned (.bool (k==j))/\w'=w):=by
 have hnn:∃t x,v=.iface t x:=by cases h<;>exact⟨_,_,rfl⟩
 obtain⟨vt,vx,rfl⟩:=hnn;have h8:=@run_callFunc_extern Tryz.prog 99 _ Extern.ReflectliteType.typeOf Tryz.func99 (by kernel_rfl) (by kernel_rfl) (by kernel_rfl) (by kernel_rfl);have h32:=@run_callFunc_extern Tryz.prog 314 _ cmpX Tryz.func314 (by kernel_rfl) (by kernel_rfl) (by kernel_rfl) (by kernel_rfl);have tT:=aoW;have cT:=aoF;have mR:=an0;have HH:=hdd (aoX (j:=j) h);clear h;go_enter Tryz.func61,Tryz.ntmps61
 go_wp2_with fail
 refine HH.out.mono ?_;rintro e w2⟨rfl,rfl⟩;go_wp2_with fail
 go_ret;exact⟨rfl,rfl⟩
theorem aoQ(p:Addr)(w:World):
 CallsD Tryz.prog 89 #[.pointer (some p)] .returning w fun e u' w'=>e=.returned (.tuple #[])/\u'=.returning/\w'=w:=by
 refine callsD_of_wpS Tryz.func89 rfl fun c₀ cs hu=> ?_;apply wpS_seq;apply wpS_region;simp[wpOpsS,go_sem,recoverD,hu,Tryz.ntmps89,Exit.thenS];refine wpS_cond (t:=false) (by simp[Act.eval,Array.replicate]) ?_;simp only[Bool.false_eq_true,if_false];refine wpS_of_wp (wp_skip ?_)
 cases c₀
 simp_all[bodyPostS,results,Tryz.results89]
theorem aoY(h:ErK S w n v k)(hn:n<16777216):
 Calls Tryz.prog 48 #[v] w (fun e w'=>e=.returned (.int .i64 k)/\Below w.heap.size w w'):=by
 have hmf:∀(fn:Fn) (first cap:Array Value) (w:World),(Instr.makeFunc fn first cap).run Tryz.prog w=.ok (.func fn first cap) w:=fun _ _ _ _=>rfl;have hnn:∃t x,v=.iface t x:=by cases h<;>exact⟨_,_,rfl⟩
 obtain⟨vt,vx,rfl⟩:=hnn;have hbd:=h.bound;obtain⟨w1,hw1,hb1,hs1,b1⟩:=pro1 w (.cells #[.int .i64 0] 3);have HE1:=hdd (aoJ (h.low hb1) hn);have HB1:=hdd hb1;have HIS:Hid (∀w' j,Below w.heap.size w w'->Calls Tryz.prog 61 #[.iface vt vx,.iface 135 (.int .i64 j)] w' (fun e w''=>e=.returned (.bool (k==j))/\w''=w')):=hdd fun w' j h'=>apG (h.low h');clear h
 go_enter_defers Tryz.func48,Tryz.ntmps48
 have c0:w1.cell? ⟨w.heap.size,0,none⟩=some (.int .i64 0):=by simp[<-hw1]
 have z0:w1.frozen? ⟨w.heap.size,0,none⟩=false:=by simp[<-hw1]
 go_wp2_with fail
 refine HE1.out.mono ?_;rintro e w2⟨rfl,hb2⟩;have c2:w2.cell? ⟨w.heap.size,0,none⟩=some (.int .i64 0):=cell_below c0 hb2 (by omega);have z2:w2.frozen? ⟨w.heap.size,0,none⟩=false:=(hb2.frozen (by simp[hs1])).trans z0;have HB2:=hdd (HB1.out.trans (hb2.mono HB1.out.size));clear hb2 c0 z0;go_wp2_with fail
 go_loopw [3] (fun i wr=>∃j:Int,1<=j/\j<=k/\i=.int .i64 j/\wr=w2) (fun i _=>(8-intOf i).toNat)
 case atStart=>exact⟨1,by omega,hbd.1,rfl,rfl⟩
 case round=>
  obtain⟨j,hj1,hjk,rfl,rfl⟩:=hrel;have h7:j<=7:=by omega
  go_wp2_with fail
  refine(HIS.out _ j HB2.out).mono ?_;rintro e w3⟨rfl,rfl⟩;by_cases hkj:k=j
  . subst hkj
    have hbk:(k==k)=true:=by simp
    rw[hbk];go_wp2_with fail
    refine leaves_cons (f:=89) (args:=#[.pointer (some ⟨w.heap.size,0,none⟩)]) (by simp) (by simp[go_sem]) ?_;refine(aoQ ⟨w.heap.size,0,none⟩ _).mono ?_;rintro e u' w''⟨rfl,rfl,rfl⟩;have HF:=HB2.out.setCell (p:=⟨w.heap.size,0,none⟩) nlr (.int .i64 k);simp[Leaves,settle,results,Tryz.results48,go_sem,c2];exact HF
  . have hbk:(k==j)=false:=by simp[hkj]
    rw[hbk];go_wp2_with fail
    go_roundw
    case rel=>exact⟨j+1,by omega,by omega,by go_num,trivial⟩
    case measure=>simp[intOf];omega
abbrev aoZ(w w':World)(b:Nat):Prop:=w.heap.size<=b/\b<w'.heap.size
def apR(w:World)(k:Int)(e:Ending)(w':World):Prop:=∃er n,e=.returned er/\n<=1000/\ErK (aoZ w w') w' n er k/\Below w.heap.size w w'
theorem apH{s:ByteArray}(h:ErK S w n v k):
 Calls Tryz.prog 66 #[.string s,v] w (fun e w'=>∃er,e=.returned er/\ErK (fun b=>S b\/aoZ w w' b) w' (n+1) er k/\Below w.heap.size w w'):=by
 have hnn:∃t x,v=.iface t x:=by cases h<;>exact⟨_,_,rfl⟩
 obtain⟨vt,vx,rfl⟩:=hnn;have hb:Below w.heap.size w (w.alloc (.cells #[.string s,.iface vt vx] 150)):=Below.alloc (Below.refl _ _) nlr _;have HE:Hid (ErK (fun b=>S b\/aoZ w (w.alloc (.cells #[.string s,.iface vt vx] 150)) b) (w.alloc (.cells #[.string s,.iface vt vx] 150)) (n+1) (.iface 148 (.pointer (some ⟨w.heap.size,0,none⟩))) k):=hdd (.inn (Or.inr ⟨Nat.le_refl _,by simp⟩) (by simp) ((h.low hb).mono fun _ h _=>Or.inl h));have HB:=hdd hb;clear h hb;go_enter Tryz.func66,Tryz.ntmps66
 go_wp2;go_ret;exact⟨_,rfl,HE.out,HB.out⟩
abbrev curV(k:Int)(a b c:Nat):Value:=.agg #[.int .i64 k,.float .f64 a,.float .f64 b,.float .f64 c]
abbrev curO(k:Int)(a b c:Nat):Obj:=.cells #[.int .i64 k,.float .f64 a,.float .f64 b,.float .f64 c] 89
abbrev FlOk(b:Nat):Prop:=b<18446744073709551616/\fin b
theorem aoC:0<=sr b↔0<=fv b:=by
 unfold fv;rw[<-acB,eG]
theorem degen_any:Calls Tryz.prog 65 #[] w (fun e w'=>e=.returned (.iface 135 (.int .i64 5))/\w'=w):=by
 go_enter Tryz.func65,Tryz.ntmps65
 go_wp2;go_ret;exact⟨rfl,rfl⟩
theorem aoN(ha:FlOk a)(hb:FlOk b)(hc:FlOk c)(h0:0<=fv c):Calls Tryz.prog 95 #[curV 2 a b c] w (RetV w .nilIface):=by
 obtain⟨w1,hw1,hb1,hs1,b1⟩:=pro1 w (curO 2 a b c);obtain⟨c0,c1,c2,c3⟩:=bH b1;have HB:=hdd hb1;have FA:Hid (∀w',Calls Tryz.prog 123 #[.float .f64 a] w' (RetB w' true)):=hdd fun w'=>by have:=jY (w:=w') ha.1;rwa[decide_eq_true ha.2]at this
 have FB:Hid (∀w',Calls Tryz.prog 123 #[.float .f64 b] w' (RetB w' true)):=hdd fun w'=>by have:=jY (w:=w') hb.1;rwa[decide_eq_true hb.2]at this
 have FC:Hid (∀w',Calls Tryz.prog 123 #[.float .f64 c] w' (RetB w' true)):=hdd fun w'=>by have:=jY (w:=w') hc.1;rwa[decide_eq_true hc.2]at this
 have hg:=amN (b:=c) hc.2.num num0;rw[sr0,decide_eq_true (aoC.2 h0)]at hg;clear ha hb hc h0 hb1 hs1 b1;go_enter Tryz.func95,Tryz.ntmps95
 go_wp2_with fail
 refine(FA.out _).mono ?_;rintro e w2⟨rfl,hw⟩;obtain rfl:=hw;go_wp2_with fail
 refine(FB.out _).mono ?_;rintro e w2⟨rfl,hw⟩;obtain rfl:=hw;go_wp2_with fail
 refine(FC.out _).mono ?_;rintro e w2⟨rfl,hw⟩;obtain rfl:=hw;go_wp2;go_ret;exact⟨rfl,HB.out⟩
theorem ao0(ha:FlOk a)(hb:FlOk b)(hc:FlOk c)(h0:fv c<0):Calls Tryz.prog 95 #[curV 2 a b c] w (apR w 5):=by
 obtain⟨w1,hw1,hb1,hs1,b1⟩:=pro1 w (curO 2 a b c);obtain⟨c0,c1,c2,c3⟩:=bH b1;have HB:=hdd hb1;have FA:Hid (∀w',Calls Tryz.prog 123 #[.float .f64 a] w' (RetB w' true)):=hdd fun w'=>by have:=jY (w:=w') ha.1;rwa[decide_eq_true ha.2]at this
 have FB:Hid (∀w',Calls Tryz.prog 123 #[.float .f64 b] w' (RetB w' true)):=hdd fun w'=>by have:=jY (w:=w') hb.1;rwa[decide_eq_true hb.2]at this
 have FC:Hid (∀w',Calls Tryz.prog 123 #[.float .f64 c] w' (RetB w' true)):=hdd fun w'=>by have:=jY (w:=w') hc.1;rwa[decide_eq_true hc.2]at this
 have hg:=amN (b:=c) hc.2.num num0;rw[sr0,decide_eq_false (fun h=>by have:=aoC.1 h;omega)]at hg;have HI:=hdd (apH (w:=w1) (s:=⟨#[99,105,114,99,108,101]⟩) (ErK.kind (S:=fun _=>False) (k:=5) (by decide) (by decide)));clear ha hb hc h0 hb1 hs1 b1;go_enter Tryz.func95,Tryz.ntmps95
 go_wp2_with fail
 refine(FA.out _).mono ?_;rintro e w2⟨rfl,hw⟩;obtain rfl:=hw;go_wp2_with fail
 refine(FB.out _).mono ?_;rintro e w2⟨rfl,hw⟩;obtain rfl:=hw;go_wp2_with fail
 refine(FC.out _).mono ?_;rintro e w2⟨rfl,hw⟩;obtain rfl:=hw;go_wp2_with fail
 refine degen_any.mono ?_;rintro e w2⟨rfl,hw⟩;obtain rfl:=hw;go_wp2_with fail
 refine HI.out.mono ?_;rintro e w2⟨er,rfl,he,hb2⟩;have HE:=hdd he;have HB2:=hdd hb2;clear he hb2;go_wp2;go_ret;exact⟨er,1,rfl,by omega,HE.out.mono fun b hb _=>by
  rcases hb with h|h
  . exact h.elim
  . exact⟨Nat.le_trans HB.out.size h.1,h.2⟩,HB.out.trans (HB2.out.mono HB.out.size)⟩
end Go.Proofs.YtgodkfgnhpnhcaaGreatDoor
