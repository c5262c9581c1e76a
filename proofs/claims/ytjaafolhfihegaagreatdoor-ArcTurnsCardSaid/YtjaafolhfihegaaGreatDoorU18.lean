/- A part of the proof: contracts of functions and plain laws (RlE, RlF, FlA, FlB, FlC, FlD, FlE, FlF, FlG, CkA, CkB, MtA). -/
import Derived.Test.YtjaafolhfihegaaGreatDoorU17
import Derived.Test.YtjaafolhfihegaaGreatDoorU14
import Derived.LaidEql
import Derived.Lib.IfaceEq
import Derived.Stop.Asserts
import Derived.Recover
import Derived.Defers
set_option linter.unusedVariables false
set_option linter.unusedSimpArgs false
set_option maxHeartbeats 25600000
set_option maxRecDepth 100000
namespace Go.Proofs.YtjaafolhfihegaaGreatDoor
open Go.RowKit Go.Maps
variable{e0:Ex}{P:Ex->Prop}{s:Int}{l:List Nat}{ns:List Nd}{B N g i:Nat}{v:Value}{w:World}
theorem am4{es:List Ex}(hs:St P B N w g ns)(hl:NumsP w v g l)(hlen:l.length=es.length)(h0:0<l.length)
 (he0:Is ns e0 i) (hes:∀(m x:Nat) e,l[m]? =some x->es[m]? =some e->Is ns e x) (hP:∀m,m<es.length->P (gJ 1 e0 (es.take (m+1)))) (hN:N+l.length<=20000):
 Calls Tryz.prog 35 #[numV g i,v] w (RetE P B (N+l.length) w g ns (numV g) (gJ 1 e0 es)):=by
 obtain⟨w2,hw2,hb2,hs2,b1,b2⟩:=pro2 w (.cells #[.pointer (some ⟨g,0,none⟩),.int .i64 (i:Int)] 31) (.cells #[.pointer none,.int .i64 0] 31);have hll:∀x∈l,x<ns.length:=fun x hx=>by
  obtain⟨m,hm⟩:=List.getElem?_of_mem hx;have hml:=(List.getElem?_eq_some_iff.1 hm).1;exact(hes m x es[m] hm (List.getElem?_eq_getElem (by omega))).lt
 have HG:=hdd (wL (hs.dag.below hb2) he0.lt (hl.below hb2) hll);have HIDS:Hid (∀w',Below w.heap.size w w'->Calls Tryz.prog 68 #[.agg #[.pointer (some ⟨g,0,none⟩),.int .i64 (i:Int)],v] w' (aaO w' (i::l))):=hdd fun w' h=>afJ (hl.below h);have HAW:Hid (∀w' (c:Nat),Below w.heap.size w w'->w.heap.size<=c->¬DagB w' g c):=hdd fun w' c h=>hs.away h;have HOP:Hid (∀w' v' (q:Nat),Below w.heap.size w w'->w.heap.size<=q->IntsP (fun b=>q<=b) w' v' (i::l)->Calls Tryz.prog 73 #[.pointer (some ⟨g,0,none⟩),v'] w' (RetE P B (N+l.length) w' g ns idV (gJ 1 e0 es))):=
  hdd fun w' v' q h hq hi=>by
   obtain⟨b,c,q1,q2,q3,q4,q5,q6⟩:=hi;exact aj9 (hs.below h) ⟨b,c,q1,q2,q3,hs.away h (Nat.le_trans hq q4),q5,q6⟩ hlen h0 he0 hes hP hN
 have HGL:=hdd hs.dag.glt;have HBL:=hdd hs.hB;obtain⟨e0',e1',-,-⟩:=aD b1;have HB2:=hdd hb2;have B2:=hdd b2;have HSZ:Hid (w.heap.size+1<w2.heap.size):=hdd (by omega);obtain⟨bv,cv,rfl,-⟩:=id hl;clear hs hl hlen h0 he0 hes hP hN hll hb2 hs2 b1 b2;go_enter Tryz.func35,Tryz.ntmps35
 go_wp2_with fail
 refine HG.out.mono ?_;rintro e w5⟨rfl,hb5⟩;have hb5d:Below w2.heap.size w2 w5.drew:=aC hb5 (Below.refl _ _).drew;replace e0':=cell_below e0' hb5d nlr;replace e1':=cell_below e1' hb5d nlr;have HB5:=hdd (aC HB2.out hb5d);have B5:=hdd (hbl B2.out hb5d);clear hb5 hb5d;have n1:w.heap.size+1≠w.heap.size:=by omega
 have n2:w.heap.size≠w.heap.size+1:=by omega
 go_wp2_with fail
 go_region_held3 (fun w'=>w'.cell? ⟨w.heap.size,0,none⟩=some (.pointer (some ⟨g,0,none⟩))/\w'.cell? ⟨w.heap.size,1,none⟩=some (.int .i64 (i:Int))) (go_keep)
  (first
  |(go_at_call 68
    refine(HIDS.out _ HB5.out).mono ?_;rintro e w6⟨hb6,v6,rfl,hi6⟩;have e0':=cell_below e0' hb6 nlr;have e1':=cell_below e1' hb6 nlr;have HB6:=hdd (aC HB5.out hb6);have B6:=hdd (hbl B5.out hb6);have HADD:=hdd (HOP.out w6 v6 _ HB6.out HB5.out.size hi6);obtain⟨b6,c6,rfl,-⟩:=hi6;clear hb6)
  |(go_at_call 73
    refine HADD.out.mono ?_;rintro e w7⟨k,ns',rfl,h1,h2,h3,h4⟩;have e0':=h4.cell e0' (HAW.out _ _ HB6.out (by simp));have e1':=h4.cell e1' (HAW.out _ _ HB6.out (by simp));have hlt6:w.heap.size+1<w6.heap.size:=aG B6.out;have B7:=(h4.heap (b:=w.heap.size+1) hlt6 (HAW.out _ _ HB6.out (by omega))).trans B6.out;obtain⟨r0,r1,f0,f1⟩:=aD B7;have HF:Hid (FoldSt P B (N+l.length) w g ns (gJ 1 e0 es) k ((w7.setCell ⟨w.heap.size+1,0,none⟩ (.pointer (some ⟨g,0,none⟩))).setCell ⟨w.heap.size+1,1,none⟩ (.int .i64 (k:Int)))):=
     hdd (FoldSt.set2 (w0:=w) ⟨ns',h1,h2,h3,h4⟩ (Or.inr trivial) HGL.out HB6.out (by omega) (HAW.out _ _ HB6.out (by omega)) hlt6 (by have:=HBL.out;omega) _ _)
    have HX:=hdd (set2 B7 (.pointer (some ⟨g,0,none⟩)) (.int .i64 (k:Int)));clear h1 h2 h3 h4 B7 hlt6))
 go_wp2;obtain⟨x0,x1,-,-⟩:=aD HX.out;refine bodyPost_ret (v:=.agg #[_,_]) (by simp[results,Tryz.results35,go_sem,x0,x1];first|exact⟨rfl,rfl⟩|rfl) rfl ?_;exact HF.out.ret (numV g)
theorem am5{es:List Ex}(hs:St P B N w g ns)(hl:NumsP w v g l)(hlen:l.length=es.length)(h0:0<l.length)
 (he0:Is ns e0 i) (hes:∀(m x:Nat) e,l[m]? =some x->es[m]? =some e->Is ns e x) (hP:∀m,m<es.length->P (gJ 3 e0 (es.take (m+1)))) (hN:N+l.length<=20000):
 Calls Tryz.prog 26 #[numV g i,v] w (RetE P B (N+l.length) w g ns (numV g) (gJ 3 e0 es)):=by
 obtain⟨w2,hw2,hb2,hs2,b1,b2⟩:=pro2 w (.cells #[.pointer (some ⟨g,0,none⟩),.int .i64 (i:Int)] 31) (.cells #[.pointer none,.int .i64 0] 31);have hll:∀x∈l,x<ns.length:=fun x hx=>by
  obtain⟨m,hm⟩:=List.getElem?_of_mem hx;have hml:=(List.getElem?_eq_some_iff.1 hm).1;exact(hes m x es[m] hm (List.getElem?_eq_getElem (by omega))).lt
 have HG:=hdd (wL (hs.dag.below hb2) he0.lt (hl.below hb2) hll);have HIDS:Hid (∀w',Below w.heap.size w w'->Calls Tryz.prog 68 #[.agg #[.pointer (some ⟨g,0,none⟩),.int .i64 (i:Int)],v] w' (aaO w' (i::l))):=hdd fun w' h=>afJ (hl.below h);have HAW:Hid (∀w' (c:Nat),Below w.heap.size w w'->w.heap.size<=c->¬DagB w' g c):=hdd fun w' c h=>hs.away h;have HOP:Hid (∀w' v' (q:Nat),Below w.heap.size w w'->w.heap.size<=q->IntsP (fun b=>q<=b) w' v' (i::l)->Calls Tryz.prog 67 #[.pointer (some ⟨g,0,none⟩),v'] w' (RetE P B (N+l.length) w' g ns idV (gJ 3 e0 es))):=
  hdd fun w' v' q h hq hi=>by
   obtain⟨b,c,q1,q2,q3,q4,q5,q6⟩:=hi;exact akA (hs.below h) ⟨b,c,q1,q2,q3,hs.away h (Nat.le_trans hq q4),q5,q6⟩ hlen h0 he0 hes hP hN
 have HGL:=hdd hs.dag.glt;have HBL:=hdd hs.hB;obtain⟨e0',e1',-,-⟩:=aD b1;have HB2:=hdd hb2;have B2:=hdd b2;have HSZ:Hid (w.heap.size+1<w2.heap.size):=hdd (by omega);obtain⟨bv,cv,rfl,-⟩:=id hl;clear hs hl hlen h0 he0 hes hP hN hll hb2 hs2 b1 b2;go_enter Tryz.func26,Tryz.ntmps26
 go_wp2_with fail
 refine HG.out.mono ?_;rintro e w5⟨rfl,hb5⟩;have hb5d:Below w2.heap.size w2 w5.drew:=aC hb5 (Below.refl _ _).drew;replace e0':=cell_below e0' hb5d nlr;replace e1':=cell_below e1' hb5d nlr;have HB5:=hdd (aC HB2.out hb5d);have B5:=hdd (hbl B2.out hb5d);clear hb5 hb5d;have n1:w.heap.size+1≠w.heap.size:=by omega
 have n2:w.heap.size≠w.heap.size+1:=by omega
 go_wp2_with fail
 go_region_held3 (fun w'=>w'.cell? ⟨w.heap.size,0,none⟩=some (.pointer (some ⟨g,0,none⟩))/\w'.cell? ⟨w.heap.size,1,none⟩=some (.int .i64 (i:Int))) (go_keep)
  (first
  |(go_at_call 68
    refine(HIDS.out _ HB5.out).mono ?_;rintro e w6⟨hb6,v6,rfl,hi6⟩;have e0':=cell_below e0' hb6 nlr;have e1':=cell_below e1' hb6 nlr;have HB6:=hdd (aC HB5.out hb6);have B6:=hdd (hbl B5.out hb6);have HADD:=hdd (HOP.out w6 v6 _ HB6.out HB5.out.size hi6);obtain⟨b6,c6,rfl,-⟩:=hi6;clear hb6)
  |(go_at_call 67
    refine HADD.out.mono ?_;rintro e w7⟨k,ns',rfl,h1,h2,h3,h4⟩;have e0':=h4.cell e0' (HAW.out _ _ HB6.out (by simp));have e1':=h4.cell e1' (HAW.out _ _ HB6.out (by simp));have hlt6:w.heap.size+1<w6.heap.size:=aG B6.out;have B7:=(h4.heap (b:=w.heap.size+1) hlt6 (HAW.out _ _ HB6.out (by omega))).trans B6.out;obtain⟨r0,r1,f0,f1⟩:=aD B7;have HF:Hid (FoldSt P B (N+l.length) w g ns (gJ 3 e0 es) k ((w7.setCell ⟨w.heap.size+1,0,none⟩ (.pointer (some ⟨g,0,none⟩))).setCell ⟨w.heap.size+1,1,none⟩ (.int .i64 (k:Int)))):=
     hdd (FoldSt.set2 (w0:=w) ⟨ns',h1,h2,h3,h4⟩ (Or.inr trivial) HGL.out HB6.out (by omega) (HAW.out _ _ HB6.out (by omega)) hlt6 (by have:=HBL.out;omega) _ _)
    have HX:=hdd (set2 B7 (.pointer (some ⟨g,0,none⟩)) (.int .i64 (k:Int)));clear h1 h2 h3 h4 B7 hlt6))
 go_wp2;obtain⟨x0,x1,-,-⟩:=aD HX.out;refine bodyPost_ret (v:=.agg #[_,_]) (by simp[results,Tryz.results26,go_sem,x0,x1];first|exact⟨rfl,rfl⟩|rfl) rfl ?_;exact HF.out.ret (numV g)
def RetS(w:World)(s:Int)(e:Ending)(w':World):Prop:=e=.returned (.tuple #[.int .i64 s,.nilIface])/\Below w.heap.size w w'
def gQ(P:Ex->Prop)(x:Ex)(s:Int):Prop:=∀(B N:Nat) (w:World) (g k:Nat) (ns:List Nd),St P B N w g ns->Is ns x k->
 Calls Tryz.prog 79 #[.pointer (some ⟨g,0,none⟩),.int .i64 (k:Int),.slice none 0 0] w (RetS w s)
def RetQ(P:Ex->Prop)(B N:Nat)(w:World)(g:Nat)(ns:List Nd)(v:Value)(e:Ending)(w':World):Prop:=
 e=.returned v/\∃ns',St P B N w' g ns'/\ns<+:ns'/\DS g w w'
theorem ab9{k:Nat}{x:Ex}(hs:St P B N w g ns)(hx:Is ns x k)(hS:gQ P x s):
 Calls Tryz.prog 40 #[numV g k] w (RetS w s):=by
 obtain⟨w1,hw1,hb1,hs1,b1⟩:=pro1 w (.cells #[.pointer (some ⟨g,0,none⟩),.int .i64 (k:Int)] 31);obtain⟨c0,c1,-,-⟩:=aD b1;have HV:=hdd (r9 (hs.dag.below hb1) hx.lt);have HS:Hid (∀w',Below w.heap.size w w'->Calls Tryz.prog 79 #[.pointer (some ⟨g,0,none⟩),.int .i64 (k:Int),.slice none 0 0] w' (RetS w' s)):=hdd fun w' h=>hS B N w' g k ns (hs.below h) hx;have HB:=hdd hb1;clear hs hx hS hb1 hs1 b1;go_enter Tryz.func40,Tryz.ntmps40
 go_wp2_with fail
 refine HV.out.mono ?_;rintro e w2⟨rfl,hb2⟩;replace c0:=cbl c0 hb2;replace c1:=cbl c1 hb2;have HB2:=hdd (aC HB.out hb2);clear hb2;go_wp2_with fail
 refine(HS.out _ HB2.out).mono ?_;rintro e w3⟨rfl,hb3⟩;have HB3:=hdd (aC HB2.out hb3);clear hb3;go_wp2
 go_ret2
 exact⟨rfl,HB3.out⟩
theorem afL{j:Nat}{a b:Ex}(hs:St P B N w g ns)(hN:N<20000)(ha:Is ns a i)(hb:Is ns b j)(hP:P (.sub a b))(hS:gQ P (.sub a b) s):
 Calls Tryz.prog 28 #[numV g i,numV g j] w (RetQ P B (N+1) w g ns (.tuple #[.int .i64 s,.nilIface])):=by
 obtain⟨w2,hw2,hb2,hs2,b1,b2⟩:=pro2 w (.cells #[.pointer (some ⟨g,0,none⟩),.int .i64 (i:Int)] 31) (.cells #[.pointer (some ⟨g,0,none⟩),.int .i64 (j:Int)] 31);obtain⟨c0,c1,-,-⟩:=aD b1;obtain⟨d0,d1,-,-⟩:=aD b2;have HSUB:=hdd (afK (hs.below hb2) hN ha hb hP);have HDS:=hdd (DS.of_below hs.dag.glt hb2);have HSG:Hid (∀w' k ns',St P B (N+1) w' g ns'->Is ns' (.sub a b) k->Calls Tryz.prog 40 #[numV g k] w' (RetS w' s)):=hdd fun w' k ns' h1 h2=>ab9 h1 h2 hS;clear hs hN ha hb hP hS hb2 hs2 b1 b2;go_enter Tryz.func28,Tryz.ntmps28
 go_wp2_with fail
 refine HSUB.out.mono ?_;rintro e w3⟨k,ns',rfl,h1,h2,h3,h4⟩;have HC:=hdd (HSG.out w3 k ns' h1 h3);have HR:Hid (∀w',Below w3.heap.size w3 w'->RetQ P B (N+1) w g ns (.tuple #[.int .i64 s,.nilIface]) (.returned (.tuple #[.int .i64 s,.nilIface])) w'):=hdd fun w' h=>⟨rfl,ns',h1.below h,h2,HDS.out.trans (h4.trans (DS.of_below h1.dag.glt h))⟩;clear h1 h2 h3 h4;go_wp2_with fail
 refine HC.out.mono ?_;rintro e w4⟨rfl,hb4⟩;have HF:=hdd (HR.out _ hb4);clear hb4;go_wp2
 go_ret2
 exact HF.out
end Go.Proofs.YtjaafolhfihegaaGreatDoor
namespace Go.Proofs.YtjaafolhfihegaaGreatDoor
open Go.RowKit Go.Maps Go.Stop Go.Extern
open Go.Instr renaming typeAssert->bbF
variable{j k:Int}{a b c n:Nat}{S T:Nat->Prop}{v:Value}{w w' w1:World}
inductive ErK(S:Nat->Prop)(w:World):Nat->Value->Int->Prop
 |kind {k:Int}:1<=k->k<=7->ErK S w 0 (.iface 135 (.int .i64 k)) k
 |inn {n b:Nat} {v:Value} {k:Int}:S b->w.cell? ⟨b,1,none⟩=some v->ErK S w n v k->ErK S w (n+1) (.iface 143 (.pointer (some ⟨b,0,none⟩))) k
 |att {n b:Nat} {v:Value} {k:Int}:S b->w.cell? ⟨b,1,none⟩=some v->ErK S w n v k->ErK S w (n+1) (.iface 153 (.pointer (some ⟨b,0,none⟩))) k
theorem ErK.block (h:w.cell? ⟨b,1,none⟩=some v):b<w.heap.size:=World.block_lt_of_cell? w _ h
theorem ErK.keep (h:ErK S w n v k)(hb:∀b,S b->b<w.heap.size->w'.cell? ⟨b,1,none⟩=w.cell? ⟨b,1,none⟩):ErK S w' n v k:=by
 induction h with
 |kind h1 h2=>exact .kind h1 h2
 |inn h0 h1 _ ih=>exact .inn h0 ((hb _ h0 (ErK.block h1)).trans h1) ih
 |att h0 h1 _ ih=>exact .att h0 ((hb _ h0 (ErK.block h1)).trans h1) ih
theorem ErK.mono (h:ErK S w n v k)(hb:∀b,S b->b<w.heap.size->T b):ErK T w n v k:=by
 induction h with
 |kind h1 h2=>exact .kind h1 h2
 |inn h0 h1 _ ih=>exact .inn (hb _ h0 (ErK.block h1)) h1 ih
 |att h0 h1 _ ih=>exact .att (hb _ h0 (ErK.block h1)) h1 ih
theorem ErK.low (h:ErK S w n v k)(hb:Below w.heap.size w w'):ErK S w' n v k:=
 h.keep fun _ _ hl=>World.cell?_of_block (hb.block _ hl)
theorem ErK.det (h:ErK S w n v k):∀{m:Nat} {j:Int},ErK T w m v j->n=m:=by
 induction h with
 |kind h1 h2=>intro m j h;cases h;rfl
 |inn _ h1 _ ih=>
  intro m j h;cases h with
  |inn _ g1 g2=>rw[h1]at g1;cases g1;rw[ih g2]
 |att _ h1 _ ih=>
  intro m j h;cases h with
  |att _ g1 g2=>rw[h1]at g1;cases g1;rw[ih g2]
noncomputable def edep(w:World)(v:Value):Nat:=by
 classical
 exact if h:∃n k,ErK (fun _=>True) w n v k then Classical.choose h else 0
theorem ErK.edep (h:ErK S w n v k):edep w v=n:=by
 unfold Go.Proofs.YtjaafolhfihegaaGreatDoor.edep;have hx:∃n k,ErK (fun _=>True) w n v k:=⟨n,k,h.mono fun _ _ _=>trivial⟩;rw[dif_pos hx];obtain⟨j,hj⟩:=Classical.choose_spec hx;exact hj.det h
theorem akE(h:w.cell? ⟨b,1,none⟩=some v):
 Calls Tryz.prog 275 #[.pointer (some ⟨b,0,none⟩)] w (fun e w'=>e=.returned v/\w'=w):=by
 go_enter Tryz.func275,Tryz.ntmps275
 go_wp2;go_ret;exact⟨rfl,rfl⟩
theorem akF(h:w.cell? ⟨b,1,none⟩=some v):
 Calls Tryz.prog 277 #[.pointer (some ⟨b,0,none⟩)] w (fun e w'=>e=.returned v/\w'=w):=by
 go_enter Tryz.func277,Tryz.ntmps277
 go_wp2;go_ret;exact⟨rfl,rfl⟩
theorem aaP(v:Value)(xT:TypeId)(w:World):(bbF (.iface 135 v) xT 176 true).run Tryz.prog w=.ok (.tuple #[.nilIface,.bool false]) w:=run_typeAssert_lacksB Tryz.underlying176 (by kernel_rfl) (by kernel_rfl) v xT w
theorem yC(v:Value)(xT:TypeId)(w:World):(bbF (.iface 135 v) xT 177 true).run Tryz.prog w=.ok (.tuple #[.nilIface,.bool false]) w:=run_typeAssert_lacksB Tryz.underlying177 (by kernel_rfl) (by kernel_rfl) v xT w
theorem akG(v:Value)(xT:TypeId)(w:World):(bbF (.iface 135 v) xT 174 true).run Tryz.prog w=.ok (.tuple #[.nilIface,.bool false]) w:=run_typeAssert_lacksB Tryz.underlying174 (by kernel_rfl) (by kernel_rfl) v xT w
theorem acA(v:Value)(xT:TypeId)(w:World):(bbF (.iface 143 v) xT 176 true).run Tryz.prog w=.ok (.tuple #[.iface 143 v,.bool true]) w:=run_typeAssert_hasB Tryz.underlying176 (by kernel_rfl) v xT w
theorem ao9(v:Value)(xT:TypeId)(w:World):(bbF (.iface 143 v) xT 174 true).run Tryz.prog w=.ok (.tuple #[.nilIface,.bool false]) w:=run_typeAssert_lacksB Tryz.underlying174 (by kernel_rfl) (by kernel_rfl) v xT w
theorem acB(v:Value)(xT:TypeId)(w:World):(bbF (.iface 153 v) xT 176 true).run Tryz.prog w=.ok (.tuple #[.iface 153 v,.bool true]) w:=run_typeAssert_hasB Tryz.underlying176 (by kernel_rfl) v xT w
theorem apA(v:Value)(xT:TypeId)(w:World):(bbF (.iface 153 v) xT 174 true).run Tryz.prog w=.ok (.tuple #[.nilIface,.bool false]) w:=run_typeAssert_lacksB Tryz.underlying174 (by kernel_rfl) (by kernel_rfl) v xT w
theorem wN (v : Value) (w : World) : (Go.method 368 143 v "Unwrap").run Tryz.prog w = .ok (275, v) w := by kernel_rfl
theorem wO (v : Value) (w : World) : (Go.method 368 153 v "Unwrap").run Tryz.prog w = .ok (277, v) w := by kernel_rfl
theorem akH(v:Value)(w:World):(Extern.ReflectliteType.typeOf #[.iface 135 v]).run Tryz.prog w=.ok (.iface 172 (.agg #[.pointer (some ⟨4,135,none⟩)])) w:=by kernel_rfl
def cmpX (args : Array Value) : Sem Value := Extern.ReflectliteType.method (fun t => do Extern.Rtype.noPackHeld "Comparable" t; pure (.bool (← typeInfo t).comparable)) args
theorem aaQ(w:World):(cmpX #[.agg #[.pointer (some ⟨4,135,none⟩)]]).run Tryz.prog w=.ok (.bool true) w:=by kernel_rfl
theorem pX (v : Value) (w : World) : (Go.method 368 172 v "Comparable").run Tryz.prog w = .ok (281, v) w := by kernel_rfl
theorem am6(a b:Int)(w:World):(binOp .eql 48 (.iface 135 (.int .i64 a)) (.iface 135 (.int .i64 b))).run Tryz.prog w=.ok (.bool (a==b)) w:=
 Lib.run_eql_iface_int w a b Tryz.underlying48 (by kernel_rfl) Tryz.underlying135
theorem akI(h:ErK S w n v k):
 Calls Tryz.prog 88 #[v,.iface 135 (.int .i64 j),.bool true] w (fun e w'=>e=.returned (.bool (k==j))/\w'=w):=by
 have nK:=aaP;have nKs:=yC;have iK:=akG;have iI:=ao9;have iA:=apA;have uI:=acA;have uA:=acB;have mI:=wN;have mA:=wO;have eq:=am6;have eI:∀(p x:Value) (w:World),(binOp .eql 48 (.iface 143 p) (.iface 135 x)).run Tryz.prog w=.ok (.bool false) w:=fun p x w=>run_eql_iface_types (P:=Tryz.prog) _ _ p x Tryz.underlying48 (by decide) w;have eA:∀(p x:Value) (w:World),(binOp .eql 48 (.iface 153 p) (.iface 135 x)).run Tryz.prog w=.ok (.bool false) w:=fun p x w=>run_eql_iface_types (P:=Tryz.prog) _ _ p x Tryz.underlying48 (by decide) w;have HH:=hdd h;clear h;go_enter Tryz.func88,Tryz.ntmps88
 go_wp2_with fail
 go_loopw [0] (fun v' wr=>∃n':Nat,n'<=n/\Hid (ErK S w n' v' k)/\wr=w) (fun v' _=>edep w v')
 case atStart=>exact⟨n,Nat.le_refl _,HH,rfl⟩
 case round=>
  obtain⟨n',hn',HE,rfl⟩:=hrel;have hE:=HE.out;clear HE
  cases hE with
  |kind h1 h2=>
   go_wp2_with fail
   all_goals go_ret
   all_goals exact⟨by simp_all,rfl⟩
  |@inn n1 b v1 k h0 h1 h2=>
   have HE2:=hdd h2;have HED:Hid (edep wr (.iface 143 (.pointer (some ⟨b,0,none⟩)))=n1+1/\edep wr v1=n1):=hdd ⟨(ErK.inn h0 h1 h2).edep,h2.edep⟩;have HU:=hdd (akE h1);have hnn:∃t x,v1=.iface t x:=by cases h2<;>exact⟨_,_,rfl⟩
   obtain⟨vt,vx,hvv⟩:=hnn;subst hvv;clear h0 h1 h2;go_wp2_with fail
   refine HU.out.mono ?_;rintro e w2⟨rfl,rfl⟩;go_wp2_with fail
   go_roundw
   case rel=>exact⟨n1,by omega,HE2,trivial⟩
   case measure=>have:=HED.out;simp[this]
  |@att n1 b v1 k h0 h1 h2=>
   have HE2:=hdd h2;have HED:Hid (edep wr (.iface 153 (.pointer (some ⟨b,0,none⟩)))=n1+1/\edep wr v1=n1):=hdd ⟨(ErK.att h0 h1 h2).edep,h2.edep⟩;have HU:=hdd (akF h1);have hnn:∃t x,v1=.iface t x:=by cases h2<;>exact⟨_,_,rfl⟩
   obtain⟨vt,vx,hvv⟩:=hnn;subst hvv;clear h0 h1 h2;go_wp2_with fail
   refine HU.out.mono ?_;rintro e w2⟨rfl,rfl⟩;go_wp2_with fail
   go_roundw
   case rel=>exact⟨n1,by omega,HE2,trivial⟩
   case measure=>have:=HED.out;simp[this]
theorem apB(h:ErK S w n v k):
 Calls Tryz.prog 49 #[v,.iface 135 (.int .i64 j)] w (fun e w'=>e=.returned (.bool (k==j))/\w'=w):=by
 have hnn:∃t x,v=.iface t x:=by cases h<;>exact⟨_,_,rfl⟩
 obtain⟨vt,vx,rfl⟩:=hnn;have h8:=@run_callFunc_extern Tryz.prog 87 _ Extern.ReflectliteType.typeOf Tryz.func87 (by kernel_rfl) (by kernel_rfl) (by kernel_rfl) (by kernel_rfl);have h32:=@run_callFunc_extern Tryz.prog 281 _ cmpX Tryz.func281 (by kernel_rfl) (by kernel_rfl) (by kernel_rfl) (by kernel_rfl);have tT:=akH;have cT:=aaQ;have mR:=pX;have HH:=hdd (akI (j:=j) h);clear h;go_enter Tryz.func49,Tryz.ntmps49
 go_wp2_with fail
 refine HH.out.mono ?_;rintro e w2⟨rfl,rfl⟩;go_wp2_with fail
 go_ret;exact⟨rfl,rfl⟩
abbrev akJ(w w':World)(b:Nat):Prop:=w.heap.size<=b/\b<w'.heap.size
def RetEr(w:World)(k:Int)(e:Ending)(w':World):Prop:=∃er n,e=.returned er/\n<=1000/\ErK (akJ w w') w' n er k/\Below w.heap.size w w'
theorem apC{s:ByteArray}(h:ErK S w n v k):
 Calls Tryz.prog 61 #[.string s,v] w (fun e w'=>∃er,e=.returned er/\ErK (fun b=>S b\/akJ w w' b) w' (n+1) er k/\Below w.heap.size w w'):=by
 have hnn:∃t x,v=.iface t x:=by cases h<;>exact⟨_,_,rfl⟩
 obtain⟨vt,vx,rfl⟩:=hnn;have hb:Below w.heap.size w (w.alloc (.cells #[.string s,.iface vt vx] 145)):=Below.alloc (Below.refl _ _) nlr _;have HE:Hid (ErK (fun b=>S b\/akJ w (w.alloc (.cells #[.string s,.iface vt vx] 145)) b) (w.alloc (.cells #[.string s,.iface vt vx] 145)) (n+1) (.iface 143 (.pointer (some ⟨w.heap.size,0,none⟩))) k):=hdd (.inn (Or.inr ⟨Nat.le_refl _,by simp⟩) (by simp) ((h.low hb).mono fun _ h _=>Or.inl h));have HB:=hdd hb;clear h hb;go_enter Tryz.func61,Tryz.ntmps61
 go_wp2;go_ret;exact⟨_,rfl,HE.out,HB.out⟩
abbrev curV(k:Int)(a b c:Nat):Value:=.agg #[.int .i64 k,.float .f64 a,.float .f64 b,.float .f64 c]
abbrev curO(k:Int)(a b c:Nat):Obj:=.cells #[.int .i64 k,.float .f64 a,.float .f64 b,.float .f64 c] 29
abbrev FlOk(b:Nat):Prop:=b<18446744073709551616/\fin b
theorem ahC:0<=sr b↔0<=fv b:=by
 unfold fv;rw[<-lX,dQ]
theorem degen_any:Calls Tryz.prog 62 #[] w (fun e w'=>e=.returned (.iface 135 (.int .i64 5))/\w'=w):=by
 go_enter Tryz.func62,Tryz.ntmps62
 go_wp2;go_ret;exact⟨rfl,rfl⟩
theorem am7(ha:FlOk a)(hb:FlOk b)(hc:FlOk c)(h0:0<=fv c):Calls Tryz.prog 90 #[curV 2 a b c] w (RetV w .nilIface):=by
 obtain⟨w1,hw1,hb1,hs1,b1⟩:=pro1 w (curO 2 a b c);obtain⟨c0,c1,c2,c3⟩:=aL b1;have HB:=hdd hb1;have FA:Hid (∀w',Calls Tryz.prog 60 #[.float .f64 a] w' (RetB w' true)):=hdd fun w'=>by have:=fA (w:=w') ha.1;rwa[decide_eq_true ha.2]at this
 have FB:Hid (∀w',Calls Tryz.prog 60 #[.float .f64 b] w' (RetB w' true)):=hdd fun w'=>by have:=fA (w:=w') hb.1;rwa[decide_eq_true hb.2]at this
 have FC:Hid (∀w',Calls Tryz.prog 60 #[.float .f64 c] w' (RetB w' true)):=hdd fun w'=>by have:=fA (w:=w') hc.1;rwa[decide_eq_true hc.2]at this
 have hg:=ajQ (b:=c) hc.2.num num0;rw[sr0,decide_eq_true (ahC.2 h0)]at hg;clear ha hb hc h0 hb1 hs1 b1;go_enter Tryz.func90,Tryz.ntmps90
 go_wp2_with fail
 refine(FA.out _).mono ?_;rintro e w2⟨rfl,hw⟩;obtain rfl:=hw;go_wp2_with fail
 refine(FB.out _).mono ?_;rintro e w2⟨rfl,hw⟩;obtain rfl:=hw;go_wp2_with fail
 refine(FC.out _).mono ?_;rintro e w2⟨rfl,hw⟩;obtain rfl:=hw;go_wp2;go_ret;exact⟨rfl,HB.out⟩
theorem nJ{r:Bool}(h:(FloatKind.f64.format.order a b==some Ordering.eq)=r):(FloatKind.f64.format.order a b != some Ordering.eq)= !r:=by
 show(!(FloatKind.f64.format.order a b==some Ordering.eq))= !r;rw[h]
theorem qW:sr b=0↔fv b=0:=by
 have h1:=lX (a:=sr b) (b:=0);have h2:=lX (a:=0) (b:=sr b);rw[dQ]at h1 h2;unfold fv;omega
def mE(a b c:Nat):Prop:=FlOk a/\FlOk b/\FlOk c/\(fv a≠0\/fv b≠0)
theorem lL(ha:a<18446744073709551616):Calls Tryz.prog 60 #[.float .f64 a] w (RetB w (decide (fin a))):=fA ha
theorem in_line:Calls Tryz.prog 61 #[.string ⟨#[108,105,110,101]⟩,.iface 135 (.int .i64 5)] w1 (RetEr w1 5):=
 (apC (w:=w1) (ErK.kind (S:=fun _=>False) (k:=5) (by decide) (by decide))).mono fun _ _ ⟨er,h1,h2,h3⟩=>⟨er,1,h1,by omega,h2.mono fun b hb _=>by
   rcases hb with h|h
   . exact h.elim
   . exact h,h3⟩
theorem RetEr.up {e:Ending}(h:RetEr w1 k e w')(hb:Below w.heap.size w w1):RetEr w k e w':=by
 obtain⟨er,n,h1,h2,h3,h4⟩:=h;exact⟨er,n,h1,h2,h3.mono fun b hb' _=>⟨Nat.le_trans hb.size hb'.1,hb'.2⟩,hb.trans (h4.mono hb.size)⟩
theorem am8(h:mE a b c):Calls Tryz.prog 21 #[curV 1 a b c] w (RetV w .nilIface):=by
 obtain⟨ha,hb,hc,h0⟩:=h;obtain⟨w1,hw1,hb1,hs1,b1⟩:=pro1 w (curO 1 a b c);obtain⟨c0,c1,c2,c3⟩:=aL b1;have HB:=hdd hb1;have FA:Hid (∀w',Calls Tryz.prog 60 #[.float .f64 a] w' (RetB w' true)):=hdd fun w'=>by have:=lL (w:=w') ha.1;rwa[decide_eq_true ha.2]at this
 have FB:Hid (∀w',Calls Tryz.prog 60 #[.float .f64 b] w' (RetB w' true)):=hdd fun w'=>by have:=lL (w:=w') hb.1;rwa[decide_eq_true hb.2]at this
 have FC:Hid (∀w',Calls Tryz.prog 60 #[.float .f64 c] w' (RetB w' true)):=hdd fun w'=>by have:=lL (w:=w') hc.1;rwa[decide_eq_true hc.2]at this
 have ea:=jY (b:=a) ha.2.num num0;have eb:=jY (b:=b) hb.2.num num0;rw[sr0]at ea eb;by_cases hz:fv a=0
 . have hz2:¬sr b=0:=fun e=>h0.elim (fun k=>k hz) (fun k=>k (qW.1 e))
   rw[decide_eq_true (qW.2 hz)]at ea;rw[decide_eq_false hz2]at eb;replace ea:=nJ ea;replace eb:=nJ eb;rw[Bool.not_true]at ea;rw[Bool.not_false]at eb;clear ha hb hc h0 hb1 hs1 b1 hz hz2;go_enter Tryz.func21,Tryz.ntmps21
   go_wp2_with fail
   refine(FA.out _).mono ?_;rintro e w2⟨rfl,hw⟩;obtain rfl:=hw;go_wp2_with fail
   refine(FB.out _).mono ?_;rintro e w2⟨rfl,hw⟩;obtain rfl:=hw;go_wp2_with fail
   refine(FC.out _).mono ?_;rintro e w2⟨rfl,hw⟩;obtain rfl:=hw;go_wp2;go_ret;exact⟨rfl,HB.out⟩
 . rw[decide_eq_false (fun e=>hz (qW.1 e))]at ea
   replace ea:=nJ ea;rw[Bool.not_false]at ea;clear ha hb hc h0 hb1 hs1 b1 hz eb;go_enter Tryz.func21,Tryz.ntmps21
   go_wp2_with fail
   refine(FA.out _).mono ?_;rintro e w2⟨rfl,hw⟩;obtain rfl:=hw;go_wp2_with fail
   refine(FB.out _).mono ?_;rintro e w2⟨rfl,hw⟩;obtain rfl:=hw;go_wp2_with fail
   refine(FC.out _).mono ?_;rintro e w2⟨rfl,hw⟩;obtain rfl:=hw;go_wp2;go_ret;exact⟨rfl,HB.out⟩
theorem akK(ha:a<18446744073709551616)(hb:b<18446744073709551616)(hc:c<18446744073709551616)(h:¬mE a b c):Calls Tryz.prog 21 #[curV 1 a b c] w (RetEr w 5):=by
 obtain⟨w1,hw1,hb1,hs1,b1⟩:=pro1 w (curO 1 a b c);obtain⟨c0,c1,c2,c3⟩:=aL b1;have HB:=hdd hb1;have FA:Hid (∀w',Calls Tryz.prog 60 #[.float .f64 a] w' (RetB w' (decide (fin a)))):=hdd fun w'=>lL ha;have FB:Hid (∀w',Calls Tryz.prog 60 #[.float .f64 b] w' (RetB w' (decide (fin b)))):=hdd fun w'=>lL hb;have FC:Hid (∀w',Calls Tryz.prog 60 #[.float .f64 c] w' (RetB w' (decide (fin c)))):=hdd fun w'=>lL hc;by_cases fa:fin a
 . rw[decide_eq_true fa]at FA
   by_cases fb:fin b
   . rw[decide_eq_true fb]at FB
     by_cases fc:fin c
     . rw[decide_eq_true fc]at FC
       have ea:=jY (b:=a) fa.num num0;have eb:=jY (b:=b) fb.num num0;rw[sr0,decide_eq_true (qW.2 (Classical.byContradiction fun k=>h ⟨⟨ha,fa⟩,⟨hb,fb⟩,⟨hc,fc⟩,Or.inl k⟩))]at ea;rw[sr0,decide_eq_true (qW.2 (Classical.byContradiction fun k=>h ⟨⟨ha,fa⟩,⟨hb,fb⟩,⟨hc,fc⟩,Or.inr k⟩))]at eb;replace ea:=nJ ea;replace eb:=nJ eb;rw[Bool.not_true]at ea eb;clear ha hb hc h hb1 hs1 b1 fa fb fc;go_enter Tryz.func21,Tryz.ntmps21
       go_wp2_with fail
       refine(FA.out _).mono ?_;rintro e w2⟨rfl,hw⟩;obtain rfl:=hw;go_wp2_with fail
       refine(FB.out _).mono ?_;rintro e w2⟨rfl,hw⟩;obtain rfl:=hw;go_wp2_with fail
       refine(FC.out _).mono ?_;rintro e w2⟨rfl,hw⟩;obtain rfl:=hw;go_wp2_with fail
       refine degen_any.mono ?_;rintro e w2⟨rfl,hw⟩;obtain rfl:=hw;go_wp2_with fail
       refine in_line.mono ?_;rintro e w2 hr;obtain⟨er,n,rfl,-⟩:=id hr;have HR:=hdd hr;clear hr;go_wp2;go_ret;exact HR.out.up HB.out
     . rw[decide_eq_false fc]at FC
       clear ha hb hc h hb1 hs1 b1 fa fb fc;go_enter Tryz.func21,Tryz.ntmps21
       go_wp2_with fail
       refine(FA.out _).mono ?_;rintro e w2⟨rfl,hw⟩;obtain rfl:=hw;go_wp2_with fail
       refine(FB.out _).mono ?_;rintro e w2⟨rfl,hw⟩;obtain rfl:=hw;go_wp2_with fail
       refine(FC.out _).mono ?_;rintro e w2⟨rfl,hw⟩;obtain rfl:=hw;go_wp2_with fail
       refine degen_any.mono ?_;rintro e w2⟨rfl,hw⟩;obtain rfl:=hw;go_wp2_with fail
       refine in_line.mono ?_;rintro e w2 hr;obtain⟨er,n,rfl,-⟩:=id hr;have HR:=hdd hr;clear hr;go_wp2;go_ret;exact HR.out.up HB.out
   . rw[decide_eq_false fb]at FB
     clear ha hb hc h hb1 hs1 b1 fa fb FC;go_enter Tryz.func21,Tryz.ntmps21
     go_wp2_with fail
     refine(FA.out _).mono ?_;rintro e w2⟨rfl,hw⟩;obtain rfl:=hw;go_wp2_with fail
     refine(FB.out _).mono ?_;rintro e w2⟨rfl,hw⟩;obtain rfl:=hw;go_wp2_with fail
     refine degen_any.mono ?_;rintro e w2⟨rfl,hw⟩;obtain rfl:=hw;go_wp2_with fail
     refine in_line.mono ?_;rintro e w2 hr;obtain⟨er,n,rfl,-⟩:=id hr;have HR:=hdd hr;clear hr;go_wp2;go_ret;exact HR.out.up HB.out
 . rw[decide_eq_false fa]at FA
   clear ha hb hc h hb1 hs1 b1 fa FB FC;go_enter Tryz.func21,Tryz.ntmps21
   go_wp2_with fail
   refine(FA.out _).mono ?_;rintro e w2⟨rfl,hw⟩;obtain rfl:=hw;go_wp2_with fail
   refine degen_any.mono ?_;rintro e w2⟨rfl,hw⟩;obtain rfl:=hw;go_wp2_with fail
   refine in_line.mono ?_;rintro e w2 hr;obtain⟨er,n,rfl,-⟩:=id hr;have HR:=hdd hr;clear hr;go_wp2;go_ret;exact HR.out.up HB.out
theorem zH(h:mE a b c):Calls Tryz.prog 53 #[curV 1 a b c] w (RetV w .nilIface):=by
 obtain⟨w1,hw1,hb1,hs1,b1⟩:=pro1 w (curO 1 a b c);obtain⟨c0,c1,c2,c3⟩:=aL b1;have HB:=hdd hb1;have HL:=hdd (am8 (w:=w1) h);clear h hb1 hs1 b1;go_enter Tryz.func53,Tryz.ntmps53
 go_wp2_with fail
 refine HL.out.mono ?_;rintro e w2⟨rfl,hb⟩;have HB2:=hdd (HB.out.trans (hb.mono HB.out.size));clear hb;go_wp2;go_ret;exact⟨rfl,HB2.out⟩
def wP(a b c:Nat):Prop:=FlOk a/\FlOk b/\FlOk c/\0<=fv c
theorem zI(h:wP a b c):Calls Tryz.prog 53 #[curV 2 a b c] w (RetV w .nilIface):=by
 obtain⟨w1,hw1,hb1,hs1,b1⟩:=pro1 w (curO 2 a b c);obtain⟨c0,c1,c2,c3⟩:=aL b1;have HB:=hdd hb1;have HL:=hdd (am7 (w:=w1) h.1 h.2.1 h.2.2.1 h.2.2.2);clear h hb1 hs1 b1;go_enter Tryz.func53,Tryz.ntmps53
 go_wp2_with fail
 refine HL.out.mono ?_;rintro e w2⟨rfl,hb⟩;have HB2:=hdd (HB.out.trans (hb.mono HB.out.size));clear hb;go_wp2;go_ret;exact⟨rfl,HB2.out⟩
end Go.Proofs.YtjaafolhfihegaaGreatDoor
