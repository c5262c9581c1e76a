/- A part of the proof: contracts of functions and plain laws (RlE, RlF, FlA, FlB, FlC, FlD, FlE, FlF, FlG, CkA, CkB, MtA, SymA, SymM). -/
import Derived.Test.YtjdgaogkioabeaaGreatDoorK15
import Derived.Test.YtjdgaogkioabeaaGreatDoorK13
import Derived.LaidEql
import Derived.Lib.IfaceEq
import Derived.Stop.Asserts
import Derived.Recover
import Derived.Defers
import Derived.Test.YtjdgaogkioabeaaGreatDoorK01
import Derived.RegionTactic
import Derived.Test.YtjdgaogkioabeaaGreatDoorK12
import Derived.Test.YtjdgaogkioabeaaGreatDoorK07
set_option linter.unusedVariables false
set_option linter.unusedSimpArgs false
set_option maxHeartbeats 25600000
set_option maxRecDepth 100000
namespace Go.Proofs.YtjdgaogkioabeaaGreatDoor
section
open Go.RowKit Go.Maps
variable{e0:Ex}{P:Ex->Prop}{s:Int}{l:List Nat}{ns:List Nd}{B N g i:Nat}{v:Value}{w:World}
theorem am1{es:List Ex}(hs:St P B N w g ns)(hl:NumsP w v g l)(hlen:l.length=es.length)(h0:0<l.length)
 (he0:Is ns e0 i) (hes:∀(m x:Nat) e,l[m]? =some x->es[m]? =some e->Is ns e x) (hP:∀m,m<es.length->P (gG 1 e0 (es.take (m+1)))) (hN:N+l.length<=20000):
 Calls Tryz.prog 65 #[numV g i,v] w (RetE P B (N+l.length) w g ns (numV g) (gG 1 e0 es)):=by
 obtain⟨w2,hw2,hb2,hs2,b1,b2⟩:=pro2 w (.cells #[.pointer (some ⟨g,0,none⟩),.int .i64 (i:Int)] 34) (.cells #[.pointer none,.int .i64 0] 34);have hll:∀x∈l,x<ns.length:=fun x hx=>by
  obtain⟨m,hm⟩:=List.getElem?_of_mem hx;have hml:=(List.getElem?_eq_some_iff.1 hm).1;exact(hes m x es[m] hm (List.getElem?_eq_getElem (by omega))).lt
 have HG:=hdd (vR (hs.dag.below hb2) he0.lt (hl.below hb2) hll);have HIDS:Hid (∀w',Below w.heap.size w w'->Calls Tryz.prog 86 #[.agg #[.pointer (some ⟨g,0,none⟩),.int .i64 (i:Int)],v] w' (zZ w' (i::l))):=hdd fun w' h=>ae8 (hl.below h);have HAW:Hid (∀w' (c:Nat),Below w.heap.size w w'->w.heap.size<=c->¬DagB w' g c):=hdd fun w' c h=>hs.away h;have HOP:Hid (∀w' v' (q:Nat),Below w.heap.size w w'->w.heap.size<=q->IntsP (fun b=>q<=b) w' v' (i::l)->Calls Tryz.prog 87 #[.pointer (some ⟨g,0,none⟩),v'] w' (RetE P B (N+l.length) w' g ns idV (gG 1 e0 es))):=
  hdd fun w' v' q h hq hi=>by
   obtain⟨b,c,q1,q2,q3,q4,q5,q6⟩:=hi;exact akA (hs.below h) ⟨b,c,q1,q2,q3,hs.away h (Nat.le_trans hq q4),q5,q6⟩ hlen h0 he0 hes hP hN
 have HGL:=hdd hs.dag.glt;have HBL:=hdd hs.hB;obtain⟨e0',e1',-,-⟩:=aC b1;have HB2:=hdd hb2;have B2:=hdd b2;have HSZ:Hid (w.heap.size+1<w2.heap.size):=hdd (by omega);obtain⟨bv,cv,rfl,-⟩:=id hl;clear hs hl hlen h0 he0 hes hP hN hll hb2 hs2 b1 b2;go_enter Tryz.func65,Tryz.ntmps65
 go_wp2_with fail
 refine HG.out.mono ?_;rintro e w5⟨rfl,hb5⟩;have hb5d:Below w2.heap.size w2 w5.drew:=aB hb5 (Below.refl _ _).drew;replace e0':=cell_below e0' hb5d nlr;replace e1':=cell_below e1' hb5d nlr;have HB5:=hdd (aB HB2.out hb5d);have B5:=hdd (hbl B2.out hb5d);clear hb5 hb5d;have n1:w.heap.size+1≠w.heap.size:=by omega
 have n2:w.heap.size≠w.heap.size+1:=by omega
 go_wp2_with fail
 go_region_held3 (fun w'=>w'.cell? ⟨w.heap.size,0,none⟩=some (.pointer (some ⟨g,0,none⟩))/\w'.cell? ⟨w.heap.size,1,none⟩=some (.int .i64 (i:Int))) (go_keep)
  (first
  |(go_at_call 86
    refine(HIDS.out _ HB5.out).mono ?_;rintro e w6⟨hb6,v6,rfl,hi6⟩;have e0':=cell_below e0' hb6 nlr;have e1':=cell_below e1' hb6 nlr;have HB6:=hdd (aB HB5.out hb6);have B6:=hdd (hbl B5.out hb6);have HADD:=hdd (HOP.out w6 v6 _ HB6.out HB5.out.size hi6);obtain⟨b6,c6,rfl,-⟩:=hi6;clear hb6)
  |(go_at_call 87
    refine HADD.out.mono ?_;rintro e w7⟨k,ns',rfl,h1,h2,h3,h4⟩;have e0':=h4.cell e0' (HAW.out _ _ HB6.out (by simp));have e1':=h4.cell e1' (HAW.out _ _ HB6.out (by simp));have hlt6:w.heap.size+1<w6.heap.size:=aG B6.out;have B7:=(h4.heap (b:=w.heap.size+1) hlt6 (HAW.out _ _ HB6.out (by omega))).trans B6.out;obtain⟨r0,r1,f0,f1⟩:=aC B7;have HF:Hid (FoldSt P B (N+l.length) w g ns (gG 1 e0 es) k ((w7.setCell ⟨w.heap.size+1,0,none⟩ (.pointer (some ⟨g,0,none⟩))).setCell ⟨w.heap.size+1,1,none⟩ (.int .i64 (k:Int)))):=
     hdd (FoldSt.set2 (w0:=w) ⟨ns',h1,h2,h3,h4⟩ (Or.inr trivial) HGL.out HB6.out (by omega) (HAW.out _ _ HB6.out (by omega)) hlt6 (by have:=HBL.out;omega) _ _)
    have HX:=hdd (set2 B7 (.pointer (some ⟨g,0,none⟩)) (.int .i64 (k:Int)));clear h1 h2 h3 h4 B7 hlt6))
 go_wp2;obtain⟨x0,x1,-,-⟩:=aC HX.out;refine bodyPost_ret (v:=.agg #[_,_]) (by simp[results,Tryz.results65,go_sem,x0,x1];first|exact⟨rfl,rfl⟩|rfl) rfl ?_;exact HF.out.ret (numV g)
theorem am2{es:List Ex}(hs:St P B N w g ns)(hl:NumsP w v g l)(hlen:l.length=es.length)(h0:0<l.length)
 (he0:Is ns e0 i) (hes:∀(m x:Nat) e,l[m]? =some x->es[m]? =some e->Is ns e x) (hP:∀m,m<es.length->P (gG 3 e0 (es.take (m+1)))) (hN:N+l.length<=20000):
 Calls Tryz.prog 64 #[numV g i,v] w (RetE P B (N+l.length) w g ns (numV g) (gG 3 e0 es)):=by
 obtain⟨w2,hw2,hb2,hs2,b1,b2⟩:=pro2 w (.cells #[.pointer (some ⟨g,0,none⟩),.int .i64 (i:Int)] 34) (.cells #[.pointer none,.int .i64 0] 34);have hll:∀x∈l,x<ns.length:=fun x hx=>by
  obtain⟨m,hm⟩:=List.getElem?_of_mem hx;have hml:=(List.getElem?_eq_some_iff.1 hm).1;exact(hes m x es[m] hm (List.getElem?_eq_getElem (by omega))).lt
 have HG:=hdd (vR (hs.dag.below hb2) he0.lt (hl.below hb2) hll);have HIDS:Hid (∀w',Below w.heap.size w w'->Calls Tryz.prog 86 #[.agg #[.pointer (some ⟨g,0,none⟩),.int .i64 (i:Int)],v] w' (zZ w' (i::l))):=hdd fun w' h=>ae8 (hl.below h);have HAW:Hid (∀w' (c:Nat),Below w.heap.size w w'->w.heap.size<=c->¬DagB w' g c):=hdd fun w' c h=>hs.away h;have HOP:Hid (∀w' v' (q:Nat),Below w.heap.size w w'->w.heap.size<=q->IntsP (fun b=>q<=b) w' v' (i::l)->Calls Tryz.prog 85 #[.pointer (some ⟨g,0,none⟩),v'] w' (RetE P B (N+l.length) w' g ns idV (gG 3 e0 es))):=
  hdd fun w' v' q h hq hi=>by
   obtain⟨b,c,q1,q2,q3,q4,q5,q6⟩:=hi;exact akB (hs.below h) ⟨b,c,q1,q2,q3,hs.away h (Nat.le_trans hq q4),q5,q6⟩ hlen h0 he0 hes hP hN
 have HGL:=hdd hs.dag.glt;have HBL:=hdd hs.hB;obtain⟨e0',e1',-,-⟩:=aC b1;have HB2:=hdd hb2;have B2:=hdd b2;have HSZ:Hid (w.heap.size+1<w2.heap.size):=hdd (by omega);obtain⟨bv,cv,rfl,-⟩:=id hl;clear hs hl hlen h0 he0 hes hP hN hll hb2 hs2 b1 b2;go_enter Tryz.func64,Tryz.ntmps64
 go_wp2_with fail
 refine HG.out.mono ?_;rintro e w5⟨rfl,hb5⟩;have hb5d:Below w2.heap.size w2 w5.drew:=aB hb5 (Below.refl _ _).drew;replace e0':=cell_below e0' hb5d nlr;replace e1':=cell_below e1' hb5d nlr;have HB5:=hdd (aB HB2.out hb5d);have B5:=hdd (hbl B2.out hb5d);clear hb5 hb5d;have n1:w.heap.size+1≠w.heap.size:=by omega
 have n2:w.heap.size≠w.heap.size+1:=by omega
 go_wp2_with fail
 go_region_held3 (fun w'=>w'.cell? ⟨w.heap.size,0,none⟩=some (.pointer (some ⟨g,0,none⟩))/\w'.cell? ⟨w.heap.size,1,none⟩=some (.int .i64 (i:Int))) (go_keep)
  (first
  |(go_at_call 86
    refine(HIDS.out _ HB5.out).mono ?_;rintro e w6⟨hb6,v6,rfl,hi6⟩;have e0':=cell_below e0' hb6 nlr;have e1':=cell_below e1' hb6 nlr;have HB6:=hdd (aB HB5.out hb6);have B6:=hdd (hbl B5.out hb6);have HADD:=hdd (HOP.out w6 v6 _ HB6.out HB5.out.size hi6);obtain⟨b6,c6,rfl,-⟩:=hi6;clear hb6)
  |(go_at_call 85
    refine HADD.out.mono ?_;rintro e w7⟨k,ns',rfl,h1,h2,h3,h4⟩;have e0':=h4.cell e0' (HAW.out _ _ HB6.out (by simp));have e1':=h4.cell e1' (HAW.out _ _ HB6.out (by simp));have hlt6:w.heap.size+1<w6.heap.size:=aG B6.out;have B7:=(h4.heap (b:=w.heap.size+1) hlt6 (HAW.out _ _ HB6.out (by omega))).trans B6.out;obtain⟨r0,r1,f0,f1⟩:=aC B7;have HF:Hid (FoldSt P B (N+l.length) w g ns (gG 3 e0 es) k ((w7.setCell ⟨w.heap.size+1,0,none⟩ (.pointer (some ⟨g,0,none⟩))).setCell ⟨w.heap.size+1,1,none⟩ (.int .i64 (k:Int)))):=
     hdd (FoldSt.set2 (w0:=w) ⟨ns',h1,h2,h3,h4⟩ (Or.inr trivial) HGL.out HB6.out (by omega) (HAW.out _ _ HB6.out (by omega)) hlt6 (by have:=HBL.out;omega) _ _)
    have HX:=hdd (set2 B7 (.pointer (some ⟨g,0,none⟩)) (.int .i64 (k:Int)));clear h1 h2 h3 h4 B7 hlt6))
 go_wp2;obtain⟨x0,x1,-,-⟩:=aC HX.out;refine bodyPost_ret (v:=.agg #[_,_]) (by simp[results,Tryz.results64,go_sem,x0,x1];first|exact⟨rfl,rfl⟩|rfl) rfl ?_;exact HF.out.ret (numV g)
def RetS(w:World)(s:Int)(e:Ending)(w':World):Prop:=e=.returned (.tuple #[.int .i64 s,.nilIface])/\Below w.heap.size w w'
def fK(P:Ex->Prop)(x:Ex)(s:Int):Prop:=∀(B N:Nat) (w:World) (g k:Nat) (ns:List Nd),St P B N w g ns->Is ns x k->
 Calls Tryz.prog 68 #[.pointer (some ⟨g,0,none⟩),.int .i64 (k:Int),.slice none 0 0] w (RetS w s)
def RetQ(P:Ex->Prop)(B N:Nat)(w:World)(g:Nat)(ns:List Nd)(v:Value)(e:Ending)(w':World):Prop:=
 e=.returned v/\∃ns',St P B N w' g ns'/\ns<+:ns'/\DS g w w'
theorem abZ{k:Nat}{x:Ex}(hs:St P B N w g ns)(hx:Is ns x k)(hS:fK P x s):
 Calls Tryz.prog 48 #[numV g k] w (RetS w s):=by
 obtain⟨w1,hw1,hb1,hs1,b1⟩:=pro1 w (.cells #[.pointer (some ⟨g,0,none⟩),.int .i64 (k:Int)] 34);obtain⟨c0,c1,-,-⟩:=aC b1;have HV:=hdd (rC (hs.dag.below hb1) hx.lt);have HS:Hid (∀w',Below w.heap.size w w'->Calls Tryz.prog 68 #[.pointer (some ⟨g,0,none⟩),.int .i64 (k:Int),.slice none 0 0] w' (RetS w' s)):=hdd fun w' h=>hS B N w' g k ns (hs.below h) hx;have HB:=hdd hb1;clear hs hx hS hb1 hs1 b1;go_enter Tryz.func48,Tryz.ntmps48
 go_wp2_with fail
 refine HV.out.mono ?_;rintro e w2⟨rfl,hb2⟩;replace c0:=cbl c0 hb2;replace c1:=cbl c1 hb2;have HB2:=hdd (aB HB.out hb2);clear hb2;go_wp2_with fail
 refine(HS.out _ HB2.out).mono ?_;rintro e w3⟨rfl,hb3⟩;have HB3:=hdd (aB HB2.out hb3);clear hb3;go_wp2
 go_ret2
 exact⟨rfl,HB3.out⟩
theorem afA{j:Nat}{a b:Ex}(hs:St P B N w g ns)(hN:N<20000)(ha:Is ns a i)(hb:Is ns b j)(hP:P (.sub a b))(hS:fK P (.sub a b) s):
 Calls Tryz.prog 41 #[numV g i,numV g j] w (RetQ P B (N+1) w g ns (.tuple #[.int .i64 s,.nilIface])):=by
 obtain⟨w2,hw2,hb2,hs2,b1,b2⟩:=pro2 w (.cells #[.pointer (some ⟨g,0,none⟩),.int .i64 (i:Int)] 34) (.cells #[.pointer (some ⟨g,0,none⟩),.int .i64 (j:Int)] 34);obtain⟨c0,c1,-,-⟩:=aC b1;obtain⟨d0,d1,-,-⟩:=aC b2;have HSUB:=hdd (ae9 (hs.below hb2) hN ha hb hP);have HDS:=hdd (DS.of_below hs.dag.glt hb2);have HSG:Hid (∀w' k ns',St P B (N+1) w' g ns'->Is ns' (.sub a b) k->Calls Tryz.prog 48 #[numV g k] w' (RetS w' s)):=hdd fun w' k ns' h1 h2=>abZ h1 h2 hS;clear hs hN ha hb hP hS hb2 hs2 b1 b2;go_enter Tryz.func41,Tryz.ntmps41
 go_wp2_with fail
 refine HSUB.out.mono ?_;rintro e w3⟨k,ns',rfl,h1,h2,h3,h4⟩;have HC:=hdd (HSG.out w3 k ns' h1 h3);have HR:Hid (∀w',Below w3.heap.size w3 w'->RetQ P B (N+1) w g ns (.tuple #[.int .i64 s,.nilIface]) (.returned (.tuple #[.int .i64 s,.nilIface])) w'):=hdd fun w' h=>⟨rfl,ns',h1.below h,h2,HDS.out.trans (h4.trans (DS.of_below h1.dag.glt h))⟩;clear h1 h2 h3 h4;go_wp2_with fail
 refine HC.out.mono ?_;rintro e w4⟨rfl,hb4⟩;have HF:=hdd (HR.out _ hb4);clear hb4;go_wp2
 go_ret2
 exact HF.out
end
section
open Go.RowKit Go.Maps Go.Stop Go.Extern
variable{a b c:Nat}{w:World}
abbrev curV(k:Int)(a b c:Nat):Value:=.agg #[.int .i64 k,.float .f64 a,.float .f64 b,.float .f64 c]
abbrev curO(k:Int)(a b c:Nat):Obj:=.cells #[.int .i64 k,.float .f64 a,.float .f64 b,.float .f64 c] 32
abbrev FlOk(b:Nat):Prop:=b<18446744073709551616/\fin b
theorem ag7:0<=sr b↔0<=fv b:=by
 unfold fv;rw[<-lK,dM]
theorem afB(ha:FlOk a)(hb:FlOk b)(hc:FlOk c)(h0:0<=fv c):Calls Tryz.prog 43 #[curV 2 a b c] w (RetV w .nilIface):=by
 obtain⟨w1,hw1,hb1,hs1,b1⟩:=pro1 w (curO 2 a b c);obtain⟨c0,c1,c2,c3⟩:=aD b1;have HB:=hdd hb1;have FA:Hid (∀w',Calls Tryz.prog 63 #[.float .f64 a] w' (RetB w' true)):=hdd fun w'=>by have:=eZ (w:=w') ha.1;rwa[decide_eq_true ha.2]at this
 have FB:Hid (∀w',Calls Tryz.prog 63 #[.float .f64 b] w' (RetB w' true)):=hdd fun w'=>by have:=eZ (w:=w') hb.1;rwa[decide_eq_true hb.2]at this
 have FC:Hid (∀w',Calls Tryz.prog 63 #[.float .f64 c] w' (RetB w' true)):=hdd fun w'=>by have:=eZ (w:=w') hc.1;rwa[decide_eq_true hc.2]at this
 have hg:=ajR (b:=c) hc.2.num num0;rw[sr0,decide_eq_true (ag7.2 h0)]at hg;clear ha hb hc h0 hb1 hs1 b1;go_enter Tryz.func43,Tryz.ntmps43
 go_wp2_with fail
 refine(FA.out _).mono ?_;rintro e w2⟨rfl,hw⟩;obtain rfl:=hw;go_wp2_with fail
 refine(FB.out _).mono ?_;rintro e w2⟨rfl,hw⟩;obtain rfl:=hw;go_wp2_with fail
 refine(FC.out _).mono ?_;rintro e w2⟨rfl,hw⟩;obtain rfl:=hw;go_wp2;go_ret;exact⟨rfl,HB.out⟩
theorem vT{r:Bool}(h:(FloatKind.f64.format.order a b==some Ordering.eq)=r):(FloatKind.f64.format.order a b != some Ordering.eq)= !r:=by
 show(!(FloatKind.f64.format.order a b==some Ordering.eq))= !r;rw[h]
theorem aaA:sr b=0↔fv b=0:=by
 have h1:=lK (a:=sr b) (b:=0);have h2:=lK (a:=0) (b:=sr b);rw[dM]at h1 h2;unfold fv;omega
def kS(a b c:Nat):Prop:=FlOk a/\FlOk b/\FlOk c/\(fv a≠0\/fv b≠0)
theorem vU(ha:a<18446744073709551616):Calls Tryz.prog 63 #[.float .f64 a] w (RetB w (decide (fin a))):=eZ ha
theorem aaB(h:kS a b c):Calls Tryz.prog 42 #[curV 1 a b c] w (RetV w .nilIface):=by
 obtain⟨ha,hb,hc,h0⟩:=h;obtain⟨w1,hw1,hb1,hs1,b1⟩:=pro1 w (curO 1 a b c);obtain⟨c0,c1,c2,c3⟩:=aD b1;have HB:=hdd hb1;have FA:Hid (∀w',Calls Tryz.prog 63 #[.float .f64 a] w' (RetB w' true)):=hdd fun w'=>by have:=vU (w:=w') ha.1;rwa[decide_eq_true ha.2]at this
 have FB:Hid (∀w',Calls Tryz.prog 63 #[.float .f64 b] w' (RetB w' true)):=hdd fun w'=>by have:=vU (w:=w') hb.1;rwa[decide_eq_true hb.2]at this
 have FC:Hid (∀w',Calls Tryz.prog 63 #[.float .f64 c] w' (RetB w' true)):=hdd fun w'=>by have:=vU (w:=w') hc.1;rwa[decide_eq_true hc.2]at this
 have ea:=lM (b:=a) ha.2.num num0;have eb:=lM (b:=b) hb.2.num num0;rw[sr0]at ea eb;by_cases hz:fv a=0
 . have hz2:¬sr b=0:=fun e=>h0.elim (fun k=>k hz) (fun k=>k (aaA.1 e))
   rw[decide_eq_true (aaA.2 hz)]at ea;rw[decide_eq_false hz2]at eb;replace ea:=vT ea;replace eb:=vT eb;rw[Bool.not_true]at ea;rw[Bool.not_false]at eb;clear ha hb hc h0 hb1 hs1 b1 hz hz2;go_enter Tryz.func42,Tryz.ntmps42
   go_wp2_with fail
   refine(FA.out _).mono ?_;rintro e w2⟨rfl,hw⟩;obtain rfl:=hw;go_wp2_with fail
   refine(FB.out _).mono ?_;rintro e w2⟨rfl,hw⟩;obtain rfl:=hw;go_wp2_with fail
   refine(FC.out _).mono ?_;rintro e w2⟨rfl,hw⟩;obtain rfl:=hw;go_wp2;go_ret;exact⟨rfl,HB.out⟩
 . rw[decide_eq_false (fun e=>hz (aaA.1 e))]at ea
   replace ea:=vT ea;rw[Bool.not_false]at ea;clear ha hb hc h0 hb1 hs1 b1 hz eb;go_enter Tryz.func42,Tryz.ntmps42
   go_wp2_with fail
   refine(FA.out _).mono ?_;rintro e w2⟨rfl,hw⟩;obtain rfl:=hw;go_wp2_with fail
   refine(FB.out _).mono ?_;rintro e w2⟨rfl,hw⟩;obtain rfl:=hw;go_wp2_with fail
   refine(FC.out _).mono ?_;rintro e w2⟨rfl,hw⟩;obtain rfl:=hw;go_wp2;go_ret;exact⟨rfl,HB.out⟩
theorem yQ:FlOk 0:=⟨by decide,by decide⟩
theorem am3:(0:Int)<U74:=by have h:0<U74:=abH 1074;omega
theorem yR(h:kS a b c):Calls Tryz.prog 27 #[curV 1 a b c] w (RetV w .nilIface):=by
 obtain⟨w1,hw1,hb1,hs1,b1⟩:=pro1 w (curO 1 a b c);obtain⟨c0,c1,c2,c3⟩:=aD b1;have HB:=hdd hb1;have HL:=hdd (aaB (w:=w1) h);clear h hb1 hs1 b1;go_enter Tryz.func27,Tryz.ntmps27
 go_wp2_with fail
 refine HL.out.mono ?_;rintro e w2⟨rfl,hb⟩;have HB2:=hdd (HB.out.trans (hb.mono HB.out.size));clear hb;go_wp2;go_ret;exact⟨rfl,HB2.out⟩
def vV(a b c:Nat):Prop:=FlOk a/\FlOk b/\FlOk c/\0<=fv c
theorem yS(h:vV a b c):Calls Tryz.prog 27 #[curV 2 a b c] w (RetV w .nilIface):=by
 obtain⟨w1,hw1,hb1,hs1,b1⟩:=pro1 w (curO 2 a b c);obtain⟨c0,c1,c2,c3⟩:=aD b1;have HB:=hdd hb1;have HL:=hdd (afB (w:=w1) h.1 h.2.1 h.2.2.1 h.2.2.2);clear h hb1 hs1 b1;go_enter Tryz.func27,Tryz.ntmps27
 go_wp2_with fail
 refine HL.out.mono ?_;rintro e w2⟨rfl,hb⟩;have HB2:=hdd (HB.out.trans (hb.mono HB.out.size));clear hb;go_wp2;go_ret;exact⟨rfl,HB2.out⟩
end
section
open Go.RowKit
open _root_.Array renaming getD_eq_getD_getElem?->bbG,getElem?_eq_getElem->bbJ,getElem?_eq_some_iff->bbM,getElem?_setIfInBounds->bbQ,mem_toList_iff->bb9,all_eq_true'->bcB
open Bool renaming and_eq_true->bbK,not_eq_true'->bbL,or_eq_true->bbS
open Go.Instr renaming loadAt->bb8,sureAddr->bcA,storeAt->bcH
open Go.Region renaming ready->bbW,binds->bcI
open List renaming mem_filterMap->bbH,range->bbI,mem_range->bbN,contains_iff_mem->bbO,mem_cons_of_mem->bbP,map_congr_left->bbR,mem_filter->bbT,map_append->bbU,sum_append->bbV,getElem?_eq_getElem->bbX,map_cons->bbY,all_eq_true->bbZ,mem_map->bb4,range_succ->bb6,mem_flatMap->bcC,length_cons->bcD,nodup_cons->bcE,sum_cons->bcF,map_nil->bcJ,sum_nil->bcK
open Nat renaming lt_or_ge->bb7,add_assoc->bcG,add_zero->bcL
open Option.some renaming inj->bb5,injEq->bcM
variable{d j k n:Nat}{t:TypeId}{v:Value}
inductive SC where
 |v (x:Value)
 |id (n:Nat)
 |ptr (b off:Nat)
 |sl (b len:Nat)
inductive SW where
 |c (x:SC)
 |agg (l:List SC)
inductive SV where
 |w (x:SW)
 |tup (l:List SW)
section
variable(ν:Nat->Nat)
def SC.den:SC->Value
 | .v x=>x
 | .id n=>.int .i64 ((ν n:Nat):Int)
 | .ptr b o=>.pointer (some ⟨ν b,o,none⟩)
 | .sl b n=>.slice (some ⟨ν b,0,none⟩) n n
def SW.den:SW->Value
 | .c x=>x.den ν
 | .agg l=>.agg (l.map (SC.den ν)).toArray
def SV.den:SV->Value
 | .w x=>x.den ν
 | .tup l=>.tuple (l.map (SW.den ν)).toArray
end
def SC.lets:SC->List Nat
 | .v _=>[]
 | .id n=>[n]
 | .ptr b _=>[b]
 | .sl b _=>[b]
def SW.lets:SW->List Nat
 | .c x=>x.lets
 | .agg l=>l.flatMap SC.lets
def SV.lets:SV->List Nat
 | .w x=>x.lets
 | .tup l=>l.flatMap SW.lets
section
variable{ν ν':Nat->Nat}
theorem SC.congr {x:SC}(h:∀n∈x.lets,ν n=ν' n):x.den ν=x.den ν':=by
 cases x with
 |v x=>rfl
 |id n=>simp only[SC.den,h n (by simp[SC.lets])]
 |ptr b o=>simp only[SC.den,h b (by simp[SC.lets])]
 |sl b n=>simp only[SC.den,h b (by simp[SC.lets])]
theorem SC.congrs {l:List SC}(h:∀n∈l.flatMap SC.lets,ν n=ν' n):l.map (SC.den ν)=l.map (SC.den ν'):=
 bbR fun x hx=>SC.congr fun n hn=>h n (bcC.2 ⟨x,hx,hn⟩)
theorem SW.congr {x:SW}(h:∀n∈x.lets,ν n=ν' n):x.den ν=x.den ν':=by
 cases x with
 |c x=>exact SC.congr h
 |agg l=>simp only[SW.den,SC.congrs h]
theorem SV.congr {x:SV}(h:∀n∈x.lets,ν n=ν' n):x.den ν=x.den ν':=by
 cases x with
 |w x=>exact SW.congr h
 |tup l=>
  have:l.map (SW.den ν)=l.map (SW.den ν'):=bbR fun x hx=>SW.congr fun n hn=>h n (bcC.2 ⟨x,hx,hn⟩);simp only[SV.den,this]
end
structure Wk(E:Type) where
 G:Nat->List (E×Nat)->List (Nat×Obj)->World->Prop
 weak:∀{c c' K K' l l' w},G c K l w->c<=c'->(∀p∈K',p∈K)->(∀p∈l',p∈l)->(l'.map (·.1)).Nodup->G c' K' l' w
 heap:∀{c K l w},G c K l w->∀p∈l,w.heap[p.1]? =some p.2
 alloc:∀{c K l w},G c K l w->∀o,G c K ((w.heap.size,o)::l) (w.alloc o)
 write:∀{c K l w w' b o o'},G c K ((b,o)::l) w->w.grownBy w' (some b)->w'.heap[b]? =some o'->G c K ((b,o')::l) w'
 drew:∀{c K l w},G c K l w->G c K l w.drew
structure Blk where
 b:Nat
 T:TypeId
 init:List SC
 st:Option (Nat×List SC)
structure Spec(E:Type) where
 ops:Array Oper
 val:Nat->SV
 cr:Nat->Option Nat
 know:List (Nat×E)
 blocks:List Blk
 cost:Nat->Nat
 D:Nat->List Nat
 out:List (Nat×SV)
def lof(l:Array Bool)(i:Nat):Bool:=l.getD i false
section
variable{E:Type}(S:Spec E)(W:Wk E){P:Program}
def Spec.dst (i:Nat):Option Tmp:=(S.ops[i]?).bind (·.dst)
def Spec.aft (i:Nat):List Nat:=match S.ops[i]? with
 |none=>[]
 |some o=>(o.after.toList.filter (bcI .any)).map (·.on)
def Spec.on (lst:Nat->Bool)(n:Nat):Bool:=match S.cr n with
 |none=>true
 |some i=>lst i
def Spec.K (lst:Nat->Bool)(ν:Nat->Nat):List (E×Nat):=S.know.filterMap fun p=>if S.on lst p.1 then some (p.2,ν p.1)else none
def Blk.cont (lst:Nat->Bool)(B:Blk):List SC:=match B.st with
 |some (s,c)=>if lst s then c else B.init
 |none=>B.init
def Blk.obj (lst:Nat->Bool)(ν:Nat->Nat)(B:Blk):Obj:=.cells ((B.cont lst).map (SC.den ν)).toArray B.T
def Spec.L (lst:Nat->Bool)(ν:Nat->Nat):List (Nat×Obj):=S.blocks.filterMap fun B=>if S.on lst B.b then some (ν B.b,B.obj lst ν)else none
def Spec.costs (lst:Nat->Bool):Nat:=((bbI S.ops.size).map fun i=>if lst i then S.cost i else 0).sum
def Spec.total:Nat:=((bbI S.ops.size).map S.cost).sum
def Spec.Vals (lst:Nat->Bool)(a:Act)(ν:Nat->Nat):Prop:=∀i d,lst i=true->S.dst i=some d->a.tmps.getD d undef=(S.val i).den ν
def Spec.Inj (lst:Nat->Bool)(ν:Nat->Nat):Prop:=∀B∈S.blocks,∀C∈S.blocks,S.on lst B.b=true->S.on lst C.b=true->ν B.b=ν C.b->B.b=C.b
structure Spec.J (c0:Nat)(a0:Act)(ν0:Nat->Nat)(listed:Array Bool)(a:Act)(w:World):Prop where
 ex:∃ν,(∀n,S.cr n=none->ν n=ν0 n)/\W.G (c0+S.costs (lof listed)) (S.K (lof listed) ν) (S.L (lof listed) ν) w/\S.Vals (lof listed) a ν/\S.Inj (lof listed) ν
 oth:∀s,(∀i,S.dst i≠some s)->a.tmps.getD s undef=a0.tmps.getD s undef
 size:a.tmps.size=a0.tmps.size
 defers:a.defers=a0.defers
 lsz:listed.size=S.ops.size
 closed:∀i,lof listed i=true->∀e∈S.aft i,lof listed e=true
def Spec.okL (i m:Nat):Bool:=match S.cr m with
 |none=>true
 |some k=>k==i||(S.D i).contains k
def Blk.ok (B:Blk):Bool:=
 (B.init.flatMap SC.lets).all (fun m=>match S.cr B.b with
   |none=>(S.cr m).isNone
   |some k=>S.okL k m)&&
 match B.st with
 |none=>true
 |some (s,c)=>(c.flatMap SC.lets).all (S.okL s)&&S.okL s B.b
def Spec.wfB:Bool:=
 (bbI S.ops.size).all (fun i=>(S.aft i).all (fun e=>decide (e<i))&&(S.D i).all (fun d=>(S.aft i).any fun e=>e==d||(S.D e).contains d)&&(S.val i).lets.all (S.okL i))&&
 S.blocks.all (fun B=>B.ok S)&&decide (S.blocks.map (·.b)).Nodup&&decide ((bbI S.ops.size).filterMap S.dst).Nodup&&
 S.out.all (fun p=>p.2.lets.all (fun m=>(S.cr m).isNone)&& !((bbI S.ops.size).filterMap S.dst).contains p.1)
structure Spec.WF:Prop where
 topo:∀i,i<S.ops.size->∀e∈S.aft i,e<i
 dok:∀i,i<S.ops.size->∀d∈S.D i,∃e∈S.aft i,e=d\/d∈S.D e
 lets:∀i,i<S.ops.size->∀m∈(S.val i).lets,S.okL i m=true
 blk:∀B∈S.blocks,B.ok S=true
 bnd:(S.blocks.map (·.b)).Nodup
 dnd:((bbI S.ops.size).filterMap S.dst).Nodup
 outs:∀p∈S.out,(∀m∈p.2.lets,S.cr m=none)/\∀i,S.dst i≠some p.1
variable{S W}
theorem Spec.dst_lt {i:Nat}(h:S.dst i=some d):i<S.ops.size:=by
 unfold Spec.dst at h
 cases ho:S.ops[i]? with
 |none=>rw[ho]at h;cases h
 |some o=>exact(bbM.1 ho).1
theorem Spec.wf_of (h:S.wfB=true):S.WF:=by
 unfold Spec.wfB at h;simp only[bbK,bbZ,bbN,decide_eq_true_eq,List.any_eq_true,bbS,beq_iff_eq,bbO,Option.isNone_iff_eq_none,bbL]at h;obtain⟨⟨⟨⟨h1,h2⟩,h3⟩,h4⟩,h5⟩:=h;refine⟨fun i hi=>(h1 i hi).1.1,fun i hi=>(h1 i hi).1.2,fun i hi=>(h1 i hi).2,h2,h3,h4,fun p hp=>⟨(h5 p hp).1,fun i hd=> ?_⟩⟩;have h6:=(h5 p hp).2;have:p.1∈(bbI S.ops.size).filterMap S.dst:=bbH.2 ⟨i,bbN.2 (Spec.dst_lt hd),hd⟩;rw[<-bbO]at this;rw[this]at h6;cases h6
theorem uA{l:Array Bool}{i:Nat}(hi:i<l.size)(j:Nat):lof (l.setIfInBounds i true) j=if j=i then true else lof l j:=by
 unfold lof;rw[bbG,bbG,bbQ];by_cases h:i=j
 . subst h;simp[hi]
 . rw[if_neg h,if_neg (Ne.symm h)]
theorem aaC(a:Act)(x:Option Tmp)(v:Value)(s:Nat):(a.put x v).tmps.getD s undef=if x=some s/\s<a.tmps.size then v else a.tmps.getD s undef:=by
 cases x with
 |none=>simp[Act.put]
 |some d=>
  simp only[Act.put,bbG,bbQ,bcM];by_cases h:d=s
  . subst h
    by_cases h2:d<a.tmps.size
    . simp[h2]
    . simp[h2]
  . simp[h]
theorem size_put(a:Act)(x:Option Tmp)(v:Value):(a.put x v).tmps.size=a.tmps.size:=by cases x<;>simp[Act.put]
theorem vW(a:Act)(x:Option Tmp)(v:Value):(a.put x v).defers=a.defers:=by cases x<;>rfl
theorem kD{listed:Array Bool}{i:Nat}(hz:listed.size=S.ops.size)(h:i∈bbW .any S.ops listed):i<S.ops.size/\lof listed i=false/\∀e∈S.aft i,lof listed e=true:=by
 unfold bbW at h;simp only[bbT,bbN,bbK,bbL]at h;obtain⟨h1,h2,h3⟩:=h;refine⟨h1,?_,fun e he=> ?_⟩
 . unfold lof
   rw[bbG]at h2|-;rw[bbJ (by omega)]at h2|-;simpa using h2
 . unfold Spec.aft at he
   have ho:S.ops[i]? =some S.ops[i]:=bbJ h1;rw[ho]at h3 he;simp only[Option.map_some,Option.getD_some,bcB,bbS,bbL]at h3;simp only[bb4,bbT,bb9]at he;obtain⟨x,⟨hx,hb⟩,rfl⟩:=he;rcases h3 x hx with h4|h4
   . rw[h4]at hb;cases hb
   . exact h4
theorem akF{listed:Array Bool}(hz:listed.size=S.ops.size){i:Nat}(h1:i<S.ops.size)(h2:lof listed i=false)(h3:∀e∈S.aft i,lof listed e=true):i∈bbW .any S.ops listed:=by
 unfold bbW;simp only[bbT,bbN,bbK,bbL];refine⟨h1,?_,?_⟩
 . unfold lof at h2
   rw[bbG]at h2|-;rw[bbJ (by omega)]at h2|-;simpa using h2
 . have ho:S.ops[i]? =some S.ops[i]:=bbJ h1
   rw[ho];simp only[Option.map_some,Option.getD_some,bcB,bbS,bbL];intro x hx
   cases hb:bcI .any x with
   |false=>exact Or.inl rfl
   |true=>
    right;refine h3 x.on ?_;unfold Spec.aft;rw[ho];exact bb4.2 ⟨x,bbT.2 ⟨bb9.2 hx,hb⟩,rfl⟩
theorem Spec.WF.down (wf:S.WF){lst:Nat->Bool}(hc:∀i,lst i=true->∀e∈S.aft i,lst e=true):∀(n i:Nat),i<n->i<S.ops.size->(∀e∈S.aft i,lst e=true)->∀d∈S.D i,lst d=true
 |0,i,h,_,_,_,_=>by omega
 |n+1,i,h,hi,ha,d,hd=>by
  obtain⟨e,he,h2⟩:=wf.dok i hi d hd;have hlt:=wf.topo i hi e he;rcases h2 with rfl|h2
  . exact ha e he
  . exact down wf hc n e (by omega) (by omega) (hc e (ha e he)) d h2
theorem Spec.WF.downI (wf:S.WF){lst:Nat->Bool}(hc:∀i,lst i=true->∀e∈S.aft i,lst e=true){i:Nat}(hi:i<S.ops.size)(hl:lst i=true):∀d∈S.D i,lst d=true:=
 wf.down hc (i+1) i (by omega) hi (hc i hl)
theorem Spec.okL_on {lst:Nat->Bool}{i m:Nat}(h:S.okL i m=true)(hi:lst i=true)(hd:∀d∈S.D i,lst d=true):S.on lst m=true:=by
 unfold Spec.okL at h;unfold Spec.on
 cases hc:S.cr m with
 |none=>rfl
 |some k=>
  rw[hc]at h;simp only[bbS,beq_iff_eq,bbO]at h;rcases h with rfl|h
  . exact hi
  . exact hd k h
section
variable{lst lst':Nat->Bool}{ν ν':Nat->Nat}{i:Nat}
def Spec.Keep (S:Spec E)(lst:Nat->Bool)(ν ν':Nat->Nat):Prop:=∀n,S.on lst n=true->ν' n=ν n
theorem Spec.keep_of (hf:lst i=false)(h:∀n,S.cr n≠some i->ν' n=ν n):S.Keep lst ν ν':=fun n hn=>h n fun hc=>by
 unfold Spec.on at hn;rw[hc]at hn;simp only at hn;rw[hf]at hn;cases hn
theorem Spec.WF.val_keep (wf:S.WF)(hc:∀i,lst i=true->∀e∈S.aft i,lst e=true)(hk:S.Keep lst ν ν')(hd:S.dst j=some d)(hj:lst j=true):(S.val j).den ν'=(S.val j).den ν:=
 SV.congr fun m hm=>hk m (Spec.okL_on (wf.lets j (Spec.dst_lt hd) m hm) hj (wf.downI hc (Spec.dst_lt hd) hj))
theorem apV(hc:S.cr n=some k):S.on lst n=lst k:=by unfold Spec.on;rw[hc]
theorem ao5(hc:S.cr n=none):S.on lst n=true:=by unfold Spec.on;rw[hc]
theorem Spec.WF.obj_keep (wf:S.WF)(hlt:∀i,lst i=true->i<S.ops.size)(hc:∀i,lst i=true->∀e∈S.aft i,lst e=true)(hk:S.Keep lst ν ν'){B:Blk}(hB:B∈S.blocks)(ho:S.on lst B.b=true):B.obj lst ν'=B.obj lst ν:=by
 have h:=wf.blk B hB;unfold Blk.ok at h;rw[bbK,bbZ]at h;obtain⟨h1,h2⟩:=h;have hinit:∀m∈B.init.flatMap SC.lets,ν' m=ν m:=fun m hm=>hk m (by
  have:=h1 m hm
  cases hcr:S.cr B.b with
  |none=>rw[hcr]at this;exact ao5 (by simpa using this)
  |some k=>
   rw[hcr]at this;rw[apV hcr]at ho;exact Spec.okL_on this ho (wf.downI hc (hlt k ho) ho))
 unfold Blk.obj
 suffices hs:(B.cont lst).map (SC.den ν')=(B.cont lst).map (SC.den ν) by rw[hs]
 unfold Blk.cont
 cases hst:B.st with
 |none=>exact SC.congrs hinit
 |some p=>
  obtain⟨s,c⟩:=p;rw[hst]at h2;simp only[bbK,bbZ]at h2;simp only
  split
  . rename_i hs
    exact SC.congrs fun m hm=>hk m (Spec.okL_on (h2.1 m hm) hs (wf.downI hc (hlt s hs) hs))
  . exact SC.congrs hinit
theorem qB{x:E}(h:(n,x)∈S.know)(ho:S.on lst n=true):(x,ν n)∈S.K lst ν:=bbH.2 ⟨(n,x),h,by simp only[ho,if_true]⟩
theorem vX{B:Blk}(h:B∈S.blocks)(ho:S.on lst B.b=true):(ν B.b,B.obj lst ν)∈S.L lst ν:=bbH.2 ⟨B,h,by simp only[ho,if_true]⟩
theorem of_L{p:Nat×Obj}(h:p∈S.L lst ν):∃B∈S.blocks,S.on lst B.b=true/\p=(ν B.b,B.obj lst ν):=by
 obtain⟨B,h1,h2⟩:=bbH.1 h
 split at h2
 . rename_i ho;exact⟨B,h1,ho,(bb5 h2).symm⟩
 . cases h2
theorem of_K{p:E×Nat}(h:p∈S.K lst ν):∃q∈S.know,S.on lst q.1=true/\p=(q.2,ν q.1):=by
 obtain⟨B,h1,h2⟩:=bbH.1 h
 split at h2
 . rename_i ho;exact⟨B,h1,ho,(bb5 h2).symm⟩
 . cases h2
theorem ab0(l:List Blk)(hn:(l.map (·.b)).Nodup)(hI:∀B∈l,∀C∈l,S.on lst B.b=true->S.on lst C.b=true->ν B.b=ν C.b->B.b=C.b):((l.filterMap fun B=>if S.on lst B.b then some (ν B.b,B.obj lst ν)else none).map (·.1)).Nodup:=by
 induction l with
 |nil=>simp
 |cons B l ih=>
  rw[bbY,bcE]at hn;have ih:=ih hn.2 fun C hC C' hC'=>hI C (bbP _ hC) C' (bbP _ hC');rw[List.filterMap_cons]
  cases ho:S.on lst B.b with
  |false=>simpa[ho]using ih
  |true=>
   simp only[if_true,bbY,bcE];refine⟨fun hm=> ?_,ih⟩;obtain⟨p,hp,e⟩:=bb4.1 hm;obtain⟨C,hC,h2⟩:=bbH.1 hp
   split at h2
   . rename_i hoC
     have:=bb5 h2;subst this;have:=hI C (bbP _ hC) B List.mem_cons_self hoC ho e;exact hn.1 (by rw[<-this];exact bb4.2 ⟨C,hC,rfl⟩)
   . cases h2
theorem Spec.WF.nodup_L (wf:S.WF)(hI:S.Inj lst ν):((S.L lst ν).map (·.1)).Nodup:=ab0 S.blocks wf.bnd hI
theorem am4(f:Nat->Nat)(c i:Nat):∀n,i<n->(∀j,j≠i->lst' j=lst j)->lst i=false->lst' i=true->f i=c->
 ((bbI n).map fun j=>if lst' j then f j else 0).sum=((bbI n).map fun j=>if lst j then f j else 0).sum+c:=by
 intro n
 induction n with
 |zero=>intro h;omega
 |succ n ih=>
  intro hn hne h0 h1 hc;rw[bb6,bbU,bbU,bbV,bbV];simp only[bbY,bcJ,bcF,bcK,bcL];rcases bb7 i n with h|h
  . rw[ih h hne h0 h1 hc,hne n (by omega)];omega
  . have:i=n:=by omega
    subst this;rw[h0,h1,hc];have:((bbI i).map fun j=>if lst' j then f j else 0)=((bbI i).map fun j=>if lst j then f j else 0):=bbR fun j hj=>by rw[hne j (by have:=bbN.1 hj;omega)]
    rw[this];simp
theorem Spec.costs_set (hi:i<S.ops.size)(hne:∀j,j≠i->lst' j=lst j)(h0:lst i=false)(h1:lst' i=true):S.costs lst'=S.costs lst+S.cost i:=am4 S.cost _ i _ hi hne h0 h1 rfl
theorem ao6(f:Nat->Nat)(n:Nat):((bbI n).map fun j=>if lst j then f j else 0).sum<=((bbI n).map f).sum:=by
 induction n with
 |zero=>simp
 |succ n ih=>
  rw[bb6,bbU,bbU,bbV,bbV];simp only[bbY,bcJ,bcF,bcK,bcL]
  split<;>omega
theorem Spec.costs_le:S.costs lst<=S.total:=ao6 S.cost _
end
section
variable{c0:Nat}{a0:Act}{ν0:Nat->Nat}{listed:Array Bool}{a:Act}{w:World}{i:Nat}
theorem Spec.J.lt (h:S.J W c0 a0 ν0 listed a w)(hj:lof listed j=true):j<S.ops.size:=by
 rcases bb7 j S.ops.size with hlt|hge
 . exact hlt
 . unfold lof at hj
   rw[bbG,Array.getElem?_eq_none (by rw[h.lsz];exact hge)]at hj
   cases hj
theorem Spec.J.next (wf:S.WF)(hin:∀i d,S.dst i=some d->d<a0.tmps.size)(h:S.J W c0 a0 ν0 listed a w)(hr:i∈bbW .any S.ops listed){ν ν':Nat->Nat}{w':World}
 (h0:∀n,S.cr n=none->ν n=ν0 n) (hV:S.Vals (lof listed) a ν) (hag:∀n,S.cr n≠some i->ν' n=ν n)
 (hG:W.G (c0+S.costs (lof (listed.setIfInBounds i true))) (S.K (lof (listed.setIfInBounds i true)) ν') (S.L (lof (listed.setIfInBounds i true)) ν') w') (hI:S.Inj (lof (listed.setIfInBounds i true)) ν')
 (hv:(S.dst i).isSome=true->v=(S.val i).den ν'):
 S.J W c0 a0 ν0 (listed.setIfInBounds i true) (a.put (S.dst i) v) w':=by
 obtain⟨h1,h2,h3⟩:=kD h.lsz hr;have hls:∀j,lof (listed.setIfInBounds i true) j=if j=i then true else lof listed j:=uA (by rw[h.lsz];exact h1);refine⟨⟨ν',fun n hn=> ?_,hG,fun j d hj hd=> ?_,hI⟩,fun s hs=> ?_,?_,?_,?_,fun j hj e he=> ?_⟩
 . rw[hag n (by rw[hn];exact fun e=>by cases e)];exact h0 n hn
 . rw[aaC]
   by_cases hji:j=i
   . subst hji
     rw[if_pos ⟨hd,by rw[h.size];exact hin j d hd⟩];exact hv (by rw[hd];rfl)
   . rw[hls,if_neg hji]at hj
     rw[if_neg,hV j d hj hd]
     . exact(wf.val_keep h.closed (Spec.keep_of h2 hag) hd hj).symm
     . rintro⟨e,-⟩
       have hnd:=wf.dnd;have hlt:=Spec.dst_lt hd;exact hji (filterMap_inj hnd hlt h1 hd e)
 . rw[aaC,if_neg (fun e=>hs i e.1)];exact h.oth s hs
 . rw[size_put,h.size]
 . rw[vW,h.defers]
 . rw[Array.size_setIfInBounds,h.lsz]
 . rw[hls]at hj|-
   split
   . rfl
   . by_cases hji:j=i
     . subst hji;exact h3 e he
     . rw[if_neg hji]at hj;exact h.closed j hj e he
where
 filterMap_inj {f:Nat->Option Nat} {n j k d:Nat} (hnd:((bbI n).filterMap f).Nodup) (hj:j<n) (hk:k<n) (hd:f j=some d) (he:f k=some d):j=k:=by
  induction n with
  |zero=>omega
  |succ n ih=>
   rw[bb6,List.filterMap_append,List.nodup_append]at hnd;obtain⟨n1,-,n2⟩:=hnd;have key:∀{p:Nat},p<n->f p=some d->f n=some d->False:=fun{p} hp h1 h2=>
    n2 d (bbH.2 ⟨p,bbN.2 hp,h1⟩) d (by simp[h2]) rfl
   rcases bb7 j n with h1|h1<;>rcases bb7 k n with h2|h2
   . exact ih n1 h1 h2
   . have:k=n:=by omega
     subst this;exact(key h1 hd he).elim
   . have:j=n:=by omega
     subst this;exact(key h2 he hd).elim
   . omega
end
end
section
variable{P:Program}{w:World}{b off:Nat}{T:TypeId}{cs:List Value}
theorem aL(h:w.heap[b]? =some (.cells cs.toArray T (0,0)))(hv:cs[k]? =some v):w.cell? ⟨b,k,none⟩=some v:=by
 simp[World.cell?,h,hv]
theorem lcf(h:w.heap[b]? =some (.cells cs.toArray T (0,0))):∀(n i:Nat) (acc:Array Value),off+i+n<=cs.length->(loadCellsFrom ⟨b,off,none⟩ i n acc).run P w=.ok (acc++((cs.drop (off+i)).take n).toArray) w:=by
 intro n
 induction n with
 |zero=>intro i acc _;simp[loadCellsFrom,go_sem]
 |succ n ih=>
  intro i acc hl;obtain⟨v,hv⟩:∃v,cs[off+i]? =some v:=⟨_,bbX (by omega)⟩;have hc:=aL h hv;have e:(cs.drop (off+i)).take (n+1)=v::(cs.drop (off+(i+1))).take n:=by
   have h1:=(List.getElem?_eq_some_iff.1 hv);obtain⟨h2,h3⟩:=h1;rw[List.drop_eq_getElem_cons h2,List.take_succ_cons,h3,bcG]
  have e2:Addr.add ⟨b,off,none⟩ i=⟨b,off+i,none⟩:=by simp[Addr.add]
  unfold loadCellsFrom;simp[go_sem,e2,hc,ih (i+1) _ (by omega),e]
theorem ao7(hT:(isAgg t).run P w=.ok true w)(hn:(sizeOf t).run P w=.ok n w)(h:w.heap[b]? =some (.cells cs.toArray T (0,0)))(hl:off+n<=cs.length):
 (bb8 t (.pointer (some ⟨b,off,none⟩))).run P w=.ok (.agg ((cs.drop off).take n).toArray) w:=by
 simp[bb8,bcA,loadVar,go_sem,hT,hn,loadCells,lcf h n 0 #[] (by omega)]
theorem ao8(hT:(isAgg t).run P w=.ok false w)(h:w.heap[b]? =some (.cells cs.toArray T (0,0)))(hv:cs[off]? =some v):
 (bb8 t (.pointer (some ⟨b,off,none⟩))).run P w=.ok v w:=by
 simp[bb8,bcA,loadVar,go_sem,hT,aL h hv]
def okV:Value->Bool
 | .pointer _| .int _ _| .bool _| .float _ _| .nilIface| .iface _ _| .slice _ _ _=>true
 |_=>false
theorem ao9(h:w.heap[b]? =some (.cells cs.toArray T (0,0)))(hk:k<cs.length)(hv:okV v=true):(store ⟨b,k,none⟩ v).run P w=.ok () (w.setCell ⟨b,k,none⟩ v):=by
 obtain⟨u,hu⟩:∃u,cs[k]? =some u:=⟨_,bbX hk⟩;have hc:=aL h hu;have hf:w.frozen? ⟨b,k,none⟩=false:=by simp[World.frozen?,h]
 cases v<;>first
  |(exfalso;revert hv;simp[okV];done)
  |(rw[run_store P w _ _ _ rfl];simp[stored,hc,hf])
theorem lS(h:w.heap[b]? =some (.cells cs.toArray T (0,0))):(w.setCell ⟨b,k,none⟩ v).heap[b]? =some (.cells (cs.set k v).toArray T (0,0)):=by
 have hg:b<w.heap.size:=(bbM.1 h).1;have h':w.heap[b]=.cells cs.toArray T (0,0):=(bbM.1 h).2;simp[World.setCell,hg,Array.getElem_modify,h']
def splice(cs:List Value)(k:Nat)(vs:List Value):List Value:=cs.take k++vs++cs.drop (k+vs.length)
theorem nX(w:World)(row:Option Nat):w.grownBy w row:=⟨rfl,rfl,rfl,Nat.le_refl _,fun _ _ _=>rfl⟩
theorem akG:∀(vs:List Value) (k:Nat) (cs:List Value) (w:World),w.heap[b]? =some (.cells cs.toArray T (0,0))->off+k+vs.length<=cs.length->vs.all okV=true->
 ∃w',(storeCells ⟨b,off,none⟩ vs k).run P w=.ok () w'/\w.grownBy w' (some b)/\w'.heap[b]? =some (.cells (splice cs (off+k) vs).toArray T (0,0)):=by
 intro vs
 induction vs with
 |nil=>intro k cs w h _ _;exact⟨w,by simp[storeCells,go_sem],nX w _,by rw[h];simp[splice]⟩
 |cons v vs ih=>
  intro k cs w h hl hv;rw[bcD]at hl;simp only[List.all_cons,bbK]at hv;have h1:=ao9 (P:=P) (k:=off+k) h (by omega) hv.1;obtain⟨w',q1,q2,q3⟩:=ih (k+1) (cs.set (off+k) v) (w.setCell ⟨b,off+k,none⟩ v) (lS h) (by rw[List.length_set];omega) hv.2;refine⟨w',?_,grownBy_trans (grownBy_set (nX w _) v) q2,?_⟩
  . have e2:Addr.add ⟨b,off,none⟩ k=⟨b,off+k,none⟩:=by simp[Addr.add]
    unfold storeCells;simp[go_sem,e2,h1,q1]
  . rw[q3]
    have:splice (cs.set (off+k) v) (off+(k+1)) vs=splice cs (off+k) (v::vs):=by
     unfold splice;rw[bcD,List.drop_set_of_lt (by omega),show off+(k+1)+vs.length=off+k+(vs.length+1) by omega,<-bcG off k 1,List.take_add_one,List.getElem?_set_self (by omega),List.take_set_of_le (by omega)];simp
    rw[this]
theorem apA{c:List Value}(hc:v.cells=c.toArray)(hn:(sizeOf t).run P w=.ok cs.length w)(h:w.heap[b]? =some (.cells cs.toArray T (0,0)))(hl:c.length=cs.length)(hv:c.all okV=true):
 ∃w',(bcH t (.pointer (some ⟨b,0,none⟩)) v).run P w=.ok () w'/\w.grownBy w' (some b)/\w'.heap[b]? =some (.cells c.toArray T (0,0)):=by
 obtain⟨w',q1,q2,q3⟩:=akG (P:=P) (off:=0) c 0 cs w h (by omega) hv;refine⟨w',?_,q2,?_⟩
 . simp only[bcH,bcA,storeVar,hc]
   simp[go_sem,hn,hl,q1]
 . rw[q3]
   unfold splice;simp[hl]
end
end
end Go.Proofs.YtjdgaogkioabeaaGreatDoor
