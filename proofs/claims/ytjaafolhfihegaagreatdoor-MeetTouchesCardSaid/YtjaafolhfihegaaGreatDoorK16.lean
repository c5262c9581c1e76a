/- A part of the proof: contracts of functions and plain laws (RlE, RlF, DyA, DyB, DyC, DyE, DyD, DyF, DyG). -/
import Derived.Test.YtjaafolhfihegaaGreatDoorK15
import Derived.Test.YtjaafolhfihegaaGreatDoorK08
set_option linter.unusedVariables false
set_option linter.unusedSimpArgs false
set_option maxHeartbeats 25600000
set_option maxRecDepth 100000
namespace Go.Proofs.YtjaafolhfihegaaGreatDoor
open Go.RowKit Go.Maps
variable{a e0:Ex}{P:Ex->Prop}{s:Int}{l:List Nat}{ns:List Nd}{B N g i k:Nat}{v:Value}{w:World}
theorem amR{es:List Ex}(hs:St P B N w g ns)(hl:NumsP w v g l)(hlen:l.length=es.length)(h0:0<l.length)
 (he0:Is ns e0 i) (hes:∀(m x:Nat) e,l[m]? =some x->es[m]? =some e->Is ns e x) (hP:∀m,m<es.length->P (gQ 1 e0 (es.take (m+1)))) (hN:N+l.length<=20000):
 Calls Tryz.prog 35 #[numV g i,v] w (RetE P B (N+l.length) w g ns (numV g) (gQ 1 e0 es)):=by
 obtain⟨w2,hw2,hb2,hs2,b1,b2⟩:=pro2 w (.cells #[.pointer (some ⟨g,0,none⟩),.int .i64 (i:Int)] 31) (.cells #[.pointer none,.int .i64 0] 31);have hll:∀x∈l,x<ns.length:=fun x hx=>by
  obtain⟨m,hm⟩:=List.getElem?_of_mem hx;have hml:=(List.getElem?_eq_some_iff.1 hm).1;exact(hes m x es[m] hm (List.getElem?_eq_getElem (by omega))).lt
 have HG:=hdd (rO (hs.dag.below hb2) he0.lt (hl.below hb2) hll);have HIDS:Hid (∀w',Below w.heap.size w w'->Calls Tryz.prog 68 #[.agg #[.pointer (some ⟨g,0,none⟩),.int .i64 (i:Int)],v] w' (aaJ w' (i::l))):=hdd fun w' h=>ae3 (hl.below h);have HAW:Hid (∀w' (c:Nat),Below w.heap.size w w'->w.heap.size<=c->¬DagB w' g c):=hdd fun w' c h=>hs.away h;have HOP:Hid (∀w' v' (q:Nat),Below w.heap.size w w'->w.heap.size<=q->IntsP (fun b=>q<=b) w' v' (i::l)->Calls Tryz.prog 73 #[.pointer (some ⟨g,0,none⟩),v'] w' (RetE P B (N+l.length) w' g ns idV (gQ 1 e0 es))):=
  hdd fun w' v' q h hq hi=>by
   obtain⟨b,c,q1,q2,q3,q4,q5,q6⟩:=hi;exact ajX (hs.below h) ⟨b,c,q1,q2,q3,hs.away h (Nat.le_trans hq q4),q5,q6⟩ hlen h0 he0 hes hP hN
 have HGL:=hdd hs.dag.glt;have HBL:=hdd hs.hB;obtain⟨e0',e1',-,-⟩:=aD b1;have HB2:=hdd hb2;have B2:=hdd b2;have HSZ:Hid (w.heap.size+1<w2.heap.size):=hdd (by omega);obtain⟨bv,cv,rfl,-⟩:=id hl;clear hs hl hlen h0 he0 hes hP hN hll hb2 hs2 b1 b2;go_enter Tryz.func35,Tryz.ntmps35
 go_wp2_with fail
 refine HG.out.mono ?_;rintro e w5⟨rfl,hb5⟩;have hb5d:Below w2.heap.size w2 w5.drew:=aC hb5 (Below.refl _ _).drew;replace e0':=cell_below e0' hb5d nlr;replace e1':=cell_below e1' hb5d nlr;have HB5:=hdd (aC HB2.out hb5d);have B5:=hdd (hbl B2.out hb5d);clear hb5 hb5d;have n1:w.heap.size+1≠w.heap.size:=by omega
 have n2:w.heap.size≠w.heap.size+1:=by omega
 go_wp2_with fail
 go_region_held3 (fun w'=>w'.cell? ⟨w.heap.size,0,none⟩=some (.pointer (some ⟨g,0,none⟩))/\w'.cell? ⟨w.heap.size,1,none⟩=some (.int .i64 (i:Int))) (go_keep)
  (first
  |(go_at_call 68
    refine(HIDS.out _ HB5.out).mono ?_;rintro e w6⟨hb6,v6,rfl,hi6⟩;have e0':=cell_below e0' hb6 nlr;have e1':=cell_below e1' hb6 nlr;have HB6:=hdd (aC HB5.out hb6);have B6:=hdd (hbl B5.out hb6);have HADD:=hdd (HOP.out w6 v6 _ HB6.out HB5.out.size hi6);obtain⟨b6,c6,rfl,-⟩:=hi6;clear hb6)
  |(go_at_call 73
    refine HADD.out.mono ?_;rintro e w7⟨k,ns',rfl,h1,h2,h3,h4⟩;have e0':=h4.cell e0' (HAW.out _ _ HB6.out (by simp));have e1':=h4.cell e1' (HAW.out _ _ HB6.out (by simp));have hlt6:w.heap.size+1<w6.heap.size:=aI B6.out;have B7:=(h4.heap (b:=w.heap.size+1) hlt6 (HAW.out _ _ HB6.out (by omega))).trans B6.out;obtain⟨r0,r1,f0,f1⟩:=aD B7;have HF:Hid (FoldSt P B (N+l.length) w g ns (gQ 1 e0 es) k ((w7.setCell ⟨w.heap.size+1,0,none⟩ (.pointer (some ⟨g,0,none⟩))).setCell ⟨w.heap.size+1,1,none⟩ (.int .i64 (k:Int)))):=
     hdd (FoldSt.set2 (w0:=w) ⟨ns',h1,h2,h3,h4⟩ (Or.inr trivial) HGL.out HB6.out (by omega) (HAW.out _ _ HB6.out (by omega)) hlt6 (by have:=HBL.out;omega) _ _)
    have HX:=hdd (set2 B7 (.pointer (some ⟨g,0,none⟩)) (.int .i64 (k:Int)));clear h1 h2 h3 h4 B7 hlt6))
 go_wp2;obtain⟨x0,x1,-,-⟩:=aD HX.out;refine bodyPost_ret (v:=.agg #[_,_]) (by simp[results,Tryz.results35,go_sem,x0,x1];first|exact⟨rfl,rfl⟩|rfl) rfl ?_;exact HF.out.ret (numV g)
theorem amS{es:List Ex}(hs:St P B N w g ns)(hl:NumsP w v g l)(hlen:l.length=es.length)(h0:0<l.length)
 (he0:Is ns e0 i) (hes:∀(m x:Nat) e,l[m]? =some x->es[m]? =some e->Is ns e x) (hP:∀m,m<es.length->P (gQ 3 e0 (es.take (m+1)))) (hN:N+l.length<=20000):
 Calls Tryz.prog 26 #[numV g i,v] w (RetE P B (N+l.length) w g ns (numV g) (gQ 3 e0 es)):=by
 obtain⟨w2,hw2,hb2,hs2,b1,b2⟩:=pro2 w (.cells #[.pointer (some ⟨g,0,none⟩),.int .i64 (i:Int)] 31) (.cells #[.pointer none,.int .i64 0] 31);have hll:∀x∈l,x<ns.length:=fun x hx=>by
  obtain⟨m,hm⟩:=List.getElem?_of_mem hx;have hml:=(List.getElem?_eq_some_iff.1 hm).1;exact(hes m x es[m] hm (List.getElem?_eq_getElem (by omega))).lt
 have HG:=hdd (rO (hs.dag.below hb2) he0.lt (hl.below hb2) hll);have HIDS:Hid (∀w',Below w.heap.size w w'->Calls Tryz.prog 68 #[.agg #[.pointer (some ⟨g,0,none⟩),.int .i64 (i:Int)],v] w' (aaJ w' (i::l))):=hdd fun w' h=>ae3 (hl.below h);have HAW:Hid (∀w' (c:Nat),Below w.heap.size w w'->w.heap.size<=c->¬DagB w' g c):=hdd fun w' c h=>hs.away h;have HOP:Hid (∀w' v' (q:Nat),Below w.heap.size w w'->w.heap.size<=q->IntsP (fun b=>q<=b) w' v' (i::l)->Calls Tryz.prog 67 #[.pointer (some ⟨g,0,none⟩),v'] w' (RetE P B (N+l.length) w' g ns idV (gQ 3 e0 es))):=
  hdd fun w' v' q h hq hi=>by
   obtain⟨b,c,q1,q2,q3,q4,q5,q6⟩:=hi;exact ajY (hs.below h) ⟨b,c,q1,q2,q3,hs.away h (Nat.le_trans hq q4),q5,q6⟩ hlen h0 he0 hes hP hN
 have HGL:=hdd hs.dag.glt;have HBL:=hdd hs.hB;obtain⟨e0',e1',-,-⟩:=aD b1;have HB2:=hdd hb2;have B2:=hdd b2;have HSZ:Hid (w.heap.size+1<w2.heap.size):=hdd (by omega);obtain⟨bv,cv,rfl,-⟩:=id hl;clear hs hl hlen h0 he0 hes hP hN hll hb2 hs2 b1 b2;go_enter Tryz.func26,Tryz.ntmps26
 go_wp2_with fail
 refine HG.out.mono ?_;rintro e w5⟨rfl,hb5⟩;have hb5d:Below w2.heap.size w2 w5.drew:=aC hb5 (Below.refl _ _).drew;replace e0':=cell_below e0' hb5d nlr;replace e1':=cell_below e1' hb5d nlr;have HB5:=hdd (aC HB2.out hb5d);have B5:=hdd (hbl B2.out hb5d);clear hb5 hb5d;have n1:w.heap.size+1≠w.heap.size:=by omega
 have n2:w.heap.size≠w.heap.size+1:=by omega
 go_wp2_with fail
 go_region_held3 (fun w'=>w'.cell? ⟨w.heap.size,0,none⟩=some (.pointer (some ⟨g,0,none⟩))/\w'.cell? ⟨w.heap.size,1,none⟩=some (.int .i64 (i:Int))) (go_keep)
  (first
  |(go_at_call 68
    refine(HIDS.out _ HB5.out).mono ?_;rintro e w6⟨hb6,v6,rfl,hi6⟩;have e0':=cell_below e0' hb6 nlr;have e1':=cell_below e1' hb6 nlr;have HB6:=hdd (aC HB5.out hb6);have B6:=hdd (hbl B5.out hb6);have HADD:=hdd (HOP.out w6 v6 _ HB6.out HB5.out.size hi6);obtain⟨b6,c6,rfl,-⟩:=hi6;clear hb6)
  |(go_at_call 67
    refine HADD.out.mono ?_;rintro e w7⟨k,ns',rfl,h1,h2,h3,h4⟩;have e0':=h4.cell e0' (HAW.out _ _ HB6.out (by simp));have e1':=h4.cell e1' (HAW.out _ _ HB6.out (by simp));have hlt6:w.heap.size+1<w6.heap.size:=aI B6.out;have B7:=(h4.heap (b:=w.heap.size+1) hlt6 (HAW.out _ _ HB6.out (by omega))).trans B6.out;obtain⟨r0,r1,f0,f1⟩:=aD B7;have HF:Hid (FoldSt P B (N+l.length) w g ns (gQ 3 e0 es) k ((w7.setCell ⟨w.heap.size+1,0,none⟩ (.pointer (some ⟨g,0,none⟩))).setCell ⟨w.heap.size+1,1,none⟩ (.int .i64 (k:Int)))):=
     hdd (FoldSt.set2 (w0:=w) ⟨ns',h1,h2,h3,h4⟩ (Or.inr trivial) HGL.out HB6.out (by omega) (HAW.out _ _ HB6.out (by omega)) hlt6 (by have:=HBL.out;omega) _ _)
    have HX:=hdd (set2 B7 (.pointer (some ⟨g,0,none⟩)) (.int .i64 (k:Int)));clear h1 h2 h3 h4 B7 hlt6))
 go_wp2;obtain⟨x0,x1,-,-⟩:=aD HX.out;refine bodyPost_ret (v:=.agg #[_,_]) (by simp[results,Tryz.results26,go_sem,x0,x1];first|exact⟨rfl,rfl⟩|rfl) rfl ?_;exact HF.out.ret (numV g)
theorem agY(hd:DagP w g ns)(hk:k<ns.length):
 Calls Tryz.prog 65 #[.agg #[.pointer (some ⟨g,0,none⟩),.int .i64 (k:Int)],.slice none 0 0] w (RetV w (.bool true)):=by
 obtain⟨w1,hw1,hb1,hs1,b1⟩:=pro1 w (.cells #[.pointer (some ⟨g,0,none⟩),.int .i64 (k:Int)] 31);obtain⟨c0,c1,-,-⟩:=aD b1;have HV:=hdd (pR (hd.below hb1) hk);have HB:=hdd hb1;clear hd hk hb1 hs1 b1;go_enter Tryz.func65,Tryz.ntmps65
 go_wp2_with fail
 refine HV.out.mono ?_;rintro e w2⟨rfl,hb2⟩;have HB2:=hdd (aC HB.out hb2);clear hb2;go_wp2_with fail
 go_loopw [12] (fun i wr=>i=.int .i64 0/\Hid (wr=w2)) (fun _ _=>0)
 case atStart=>exact⟨rfl,hdd rfl⟩
 case round=>
  obtain⟨rfl,HW⟩:=hrel;obtain rfl:=HW.out;clear HW;go_wp2;go_ret;exact⟨rfl,HB2.out⟩
theorem aj2(hs:St P B N w g ns)(hN:N<20000)(ha:Is ns a i)(hP:P (.root a)):
 Calls Tryz.prog 34 #[numV g i] w (RetE P B (N+1) w g ns (numV g) (.root a)):=by
 obtain⟨w4,hw4,hb4,hs4,b1,b2⟩:=pro2 w (.cells #[.pointer (some ⟨g,0,none⟩),.int .i64 (i:Int)] 31) (.cells #[.pointer none,.int .i64 0] 31);have HG:=hdd (agY (hs.dag.below hb4) ha.lt);have HOP:Hid (∀w',Below w.heap.size w w'->Calls Tryz.prog 72 #[.pointer (some ⟨g,0,none⟩),.int .i64 (i:Int)] w' (RetE P B (N+1) w' g ns idV (.root a))):=hdd fun w' h=>ajU (hs.below h) hN ha hP;have HAW:Hid (∀w' (c:Nat),Below w.heap.size w w'->w.heap.size<=c->¬DagB w' g c):=hdd fun w' c h=>hs.away h;have HGL:=hdd hs.dag.glt;have HBL:=hdd hs.hB;obtain⟨e0,e1,-,-⟩:=aD b1;have HB4:=hdd hb4;have B3:=hdd b2;clear hs hN ha hP hb4 b1 b2 hs4;go_enter Tryz.func34,Tryz.ntmps34
 go_wp2_with fail
 refine HG.out.mono ?_;rintro e w5⟨rfl,hb5⟩;have hb5d:Below w4.heap.size w4 w5.drew:=aC hb5 (Below.refl _ _).drew;replace e0:=cbl e0 hb5d;replace e1:=cbl e1 hb5d;have HB5:=hdd (aC HB4.out hb5d);have B5:=hdd (hbl B3.out hb5d);clear hb5 hb5d hw4;have n1:w.heap.size+1≠w.heap.size:=by omega
 have n2:w.heap.size≠w.heap.size+1:=by omega
 go_wp2_with fail
 go_region_held3 (fun w'=>w'.cell? ⟨w.heap.size,0,none⟩=some (.pointer (some ⟨g,0,none⟩))/\w'.cell? ⟨w.heap.size,1,none⟩=some (.int .i64 (i:Int))) (go_keep)
  (first
  |(go_at_call 72
    refine(HOP.out _ HB5.out).mono ?_;rintro e w6⟨k,ns',rfl,h1,h2,h3,h4⟩;have e0:=h4.cell e0 (HAW.out _ _ HB5.out (by simp));have e1:=h4.cell e1 (HAW.out _ _ HB5.out (by simp));have hlt5:w.heap.size+1<w5.drew.heap.size:=aI B5.out;have B6:=(h4.heap (b:=w.heap.size+1) hlt5 (HAW.out _ _ HB5.out (by omega))).trans B5.out;obtain⟨r0,r1,f0,f1⟩:=aD B6;have HF:Hid (FoldSt P B (N+1) w g ns (.root a) k ((w6.setCell ⟨w.heap.size+1,0,none⟩ (.pointer (some ⟨g,0,none⟩))).setCell ⟨w.heap.size+1,1,none⟩ (.int .i64 (k:Int)))):=
     hdd (FoldSt.set2 (w0:=w) ⟨ns',h1,h2,h3,h4⟩ (Or.inr trivial) HGL.out HB5.out (by omega) (HAW.out _ _ HB5.out (by omega)) hlt5 (by have:=HBL.out;omega) _ _)
    have HX:=hdd (set2 B6 (.pointer (some ⟨g,0,none⟩)) (.int .i64 (k:Int)));clear h1 h2 h3 h4 B6 hlt5))
 go_wp2;obtain⟨x0,x1,-,-⟩:=aD HX.out;refine bodyPost_ret (v:=.agg #[_,_]) (by simp[results,Tryz.results34,go_sem,x0,x1];first|exact⟨rfl,rfl⟩|rfl) rfl ?_;exact HF.out.ret (numV g)
def RetS(w:World)(s:Int)(e:Ending)(w':World):Prop:=e=.returned (.tuple #[.int .i64 s,.nilIface])/\Below w.heap.size w w'
def dY(P:Ex->Prop)(x:Ex)(s:Int):Prop:=∀(B N:Nat) (w:World) (g k:Nat) (ns:List Nd),St P B N w g ns->Is ns x k->
 Calls Tryz.prog 79 #[.pointer (some ⟨g,0,none⟩),.int .i64 (k:Int),.slice none 0 0] w (RetS w s)
def RetQ(P:Ex->Prop)(B N:Nat)(w:World)(g:Nat)(ns:List Nd)(v:Value)(e:Ending)(w':World):Prop:=
 e=.returned v/\∃ns',St P B N w' g ns'/\ns<+:ns'/\DS g w w'
theorem ab5{x:Ex}(hs:St P B N w g ns)(hx:Is ns x k)(hS:dY P x s):
 Calls Tryz.prog 40 #[numV g k] w (RetS w s):=by
 obtain⟨w1,hw1,hb1,hs1,b1⟩:=pro1 w (.cells #[.pointer (some ⟨g,0,none⟩),.int .i64 (k:Int)] 31);obtain⟨c0,c1,-,-⟩:=aD b1;have HV:=hdd (pR (hs.dag.below hb1) hx.lt);have HS:Hid (∀w',Below w.heap.size w w'->Calls Tryz.prog 79 #[.pointer (some ⟨g,0,none⟩),.int .i64 (k:Int),.slice none 0 0] w' (RetS w' s)):=hdd fun w' h=>hS B N w' g k ns (hs.below h) hx;have HB:=hdd hb1;clear hs hx hS hb1 hs1 b1;go_enter Tryz.func40,Tryz.ntmps40
 go_wp2_with fail
 refine HV.out.mono ?_;rintro e w2⟨rfl,hb2⟩;replace c0:=cbl c0 hb2;replace c1:=cbl c1 hb2;have HB2:=hdd (aC HB.out hb2);clear hb2;go_wp2_with fail
 refine(HS.out _ HB2.out).mono ?_;rintro e w3⟨rfl,hb3⟩;have HB3:=hdd (aC HB2.out hb3);clear hb3;go_wp2
 go_ret2
 exact⟨rfl,HB3.out⟩
theorem ae5{j:Nat}{b:Ex}(hs:St P B N w g ns)(hN:N<20000)(ha:Is ns a i)(hb:Is ns b j)(hP:P (.sub a b))(hS:dY P (.sub a b) s):
 Calls Tryz.prog 28 #[numV g i,numV g j] w (RetQ P B (N+1) w g ns (.tuple #[.int .i64 s,.nilIface])):=by
 obtain⟨w2,hw2,hb2,hs2,b1,b2⟩:=pro2 w (.cells #[.pointer (some ⟨g,0,none⟩),.int .i64 (i:Int)] 31) (.cells #[.pointer (some ⟨g,0,none⟩),.int .i64 (j:Int)] 31);obtain⟨c0,c1,-,-⟩:=aD b1;obtain⟨d0,d1,-,-⟩:=aD b2;have HSUB:=hdd (ae4 (hs.below hb2) hN ha hb hP);have HDS:=hdd (DS.of_below hs.dag.glt hb2);have HSG:Hid (∀w' k ns',St P B (N+1) w' g ns'->Is ns' (.sub a b) k->Calls Tryz.prog 40 #[numV g k] w' (RetS w' s)):=hdd fun w' k ns' h1 h2=>ab5 h1 h2 hS;clear hs hN ha hb hP hS hb2 hs2 b1 b2;go_enter Tryz.func28,Tryz.ntmps28
 go_wp2_with fail
 refine HSUB.out.mono ?_;rintro e w3⟨k,ns',rfl,h1,h2,h3,h4⟩;have HC:=hdd (HSG.out w3 k ns' h1 h3);have HR:Hid (∀w',Below w3.heap.size w3 w'->RetQ P B (N+1) w g ns (.tuple #[.int .i64 s,.nilIface]) (.returned (.tuple #[.int .i64 s,.nilIface])) w'):=hdd fun w' h=>⟨rfl,ns',h1.below h,h2,HDS.out.trans (h4.trans (DS.of_below h1.dag.glt h))⟩;clear h1 h2 h3 h4;go_wp2_with fail
 refine HC.out.mono ?_;rintro e w4⟨rfl,hb4⟩;have HF:=hdd (HR.out _ hb4);clear hb4;go_wp2
 go_ret2
 exact HF.out
end Go.Proofs.YtjaafolhfihegaaGreatDoor
namespace Go.Proofs.YtjaafolhfihegaaGreatDoor
open Go.RowKit
variable{xs:List Nat}{g n:Nat}{p:Nat->Prop}{T:TypeId}{a b c va:Value}{w:World}
theorem aj3(a K m:Nat)(h:K<=m):a/2^K/2^(m-K)=a/2^m:=by
 rw[Nat.div_div_eq_div_mul,<-Nat.pow_add,Nat.add_sub_cancel' h]
theorem amT(hx:NatP p w va xs):
 Calls Tryz.prog 203 #[va,.int .i64 16777216] w (fun e w'=>∃K:Nat,(K:Int)=16777216/\RetN w.heap.size w (val xs/2^K) e w'):=
 (aeR (n:=16777216) hx nlr).mono fun _ _ h=>⟨16777216,rfl,h⟩
theorem kU(hx:NatP p w va xs)(hn:n<=9223372036854775807):
 Calls Tryz.prog 181 #[va,.int .i64 n] w (RetN w.heap.size w (val xs/2^n)):=by
 have HX:=hdd hx.any;clear hx;go_enter Tryz.func181,Tryz.ntmps181
 go_wp2_with fail
 go_loopw [0,1] (fun sv i wr=>∃(m:Nat) (ys:List Nat),m<=n/\i=.int .i64 m/\Hid (NatP AnyB wr sv ys)/\Hid (Below w.heap.size w wr)/\Hid (val ys/2^m=val xs/2^n)) (fun _ i _=>(intOf i).toNat)
 case atStart=>exact⟨n,xs,Nat.le_refl _,rfl,HX,hdd (Below.refl _ _),hdd rfl⟩
 case round=>
  obtain⟨m,ys,hm,rfl,HY,HB,HV⟩:=hrel;rcases Nat.lt_or_ge 16777216 m with h|h
  . have hi:(16777216:Int)<(m:Int):=by omega
    go_wp2_with fail
    refine(amT HY.out).mono ?_;rintro e w1⟨K,hK,hb,v1,zs,rfl,hz,tz,hvz⟩;have HZ:=hdd hz.any;have HB2:=hdd (HB.out.trans (hb.mono HB.out.size));have HV2:Hid (val zs/2^(m-K)=val xs/2^n):=hdd (by
     rw[hvz,<-HV.out];exact aj3 _ _ _ (by omega))
    have hsub:(m:Int)-16777216=((m-K:Nat):Int):=by omega
    clear hb hz tz hvz;go_wp2
    go_roundw
    case rel=>exact⟨m-K,zs,by omega,by go_num,HZ,HB2,HV2⟩
    case measure=>simp[intOf];omega
  . have hi:¬(16777216:Int)<(m:Int):=by omega
    go_wp2_with fail
    refine(aeR HY.out h).mono ?_;rintro e w1⟨hb,v1,zs,rfl,hz,tz,hvz⟩;have HF:=hdd (RetN.of (n:=val xs/2^n) (HB.out.trans (hb.mono HB.out.size)) (hz.weak fun b h _=>Nat.le_trans HB.out.size h) tz (by rw[hvz,HV.out]));clear hb hz tz hvz;go_wp2;go_ret;exact HF.out
theorem amU(hx:NatP p w va xs)(hL:xs.length<1073741824):
 Calls Tryz.prog 237 #[va,.int .i64 16777216] w (fun e w'=>∃K:Nat,(K:Int)=16777216/\RetN w.heap.size w (val xs*2^K) e w'):=
 (aeQ (n:=16777216) hx nlr hL).mono fun _ _ h=>⟨16777216,rfl,h⟩
theorem aj4(a K m:Nat)(h:K<=m):a*2^K*2^(m-K)=a*2^m:=by
 rw[Nat.mul_assoc,<-Nat.pow_add,Nat.add_sub_cancel' h]
theorem aj5(xs zs:List Nat)(m n:Nat)(hx:OkL xs)(hz:OkL zs)(tz:Tr zs)(h:val zs*2^m=val xs*2^n):64*zs.length<=64*xs.length+n+63:=by
 have h1:=bM zs hz tz;have h2:bits (val zs)<=64*xs.length+n:=by
  rw[aH];have h3:val zs<=val zs*2^m:=Nat.le_mul_of_pos_right _ (Nat.two_pow_pos m);have h4:val xs<2^(64*xs.length):=by
   have:=bU xs hx;rwa[show B64=2^64 from rfl,<-Nat.pow_mul]at this
  have h5:val xs*2^n<2^(64*xs.length)*2^n:=Nat.mul_lt_mul_of_pos_right h4 (Nat.two_pow_pos n);rw[Nat.pow_add];omega
 omega
theorem jH(hx:NatP p w va xs)(hn:n<=134217728)(hL:xs.length<=1000000000):
 Calls Tryz.prog 228 #[va,.int .i64 n] w (RetN w.heap.size w (val xs*2^n)):=by
 have HX:=hdd hx.any;have HO:=hdd hx.ok;clear hx;have h0:¬(n:Int)<0:=by omega
 have h1:¬(134217728:Int)<(n:Int):=by omega
 go_enter Tryz.func228,Tryz.ntmps228
 go_wp2_with fail
 go_loopw [0,1] (fun sv i wr=>∃(m:Nat) (ys:List Nat),m<=n/\64*ys.length<=64*xs.length+n+63/\i=.int .i64 m/\Hid (NatP AnyB wr sv ys)/\Hid (Below w.heap.size w wr)/\Hid (val ys*2^m=val xs*2^n)) (fun _ i _=>(intOf i).toNat)
 case atStart=>exact⟨n,xs,Nat.le_refl _,by omega,rfl,HX,hdd (Below.refl _ _),hdd rfl⟩
 case round=>
  obtain⟨m,ys,hm,hl,rfl,HY,HB,HV⟩:=hrel;rcases Nat.lt_or_ge 16777216 m with h|h
  . have hi:(16777216:Int)<(m:Int):=by omega
    go_wp2_with fail
    refine(amU HY.out (by omega)).mono ?_;rintro e w1⟨K,hK,hb,v1,zs,rfl,hz,tz,hvz⟩;have HZ:=hdd hz.any;have HB2:=hdd (HB.out.trans (hb.mono HB.out.size));have HV2:Hid (val zs*2^(m-K)=val xs*2^n):=hdd (by rw[hvz,<-HV.out];exact aj4 _ _ _ (by omega));have hl2:=aj5 xs zs _ n HO.out hz.ok tz HV2.out;have hsub:(m:Int)-16777216=((m-K:Nat):Int):=by omega
    clear hb hz tz hvz;go_wp2
    go_roundw
    case rel=>exact⟨m-K,zs,by omega,hl2,by go_num,HZ,HB2,HV2⟩
    case measure=>simp[intOf];omega
  . have hi:¬(16777216:Int)<(m:Int):=by omega
    go_wp2_with fail
    refine(aeQ HY.out h (by omega)).mono ?_;rintro e w1⟨hb,v1,zs,rfl,hz,tz,hvz⟩;have HF:=hdd (RetN.of (n:=val xs*2^n) (HB.out.trans (hb.mono HB.out.size)) (hz.weak fun b h _=>Nat.le_trans HB.out.size h) tz (by rw[hvz,HV.out]));clear hb hz tz hvz;go_wp2;go_ret;exact HF.out
structure Dy where
 man:Int
 exp:Int
deriving DecidableEq
def DyP(p:Nat->Prop)(w:World)(v:Value)(d:Dy):Prop:=
 ∃b A n c,v=.agg #[.bool b,.slice A n c,.int .i64 d.exp]/\IntP p w (.agg #[.bool b,.slice A n c]) d.man
def RetD(B:Nat)(w0:World)(d:Dy)(e:Ending)(w':World):Prop:=
 Below B w0 w'/\∃v,e=.returned v/\DyP (fun b=>B<=b) w' v d
def mkDy(man exp:Int):Dy:=if man=0 then⟨0,0⟩else⟨sg (decide (man<0)) (man.natAbs/2^ctz man.natAbs),exp+ctz man.natAbs⟩
theorem DyP.below {w':World}{v:Value}{d:Dy}(h:DyP p w v d)(hb:Below w.heap.size w w'):DyP p w' v d:=by
 obtain⟨b,A,n,c,e,h⟩:=h;exact⟨b,A,n,c,e,h.below hb⟩
theorem cells3(h:w.heap[g]? =some (.cells #[a,b,c] T (0,0))):
 w.cell? ⟨g,0,none⟩=some a/\w.cell? ⟨g,1,none⟩=some b/\w.cell? ⟨g,2,none⟩=some c/\w.frozen? ⟨g,0,none⟩=false/\w.frozen? ⟨g,1,none⟩=false/\w.frozen? ⟨g,2,none⟩=false:=by
 refine⟨?_,?_,?_,?_,?_,?_⟩<;>simp[World.cell?,World.frozen?,h]
theorem set3(h:w.heap[g]? =some (.cells #[a,b,c] T (0,0)))(u v x:Value):
 (((w.setCell ⟨g,0,none⟩ u).setCell ⟨g,1,none⟩ v).setCell ⟨g,2,none⟩ x).heap[g]? =some (.cells #[u,v,x] T (0,0)):=by
 have hg:g<w.heap.size:=(Array.getElem?_eq_some_iff.1 h).1;have h':w.heap[g]=.cells #[a,b,c] T (0,0):=(Array.getElem?_eq_some_iff.1 h).2;simp[World.setCell,hg,Array.getElem_modify,h']
theorem aR{B:Nat}{w0 w1:World}{u vm:Value}{z:Int}{d:Dy}{q:Nat->Prop}(hb:Below B w0 w1)(hg:B<=g)(hw:w1.heap[g]? =some (.cells #[a,b,c] T (0,0)))
 (h:DyP q w1 (.agg #[u,vm,.int .i64 z]) d) (hq:∀b,q b->B<=b/\b≠g):
 Hid (RetD B w0 d (.returned (.agg #[u,vm,.int .i64 z])) (((w1.setCell ⟨g,0,none⟩ u).setCell ⟨g,1,none⟩ vm).setCell ⟨g,2,none⟩ (.int .i64 z)))/\
 (((w1.setCell ⟨g,0,none⟩ u).setCell ⟨g,1,none⟩ vm).setCell ⟨g,2,none⟩ (.int .i64 z)).heap[g]? =some (.cells #[u,vm,.int .i64 z] T (0,0)):=by
 obtain⟨b',A,n,c',e,h⟩:=h;refine⟨hdd ⟨((hb.setCell hg _).setCell hg _).setCell hg _,_,rfl,b',A,n,c',e,?_⟩,set3 hw u vm _⟩;exact(((h.setCell (fun b hb=>(hq b hb).2) _).setCell (fun b hb=>(hq b hb).2) _).setCell (fun b hb=>(hq b hb).2) _).weak fun b hb _=>(hq b hb).1
end Go.Proofs.YtjaafolhfihegaaGreatDoor
namespace Go.Proofs.YtjaafolhfihegaaGreatDoor
open Int renaming natCast_mul->baI,mul_assoc->baK,mul_eq_zero->baN,zero_mul->baP,neg_mul->baQ
open Nat renaming two_pow_pos->baH,le_mul_of_pos_right->baJ,pow_succ->baL,pow_add->baM,mul_comm->baO
variable{j k:Nat}
theorem sW(n:Nat)(h:n≠0):∃k m,n=2^k*(2*m+1)/\ctz n=k:=by
 suffices∀b n,n<2^b->n≠0->∃k m,n=2^k*(2*m+1) by
  obtain⟨k,m,e⟩:=this n n Nat.lt_two_pow_self h;exact⟨k,m,e,by rw[e];exact zO k m⟩
 intro b
 induction b with
 |zero=>intro n h1 h2;omega
 |succ b ih=>
  intro n h1 h2;rcases Nat.mod_two_eq_zero_or_one n with h3|h3
  . obtain⟨k,m,e⟩:=ih (n/2) (by rw[baL]at h1;omega) (by omega)
    refine⟨k+1,m,?_⟩;rw[baL,baO (2^k) 2,Nat.mul_assoc,<-e];omega
  . exact⟨0,n/2,by simp;omega⟩
theorem uK(n:Nat)(h:n≠0):ctz n<=bits n:=by
 obtain⟨k,m,e,hk⟩:=sW n h;rw[hk];rcases Nat.lt_or_ge (bits n) k with h1|h1
 . have h2:=(aH n (bits n)).1 nlr
   have h3:2^bits n<=2^k:=Nat.pow_le_pow_right (by omega) (by omega);have h4:2^k<=n:=by rw[e];exact baJ _ (by omega)
   omega
 . exact h1
theorem nA(b:Bool)(m n:Nat):sg b (m*n)=sg b m*(n:Int):=by cases b<;>simp[sg,baQ]
theorem jI(x e:Int)(hx:x≠0):∃k:Nat,x=(mkDy x e).man*(2^k:Nat)/\(mkDy x e).exp=e+k/\(mkDy x e).man%2=1/\k<=bits x.natAbs:=by
 obtain⟨k,m,e1,hk⟩:=sW x.natAbs (by omega);have hm:(mkDy x e).man=sg (decide (x<0)) (2*m+1):=by
  unfold mkDy;rw[if_neg hx,hk];show sg _ (x.natAbs/2^k)=_;rw[e1,Nat.mul_div_cancel_left _ (baH k)]
 refine⟨k,?_,?_,?_,?_⟩
 . rw[hm,<-nA,baO,<-e1]
   exact(nL x).symm
 . unfold mkDy;rw[if_neg hx,hk]
 . rw[hm];cases decide (x<0)<;>simp[sg]<;>omega
 . have:=uK x.natAbs (by omega);omega
theorem bC(e:Int):mkDy 0 e=⟨0,0⟩:=by unfold mkDy;simp
theorem wZ{a b:Int}(ha:a%2=1)(hb:b%2=1)(h:a*(2^j:Nat)=b*(2^k:Nat)):a=b/\j=k:=by
 suffices∀j k:Nat,∀a b:Int,a%2=1->b%2=1->j<=k->a*(2^j:Nat)=b*(2^k:Nat)->a=b/\j=k by
  rcases Nat.le_total j k with hjk|hjk
  . exact this j k a b ha hb hjk h
  . obtain⟨e1,e2⟩:=this k j b a hb ha hjk h.symm
    exact⟨e1.symm,e2.symm⟩
 intro j k a b ha hb hjk h;obtain⟨d,rfl⟩:∃d,k=j+d:=⟨k-j,by omega⟩;rw[baM,baI,Int.mul_comm ((2^j:Nat):Int),<-baK]at h;have hp:((2^j:Nat):Int)≠0:=by have:=baH j;omega
 have h2:=Int.eq_of_mul_eq_mul_right hp h;rcases d with _|d
 . exact⟨by simpa using h2,rfl⟩
 . exfalso
   rw[baL,baI,<-baK]at h2;omega
theorem vJ{x y e f:Int}(h:x*(2^j:Nat)=y*(2^k:Nat))(he:e-j=f-k):mkDy x e=mkDy y f:=by
 have pj:=baH j;have pk:=baH k;by_cases hx:x=0
 . have hy:y=0:=by
    rw[hx,baP]at h;rcases baN.1 h.symm with h|h
    . exact h
    . omega
   rw[hx,hy,bC,bC]
 . have hy:y≠0:=by
    intro hy;rw[hy,baP]at h;rcases baN.1 h with h|h
    . exact hx h
    . omega
   obtain⟨a,a1,a2,a3,-⟩:=jI x e hx;obtain⟨b,b1,b2,b3,-⟩:=jI y f hy;have h2:(mkDy x e).man*(2^(a+j):Nat)=(mkDy y f).man*(2^(b+k):Nat):=by
    rw[baM,baM,baI,baI,<-baK,<-baK,<-a1,<-b1];exact h
   obtain⟨h3,h4⟩:=wZ a3 b3 h2;have h5:(mkDy x e).exp=(mkDy y f).exp:=by rw[a2,b2];omega
   cases hd:mkDy x e;cases hd2:mkDy y f
   rw[hd,hd2]at h3 h5;simp at h3 h5;rw[h3,h5]
theorem aj6(x e:Int)(k:Nat):mkDy (x*(2^k:Nat)) (e-k)=mkDy x e:=
 vJ (j:=0) (k:=k) (by simp) (by omega)
theorem pW(x e:Int):mkDy (mkDy x e).man (mkDy x e).exp=mkDy x e:=by
 by_cases hx:x=0
 . rw[hx,bC,bC]
 . obtain⟨k,k1,k2,k3,-⟩:=jI x e hx
   exact vJ (j:=k) (k:=0) (by simpa using k1.symm) (by omega)
def dS(a b:Dy):Int:=if a.exp<=b.exp then a.man else a.man*(2^(a.exp-b.exp).toNat:Nat)
def dU(a b:Dy):Int:=if a.exp<=b.exp then b.man*(2^(b.exp-a.exp).toNat:Nat)else b.man
def addD(a b:Dy):Dy:=if a.man=0 then mkDy b.man b.exp else if b.man=0 then mkDy a.man a.exp else mkDy (dS a b+dU a b) (min a.exp b.exp)
def mulD(a b:Dy):Dy:=mkDy (a.man*b.man) (a.exp+b.exp)
def notD(a:Dy):Dy:=mkDy (-a.man) a.exp
def topD(a:Dy):Int:=if a.man=0 then 0 else bits a.man.natAbs+a.exp
def cmpD(a b:Dy):Int:=cmpI (dS a b) (dU a b)
theorem jJ(a b:Dy):dS a b=a.man*(2^(a.exp-min a.exp b.exp).toNat:Nat):=by
 unfold dS;split
 . have:(a.exp-min a.exp b.exp).toNat=0:=by omega
   rw[this];simp
 . have:min a.exp b.exp=b.exp:=by omega
   rw[this]
theorem jK(a b:Dy):dU a b=b.man*(2^(b.exp-min a.exp b.exp).toNat:Nat):=by
 unfold dU;split
 . have:min a.exp b.exp=a.exp:=by omega
   rw[this]
 . have:(b.exp-min a.exp b.exp).toNat=0:=by omega
   rw[this];simp
theorem jO(x e:Int):mkDy x e=⟨0,0⟩/\x=0\/x≠0/\(mkDy x e).man≠0/\e<=(mkDy x e).exp/\x=(mkDy x e).man*(2^((mkDy x e).exp-e).toNat:Nat):=by
 by_cases hx:x=0
 . exact Or.inl ⟨by rw[hx,bC],hx⟩
 . obtain⟨k,k1,k2,k3,-⟩:=jI x e hx
   refine Or.inr ⟨hx,by omega,by omega,?_⟩;have:((mkDy x e).exp-e).toNat=k:=by omega
   rw[this];exact k1
theorem ae6(x e:Int):notD (mkDy x e)=mkDy (-x) e:=by
 unfold notD;rcases jO x e with ⟨h1,h2⟩|⟨h1,h2,h3,h4⟩
 . rw[h1,h2];simp[bC]
 . generalize mkDy x e=a at*
   refine vJ (j:=(a.exp-e).toNat) (k:=0) ?_ (by omega);rw[baQ,<-h4];simp
theorem amV(x e:Int):(mkDy x e).man.sign=x.sign:=by
 rcases jO x e with ⟨h1,h2⟩|⟨h1,h2,h3,h4⟩
 . rw[h1,h2]
 . generalize mkDy x e=a at*
   have:=baH (a.exp-e).toNat;rw[h4,Int.sign_mul,Int.sign_eq_one_of_pos (a:=((2^(a.exp-e).toNat:Nat):Int)) (by omega),Int.mul_one]
theorem rQ(x e:Int):bits (mkDy x e).man.natAbs<=bits x.natAbs:=by
 rcases jO x e with ⟨h1,h2⟩|⟨h1,h2,h3,h4⟩
 . rw[h1];exact Nat.zero_le _
 . generalize mkDy x e=a at*
   refine dF ?_
   conv=>rhs;rw[h4]
   rw[Int.natAbs_mul,Int.natAbs_natCast];exact baJ _ (baH _)
end Go.Proofs.YtjaafolhfihegaaGreatDoor
namespace Go.Proofs.YtjaafolhfihegaaGreatDoor
open Go.RowKit
open Go.RowKit.Below renaming refl->baR
variable{x:Int}{p:Nat->Prop}{v va:Value}{w:World}
theorem wrap_i64(h:-9223372036854775808<=x/\x<9223372036854775808):IntKind.i64.wrap x=x:=by
 have hb64:(2:Int)^IntKind.i64.bits=18446744073709551616:=rfl;have hb63:(2:Int)^(IntKind.i64.bits-1)=9223372036854775808:=rfl;simp only[IntKind.wrap,show IntKind.i64.signed=true from rfl,Bool.true_and,decide_eq_true_eq,hb64,hb63]
 split<;>omega
theorem dO{e:Int}(hx:IntP p w va x)(hT:Tab w)(hL:bits x.natAbs<=1073741824)(he:-1000000000000<=e/\e<=1000000000000):
 Calls Tryz.prog 152 #[va,.int .i64 e] w (RetD w.heap.size w (mkDy x e)):=by
 obtain⟨ba,A,n,c,rfl⟩:=hx.shape;obtain⟨w2,hw2,hb2,hs2,b1,b2⟩:=pro2 w (.cells #[Value.bool ba,.slice A n c] 223) (.cells #[Value.bool false,Value.slice none 0 0,.int .i64 0] 225);have HB:=hdd hb2;have H1:=hdd (hx.below hb2);have HS:=hdd hs2;have B1:=hdd b1;have B2:=hdd b2;have HT:=hdd (hT.below hb2);have HL:=hdd hL;obtain⟨c0,c1,-,-⟩:=aD b1;clear hx hb2 b1 b2 hs2 hT hL;go_enter Tryz.func152,Tryz.ntmps152
 go_wp2_with fail
 refine(qZ H1.out).mono ?_;rintro r w3⟨rfl,hb⟩;replace H1:=hdd (H1.out.below hb);replace HT:=hdd (HT.out.below hb);replace c0:=cbl c0 hb;replace c1:=cbl c1 hb;replace B2:=hdd (aG B2.out hb (by have:=HS.out;omega));have HS3:=hdd hb.size;replace HB:=hdd (HB.out.trans (hb.mono HB.out.size));clear hb hw2;by_cases hz:x=0
 . have hs:(x.sign==0)=true:=by rw[hz];rfl
   obtain⟨e0,e1,e2,e3,e4,e5⟩:=cells3 B2.out;have hsz:=HS3.out;have hs2:=HS.out;have h:DyP (fun b=>w3.heap.size<=b) w3 (.agg #[.bool false,.slice none 0 0,.int .i64 0]) (mkDy x e):=by
    rw[hz];exact⟨_,_,_,_,rfl,_,[],rfl,NatP.nil _,Tr.nil,rfl⟩
   obtain⟨HFF,hFF⟩:=aR HB.out (g:=w.heap.size+1) (by omega) B2.out h (fun b hb=>by omega);replace hFF:=hdd hFF;clear h hsz hs2;go_wp2;obtain⟨f0,f1,f2,-,-,-⟩:=cells3 hFF.out;refine bodyPost_ret (v:=.agg #[_,_,_]) (by simp[results,Tryz.results152,go_sem,f0,f1,f2];first|exact⟨rfl,rfl,rfl⟩|rfl) rfl ?_;exact HFF.out
 . have hs:(x.sign==0)=false:=beq_eq_false_iff_ne.2 (fun h=>hz (Int.sign_eq_zero_iff_zero.1 h))
   obtain⟨xs,hx1,hx2,hx3,hx4⟩:=H1.out.get;have HX:=hdd hx1;have HV:=hdd hx3;have HBA:=hdd hx4;have hlow:ctz (val xs)<=1073741824:=by
    have h1:=uK (val xs) (by rw[hx3];omega);have:=HL.out;rw[hx3]at h1|-;omega
   clear hx1 hx2 hx3 hx4;go_wp2_with fail
   refine(uZ HX.out HT.out).mono ?_;rintro r w4⟨rfl,k,rfl⟩;have hb:=below_drewN w3 k;replace HX:=hdd (HX.out.below hb);replace c0:=cbl c0 hb;replace c1:=cbl c1 hb;replace B2:=hdd (hbl B2.out hb);replace HB:=hdd (HB.out.trans (hb.mono HB.out.size));replace HS3:Hid (w2.heap.size<=(w3.drewN k).heap.size):=hdd (Nat.le_trans HS3.out hb.size);clear hb H1 HT;generalize w3.drewN k=w4 at*;go_wp2_with fail
   have hwr:IntKind.i64.wrap (e+(ctz (val xs):Int))=e+(ctz (val xs):Int):=wrap_i64 (by omega);have HRG:=hdd (kU (n:=ctz (val xs)) (HX.out.below ((baR _ _).drew (w:=w4))) (by omega))
   go_region_held3 (fun w'=>w'.cell? ⟨w.heap.size,0,none⟩=some (.bool ba)/\w'.cell? ⟨w.heap.size,1,none⟩=some (.slice A n c)) (go_keep)
    (first
    |(go_at_call 181
      refine HRG.out.mono ?_;rintro r w5⟨hb,v5,zs,rfl,hz,tz,hvz⟩;have HB5:Hid (Below w4.heap.size w4 w5):=hdd ((baR _ _).drew.trans hb);have g0:=cbl c0 HB5.out;have g1:=cbl c1 HB5.out;have HMK:=hdd (dP (b:=ba) hz);have HVZ:=hdd hvz;clear hb hz tz hvz)
    |(go_at_call 180
      refine HMK.out.mono ?_;rintro r w6⟨hb,v6,hz⟩;obtain⟨rfl,hz⟩:=hz;obtain⟨b6,A6,n6,c6,rfl⟩:=hz.shape;have g0':=cbl g0 hb;have g1':=cbl g1 hb;have HSZ:=hdd HB5.out.size;replace HB5:=hdd (HB5.out.trans (hb.mono HB5.out.size));have HF:=hdd hz;have B25:=hdd (hbl B2.out HB5.out);obtain⟨e0',e1',e2',e3',e4',e5'⟩:=cells3 B25.out;clear hb hz))
   have hm:mkDy x e=⟨sg ba (val zs),e+ctz (val xs)⟩:=by
    unfold mkDy;rw[if_neg hz,HVZ.out,HV.out,HBA.out]
   have HDD:Hid (DyP (fun b=>w4.heap.size<=b) _ (.agg #[.bool b6,.slice A6 n6 c6,.int .i64 (e+ctz (val xs))]) (mkDy x e)):=hdd (by
    rw[hm];exact⟨b6,A6,n6,c6,rfl,HF.out.weak fun b h _=>by have:=HSZ.out;omega⟩)
   obtain⟨HFF,hFF⟩:=aR (HB.out.trans (HB5.out.mono HB.out.size)) (g:=w.heap.size+1) (by omega) B25.out HDD.out (fun b hb=>by have:=HS3.out;have:=HS.out;omega);replace hFF:=hdd hFF;clear hm HDD;go_wp2;obtain⟨f0,f1,f2,-,-,-⟩:=cells3 hFF.out;refine bodyPost_ret (v:=.agg #[_,_,_]) (by simp[results,Tryz.results152,go_sem,f0,f1,f2];first|exact⟨rfl,rfl,rfl⟩|rfl) rfl ?_;exact HFF.out
theorem dK{d:Dy}(hx:DyP p w v d):
 Calls Tryz.prog 149 #[v] w (RetK w d.man.sign):=by
 obtain⟨b,A,n,c,rfl,h⟩:=hx;obtain⟨w1,hw1,hb1,hs1,b1⟩:=pro1 w (.cells #[Value.bool b,.slice A n c,.int .i64 d.exp] 225);have HB:=hdd hb1;have H1:=hdd (h.below hb1);obtain⟨c0,c1,c2,-,-,-⟩:=cells3 b1;clear h hb1 b1 hs1;go_enter Tryz.func149,Tryz.ntmps149
 go_wp2_with fail
 refine(qZ H1.out).mono ?_;rintro r w3⟨rfl,hb⟩;have HF:Hid (RetK w d.man.sign (.returned (.int .i64 d.man.sign)) w3):=hdd ⟨rfl,HB.out.trans (hb.mono HB.out.size)⟩;clear hb;go_wp2;go_ret;exact HF.out
theorem ab6{xs:List Nat}(h:OkL xs):bits (val xs)<=64*xs.length:=by
 rw[aH];have:=bU xs h;rwa[eT,<-Nat.pow_mul]at this
theorem rR{d:Dy}(hx:DyP p w v d)(he:-1000000000000<=d.exp/\d.exp<=1000000000000):
 Calls Tryz.prog 151 #[v] w (RetK w (topD d)):=by
 obtain⟨b,A,n,c,rfl,h⟩:=hx;obtain⟨w1,hw1,hb1,hs1,b1⟩:=pro1 w (.cells #[Value.bool b,.slice A n c,.int .i64 d.exp] 225);have HB:=hdd hb1;have H1:=hdd (h.below hb1);obtain⟨c0,c1,c2,-,-,-⟩:=cells3 b1;clear h hb1 b1 hs1;have HDP:Hid (DyP p w1 (.agg #[.bool b,.slice A n c,.int .i64 d.exp]) d):=hdd ⟨b,A,n,c,rfl,H1.out⟩;go_enter Tryz.func151,Tryz.ntmps151
 go_wp2_with fail
 refine(dK HDP.out).mono ?_;rintro r w3⟨rfl,hb⟩;replace H1:=hdd (H1.out.below hb);replace c0:=cbl c0 hb;replace c1:=cbl c1 hb;replace c2:=cbl c2 hb;replace HB:=hdd (HB.out.trans (hb.mono HB.out.size));clear hb HDP hw1;by_cases hz:d.man=0
 . have hs:(d.man.sign==0)=true:=by rw[hz];rfl
   have HF:Hid (RetK w (topD d) (.returned (.int .i64 0)) w3):=hdd ⟨by unfold topD;rw[if_pos hz],HB.out⟩;clear hz;go_wp2;go_ret;exact HF.out
 . have hs:(d.man.sign==0)=false:=beq_eq_false_iff_ne.2 (fun h=>hz (Int.sign_eq_zero_iff_zero.1 h))
   obtain⟨xs,hx1,-,hx3,-⟩:=H1.out.get;have HBT:=hdd (dL (hx1.below ((baR _ _).drew (w:=w3))));have hbl:bits (val xs)<=64*1099511627776:=Nat.le_trans (ab6 hx1.ok) (Nat.mul_le_mul_left _ hx1.len);have hwr:IntKind.i64.wrap ((bits (val xs):Int)+d.exp)=(bits (val xs):Int)+d.exp:=wrap_i64 (by omega);have HT:Hid (topD d=bits (val xs)+d.exp):=hdd (by unfold topD;rw[if_neg hz,hx3]);clear hx1 hx3 hz;go_wp2_with fail
   go_region_held3 (fun w'=>w'.cell? ⟨w.heap.size,0,none⟩=some (.bool b)/\w'.cell? ⟨w.heap.size,1,none⟩=some (.slice A n c)/\w'.cell? ⟨w.heap.size,2,none⟩=some (.int .i64 d.exp)) (go_keep)
    (first
    |(go_at_call 178
      refine HBT.out.mono ?_;rintro e w5⟨rfl,k,hk⟩;have hb5:Below w3.heap.size w3 w5:=by rw[hk];exact(baR _ _).drew.trans (below_drewN w3.drew k)
      have c0:=cbl c0 hb5;have c1:=cbl c1 hb5;have c2:=cbl c2 hb5;have HB5:=hdd (HB.out.trans (hb5.mono HB.out.size));clear hk hb5))
   have HF:Hid (RetK w (topD d) (.returned (.int .i64 (bits (val xs)+d.exp))) _):=hdd ⟨by rw[HT.out],HB5.out⟩;go_wp2;go_ret;exact HF.out
theorem xA{d:Dy}(hx:DyP p w v d)(hT:Tab w)(hL:bits d.man.natAbs<=1073741824)(he:-1000000000000<=d.exp/\d.exp<=1000000000000):
 Calls Tryz.prog 142 #[v] w (RetD w.heap.size w (notD d)):=by
 obtain⟨b,A,n,c,rfl,h⟩:=hx;obtain⟨w2,hw2,hb2,hs2,b1,b2⟩:=pro2 w (.cells #[Value.bool b,.slice A n c,.int .i64 d.exp] 225) (.cells #[Value.bool false,Value.slice none 0 0,.int .i64 0] 225);have HB:=hdd hb2;have H1:=hdd (h.below hb2);have HT:=hdd (hT.below hb2);have HS:=hdd hs2;have B2:=hdd b2;have HL:=hdd hL;obtain⟨c0,c1,c2,-,-,-⟩:=cells3 b1;clear h hb2 b1 hs2 b2 hT hL;go_enter Tryz.func142,Tryz.ntmps142
 go_wp2_with fail
 have HN:=hdd (al1 (H1.out.below ((baR _ _).drew (w:=w2))));have n1:w.heap.size+1≠w.heap.size:=by omega
 go_region_held3 (fun w'=>w'.cell? ⟨w.heap.size,0,none⟩=some (.bool b)/\w'.cell? ⟨w.heap.size,1,none⟩=some (.slice A n c)/\w'.cell? ⟨w.heap.size,2,none⟩=some (.int .i64 d.exp)) (go_keep)
  (first
  |(go_at_call 153
    refine HN.out.mono ?_;rintro r w5⟨hb,v5,rfl,hz⟩;have HB5:Hid (Below w2.heap.size w2 w5):=hdd ((baR _ _).drew.trans hb);have c0:=cbl c0 HB5.out;have c1:=cbl c1 HB5.out;have c2:=cbl c2 HB5.out;have HMK:=hdd (dO (e:=d.exp) hz (HT.out.below HB5.out) (by rw[Int.natAbs_neg];exact HL.out) he);clear hb hz)
  |(go_at_call 152
    refine HMK.out.mono ?_;rintro r w6⟨hb,v6,hz⟩;obtain⟨rfl,hz⟩:=hz;obtain⟨b6,A6,n6,c6,rfl,-⟩:=id hz;have c0:=cbl c0 hb;have c1:=cbl c1 hb;have c2:=cbl c2 hb;have HSZ:=hdd HB5.out.size;have HB5:=hdd (HB5.out.trans (hb.mono HB5.out.size));have HF:=hdd hz;have B25:=hdd (hbl B2.out HB5.out);obtain⟨e0,e1,e2,e3,e4,e5⟩:=cells3 B25.out;clear hb hz))
 obtain⟨HFF,hFF⟩:=aR (HB.out.trans (HB5.out.mono HB.out.size)) (g:=w.heap.size+1) (by omega) B25.out HF.out (fun b hb=>by have:=HS.out;have:=HSZ.out;omega);replace hFF:=hdd hFF;replace HFF:Hid (RetD w.heap.size w (notD d) _ _):=HFF;go_wp2;obtain⟨f0,f1,f2,-,-,-⟩:=cells3 hFF.out;refine bodyPost_ret (v:=.agg #[_,_,_]) (by simp[results,Tryz.results142,go_sem,f0,f1,f2];first|exact⟨rfl,rfl,rfl⟩|rfl) rfl ?_;exact HFF.out
theorem uL(a b:Nat):bits (a*b)<=bits a+bits b:=by
 rw[aH];have e3:=Nat.mul_lt_mul'' (bZ a) (bZ b);rwa[<-Nat.pow_add]at e3
theorem aj7{q:Nat->Prop}{vb:Value}{x y:Dy}(hx:DyP p w va x)(hy:DyP q w vb y)(hT:Tab w)
 (hL:bits x.man.natAbs+bits y.man.natAbs<=1073741823) (he:-100000000000<=x.exp/\x.exp<=100000000000) (he':-100000000000<=y.exp/\y.exp<=100000000000):
 Calls Tryz.prog 210 #[va,vb] w (RetD w.heap.size w (mulD x y)):=by
 obtain⟨ba,A,n,c,rfl,h⟩:=hx;obtain⟨bb,A',n',c',rfl,h'⟩:=hy;obtain⟨w3,hw3,hb3,hs3,b1,b2,b3⟩:=pro3 w (.cells #[Value.bool ba,.slice A n c,.int .i64 x.exp] 225) (.cells #[Value.bool bb,.slice A' n' c',.int .i64 y.exp] 225) (.cells #[Value.bool false,Value.slice none 0 0,.int .i64 0] 225);have HB:=hdd hb3;have H1:=hdd (h.below hb3);have H2:=hdd (h'.below hb3);have HT:=hdd (hT.below hb3);have HS:=hdd hs3;have B3:=hdd b3;obtain⟨c0,c1,c2,-,-,-⟩:=cells3 b1;obtain⟨d0,d1,d2,-,-,-⟩:=cells3 b2;have hwr:IntKind.i64.wrap (x.exp+y.exp)=x.exp+y.exp:=wrap_i64 (by omega);have HLM:Hid (bits (x.man*y.man).natAbs<=1073741824):=hdd (by
  rw[Int.natAbs_mul];have:=uL x.man.natAbs y.man.natAbs;omega)
 have HL:=hdd hL;have HE:Hid (-1000000000000<=x.exp+y.exp/\x.exp+y.exp<=1000000000000):=hdd (by omega);clear h h' hb3 b1 b2 b3 hs3 hT hL he he';go_enter Tryz.func210,Tryz.ntmps210
 go_wp2_with fail
 have HBA:Hid (Below w3.heap.size w3 (w3.alloc (.cells #[Value.bool bb,.slice A' n' c'] 223)).drew):=hdd ((baR _ _).alloc nlr _).drew;have HBA2:Hid ((w3.alloc (.cells #[Value.bool bb,.slice A' n' c'] 223)).drew.heap[w3.heap.size]? =some (.cells #[Value.bool bb,.slice A' n' c'] 223 (0,0))):=hdd (heap_alloc_new w3 _);have HMU:=hdd (aiR (H1.out.below HBA.out) HBA2.out (H2.out.below HBA.out) (by have:=HL.out;omega));have n1:w.heap.size+1+1≠w.heap.size:=by omega
 have n2:w.heap.size+1+1≠w.heap.size+1:=by omega
 go_region_held3 (fun w'=>w'.cell? ⟨w.heap.size,0,none⟩=some (.bool ba)/\w'.cell? ⟨w.heap.size,1,none⟩=some (.slice A n c)/\w'.cell? ⟨w.heap.size,2,none⟩=some (.int .i64 x.exp)/\w'.cell? ⟨w.heap.size+1,0,none⟩=some (.bool bb)/\w'.cell? ⟨w.heap.size+1,1,none⟩=some (.slice A' n' c')/\w'.cell? ⟨w.heap.size+1,2,none⟩=some (.int .i64 y.exp)) (go_keep)
  (first
  |(go_at_call 226
    refine HMU.out.mono ?_;rintro r w5⟨hb,v5,rfl,hz⟩;have HB5:Hid (Below w3.heap.size w3 w5):=hdd (HBA.out.trans (hb.mono HBA.out.size));have c0:=cbl c0 HB5.out;have c1:=cbl c1 HB5.out;have c2:=cbl c2 HB5.out;have d0:=cbl d0 HB5.out;have d1:=cbl d1 HB5.out;have d2:=cbl d2 HB5.out;have HMK:=hdd (dO (e:=x.exp+y.exp) hz (HT.out.below HB5.out) HLM.out HE.out);clear hb hz)
  |(go_at_call 152
    refine HMK.out.mono ?_;rintro r w6⟨hb,v6,hz⟩;obtain⟨rfl,hz⟩:=hz;obtain⟨b6,A6,n6,c6,rfl,-⟩:=id hz;have c0:=cbl c0 hb;have c1:=cbl c1 hb;have c2:=cbl c2 hb;have d0:=cbl d0 hb;have d1:=cbl d1 hb;have d2:=cbl d2 hb;have HSZ:=hdd HB5.out.size;have HB5:=hdd (HB5.out.trans (hb.mono HB5.out.size));have HF:=hdd hz;have B35:=hdd (hbl B3.out HB5.out);obtain⟨e0,e1,e2,e3,e4,e5⟩:=cells3 B35.out;clear hb hz))
 obtain⟨HFF,hFF⟩:=aR (HB.out.trans (HB5.out.mono HB.out.size)) (g:=w.heap.size+2) (by omega) B35.out HF.out (fun b hb=>by have:=HS.out;have:=HSZ.out;omega);replace hFF:=hdd hFF;replace HFF:Hid (RetD w.heap.size w (mulD x y) _ _):=HFF;go_wp2;obtain⟨f0,f1,f2,-,-,-⟩:=cells3 hFF.out;refine bodyPost_ret (v:=.agg #[_,_,_]) (by simp[results,Tryz.results210,go_sem,f0,f1,f2];first|exact⟨rfl,rfl,rfl⟩|rfl) rfl ?_;exact HFF.out
end Go.Proofs.YtjaafolhfihegaaGreatDoor
