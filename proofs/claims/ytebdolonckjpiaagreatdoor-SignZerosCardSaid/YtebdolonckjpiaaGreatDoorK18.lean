/- A part of the proof: contracts of functions and plain laws (RlE, RlF, SpA, Stg, RunA, SymC). -/
import Derived.Test.YtebdolonckjpiaaGreatDoorK17
import Derived.Test.YtebdolonckjpiaaGreatDoorK14
set_option linter.unusedVariables false
set_option linter.unusedSimpArgs false
set_option maxHeartbeats 25600000
set_option maxRecDepth 100000
namespace Go.Proofs.YtebdolonckjpiaaGreatDoor
open Go.RowKit Go.Maps
open List renaming mem_cons_of_mem->baC,getElem?_eq_some_iff->baD,getElem?_eq_getElem->baE,mem_cons->baF,prefix_rfl->baG,mem_append->baH,getElem?_of_mem->baI,mem_singleton->baK,nodup_cons->baL,mem_map->baM
open Nat renaming le_trans->baB,lt_of_lt_of_le->baJ,not_lt->baN
open Option.some renaming inj->baA
variable{e0:Ex}{c d u:Nat}{lst:Nat->Bool}{ν:Nat->Nat}{o o':Obj}
theorem akL{P:Ex->Prop}{B N:Nat}{w:World}{g i:Nat}{ns:List Nd}{v:Value}{l:List Nat}{es:List Ex}(hs:St P B N w g ns)(hl:NumsP w v g l)(hlen:l.length=es.length)(h0:0<l.length)
 (he0:Is ns e0 i) (hes:∀(m x:Nat) e,l[m]? =some x->es[m]? =some e->Is ns e x) (hP:∀m,m<es.length->P (fQ 1 e0 (es.take (m+1)))) (hN:N+l.length<=20000):
 Calls Tryz.prog 19 #[numV g i,v] w (RetE P B (N+l.length) w g ns (numV g) (fQ 1 e0 es)):=by
 obtain⟨w2,hw2,hb2,hs2,b1,b2⟩:=pro2 w (.cells #[.pointer (some ⟨g,0,none⟩),.int .i64 (i:Int)] 27) (.cells #[.pointer none,.int .i64 0] 27);have hll:∀x∈l,x<ns.length:=fun x hx=>by
  obtain⟨m,hm⟩:=baI hx;have hml:=(baD.1 hm).1;exact(hes m x es[m] hm (baE (by omega))).lt
 have HG:=hdd (uO (hs.dag.below hb2) he0.lt (hl.below hb2) hll);have HIDS:Hid (∀w',Below w.heap.size w w'->Calls Tryz.prog 67 #[.agg #[.pointer (some ⟨g,0,none⟩),.int .i64 (i:Int)],v] w' (yF w' (i::l))):=hdd fun w' h=>adF (hl.below h);have HAW:Hid (∀w' (c:Nat),Below w.heap.size w w'->w.heap.size<=c->¬DagB w' g c):=hdd fun w' c h=>hs.away h;have HOP:Hid (∀w' v' (q:Nat),Below w.heap.size w w'->w.heap.size<=q->IntsP (fun b=>q<=b) w' v' (i::l)->Calls Tryz.prog 35 #[.pointer (some ⟨g,0,none⟩),v'] w' (RetE P B (N+l.length) w' g ns idV (fQ 1 e0 es))):=
  hdd fun w' v' q h hq hi=>by
   obtain⟨b,c,q1,q2,q3,q4,q5,q6⟩:=hi;exact ah8 (hs.below h) ⟨b,c,q1,q2,q3,hs.away h (baB hq q4),q5,q6⟩ hlen h0 he0 hes hP hN
 have HGL:=hdd hs.dag.glt;have HBL:=hdd hs.hB;obtain⟨e0',e1',-,-⟩:=aC b1;have HB2:=hdd hb2;have B2:=hdd b2;have HSZ:Hid (w.heap.size+1<w2.heap.size):=hdd (by omega);obtain⟨bv,cv,rfl,-⟩:=id hl;clear hs hl hlen h0 he0 hes hP hN hll hb2 hs2 b1 b2;go_enter Tryz.func19,Tryz.ntmps19
 go_wp2_with fail
 refine HG.out.mono ?_;rintro e w5⟨rfl,hb5⟩;have hb5d:Below w2.heap.size w2 w5.drew:=aB hb5 (Below.refl _ _).drew;replace e0':=cell_below e0' hb5d nlr;replace e1':=cell_below e1' hb5d nlr;have HB5:=hdd (aB HB2.out hb5d);have B5:=hdd (hbl B2.out hb5d);clear hb5 hb5d;have n1:w.heap.size+1≠w.heap.size:=by omega
 have n2:w.heap.size≠w.heap.size+1:=by omega
 go_wp2_with fail
 go_region_held3 (fun w'=>w'.cell? ⟨w.heap.size,0,none⟩=some (.pointer (some ⟨g,0,none⟩))/\w'.cell? ⟨w.heap.size,1,none⟩=some (.int .i64 (i:Int))) (go_keep)
  (first
  |(go_at_call 67
    refine(HIDS.out _ HB5.out).mono ?_;rintro e w6⟨hb6,v6,rfl,hi6⟩;have e0':=cell_below e0' hb6 nlr;have e1':=cell_below e1' hb6 nlr;have HB6:=hdd (aB HB5.out hb6);have B6:=hdd (hbl B5.out hb6);have HADD:=hdd (HOP.out w6 v6 _ HB6.out HB5.out.size hi6);obtain⟨b6,c6,rfl,-⟩:=hi6;clear hb6)
  |(go_at_call 35
    refine HADD.out.mono ?_;rintro e w7⟨k,ns',rfl,h1,h2,h3,h4⟩;have e0':=h4.cell e0' (HAW.out _ _ HB6.out (by simp));have e1':=h4.cell e1' (HAW.out _ _ HB6.out (by simp));have hlt6:w.heap.size+1<w6.heap.size:=aH B6.out;have B7:=(h4.heap (b:=w.heap.size+1) hlt6 (HAW.out _ _ HB6.out (by omega))).trans B6.out;obtain⟨r0,r1,f0,f1⟩:=aC B7;have HF:Hid (FoldSt P B (N+l.length) w g ns (fQ 1 e0 es) k ((w7.setCell ⟨w.heap.size+1,0,none⟩ (.pointer (some ⟨g,0,none⟩))).setCell ⟨w.heap.size+1,1,none⟩ (.int .i64 (k:Int)))):=
     hdd (FoldSt.set2 (w0:=w) ⟨ns',h1,h2,h3,h4⟩ (Or.inr trivial) HGL.out HB6.out (by omega) (HAW.out _ _ HB6.out (by omega)) hlt6 (by have:=HBL.out;omega) _ _)
    have HX:=hdd (set2 B7 (.pointer (some ⟨g,0,none⟩)) (.int .i64 (k:Int)));clear h1 h2 h3 h4 B7 hlt6))
 go_wp2;obtain⟨x0,x1,-,-⟩:=aC HX.out;refine bodyPost_ret (v:=.agg #[_,_]) (by simp[results,Tryz.results19,go_sem,x0,x1];first|exact⟨rfl,rfl⟩|rfl) rfl ?_;exact HF.out.ret (numV g)
theorem akM{P:Ex->Prop}{B N:Nat}{w:World}{g i:Nat}{ns:List Nd}{v:Value}{l:List Nat}{es:List Ex}(hs:St P B N w g ns)(hl:NumsP w v g l)(hlen:l.length=es.length)(h0:0<l.length)
 (he0:Is ns e0 i) (hes:∀(m x:Nat) e,l[m]? =some x->es[m]? =some e->Is ns e x) (hP:∀m,m<es.length->P (fQ 3 e0 (es.take (m+1)))) (hN:N+l.length<=20000):
 Calls Tryz.prog 20 #[numV g i,v] w (RetE P B (N+l.length) w g ns (numV g) (fQ 3 e0 es)):=by
 obtain⟨w2,hw2,hb2,hs2,b1,b2⟩:=pro2 w (.cells #[.pointer (some ⟨g,0,none⟩),.int .i64 (i:Int)] 27) (.cells #[.pointer none,.int .i64 0] 27);have hll:∀x∈l,x<ns.length:=fun x hx=>by
  obtain⟨m,hm⟩:=baI hx;have hml:=(baD.1 hm).1;exact(hes m x es[m] hm (baE (by omega))).lt
 have HG:=hdd (uO (hs.dag.below hb2) he0.lt (hl.below hb2) hll);have HIDS:Hid (∀w',Below w.heap.size w w'->Calls Tryz.prog 67 #[.agg #[.pointer (some ⟨g,0,none⟩),.int .i64 (i:Int)],v] w' (yF w' (i::l))):=hdd fun w' h=>adF (hl.below h);have HAW:Hid (∀w' (c:Nat),Below w.heap.size w w'->w.heap.size<=c->¬DagB w' g c):=hdd fun w' c h=>hs.away h;have HOP:Hid (∀w' v' (q:Nat),Below w.heap.size w w'->w.heap.size<=q->IntsP (fun b=>q<=b) w' v' (i::l)->Calls Tryz.prog 34 #[.pointer (some ⟨g,0,none⟩),v'] w' (RetE P B (N+l.length) w' g ns idV (fQ 3 e0 es))):=
  hdd fun w' v' q h hq hi=>by
   obtain⟨b,c,q1,q2,q3,q4,q5,q6⟩:=hi;exact ah9 (hs.below h) ⟨b,c,q1,q2,q3,hs.away h (baB hq q4),q5,q6⟩ hlen h0 he0 hes hP hN
 have HGL:=hdd hs.dag.glt;have HBL:=hdd hs.hB;obtain⟨e0',e1',-,-⟩:=aC b1;have HB2:=hdd hb2;have B2:=hdd b2;have HSZ:Hid (w.heap.size+1<w2.heap.size):=hdd (by omega);obtain⟨bv,cv,rfl,-⟩:=id hl;clear hs hl hlen h0 he0 hes hP hN hll hb2 hs2 b1 b2;go_enter Tryz.func20,Tryz.ntmps20
 go_wp2_with fail
 refine HG.out.mono ?_;rintro e w5⟨rfl,hb5⟩;have hb5d:Below w2.heap.size w2 w5.drew:=aB hb5 (Below.refl _ _).drew;replace e0':=cell_below e0' hb5d nlr;replace e1':=cell_below e1' hb5d nlr;have HB5:=hdd (aB HB2.out hb5d);have B5:=hdd (hbl B2.out hb5d);clear hb5 hb5d;have n1:w.heap.size+1≠w.heap.size:=by omega
 have n2:w.heap.size≠w.heap.size+1:=by omega
 go_wp2_with fail
 go_region_held3 (fun w'=>w'.cell? ⟨w.heap.size,0,none⟩=some (.pointer (some ⟨g,0,none⟩))/\w'.cell? ⟨w.heap.size,1,none⟩=some (.int .i64 (i:Int))) (go_keep)
  (first
  |(go_at_call 67
    refine(HIDS.out _ HB5.out).mono ?_;rintro e w6⟨hb6,v6,rfl,hi6⟩;have e0':=cell_below e0' hb6 nlr;have e1':=cell_below e1' hb6 nlr;have HB6:=hdd (aB HB5.out hb6);have B6:=hdd (hbl B5.out hb6);have HADD:=hdd (HOP.out w6 v6 _ HB6.out HB5.out.size hi6);obtain⟨b6,c6,rfl,-⟩:=hi6;clear hb6)
  |(go_at_call 34
    refine HADD.out.mono ?_;rintro e w7⟨k,ns',rfl,h1,h2,h3,h4⟩;have e0':=h4.cell e0' (HAW.out _ _ HB6.out (by simp));have e1':=h4.cell e1' (HAW.out _ _ HB6.out (by simp));have hlt6:w.heap.size+1<w6.heap.size:=aH B6.out;have B7:=(h4.heap (b:=w.heap.size+1) hlt6 (HAW.out _ _ HB6.out (by omega))).trans B6.out;obtain⟨r0,r1,f0,f1⟩:=aC B7;have HF:Hid (FoldSt P B (N+l.length) w g ns (fQ 3 e0 es) k ((w7.setCell ⟨w.heap.size+1,0,none⟩ (.pointer (some ⟨g,0,none⟩))).setCell ⟨w.heap.size+1,1,none⟩ (.int .i64 (k:Int)))):=
     hdd (FoldSt.set2 (w0:=w) ⟨ns',h1,h2,h3,h4⟩ (Or.inr trivial) HGL.out HB6.out (by omega) (HAW.out _ _ HB6.out (by omega)) hlt6 (by have:=HBL.out;omega) _ _)
    have HX:=hdd (set2 B7 (.pointer (some ⟨g,0,none⟩)) (.int .i64 (k:Int)));clear h1 h2 h3 h4 B7 hlt6))
 go_wp2;obtain⟨x0,x1,-,-⟩:=aC HX.out;refine bodyPost_ret (v:=.agg #[_,_]) (by simp[results,Tryz.results20,go_sem,x0,x1];first|exact⟨rfl,rfl⟩|rfl) rfl ?_;exact HF.out.ret (numV g)
def RetS(w:World)(s:Int)(e:Ending)(w':World):Prop:=e=.returned (.tuple #[.int .i64 s,.nilIface])/\Below w.heap.size w w'
def gY(P:Ex->Prop)(x:Ex)(s:Int):Prop:=∀(B N:Nat) (w:World) (g k:Nat) (ns:List Nd),St P B N w g ns->Is ns x k->
 Calls Tryz.prog 27 #[.pointer (some ⟨g,0,none⟩),.int .i64 (k:Int),.slice none 0 0] w (RetS w s)
def RetQ(P:Ex->Prop)(B N:Nat)(w:World)(g:Nat)(ns:List Nd)(v:Value)(e:Ending)(w':World):Prop:=
 e=.returned v/\∃ns',St P B N w' g ns'/\ns<+:ns'/\DS g w w'
theorem aaK{P:Ex->Prop}{B N:Nat}{w:World}{g k:Nat}{ns:List Nd}{x:Ex}{s:Int}(hs:St P B N w g ns)(hx:Is ns x k)(hS:gY P x s):
 Calls Tryz.prog 48 #[numV g k] w (RetS w s):=by
 obtain⟨w1,hw1,hb1,hs1,b1⟩:=pro1 w (.cells #[.pointer (some ⟨g,0,none⟩),.int .i64 (k:Int)] 27);obtain⟨c0,c1,-,-⟩:=aC b1;have HV:=hdd (qE (hs.dag.below hb1) hx.lt);have HS:Hid (∀w',Below w.heap.size w w'->Calls Tryz.prog 27 #[.pointer (some ⟨g,0,none⟩),.int .i64 (k:Int),.slice none 0 0] w' (RetS w' s)):=hdd fun w' h=>hS B N w' g k ns (hs.below h) hx;have HB:=hdd hb1;clear hs hx hS hb1 hs1 b1;go_enter Tryz.func48,Tryz.ntmps48
 go_wp2_with fail
 refine HV.out.mono ?_;rintro e w2⟨rfl,hb2⟩;replace c0:=cbl c0 hb2;replace c1:=cbl c1 hb2;have HB2:=hdd (aB HB.out hb2);clear hb2;go_wp2_with fail
 refine(HS.out _ HB2.out).mono ?_;rintro e w3⟨rfl,hb3⟩;have HB3:=hdd (aB HB2.out hb3);clear hb3;go_wp2
 go_ret2
 exact⟨rfl,HB3.out⟩
theorem adH{P:Ex->Prop}{B N:Nat}{w:World}{g i j:Nat}{ns:List Nd}{a b:Ex}{s:Int}(hs:St P B N w g ns)(hN:N<20000)(ha:Is ns a i)(hb:Is ns b j)(hP:P (.sub a b))(hS:gY P (.sub a b) s):
 Calls Tryz.prog 46 #[numV g i,numV g j] w (RetQ P B (N+1) w g ns (.tuple #[.int .i64 s,.nilIface])):=by
 obtain⟨w2,hw2,hb2,hs2,b1,b2⟩:=pro2 w (.cells #[.pointer (some ⟨g,0,none⟩),.int .i64 (i:Int)] 27) (.cells #[.pointer (some ⟨g,0,none⟩),.int .i64 (j:Int)] 27);obtain⟨c0,c1,-,-⟩:=aC b1;obtain⟨d0,d1,-,-⟩:=aC b2;have HSUB:=hdd (adG (hs.below hb2) hN ha hb hP);have HDS:=hdd (DS.of_below hs.dag.glt hb2);have HSG:Hid (∀w' k ns',St P B (N+1) w' g ns'->Is ns' (.sub a b) k->Calls Tryz.prog 48 #[numV g k] w' (RetS w' s)):=hdd fun w' k ns' h1 h2=>aaK h1 h2 hS;clear hs hN ha hb hP hS hb2 hs2 b1 b2;go_enter Tryz.func46,Tryz.ntmps46
 go_wp2_with fail
 refine HSUB.out.mono ?_;rintro e w3⟨k,ns',rfl,h1,h2,h3,h4⟩;have HC:=hdd (HSG.out w3 k ns' h1 h3);have HR:Hid (∀w',Below w3.heap.size w3 w'->RetQ P B (N+1) w g ns (.tuple #[.int .i64 s,.nilIface]) (.returned (.tuple #[.int .i64 s,.nilIface])) w'):=hdd fun w' h=>⟨rfl,ns',h1.below h,h2,HDS.out.trans (h4.trans (DS.of_below h1.dag.glt h))⟩;clear h1 h2 h3 h4;go_wp2_with fail
 refine HC.out.mono ?_;rintro e w4⟨rfl,hb4⟩;have HF:=hdd (HR.out _ hb4);clear hb4;go_wp2
 go_ret2
 exact HF.out
abbrev dE(g i j:Nat):Value:=.agg #[.pointer (some ⟨g,0,none⟩),.int .i64 (i:Int),.pointer (some ⟨g,0,none⟩),.int .i64 (j:Int)]
def aiD(P:Ex->Prop)(B N:Nat)(w:World)(g:Nat)(ns:List Nd)(x y:Ex)(e:Ending)(w':World):Prop:=
 ∃(i j:Nat) (ns':List Nd),e=.returned (dE g i j)/\St P B N w' g ns'/\ns<+:ns'/\Is ns' x i/\Is ns' y j/\DS g w w'
def Grew(P:Ex->Prop)(B N:Nat)(w:World)(g:Nat)(ns ns':List Nd)(w':World):Prop:=St P B N w' g ns'/\ns<+:ns'/\DS g w w'
section
variable{P:Ex->Prop}{B N:Nat}{w w' w'' w0:World}{g:Nat}{ns ns':List Nd}
theorem St.setCell (h:St P B N w g ns){b i:Nat}(hn:¬DagB w g b)(hB:B<=b)(u:Value):St P B N (w.setCell ⟨b,i,none⟩ u) g ns:=
 ⟨h.dag.setCell hn u,h.all,fun c hc=>h.hi c ((lZ hn u).1 hc),h.tab.step (Below.heap_setCell w _ u _ (by have:=h.tb;simp;omega)),h.tb,by simpa[World.setCell]using h.hB,h.room⟩
theorem Grew.setCell (h:Grew P B N w g ns ns' w'){b i:Nat}(hb:w.heap.size<=b)(hn:¬DagB w' g b)(hB:B<=b)(u:Value):Grew P B N w g ns ns' (w'.setCell ⟨b,i,none⟩ u):=
 ⟨h.1.setCell hn hB u,h.2.1,h.2.2.setCell hb hn u⟩
theorem Grew.below (h:Grew P B N w g ns ns' w')(hb:Below w'.heap.size w' w''):Grew P B N w g ns ns' w'':=
 ⟨h.1.below hb,h.2.1,h.2.2.trans (DS.of_below h.1.dag.glt hb)⟩
theorem Grew.start (h:St P B N w g ns)(hb:Below w.heap.size w w'):Grew P B N w g ns ns w':=⟨h.below hb,baG,DS.of_below h.dag.glt hb⟩
theorem Grew.trans {M:Nat}{ns'':List Nd}(h:Grew P B N w g ns ns' w')(k:Grew P B M w' g ns' ns'' w''):Grew P B M w g ns ns'' w'':=⟨k.1,h.2.1.trans k.2.1,h.2.2.trans k.2.2⟩
end
theorem akN{P:Ex->Prop}{B N:Nat}{w:World}{g:Nat}{ns:List Nd}{x y:Nat}(hs:St P B N w g ns)(hN:N+1<20000)(hx:x<18446744073709551616)(hy:y<18446744073709551616)(fx:fin x)(fy:fin y)(hP:P (.leaf x))(hQ:P (.leaf y)):
 Calls Tryz.prog 24 #[.pointer (some ⟨g,0,none⟩),.float .f64 x,.float .f64 y] w (aiD P B (N+2) w g ns (.leaf x) (.leaf y)):=by
 obtain⟨w1,hw1,hb1,hs1,b1⟩:=pro1 w (.cells #[.pointer none,.int .i64 0,.pointer none,.int .i64 0] 43);have HL:=hdd (acD (hs.below hb1) (by omega) hx fx hP);have HM:Hid (∀w' ns',St P B (N+1) w' g ns'->Calls Tryz.prog 17 #[.pointer (some ⟨g,0,none⟩),.float .f64 y] w' (RetE P B (N+2) w' g ns' (numV g) (.leaf y))):=hdd fun w' ns' h=>acD h hN hy fy hQ;have hn1:¬DagB w1 g w.heap.size:=hs.away hb1 nlr;have HN1:=hdd hn1;have HB1:=hdd b1;have HGR:=hdd (Grew.start hs hb1);have HBL:=hdd hs.hB;have HS1:Hid (w.heap.size<w1.heap.size):=hdd (by omega);clear hs hN hx hy fx fy hP hQ hb1 hs1 b1 hn1;go_enter Tryz.func24,Tryz.ntmps24
 go_wp2_with fail
 refine HL.out.mono ?_;rintro e w2⟨i,ns1,rfl,h1,h2,h3,h4⟩;have HM2:=hdd (HM.out w2 ns1 h1);have HI:=hdd h3;have HG2:=hdd (HGR.out.trans ⟨h1,h2,h4⟩);have HN2:=hdd (h4.2 _ HS1.out HN1.out);have HB2:=hdd ((h4.heap HS1.out HN1.out).trans HB1.out);have HS2:Hid (w.heap.size<w2.heap.size):=hdd (baJ HS1.out h4.size);clear h1 h2 h3 h4;go_wp2_with fail
 refine HM2.out.mono ?_;rintro e w3⟨j,ns2,rfl,h1,h2,h3,h4⟩;have hn3:=h4.2 _ HS2.out HN2.out;have b3:=(h4.heap HS2.out HN2.out).trans HB2.out;obtain⟨c0,c1,c2,c3⟩:=aU b3;obtain⟨f0,f1,f2,f3⟩:=ac8 b3;have HX:=hdd (set4 b3 (.pointer (some ⟨g,0,none⟩)) (.int .i64 (i:Int)) (.pointer (some ⟨g,0,none⟩)) (.int .i64 (j:Int)));have HF:Hid (aiD P B (N+2) w g ns (.leaf x) (.leaf y) (.returned (dE g i j)) ((((w3.setCell ⟨w.heap.size,0,none⟩ (.pointer (some ⟨g,0,none⟩))).setCell ⟨w.heap.size,1,none⟩ (.int .i64 (i:Int))).setCell ⟨w.heap.size,2,none⟩ (.pointer (some ⟨g,0,none⟩))).setCell ⟨w.heap.size,3,none⟩ (.int .i64 (j:Int)))):=hdd (by
  have g0:=HG2.out.trans ⟨h1,h2,h4⟩;have q:∀(w':World),¬DagB w' g w.heap.size->∀i u,¬DagB (w'.setCell ⟨w.heap.size,i,none⟩ u) g w.heap.size:=fun w' hn i u hd=>hn ((lZ hn u).1 hd);have g1:=(((g0.setCell (i:=0) nlr hn3 HBL.out (.pointer (some ⟨g,0,none⟩))).setCell (i:=1) nlr (q _ hn3 _ _) HBL.out (.int .i64 (i:Int))).setCell (i:=2) nlr (q _ (q _ hn3 _ _) _ _) HBL.out (.pointer (some ⟨g,0,none⟩))).setCell (i:=3) nlr (q _ (q _ (q _ hn3 _ _) _ _) _ _) HBL.out (.int .i64 (j:Int));exact⟨i,j,ns2,rfl,g1.1,g1.2.1,HI.out.mono h2,h3,g1.2.2⟩)
 clear h1 h2 h3 h4 b3 hn3;go_wp2;obtain⟨x0,x1,x2,x3⟩:=aU HX.out;refine bodyPost_ret (v:=.agg #[_,_,_,_]) (by simp[results,Tryz.results24,go_sem,x0,x1,x2,x3];first|exact⟨rfl,rfl,rfl,rfl⟩|rfl) rfl ?_;exact HF.out
def gL(P:Ex->Prop)(px py qx qy:Ex)(s:Int):Prop:=∃s1 s2,P (.sub px qx)/\gY P (.sub px qx) s1/\(s1=0->P (.sub py qy)/\gY P (.sub py qy) s2)/\s=if s1=0 then s2 else s1
theorem aaL{P:Ex->Prop}{B N:Nat}{w:World}{g i j k l:Nat}{ns:List Nd}{px py qx qy:Ex}{s:Int}(hs:St P B N w g ns)(hN:N+1<20000)(hi:Is ns px i)(hj:Is ns py j)(hk:Is ns qx k)(hl:Is ns qy l)(hc:gL P px py qx qy s):
 Calls Tryz.prog 91 #[dE g i j,dE g k l] w (RetQ P B (N+2) w g ns (.tuple #[.int .i64 s,.nilIface])):=by
 obtain⟨s1,s2,hp1,hs1,hs2,rfl⟩:=hc;obtain⟨w2,hw2,hb2,hz2,b1,b2⟩:=pro2 w (.cells #[.pointer (some ⟨g,0,none⟩),.int .i64 (i:Int),.pointer (some ⟨g,0,none⟩),.int .i64 (j:Int)] 43) (.cells #[.pointer (some ⟨g,0,none⟩),.int .i64 (k:Int),.pointer (some ⟨g,0,none⟩),.int .i64 (l:Int)] 43);obtain⟨c0,c1,c2,c3⟩:=aU b1;obtain⟨d0,d1,d2,d3⟩:=aU b2;have HC:=hdd (adH (hs.below hb2) (by omega) hi hk hp1 hs1);have HD:Hid (s1=0->∀w' ns',St P B (N+1) w' g ns'->ns<+:ns'->Calls Tryz.prog 46 #[numV g j,numV g l] w' (RetQ P B (N+2) w' g ns' (.tuple #[.int .i64 s2,.nilIface]))):=
  hdd fun h0 w' ns' h hp=>adH h (by omega) (hj.mono hp) (hl.mono hp) (hs2 h0).1 (hs2 h0).2
 have HGR:=hdd (Grew.start hs hb2);have HAW:Hid (∀c:Nat,w.heap.size<=c->¬DagB w2 g c):=hdd fun c h=>hs.away hb2 h;clear hs hN hi hj hk hl hp1 hs1 hs2 hb2 hz2 b1 b2;by_cases h0:s1=0
 . have HD0:Hid (∀w' ns',St P B (N+1) w' g ns'->ns<+:ns'->Calls Tryz.prog 46 #[numV g j,numV g l] w' (RetQ P B (N+2) w' g ns' (.tuple #[.int .i64 s2,.nilIface]))):=hdd (HD.out h0)
   clear HD;subst h0;rw[if_pos rfl];go_enter Tryz.func91,Tryz.ntmps91
   go_wp2_with fail
   refine HC.out.mono ?_;rintro e w3⟨rfl,ns1,h1,h2,h3⟩;have e2:=h3.cell c2 (HAW.out _ (by simp));have e3:=h3.cell c3 (HAW.out _ (by simp));have e4:=h3.cell d2 (HAW.out _ (by simp));have e5:=h3.cell d3 (HAW.out _ (by simp));have HD1:=hdd (HD0.out w3 ns1 h1 h2);have HG1:=hdd (HGR.out.trans ⟨h1,h2,h3⟩);clear h1 h2 h3;go_wp2_with fail
   refine HD1.out.mono ?_;rintro e w4⟨rfl,ns2,h1,h2,h3⟩;have HF:=hdd (HG1.out.trans ⟨h1,h2,h3⟩);clear h1 h2 h3;go_wp2
   go_ret2
   exact⟨rfl,ns2,HF.out⟩
 . rw[if_neg h0]
   have hb0:(s1 != 0)=true:=by simpa using h0
   have hb1:(s1==0)=false:=by simpa using h0
   clear HD;go_enter Tryz.func91,Tryz.ntmps91
   go_wp2_with fail
   refine HC.out.mono ?_;rintro e w3⟨rfl,ns1,h1,h2,h3⟩;have HF:=hdd (HGR.out.trans ⟨h1.more (M:=N+2) (by omega),h2,h3⟩);clear h1 h2 h3;go_wp2
   go_ret2
   exact⟨rfl,ns1,HF.out⟩
theorem ae3{P:Ex->Prop}{B N:Nat}{w:World}{g i j k l:Nat}{ns:List Nd}{px py qx qy:Ex}{s:Int}(hs:St P B N w g ns)(hN:N+1<20000)(hi:Is ns px i)(hj:Is ns py j)(hk:Is ns qx k)(hl:Is ns qy l)(hc:gL P px py qx qy s):
 Calls Tryz.prog 43 #[dE g i j,dE g k l] w (RetQ P B (N+2) w g ns (.tuple #[.bool (s==0),.nilIface])):=by
 obtain⟨w2,hw2,hb2,hz2,b1,b2⟩:=pro2 w (.cells #[.pointer (some ⟨g,0,none⟩),.int .i64 (i:Int),.pointer (some ⟨g,0,none⟩),.int .i64 (j:Int)] 43) (.cells #[.pointer (some ⟨g,0,none⟩),.int .i64 (k:Int),.pointer (some ⟨g,0,none⟩),.int .i64 (l:Int)] 43);obtain⟨c0,c1,c2,c3⟩:=aU b1;obtain⟨d0,d1,d2,d3⟩:=aU b2;have HC:=hdd (aaL (hs.below hb2) hN hi hj hk hl hc);have HGR:=hdd (Grew.start hs hb2);clear hs hN hi hj hk hl hc hb2 hz2 b1 b2;go_enter Tryz.func43,Tryz.ntmps43
 go_wp2_with fail
 refine HC.out.mono ?_;rintro e w3⟨rfl,ns1,h1,h2,h3⟩;have HF:=hdd (HGR.out.trans ⟨h1,h2,h3⟩);clear h1 h2 h3;go_wp2
 go_ret2
 exact⟨rfl,ns1,HF.out⟩
structure Stg(P:Ex->Prop)(B N:Nat)(w:World)(g:Nat)(ns:List Nd)(W:World)(ns':List Nd)(l:List (Nat×Obj)):Prop where
 grew:Grew P B N w g ns ns' W
 kept:∀p∈l,W.heap[p.1]? =some p.2/\¬DagB W g p.1/\w.heap.size<=p.1
 hw:B<=w.heap.size
 nodup:(l.map (·.1)).Nodup
section
variable{P:Ex->Prop}{B N M:Nat}{w W W':World}{g:Nat}{ns ns' ns'':List Nd}{l:List (Nat×Obj)}
theorem Stg.start (h:St P B N w g ns):Stg P B N w g ns w ns []:=⟨⟨h,baG,DS.refl g w⟩,fun p hp=>by simp at hp,h.hB,by simp⟩
theorem Stg.pre (h:Stg P B N w g ns W ns' l):ns<+:ns':=h.grew.2.1
theorem Stg.st (h:Stg P B N w g ns W ns' l):St P B N W g ns':=h.grew.1
theorem Stg.lt (h:Stg P B N w g ns W ns' l){p:Nat×Obj}(hp:p∈l):p.1<W.heap.size:=aH (h.kept p hp).1
theorem Stg.below (h:Stg P B N w g ns W ns' l)(hb:Below W.heap.size W W'):Stg P B N w g ns W' ns' l:=
 ⟨h.grew.below hb,fun p hp=>⟨aF (h.kept p hp).1 hb (h.lt hp),fun hd=>(h.kept p hp).2.1 ((DagB.congr (hb.block g h.grew.1.dag.glt)).1 hd),(h.kept p hp).2.2⟩,h.hw,h.nodup⟩
theorem Stg.alloc (h:Stg P B N w g ns W ns' l)(o:Obj):Stg P B N w g ns (W.alloc o) ns' ((W.heap.size,o)::l):=by
 have hb:Below W.heap.size W (W.alloc o):=aQ W o;have h':=h.below hb;refine⟨h'.grew,fun p hp=> ?_,h.hw,?_⟩
 . rcases baF.1 hp with rfl|hp
   . exact⟨heap_alloc_new W o,fun hd=>by have:=h.grew.1.dag.dagB ((DagB.congr (hb.block g h.grew.1.dag.glt)).1 hd);simp at this,h.grew.2.2.size⟩
   . exact h'.kept p hp
 . simp only[List.map_cons,baL]
   refine⟨fun hm=> ?_,h.nodup⟩;obtain⟨p,hp,e⟩:=baM.1 hm;have:=h.lt hp;omega
theorem Stg.step (h:Stg P B N w g ns W ns' l)(hs:St P B M W' g ns'')(hp:ns'<+:ns'')(hd:DS g W W'):Stg P B M w g ns W' ns'' l:=
 ⟨h.grew.trans ⟨hs,hp,hd⟩,fun p hp=>⟨(hd.heap (h.lt hp) (h.kept p hp).2.1).trans (h.kept p hp).1,hd.2 _ (h.lt hp) (h.kept p hp).2.1,(h.kept p hp).2.2⟩,h.hw,h.nodup⟩
theorem Stg.more (h:Stg P B N w g ns W ns' l)(hM:N<=M):Stg P B M w g ns W ns' l:=⟨⟨h.grew.1.more hM,h.grew.2⟩,h.kept,h.hw,h.nodup⟩
theorem DagP.off {b:Nat}(h:DagP W g ns)(hn:¬DagB W g b)(hg:W.grownBy W' (some b)):DagP W' g ns:=by
 obtain⟨A,c,mb,m,ho⟩:=h.opened;obtain⟨q1,q2,q3⟩:=ho.dagB hn;obtain⟨h1,h2,h3,h4⟩:=ho;exact(show DagO _ g ns A c mb m from⟨(hg.block g (aH h1) (fun e=>q1 (baA e).symm)).trans h1,h2.kept hg (Or.inr q3),h3.keep (hg.block mb h3.lt (fun e=>q2 (baA e).symm)),h4⟩).dag
theorem Stg.write {b:Nat}(h:Stg P B N w g ns W ns' ((b,o)::l))(hb:W.grownBy W' (some b))(ho:W'.heap[b]? =some o'):Stg P B N w g ns W' ns' ((b,o')::l):=by
 obtain⟨q1,q2,q3⟩:=h.kept (b,o) (by simp);have hgb:some g≠some b:=fun e=>q2 (Or.inl (baA e).symm);have hg:=hb.block g h.grew.1.dag.glt hgb;have hst:=h.grew.1;have hwz:w.heap.size<=W.heap.size:=h.grew.2.2.size;refine⟨⟨⟨hst.dag.off q2 hb,hst.all,fun c hc=>hst.hi c ((DagB.congr hg).1 hc),?_,hst.tb,baB hst.hB hb.size,hst.room⟩,h.grew.2.1,?_⟩,?_,h.hw,h.nodup⟩
 . exact hst.tab.step (hb.block _ (by have:=hst.tb;have:=hst.hB;omega) (fun e=>by have:=baA e;have:=hst.tb;have:=h.hw;simp only at q3;omega))
 . refine⟨⟨hb.os.trans h.grew.2.2.1.os,hb.tape.trans h.grew.2.2.1.tape,hb.output.trans h.grew.2.2.1.output,baB hwz hb.size,fun c hc hn=> ?_⟩,fun c hc hn hd=>h.grew.2.2.2 c hc hn ((DagB.congr hg).1 hd)⟩
   exact(hb.block c (by omega) (fun e=>by have:=baA e;simp only at q3;omega)).trans (h.grew.2.2.1.block c hc hn)
 . intro p hp
   rcases baF.1 hp with rfl|hp
   . exact⟨ho,fun hd=>q2 ((DagB.congr hg).1 hd),q3⟩
   . have hne:p.1≠b:=fun e=>(baL.1 h.nodup).1 (baM.2 ⟨p,hp,e⟩)
     obtain⟨r1,r2,r3⟩:=h.kept p (by simp[hp]);exact⟨(hb.block p.1 (aH r1) (fun e=>hne (baA e))).trans r1,fun hd=>r2 ((DagB.congr hg).1 hd),r3⟩
end
abbrev numO(g k:Nat):Obj:=.cells #[.pointer (some ⟨g,0,none⟩),.int .i64 (k:Int)] 27
abbrev fT(g i j:Nat):Obj:=.cells #[.pointer (some ⟨g,0,none⟩),.int .i64 (i:Int),.pointer (some ⟨g,0,none⟩),.int .i64 (j:Int)] 43
theorem aiE{P:Ex->Prop}{B N:Nat}{w:World}{g i j b:Nat}{ns:List Nd}{x y:Ex}(hs:St P B N w g ns)(hN:N<20000)(hx:Is ns x i)(hy:Is ns y j)(hb:w.heap[b]? =some (numO g j))(hP:P (.mul x y)):
 Calls Tryz.prog 20 #[numV g i,.slice (some ⟨b,0,none⟩) 1 1] w (RetE P B (N+1) w g ns (numV g) (.mul x y)):=by
 have:=akM (l:=[j]) (es:=[y]) hs (uP hb) rfl (by simp) hx (fun m z e h1 h2=>by
  cases m with
  |zero=>simp at h1 h2;subst h1;subst h2;exact hy
  |succ m=>simp at h1) (fun m hm=>by
  have:m=0:=by simp at hm;omega
  subst this;exact hP) (by simp;omega)
 exact this
theorem aiF{P:Ex->Prop}{B N:Nat}{w:World}{g i j b:Nat}{ns:List Nd}{x y:Ex}(hs:St P B N w g ns)(hN:N<20000)(hx:Is ns x i)(hy:Is ns y j)(hb:w.heap[b]? =some (numO g j))(hP:P (.add x y)):
 Calls Tryz.prog 19 #[numV g i,.slice (some ⟨b,0,none⟩) 1 1] w (RetE P B (N+1) w g ns (numV g) (.add x y)):=by
 have:=akL (l:=[j]) (es:=[y]) hs (uP hb) rfl (by simp) hx (fun m z e h1 h2=>by
  cases m with
  |zero=>simp at h1 h2;subst h1;subst h2;exact hy
  |succ m=>simp at h1) (fun m hm=>by
  have:m=0:=by simp at hm;omega
  subst this;exact hP) (by simp;omega)
 exact this
section
variable{P:Ex->Prop}{B N M:Nat}{w W W':World}{g i j b v:Nat}{ns ns' ns'':List Nd}{l:List (Nat×Obj)}{x y:Ex}
end
abbrev PT:Ex->Prop:=fun _=>True
section
variable{α:Type}{a:α}{l:List α}
theorem m0:a∈a::l:=.head _
theorem m1{b0:α}:a∈b0::a::l:=.tail _ m0
theorem m2{b0 b1:α}:a∈b0::b1::a::l:=.tail _ m1
theorem m3{b0 b1 b2:α}:a∈b0::b1::b2::a::l:=.tail _ m2
theorem m4{b0 b1 b2 b3:α}:a∈b0::b1::b2::b3::a::l:=.tail _ m3
theorem m5{b0 b1 b2 b3 b4:α}:a∈b0::b1::b2::b3::b4::a::l:=.tail _ m4
theorem m6{b0 b1 b2 b3 b4 b5:α}:a∈b0::b1::b2::b3::b4::b5::a::l:=.tail _ m5
theorem m7{b0 b1 b2 b3 b4 b5 b6:α}:a∈b0::b1::b2::b3::b4::b5::b6::a::l:=.tail _ m6
theorem m8{b0 b1 b2 b3 b4 b5 b6 b7:α}:a∈b0::b1::b2::b3::b4::b5::b6::b7::a::l:=.tail _ m7
end
structure Bs where
 w:World
 B:Nat
 ns:List Nd
abbrev bs(w:World):Bs:=⟨w,w.heap.size,[]⟩
def Run(s:Bs)(g N:Nat)(K:List (Ex×Nat))(l:List (Nat×Obj))(W:World):Prop:=∃ns',Stg PT s.B N s.w g s.ns W ns' l/\∀p∈K,Is ns' p.1 p.2
section
variable{s:Bs}{w0 w1 W W':World}{g N M:Nat}{K:List (Ex×Nat)}{l l':List (Nat×Obj)}
theorem Run.start (hb1:Below w0.heap.size w0 w1)(hk:∀p∈l,w1.heap[p.1]? =some p.2/\w0.heap.size<=p.1)(hn:(l.map (·.1)).Nodup)(htb:0<w0.heap.size)
 (hs:St PT w1.heap.size 0 W g []) (hb:Below w1.heap.size w1 W):Run (bs w0) g 0 [] l W:=by
 have hz:=hb1.size;have hst:St PT w0.heap.size 0 W g []:=⟨hs.dag,hs.all,fun b h=>baB hz (hs.hi b h),hs.tab,htb,baB hz hs.hB,hs.room⟩;refine⟨[],⟨⟨hst,baG,Fr.of_below (hb1.trans (hb.mono hz)),fun b hlt _ hd=>absurd hlt (baN.2 (hst.hi _ hd))⟩,fun p hp=> ?_,Nat.le_refl _,hn⟩,fun p hp=>by cases hp⟩;obtain⟨h1,h2⟩:=hk p hp;have hlt:=aH h1;exact⟨aF h1 hb hlt,fun hd=>by have:=hs.hi _ hd;omega,h2⟩
theorem Run.enter {B:Nat}{ns:List Nd}(hs:St PT B N W g ns)(hK:∀p∈K,Is ns p.1 p.2):Run ⟨W,B,ns⟩ g N K [] W:=⟨ns,Stg.start hs,hK⟩
theorem Run.below (h:Run (bs w0) g N K l W):Below w0.heap.size w0 W:=by
 obtain⟨ns',hs,-⟩:=h;refine hs.grew.2.2.below nlr fun b hb=> ?_;rcases hb with rfl|⟨v,mb,T,e,-⟩
 . exact hs.st.hi _ (Or.inl rfl)
 . exact absurd (aH e) (baN.2 (hs.st.hi _ (Or.inl rfl)))
theorem Run.ans {B:Nat}{ns:List Nd}{w:World}{v:Value}(h:Run ⟨w,B,ns⟩ g N K l W):RetQ PT B N w g ns v (.returned v) W:=by
 obtain⟨ns',hs,hK⟩:=h;exact⟨rfl,ns',hs.st,hs.pre,hs.grew.2.2⟩
theorem Run.kept (h:Run s g N K l W):∀p∈l,W.heap[p.1]? =some p.2:=fun p hp=>by obtain⟨ns',hs,-⟩:=h;exact(hs.kept p hp).1
theorem Run.nodup (h:Run s g N K l W):(l.map (·.1)).Nodup:=by obtain⟨ns',hs,-⟩:=h;exact hs.nodup
theorem Run.at (h:Run s g N K l W){b:Nat}(hp:(b,o)∈l):W.heap[b]? =some o:=h.kept _ hp
theorem Run.step (h:Run s g N K l W)(hb:Below W.heap.size W W'):Run s g N K l W':=by obtain⟨ns',hs,hK⟩:=h;exact⟨ns',hs.below hb,hK⟩
theorem Run.more (h:Run s g N K l W)(hM:N<=M):Run s g M K l W:=by obtain⟨ns',hs,hK⟩:=h;exact⟨ns',hs.more hM,hK⟩
theorem Run.drew (h:Run s g N K l W):Run s g N K l W.drew:=h.step (Below.refl _ _).drew
theorem Run.alloc (h:Run s g N K l W)(o:Obj):Run s g N K ((W.heap.size,o)::l) (W.alloc o):=by obtain⟨ns',hs,hK⟩:=h;exact⟨ns',hs.alloc o,hK⟩
theorem Run.sub (h:Run s g N K l W)(hl:∀p∈l',p∈l)(hn:(l'.map (·.1)).Nodup):Run s g N K l' W:=by obtain⟨ns',hs,hK⟩:=h;exact⟨ns',⟨hs.grew,fun p hp=>hs.kept p (hl p hp),hs.hw,hn⟩,hK⟩
theorem Run.few (h:Run s g N K l W){K':List (Ex×Nat)}(hs:∀p∈K',p∈K):Run s g N K' l W:=by obtain⟨ns',h1,hK⟩:=h;exact⟨ns',h1,fun p hp=>hK p (hs p hp)⟩
theorem Run.write {b:Nat}(h:Run s g N K ((b,o)::l) W)(hb:W.grownBy W' (some b))(ho:W'.heap[b]? =some o'):Run s g N K ((b,o')::l) W':=by obtain⟨ns',hs,hK⟩:=h;exact⟨ns',hs.write hb ho,hK⟩
end
def RtR(s:Bs)(g N:Nat)(K:List (Ex×Nat))(l:List (Nat×Obj))(x:Ex)(e:Ending)(W':World):Prop:=∃k,e=.returned (numV g k)/\Run s g N ((x,k)::K) l W'
def RtP(s:Bs)(g N:Nat)(K:List (Ex×Nat))(l:List (Nat×Obj))(x y:Ex)(e:Ending)(W':World):Prop:=∃i j,e=.returned (dE g i j)/\Run s g N ((x,i)::(y,j)::K) l W'
def RtA(s:Bs)(g N:Nat)(K:List (Ex×Nat))(l:List (Nat×Obj))(v:Value)(e:Ending)(W':World):Prop:=e=.returned v/\Run s g N K l W'
section
variable{s:Bs}{W W':World}{g N M:Nat}{K:List (Ex×Nat)}{l:List (Nat×Obj)}{x y:Ex}{ns:List Nd}
theorem uQ{ns':List Nd}{N:Nat}{W:World}(h:Stg PT s.B N s.w g s.ns W ns' l)(hK:∀p∈K,Is ns' p.1 p.2){k:Nat}(hx:Is ns' x k):∀p∈(x,k)::K,Is ns' p.1 p.2:=fun p hp=>by
 rcases baF.1 hp with rfl|hp
 . exact hx
 . exact hK p hp
theorem o8{P:Nat->Value}(h:Stg PT s.B N s.w g s.ns W ns l)(hK:∀p∈K,Is ns p.1 p.2){e:Ending}(hr:RetE PT s.B M W g ns P x e W'):∃k,e=.returned (P k)/\Run s g M ((x,k)::K) l W':=by
 obtain⟨k,ns',e1,h1,h2,h3,h4⟩:=hr;exact⟨k,e1,ns',h.step h1 h2 h4,uQ (h.step h1 h2 h4) (fun p hp=>(hK p hp).mono h2) h3⟩
theorem uR(h:Stg PT s.B N s.w g s.ns W ns l)(hK:∀p∈K,Is ns p.1 p.2){v:Value}{e:Ending}(hr:RetQ PT s.B M W g ns v e W'):RtA s g M K l v e W':=by
 obtain⟨e1,ns',h1,h2,h3⟩:=hr;exact⟨e1,ns',h.step h1 h2 h3,fun p hp=>(hK p hp).mono h2⟩
theorem aiG(h:Stg PT s.B N s.w g s.ns W ns l)(hK:∀p∈K,Is ns p.1 p.2){e:Ending}(hr:aiD PT s.B M W g ns x y e W'):RtP s g M K l x y e W':=by
 obtain⟨i,j,ns',e1,h1,h2,h3,h4,h5⟩:=hr;exact⟨i,j,e1,ns',h.step h1 h2 h5,uQ (h.step h1 h2 h5) (uQ (h.step h1 h2 h5) (fun p hp=>(hK p hp).mono h2) h4) h3⟩
end
section
variable{s:Bs}{W:World}{g N i j k m b v:Nat}{K:List (Ex×Nat)}{l:List (Nat×Obj)}{x y:Ex}{q:Int}
theorem Run.of (h:Run s g N K l W)(hN:N<20000)(hv:v<18446744073709551616)(hf:fin v):Calls Tryz.prog 17 #[.pointer (some ⟨g,0,none⟩),.float .f64 v] W (RtR s g (N+1) K l (.leaf v)):=by
 obtain⟨ns,hs,hK⟩:=h;exact(acD hs.st hN hv hf trivial).mono fun _ _ hr=>o8 hs hK hr
theorem Run.sub2 (h:Run s g N K l W)(hN:N<20000)(hx:(x,i)∈K)(hy:(y,j)∈K):Calls Tryz.prog 47 #[numV g i,numV g j] W (RtR s g (N+1) K l (.sub x y)):=by
 obtain⟨ns,hs,hK⟩:=h;exact(adG hs.st hN (hK _ hx) (hK _ hy) trivial).mono fun _ _ hr=>o8 hs hK hr
theorem Run.mul2 (h:Run s g N K l W)(hN:N<20000)(hx:(x,i)∈K)(hy:(y,j)∈K)(hb:W.heap[b]? =some (numO g j)):Calls Tryz.prog 20 #[numV g i,.slice (some ⟨b,0,none⟩) 1 1] W (RtR s g (N+1) K l (.mul x y)):=by
 obtain⟨ns,hs,hK⟩:=h;exact(aiE hs.st hN (hK _ hx) (hK _ hy) hb trivial).mono fun _ _ hr=>o8 hs hK hr
theorem Run.add2 (h:Run s g N K l W)(hN:N<20000)(hx:(x,i)∈K)(hy:(y,j)∈K)(hb:W.heap[b]? =some (numO g j)):Calls Tryz.prog 19 #[numV g i,.slice (some ⟨b,0,none⟩) 1 1] W (RtR s g (N+1) K l (.add x y)):=by
 obtain⟨ns,hs,hK⟩:=h;exact(aiF hs.st hN (hK _ hx) (hK _ hy) hb trivial).mono fun _ _ hr=>o8 hs hK hr
theorem Run.sign (h:Run s g N K l W)(hx:(x,i)∈K)(hS:gY PT x q):Calls Tryz.prog 48 #[numV g i] W (RtA s g N K l (.tuple #[.int .i64 q,.nilIface])):=by
 obtain⟨ns,hs,hK⟩:=h;exact(aaK hs.st (hK _ hx) hS).mono fun _ _ hr=>⟨hr.1,ns,hs.below hr.2,hK⟩
theorem Run.spot (h:Run s g N K l W)(hN:N+1<20000)(hv:v<18446744073709551616)(hu:u<18446744073709551616)(fv:fin v)(fu:fin u):Calls Tryz.prog 24 #[.pointer (some ⟨g,0,none⟩),.float .f64 v,.float .f64 u] W (RtP s g (N+2) K l (.leaf v) (.leaf u)):=by
 obtain⟨ns,hs,hK⟩:=h;exact(akN hs.st hN hv hu fv fu trivial trivial).mono fun _ _ hr=>aiG hs hK hr
variable{px py qx qy rx ry:Ex}{i' j' k':Nat}
theorem Run.cmpS (h:Run s g N K l W)(hN:N+1<20000)(h1:(px,i)∈K)(h2:(py,i')∈K)(h3:(qx,j)∈K)(h4:(qy,j')∈K)(hc:gL PT px py qx qy q):Calls Tryz.prog 91 #[dE g i i',dE g j j'] W (RtA s g (N+2) K l (.tuple #[.int .i64 q,.nilIface])):=by
 obtain⟨ns,hs,hK⟩:=h;exact(aaL hs.st hN (hK _ h1) (hK _ h2) (hK _ h3) (hK _ h4) hc).mono fun _ _ hr=>uR hs hK hr
theorem Run.same (h:Run s g N K l W)(hN:N+1<20000)(h1:(px,i)∈K)(h2:(py,i')∈K)(h3:(qx,j)∈K)(h4:(qy,j')∈K)(hc:gL PT px py qx qy q):Calls Tryz.prog 43 #[dE g i i',dE g j j'] W (RtA s g (N+2) K l (.tuple #[.bool (q==0),.nilIface])):=by
 obtain⟨ns,hs,hK⟩:=h;exact(ae3 hs.st hN (hK _ h1) (hK _ h2) (hK _ h3) (hK _ h4) hc).mono fun _ _ hr=>uR hs hK hr
end
theorem adI{w0 w1:World}{l:List (Nat×Obj)}(hb1:Below w0.heap.size w0 w1)(hk:∀p∈l,w1.heap[p.1]? =some p.2/\w0.heap.size<=p.1)(hn:(l.map (·.1)).Nodup)(hT:Tab w0)(htb:0<w0.heap.size):
 Calls Tryz.prog 16 #[.bool true] w1 (fun e W=>∃g,e=.returned (.pointer (some ⟨g,0,none⟩))/\Run (bs w0) g 0 [] l W):=by
 refine(akI (P:=PT) (hT.below hb1) (baJ htb hb1.size) nlr).mono ?_;rintro e W⟨g,rfl,hs,hb,-⟩;exact⟨g,rfl,Run.start hb1 hk hn htb hs hb⟩
def runW(s:Bs)(g:Nat):Wk Ex where
 G:=fun c K l w=>Run s g c K l w
 weak:=fun h hc hK hl hn=>((h.more hc).few hK).sub hl hn
 heap:=fun h p hp=>h.kept p hp
 alloc:=fun h o=>h.alloc o
 write:=fun h hg ho=>h.write hg ho
 drew:=fun h=>h.drew
abbrev numS(g n:Nat):SV:=.w (.agg [.v (.pointer (some ⟨g,0,none⟩)),.id n])
abbrev cB(g m n:Nat):SV:=.w (.agg [.v (.pointer (some ⟨g,0,none⟩)),.id m,.v (.pointer (some ⟨g,0,none⟩)),.id n])
abbrev noS:SV:=.w (.c (.v undef))
abbrev numC(g n:Nat):List SC:=[.v (.pointer (some ⟨g,0,none⟩)),.id n]
abbrev aW(g m n:Nat):List SC:=[.v (.pointer (some ⟨g,0,none⟩)),.id m,.v (.pointer (some ⟨g,0,none⟩)),.id n]
abbrev valS(v:Value):SV:=.w (.c (.v v))
abbrev ansS(v:Value):SV:=.tup [.c (.v v),.c (.v .nilIface)]
section
variable{S:Spec Ex}{w0:Bs}{g c0:Nat}{a0:Act}{ν0:Nat->Nat}{i:Nat}{Q:Exit->Act->World->Prop}
def Spec.made (S:Spec Ex)(i:Nat):List (Nat×Ex):=S.know.filter fun p=>S.cr p.1==some i
theorem o9{p:Ex×Nat}(h:p∈S.newK i ν):∃q∈S.made i,p=(q.2,ν q.1):=by
 obtain⟨q,h1,h2⟩:=List.mem_filterMap.1 h
 split at h2
 . rename_i hc
   exact⟨q,List.mem_filter.2 ⟨h1,by simp[hc]⟩,(baA h2).symm⟩
 . cases h2
theorem ret1{k t:Nat}{x:Ex}{l:List (Nat×Obj)}{w':World}(ht:S.cr t=some i)(hk:S.made i=[(t,x)])(hR:Run w0 g c ((x,k)::S.K lst ν) l w'):
 ∃ν',(∀n,S.cr n≠some i->ν' n=ν n)/\ν' t=k/\Run w0 g c (S.newK i ν'++S.K lst ν) l w':=by
 refine⟨fun n=>if n=t then k else ν n,fun n hn=>if_neg fun e=>hn (by rw[e];exact ht),if_pos rfl,hR.few fun p hp=> ?_⟩;rcases baH.1 hp with h|h
 . obtain⟨q,h1,rfl⟩:=o9 h
   rw[hk]at h1;rw[baK.1 h1];simp
 . exact baC _ h
theorem ret2{k k' t t':Nat}{x y:Ex}{l:List (Nat×Obj)}{w':World}(ht:S.cr t=some i)(ht':S.cr t'=some i)(hne:t'≠t)(hk:S.made i=[(t,x),(t',y)])(hR:Run w0 g c ((x,k)::(y,k')::S.K lst ν) l w'):
 ∃ν',(∀n,S.cr n≠some i->ν' n=ν n)/\ν' t=k/\ν' t'=k'/\Run w0 g c (S.newK i ν'++S.K lst ν) l w':=by
 refine⟨fun n=>if n=t then k else if n=t' then k' else ν n,fun n hn=> ?_,if_pos rfl,?_,hR.few fun p hp=> ?_⟩
 . show(if n=t then k else if n=t' then k' else ν n)=ν n
   rw[if_neg (fun e=>hn (by rw[e];exact ht)),if_neg (fun e=>hn (by rw[e];exact ht'))]
 . show(if t'=t then k else if t'=t' then k' else ν t')=k'
   rw[if_neg hne,if_pos rfl]
 . rcases baH.1 hp with h|h
   . obtain⟨q,h1,rfl⟩:=o9 h
     rw[hk]at h1;rcases baF.1 h1 with rfl|h1
     . simp
     . rw[baK.1 h1]
       simp[hne]
   . exact baC _ (baC _ h)
theorem ret0{l:List (Nat×Obj)}{w':World}(hk:S.made i=[])(hR:Run w0 g c (S.K lst ν) l w'):Run w0 g c (S.newK i ν++S.K lst ν) l w':=
 hR.few fun p hp=>by
  rcases baH.1 hp with h|h
  . obtain⟨q,h1,-⟩:=o9 h
    rw[hk]at h1;cases h1
  . exact h
abbrev gZ(S:Spec Ex)(w0:Bs)(g c0 i:Nat)(f:FuncId)(args:(Nat->Nat)->Array Value):Prop:=
 ∀(lst:Nat->Bool) (ν:Nat->Nat) (c:Nat) (w:World),(∀d∈S.D i,lst d=true)->c+S.cost i<=c0+S.total->(runW w0 g).G c (S.K lst ν) (S.L lst ν) w->
    Calls Tryz.prog f (args ν) w (fun e w'=>∃ν',(∀n,S.cr n≠some i->ν' n=ν n)/\e=.returned ((S.val i).den ν')/\(runW w0 g).G (c+S.cost i) (S.newK i ν'++S.K lst ν) (S.L lst ν) w')
theorem adJ{n:Nat}{w:World}{B:Blk}(hB:B∈S.blocks)(pB:S.pre i B.b=true)(hI:B.init=[.v (.pointer (some ⟨g,0,none⟩)),.id n])(hT:B.T=27)(hst:B.st=none)(hD:∀d∈S.D i,lst d=true)
 (h:Run w0 g c (S.K lst ν) (S.L lst ν) w):w.heap[ν B.b]? =some (numO g (ν n)):=by
 have:=h.at (uG (S:=S) (ν:=ν) hB (pre_on pB hD));rw[this];unfold Blk.obj Blk.cont;rw[hst,hI,hT];rfl
variable(hM:c0+S.total<=20000){m n m' n' m2 n2 t t':Nat}{x y x' y' x2 y2:Ex}{q:Int}
include hM
theorem pE{f:FuncId}{args:(Nat->Nat)->Array Value}(hc:S.cost i=d+1)(hv:S.val i=numS g t)(ht:S.cr t=some i)(hk:S.made i=[(t,x)])
 (h:∀(lst:Nat->Bool) (ν:Nat->Nat) (c:Nat) (w:World),(∀d∈S.D i,lst d=true)->c+d<20000->Run w0 g c (S.K lst ν) (S.L lst ν) w->Calls Tryz.prog f (args ν) w (RtR w0 g (c+(d+1)) (S.K lst ν) (S.L lst ν) x)):gZ S w0 g c0 i f args:=by
 intro lst ν c w hD hl hG;refine(h lst ν c w hD (by omega) hG).mono ?_;rintro e w'⟨k,rfl,hR⟩;obtain⟨ν',h1,h2,h3⟩:=ret1 ht hk hR;refine⟨ν',h1,?_,by rw[hc];exact h3⟩;rw[hv];show _=Ending.returned (numV g (ν' t));rw[h2]
theorem ae4{f:FuncId}{args:(Nat->Nat)->Array Value}(hc:S.cost i=d+1)(hv:S.val i=cB g t t')(ht:S.cr t=some i)(ht':S.cr t'=some i)(hne:t'≠t)(hk:S.made i=[(t,x),(t',y)])
 (h:∀(lst:Nat->Bool) (ν:Nat->Nat) (c:Nat) (w:World),(∀d∈S.D i,lst d=true)->c+d<20000->Run w0 g c (S.K lst ν) (S.L lst ν) w->Calls Tryz.prog f (args ν) w (RtP w0 g (c+(d+1)) (S.K lst ν) (S.L lst ν) x y)):gZ S w0 g c0 i f args:=by
 intro lst ν c w hD hl hG;refine(h lst ν c w hD (by omega) hG).mono ?_;rintro e w'⟨k,k',rfl,hR⟩;obtain⟨ν',h1,h2,h2',h3⟩:=ret2 ht ht' hne hk hR;refine⟨ν',h1,?_,by rw[hc];exact h3⟩;rw[hv];show _=Ending.returned (dE g (ν' t) (ν' t'));rw[h2,h2']
theorem mD{f:FuncId}{args:(Nat->Nat)->Array Value}{v:Value}(hc:S.cost i=d)(hv:∀ν,(S.val i).den ν=v)(hk:S.made i=[])
 (h:∀(lst:Nat->Bool) (ν:Nat->Nat) (c:Nat) (w:World),(∀d∈S.D i,lst d=true)->c+d<=20000->Run w0 g c (S.K lst ν) (S.L lst ν) w->Calls Tryz.prog f (args ν) w (RtA w0 g (c+d) (S.K lst ν) (S.L lst ν) v)):gZ S w0 g c0 i f args:=by
 intro lst ν c w hD hl hG;refine(h lst ν c w hD (by omega) hG).mono ?_;rintro e w'⟨rfl,hR⟩;exact⟨ν,fun _ _=>rfl,by rw[hv],by rw[hc];exact ret0 hk hR⟩
section
variable(hx:(m,x)∈S.know)(hy:(n,y)∈S.know)(px:S.pre i m=true)(py:S.pre i n=true)
include hx px
theorem aiH(hc:S.cost i=0)(hv:S.val i=ansS (.int .i64 q))(hk:S.made i=[])(hS:gY PT x q):gZ S w0 g c0 i 48 (fun ν=>#[numV g (ν m)]):=
 mD hM (d:=0) hc (fun ν=>by rw[hv];rfl) hk fun lst ν c w hD hl h=>h.sign (fG hx (pre_on px hD)) hS
include hy py
theorem qW(hc:S.cost i=1)(hv:S.val i=numS g t)(ht:S.cr t=some i)(hk:S.made i=[(t,.sub x y)]):gZ S w0 g c0 i 47 (fun ν=>#[numV g (ν m),numV g (ν n)]):=
 pE hM (d:=0) hc hv ht hk fun lst ν c w hD hl h=>h.sub2 hl (fG hx (pre_on px hD)) (fG hy (pre_on py hD))
theorem adK{B:Blk}(hB:B∈S.blocks)(pB:S.pre i B.b=true)(hI:B.init=[.v (.pointer (some ⟨g,0,none⟩)),.id n])(hT:B.T=27)(hst:B.st=none)(hc:S.cost i=1)(hv:S.val i=numS g t)(ht:S.cr t=some i)(hk:S.made i=[(t,.mul x y)]):
 gZ S w0 g c0 i 20 (fun ν=>#[numV g (ν m),.slice (some ⟨ν B.b,0,none⟩) 1 1]):=
 pE hM (d:=0) hc hv ht hk fun lst ν c w hD hl h=>h.mul2 hl (fG hx (pre_on px hD)) (fG hy (pre_on py hD)) (adJ hB pB hI hT hst hD h)
theorem am2{B:Blk}(hB:B∈S.blocks)(pB:S.pre i B.b=true)(hI:B.init=[.v (.pointer (some ⟨g,0,none⟩)),.id n])(hT:B.T=27)(hst:B.st=none)(hc:S.cost i=1)(hv:S.val i=numS g t)(ht:S.cr t=some i)(hk:S.made i=[(t,.add x y)]):
 gZ S w0 g c0 i 19 (fun ν=>#[numV g (ν m),.slice (some ⟨ν B.b,0,none⟩) 1 1]):=
 pE hM (d:=0) hc hv ht hk fun lst ν c w hD hl h=>h.add2 hl (fG hx (pre_on px hD)) (fG hy (pre_on py hD)) (adJ hB pB hI hT hst hD h)
section
variable(hx':(m',x')∈S.know)(hy':(n',y')∈S.know)(px':S.pre i m'=true)(py':S.pre i n'=true)
include hx' hy' px' py'
theorem acE(hc:S.cost i=2)(hv:S.val i=ansS (.int .i64 q))(hk:S.made i=[])(hS:gL PT x y x' y' q):gZ S w0 g c0 i 91 (fun ν=>#[dE g (ν m) (ν n),dE g (ν m') (ν n')]):=
 mD hM (d:=2) hc (fun ν=>by rw[hv];rfl) hk fun lst ν c w hD hl h=>h.cmpS (by omega) (fG hx (pre_on px hD)) (fG hy (pre_on py hD)) (fG hx' (pre_on px' hD)) (fG hy' (pre_on py' hD)) hS
theorem acF(hc:S.cost i=2)(hv:S.val i=ansS (.bool (q==0)))(hk:S.made i=[])(hS:gL PT x y x' y' q):gZ S w0 g c0 i 43 (fun ν=>#[dE g (ν m) (ν n),dE g (ν m') (ν n')]):=
 mD hM (d:=2) hc (fun ν=>by rw[hv];rfl) hk fun lst ν c w hD hl h=>h.same (by omega) (fG hx (pre_on px hD)) (fG hy (pre_on py hD)) (fG hx' (pre_on px' hD)) (fG hy' (pre_on py' hD)) hS
end
end
theorem c_of{v:Nat}(hv1:v<18446744073709551616)(hf:fin v)(hc:S.cost i=1)(hv:S.val i=numS g t)(ht:S.cr t=some i)(hk:S.made i=[(t,.leaf v)]):gZ S w0 g c0 i 17 (fun _=>#[.pointer (some ⟨g,0,none⟩),.float .f64 v]):=
 pE hM (d:=0) hc hv ht hk fun lst ν c w hD hl h=>h.of hl hv1 hf
theorem c_at{v:Nat}(hv1:v<18446744073709551616)(hu1:u<18446744073709551616)(hf:fin v)(hu:fin u)(hc:S.cost i=2)(hv:S.val i=cB g t t')(ht:S.cr t=some i)(ht':S.cr t'=some i)(hne:t'≠t)(hk:S.made i=[(t,.leaf v),(t',.leaf u)]):
 gZ S w0 g c0 i 24 (fun _=>#[.pointer (some ⟨g,0,none⟩),.float .f64 v,.float .f64 u]):=
 ae4 hM (d:=1) hc hv ht ht' hne hk fun lst ν c w hD hl h=>h.spot hl hv1 hu1 hf hu
theorem amJ{f:FuncId}{args:Array Value}{v:Value}(hc:S.cost i=0)(hv:S.val i=valS v)(hk:S.made i=[])(h:∀w,Calls Tryz.prog f args w (RetV w v)):gZ S w0 g c0 i f (fun _=>args):=
 mD hM (d:=0) hc (fun ν=>by rw[hv];rfl) hk fun lst ν c w hD hl hR=>(h w).mono fun _ _ hr=>⟨hr.1,hR.step hr.2⟩
end
end Go.Proofs.YtebdolonckjpiaaGreatDoor
