/- A part of the proof: contracts of functions and plain laws (RlD, RlE, RlF, SpA, Stg, RunA, SymM). -/
import Derived.Test.YtaojpfcboainmaaGreatDoorK15
import Derived.Test.YtaojpfcboainmaaGreatDoorK01
import Derived.Test.YtaojpfcboainmaaGreatDoorK12
import Derived.Test.YtaojpfcboainmaaGreatDoorK07
set_option linter.unusedVariables false
set_option linter.unusedSimpArgs false
set_option maxHeartbeats 25600000
set_option maxRecDepth 100000
namespace Go.Proofs.YtaojpfcboainmaaGreatDoor
open Go.RowKit Go.Maps
open List renaming prefix_rfl->baP,getElem?_of_mem->baQ,mem_cons->baS,nodup_cons->baT,mem_map->baU
open Nat renaming le_trans->baO,lt_of_lt_of_le->baR,not_lt->baV
open Option.some renaming inj->baN
variable{e0:Ex}{o o':Obj}
theorem vT{w:World}{g j b:Nat}{T:TypeId}(h:w.heap[b]? =some (.cells #[.pointer (some ⟨g,0,none⟩),.int .i64 (j:Int)] T (0,0))):NumsP w (.slice (some ⟨b,0,none⟩) 1 1) g [j]:=by
 obtain⟨c0,c1,-,-⟩:=aF h;refine⟨b,1,rfl,by simp,fun i x hx=> ?_⟩
 cases i with
 |zero=>simp at hx;subst hx;exact⟨c0,c1⟩
 |succ i=>simp at hx
theorem aeT{P:Ex->Prop}{B N:Nat}{w:World}{g i j:Nat}{ns:List Nd}{a b:Ex}(hs:St P B N w g ns)(hN:N<20000)(ha:Is ns a i)(hb:Is ns b j)(hP:P (.sub a b)):
 Calls Tryz.prog 62 #[numV g i,numV g j] w (RetE P B (N+1) w g ns (numV g) (.sub a b)):=by
 obtain⟨w3,hw3,hb3,hs3,b1,b2,b3⟩:=pro3 w (.cells #[.pointer (some ⟨g,0,none⟩),.int .i64 (i:Int)] 35) (.cells #[.pointer (some ⟨g,0,none⟩),.int .i64 (j:Int)] 35) (.cells #[.pointer none,.int .i64 0] 35);obtain⟨w4,hw4,hb4,hs4,b4⟩:=pro1 w3 (.cells #[.pointer (some ⟨g,0,none⟩),.int .i64 (j:Int)] 35);have h34:=aC hb3 hb4;have HG:=hdd (vS (hs.dag.below h34) ha.lt (vT b4) (fun x hx=>by simp at hx;subst hx;exact hb.lt));have HOP:Hid (∀w',Below w.heap.size w w'->Calls Tryz.prog 84 #[.pointer (some ⟨g,0,none⟩),.int .i64 (i:Int),.int .i64 (j:Int)] w' (RetE P B (N+1) w' g ns idV (.sub a b))):=hdd fun w' h=>amJ (hs.below h) hN ha hb hP;have HAW:Hid (∀w' (c:Nat),Below w.heap.size w w'->w.heap.size<=c->¬DagB w' g c):=hdd fun w' c h=>hs.away h;have HGL:=hdd hs.dag.glt;have HBL:=hdd hs.hB;obtain⟨c0,c1,-,-⟩:=aF b1;obtain⟨d0,d1,-,-⟩:=aF b2;have HB4:=hdd h34;have B3:=hdd (hbl b3 hb4);have HSZ:Hid (w.heap.size+2<w4.heap.size):=hdd (by omega);have e0:=cbl c0 hb4;have e1:=cbl c1 hb4
 have e2:=cbl d0 hb4;have e3:=cbl d1 hb4;clear hs hN ha hb hP hb3 hb4 h34 b1 b2 b3 b4 hs3 hs4;go_enter Tryz.func62,Tryz.ntmps62
 go_wp2_with fail
 refine HG.out.mono ?_;rintro e w5⟨rfl,hb5⟩;have hb5d:Below w4.heap.size w4 w5.drew:=aC hb5 (Below.refl _ _).drew;replace e0:=cbl e0 hb5d;replace e1:=cbl e1 hb5d;replace e2:=cbl e2 hb5d;replace e3:=cbl e3 hb5d;have HB5:=hdd (aC HB4.out hb5d);have B5:=hdd (hbl B3.out hb5d);have HSZ5:Hid (w.heap.size+2<w5.drew.heap.size):=hdd (by have:=hb5d.size;have:=HSZ.out;omega);clear hb5 hb5d c0 c1 d0 d1 hw3 hw4;have n1:w.heap.size+1+1≠w.heap.size:=by omega
 have n2:w.heap.size≠w.heap.size+1+1:=by omega
 go_wp2_with fail
 go_region_held3 (fun w'=>w'.cell? ⟨w.heap.size,0,none⟩=some (.pointer (some ⟨g,0,none⟩))/\w'.cell? ⟨w.heap.size,1,none⟩=some (.int .i64 (i:Int))/\w'.cell? ⟨w.heap.size+1,1,none⟩=some (.int .i64 (j:Int))) (go_keep)
  (first
  |(go_at_call 84
    refine(HOP.out _ HB5.out).mono ?_;rintro e w6⟨k,ns',rfl,h1,h2,h3,h4⟩;have e0:=h4.cell e0 (HAW.out _ _ HB5.out (by simp));have e1:=h4.cell e1 (HAW.out _ _ HB5.out (by simp));have e3:=h4.cell e3 (HAW.out _ _ HB5.out (by simp));have B6:=(h4.heap (b:=w.heap.size+2) HSZ5.out (HAW.out _ _ HB5.out (by omega))).trans B5.out;obtain⟨r0,r1,f0,f1⟩:=aF B6;have HF:Hid (FoldSt P B (N+1) w g ns (.sub a b) k ((w6.setCell ⟨w.heap.size+2,0,none⟩ (.pointer (some ⟨g,0,none⟩))).setCell ⟨w.heap.size+2,1,none⟩ (.int .i64 (k:Int)))):=
     hdd (FoldSt.set2 (w0:=w) ⟨ns',h1,h2,h3,h4⟩ (Or.inr trivial) HGL.out HB5.out (by omega) (HAW.out _ _ HB5.out (by omega)) HSZ5.out (by have:=HBL.out;omega) _ _)
    have HX:=hdd (set2 B6 (.pointer (some ⟨g,0,none⟩)) (.int .i64 (k:Int)));clear h1 h2 h3 h4 B6))
 go_wp2;obtain⟨x0,x1,-,-⟩:=aF HX.out;refine bodyPost_ret (v:=.agg #[_,_]) (by simp[results,Tryz.results62,go_sem,x0,x1];first|exact⟨rfl,rfl⟩|rfl) rfl ?_;exact HF.out.ret (numV g)
theorem amN{P:Ex->Prop}{B N:Nat}{w:World}{g i:Nat}{ns:List Nd}{v:Value}{l:List Nat}{es:List Ex}(hs:St P B N w g ns)(hl:NumsP w v g l)(hlen:l.length=es.length)(h0:0<l.length)
 (he0:Is ns e0 i) (hes:∀(m x:Nat) e,l[m]? =some x->es[m]? =some e->Is ns e x) (hP:∀m,m<es.length->P (gL 1 e0 (es.take (m+1)))) (hN:N+l.length<=20000):
 Calls Tryz.prog 63 #[numV g i,v] w (RetE P B (N+l.length) w g ns (numV g) (gL 1 e0 es)):=by
 obtain⟨w2,hw2,hb2,hs2,b1,b2⟩:=pro2 w (.cells #[.pointer (some ⟨g,0,none⟩),.int .i64 (i:Int)] 35) (.cells #[.pointer none,.int .i64 0] 35);have hll:∀x∈l,x<ns.length:=fun x hx=>by
  obtain⟨m,hm⟩:=baQ hx;have hml:=(List.getElem?_eq_some_iff.1 hm).1;exact(hes m x es[m] hm (List.getElem?_eq_getElem (by omega))).lt
 have HG:=hdd (vS (hs.dag.below hb2) he0.lt (hl.below hb2) hll);have HIDS:Hid (∀w',Below w.heap.size w w'->Calls Tryz.prog 86 #[.agg #[.pointer (some ⟨g,0,none⟩),.int .i64 (i:Int)],v] w' (zX w' (i::l))):=hdd fun w' h=>aeS (hl.below h);have HAW:Hid (∀w' (c:Nat),Below w.heap.size w w'->w.heap.size<=c->¬DagB w' g c):=hdd fun w' c h=>hs.away h;have HOP:Hid (∀w' v' (q:Nat),Below w.heap.size w w'->w.heap.size<=q->IntsP (fun b=>q<=b) w' v' (i::l)->Calls Tryz.prog 85 #[.pointer (some ⟨g,0,none⟩),v'] w' (RetE P B (N+l.length) w' g ns idV (gL 1 e0 es))):=
  hdd fun w' v' q h hq hi=>by
   obtain⟨b,c,q1,q2,q3,q4,q5,q6⟩:=hi;exact ajQ (hs.below h) ⟨b,c,q1,q2,q3,hs.away h (baO hq q4),q5,q6⟩ hlen h0 he0 hes hP hN
 have HGL:=hdd hs.dag.glt;have HBL:=hdd hs.hB;obtain⟨e0',e1',-,-⟩:=aF b1;have HB2:=hdd hb2;have B2:=hdd b2;have HSZ:Hid (w.heap.size+1<w2.heap.size):=hdd (by omega);obtain⟨bv,cv,rfl,-⟩:=id hl;clear hs hl hlen h0 he0 hes hP hN hll hb2 hs2 b1 b2;go_enter Tryz.func63,Tryz.ntmps63
 go_wp2_with fail
 refine HG.out.mono ?_;rintro e w5⟨rfl,hb5⟩;have hb5d:Below w2.heap.size w2 w5.drew:=aC hb5 (Below.refl _ _).drew;replace e0':=cell_below e0' hb5d nlr;replace e1':=cell_below e1' hb5d nlr;have HB5:=hdd (aC HB2.out hb5d);have B5:=hdd (hbl B2.out hb5d);clear hb5 hb5d;have n1:w.heap.size+1≠w.heap.size:=by omega
 have n2:w.heap.size≠w.heap.size+1:=by omega
 go_wp2_with fail
 go_region_held3 (fun w'=>w'.cell? ⟨w.heap.size,0,none⟩=some (.pointer (some ⟨g,0,none⟩))/\w'.cell? ⟨w.heap.size,1,none⟩=some (.int .i64 (i:Int))) (go_keep)
  (first
  |(go_at_call 86
    refine(HIDS.out _ HB5.out).mono ?_;rintro e w6⟨hb6,v6,rfl,hi6⟩;have e0':=cell_below e0' hb6 nlr;have e1':=cell_below e1' hb6 nlr;have HB6:=hdd (aC HB5.out hb6);have B6:=hdd (hbl B5.out hb6);have HADD:=hdd (HOP.out w6 v6 _ HB6.out HB5.out.size hi6);obtain⟨b6,c6,rfl,-⟩:=hi6;clear hb6)
  |(go_at_call 85
    refine HADD.out.mono ?_;rintro e w7⟨k,ns',rfl,h1,h2,h3,h4⟩;have e0':=h4.cell e0' (HAW.out _ _ HB6.out (by simp));have e1':=h4.cell e1' (HAW.out _ _ HB6.out (by simp));have hlt6:w.heap.size+1<w6.heap.size:=aG B6.out;have B7:=(h4.heap (b:=w.heap.size+1) hlt6 (HAW.out _ _ HB6.out (by omega))).trans B6.out;obtain⟨r0,r1,f0,f1⟩:=aF B7;have HF:Hid (FoldSt P B (N+l.length) w g ns (gL 1 e0 es) k ((w7.setCell ⟨w.heap.size+1,0,none⟩ (.pointer (some ⟨g,0,none⟩))).setCell ⟨w.heap.size+1,1,none⟩ (.int .i64 (k:Int)))):=
     hdd (FoldSt.set2 (w0:=w) ⟨ns',h1,h2,h3,h4⟩ (Or.inr trivial) HGL.out HB6.out (by omega) (HAW.out _ _ HB6.out (by omega)) hlt6 (by have:=HBL.out;omega) _ _)
    have HX:=hdd (set2 B7 (.pointer (some ⟨g,0,none⟩)) (.int .i64 (k:Int)));clear h1 h2 h3 h4 B7 hlt6))
 go_wp2;obtain⟨x0,x1,-,-⟩:=aF HX.out;refine bodyPost_ret (v:=.agg #[_,_]) (by simp[results,Tryz.results63,go_sem,x0,x1];first|exact⟨rfl,rfl⟩|rfl) rfl ?_;exact HF.out.ret (numV g)
theorem amO{P:Ex->Prop}{B N:Nat}{w:World}{g i:Nat}{ns:List Nd}{v:Value}{l:List Nat}{es:List Ex}(hs:St P B N w g ns)(hl:NumsP w v g l)(hlen:l.length=es.length)(h0:0<l.length)
 (he0:Is ns e0 i) (hes:∀(m x:Nat) e,l[m]? =some x->es[m]? =some e->Is ns e x) (hP:∀m,m<es.length->P (gL 3 e0 (es.take (m+1)))) (hN:N+l.length<=20000):
 Calls Tryz.prog 66 #[numV g i,v] w (RetE P B (N+l.length) w g ns (numV g) (gL 3 e0 es)):=by
 obtain⟨w2,hw2,hb2,hs2,b1,b2⟩:=pro2 w (.cells #[.pointer (some ⟨g,0,none⟩),.int .i64 (i:Int)] 35) (.cells #[.pointer none,.int .i64 0] 35);have hll:∀x∈l,x<ns.length:=fun x hx=>by
  obtain⟨m,hm⟩:=baQ hx;have hml:=(List.getElem?_eq_some_iff.1 hm).1;exact(hes m x es[m] hm (List.getElem?_eq_getElem (by omega))).lt
 have HG:=hdd (vS (hs.dag.below hb2) he0.lt (hl.below hb2) hll);have HIDS:Hid (∀w',Below w.heap.size w w'->Calls Tryz.prog 86 #[.agg #[.pointer (some ⟨g,0,none⟩),.int .i64 (i:Int)],v] w' (zX w' (i::l))):=hdd fun w' h=>aeS (hl.below h);have HAW:Hid (∀w' (c:Nat),Below w.heap.size w w'->w.heap.size<=c->¬DagB w' g c):=hdd fun w' c h=>hs.away h;have HOP:Hid (∀w' v' (q:Nat),Below w.heap.size w w'->w.heap.size<=q->IntsP (fun b=>q<=b) w' v' (i::l)->Calls Tryz.prog 88 #[.pointer (some ⟨g,0,none⟩),v'] w' (RetE P B (N+l.length) w' g ns idV (gL 3 e0 es))):=
  hdd fun w' v' q h hq hi=>by
   obtain⟨b,c,q1,q2,q3,q4,q5,q6⟩:=hi;exact ajR (hs.below h) ⟨b,c,q1,q2,q3,hs.away h (baO hq q4),q5,q6⟩ hlen h0 he0 hes hP hN
 have HGL:=hdd hs.dag.glt;have HBL:=hdd hs.hB;obtain⟨e0',e1',-,-⟩:=aF b1;have HB2:=hdd hb2;have B2:=hdd b2;have HSZ:Hid (w.heap.size+1<w2.heap.size):=hdd (by omega);obtain⟨bv,cv,rfl,-⟩:=id hl;clear hs hl hlen h0 he0 hes hP hN hll hb2 hs2 b1 b2;go_enter Tryz.func66,Tryz.ntmps66
 go_wp2_with fail
 refine HG.out.mono ?_;rintro e w5⟨rfl,hb5⟩;have hb5d:Below w2.heap.size w2 w5.drew:=aC hb5 (Below.refl _ _).drew;replace e0':=cell_below e0' hb5d nlr;replace e1':=cell_below e1' hb5d nlr;have HB5:=hdd (aC HB2.out hb5d);have B5:=hdd (hbl B2.out hb5d);clear hb5 hb5d;have n1:w.heap.size+1≠w.heap.size:=by omega
 have n2:w.heap.size≠w.heap.size+1:=by omega
 go_wp2_with fail
 go_region_held3 (fun w'=>w'.cell? ⟨w.heap.size,0,none⟩=some (.pointer (some ⟨g,0,none⟩))/\w'.cell? ⟨w.heap.size,1,none⟩=some (.int .i64 (i:Int))) (go_keep)
  (first
  |(go_at_call 86
    refine(HIDS.out _ HB5.out).mono ?_;rintro e w6⟨hb6,v6,rfl,hi6⟩;have e0':=cell_below e0' hb6 nlr;have e1':=cell_below e1' hb6 nlr;have HB6:=hdd (aC HB5.out hb6);have B6:=hdd (hbl B5.out hb6);have HADD:=hdd (HOP.out w6 v6 _ HB6.out HB5.out.size hi6);obtain⟨b6,c6,rfl,-⟩:=hi6;clear hb6)
  |(go_at_call 88
    refine HADD.out.mono ?_;rintro e w7⟨k,ns',rfl,h1,h2,h3,h4⟩;have e0':=h4.cell e0' (HAW.out _ _ HB6.out (by simp));have e1':=h4.cell e1' (HAW.out _ _ HB6.out (by simp));have hlt6:w.heap.size+1<w6.heap.size:=aG B6.out;have B7:=(h4.heap (b:=w.heap.size+1) hlt6 (HAW.out _ _ HB6.out (by omega))).trans B6.out;obtain⟨r0,r1,f0,f1⟩:=aF B7;have HF:Hid (FoldSt P B (N+l.length) w g ns (gL 3 e0 es) k ((w7.setCell ⟨w.heap.size+1,0,none⟩ (.pointer (some ⟨g,0,none⟩))).setCell ⟨w.heap.size+1,1,none⟩ (.int .i64 (k:Int)))):=
     hdd (FoldSt.set2 (w0:=w) ⟨ns',h1,h2,h3,h4⟩ (Or.inr trivial) HGL.out HB6.out (by omega) (HAW.out _ _ HB6.out (by omega)) hlt6 (by have:=HBL.out;omega) _ _)
    have HX:=hdd (set2 B7 (.pointer (some ⟨g,0,none⟩)) (.int .i64 (k:Int)));clear h1 h2 h3 h4 B7 hlt6))
 go_wp2;obtain⟨x0,x1,-,-⟩:=aF HX.out;refine bodyPost_ret (v:=.agg #[_,_]) (by simp[results,Tryz.results66,go_sem,x0,x1];first|exact⟨rfl,rfl⟩|rfl) rfl ?_;exact HF.out.ret (numV g)
theorem agR{w:World}{g k:Nat}{ns:List Nd}(hd:DagP w g ns)(hk:k<ns.length):
 Calls Tryz.prog 82 #[.agg #[.pointer (some ⟨g,0,none⟩),.int .i64 (k:Int)],.slice none 0 0] w (RetV w (.bool true)):=by
 obtain⟨w1,hw1,hb1,hs1,b1⟩:=pro1 w (.cells #[.pointer (some ⟨g,0,none⟩),.int .i64 (k:Int)] 35);obtain⟨c0,c1,-,-⟩:=aF b1;have HV:=hdd (oJ (hd.below hb1) hk);have HB:=hdd hb1;clear hd hk hb1 hs1 b1;go_enter Tryz.func82,Tryz.ntmps82
 go_wp2_with fail
 refine HV.out.mono ?_;rintro e w2⟨rfl,hb2⟩;have HB2:=hdd (aC HB.out hb2);clear hb2;go_wp2_with fail
 go_loopw [12] (fun i wr=>i=.int .i64 0/\Hid (wr=w2)) (fun _ _=>0)
 case atStart=>exact⟨rfl,hdd rfl⟩
 case round=>
  obtain⟨rfl,HW⟩:=hrel;obtain rfl:=HW.out;clear HW;go_wp2;go_ret;exact⟨rfl,HB2.out⟩
theorem ajV{P:Ex->Prop}{B N:Nat}{w:World}{g i:Nat}{ns:List Nd}{a:Ex}(hs:St P B N w g ns)(hN:N<20000)(ha:Is ns a i)(hP:P (.root a)):
 Calls Tryz.prog 81 #[numV g i] w (RetE P B (N+1) w g ns (numV g) (.root a)):=by
 obtain⟨w4,hw4,hb4,hs4,b1,b2⟩:=pro2 w (.cells #[.pointer (some ⟨g,0,none⟩),.int .i64 (i:Int)] 35) (.cells #[.pointer none,.int .i64 0] 35);have HG:=hdd (agR (hs.dag.below hb4) ha.lt);have HOP:Hid (∀w',Below w.heap.size w w'->Calls Tryz.prog 100 #[.pointer (some ⟨g,0,none⟩),.int .i64 (i:Int)] w' (RetE P B (N+1) w' g ns idV (.root a))):=hdd fun w' h=>ajN (hs.below h) hN ha hP;have HAW:Hid (∀w' (c:Nat),Below w.heap.size w w'->w.heap.size<=c->¬DagB w' g c):=hdd fun w' c h=>hs.away h;have HGL:=hdd hs.dag.glt;have HBL:=hdd hs.hB;obtain⟨e0,e1,-,-⟩:=aF b1;have HB4:=hdd hb4;have B3:=hdd b2;clear hs hN ha hP hb4 b1 b2 hs4;go_enter Tryz.func81,Tryz.ntmps81
 go_wp2_with fail
 refine HG.out.mono ?_;rintro e w5⟨rfl,hb5⟩;have hb5d:Below w4.heap.size w4 w5.drew:=aC hb5 (Below.refl _ _).drew;replace e0:=cbl e0 hb5d;replace e1:=cbl e1 hb5d;have HB5:=hdd (aC HB4.out hb5d);have B5:=hdd (hbl B3.out hb5d);clear hb5 hb5d hw4;have n1:w.heap.size+1≠w.heap.size:=by omega
 have n2:w.heap.size≠w.heap.size+1:=by omega
 go_wp2_with fail
 go_region_held3 (fun w'=>w'.cell? ⟨w.heap.size,0,none⟩=some (.pointer (some ⟨g,0,none⟩))/\w'.cell? ⟨w.heap.size,1,none⟩=some (.int .i64 (i:Int))) (go_keep)
  (first
  |(go_at_call 100
    refine(HOP.out _ HB5.out).mono ?_;rintro e w6⟨k,ns',rfl,h1,h2,h3,h4⟩;have e0:=h4.cell e0 (HAW.out _ _ HB5.out (by simp));have e1:=h4.cell e1 (HAW.out _ _ HB5.out (by simp));have hlt5:w.heap.size+1<w5.drew.heap.size:=aG B5.out;have B6:=(h4.heap (b:=w.heap.size+1) hlt5 (HAW.out _ _ HB5.out (by omega))).trans B5.out;obtain⟨r0,r1,f0,f1⟩:=aF B6;have HF:Hid (FoldSt P B (N+1) w g ns (.root a) k ((w6.setCell ⟨w.heap.size+1,0,none⟩ (.pointer (some ⟨g,0,none⟩))).setCell ⟨w.heap.size+1,1,none⟩ (.int .i64 (k:Int)))):=
     hdd (FoldSt.set2 (w0:=w) ⟨ns',h1,h2,h3,h4⟩ (Or.inr trivial) HGL.out HB5.out (by omega) (HAW.out _ _ HB5.out (by omega)) hlt5 (by have:=HBL.out;omega) _ _)
    have HX:=hdd (set2 B6 (.pointer (some ⟨g,0,none⟩)) (.int .i64 (k:Int)));clear h1 h2 h3 h4 B6 hlt5))
 go_wp2;obtain⟨x0,x1,-,-⟩:=aF HX.out;refine bodyPost_ret (v:=.agg #[_,_]) (by simp[results,Tryz.results81,go_sem,x0,x1];first|exact⟨rfl,rfl⟩|rfl) rfl ?_;exact HF.out.ret (numV g)
def RetS(w:World)(s:Int)(e:Ending)(w':World):Prop:=e=.returned (.tuple #[.int .i64 s,.nilIface])/\Below w.heap.size w w'
def dQ(P:Ex->Prop)(x:Ex)(s:Int):Prop:=∀(B N:Nat) (w:World) (g k:Nat) (ns:List Nd),St P B N w g ns->Is ns x k->
 Calls Tryz.prog 69 #[.pointer (some ⟨g,0,none⟩),.int .i64 (k:Int),.slice none 0 0] w (RetS w s)
def RetQ(P:Ex->Prop)(B N:Nat)(w:World)(g:Nat)(ns:List Nd)(v:Value)(e:Ending)(w':World):Prop:=
 e=.returned v/\∃ns',St P B N w' g ns'/\ns<+:ns'/\DS g w w'
theorem abQ{P:Ex->Prop}{B N:Nat}{w:World}{g k:Nat}{ns:List Nd}{x:Ex}{s:Int}(hs:St P B N w g ns)(hx:Is ns x k)(hS:dQ P x s):
 Calls Tryz.prog 48 #[numV g k] w (RetS w s):=by
 obtain⟨w1,hw1,hb1,hs1,b1⟩:=pro1 w (.cells #[.pointer (some ⟨g,0,none⟩),.int .i64 (k:Int)] 35);obtain⟨c0,c1,-,-⟩:=aF b1;have HV:=hdd (oJ (hs.dag.below hb1) hx.lt);have HS:Hid (∀w',Below w.heap.size w w'->Calls Tryz.prog 69 #[.pointer (some ⟨g,0,none⟩),.int .i64 (k:Int),.slice none 0 0] w' (RetS w' s)):=hdd fun w' h=>hS B N w' g k ns (hs.below h) hx;have HB:=hdd hb1;clear hs hx hS hb1 hs1 b1;go_enter Tryz.func48,Tryz.ntmps48
 go_wp2_with fail
 refine HV.out.mono ?_;rintro e w2⟨rfl,hb2⟩;replace c0:=cbl c0 hb2;replace c1:=cbl c1 hb2;have HB2:=hdd (aC HB.out hb2);clear hb2;go_wp2_with fail
 refine(HS.out _ HB2.out).mono ?_;rintro e w3⟨rfl,hb3⟩;have HB3:=hdd (aC HB2.out hb3);clear hb3;go_wp2
 go_ret2
 exact⟨rfl,HB3.out⟩
theorem aeU{P:Ex->Prop}{B N:Nat}{w:World}{g i j:Nat}{ns:List Nd}{a b:Ex}{s:Int}(hs:St P B N w g ns)(hN:N<20000)(ha:Is ns a i)(hb:Is ns b j)(hP:P (.sub a b))(hS:dQ P (.sub a b) s):
 Calls Tryz.prog 50 #[numV g i,numV g j] w (RetQ P B (N+1) w g ns (.tuple #[.int .i64 s,.nilIface])):=by
 obtain⟨w2,hw2,hb2,hs2,b1,b2⟩:=pro2 w (.cells #[.pointer (some ⟨g,0,none⟩),.int .i64 (i:Int)] 35) (.cells #[.pointer (some ⟨g,0,none⟩),.int .i64 (j:Int)] 35);obtain⟨c0,c1,-,-⟩:=aF b1;obtain⟨d0,d1,-,-⟩:=aF b2;have HSUB:=hdd (aeT (hs.below hb2) hN ha hb hP);have HDS:=hdd (DS.of_below hs.dag.glt hb2);have HSG:Hid (∀w' k ns',St P B (N+1) w' g ns'->Is ns' (.sub a b) k->Calls Tryz.prog 48 #[numV g k] w' (RetS w' s)):=hdd fun w' k ns' h1 h2=>abQ h1 h2 hS;clear hs hN ha hb hP hS hb2 hs2 b1 b2;go_enter Tryz.func50,Tryz.ntmps50
 go_wp2_with fail
 refine HSUB.out.mono ?_;rintro e w3⟨k,ns',rfl,h1,h2,h3,h4⟩;have HC:=hdd (HSG.out w3 k ns' h1 h3);have HR:Hid (∀w',Below w3.heap.size w3 w'->RetQ P B (N+1) w g ns (.tuple #[.int .i64 s,.nilIface]) (.returned (.tuple #[.int .i64 s,.nilIface])) w'):=hdd fun w' h=>⟨rfl,ns',h1.below h,h2,HDS.out.trans (h4.trans (DS.of_below h1.dag.glt h))⟩;clear h1 h2 h3 h4;go_wp2_with fail
 refine HC.out.mono ?_;rintro e w4⟨rfl,hb4⟩;have HF:=hdd (HR.out _ hb4);clear hb4;go_wp2
 go_ret2
 exact HF.out
abbrev bY(g i j:Nat):Value:=.agg #[.pointer (some ⟨g,0,none⟩),.int .i64 (i:Int),.pointer (some ⟨g,0,none⟩),.int .i64 (j:Int)]
def ajW(P:Ex->Prop)(B N:Nat)(w:World)(g:Nat)(ns:List Nd)(x y:Ex)(e:Ending)(w':World):Prop:=
 ∃(i j:Nat) (ns':List Nd),e=.returned (bY g i j)/\St P B N w' g ns'/\ns<+:ns'/\Is ns' x i/\Is ns' y j/\DS g w w'
def Grew(P:Ex->Prop)(B N:Nat)(w:World)(g:Nat)(ns ns':List Nd)(w':World):Prop:=St P B N w' g ns'/\ns<+:ns'/\DS g w w'
section
variable{P:Ex->Prop}{B N:Nat}{w w' w'' w0:World}{g:Nat}{ns ns':List Nd}
theorem St.setCell (h:St P B N w g ns){b i:Nat}(hn:¬DagB w g b)(hB:B<=b)(u:Value):St P B N (w.setCell ⟨b,i,none⟩ u) g ns:=
 ⟨h.dag.setCell hn u,h.all,fun c hc=>h.hi c ((nG hn u).1 hc),h.tab.step (Below.heap_setCell w _ u _ (by have:=h.tb;simp;omega)),h.tb,by simpa[World.setCell]using h.hB,h.room⟩
theorem Grew.setCell (h:Grew P B N w g ns ns' w'){b i:Nat}(hb:w.heap.size<=b)(hn:¬DagB w' g b)(hB:B<=b)(u:Value):Grew P B N w g ns ns' (w'.setCell ⟨b,i,none⟩ u):=
 ⟨h.1.setCell hn hB u,h.2.1,h.2.2.setCell hb hn u⟩
theorem Grew.below (h:Grew P B N w g ns ns' w')(hb:Below w'.heap.size w' w''):Grew P B N w g ns ns' w'':=
 ⟨h.1.below hb,h.2.1,h.2.2.trans (DS.of_below h.1.dag.glt hb)⟩
theorem Grew.start (h:St P B N w g ns)(hb:Below w.heap.size w w'):Grew P B N w g ns ns w':=⟨h.below hb,baP,DS.of_below h.dag.glt hb⟩
theorem Grew.trans {M:Nat}{ns'':List Nd}(h:Grew P B N w g ns ns' w')(k:Grew P B M w' g ns' ns'' w''):Grew P B M w g ns ns'' w'':=⟨k.1,h.2.1.trans k.2.1,h.2.2.trans k.2.2⟩
end
theorem amP{P:Ex->Prop}{B N:Nat}{w:World}{g:Nat}{ns:List Nd}{x y:Nat}(hs:St P B N w g ns)(hN:N+1<20000)(hx:x<18446744073709551616)(hy:y<18446744073709551616)(fx:fin x)(fy:fin y)(hP:P (.leaf x))(hQ:P (.leaf y)):
 Calls Tryz.prog 17 #[.pointer (some ⟨g,0,none⟩),.float .f64 x,.float .f64 y] w (ajW P B (N+2) w g ns (.leaf x) (.leaf y)):=by
 obtain⟨w1,hw1,hb1,hs1,b1⟩:=pro1 w (.cells #[.pointer none,.int .i64 0,.pointer none,.int .i64 0] 37);have HL:=hdd (adQ (hs.below hb1) (by omega) hx fx hP);have HM:Hid (∀w' ns',St P B (N+1) w' g ns'->Calls Tryz.prog 36 #[.pointer (some ⟨g,0,none⟩),.float .f64 y] w' (RetE P B (N+2) w' g ns' (numV g) (.leaf y))):=hdd fun w' ns' h=>adQ h hN hy fy hQ;have hn1:¬DagB w1 g w.heap.size:=hs.away hb1 nlr;have HN1:=hdd hn1;have HB1:=hdd b1;have HGR:=hdd (Grew.start hs hb1);have HBL:=hdd hs.hB;have HS1:Hid (w.heap.size<w1.heap.size):=hdd (by omega);clear hs hN hx hy fx fy hP hQ hb1 hs1 b1 hn1;go_enter Tryz.func17,Tryz.ntmps17
 go_wp2_with fail
 refine HL.out.mono ?_;rintro e w2⟨i,ns1,rfl,h1,h2,h3,h4⟩;have HM2:=hdd (HM.out w2 ns1 h1);have HI:=hdd h3;have HG2:=hdd (HGR.out.trans ⟨h1,h2,h4⟩);have HN2:=hdd (h4.2 _ HS1.out HN1.out);have HB2:=hdd ((h4.heap HS1.out HN1.out).trans HB1.out);have HS2:Hid (w.heap.size<w2.heap.size):=hdd (baR HS1.out h4.size);clear h1 h2 h3 h4;go_wp2_with fail
 refine HM2.out.mono ?_;rintro e w3⟨j,ns2,rfl,h1,h2,h3,h4⟩;have hn3:=h4.2 _ HS2.out HN2.out;have b3:=(h4.heap HS2.out HN2.out).trans HB2.out;obtain⟨c0,c1,c2,c3⟩:=aW b3;obtain⟨f0,f1,f2,f3⟩:=vM b3;have HX:=hdd (set4 b3 (.pointer (some ⟨g,0,none⟩)) (.int .i64 (i:Int)) (.pointer (some ⟨g,0,none⟩)) (.int .i64 (j:Int)));have HF:Hid (ajW P B (N+2) w g ns (.leaf x) (.leaf y) (.returned (bY g i j)) ((((w3.setCell ⟨w.heap.size,0,none⟩ (.pointer (some ⟨g,0,none⟩))).setCell ⟨w.heap.size,1,none⟩ (.int .i64 (i:Int))).setCell ⟨w.heap.size,2,none⟩ (.pointer (some ⟨g,0,none⟩))).setCell ⟨w.heap.size,3,none⟩ (.int .i64 (j:Int)))):=hdd (by
  have g0:=HG2.out.trans ⟨h1,h2,h4⟩;have q:∀(w':World),¬DagB w' g w.heap.size->∀i u,¬DagB (w'.setCell ⟨w.heap.size,i,none⟩ u) g w.heap.size:=fun w' hn i u hd=>hn ((nG hn u).1 hd);have g1:=(((g0.setCell (i:=0) nlr hn3 HBL.out (.pointer (some ⟨g,0,none⟩))).setCell (i:=1) nlr (q _ hn3 _ _) HBL.out (.int .i64 (i:Int))).setCell (i:=2) nlr (q _ (q _ hn3 _ _) _ _) HBL.out (.pointer (some ⟨g,0,none⟩))).setCell (i:=3) nlr (q _ (q _ (q _ hn3 _ _) _ _) _ _) HBL.out (.int .i64 (j:Int));exact⟨i,j,ns2,rfl,g1.1,g1.2.1,HI.out.mono h2,h3,g1.2.2⟩)
 clear h1 h2 h3 h4 b3 hn3;go_wp2;obtain⟨x0,x1,x2,x3⟩:=aW HX.out;refine bodyPost_ret (v:=.agg #[_,_,_,_]) (by simp[results,Tryz.results17,go_sem,x0,x1,x2,x3];first|exact⟨rfl,rfl,rfl,rfl⟩|rfl) rfl ?_;exact HF.out
def iK(P:Ex->Prop)(px py qx qy:Ex)(s:Int):Prop:=∃s1 s2,P (.sub px qx)/\dQ P (.sub px qx) s1/\(s1=0->P (.sub py qy)/\dQ P (.sub py qy) s2)/\s=if s1=0 then s2 else s1
theorem abR{P:Ex->Prop}{B N:Nat}{w:World}{g i j k l:Nat}{ns:List Nd}{px py qx qy:Ex}{s:Int}(hs:St P B N w g ns)(hN:N+1<20000)(hi:Is ns px i)(hj:Is ns py j)(hk:Is ns qx k)(hl:Is ns qy l)(hc:iK P px py qx qy s):
 Calls Tryz.prog 29 #[bY g i j,bY g k l] w (RetQ P B (N+2) w g ns (.tuple #[.int .i64 s,.nilIface])):=by
 obtain⟨s1,s2,hp1,hs1,hs2,rfl⟩:=hc;obtain⟨w2,hw2,hb2,hz2,b1,b2⟩:=pro2 w (.cells #[.pointer (some ⟨g,0,none⟩),.int .i64 (i:Int),.pointer (some ⟨g,0,none⟩),.int .i64 (j:Int)] 37) (.cells #[.pointer (some ⟨g,0,none⟩),.int .i64 (k:Int),.pointer (some ⟨g,0,none⟩),.int .i64 (l:Int)] 37);obtain⟨c0,c1,c2,c3⟩:=aW b1;obtain⟨d0,d1,d2,d3⟩:=aW b2;have HC:=hdd (aeU (hs.below hb2) (by omega) hi hk hp1 hs1);have HD:Hid (s1=0->∀w' ns',St P B (N+1) w' g ns'->ns<+:ns'->Calls Tryz.prog 50 #[numV g j,numV g l] w' (RetQ P B (N+2) w' g ns' (.tuple #[.int .i64 s2,.nilIface]))):=
  hdd fun h0 w' ns' h hp=>aeU h (by omega) (hj.mono hp) (hl.mono hp) (hs2 h0).1 (hs2 h0).2
 have HGR:=hdd (Grew.start hs hb2);have HAW:Hid (∀c:Nat,w.heap.size<=c->¬DagB w2 g c):=hdd fun c h=>hs.away hb2 h;clear hs hN hi hj hk hl hp1 hs1 hs2 hb2 hz2 b1 b2;by_cases h0:s1=0
 . have HD0:Hid (∀w' ns',St P B (N+1) w' g ns'->ns<+:ns'->Calls Tryz.prog 50 #[numV g j,numV g l] w' (RetQ P B (N+2) w' g ns' (.tuple #[.int .i64 s2,.nilIface]))):=hdd (HD.out h0)
   clear HD;subst h0;rw[if_pos rfl];go_enter Tryz.func29,Tryz.ntmps29
   go_wp2_with fail
   refine HC.out.mono ?_;rintro e w3⟨rfl,ns1,h1,h2,h3⟩;have e2:=h3.cell c2 (HAW.out _ (by simp));have e3:=h3.cell c3 (HAW.out _ (by simp));have e4:=h3.cell d2 (HAW.out _ (by simp));have e5:=h3.cell d3 (HAW.out _ (by simp));have HD1:=hdd (HD0.out w3 ns1 h1 h2);have HG1:=hdd (HGR.out.trans ⟨h1,h2,h3⟩);clear h1 h2 h3;go_wp2_with fail
   refine HD1.out.mono ?_;rintro e w4⟨rfl,ns2,h1,h2,h3⟩;have HF:=hdd (HG1.out.trans ⟨h1,h2,h3⟩);clear h1 h2 h3;go_wp2
   go_ret2
   exact⟨rfl,ns2,HF.out⟩
 . rw[if_neg h0]
   have hb0:(s1 != 0)=true:=by simpa using h0
   have hb1:(s1==0)=false:=by simpa using h0
   clear HD;go_enter Tryz.func29,Tryz.ntmps29
   go_wp2_with fail
   refine HC.out.mono ?_;rintro e w3⟨rfl,ns1,h1,h2,h3⟩;have HF:=hdd (HGR.out.trans ⟨h1.more (M:=N+2) (by omega),h2,h3⟩);clear h1 h2 h3;go_wp2
   go_ret2
   exact⟨rfl,ns1,HF.out⟩
theorem agS{P:Ex->Prop}{B N:Nat}{w:World}{g i j k l:Nat}{ns:List Nd}{px py qx qy:Ex}{s:Int}(hs:St P B N w g ns)(hN:N+1<20000)(hi:Is ns px i)(hj:Is ns py j)(hk:Is ns qx k)(hl:Is ns qy l)(hc:iK P px py qx qy s):
 Calls Tryz.prog 14 #[bY g i j,bY g k l] w (RetQ P B (N+2) w g ns (.tuple #[.bool (s==0),.nilIface])):=by
 obtain⟨w2,hw2,hb2,hz2,b1,b2⟩:=pro2 w (.cells #[.pointer (some ⟨g,0,none⟩),.int .i64 (i:Int),.pointer (some ⟨g,0,none⟩),.int .i64 (j:Int)] 37) (.cells #[.pointer (some ⟨g,0,none⟩),.int .i64 (k:Int),.pointer (some ⟨g,0,none⟩),.int .i64 (l:Int)] 37);obtain⟨c0,c1,c2,c3⟩:=aW b1;obtain⟨d0,d1,d2,d3⟩:=aW b2;have HC:=hdd (abR (hs.below hb2) hN hi hj hk hl hc);have HGR:=hdd (Grew.start hs hb2);clear hs hN hi hj hk hl hc hb2 hz2 b1 b2;go_enter Tryz.func14,Tryz.ntmps14
 go_wp2_with fail
 refine HC.out.mono ?_;rintro e w3⟨rfl,ns1,h1,h2,h3⟩;have HF:=hdd (HGR.out.trans ⟨h1,h2,h3⟩);clear h1 h2 h3;go_wp2
 go_ret2
 exact⟨rfl,ns1,HF.out⟩
structure Stg(P:Ex->Prop)(B N:Nat)(w:World)(g:Nat)(ns:List Nd)(W:World)(ns':List Nd)(l:List (Nat×Obj)):Prop where
 grew:Grew P B N w g ns ns' W
 kept:∀p∈l,W.heap[p.1]? =some p.2/\¬DagB W g p.1/\w.heap.size<=p.1
 hw:B<=w.heap.size
 nodup:(l.map (·.1)).Nodup
section
variable{P:Ex->Prop}{B N M:Nat}{w W W':World}{g:Nat}{ns ns' ns'':List Nd}{l:List (Nat×Obj)}
theorem Stg.start (h:St P B N w g ns):Stg P B N w g ns w ns []:=⟨⟨h,baP,DS.refl g w⟩,fun p hp=>by simp at hp,h.hB,by simp⟩
theorem Stg.pre (h:Stg P B N w g ns W ns' l):ns<+:ns':=h.grew.2.1
theorem Stg.st (h:Stg P B N w g ns W ns' l):St P B N W g ns':=h.grew.1
theorem Stg.lt (h:Stg P B N w g ns W ns' l){p:Nat×Obj}(hp:p∈l):p.1<W.heap.size:=aG (h.kept p hp).1
theorem Stg.below (h:Stg P B N w g ns W ns' l)(hb:Below W.heap.size W W'):Stg P B N w g ns W' ns' l:=
 ⟨h.grew.below hb,fun p hp=>⟨aH (h.kept p hp).1 hb (h.lt hp),fun hd=>(h.kept p hp).2.1 ((DagB.congr (hb.block g h.grew.1.dag.glt)).1 hd),(h.kept p hp).2.2⟩,h.hw,h.nodup⟩
theorem Stg.alloc (h:Stg P B N w g ns W ns' l)(o:Obj):Stg P B N w g ns (W.alloc o) ns' ((W.heap.size,o)::l):=by
 have hb:Below W.heap.size W (W.alloc o):=aZ W o;have h':=h.below hb;refine⟨h'.grew,fun p hp=> ?_,h.hw,?_⟩
 . rcases baS.1 hp with rfl|hp
   . exact⟨heap_alloc_new W o,fun hd=>by have:=h.grew.1.dag.dagB ((DagB.congr (hb.block g h.grew.1.dag.glt)).1 hd);simp at this,h.grew.2.2.size⟩
   . exact h'.kept p hp
 . simp only[List.map_cons,baT]
   refine⟨fun hm=> ?_,h.nodup⟩;obtain⟨p,hp,e⟩:=baU.1 hm;have:=h.lt hp;omega
theorem Stg.step (h:Stg P B N w g ns W ns' l)(hs:St P B M W' g ns'')(hp:ns'<+:ns'')(hd:DS g W W'):Stg P B M w g ns W' ns'' l:=
 ⟨h.grew.trans ⟨hs,hp,hd⟩,fun p hp=>⟨(hd.heap (h.lt hp) (h.kept p hp).2.1).trans (h.kept p hp).1,hd.2 _ (h.lt hp) (h.kept p hp).2.1,(h.kept p hp).2.2⟩,h.hw,h.nodup⟩
theorem Stg.more (h:Stg P B N w g ns W ns' l)(hM:N<=M):Stg P B M w g ns W ns' l:=⟨⟨h.grew.1.more hM,h.grew.2⟩,h.kept,h.hw,h.nodup⟩
theorem DagP.off {b:Nat}(h:DagP W g ns)(hn:¬DagB W g b)(hg:W.grownBy W' (some b)):DagP W' g ns:=by
 obtain⟨A,c,mb,m,ho⟩:=h.opened;obtain⟨q1,q2,q3⟩:=ho.dagB hn;obtain⟨h1,h2,h3,h4⟩:=ho;exact(show DagO _ g ns A c mb m from⟨(hg.block g (aG h1) (fun e=>q1 (baN e).symm)).trans h1,h2.kept hg (Or.inr q3),h3.keep (hg.block mb h3.lt (fun e=>q2 (baN e).symm)),h4⟩).dag
theorem Stg.write {b:Nat}(h:Stg P B N w g ns W ns' ((b,o)::l))(hb:W.grownBy W' (some b))(ho:W'.heap[b]? =some o'):Stg P B N w g ns W' ns' ((b,o')::l):=by
 obtain⟨q1,q2,q3⟩:=h.kept (b,o) (by simp);have hgb:some g≠some b:=fun e=>q2 (Or.inl (baN e).symm);have hg:=hb.block g h.grew.1.dag.glt hgb;have hst:=h.grew.1;have hwz:w.heap.size<=W.heap.size:=h.grew.2.2.size;refine⟨⟨⟨hst.dag.off q2 hb,hst.all,fun c hc=>hst.hi c ((DagB.congr hg).1 hc),?_,hst.tb,baO hst.hB hb.size,hst.room⟩,h.grew.2.1,?_⟩,?_,h.hw,h.nodup⟩
 . exact hst.tab.step (hb.block _ (by have:=hst.tb;have:=hst.hB;omega) (fun e=>by have:=baN e;have:=hst.tb;have:=h.hw;simp only at q3;omega))
 . refine⟨⟨hb.os.trans h.grew.2.2.1.os,hb.tape.trans h.grew.2.2.1.tape,hb.output.trans h.grew.2.2.1.output,baO hwz hb.size,fun c hc hn=> ?_⟩,fun c hc hn hd=>h.grew.2.2.2 c hc hn ((DagB.congr hg).1 hd)⟩
   exact(hb.block c (by omega) (fun e=>by have:=baN e;simp only at q3;omega)).trans (h.grew.2.2.1.block c hc hn)
 . intro p hp
   rcases baS.1 hp with rfl|hp
   . exact⟨ho,fun hd=>q2 ((DagB.congr hg).1 hd),q3⟩
   . have hne:p.1≠b:=fun e=>(baT.1 h.nodup).1 (baU.2 ⟨p,hp,e⟩)
     obtain⟨r1,r2,r3⟩:=h.kept p (by simp[hp]);exact⟨(hb.block p.1 (aG r1) (fun e=>hne (baN e))).trans r1,fun hd=>r2 ((DagB.congr hg).1 hd),r3⟩
end
abbrev numO(g k:Nat):Obj:=.cells #[.pointer (some ⟨g,0,none⟩),.int .i64 (k:Int)] 35
abbrev aQ(g i j:Nat):Obj:=.cells #[.pointer (some ⟨g,0,none⟩),.int .i64 (i:Int),.pointer (some ⟨g,0,none⟩),.int .i64 (j:Int)] 37
theorem ajX{P:Ex->Prop}{B N:Nat}{w:World}{g i j b:Nat}{ns:List Nd}{x y:Ex}(hs:St P B N w g ns)(hN:N<20000)(hx:Is ns x i)(hy:Is ns y j)(hb:w.heap[b]? =some (numO g j))(hP:P (.mul x y)):
 Calls Tryz.prog 66 #[numV g i,.slice (some ⟨b,0,none⟩) 1 1] w (RetE P B (N+1) w g ns (numV g) (.mul x y)):=by
 have:=amO (l:=[j]) (es:=[y]) hs (vT hb) rfl (by simp) hx (fun m z e h1 h2=>by
  cases m with
  |zero=>simp at h1 h2;subst h1;subst h2;exact hy
  |succ m=>simp at h1) (fun m hm=>by
  have:m=0:=by simp at hm;omega
  subst this;exact hP) (by simp;omega)
 exact this
theorem ajY{P:Ex->Prop}{B N:Nat}{w:World}{g i j b:Nat}{ns:List Nd}{x y:Ex}(hs:St P B N w g ns)(hN:N<20000)(hx:Is ns x i)(hy:Is ns y j)(hb:w.heap[b]? =some (numO g j))(hP:P (.add x y)):
 Calls Tryz.prog 63 #[numV g i,.slice (some ⟨b,0,none⟩) 1 1] w (RetE P B (N+1) w g ns (numV g) (.add x y)):=by
 have:=amN (l:=[j]) (es:=[y]) hs (vT hb) rfl (by simp) hx (fun m z e h1 h2=>by
  cases m with
  |zero=>simp at h1 h2;subst h1;subst h2;exact hy
  |succ m=>simp at h1) (fun m hm=>by
  have:m=0:=by simp at hm;omega
  subst this;exact hP) (by simp;omega)
 exact this
section
variable{P:Ex->Prop}{B N M:Nat}{w W W':World}{g i j b v:Nat}{ns ns' ns'':List Nd}{l:List (Nat×Obj)}{x y:Ex}
end
abbrev PT:Ex->Prop:=fun _=>True
section
variable{α:Type}{a:α}{l:List α}
theorem m0:a∈a::l:=.head _
theorem m1{b0:α}:a∈b0::a::l:=.tail _ m0
theorem m2{b0 b1:α}:a∈b0::b1::a::l:=.tail _ m1
theorem m3{b0 b1 b2:α}:a∈b0::b1::b2::a::l:=.tail _ m2
theorem m4{b0 b1 b2 b3:α}:a∈b0::b1::b2::b3::a::l:=.tail _ m3
theorem m5{b0 b1 b2 b3 b4:α}:a∈b0::b1::b2::b3::b4::a::l:=.tail _ m4
theorem m6{b0 b1 b2 b3 b4 b5:α}:a∈b0::b1::b2::b3::b4::b5::a::l:=.tail _ m5
theorem m7{b0 b1 b2 b3 b4 b5 b6:α}:a∈b0::b1::b2::b3::b4::b5::b6::a::l:=.tail _ m6
theorem m8{b0 b1 b2 b3 b4 b5 b6 b7:α}:a∈b0::b1::b2::b3::b4::b5::b6::b7::a::l:=.tail _ m7
end
structure Bs where
 w:World
 B:Nat
 ns:List Nd
abbrev bs(w:World):Bs:=⟨w,w.heap.size,[]⟩
def Run(s:Bs)(g N:Nat)(K:List (Ex×Nat))(l:List (Nat×Obj))(W:World):Prop:=∃ns',Stg PT s.B N s.w g s.ns W ns' l/\∀p∈K,Is ns' p.1 p.2
section
variable{s:Bs}{w0 w1 W W':World}{g N M:Nat}{K:List (Ex×Nat)}{l l':List (Nat×Obj)}
theorem Run.start (hb1:Below w0.heap.size w0 w1)(hk:∀p∈l,w1.heap[p.1]? =some p.2/\w0.heap.size<=p.1)(hn:(l.map (·.1)).Nodup)(htb:1<w0.heap.size)
 (hs:St PT w1.heap.size 0 W g []) (hb:Below w1.heap.size w1 W):Run (bs w0) g 0 [] l W:=by
 have hz:=hb1.size;have hst:St PT w0.heap.size 0 W g []:=⟨hs.dag,hs.all,fun b h=>baO hz (hs.hi b h),hs.tab,htb,baO hz hs.hB,hs.room⟩;refine⟨[],⟨⟨hst,baP,Fr.of_below (hb1.trans (hb.mono hz)),fun b hlt _ hd=>absurd hlt (baV.2 (hst.hi _ hd))⟩,fun p hp=> ?_,Nat.le_refl _,hn⟩,fun p hp=>by cases hp⟩;obtain⟨h1,h2⟩:=hk p hp;have hlt:=aG h1;exact⟨aH h1 hb hlt,fun hd=>by have:=hs.hi _ hd;omega,h2⟩
theorem Run.enter {B:Nat}{ns:List Nd}(hs:St PT B N W g ns)(hK:∀p∈K,Is ns p.1 p.2):Run ⟨W,B,ns⟩ g N K [] W:=⟨ns,Stg.start hs,hK⟩
theorem Run.below (h:Run (bs w0) g N K l W):Below w0.heap.size w0 W:=by
 obtain⟨ns',hs,-⟩:=h;refine hs.grew.2.2.below nlr fun b hb=> ?_;rcases hb with rfl|⟨v,mb,T,e,-⟩
 . exact hs.st.hi _ (Or.inl rfl)
 . exact absurd (aG e) (baV.2 (hs.st.hi _ (Or.inl rfl)))
theorem Run.ans {B:Nat}{ns:List Nd}{w:World}{v:Value}(h:Run ⟨w,B,ns⟩ g N K l W):RetQ PT B N w g ns v (.returned v) W:=by
 obtain⟨ns',hs,hK⟩:=h;exact⟨rfl,ns',hs.st,hs.pre,hs.grew.2.2⟩
theorem Run.kept (h:Run s g N K l W):∀p∈l,W.heap[p.1]? =some p.2:=fun p hp=>by obtain⟨ns',hs,-⟩:=h;exact(hs.kept p hp).1
theorem Run.nodup (h:Run s g N K l W):(l.map (·.1)).Nodup:=by obtain⟨ns',hs,-⟩:=h;exact hs.nodup
theorem Run.at (h:Run s g N K l W){b:Nat}(hp:(b,o)∈l):W.heap[b]? =some o:=h.kept _ hp
theorem Run.step (h:Run s g N K l W)(hb:Below W.heap.size W W'):Run s g N K l W':=by obtain⟨ns',hs,hK⟩:=h;exact⟨ns',hs.below hb,hK⟩
theorem Run.more (h:Run s g N K l W)(hM:N<=M):Run s g M K l W:=by obtain⟨ns',hs,hK⟩:=h;exact⟨ns',hs.more hM,hK⟩
theorem Run.drew (h:Run s g N K l W):Run s g N K l W.drew:=h.step (Below.refl _ _).drew
theorem Run.alloc (h:Run s g N K l W)(o:Obj):Run s g N K ((W.heap.size,o)::l) (W.alloc o):=by obtain⟨ns',hs,hK⟩:=h;exact⟨ns',hs.alloc o,hK⟩
theorem Run.sub (h:Run s g N K l W)(hl:∀p∈l',p∈l)(hn:(l'.map (·.1)).Nodup):Run s g N K l' W:=by obtain⟨ns',hs,hK⟩:=h;exact⟨ns',⟨hs.grew,fun p hp=>hs.kept p (hl p hp),hs.hw,hn⟩,hK⟩
theorem Run.few (h:Run s g N K l W){K':List (Ex×Nat)}(hs:∀p∈K',p∈K):Run s g N K' l W:=by obtain⟨ns',h1,hK⟩:=h;exact⟨ns',h1,fun p hp=>hK p (hs p hp)⟩
theorem Run.write {b:Nat}(h:Run s g N K ((b,o)::l) W)(hb:W.grownBy W' (some b))(ho:W'.heap[b]? =some o'):Run s g N K ((b,o')::l) W':=by obtain⟨ns',hs,hK⟩:=h;exact⟨ns',hs.write hb ho,hK⟩
end
def RtR(s:Bs)(g N:Nat)(K:List (Ex×Nat))(l:List (Nat×Obj))(x:Ex)(e:Ending)(W':World):Prop:=∃k,e=.returned (numV g k)/\Run s g N ((x,k)::K) l W'
def RtP(s:Bs)(g N:Nat)(K:List (Ex×Nat))(l:List (Nat×Obj))(x y:Ex)(e:Ending)(W':World):Prop:=∃i j,e=.returned (bY g i j)/\Run s g N ((x,i)::(y,j)::K) l W'
def RtA(s:Bs)(g N:Nat)(K:List (Ex×Nat))(l:List (Nat×Obj))(v:Value)(e:Ending)(W':World):Prop:=e=.returned v/\Run s g N K l W'
section
variable{s:Bs}{W W':World}{g N M:Nat}{K:List (Ex×Nat)}{l:List (Nat×Obj)}{x y:Ex}{ns:List Nd}
theorem vU{ns':List Nd}{N:Nat}{W:World}(h:Stg PT s.B N s.w g s.ns W ns' l)(hK:∀p∈K,Is ns' p.1 p.2){k:Nat}(hx:Is ns' x k):∀p∈(x,k)::K,Is ns' p.1 p.2:=fun p hp=>by
 rcases baS.1 hp with rfl|hp
 . exact hx
 . exact hK p hp
theorem nH{P:Nat->Value}(h:Stg PT s.B N s.w g s.ns W ns l)(hK:∀p∈K,Is ns p.1 p.2){e:Ending}(hr:RetE PT s.B M W g ns P x e W'):∃k,e=.returned (P k)/\Run s g M ((x,k)::K) l W':=by
 obtain⟨k,ns',e1,h1,h2,h3,h4⟩:=hr;exact⟨k,e1,ns',h.step h1 h2 h4,vU (h.step h1 h2 h4) (fun p hp=>(hK p hp).mono h2) h3⟩
theorem vV(h:Stg PT s.B N s.w g s.ns W ns l)(hK:∀p∈K,Is ns p.1 p.2){v:Value}{e:Ending}(hr:RetQ PT s.B M W g ns v e W'):RtA s g M K l v e W':=by
 obtain⟨e1,ns',h1,h2,h3⟩:=hr;exact⟨e1,ns',h.step h1 h2 h3,fun p hp=>(hK p hp).mono h2⟩
theorem ajZ(h:Stg PT s.B N s.w g s.ns W ns l)(hK:∀p∈K,Is ns p.1 p.2){e:Ending}(hr:ajW PT s.B M W g ns x y e W'):RtP s g M K l x y e W':=by
 obtain⟨i,j,ns',e1,h1,h2,h3,h4,h5⟩:=hr;exact⟨i,j,e1,ns',h.step h1 h2 h5,vU (h.step h1 h2 h5) (vU (h.step h1 h2 h5) (fun p hp=>(hK p hp).mono h2) h4) h3⟩
end
section
variable{s:Bs}{W:World}{g N i j k m b v:Nat}{K:List (Ex×Nat)}{l:List (Nat×Obj)}{x y:Ex}{q:Int}
theorem Run.of (h:Run s g N K l W)(hN:N<20000)(hv:v<18446744073709551616)(hf:fin v):Calls Tryz.prog 36 #[.pointer (some ⟨g,0,none⟩),.float .f64 v] W (RtR s g (N+1) K l (.leaf v)):=by
 obtain⟨ns,hs,hK⟩:=h;exact(adQ hs.st hN hv hf trivial).mono fun _ _ hr=>nH hs hK hr
theorem Run.sub2 (h:Run s g N K l W)(hN:N<20000)(hx:(x,i)∈K)(hy:(y,j)∈K):Calls Tryz.prog 62 #[numV g i,numV g j] W (RtR s g (N+1) K l (.sub x y)):=by
 obtain⟨ns,hs,hK⟩:=h;exact(aeT hs.st hN (hK _ hx) (hK _ hy) trivial).mono fun _ _ hr=>nH hs hK hr
theorem Run.mul2 (h:Run s g N K l W)(hN:N<20000)(hx:(x,i)∈K)(hy:(y,j)∈K)(hb:W.heap[b]? =some (numO g j)):Calls Tryz.prog 66 #[numV g i,.slice (some ⟨b,0,none⟩) 1 1] W (RtR s g (N+1) K l (.mul x y)):=by
 obtain⟨ns,hs,hK⟩:=h;exact(ajX hs.st hN (hK _ hx) (hK _ hy) hb trivial).mono fun _ _ hr=>nH hs hK hr
theorem Run.add2 (h:Run s g N K l W)(hN:N<20000)(hx:(x,i)∈K)(hy:(y,j)∈K)(hb:W.heap[b]? =some (numO g j)):Calls Tryz.prog 63 #[numV g i,.slice (some ⟨b,0,none⟩) 1 1] W (RtR s g (N+1) K l (.add x y)):=by
 obtain⟨ns,hs,hK⟩:=h;exact(ajY hs.st hN (hK _ hx) (hK _ hy) hb trivial).mono fun _ _ hr=>nH hs hK hr
theorem Run.sqrt (h:Run s g N K l W)(hN:N<20000)(hx:(x,i)∈K):Calls Tryz.prog 81 #[numV g i] W (RtR s g (N+1) K l (.root x)):=by
 obtain⟨ns,hs,hK⟩:=h;exact(ajV hs.st hN (hK _ hx) trivial).mono fun _ _ hr=>nH hs hK hr
theorem Run.sign (h:Run s g N K l W)(hx:(x,i)∈K)(hS:dQ PT x q):Calls Tryz.prog 48 #[numV g i] W (RtA s g N K l (.tuple #[.int .i64 q,.nilIface])):=by
 obtain⟨ns,hs,hK⟩:=h;exact(abQ hs.st (hK _ hx) hS).mono fun _ _ hr=>⟨hr.1,ns,hs.below hr.2,hK⟩
theorem Run.spot (h:Run s g N K l W)(hN:N+1<20000){u:Nat}(hv:v<18446744073709551616)(hu:u<18446744073709551616)(fv:fin v)(fu:fin u):Calls Tryz.prog 17 #[.pointer (some ⟨g,0,none⟩),.float .f64 v,.float .f64 u] W (RtP s g (N+2) K l (.leaf v) (.leaf u)):=by
 obtain⟨ns,hs,hK⟩:=h;exact(amP hs.st hN hv hu fv fu trivial trivial).mono fun _ _ hr=>ajZ hs hK hr
variable{px py qx qy rx ry:Ex}{i' j' k':Nat}
theorem Run.cmpS (h:Run s g N K l W)(hN:N+1<20000)(h1:(px,i)∈K)(h2:(py,i')∈K)(h3:(qx,j)∈K)(h4:(qy,j')∈K)(hc:iK PT px py qx qy q):Calls Tryz.prog 29 #[bY g i i',bY g j j'] W (RtA s g (N+2) K l (.tuple #[.int .i64 q,.nilIface])):=by
 obtain⟨ns,hs,hK⟩:=h;exact(abR hs.st hN (hK _ h1) (hK _ h2) (hK _ h3) (hK _ h4) hc).mono fun _ _ hr=>vV hs hK hr
theorem Run.same (h:Run s g N K l W)(hN:N+1<20000)(h1:(px,i)∈K)(h2:(py,i')∈K)(h3:(qx,j)∈K)(h4:(qy,j')∈K)(hc:iK PT px py qx qy q):Calls Tryz.prog 14 #[bY g i i',bY g j j'] W (RtA s g (N+2) K l (.tuple #[.bool (q==0),.nilIface])):=by
 obtain⟨ns,hs,hK⟩:=h;exact(agS hs.st hN (hK _ h1) (hK _ h2) (hK _ h3) (hK _ h4) hc).mono fun _ _ hr=>vV hs hK hr
end
theorem aeV{w0 w1:World}{l:List (Nat×Obj)}(hb1:Below w0.heap.size w0 w1)(hk:∀p∈l,w1.heap[p.1]? =some p.2/\w0.heap.size<=p.1)(hn:(l.map (·.1)).Nodup)(hT:Tab w0)(htb:1<w0.heap.size):
 Calls Tryz.prog 9 #[.bool true] w1 (fun e W=>∃g,e=.returned (.pointer (some ⟨g,0,none⟩))/\Run (bs w0) g 0 [] l W):=by
 refine(amK (P:=PT) (hT.below hb1) (baR htb hb1.size) nlr).mono ?_;rintro e W⟨g,rfl,hs,hb,-⟩;exact⟨g,rfl,Run.start hb1 hk hn htb hs hb⟩
end Go.Proofs.YtaojpfcboainmaaGreatDoor
namespace Go.Proofs.YtaojpfcboainmaaGreatDoor
open Go.RowKit
open Go.Instr renaming loadAt->baW,sureAddr->baX,storeAt->baY
variable{k:Nat}{t:TypeId}{v:Value}
section
variable{P:Program}{w:World}{b off:Nat}{T:TypeId}{cs:List Value}
theorem aB(h:w.heap[b]? =some (.cells cs.toArray T (0,0)))(hv:cs[k]? =some v):w.cell? ⟨b,k,none⟩=some v:=by
 simp[World.cell?,h,hv]
theorem lcf(h:w.heap[b]? =some (.cells cs.toArray T (0,0))):∀(n i:Nat) (acc:Array Value),off+i+n<=cs.length->(loadCellsFrom ⟨b,off,none⟩ i n acc).run P w=.ok (acc++((cs.drop (off+i)).take n).toArray) w:=by
 intro n
 induction n with
 |zero=>intro i acc _;simp[loadCellsFrom,go_sem]
 |succ n ih=>
  intro i acc hl;obtain⟨v,hv⟩:∃v,cs[off+i]? =some v:=⟨_,List.getElem?_eq_getElem (by omega)⟩;have hc:=aB h hv;have e:(cs.drop (off+i)).take (n+1)=v::(cs.drop (off+(i+1))).take n:=by
   have h1:=(List.getElem?_eq_some_iff.1 hv);obtain⟨h2,h3⟩:=h1;rw[List.drop_eq_getElem_cons h2,List.take_succ_cons,h3,Nat.add_assoc]
  have e2:Addr.add ⟨b,off,none⟩ i=⟨b,off+i,none⟩:=by simp[Addr.add]
  unfold loadCellsFrom;simp[go_sem,e2,hc,ih (i+1) _ (by omega),e]
theorem aoP{n:Nat}(hT:(isAgg t).run P w=.ok true w)(hn:(sizeOf t).run P w=.ok n w)(h:w.heap[b]? =some (.cells cs.toArray T (0,0)))(hl:off+n<=cs.length):
 (baW t (.pointer (some ⟨b,off,none⟩))).run P w=.ok (.agg ((cs.drop off).take n).toArray) w:=by
 simp[baW,baX,loadVar,go_sem,hT,hn,loadCells,lcf h n 0 #[] (by omega)]
theorem aoQ(hT:(isAgg t).run P w=.ok false w)(h:w.heap[b]? =some (.cells cs.toArray T (0,0)))(hv:cs[off]? =some v):
 (baW t (.pointer (some ⟨b,off,none⟩))).run P w=.ok v w:=by
 simp[baW,baX,loadVar,go_sem,hT,aB h hv]
def okV:Value->Bool
 | .pointer _| .int _ _| .bool _| .float _ _| .nilIface| .iface _ _| .slice _ _ _=>true
 |_=>false
theorem aoR(h:w.heap[b]? =some (.cells cs.toArray T (0,0)))(hk:k<cs.length)(hv:okV v=true):(store ⟨b,k,none⟩ v).run P w=.ok () (w.setCell ⟨b,k,none⟩ v):=by
 obtain⟨u,hu⟩:∃u,cs[k]? =some u:=⟨_,List.getElem?_eq_getElem hk⟩;have hc:=aB h hu;have hf:w.frozen? ⟨b,k,none⟩=false:=by simp[World.frozen?,h]
 cases v<;>first
  |(exfalso;revert hv;simp[okV];done)
  |(rw[run_store P w _ _ _ rfl];simp[stored,hc,hf])
theorem kC(h:w.heap[b]? =some (.cells cs.toArray T (0,0))):(w.setCell ⟨b,k,none⟩ v).heap[b]? =some (.cells (cs.set k v).toArray T (0,0)):=by
 have hg:b<w.heap.size:=(Array.getElem?_eq_some_iff.1 h).1;have h':w.heap[b]=.cells cs.toArray T (0,0):=(Array.getElem?_eq_some_iff.1 h).2;simp[World.setCell,hg,Array.getElem_modify,h']
def splice(cs:List Value)(k:Nat)(vs:List Value):List Value:=cs.take k++vs++cs.drop (k+vs.length)
theorem mH(w:World)(row:Option Nat):w.grownBy w row:=⟨rfl,rfl,rfl,Nat.le_refl _,fun _ _ _=>rfl⟩
theorem aj0:∀(vs:List Value) (k:Nat) (cs:List Value) (w:World),w.heap[b]? =some (.cells cs.toArray T (0,0))->off+k+vs.length<=cs.length->vs.all okV=true->
 ∃w',(storeCells ⟨b,off,none⟩ vs k).run P w=.ok () w'/\w.grownBy w' (some b)/\w'.heap[b]? =some (.cells (splice cs (off+k) vs).toArray T (0,0)):=by
 intro vs
 induction vs with
 |nil=>intro k cs w h _ _;exact⟨w,by simp[storeCells,go_sem],mH w _,by rw[h];simp[splice]⟩
 |cons v vs ih=>
  intro k cs w h hl hv;rw[List.length_cons]at hl;simp only[List.all_cons,Bool.and_eq_true]at hv;have h1:=aoR (P:=P) (k:=off+k) h (by omega) hv.1;obtain⟨w',q1,q2,q3⟩:=ih (k+1) (cs.set (off+k) v) (w.setCell ⟨b,off+k,none⟩ v) (kC h) (by rw[List.length_set];omega) hv.2;refine⟨w',?_,grownBy_trans (grownBy_set (mH w _) v) q2,?_⟩
  . have e2:Addr.add ⟨b,off,none⟩ k=⟨b,off+k,none⟩:=by simp[Addr.add]
    unfold storeCells;simp[go_sem,e2,h1,q1]
  . rw[q3]
    have:splice (cs.set (off+k) v) (off+(k+1)) vs=splice cs (off+k) (v::vs):=by
     unfold splice;rw[List.length_cons,List.drop_set_of_lt (by omega),show off+(k+1)+vs.length=off+k+(vs.length+1) by omega,<-Nat.add_assoc off k 1,List.take_add_one,List.getElem?_set_self (by omega),List.take_set_of_le (by omega)];simp
    rw[this]
theorem aoS{c:List Value}(hc:v.cells=c.toArray)(hn:(sizeOf t).run P w=.ok cs.length w)(h:w.heap[b]? =some (.cells cs.toArray T (0,0)))(hl:c.length=cs.length)(hv:c.all okV=true):
 ∃w',(baY t (.pointer (some ⟨b,0,none⟩)) v).run P w=.ok () w'/\w.grownBy w' (some b)/\w'.heap[b]? =some (.cells c.toArray T (0,0)):=by
 obtain⟨w',q1,q2,q3⟩:=aj0 (P:=P) (off:=0) c 0 cs w h (by omega) hv;refine⟨w',?_,q2,?_⟩
 . simp only[baY,baX,storeVar,hc]
   simp[go_sem,hn,hl,q1]
 . rw[q3]
   unfold splice;simp[hl]
end
end Go.Proofs.YtaojpfcboainmaaGreatDoor
