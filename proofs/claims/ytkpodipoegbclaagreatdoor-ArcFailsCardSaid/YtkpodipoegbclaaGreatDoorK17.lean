/- A part of the proof: contracts of functions and plain laws (RlE, RlF, SpA, Stg, RunA, SymA, SymB, SymK, SymC, SymE, SymF, RunB, OwR, InB). -/
import Derived.Test.YtkpodipoegbclaaGreatDoorK16
import Derived.Test.YtkpodipoegbclaaGreatDoorK01
import Derived.RegionTactic
import Derived.Test.YtkpodipoegbclaaGreatDoorK13
import Derived.Test.YtkpodipoegbclaaGreatDoorK14
set_option linter.unusedVariables false
set_option linter.unusedSimpArgs false
set_option maxHeartbeats 25600000
set_option maxRecDepth 100000
namespace Go.Proofs.YtkpodipoegbclaaGreatDoor
section
open Go.RowKit Go.Maps
open Nat renaming le_trans->azA,not_lt->azB
open Option.some renaming inj->ay9
variable{o o':Obj}
theorem add_num{P:Ex->Prop}{B N:Nat}{w:World}{g i:Nat}{ns:List Nd}{v:Value}{l:List Nat}{e0:Ex}{es:List Ex}(hs:St P B N w g ns)(hl:NumsP w v g l)(hlen:l.length=es.length)(h0:0<l.length)
 (he0:Is ns e0 i) (hes:∀(m x:Nat) e,l[m]? =some x->es[m]? =some e->Is ns e x) (hP:∀m,m<es.length->P (iP 1 e0 (es.take (m+1)))) (hN:N+l.length<=20000):
 Calls Tryz.prog 20 #[numV g i,v] w (RetE P B (N+l.length) w g ns (numV g) (iP 1 e0 es)):=by
 obtain⟨w2,hw2,hb2,hs2,b1,b2⟩:=pro2 w (.cells #[.pointer (some ⟨g,0,none⟩),.int .i64 (i:Int)] 26) (.cells #[.pointer none,.int .i64 0] 26);have hll:∀x∈l,x<ns.length:=fun x hx=>by
  obtain⟨m,hm⟩:=List.getElem?_of_mem hx;have hml:=(List.getElem?_eq_some_iff.1 hm).1;exact(hes m x es[m] hm (List.getElem?_eq_getElem (by omega))).lt
 have HG:=hdd (vB (hs.dag.below hb2) he0.lt (hl.below hb2) hll);have HIDS:Hid (∀w',Below w.heap.size w w'->Calls Tryz.prog 66 #[.agg #[.pointer (some ⟨g,0,none⟩),.int .i64 (i:Int)],v] w' (adF w' (i::l))):=hdd fun w' h=>alF (hl.below h);have HAW:Hid (∀w' (c:Nat),Below w.heap.size w w'->w.heap.size<=c->¬DagB w' g c):=hdd fun w' c h=>hs.away h;have HOP:Hid (∀w' v' (q:Nat),Below w.heap.size w w'->w.heap.size<=q->IntsP (fun b=>q<=b) w' v' (i::l)->Calls Tryz.prog 65 #[.pointer (some ⟨g,0,none⟩),v'] w' (RetE P B (N+l.length) w' g ns idV (iP 1 e0 es))):=
  hdd fun w' v' q h hq hi=>by
   obtain⟨b,c,q1,q2,q3,q4,q5,q6⟩:=hi;exact ai7 (hs.below h) ⟨b,c,q1,q2,q3,hs.away h (azA hq q4),q5,q6⟩ hlen h0 he0 hes hP hN
 have HGL:=hdd hs.dag.glt;have HBL:=hdd hs.hB;obtain⟨e0',e1',-,-⟩:=aB b1;have HB2:=hdd hb2;have B2:=hdd b2;have HSZ:Hid (w.heap.size+1<w2.heap.size):=hdd (by omega);obtain⟨bv,cv,rfl,-⟩:=id hl;clear hs hl hlen h0 he0 hes hP hN hll hb2 hs2 b1 b2;go_enter Tryz.func20,Tryz.ntmps20
 go_wp2_with fail
 refine HG.out.mono ?_;rintro e w5⟨rfl,hb5⟩;have hb5d:Below w2.heap.size w2 w5.drew:=aA hb5 (Below.refl _ _).drew;replace e0':=cell_below e0' hb5d nlr;replace e1':=cell_below e1' hb5d nlr;have HB5:=hdd (aA HB2.out hb5d);have B5:=hdd (hbl B2.out hb5d);clear hb5 hb5d;have n1:w.heap.size+1≠w.heap.size:=by omega
 have n2:w.heap.size≠w.heap.size+1:=by omega
 go_wp2_with fail
 go_region_held3 (fun w'=>w'.cell? ⟨w.heap.size,0,none⟩=some (.pointer (some ⟨g,0,none⟩))/\w'.cell? ⟨w.heap.size,1,none⟩=some (.int .i64 (i:Int))) (go_keep)
  (first
  |(go_at_call 66
    refine(HIDS.out _ HB5.out).mono ?_;rintro e w6⟨hb6,v6,rfl,hi6⟩;have e0':=cell_below e0' hb6 nlr;have e1':=cell_below e1' hb6 nlr;have HB6:=hdd (aA HB5.out hb6);have B6:=hdd (hbl B5.out hb6);have HADD:=hdd (HOP.out w6 v6 _ HB6.out HB5.out.size hi6);obtain⟨b6,c6,rfl,-⟩:=hi6;clear hb6)
  |(go_at_call 65
    refine HADD.out.mono ?_;rintro e w7⟨k,ns',rfl,h1,h2,h3,h4⟩;have e0':=h4.cell e0' (HAW.out _ _ HB6.out (by simp));have e1':=h4.cell e1' (HAW.out _ _ HB6.out (by simp));have hlt6:w.heap.size+1<w6.heap.size:=aG B6.out;have B7:=(h4.heap (b:=w.heap.size+1) hlt6 (HAW.out _ _ HB6.out (by omega))).trans B6.out;obtain⟨r0,r1,f0,f1⟩:=aB B7;have HF:Hid (FoldSt P B (N+l.length) w g ns (iP 1 e0 es) k ((w7.setCell ⟨w.heap.size+1,0,none⟩ (.pointer (some ⟨g,0,none⟩))).setCell ⟨w.heap.size+1,1,none⟩ (.int .i64 (k:Int)))):=
     hdd (FoldSt.set2 (w0:=w) ⟨ns',h1,h2,h3,h4⟩ (Or.inr trivial) HGL.out HB6.out (by omega) (HAW.out _ _ HB6.out (by omega)) hlt6 (by have:=HBL.out;omega) _ _)
    have HX:=hdd (set2 B7 (.pointer (some ⟨g,0,none⟩)) (.int .i64 (k:Int)));clear h1 h2 h3 h4 B7 hlt6))
 go_wp2;obtain⟨x0,x1,-,-⟩:=aB HX.out;refine bodyPost_ret (v:=.agg #[_,_]) (by simp[results,Tryz.results20,go_sem,x0,x1];first|exact⟨rfl,rfl⟩|rfl) rfl ?_;exact HF.out.ret (numV g)
theorem agA{w:World}{g k:Nat}{ns:List Nd}(hd:DagP w g ns)(hk:k<ns.length):
 Calls Tryz.prog 43 #[.agg #[.pointer (some ⟨g,0,none⟩),.int .i64 (k:Int)],.slice none 0 0] w (RetV w (.bool true)):=by
 obtain⟨w1,hw1,hb1,hs1,b1⟩:=pro1 w (.cells #[.pointer (some ⟨g,0,none⟩),.int .i64 (k:Int)] 26);obtain⟨c0,c1,-,-⟩:=aB b1;have HV:=hdd (kK (hd.below hb1) hk);have HB:=hdd hb1;clear hd hk hb1 hs1 b1;go_enter Tryz.func43,Tryz.ntmps43
 go_wp2_with fail
 refine HV.out.mono ?_;rintro e w2⟨rfl,hb2⟩;have HB2:=hdd (aA HB.out hb2);clear hb2;go_wp2_with fail
 go_loopw [12] (fun i wr=>i=.int .i64 0/\Hid (wr=w2)) (fun _ _=>0)
 case atStart=>exact⟨rfl,hdd rfl⟩
 case round=>
  obtain⟨rfl,HW⟩:=hrel;obtain rfl:=HW.out;clear HW;go_wp2;go_ret;exact⟨rfl,HB2.out⟩
theorem ajB{P:Ex->Prop}{B N:Nat}{w:World}{g i:Nat}{ns:List Nd}{a:Ex}(hs:St P B N w g ns)(hN:N<20000)(ha:Is ns a i)(hP:P (.root a)):
 Calls Tryz.prog 10 #[numV g i] w (RetE P B (N+1) w g ns (numV g) (.root a)):=by
 obtain⟨w4,hw4,hb4,hs4,b1,b2⟩:=pro2 w (.cells #[.pointer (some ⟨g,0,none⟩),.int .i64 (i:Int)] 26) (.cells #[.pointer none,.int .i64 0] 26);have HG:=hdd (agA (hs.dag.below hb4) ha.lt);have HOP:Hid (∀w',Below w.heap.size w w'->Calls Tryz.prog 45 #[.pointer (some ⟨g,0,none⟩),.int .i64 (i:Int)] w' (RetE P B (N+1) w' g ns idV (.root a))):=hdd fun w' h=>ai3 (hs.below h) hN ha hP;have HAW:Hid (∀w' (c:Nat),Below w.heap.size w w'->w.heap.size<=c->¬DagB w' g c):=hdd fun w' c h=>hs.away h;have HGL:=hdd hs.dag.glt;have HBL:=hdd hs.hB;obtain⟨e0,e1,-,-⟩:=aB b1;have HB4:=hdd hb4;have B3:=hdd b2;clear hs hN ha hP hb4 b1 b2 hs4;go_enter Tryz.func10,Tryz.ntmps10
 go_wp2_with fail
 refine HG.out.mono ?_;rintro e w5⟨rfl,hb5⟩;have hb5d:Below w4.heap.size w4 w5.drew:=aA hb5 (Below.refl _ _).drew;replace e0:=cbl e0 hb5d;replace e1:=cbl e1 hb5d;have HB5:=hdd (aA HB4.out hb5d);have B5:=hdd (hbl B3.out hb5d);clear hb5 hb5d hw4;have n1:w.heap.size+1≠w.heap.size:=by omega
 have n2:w.heap.size≠w.heap.size+1:=by omega
 go_wp2_with fail
 go_region_held3 (fun w'=>w'.cell? ⟨w.heap.size,0,none⟩=some (.pointer (some ⟨g,0,none⟩))/\w'.cell? ⟨w.heap.size,1,none⟩=some (.int .i64 (i:Int))) (go_keep)
  (first
  |(go_at_call 45
    refine(HOP.out _ HB5.out).mono ?_;rintro e w6⟨k,ns',rfl,h1,h2,h3,h4⟩;have e0:=h4.cell e0 (HAW.out _ _ HB5.out (by simp));have e1:=h4.cell e1 (HAW.out _ _ HB5.out (by simp));have hlt5:w.heap.size+1<w5.drew.heap.size:=aG B5.out;have B6:=(h4.heap (b:=w.heap.size+1) hlt5 (HAW.out _ _ HB5.out (by omega))).trans B5.out;obtain⟨r0,r1,f0,f1⟩:=aB B6;have HF:Hid (FoldSt P B (N+1) w g ns (.root a) k ((w6.setCell ⟨w.heap.size+1,0,none⟩ (.pointer (some ⟨g,0,none⟩))).setCell ⟨w.heap.size+1,1,none⟩ (.int .i64 (k:Int)))):=
     hdd (FoldSt.set2 (w0:=w) ⟨ns',h1,h2,h3,h4⟩ (Or.inr trivial) HGL.out HB5.out (by omega) (HAW.out _ _ HB5.out (by omega)) hlt5 (by have:=HBL.out;omega) _ _)
    have HX:=hdd (set2 B6 (.pointer (some ⟨g,0,none⟩)) (.int .i64 (k:Int)));clear h1 h2 h3 h4 B6 hlt5))
 go_wp2;obtain⟨x0,x1,-,-⟩:=aB HX.out;refine bodyPost_ret (v:=.agg #[_,_]) (by simp[results,Tryz.results10,go_sem,x0,x1];first|exact⟨rfl,rfl⟩|rfl) rfl ?_;exact HF.out.ret (numV g)
def RetS(w:World)(s:Int)(e:Ending)(w':World):Prop:=e=.returned (.tuple #[.int .i64 s,.nilIface])/\Below w.heap.size w w'
def gM(P:Ex->Prop)(x:Ex)(s:Int):Prop:=∀(B N:Nat) (w:World) (g k:Nat) (ns:List Nd),St P B N w g ns->Is ns x k->
 Calls Tryz.prog 68 #[.pointer (some ⟨g,0,none⟩),.int .i64 (k:Int),.slice none 0 0] w (RetS w s)
def RetQ(P:Ex->Prop)(B N:Nat)(w:World)(g:Nat)(ns:List Nd)(v:Value)(e:Ending)(w':World):Prop:=
 e=.returned v/\∃ns',St P B N w' g ns'/\ns<+:ns'/\DS g w w'
theorem vD{P:Ex->Prop}{B N:Nat}{w:World}{g k:Nat}{ns:List Nd}{x:Ex}{s:Int}(hs:St P B N w g ns)(hx:Is ns x k)(hS:gM P x s):
 Calls Tryz.prog 24 #[numV g k] w (RetS w s):=by
 obtain⟨w1,hw1,hb1,hs1,b1⟩:=pro1 w (.cells #[.pointer (some ⟨g,0,none⟩),.int .i64 (k:Int)] 26);obtain⟨c0,c1,-,-⟩:=aB b1;have HV:=hdd (kK (hs.dag.below hb1) hx.lt);have HS:Hid (∀w',Below w.heap.size w w'->Calls Tryz.prog 68 #[.pointer (some ⟨g,0,none⟩),.int .i64 (k:Int),.slice none 0 0] w' (RetS w' s)):=hdd fun w' h=>hS B N w' g k ns (hs.below h) hx;have HB:=hdd hb1;clear hs hx hS hb1 hs1 b1;go_enter Tryz.func24,Tryz.ntmps24
 go_wp2_with fail
 refine HV.out.mono ?_;rintro e w2⟨rfl,hb2⟩;replace c0:=cbl c0 hb2;replace c1:=cbl c1 hb2;have HB2:=hdd (aA HB.out hb2);clear hb2;go_wp2_with fail
 refine(HS.out _ HB2.out).mono ?_;rintro e w3⟨rfl,hb3⟩;have HB3:=hdd (aA HB2.out hb3);clear hb3;go_wp2
 go_ret2
 exact⟨rfl,HB3.out⟩
theorem alH{P:Ex->Prop}{B N:Nat}{w:World}{g i j:Nat}{ns:List Nd}{a b:Ex}{s:Int}(hs:St P B N w g ns)(hN:N<20000)(ha:Is ns a i)(hb:Is ns b j)(hP:P (.sub a b))(hS:gM P (.sub a b) s):
 Calls Tryz.prog 21 #[numV g i,numV g j] w (RetQ P B (N+1) w g ns (.tuple #[.int .i64 s,.nilIface])):=by
 obtain⟨w2,hw2,hb2,hs2,b1,b2⟩:=pro2 w (.cells #[.pointer (some ⟨g,0,none⟩),.int .i64 (i:Int)] 26) (.cells #[.pointer (some ⟨g,0,none⟩),.int .i64 (j:Int)] 26);obtain⟨c0,c1,-,-⟩:=aB b1;obtain⟨d0,d1,-,-⟩:=aB b2;have HSUB:=hdd (aeC (hs.below hb2) hN ha hb hP);have HDS:=hdd (DS.of_below hs.dag.glt hb2);have HSG:Hid (∀w' k ns',St P B (N+1) w' g ns'->Is ns' (.sub a b) k->Calls Tryz.prog 24 #[numV g k] w' (RetS w' s)):=hdd fun w' k ns' h1 h2=>vD h1 h2 hS;clear hs hN ha hb hP hS hb2 hs2 b1 b2;go_enter Tryz.func21,Tryz.ntmps21
 go_wp2_with fail
 refine HSUB.out.mono ?_;rintro e w3⟨k,ns',rfl,h1,h2,h3,h4⟩;have HC:=hdd (HSG.out w3 k ns' h1 h3);have HR:Hid (∀w',Below w3.heap.size w3 w'->RetQ P B (N+1) w g ns (.tuple #[.int .i64 s,.nilIface]) (.returned (.tuple #[.int .i64 s,.nilIface])) w'):=hdd fun w' h=>⟨rfl,ns',h1.below h,h2,HDS.out.trans (h4.trans (DS.of_below h1.dag.glt h))⟩;clear h1 h2 h3 h4;go_wp2_with fail
 refine HC.out.mono ?_;rintro e w4⟨rfl,hb4⟩;have HF:=hdd (HR.out _ hb4);clear hb4;go_wp2
 go_ret2
 exact HF.out
def Grew(P:Ex->Prop)(B N:Nat)(w:World)(g:Nat)(ns ns':List Nd)(w':World):Prop:=St P B N w' g ns'/\ns<+:ns'/\DS g w w'
section
variable{P:Ex->Prop}{B N:Nat}{w w' w'' w0:World}{g:Nat}{ns ns':List Nd}
theorem Grew.below (h:Grew P B N w g ns ns' w')(hb:Below w'.heap.size w' w''):Grew P B N w g ns ns' w'':=
 ⟨h.1.below hb,h.2.1,h.2.2.trans (DS.of_below h.1.dag.glt hb)⟩
theorem Grew.trans {M:Nat}{ns'':List Nd}(h:Grew P B N w g ns ns' w')(k:Grew P B M w' g ns' ns'' w''):Grew P B M w g ns ns'' w'':=⟨k.1,h.2.1.trans k.2.1,h.2.2.trans k.2.2⟩
end
structure Stg(P:Ex->Prop)(B N:Nat)(w:World)(g:Nat)(ns:List Nd)(W:World)(ns':List Nd)(l:List (Nat×Obj)):Prop where
 grew:Grew P B N w g ns ns' W
 kept:∀p∈l,W.heap[p.1]? =some p.2/\¬DagB W g p.1/\w.heap.size<=p.1
 hw:B<=w.heap.size
 nodup:(l.map (·.1)).Nodup
section
variable{P:Ex->Prop}{B N M:Nat}{w W W':World}{g:Nat}{ns ns' ns'':List Nd}{l:List (Nat×Obj)}
theorem Stg.st (h:Stg P B N w g ns W ns' l):St P B N W g ns':=h.grew.1
theorem Stg.lt (h:Stg P B N w g ns W ns' l){p:Nat×Obj}(hp:p∈l):p.1<W.heap.size:=aG (h.kept p hp).1
theorem Stg.below (h:Stg P B N w g ns W ns' l)(hb:Below W.heap.size W W'):Stg P B N w g ns W' ns' l:=
 ⟨h.grew.below hb,fun p hp=>⟨aC (h.kept p hp).1 hb (h.lt hp),fun hd=>(h.kept p hp).2.1 ((DagB.congr (hb.block g h.grew.1.dag.glt)).1 hd),(h.kept p hp).2.2⟩,h.hw,h.nodup⟩
theorem Stg.alloc (h:Stg P B N w g ns W ns' l)(o:Obj):Stg P B N w g ns (W.alloc o) ns' ((W.heap.size,o)::l):=by
 have hb:Below W.heap.size W (W.alloc o):=aO W o;have h':=h.below hb;refine⟨h'.grew,fun p hp=> ?_,h.hw,?_⟩
 . rcases List.mem_cons.1 hp with rfl|hp
   . exact⟨heap_alloc_new W o,fun hd=>by have:=h.grew.1.dag.dagB ((DagB.congr (hb.block g h.grew.1.dag.glt)).1 hd);simp at this,h.grew.2.2.size⟩
   . exact h'.kept p hp
 . simp only[List.map_cons,List.nodup_cons]
   refine⟨fun hm=> ?_,h.nodup⟩;obtain⟨p,hp,e⟩:=List.mem_map.1 hm;have:=h.lt hp;omega
theorem Stg.step (h:Stg P B N w g ns W ns' l)(hs:St P B M W' g ns'')(hp:ns'<+:ns'')(hd:DS g W W'):Stg P B M w g ns W' ns'' l:=
 ⟨h.grew.trans ⟨hs,hp,hd⟩,fun p hp=>⟨(hd.heap (h.lt hp) (h.kept p hp).2.1).trans (h.kept p hp).1,hd.2 _ (h.lt hp) (h.kept p hp).2.1,(h.kept p hp).2.2⟩,h.hw,h.nodup⟩
theorem Stg.more (h:Stg P B N w g ns W ns' l)(hM:N<=M):Stg P B M w g ns W ns' l:=⟨⟨h.grew.1.more hM,h.grew.2⟩,h.kept,h.hw,h.nodup⟩
theorem DagP.off {b:Nat}(h:DagP W g ns)(hn:¬DagB W g b)(hg:W.grownBy W' (some b)):DagP W' g ns:=by
 obtain⟨A,c,mb,m,ho⟩:=h.opened;obtain⟨q1,q2,q3⟩:=ho.dagB hn;obtain⟨h1,h2,h3,h4⟩:=ho;exact(show DagO _ g ns A c mb m from⟨(hg.block g (aG h1) (fun e=>q1 (ay9 e).symm)).trans h1,h2.kept hg (Or.inr q3),h3.keep (hg.block mb h3.lt (fun e=>q2 (ay9 e).symm)),h4⟩).dag
theorem Stg.write {b:Nat}(h:Stg P B N w g ns W ns' ((b,o)::l))(hb:W.grownBy W' (some b))(ho:W'.heap[b]? =some o'):Stg P B N w g ns W' ns' ((b,o')::l):=by
 obtain⟨q1,q2,q3⟩:=h.kept (b,o) (by simp);have hgb:some g≠some b:=fun e=>q2 (Or.inl (ay9 e).symm);have hg:=hb.block g h.grew.1.dag.glt hgb;have hst:=h.grew.1;have hwz:w.heap.size<=W.heap.size:=h.grew.2.2.size;refine⟨⟨⟨hst.dag.off q2 hb,hst.all,fun c hc=>hst.hi c ((DagB.congr hg).1 hc),?_,hst.tb,azA hst.hB hb.size,hst.room⟩,h.grew.2.1,?_⟩,?_,h.hw,h.nodup⟩
 . exact hst.tab.step (hb.block _ (by have:=hst.tb;have:=hst.hB;omega) (fun e=>by have:=ay9 e;have:=hst.tb;have:=h.hw;simp only at q3;omega))
 . refine⟨⟨hb.os.trans h.grew.2.2.1.os,hb.tape.trans h.grew.2.2.1.tape,hb.output.trans h.grew.2.2.1.output,azA hwz hb.size,fun c hc hn=> ?_⟩,fun c hc hn hd=>h.grew.2.2.2 c hc hn ((DagB.congr hg).1 hd)⟩
   exact(hb.block c (by omega) (fun e=>by have:=ay9 e;simp only at q3;omega)).trans (h.grew.2.2.1.block c hc hn)
 . intro p hp
   rcases List.mem_cons.1 hp with rfl|hp
   . exact⟨ho,fun hd=>q2 ((DagB.congr hg).1 hd),q3⟩
   . have hne:p.1≠b:=fun e=>(List.nodup_cons.1 h.nodup).1 (List.mem_map.2 ⟨p,hp,e⟩)
     obtain⟨r1,r2,r3⟩:=h.kept p (by simp[hp]);exact⟨(hb.block p.1 (aG r1) (fun e=>hne (ay9 e))).trans r1,fun hd=>r2 ((DagB.congr hg).1 hd),r3⟩
end
abbrev numO(g k:Nat):Obj:=.cells #[.pointer (some ⟨g,0,none⟩),.int .i64 (k:Int)] 26
section
variable{P:Ex->Prop}{B N M:Nat}{w W W':World}{g i j b v:Nat}{ns ns' ns'':List Nd}{l:List (Nat×Obj)}{x y:Ex}
end
abbrev PT:Ex->Prop:=fun _=>True
section
variable{α:Type}{a:α}{l:List α}
theorem m0:a∈a::l:=.head _
theorem m1{b0:α}:a∈b0::a::l:=.tail _ m0
theorem m2{b0 b1:α}:a∈b0::b1::a::l:=.tail _ m1
theorem m3{b0 b1 b2:α}:a∈b0::b1::b2::a::l:=.tail _ m2
theorem m4{b0 b1 b2 b3:α}:a∈b0::b1::b2::b3::a::l:=.tail _ m3
theorem m5{b0 b1 b2 b3 b4:α}:a∈b0::b1::b2::b3::b4::a::l:=.tail _ m4
theorem m6{b0 b1 b2 b3 b4 b5:α}:a∈b0::b1::b2::b3::b4::b5::a::l:=.tail _ m5
end
structure Bs where
 w:World
 B:Nat
 ns:List Nd
abbrev bs(w:World):Bs:=⟨w,w.heap.size,[]⟩
def Run(s:Bs)(g N:Nat)(K:List (Ex×Nat))(l:List (Nat×Obj))(W:World):Prop:=∃ns',Stg PT s.B N s.w g s.ns W ns' l/\∀p∈K,Is ns' p.1 p.2
section
variable{s:Bs}{w0 w1 W W':World}{g N M:Nat}{K:List (Ex×Nat)}{l l':List (Nat×Obj)}
theorem Run.start (hb1:Below w0.heap.size w0 w1)(hk:∀p∈l,w1.heap[p.1]? =some p.2/\w0.heap.size<=p.1)(hn:(l.map (·.1)).Nodup)(htb:1<w0.heap.size)
 (hs:St PT w1.heap.size 0 W g []) (hb:Below w1.heap.size w1 W):Run (bs w0) g 0 [] l W:=by
 have hz:=hb1.size;have hst:St PT w0.heap.size 0 W g []:=⟨hs.dag,hs.all,fun b h=>azA hz (hs.hi b h),hs.tab,htb,azA hz hs.hB,hs.room⟩;refine⟨[],⟨⟨hst,List.prefix_rfl,Fr.of_below (hb1.trans (hb.mono hz)),fun b hlt _ hd=>absurd hlt (azB.2 (hst.hi _ hd))⟩,fun p hp=> ?_,Nat.le_refl _,hn⟩,fun p hp=>by cases hp⟩;obtain⟨h1,h2⟩:=hk p hp;have hlt:=aG h1;exact⟨aC h1 hb hlt,fun hd=>by have:=hs.hi _ hd;omega,h2⟩
theorem Run.below (h:Run (bs w0) g N K l W):Below w0.heap.size w0 W:=by
 obtain⟨ns',hs,-⟩:=h;refine hs.grew.2.2.below nlr fun b hb=> ?_;rcases hb with rfl|⟨v,mb,T,e,-⟩
 . exact hs.st.hi _ (Or.inl rfl)
 . exact absurd (aG e) (azB.2 (hs.st.hi _ (Or.inl rfl)))
theorem Run.kept (h:Run s g N K l W):∀p∈l,W.heap[p.1]? =some p.2:=fun p hp=>by obtain⟨ns',hs,-⟩:=h;exact(hs.kept p hp).1
theorem Run.nodup (h:Run s g N K l W):(l.map (·.1)).Nodup:=by obtain⟨ns',hs,-⟩:=h;exact hs.nodup
theorem Run.at (h:Run s g N K l W){b:Nat}(hp:(b,o)∈l):W.heap[b]? =some o:=h.kept _ hp
theorem Run.step (h:Run s g N K l W)(hb:Below W.heap.size W W'):Run s g N K l W':=by obtain⟨ns',hs,hK⟩:=h;exact⟨ns',hs.below hb,hK⟩
theorem Run.more (h:Run s g N K l W)(hM:N<=M):Run s g M K l W:=by obtain⟨ns',hs,hK⟩:=h;exact⟨ns',hs.more hM,hK⟩
theorem Run.drew (h:Run s g N K l W):Run s g N K l W.drew:=h.step (Below.refl _ _).drew
theorem Run.alloc (h:Run s g N K l W)(o:Obj):Run s g N K ((W.heap.size,o)::l) (W.alloc o):=by obtain⟨ns',hs,hK⟩:=h;exact⟨ns',hs.alloc o,hK⟩
theorem Run.sub (h:Run s g N K l W)(hl:∀p∈l',p∈l)(hn:(l'.map (·.1)).Nodup):Run s g N K l' W:=by obtain⟨ns',hs,hK⟩:=h;exact⟨ns',⟨hs.grew,fun p hp=>hs.kept p (hl p hp),hs.hw,hn⟩,hK⟩
theorem Run.few (h:Run s g N K l W){K':List (Ex×Nat)}(hs:∀p∈K',p∈K):Run s g N K' l W:=by obtain⟨ns',h1,hK⟩:=h;exact⟨ns',h1,fun p hp=>hK p (hs p hp)⟩
theorem Run.write {b:Nat}(h:Run s g N K ((b,o)::l) W)(hb:W.grownBy W' (some b))(ho:W'.heap[b]? =some o'):Run s g N K ((b,o')::l) W':=by obtain⟨ns',hs,hK⟩:=h;exact⟨ns',hs.write hb ho,hK⟩
end
def RtR(s:Bs)(g N:Nat)(K:List (Ex×Nat))(l:List (Nat×Obj))(x:Ex)(e:Ending)(W':World):Prop:=∃k,e=.returned (numV g k)/\Run s g N ((x,k)::K) l W'
def RtA(s:Bs)(g N:Nat)(K:List (Ex×Nat))(l:List (Nat×Obj))(v:Value)(e:Ending)(W':World):Prop:=e=.returned v/\Run s g N K l W'
section
variable{s:Bs}{W W':World}{g N M:Nat}{K:List (Ex×Nat)}{l:List (Nat×Obj)}{x y:Ex}{ns:List Nd}
theorem ajC{ns':List Nd}{N:Nat}{W:World}(h:Stg PT s.B N s.w g s.ns W ns' l)(hK:∀p∈K,Is ns' p.1 p.2){k:Nat}(hx:Is ns' x k):∀p∈(x,k)::K,Is ns' p.1 p.2:=fun p hp=>by
 rcases List.mem_cons.1 hp with rfl|hp
 . exact hx
 . exact hK p hp
theorem pF{P:Nat->Value}(h:Stg PT s.B N s.w g s.ns W ns l)(hK:∀p∈K,Is ns p.1 p.2){e:Ending}(hr:RetE PT s.B M W g ns P x e W'):∃k,e=.returned (P k)/\Run s g M ((x,k)::K) l W':=by
 obtain⟨k,ns',e1,h1,h2,h3,h4⟩:=hr;exact⟨k,e1,ns',h.step h1 h2 h4,ajC (h.step h1 h2 h4) (fun p hp=>(hK p hp).mono h2) h3⟩
theorem ajD(h:Stg PT s.B N s.w g s.ns W ns l)(hK:∀p∈K,Is ns p.1 p.2){v:Value}{e:Ending}(hr:RetQ PT s.B M W g ns v e W'):RtA s g M K l v e W':=by
 obtain⟨e1,ns',h1,h2,h3⟩:=hr;exact⟨e1,ns',h.step h1 h2 h3,fun p hp=>(hK p hp).mono h2⟩
end
section
variable{s:Bs}{W:World}{g N i j k m b v:Nat}{K:List (Ex×Nat)}{l:List (Nat×Obj)}{x y:Ex}{q:Int}
theorem Run.of (h:Run s g N K l W)(hN:N<20000)(hv:v<18446744073709551616)(hf:fin v):Calls Tryz.prog 9 #[.pointer (some ⟨g,0,none⟩),.float .f64 v] W (RtR s g (N+1) K l (.leaf v)):=by
 obtain⟨ns,hs,hK⟩:=h;exact(am9 hs.st hN hv hf trivial).mono fun _ _ hr=>pF hs hK hr
theorem Run.sub2 (h:Run s g N K l W)(hN:N<20000)(hx:(x,i)∈K)(hy:(y,j)∈K):Calls Tryz.prog 23 #[numV g i,numV g j] W (RtR s g (N+1) K l (.sub x y)):=by
 obtain⟨ns,hs,hK⟩:=h;exact(aeC hs.st hN (hK _ hx) (hK _ hy) trivial).mono fun _ _ hr=>pF hs hK hr
theorem Run.div2 (h:Run s g N K l W)(hN:N<20000)(hx:(x,i)∈K)(hy:(y,j)∈K):Calls Tryz.prog 25 #[numV g i,numV g j] W (RtR s g (N+1) K l (.div x y)):=by
 obtain⟨ns,hs,hK⟩:=h;exact(alG hs.st hN (hK _ hx) (hK _ hy) trivial).mono fun _ _ hr=>pF hs hK hr
theorem Run.sqrt (h:Run s g N K l W)(hN:N<20000)(hx:(x,i)∈K):Calls Tryz.prog 10 #[numV g i] W (RtR s g (N+1) K l (.root x)):=by
 obtain⟨ns,hs,hK⟩:=h;exact(ajB hs.st hN (hK _ hx) trivial).mono fun _ _ hr=>pF hs hK hr
theorem Run.sign (h:Run s g N K l W)(hx:(x,i)∈K)(hS:gM PT x q):Calls Tryz.prog 24 #[numV g i] W (RtA s g N K l (.tuple #[.int .i64 q,.nilIface])):=by
 obtain⟨ns,hs,hK⟩:=h;exact(vD hs.st (hK _ hx) hS).mono fun _ _ hr=>⟨hr.1,ns,hs.below hr.2,hK⟩
theorem Run.cmp (h:Run s g N K l W)(hN:N<20000)(hx:(x,i)∈K)(hy:(y,j)∈K)(hS:gM PT (.sub x y) q):Calls Tryz.prog 21 #[numV g i,numV g j] W (RtA s g (N+1) K l (.tuple #[.int .i64 q,.nilIface])):=by
 obtain⟨ns,hs,hK⟩:=h;exact(alH hs.st hN (hK _ hx) (hK _ hy) trivial hS).mono fun _ _ hr=>ajD hs hK hr
variable{px py qx qy rx ry:Ex}{i' j' k':Nat}
end
theorem aeD{w0 w1:World}{l:List (Nat×Obj)}(hb1:Below w0.heap.size w0 w1)(hk:∀p∈l,w1.heap[p.1]? =some p.2/\w0.heap.size<=p.1)(hn:(l.map (·.1)).Nodup)(hT:Tab w0)(htb:1<w0.heap.size):
 Calls Tryz.prog 8 #[.bool true] w1 (fun e W=>∃g,e=.returned (.pointer (some ⟨g,0,none⟩))/\Run (bs w0) g 0 [] l W):=by
 refine(alC (P:=PT) (hT.below hb1) (Nat.lt_of_lt_of_le htb hb1.size) nlr).mono ?_;rintro e W⟨g,rfl,hs,hb,-⟩;exact⟨g,rfl,Run.start hb1 hk hn htb hs hb⟩
end
section
open Go.RowKit
inductive SC where
 |v (x:Value)
 |id (n:Nat)
 |ptr (b off:Nat)
 |sl (b len:Nat)
inductive SW where
 |c (x:SC)
 |agg (l:List SC)
inductive SV where
 |w (x:SW)
 |tup (l:List SW)
section
variable(ν:Nat->Nat)
end
section
variable{ν ν':Nat->Nat}
end
structure Wk(E:Type) where
 G:Nat->List (E×Nat)->List (Nat×Obj)->World->Prop
 weak:∀{c c' K K' l l' w},G c K l w->c<=c'->(∀p∈K',p∈K)->(∀p∈l',p∈l)->(l'.map (·.1)).Nodup->G c' K' l' w
 heap:∀{c K l w},G c K l w->∀p∈l,w.heap[p.1]? =some p.2
 alloc:∀{c K l w},G c K l w->∀o,G c K ((w.heap.size,o)::l) (w.alloc o)
 write:∀{c K l w w' b o o'},G c K ((b,o)::l) w->w.grownBy w' (some b)->w'.heap[b]? =some o'->G c K ((b,o')::l) w'
 drew:∀{c K l w},G c K l w->G c K l w.drew
structure Blk where
 b:Nat
 T:TypeId
 init:List SC
 st:Option (Nat×List SC)
structure Spec(E:Type) where
 ops:Array Oper
 val:Nat->SV
 cr:Nat->Option Nat
 know:List (Nat×E)
 blocks:List Blk
 cost:Nat->Nat
 D:Nat->List Nat
 out:List (Nat×SV)
section
variable{E:Type}(S:Spec E)(W:Wk E){P:Program}
variable{S W}
section
variable{lst lst':Nat->Bool}{ν ν':Nat->Nat}{i:Nat}
end
section
variable{c0:Nat}{a0:Act}{ν0:Nat->Nat}{listed:Array Bool}{a:Act}{w:World}{i:Nat}
end
end
section
variable{E:Type}{S:Spec E}{W:Wk E}{P:Program}
variable{Q:Exit->Act->World->Prop}{c0:Nat}{a0:Act}{ν0:Nat->Nat}
/-! operands -/
section
variable{listed:Array Bool}{a:Act}{w:World}{i:Nat}{o:Oper}{ν:Nat->Nat}
end
end
section
variable{E:Type}{S:Spec E}{W:Wk E}{P:Program}{Q:Exit->Act->World->Prop}{c0:Nat}{a0:Act}{ν0:Nat->Nat}{i:Nat}{o:Oper}
end
end
section
open Go.RowKit Go.Maps
open Go.Builtin renaming zeroCells->azG
open Go.Value.slice renaming injEq->azL
open List renaming mem_cons_self->azC,length_singleton->azD,length_append->azE,mem_cons_of_mem->azF,nodup_cons->azH,append_assoc->azJ,mem_singleton->azK,map_cons->azN,mem_cons->azO,mem_map->azP,mem_append->azQ,length->azU
open Nat renaming zero_add->azI,le_trans->azS,le_refl->azT
open Option.some renaming injEq->azM,inj->azR
variable{r:Nat}{u:Value}
section
variable{S:Spec Ex}{w0:Bs}{g c0:Nat}{a0:Act}{ν0:Nat->Nat}{i:Nat}{Q:Exit->Act->World->Prop}
section
section
end
end
end
section
variable{a n:Nat}{l t:List Nat}{ν:Nat->Nat}
end
section
variable{d:Nat}{ds:List Nat}{v:SV}{vs:List SV}{ν:Nat->Nat}{a:Act}{x:Value}{l:List (Nat×Value)}{b:SW}{lw:List SW}{c:SC}{lc:List SC}{n o:Nat}
end
section
variable{E:Type}{S:Spec E}{W:Wk E}{P:Program}{Q:Exit->Act->World->Prop}{c0:Nat}{a0:Act}{ν0:Nat->Nat}{i:Nat}{o:Oper}
end
section
variable{s:Bs}{g N:Nat}{K:List (Ex×Nat)}{l l':List (Nat×Obj)}{W W':World}{b bb nb:Nat}{o O O':Obj}
theorem Run.perm (h:Run s g N K l W)(hp:l'.Perm l):Run s g N K l' W:=h.sub (fun p hm=>hp.subset hm) ((hp.map _).nodup_iff.2 h.nodup)
theorem Run.keep (h:Run s g N K l W)(hb:Below W.heap.size W W')(ho:W'.heap[b]? =some o)(hlo:W.heap.size<=b):Run s g N K ((b,o)::l) W':=by
 obtain⟨ns',hs,hK⟩:=h;have h':=hs.below hb;refine⟨ns',⟨h'.grew,fun p hp=> ?_,h'.hw,?_⟩,hK⟩
 . rcases azO.1 hp with rfl|hp
   . exact⟨ho,fun hd=>by have:=hs.grew.1.dag.dagB ((DagB.congr (hb.block g hs.grew.1.dag.glt)).1 hd);simp only at this;omega,azS hs.grew.2.2.size hlo⟩
   . exact h'.kept p hp
 . rw[azN,azH]
   refine⟨fun hm=> ?_,h'.nodup⟩;obtain⟨p,hp,e⟩:=azP.1 hm;have:=hs.lt hp;simp only at e;omega
theorem Run.board {ln:List (Nat×Obj)}(h:Run s g N K ((bb,O)::l) W)(hg:W.grownBy W' (some bb))(hO:W'.heap[bb]? =some O')(hn:∀p∈ln,W'.heap[p.1]? =some p.2/\W.heap.size<=p.1)(hd:ln.length<=1):Run s g N K ((bb,O')::(ln++l)) W':=by
 obtain⟨ns',hs,hK⟩:=h;have hw:=hs.write hg hO;refine⟨ns',⟨hw.grew,fun p hp=> ?_,hw.hw,?_⟩,hK⟩
 . rcases azO.1 hp with rfl|hp
   . exact hw.kept _ (azC ..)
   . rcases azQ.1 hp with hp|hp
     . obtain⟨q1,q2⟩:=hn p hp
       have hgb:some g≠some bb:=fun e=>(hs.kept (bb,O) (by simp)).2.1 (Or.inl (azR e).symm);exact⟨q1,fun hd=>by have:=hs.grew.1.dag.dagB ((DagB.congr (hg.block g hs.grew.1.dag.glt hgb)).1 hd);omega,azS hs.grew.2.2.size q2⟩
     . exact hw.kept p (azF _ hp)
 . have hnd:=hw.nodup
   match ln,hn,hd with
   |[],_,_=>exact hnd
   |[q],hn,_=>
    obtain⟨-,q2⟩:=hn q (azK.2 rfl);have hlt:∀p∈(bb,O)::l,p.1<W.heap.size:=fun p hp=>hs.lt hp;simp only[azN,azH,List.cons_append,List.nil_append]at hnd|-;refine⟨fun hm=> ?_,fun hm=> ?_,hnd.2⟩
    . rcases azO.1 hm with e|hm
      . have:=hlt (bb,O) (by simp);simp only at this;omega
      . exact hnd.1 hm
    . obtain⟨p,hp,e⟩:=azP.1 hm
      have:=hlt p (azF _ hp);omega
end
theorem frzI{w:World}{b:Nat}{T:TypeId}{cs:Array Value}(h:w.heap[b]? =some (.cells cs T (0,0)))(k:Nat):w.frozen? ⟨b,k,none⟩=false:=by simp[World.frozen?,h]
theorem Run.subl {s:Bs}{g N:Nat}{K:List (Ex×Nat)}{l l':List (Nat×Obj)}{W:World}(h:Run s g N K l W)(hs:l'.Sublist l):Run s g N K l' W:=h.sub (fun _ hp=>hs.subset hp) (h.nodup.sublist (hs.map _))
def OwnR(T:TypeId)(sz:Nat)(v:Value)(n:Nat)(xs:List Value)(lr:List (Nat×Obj)):Prop:=
 xs.length=n*sz/\((v=.slice none 0 0/\n=0/\lr=[])\/∃(r cap:Nat) (cur:Array Value),v=.slice (some ⟨r,0,none⟩) n cap/\lr=[(r,.cells cur T)]/\n<=cap/\cap<=maxLen/\cur.size=cap*sz/\cur.toList.take (n*sz)=xs)
theorem OwnR.nil (T:TypeId)(sz:Nat):OwnR T sz (.slice none 0 0) 0 [] []:=⟨by simp,Or.inl ⟨rfl,rfl,rfl⟩⟩
section
variable{s:Bs}{g N n n' sz g0 cap:Nat}{K:List (Ex×Nat)}{L lr:List (Nat×Obj)}{W w':World}{v:Value}{xs xs':List Value}{T:TypeId}
theorem OwnR.slice (h:OwnR T sz v n xs lr):∃p c,v=.slice p n c:=by
 rcases h.2 with ⟨rfl,rfl,-⟩|⟨r,c,cur,rfl,-⟩
 . exact⟨none,0,rfl⟩
 . exact⟨_,_,rfl⟩
theorem OwnR.own (h:OwnR T sz v n xs lr)(hR:Run s g N K (lr++L) W):W.ownsRow 0 T sz v n xs:=by
 refine⟨h.1,?_⟩;rcases h.2 with ⟨rfl,rfl,-⟩|⟨r,c,cur,rfl,rfl,h1,h2,h3,h4⟩
 . exact .inl ⟨rfl,rfl⟩
 . exact .inr ⟨r,c,cur,rfl,Nat.zero_le _,hR.at (azC ..),h1,h2,h3,h4⟩
theorem OwnR.grow (h:OwnR T sz v n xs lr)(hR:Run s g N K (lr++L) W)(hown:w'.ownsRow 0 T sz (.slice (some ⟨g0,0,none⟩) n' cap) n' xs')(hg:W.grownBy w' v.ownBlock)(hat:v.ownBlock=some g0\/g0=W.heap.size):
 ∃lr',OwnR T sz (.slice (some ⟨g0,0,none⟩) n' cap) n' xs' lr'/\Run s g N K (lr'++L) w':=by
 obtain⟨hx,hy⟩:=hown;rcases hy with ⟨e,-⟩|⟨g1,c1,cur,e,-,hgg,h1,h2,h3,h4⟩
 . simp at e
 . simp only[azL,azM,Addr.mk.injEq]at e
   obtain⟨⟨rfl,-⟩,-,rfl⟩:=e;refine⟨[(g0,.cells cur T)],⟨hx,Or.inr ⟨g0,cap,cur,rfl,rfl,h1,h2,h3,h4⟩⟩,?_⟩;rcases h.2 with ⟨rfl,-,rfl⟩|⟨r,c,cur',rfl,rfl,-⟩
   . rcases hat with e|rfl
     . simp[Value.ownBlock]at e
     . exact Run.keep hR ⟨hg.os,hg.tape,hg.output,hg.size,fun b hb=>hg.block b hb (by simp[Value.ownBlock])⟩ hgg nlr
   . rcases hat with e|rfl
     . obtain rfl:r=g0:=by simpa[Value.ownBlock]using e
       exact Run.write hR hg hgg
     . have hl:=hR.at (azC ..)
       obtain⟨o',ho'⟩:∃o',w'.heap[r]? =some o':=⟨_,Array.getElem?_eq_getElem (Nat.lt_of_lt_of_le (aG hl) hg.size)⟩;have h5:=Run.board (ln:=[(W.heap.size,.cells cur T)]) hR hg ho' (fun p hp=>by
        obtain rfl:=azK.1 hp;exact⟨hgg,azT _⟩) nlr
       exact h5.sub (fun p hp=>azF _ hp) (azH.1 (by have:=h5.nodup;rwa[azN]at this)).2
theorem OwnR.cell {q c:Nat}(h:OwnR T 1 (.slice (some ⟨r,0,none⟩) n c) n xs lr)(hR:Run s g N K (lr++L) W)(hu:xs[q]? =some u):W.cell? ⟨r,q,none⟩=some u/\∀k,W.frozen? ⟨r,k,none⟩=false:=by
 rcases h.2 with ⟨e,-⟩|⟨r',cap,cur,e,rfl,h1,h2,h3,h4⟩
 . simp at e
 . simp only[azL,azM,Addr.mk.injEq]at e
   obtain⟨⟨rfl,-⟩,-,rfl⟩:=e;have hr:=hR.at (azC ..);refine⟨bZ (cs:=cur.toList) (by simpa using hr) ?_,frzI hr⟩;rw[<-h4,List.getElem?_take]at hu
   split at hu
   . exact hu
   . cases hu
theorem OwnR.set {q c:Nat}(h:OwnR T 1 (.slice (some ⟨r,0,none⟩) n c) n xs lr)(hR:Run s g N K (lr++L) W):∃lr',OwnR T 1 (.slice (some ⟨r,0,none⟩) n c) n (xs.set q u) lr'/\Run s g N K (lr'++L) (W.setCell ⟨r,q,none⟩ u):=by
 rcases h.2 with ⟨e,-⟩|⟨r',cap,cur,e,rfl,h1,h2,h3,h4⟩
 . simp at e
 . simp only[azL,azM,Addr.mk.injEq]at e
   obtain⟨⟨rfl,-⟩,-,rfl⟩:=e;have hr:=hR.at (azC ..);have hs:=uU (k:=q) (v:=u) (cs:=cur.toList) (by simpa using hr);refine⟨[(r,.cells (cur.toList.set q u).toArray T)],⟨by rw[List.length_set];exact h.1,Or.inr ⟨r,c,_,rfl,rfl,h1,h2,by simpa using h3,?_⟩⟩,Run.write hR (grownBy_set (sN W _) u) hs⟩;rw[<-h4,List.take_set]
end
section
variable{s:Bs}{g N n sz:Nat}{K:List (Ex×Nat)}{L lr:List (Nat×Obj)}{W:World}{v:Value}{xs:List Value}{T:TypeId}
end
section
variable{s:Bs}{g N n sz:Nat}{K:List (Ex×Nat)}{L lr:List (Nat×Obj)}{W:World}{v:Value}{xs:List Value}{T:TypeId}
end
def RowI(v:Value)(o:List Nat)(lr:List (Nat×Obj)):Prop:=
 (o=[]/\v=.slice none 0 0/\lr=[])\/∃(r:Nat) (sp:List Value),v=.slice (some ⟨r,0,none⟩) o.length (o.length+sp.length)/\lr=[(r,.cells (aF o++sp).toArray 3)]/\o.length+sp.length<=9223372036854775807
theorem iZ{b:Nat}{T:TypeId}:∀(vs pre mid post:List Value) (w:World),w.heap[b]? =some (.cells (pre++(mid++post)).toArray T (0,0))->mid.length=vs.length->(w.setCells b pre.length vs).heap[b]? =some (.cells (pre++(vs++post)).toArray T (0,0))
 |[],pre,[],post,w,h,_=>h
 |[],_,_::_,_,_,_,e=>by simp at e
 |_::_,_,[],_,_,_,e=>by simp at e
 |v::vs,pre,m::mid,post,w,h,e=>by
  have h1:=uU (k:=pre.length) (v:=v) h;have e1:(pre++(m::mid++post)).set pre.length v=(pre++[v])++(mid++post):=by simp
  rw[e1]at h1;have h2:=iZ vs (pre++[v]) mid post _ h1 (by simpa using e);rw[azE,azD,azJ]at h2;exact h2
theorem gQ{b:Nat}:∀(vs:List Value) (k:Nat) (w:World),w.grownBy (w.setCells b k vs) (some b)
 |[],_,w=>sN w _
 |v::vs,k,w=>grownBy_trans (grownBy_set (sN w _) v) (gQ vs (k+1) _)
theorem vE{l:List Nat}:∀u∈aF l,u.oneCell'=true:=fun u h=>by
 obtain⟨x,-,rfl⟩:=azP.1 h;rfl
section
variable{s:Bs}{g N vb i at':Nat}{K:List (Ex×Nat)}{l lr:List (Nat×Obj)}{W:World}{v:Value}{o:List Nat}
def InsR(s:Bs)(g N:Nat)(K:List (Ex×Nat))(l:List (Nat×Obj))(o:List Nat)(e:Ending)(W':World):Prop:=∃v' lr',e=.returned v'/\RowI v' o lr'/\Run s g N K (lr'++l) W'
theorem aeE{arr Z:Array Value}{o':List Nat}{c:Nat}{T:TypeId}(hR:Run s g N K l W)(hT:T=3)(ha:arr=(aF o').toArray++Z)(hc:c=o'.length+Z.size)(hm:c<=9223372036854775807):InsR s g N K l o' (.returned (.slice (some ⟨W.heap.size,0,none⟩) o'.length c)) (W.drew.alloc (.cells arr T)):=by
 subst hT;have hz:Z.toList.length=Z.size:=by simp
 refine⟨_,[(W.heap.size,.cells arr 3)],rfl,Or.inr ⟨W.heap.size,Z.toList,by rw[hc,hz],?_,by omega⟩,hR.drew.alloc _⟩;rw[ha,<-List.toArray_appendList];simp
theorem sQ(n:Nat):(azG (Value.int .i64 0).cells n).size=n:=by rw[size_zeroCells];exact Nat.mul_one n
theorem adG(hR:Run s g N K ((vb,.cells #[.int .i64 (i:Int)] 3)::(lr++l)) W)(hv:RowI v o lr)(hat:at'<=o.length)(hn:o.length<1000):
 Calls Tryz.prog 73 #[v,.int .i64 (at':Int),.slice (some ⟨vb,0,none⟩) 1 1] W (InsR s g N K l (o.take at'++i::o.drop at')):=by
 have hb:=hR.at (azC ..);have hvs:∀j u,[Value.int .i64 (i:Int)][j]? =some u->W.cell? ⟨vb,0+j,none⟩=some u:=fun j u hj=>by rw[azI];exact bZ (cs:=[.int .i64 (i:Int)]) hb hj
 have h1v:∀u∈[Value.int .i64 (i:Int)],u.oneCell'=true:=fun u hu=>by rw[azK.1 hu];rfl
 have hg:∀old T,o.length+1<=grownCap W (o.length+1) old T/\grownCap W (o.length+1) old T<=9223372036854775807:=fun old T=>⟨grownCap_ge ..,by
  have:=grownCap_le_maxLen W (o.length+1) old T (by unfold maxLen;omega);unfold maxLen at this;omega⟩
 have hnd:=hR.nodup;rw[azN]at hnd;have hR1:=hR.sub (l':=lr++l) (fun p hp=>azF _ hp) (azH.1 hnd).2;have hl1:=hR.sub (l':=l) (fun p hp=>azF _ (azQ.2 (Or.inr hp))) (by have:=(azH.1 hnd).2;rw[List.map_append]at this;exact(List.nodup_append.1 this).2.1);rcases hv with ⟨rfl,rfl,rfl⟩|⟨r,sp,rfl,rfl,hm⟩
 . obtain rfl:at'=0:=by simpa using hat
   refine(Any2.slices_Insert_int_end_grow Tryz.lays21 none 0 0 vb 0 1 1 [] [.int .i64 (i:Int)] W (by omega) (by omega) (by omega) (by omega) rfl rfl (fun _=>rfl) (fun _ h=>by cases h) hvs h1v).mono ?_;rintro e W'⟨rfl,rfl⟩;have hk:=hg 0 (Tryz.lays21_ren.t 3);exact aeE (o':=[i]) hl1 rfl rfl (by rw[sQ];simp at hk|-;omega) hk.2
 . have hr:=hR1.at (azC ..)
   have hcs:∀j u,(aF o)[j]? =some u->W.cell? ⟨r,0+j,none⟩=some u:=fun j u hj=>by
    rw[azI];refine bZ hr ?_;rw[List.getElem?_append_left (List.getElem?_eq_some_iff.1 hj).1];exact hj
   have hvr:vb≠r:=fun e=>(azH.1 hnd).1 (by rw[e];simp);by_cases hend:at'=o.length
   . subst hend
     have e0:o.take o.length++i::o.drop o.length=o++[i]:=by simp
     rw[e0]
     cases sp with
     |nil=>
      refine(Any2.slices_Insert_int_end_grow Tryz.lays21 (some ⟨r,0,none⟩) o.length (o.length+0) vb 0 1 1 (aF o) [.int .i64 (i:Int)] W (by omega) (by omega) (by omega) (by omega) (bP o) rfl (fun h=>by cases h) (fun a ha j u hj=>by
       obtain rfl:=azR ha;rw[Addr.add_lit];exact hcs j u hj) hvs h1v).mono ?_
      rintro e W'⟨rfl,rfl⟩;have hk:=hg (o.length+0) (Tryz.lays21_ren.t 3);have h:=aeE (o':=o++[i]) (T:=Tryz.lays21_ren.t 3) (c:=grownCap W (o.length+1) (o.length+0) (Tryz.lays21_ren.t 3)) (Z:=azG (Value.int .i64 0).cells (grownCap W (o.length+1) (o.length+0) (Tryz.lays21_ren.t 3)-(o.length+1))) hl1 rfl rfl (by rw[sQ,azE,azD];omega) hk.2;rw[azE,azD,<-iG]at h;exact h
     |cons z sp=>
      have hz:∀j,j<1->W.cell? ⟨r,0+o.length+j,none⟩=some z:=fun j hj=>by
       obtain rfl:j=0:=by omega
       rw[azI,Nat.add_zero];refine bZ hr ?_;rw[List.getElem?_append_right (by rw[bP];exact azT _),bP,Nat.sub_self];rfl
      refine(Any2.slices_Insert_int_end_room Tryz.lays21 r 0 o.length (o.length+(z::sp).length) vb 0 1 1 [.int .i64 (i:Int)] W (by omega) (by simp) (by omega) rfl (fun j hj=>by rw[hz j hj];rfl) (fun j _=>frzI hr _) hvs h1v).mono ?_;rintro e W'⟨rfl,rfl⟩;have h2:=iZ [Value.int .i64 (i:Int)] (aF o) [z] sp W hr rfl;rw[bP]at h2;have h3:=hR1.write (gQ [Value.int .i64 (i:Int)] o.length W) h2;rw[azI];exact⟨_,[(r,.cells (aF o++([Value.int .i64 (i:Int)]++sp)).toArray 3)],rfl,Or.inr ⟨r,sp,by simp;omega,by rw[<-azJ,iG],by simp at hm|-;omega⟩,h3⟩
   . have hlt:at'<o.length:=by omega
     have e1:aF o=aF (o.take at')++aF (o.drop at'):=by rw[<-kZ,List.take_append_drop]
     have e2:(aF o).drop at'=aF (o.drop at'):=by simp[aF]
     have e3:(aF o).take at'=aF (o.take at'):=by simp[aF]
     have e4:(o.take at'++i::o.drop at').length=o.length+1:=by simp;omega
     have e5:aF (o.take at'++i::o.drop at')=aF (o.take at')++(.int .i64 (i:Int)::aF (o.drop at')):=by rw[kZ];rfl
     have l1:(aF (o.take at')).length=at':=by rw[bP,List.length_take];omega
     have l2:(aF (o.drop at')).length=o.length-at':=by rw[bP,List.length_drop]
     cases sp with
     |nil=>
      refine(Any2.slices_Insert_int_grow Tryz.lays21 r 0 o.length (o.length+0) at' vb 0 1 1 (aF o) [.int .i64 (i:Int)] W hlt (by omega) (by omega) (by omega) (by omega) (bP o) rfl hcs hvs vE h1v).mono ?_;rintro e W'⟨rfl,rfl⟩;obtain⟨c,hc⟩:∃c,grownCap W (o.length+1) (o.length+0) (Tryz.lays21_ren.t 3)=c:=⟨_,rfl⟩;have hk:=hg (o.length+0) (Tryz.lays21_ren.t 3);rw[hc]at hk|-;obtain⟨Z1,hZ1⟩:∃Z,(azG (Value.int .i64 0).cells (o.length+1-at')).toList=Z:=⟨_,rfl⟩;obtain⟨Z2,hZ2⟩:∃Z,(azG (Value.int .i64 0).cells (c-(o.length+1))).toList=Z:=⟨_,rfl⟩;have z1:Z1.length=o.length+1-at':=by rw[<-hZ1,Array.length_toList,sQ]
      have z2:Z2.length=c-(o.length+1):=by rw[<-hZ2,Array.length_toList,sQ]
      obtain⟨y,Z3,rfl⟩:∃y Z,Z1=y::Z:=by
       cases Z1 with
       |nil=>simp at z1;omega
       |cons y Z=>exact⟨y,Z,rfl⟩
      have ha:((aF o).take at').toArray++azG (Value.int .i64 0).cells (o.length+1-at')++azG (Value.int .i64 0).cells (c-(o.length+1))=(aF (o.take at')++([y]++(Z3++Z2))).toArray:=by
       apply Array.toList_inj.1;rw[Array.toList_append,Array.toList_append,hZ1,hZ2,e3];simp
      rw[ha,e2];have r1:=(hl1.alloc (.cells (aF (o.take at')++([y]++(Z3++Z2))).toArray (Tryz.lays21_ren.t 3))).drew;have h1:=iZ [Value.int .i64 (i:Int)] (aF (o.take at')) [y] (Z3++Z2) _ (r1.at (azC ..)) rfl;rw[l1]at h1;have r2:=(r1.write (gQ [Value.int .i64 (i:Int)] at' _) h1).drew;have h2:=iZ (aF (o.drop at')) (aF (o.take at')++[Value.int .i64 (i:Int)]) Z3 Z2 _ (T:=Tryz.lays21_ren.t 3) (by rw[azJ];exact r2.at (azC ..)) (by simp at z1;omega);rw[azE,l1,azD]at h2;have r3:=r2.write (gQ (aF (o.drop at')) (at'+1) _) h2;exact⟨_,[(W.heap.size,.cells (aF (o.take at')++[Value.int .i64 (i:Int)]++(aF (o.drop at')++Z2)).toArray 3)],rfl,Or.inr ⟨W.heap.size,Z2,by rw[e4,z2];congr 1;omega,by rw[e5];simp,by rw[e4,z2];omega⟩,r3⟩
     |cons z sp=>
      obtain⟨x,rest,hx⟩:∃x rest,o.drop at'=x::rest:=by
       cases h:o.drop at' with
       |nil=>have:=congrArg azU h;simp at this;omega
       |cons x rest=>exact⟨x,rest,rfl⟩
      have hsz:∀j,j<o.length+1->(W.cell? ⟨r,0+j,none⟩).isSome=true:=fun j hj=>by
       rw[azI];have hj2:j<(aF o++z::sp).length:=by rw[azE,bP,List.length_cons];omega
       rw[bZ hr (List.getElem?_eq_getElem hj2)];rfl
      refine(Any2.slices_Insert_int_shift Tryz.lays21 r 0 o.length (o.length+(z::sp).length) at' vb 0 1 1 (aF o) [.int .i64 (i:Int)] W hlt (by omega) (by simp) (by omega) hvr (bP o) rfl hcs hsz (fun j _=>frzI hr _) hvs vE h1v 3 3 1 (aF o++z::sp).toArray.size (by simp[World.shape?,hb]) (by simp[World.shape?,hr]) (by simp) (frzI hb _) (frzI hb _)).mono ?_;rintro e W'⟨rfl,rfl⟩;rw[e2];have r1:=hR1.drew;have hl3:rest.length=o.length-at'-1:=by have:=congrArg azU hx;simp at this;omega
      have h1:=iZ (aF (o.drop at')) (aF (o.take at')++[Value.int .i64 (x:Int)]) (aF rest++[z]) sp _ (T:=3) (by
       have:=r1.at (azC ..);rw[e1,hx]at this;rw[this]
       congr 2
       simp[aF]) (by rw[l2,azE,bP,azD];omega)
      rw[azE,l1,azD]at h1;have r2:=r1.write (gQ (aF (o.drop at')) (at'+1) _) h1;have h2:=iZ [Value.int .i64 (i:Int)] (aF (o.take at')) [Value.int .i64 (x:Int)] (aF (o.drop at')++sp) _ (T:=3) (by have:=r2.at (azC ..);rw[azJ]at this;exact this) rfl;rw[l1]at h2;have r3:=r2.write (gQ [Value.int .i64 (i:Int)] at' _) h2;rw[azI,azI];exact⟨_,[(r,.cells (aF (o.take at')++([Value.int .i64 (i:Int)]++(aF (o.drop at')++sp))).toArray 3)],rfl,Or.inr ⟨r,sp,by rw[e4];simp;omega,by rw[e5];simp,by rw[e4];simp at hm|-;omega⟩,r3⟩
end
end
end Go.Proofs.YtkpodipoegbclaaGreatDoor
