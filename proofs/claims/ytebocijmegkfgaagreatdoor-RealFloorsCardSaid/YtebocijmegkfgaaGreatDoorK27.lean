/- A part of the proof: contracts of functions and plain laws (RlB, RlC, RlD, RlE, RlF, BdA). -/
import Derived.Test.YtebocijmegkfgaaGreatDoorK26
import Derived.Laws.MakeOwn
import Derived.Test.YtebocijmegkfgaaGreatDoorK25
set_option linter.unusedVariables false
set_option linter.unusedSimpArgs false
set_option maxHeartbeats 25600000
set_option maxRecDepth 100000
namespace Go.Proofs.YtebocijmegkfgaaGreatDoor
open Go.RowKit Go.Maps
open Go.RowKit.Below renaming refl->ayS,heap_setCell->ayT
variable{a:Ex}{s:Int}{l:List Nat}{b base i j:Nat}{T:TypeId}{v:Value}{w0:World}
theorem agN{w:World}(h:w.ownsRow base 3 1 v l.length (bC l))(hl:0<l.length):IntsP (fun b=>base<=b) w v l:=by
 rcases id h.2 with ⟨rfl,hn⟩|⟨r,cap,cur,rfl,hr,hh,hcap,hmax,hsz,hcur⟩
 . omega
 . refine⟨r,cap,rfl,hcap,hmax,hr,aF hh,fun k x hx=> ?_⟩
   have hk:=(List.getElem?_eq_some_iff.1 hx).1;rw[h.cellAt k (by omega)];simp[bC,hx]
def aaZ(w:World)(l:List Nat)(e:Ending)(w':World):Prop:=Below w.heap.size w w'/\∃v,e=.returned v/\IntsP (fun b=>w.heap.size<=b) w' v l
theorem zG(l:List Nat)(x:Nat):bC l++[.int .i64 (x:Int)]=bC (l++[x]):=by simp[bC]
theorem aiA{w:World}{g k:Nat}(hl:NumsP w v g l):
 Calls Tryz.prog 86 #[.agg #[.pointer (some ⟨g,0,none⟩),.int .i64 (k:Int)],v] w (aaZ w (k::l)):=by
 obtain⟨w1,hw1,hb1,hs1,b1⟩:=pro1 w (.cells #[.pointer (some ⟨g,0,none⟩),.int .i64 (k:Int)] 32);obtain⟨c0,c1,-,-⟩:=aB b1;obtain⟨b,c,rfl,hl1,-⟩:=id hl;have hlI:(l.length:Int)<=1000:=by omega
 obtain⟨i0,hi0,hz0,hz1,hz2⟩:=info_parts tH;obtain⟨w2,hrun,hown,hgr⟩:=run_make_own (P:=Tryz.prog) w1 w1.heap.size 56 3 i0 (.int .i64 0) 1 lF hi0 hz0 hz1 .i64 .i64 (l.length+1) (by rw[hz2];omega) (by unfold maxLen;omega) nlr;have hb2:Below w1.heap.size w1 w2:=⟨hgr.os,hgr.tape,hgr.output,hgr.size,fun b hb=>hgr.block b hb (by simp)⟩;have hrun':(Instr.makeSlice 56 (.int .i64 0) (.int .i64 ((l.length:Int)+1))).run Tryz.prog w1=.ok (.slice (some ⟨w1.heap.size,0,none⟩) 0 (l.length+1)) w2:=by simpa using hrun
 obtain⟨w3,hw3,hb3,hs3,b3⟩:=pro1 w2 (.cells #[.int .i64 (k:Int)] 3);replace c0:=cbl c0 hb2;replace c1:=cbl c1 hb2;have HNP:=hdd hl;have HB1:=hdd hb1;have HB3:=hdd (aA hb2 hb3);have HO3:=hdd (hown.kept (bJ (row:=none) hb3) (Or.inr (by simp[Value.ownBlock])));have HC3:=hdd (iM b3);have HI0:=hdd hi0;have HZ0:=hdd hz0;have HZ1:=hdd hz1;have HZ2:=hdd hz2;have d0:=cbl c0 hb3;have d1:=cbl c1 hb3;have HL1:=hdd hl1;have HS3:Hid (w1.heap.size<=w3.heap.size):=hdd (aA hb2 hb3).size;clear hl hb1 hs1 b1 hl1 hi0 hz0 hz1 hz2 hrun hown hgr hb2 hb3 hs3 b3;go_enter Tryz.func86,Tryz.ntmps86
 go_wp2_with (first
  |(at_builtin
    go_loud (
    refine wpList_append_lies _ rfl _ _ 56 rfl w1.heap.size 3 i0 (.int .i64 0) 1 8 lF HI0.out HZ0.out HZ1.out HZ2.out rfl (by decide) _ 0 [] rfl HO3.out ⟨w2.heap.size,0,none⟩ 1 1 [.int .i64 (k:Int)] rfl rfl HC3.out (by simp[Value.oneCell']) (by decide) (by unfold maxLen;omega) (by omega) HS3.out w3.heap.size rfl ?_;intro r cap w4 hown4 hgrow4 hat4 hlt4;have HO4:=hdd hown4;have HG4:=hdd hgrow4;clear hown4 hgrow4 hat4 hlt4)))
 have HR4:Hid (w4.ownsRow w1.heap.size 3 1 (.slice (some ⟨r,0,none⟩) 1 cap) 1 (bC [k])/\Below w1.heap.size w1 w4):=hdd ⟨by simpa[bC]using HO4.out,HB3.out.trans (Below.of_grown HG4.out HS3.out (by simp[Value.ownBlock]at*))⟩;clear hw3 hw1 hrun' c0 c1 d0 d1
 go_loopw [5,19] (fun v i wr=>∃m r cap:Nat,m<=l.length/\i=.int .i64 (m:Int)/\v=.slice (some ⟨r,0,none⟩) (m+1) cap/\Hid (wr.ownsRow w1.heap.size 3 1 (.slice (some ⟨r,0,none⟩) (m+1) cap) (m+1) (bC (k::l.take m))/\Below w1.heap.size w1 wr)) (fun _ i _=>((l.length:Int)-intOf i).toNat)
 case atStart=>exact⟨0,r,cap,Nat.zero_le _,rfl,rfl,by simpa using HR4⟩
 case round=>
  obtain⟨m,r1,cap1,hm,rfl,rfl,HF⟩:=hrel;rcases Nat.lt_or_ge m l.length with hlt|hge
  . obtain⟨x,hx⟩:∃x,l[m]? =some x:=⟨_,List.getElem?_eq_getElem hlt⟩
    obtain⟨hown,hbl⟩:=HF.out;have hbr:=HB1.out.trans (hbl.mono HB1.out.size);obtain⟨x0,x1⟩:=(HNP.out.below hbr).at hx;obtain⟨w5,hw5,hb5,hs5,b5⟩:=pro1 wr (.cells #[.pointer none,.int .i64 0] 32);obtain⟨p0,p1,pf0,pf1⟩:=aB b5;have g1:=set2 b5 (.pointer (some ⟨g,0,none⟩)) (.int .i64 (x:Int));obtain⟨w6,hw6⟩:∃w6,(w5.setCell ⟨wr.heap.size,0,none⟩ (.pointer (some ⟨g,0,none⟩))).setCell ⟨wr.heap.size,1,none⟩ (.int .i64 (x:Int))=w6:=⟨_,rfl⟩;have hb6:Below wr.heap.size wr w6:=by rw[<-hw6];exact(hb5.setCell nlr _).setCell nlr _
    rw[hw6]at g1;obtain⟨y0,y1,-,-⟩:=aB g1;obtain⟨w7,hw7,hb7,hs7,b7⟩:=pro1 w6 (.cells #[.int .i64 (x:Int)] 3);have h7:=aA hb6 hb7;have HO7:=hdd (hown.kept (bJ (row:=none) h7) (Or.inr (by simp[Value.ownBlock])));have HC7:=hdd (iM b7);have HB7:=hdd (hbl.trans (h7.mono hbl.size));have HSZ:Hid (w1.heap.size<=w7.heap.size):=hdd HB7.out.size;have hkI:(m:Int)<(l.length:Int):=by omega
    have hk0:(0:Int)<=(m:Int):=by omega
    have HLT:=hdd hlt;have HTK:Hid (l.take (m+1)=l.take m++[x]):=hdd (by rw[List.take_add_one,hx];rfl);have HRB:=hdd (hown.lt r1 rfl).1;clear hx hbr hb5 hs5 b5 g1 hb6 hb7 hs7 b7 h7 hown hbl hlt HF;go_wp2_with (first
    |(at_builtin
      go_loud (
      refine wpList_append_lies _ rfl _ _ 56 rfl w1.heap.size 3 i0 (.int .i64 0) 1 8 lF HI0.out HZ0.out HZ1.out HZ2.out rfl (by decide) _ (m+1) (bC (k::l.take m)) rfl HO7.out ⟨w6.heap.size,0,none⟩ 1 1 [.int .i64 (x:Int)] rfl rfl HC7.out (by simp[Value.oneCell']) (by decide) (by have:=HL1.out;unfold maxLen;omega) (by have:=HL1.out;omega) HSZ.out w7.heap.size rfl ?_;intro r2 cap2 w8 hown8 hgrow8 hat8 hlt8;have HF8:Hid (w8.ownsRow w1.heap.size 3 1 (.slice (some ⟨r2,0,none⟩) (m+1+1) cap2) (m+1+1) (bC (k::l.take (m+1)))/\Below w1.heap.size w1 w8):=hdd ⟨by rw[HTK.out,<-List.cons_append,<-zG];exact hown8,HB7.out.trans (Below.of_grown hgrow8 HSZ.out HRB.out)⟩;clear hown8 hgrow8 hat8 hlt8)))
    go_roundw
    case rel=>exact⟨m+1,r2,cap2,by have:=HLT.out;omega,by go_num,rfl,HF8⟩
    case measure=>have:=HLT.out;simp[intOf];omega
  . have hme:m=l.length:=by omega
    subst hme;have HRES:Hid (aaZ w (k::l) (.returned (.slice (some ⟨r1,0,none⟩) (l.length+1) cap1)) wr):=hdd (by
     obtain⟨hown,hbl⟩:=HF.out;refine⟨HB1.out.trans (hbl.mono HB1.out.size),_,rfl,?_⟩;rw[List.take_of_length_le nlr]at hown;obtain⟨b',c',q1,q2,q3,q4,q5⟩:=agN (l:=k::l) hown (by simp);exact⟨b',c',q1,q2,q3,Nat.le_trans HB1.out.size q4,q5⟩)
    clear hm hge HF;go_wp2;go_ret;exact HRES.out
section
variable{P:Ex->Prop}{B N:Nat}{w w' w'':World}{g k:Nat}{ns ns':List Nd}{x:Ex}
theorem St.away (hs:St P B N w g ns)(hb:Below w.heap.size w w')(h:w.heap.size<=b):¬DagB w' g b:=fun hd=>by
 have:=hs.dag.dagB ((DagB.congr (hb.block g hs.dag.glt)).1 hd);omega
theorem zH{w:World}{e:TypeId}{size:Nat}{n:Nat}{xs:List Value}(h:w.ownsRow base e size v n xs)(hb:v.ownBlock≠some b)(u:Value):(w.setCell ⟨b,i,none⟩ u).ownsRow base e size v n xs:=by
 refine h.kept (grownBy_set (grownBy_refl w (some b)) u) ?_;exact Or.inr hb
theorem DagP.setCell (h:DagP w g ns)(hn:¬DagB w g b)(u:Value):DagP (w.setCell ⟨b,i,none⟩ u) g ns:=by
 obtain⟨A,c,mb,m,ho⟩:=h.opened;obtain⟨q1,q2,q3⟩:=ho.dagB hn;obtain⟨h1,h2,h3,h4⟩:=ho;exact(show DagO _ g ns A c mb m from⟨(ayT w _ u g (by simpa using Ne.symm q1)).trans h1,zH h2 q3 u,h3.keep (ayT w _ u mb (by simpa using Ne.symm q2)),h4⟩).dag
theorem tT{c:Nat}(hn:¬DagB w g b)(u:Value):DagB (w.setCell ⟨b,i,none⟩ u) g c↔DagB w g c:=
 DagB.congr (ayT w _ u g (fun e=>hn (Or.inl (by simpa using e.symm))))
theorem DS.setCell (h:DS g w w')(hb:w.heap.size<=b)(hn:¬DagB w' g b)(u:Value):DS g w (w'.setCell ⟨b,i,none⟩ u):=
 ⟨⟨h.1.os,h.1.tape,h.1.output,by simpa[World.setCell]using h.1.size,fun c hc hd=>(ayT w' _ u c (by simp;omega)).trans (h.1.block c hc hd)⟩,fun c hc hd hd'=>h.2 c hc hd ((tT hn u).1 hd')⟩
theorem FoldSt.setCell (h:FoldSt P B N w g ns x k w')(hb:w.heap.size<=b)(hn:¬DagB w' g b)(hB:B<=b)(u:Value):FoldSt P B N w g ns x k (w'.setCell ⟨b,i,none⟩ u):=by
 obtain⟨ns',h1,h2,h3,h4⟩:=h;refine⟨ns',⟨h1.dag.setCell hn u,h1.all,fun c hc=>h1.hi c ((tT hn u).1 hc),h1.tab.step (ayT w' _ u _ (by have:=h1.tb;simp;omega)),h1.tb,by simpa[World.setCell]using h1.hB,h1.room⟩,h2,h3,h4.setCell hb hn u⟩
theorem FoldSt.ret (h:FoldSt P B N w g ns x k w')(mk:Nat->Value):RetE P B N w g ns mk x (.returned (mk k)) w':=by
 obtain⟨ns',h1,h2,h3,h4⟩:=h;exact⟨k,ns',rfl,h1,h2,h3,h4⟩
theorem FoldSt.ahead (h:FoldSt P B N w g ns x k w')(hg:g<w0.heap.size)(hb:Below w0.heap.size w0 w):FoldSt P B N w0 g ns x k w':=by
 obtain⟨ns',h1,h2,h3,h4⟩:=h;exact⟨ns',h1,h2,h3,(DS.of_below hg hb).trans h4⟩
theorem FoldSt.set2 (h:FoldSt P B N w g ns x k w')(hs:St P B 0 w0 g []\/True)(hg:g<w0.heap.size)(hb0:Below w0.heap.size w0 w)(hb:w0.heap.size<=b)(hn:¬DagB w g b)(hlt:b<w.heap.size)(hB:B<=b)(u v:Value):
 FoldSt P B N w0 g ns x k ((w'.setCell ⟨b,0,none⟩ u).setCell ⟨b,1,none⟩ v):=by
 have h0:=h.ahead hg hb0;have hn':¬DagB w' g b:=by
  obtain⟨ns',h1,h2,h3,h4⟩:=h;exact h4.2 b hlt hn
 exact(h0.setCell hb hn' hB u).setCell hb (fun hd=>hn' ((tT hn' u).1 hd)) hB v
end
theorem ajT{P:Ex->Prop}{B N:Nat}{w:World}{g:Nat}{ns:List Nd}{v:Nat}(hs:St P B N w g ns)(hN:N<20000)(hv:v<18446744073709551616)(hf:fin v)(hP:P (.leaf v)):
 Calls Tryz.prog 28 #[.pointer (some ⟨g,0,none⟩),.float .f64 v] w (RetE P B (N+1) w g ns (numV g) (.leaf v)):=by
 obtain⟨w1,hw1,hb1,hs1,b1⟩:=pro1 w (.cells #[.pointer none,.int .i64 0] 32);have HL:=hdd (zD (hs.below hb1) hN hv hf hP);have hn1:¬DagB w1 g w.heap.size:=hs.away hb1 nlr;have HB1:=hdd b1;have HN1:=hdd hn1;have HGL:=hdd hs.dag.glt;have HBL:=hdd hs.hB;have HBB:=hdd hb1;have HS1:Hid (w.heap.size<w1.heap.size):=hdd (by omega);clear hs hN hv hf hP hb1 hs1 b1 hn1;go_enter Tryz.func28,Tryz.ntmps28
 go_wp2_with fail
 refine HL.out.mono ?_;rintro e w2⟨k,ns',rfl,h1,h2,h3,h4⟩;have b2:=(h4.heap HS1.out HN1.out).trans HB1.out;obtain⟨c0,c1,f0,f1⟩:=aB b2;have HF:Hid (FoldSt P B (N+1) w g ns (.leaf v) k ((w2.setCell ⟨w.heap.size,0,none⟩ (.pointer (some ⟨g,0,none⟩))).setCell ⟨w.heap.size,1,none⟩ (.int .i64 (k:Int)))):=
  hdd (FoldSt.set2 (w0:=w) (w:=w1) ⟨ns',h1,h2,h3,h4⟩ (Or.inr trivial) HGL.out HBB.out nlr HN1.out HS1.out HBL.out _ _)
 have HG:=hdd (set2 b2 (.pointer (some ⟨g,0,none⟩)) (.int .i64 (k:Int)));clear h1 h2 h3 h4 b2;go_wp2;obtain⟨x0,x1,-,-⟩:=aB HG.out;refine bodyPost_ret (v:=.agg #[_,_]) (by simp[results,Tryz.results28,go_sem,x0,x1];first|exact⟨rfl,rfl⟩|rfl) rfl ?_;exact HF.out.ret (numV g)
theorem agO{w:World}{g:Nat}(h:w.heap[b]? =some (.cells #[.pointer (some ⟨g,0,none⟩),.int .i64 (j:Int)] T (0,0))):NumsP w (.slice (some ⟨b,0,none⟩) 1 1) g [j]:=by
 obtain⟨c0,c1,-,-⟩:=aB h;refine⟨b,1,rfl,by simp,fun i x hx=> ?_⟩
 cases i with
 |zero=>simp at hx;subst hx;exact⟨c0,c1⟩
 |succ i=>simp at hx
theorem aiB{P:Ex->Prop}{B N:Nat}{w:World}{g:Nat}{ns:List Nd}{b:Ex}(hs:St P B N w g ns)(hN:N<20000)(ha:Is ns a i)(hb:Is ns b j)(hP:P (.sub a b)):
 Calls Tryz.prog 46 #[numV g i,numV g j] w (RetE P B (N+1) w g ns (numV g) (.sub a b)):=by
 obtain⟨w3,hw3,hb3,hs3,b1,b2,b3⟩:=pro3 w (.cells #[.pointer (some ⟨g,0,none⟩),.int .i64 (i:Int)] 32) (.cells #[.pointer (some ⟨g,0,none⟩),.int .i64 (j:Int)] 32) (.cells #[.pointer none,.int .i64 0] 32);obtain⟨w4,hw4,hb4,hs4,b4⟩:=pro1 w3 (.cells #[.pointer (some ⟨g,0,none⟩),.int .i64 (j:Int)] 32);have h34:=aA hb3 hb4;have HG:=hdd (zF (hs.dag.below h34) ha.lt (agO b4) (fun x hx=>by simp at hx;subst hx;exact hb.lt));have HOP:Hid (∀w',Below w.heap.size w w'->Calls Tryz.prog 74 #[.pointer (some ⟨g,0,none⟩),.int .i64 (i:Int),.int .i64 (j:Int)] w' (RetE P B (N+1) w' g ns idV (.sub a b))):=hdd fun w' h=>ab2 (hs.below h) hN ha hb hP;have HAW:Hid (∀w' (c:Nat),Below w.heap.size w w'->w.heap.size<=c->¬DagB w' g c):=hdd fun w' c h=>hs.away h;have HGL:=hdd hs.dag.glt;have HBL:=hdd hs.hB;obtain⟨c0,c1,-,-⟩:=aB b1;obtain⟨d0,d1,-,-⟩:=aB b2;have HB4:=hdd h34;have B3:=hdd (hbl b3 hb4);have HSZ:Hid (w.heap.size+2<w4.heap.size):=hdd (by omega);have e0:=cbl c0 hb4;have e1:=cbl c1 hb4
 have e2:=cbl d0 hb4;have e3:=cbl d1 hb4;clear hs hN ha hb hP hb3 hb4 h34 b1 b2 b3 b4 hs3 hs4;go_enter Tryz.func46,Tryz.ntmps46
 go_wp2_with fail
 refine HG.out.mono ?_;rintro e w5⟨rfl,hb5⟩;have hb5d:Below w4.heap.size w4 w5.drew:=aA hb5 (ayS _ _).drew;replace e0:=cbl e0 hb5d;replace e1:=cbl e1 hb5d;replace e2:=cbl e2 hb5d;replace e3:=cbl e3 hb5d;have HB5:=hdd (aA HB4.out hb5d);have B5:=hdd (hbl B3.out hb5d);have HSZ5:Hid (w.heap.size+2<w5.drew.heap.size):=hdd (by have:=hb5d.size;have:=HSZ.out;omega);clear hb5 hb5d c0 c1 d0 d1 hw3 hw4;have n1:w.heap.size+1+1≠w.heap.size:=by omega
 have n2:w.heap.size≠w.heap.size+1+1:=by omega
 go_wp2_with fail
 go_region_held3 (fun w'=>w'.cell? ⟨w.heap.size,0,none⟩=some (.pointer (some ⟨g,0,none⟩))/\w'.cell? ⟨w.heap.size,1,none⟩=some (.int .i64 (i:Int))/\w'.cell? ⟨w.heap.size+1,1,none⟩=some (.int .i64 (j:Int))) (go_keep)
  (first
  |(go_at_call 74
    refine(HOP.out _ HB5.out).mono ?_;rintro e w6⟨k,ns',rfl,h1,h2,h3,h4⟩;have e0:=h4.cell e0 (HAW.out _ _ HB5.out (by simp));have e1:=h4.cell e1 (HAW.out _ _ HB5.out (by simp));have e3:=h4.cell e3 (HAW.out _ _ HB5.out (by simp));have B6:=(h4.heap (b:=w.heap.size+2) HSZ5.out (HAW.out _ _ HB5.out (by omega))).trans B5.out;obtain⟨r0,r1,f0,f1⟩:=aB B6;have HF:Hid (FoldSt P B (N+1) w g ns (.sub a b) k ((w6.setCell ⟨w.heap.size+2,0,none⟩ (.pointer (some ⟨g,0,none⟩))).setCell ⟨w.heap.size+2,1,none⟩ (.int .i64 (k:Int)))):=
     hdd (FoldSt.set2 (w0:=w) ⟨ns',h1,h2,h3,h4⟩ (Or.inr trivial) HGL.out HB5.out (by omega) (HAW.out _ _ HB5.out (by omega)) HSZ5.out (by have:=HBL.out;omega) _ _)
    have HX:=hdd (set2 B6 (.pointer (some ⟨g,0,none⟩)) (.int .i64 (k:Int)));clear h1 h2 h3 h4 B6))
 go_wp2;obtain⟨x0,x1,-,-⟩:=aB HX.out;refine bodyPost_ret (v:=.agg #[_,_]) (by simp[results,Tryz.results46,go_sem,x0,x1];first|exact⟨rfl,rfl⟩|rfl) rfl ?_;exact HF.out.ret (numV g)
theorem add_num{P:Ex->Prop}{B N:Nat}{w:World}{g:Nat}{ns:List Nd}{e0:Ex}{es:List Ex}(hs:St P B N w g ns)(hl:NumsP w v g l)(hlen:l.length=es.length)(h0:0<l.length)
 (he0:Is ns e0 i) (hes:∀(m x:Nat) e,l[m]? =some x->es[m]? =some e->Is ns e x) (hP:∀m,m<es.length->P (iG 1 e0 (es.take (m+1)))) (hN:N+l.length<=20000):
 Calls Tryz.prog 42 #[numV g i,v] w (RetE P B (N+l.length) w g ns (numV g) (iG 1 e0 es)):=by
 obtain⟨w2,hw2,hb2,hs2,b1,b2⟩:=pro2 w (.cells #[.pointer (some ⟨g,0,none⟩),.int .i64 (i:Int)] 32) (.cells #[.pointer none,.int .i64 0] 32);have hll:∀x∈l,x<ns.length:=fun x hx=>by
  obtain⟨m,hm⟩:=List.getElem?_of_mem hx;have hml:=(List.getElem?_eq_some_iff.1 hm).1;exact(hes m x es[m] hm (List.getElem?_eq_getElem (by omega))).lt
 have HG:=hdd (zF (hs.dag.below hb2) he0.lt (hl.below hb2) hll);have HIDS:Hid (∀w',Below w.heap.size w w'->Calls Tryz.prog 86 #[.agg #[.pointer (some ⟨g,0,none⟩),.int .i64 (i:Int)],v] w' (aaZ w' (i::l))):=hdd fun w' h=>aiA (hl.below h);have HAW:Hid (∀w' (c:Nat),Below w.heap.size w w'->w.heap.size<=c->¬DagB w' g c):=hdd fun w' c h=>hs.away h;have HOP:Hid (∀w' v' (q:Nat),Below w.heap.size w w'->w.heap.size<=q->IntsP (fun b=>q<=b) w' v' (i::l)->Calls Tryz.prog 85 #[.pointer (some ⟨g,0,none⟩),v'] w' (RetE P B (N+l.length) w' g ns idV (iG 1 e0 es))):=
  hdd fun w' v' q h hq hi=>by
   obtain⟨b,c,q1,q2,q3,q4,q5,q6⟩:=hi;exact agK (hs.below h) ⟨b,c,q1,q2,q3,hs.away h (Nat.le_trans hq q4),q5,q6⟩ hlen h0 he0 hes hP hN
 have HGL:=hdd hs.dag.glt;have HBL:=hdd hs.hB;obtain⟨e0',e1',-,-⟩:=aB b1;have HB2:=hdd hb2;have B2:=hdd b2;have HSZ:Hid (w.heap.size+1<w2.heap.size):=hdd (by omega);obtain⟨bv,cv,rfl,-⟩:=id hl;clear hs hl hlen h0 he0 hes hP hN hll hb2 hs2 b1 b2;go_enter Tryz.func42,Tryz.ntmps42
 go_wp2_with fail
 refine HG.out.mono ?_;rintro e w5⟨rfl,hb5⟩;have hb5d:Below w2.heap.size w2 w5.drew:=aA hb5 (ayS _ _).drew;replace e0':=cell_below e0' hb5d nlr;replace e1':=cell_below e1' hb5d nlr;have HB5:=hdd (aA HB2.out hb5d);have B5:=hdd (hbl B2.out hb5d);clear hb5 hb5d;have n1:w.heap.size+1≠w.heap.size:=by omega
 have n2:w.heap.size≠w.heap.size+1:=by omega
 go_wp2_with fail
 go_region_held3 (fun w'=>w'.cell? ⟨w.heap.size,0,none⟩=some (.pointer (some ⟨g,0,none⟩))/\w'.cell? ⟨w.heap.size,1,none⟩=some (.int .i64 (i:Int))) (go_keep)
  (first
  |(go_at_call 86
    refine(HIDS.out _ HB5.out).mono ?_;rintro e w6⟨hb6,v6,rfl,hi6⟩;have e0':=cell_below e0' hb6 nlr;have e1':=cell_below e1' hb6 nlr;have HB6:=hdd (aA HB5.out hb6);have B6:=hdd (hbl B5.out hb6);have HADD:=hdd (HOP.out w6 v6 _ HB6.out HB5.out.size hi6);obtain⟨b6,c6,rfl,-⟩:=hi6;clear hb6)
  |(go_at_call 85
    refine HADD.out.mono ?_;rintro e w7⟨k,ns',rfl,h1,h2,h3,h4⟩;have e0':=h4.cell e0' (HAW.out _ _ HB6.out (by simp));have e1':=h4.cell e1' (HAW.out _ _ HB6.out (by simp));have hlt6:w.heap.size+1<w6.heap.size:=aF B6.out;have B7:=(h4.heap (b:=w.heap.size+1) hlt6 (HAW.out _ _ HB6.out (by omega))).trans B6.out;obtain⟨r0,r1,f0,f1⟩:=aB B7;have HF:Hid (FoldSt P B (N+l.length) w g ns (iG 1 e0 es) k ((w7.setCell ⟨w.heap.size+1,0,none⟩ (.pointer (some ⟨g,0,none⟩))).setCell ⟨w.heap.size+1,1,none⟩ (.int .i64 (k:Int)))):=
     hdd (FoldSt.set2 (w0:=w) ⟨ns',h1,h2,h3,h4⟩ (Or.inr trivial) HGL.out HB6.out (by omega) (HAW.out _ _ HB6.out (by omega)) hlt6 (by have:=HBL.out;omega) _ _)
    have HX:=hdd (set2 B7 (.pointer (some ⟨g,0,none⟩)) (.int .i64 (k:Int)));clear h1 h2 h3 h4 B7 hlt6))
 go_wp2;obtain⟨x0,x1,-,-⟩:=aB HX.out;refine bodyPost_ret (v:=.agg #[_,_]) (by simp[results,Tryz.results42,go_sem,x0,x1];first|exact⟨rfl,rfl⟩|rfl) rfl ?_;exact HF.out.ret (numV g)
theorem vI{w:World}{g k:Nat}{ns:List Nd}(hd:DagP w g ns)(hk:k<ns.length):
 Calls Tryz.prog 64 #[.agg #[.pointer (some ⟨g,0,none⟩),.int .i64 (k:Int)],.slice none 0 0] w (RetV w (.bool true)):=by
 obtain⟨w1,hw1,hb1,hs1,b1⟩:=pro1 w (.cells #[.pointer (some ⟨g,0,none⟩),.int .i64 (k:Int)] 32);obtain⟨c0,c1,-,-⟩:=aB b1;have HV:=hdd (kC (hd.below hb1) hk);have HB:=hdd hb1;clear hd hk hb1 hs1 b1;go_enter Tryz.func64,Tryz.ntmps64
 go_wp2_with fail
 refine HV.out.mono ?_;rintro e w2⟨rfl,hb2⟩;have HB2:=hdd (aA HB.out hb2);clear hb2;go_wp2_with fail
 go_loopw [12] (fun i wr=>i=.int .i64 0/\Hid (wr=w2)) (fun _ _=>0)
 case atStart=>exact⟨rfl,hdd rfl⟩
 case round=>
  obtain⟨rfl,HW⟩:=hrel;obtain rfl:=HW.out;clear HW;go_wp2;go_ret;exact⟨rfl,HB2.out⟩
theorem agP{P:Ex->Prop}{B N:Nat}{w:World}{g:Nat}{ns:List Nd}(hs:St P B N w g ns)(hN:N<20000)(ha:Is ns a i)(hP:P (.root a)):
 Calls Tryz.prog 29 #[numV g i] w (RetE P B (N+1) w g ns (numV g) (.root a)):=by
 obtain⟨w4,hw4,hb4,hs4,b1,b2⟩:=pro2 w (.cells #[.pointer (some ⟨g,0,none⟩),.int .i64 (i:Int)] 32) (.cells #[.pointer none,.int .i64 0] 32);have HG:=hdd (vI (hs.dag.below hb4) ha.lt);have HOP:Hid (∀w',Below w.heap.size w w'->Calls Tryz.prog 66 #[.pointer (some ⟨g,0,none⟩),.int .i64 (i:Int)] w' (RetE P B (N+1) w' g ns idV (.root a))):=hdd fun w' h=>agI (hs.below h) hN ha hP;have HAW:Hid (∀w' (c:Nat),Below w.heap.size w w'->w.heap.size<=c->¬DagB w' g c):=hdd fun w' c h=>hs.away h;have HGL:=hdd hs.dag.glt;have HBL:=hdd hs.hB;obtain⟨e0,e1,-,-⟩:=aB b1;have HB4:=hdd hb4;have B3:=hdd b2;clear hs hN ha hP hb4 b1 b2 hs4;go_enter Tryz.func29,Tryz.ntmps29
 go_wp2_with fail
 refine HG.out.mono ?_;rintro e w5⟨rfl,hb5⟩;have hb5d:Below w4.heap.size w4 w5.drew:=aA hb5 (ayS _ _).drew;replace e0:=cbl e0 hb5d;replace e1:=cbl e1 hb5d;have HB5:=hdd (aA HB4.out hb5d);have B5:=hdd (hbl B3.out hb5d);clear hb5 hb5d hw4;have n1:w.heap.size+1≠w.heap.size:=by omega
 have n2:w.heap.size≠w.heap.size+1:=by omega
 go_wp2_with fail
 go_region_held3 (fun w'=>w'.cell? ⟨w.heap.size,0,none⟩=some (.pointer (some ⟨g,0,none⟩))/\w'.cell? ⟨w.heap.size,1,none⟩=some (.int .i64 (i:Int))) (go_keep)
  (first
  |(go_at_call 66
    refine(HOP.out _ HB5.out).mono ?_;rintro e w6⟨k,ns',rfl,h1,h2,h3,h4⟩;have e0:=h4.cell e0 (HAW.out _ _ HB5.out (by simp));have e1:=h4.cell e1 (HAW.out _ _ HB5.out (by simp));have hlt5:w.heap.size+1<w5.drew.heap.size:=aF B5.out;have B6:=(h4.heap (b:=w.heap.size+1) hlt5 (HAW.out _ _ HB5.out (by omega))).trans B5.out;obtain⟨r0,r1,f0,f1⟩:=aB B6;have HF:Hid (FoldSt P B (N+1) w g ns (.root a) k ((w6.setCell ⟨w.heap.size+1,0,none⟩ (.pointer (some ⟨g,0,none⟩))).setCell ⟨w.heap.size+1,1,none⟩ (.int .i64 (k:Int)))):=
     hdd (FoldSt.set2 (w0:=w) ⟨ns',h1,h2,h3,h4⟩ (Or.inr trivial) HGL.out HB5.out (by omega) (HAW.out _ _ HB5.out (by omega)) hlt5 (by have:=HBL.out;omega) _ _)
    have HX:=hdd (set2 B6 (.pointer (some ⟨g,0,none⟩)) (.int .i64 (k:Int)));clear h1 h2 h3 h4 B6 hlt5))
 go_wp2;obtain⟨x0,x1,-,-⟩:=aB HX.out;refine bodyPost_ret (v:=.agg #[_,_]) (by simp[results,Tryz.results29,go_sem,x0,x1];first|exact⟨rfl,rfl⟩|rfl) rfl ?_;exact HF.out.ret (numV g)
def RetS(w:World)(s:Int)(e:Ending)(w':World):Prop:=e=.returned (.tuple #[.int .i64 s,.nilIface])/\Below w.heap.size w w'
def lJ(P:Ex->Prop)(x:Ex)(s:Int):Prop:=∀(B N:Nat) (w:World) (g k:Nat) (ns:List Nd),St P B N w g ns->Is ns x k->
 Calls Tryz.prog 52 #[.pointer (some ⟨g,0,none⟩),.int .i64 (k:Int),.slice none 0 0] w (RetS w s)
def RetQ(P:Ex->Prop)(B N:Nat)(w:World)(g:Nat)(ns:List Nd)(v:Value)(e:Ending)(w':World):Prop:=
 e=.returned v/\∃ns',St P B N w' g ns'/\ns<+:ns'/\DS g w w'
theorem zI{P:Ex->Prop}{B N:Nat}{w:World}{g k:Nat}{ns:List Nd}{x:Ex}(hs:St P B N w g ns)(hx:Is ns x k)(hS:lJ P x s):
 Calls Tryz.prog 16 #[numV g k] w (RetS w s):=by
 obtain⟨w1,hw1,hb1,hs1,b1⟩:=pro1 w (.cells #[.pointer (some ⟨g,0,none⟩),.int .i64 (k:Int)] 32);obtain⟨c0,c1,-,-⟩:=aB b1;have HV:=hdd (kC (hs.dag.below hb1) hx.lt);have HS:Hid (∀w',Below w.heap.size w w'->Calls Tryz.prog 52 #[.pointer (some ⟨g,0,none⟩),.int .i64 (k:Int),.slice none 0 0] w' (RetS w' s)):=hdd fun w' h=>hS B N w' g k ns (hs.below h) hx;have HB:=hdd hb1;clear hs hx hS hb1 hs1 b1;go_enter Tryz.func16,Tryz.ntmps16
 go_wp2_with fail
 refine HV.out.mono ?_;rintro e w2⟨rfl,hb2⟩;replace c0:=cbl c0 hb2;replace c1:=cbl c1 hb2;have HB2:=hdd (aA HB.out hb2);clear hb2;go_wp2_with fail
 refine(HS.out _ HB2.out).mono ?_;rintro e w3⟨rfl,hb3⟩;have HB3:=hdd (aA HB2.out hb3);clear hb3;go_wp2
 go_ret2
 exact⟨rfl,HB3.out⟩
theorem aiC{P:Ex->Prop}{B N:Nat}{w:World}{g:Nat}{ns:List Nd}{b:Ex}(hs:St P B N w g ns)(hN:N<20000)(ha:Is ns a i)(hb:Is ns b j)(hP:P (.sub a b))(hS:lJ P (.sub a b) s):
 Calls Tryz.prog 15 #[numV g i,numV g j] w (RetQ P B (N+1) w g ns (.tuple #[.int .i64 s,.nilIface])):=by
 obtain⟨w2,hw2,hb2,hs2,b1,b2⟩:=pro2 w (.cells #[.pointer (some ⟨g,0,none⟩),.int .i64 (i:Int)] 32) (.cells #[.pointer (some ⟨g,0,none⟩),.int .i64 (j:Int)] 32);obtain⟨c0,c1,-,-⟩:=aB b1;obtain⟨d0,d1,-,-⟩:=aB b2;have HSUB:=hdd (aiB (hs.below hb2) hN ha hb hP);have HDS:=hdd (DS.of_below hs.dag.glt hb2);have HSG:Hid (∀w' k ns',St P B (N+1) w' g ns'->Is ns' (.sub a b) k->Calls Tryz.prog 16 #[numV g k] w' (RetS w' s)):=hdd fun w' k ns' h1 h2=>zI h1 h2 hS;clear hs hN ha hb hP hS hb2 hs2 b1 b2;go_enter Tryz.func15,Tryz.ntmps15
 go_wp2_with fail
 refine HSUB.out.mono ?_;rintro e w3⟨k,ns',rfl,h1,h2,h3,h4⟩;have HC:=hdd (HSG.out w3 k ns' h1 h3);have HR:Hid (∀w',Below w3.heap.size w3 w'->RetQ P B (N+1) w g ns (.tuple #[.int .i64 s,.nilIface]) (.returned (.tuple #[.int .i64 s,.nilIface])) w'):=hdd fun w' h=>⟨rfl,ns',h1.below h,h2,HDS.out.trans (h4.trans (DS.of_below h1.dag.glt h))⟩;clear h1 h2 h3 h4;go_wp2_with fail
 refine HC.out.mono ?_;rintro e w4⟨rfl,hb4⟩;have HF:=hdd (HR.out _ hb4);clear hb4;go_wp2
 go_ret2
 exact HF.out
def zJ(w:World)(ul:Nat×Nat)(e:Ending)(w':World):Prop:=Below w.heap.size w w'/\e=.returned (.agg #[.int .i64 (ul.1:Int),.int .i64 (ul.2:Int),.bool true])
def EnX(need:Prop)(ul:Nat×Nat)(v:Value):Prop:=∃(u l:Int) (t:Bool),v=.agg #[.int .i64 u,.int .i64 l,.bool t]/\(0<=u/\u<=1000000)/\(0<=l/\l<=1000000)/\(need->t=true/\u=(ul.1:Int)/\l=(ul.2:Int))
def uN(n:Nd)(a b:Nat×Nat):Nat×Nat:=
 if n.kind=0 then(iZ n.val,jA n.val)else if n.kind=1\/n.kind=2 then(1+max (a.1+b.2) (a.2+b.1),a.2+b.2)else if n.kind=3 then(a.1+b.1,a.2+b.2)else if n.kind=4 then(a.1+b.2,a.2+b.1)
 else if a.1>=a.2 then((a.1+a.2+1)/2,a.2)else(a.1,(a.1+a.2+1)/2)
theorem lK{g:Nat}{w1:World}{a b c:Value}{ul:Nat×Nat}{u l:Int}(hb:Below w0.heap.size w0 w1)(hg:w0.heap.size<=g)(hw:w1.heap[g]? =some (.cells #[a,b,c] T (0,0)))(hu:u=(ul.1:Int))(hl:l=(ul.2:Int)):
 Hid (zJ w0 ul (.returned (.agg #[.int .i64 u,.int .i64 l,.bool true])) (((w1.setCell ⟨g,0,none⟩ (.int .i64 u)).setCell ⟨g,1,none⟩ (.int .i64 l)).setCell ⟨g,2,none⟩ (.bool true)))/\
 (((w1.setCell ⟨g,0,none⟩ (.int .i64 u)).setCell ⟨g,1,none⟩ (.int .i64 l)).setCell ⟨g,2,none⟩ (.bool true)).heap[g]? =some (.cells #[.int .i64 u,.int .i64 l,.bool true] T (0,0)):=by
 subst hu hl;exact⟨hdd ⟨((hb.setCell hg _).setCell hg _).setCell hg _,rfl⟩,set3 hw _ _ _⟩
theorem aa0{w:World}(hb:b<18446744073709551616)(hf:fin b)(hs:Sz 53 1100 (leafD b))(hT:Tab w):Calls Tryz.prog 249 #[.float .f64 b] w (zJ w (iZ b,jA b)):=by
 obtain⟨w1,hw1,hb1,hs1,b1⟩:=pro1 w (.cells #[.int .i64 0,.int .i64 0,.bool false] 243);have HD:=hdd (qA hb hf (hT.below hb1));replace HD:Hid (Calls Tryz.prog 250 #[.float .f64 b] w1 (p9 w1.heap.size w1 (leafD b) true)):=HD;have HB:=hdd hb1;have B1:=hdd b1;have HSM:=hdd hs;clear hb hf hs hT hb1 b1;go_enter Tryz.func249,Tryz.ntmps249
 go_wp2_with fail
 refine HD.out.mono ?_;rintro e w5⟨hb5,v5,rfl,hz⟩;obtain⟨b5,A5,n5,c5,rfl,hz⟩:=hz;have HB5S:=hdd hb5.size;obtain⟨w6,hw6,hb6,hs6,q1⟩:=pro1 w5 (.cells #[Value.bool false,Value.slice none 0 0,.int .i64 0] 121);obtain⟨e0,e1,e2,e3,e4,e5⟩:=cells3 q1;have S1:=set3 q1 (.bool b5) (.slice A5 n5 c5) (.int .i64 (leafD b).exp);have g1:=hb6.setCell (p:=⟨w5.heap.size,0,none⟩) nlr (.bool b5);have g2:=g1.setCell (p:=⟨w5.heap.size,1,none⟩) nlr (.slice A5 n5 c5);have g3:=g2.setCell (p:=⟨w5.heap.size,2,none⟩) nlr (.int .i64 (leafD b).exp);have F:=And.intro S1 g3;clear S1 g1 g2 g3 hb6 hs6 q1;generalize hW:((w6.setCell ⟨w5.heap.size,0,none⟩ (.bool b5)).setCell ⟨w5.heap.size,1,none⟩ (.slice A5 n5 c5)).setCell ⟨w5.heap.size,2,none⟩ (.int .i64 (leafD b).exp)=w7 at F;obtain⟨S1,g3⟩:=F;obtain⟨x0,x1,x2,-,-,-⟩:=cells3 S1;have HB7:=hdd (aA hb5 g3);have HI:=hdd ((hz.any).below g3);have HSG:=hdd (bX (p:=AnyB) (w:=w7) ⟨b5,A5,n5,c5,rfl,(hz.any).below g3⟩);clear S1 g3 hb5 hz;go_wp2_with fail
 refine HSG.out.mono ?_;rintro r w8⟨rfl,hb8⟩;replace x0:=cbl x0 hb8;replace x1:=cbl x1 hb8;replace x2:=cbl x2 hb8;have HB8:=hdd (aA HB7.out hb8);have HI8:=hdd (HI.out.below hb8);clear hb8 e0 e1 e2 e3 e4 e5 hw6 hW;by_cases hz:(leafD b).man=0
 . have hs0:((leafD b).man.sign==0)=true:=by rw[hz];rfl
   have b8:=aC B1.out HB8.out (aF B1.out);obtain⟨e0,e1,e2,e3,e4,e5⟩:=cells3 b8;obtain⟨HR,hR⟩:=lK (ul:=(iZ b,jA b)) (u:=0) (l:=0) (HB.out.trans (HB8.out.mono HB.out.size)) nlr b8 (by simp only[iZ];rw[if_pos hz];rfl) (by simp only[jA];rw[if_pos hz];rfl);have HFF:=hdd hR;clear hz b8 hR x0 x1 x2;go_wp2;obtain⟨f0,f1,f2,-,-,-⟩:=cells3 HFF.out;refine bodyPost_ret (v:=.agg #[_,_,_]) (by simp[results,Tryz.results249,go_sem,f0,f1,f2];first|exact⟨rfl,rfl,rfl⟩|rfl) rfl ?_;exact HR.out
 . have hs0:((leafD b).man.sign==0)=false:=beq_eq_false_iff_ne.2 (fun h=>hz (Int.sign_eq_zero_iff_zero.1 h))
   obtain⟨xs,hx1,-,hx3,-⟩:=HI8.out.get;have HBT:=hdd (cK hx1);have HX1:=hdd hx1;have hbl:bits (val xs)<=53:=by rw[hx3];have:=HSM.out.2.1;omega
   have hel:-1100<=(leafD b).exp/\(leafD b).exp<=1100:=by have h1:=HSM.out.2.2 hz;have:=kM hz;omega
   have HLU:Hid (iZ b=bits (val xs)+(leafD b).exp.toNat/\jA b=(-(leafD b).exp).toNat):=hdd (by unfold iZ jA;rw[if_neg hz,if_neg hz,hx3];exact⟨rfl,rfl⟩);clear HSM;generalize (leafD b).exp=E at*;have hw1:IntKind.i64.wrap (-E)=-E:=wrap_i64 (by omega);have hw2:IntKind.i64.wrap (0-E)=-E:=by rw[wrap_i64 (by omega)];omega
   have HBLI:Hid ((0:Int)<=(bits (val xs):Int)/\(bits (val xs):Int)<=53):=hdd (by omega);have hw3:IntKind.i64.wrap ((bits (val xs):Int)+max E 0)=(bits (val xs):Int)+max E 0:=wrap_i64 (by omega);clear hx1 hx3 hz hbl;have n1:w.heap.size≠w5.heap.size:=by have:=aF B1.out;have:=HB5S.out;omega
   replace HBT:=hdd (cK (HX1.out.below ((ayS _ _).drew (w:=w8))));go_wp2_with fail
   have hdr:Below w8.heap.size w8 w8.drew:=(ayS _ _).drew;replace x0:=cbl x0 hdr;replace x1:=cbl x1 hdr;replace x2:=cbl x2 hdr
   go_region_held3 (fun w'=>w'.cell? ⟨w5.heap.size,0,none⟩=some (.bool b5)/\w'.cell? ⟨w5.heap.size,1,none⟩=some (.slice A5 n5 c5)/\w'.cell? ⟨w5.heap.size,2,none⟩=some (.int .i64 E)) (go_keep)
    (first
    |(go_at_call 112
      refine HBT.out.mono ?_;rintro r w9⟨rfl,k,hk⟩;have hd:Below w8.heap.size w8 w9:=by rw[hk];exact(ayS _ _).drew.trans (below_drewN w8.drew k)
      have hd2:Below w8.drew.heap.size w8.drew w9:=by rw[hk];exact below_drewN w8.drew k
      have x0:=cbl x0 hd2;have x1:=cbl x1 hd2;have x2:=cbl x2 hd2;have HB9:=hdd (aA HB8.out hd);have b8:=aC B1.out HB9.out (aF B1.out);obtain⟨e0,e1,e2,e3,e4,e5⟩:=cells3 b8;have HB8N:=hdd b8;clear hd hd2 hk b8))
   all_goals
    obtain⟨HR,hR⟩:=lK (ul:=(iZ b,jA b)) (u:=(bits (val xs):Int)+max E 0) (l:=max (-E) 0) (HB.out.trans (HB9.out.mono HB.out.size)) nlr HB8N.out (by simp only[];rw[HLU.out.1];omega) (by simp only[];rw[HLU.out.2];omega);have HFF:=hdd hR;clear hR;go_wp2;obtain⟨f0,f1,f2,-,-,-⟩:=cells3 HFF.out;refine bodyPost_ret (v:=.agg #[_,_,_]) (by simp[results,Tryz.results249,go_sem,f0,f1,f2];first|exact⟨rfl,rfl,rfl⟩|rfl) rfl ?_;exact HR.out
theorem aa1{n:Nd}{va vb:Value}{w:World}{a b:Nat×Nat}(hk:n.kind=0\/n.kind=1\/n.kind=2\/n.kind=3\/n.kind=4\/n.kind=5)(hlf:n.kind=0->n.val<18446744073709551616/\fin n.val/\Sz 53 1100 (leafD n.val))
 (ha:EnX (n.kind≠0) a va) (hb:EnX (n.kind≠0/\n.kind≠5) b vb) (hT:Tab w):
 Calls Tryz.prog 215 #[jE n,va,vb] w (zJ w (uN n a b)):=by
 obtain⟨kind,val,na,nb⟩:=n;simp only at hk hlf ha hb;unfold jE;obtain⟨u,l,t,rfl,hu,hl,ht⟩:=ha;obtain⟨u',l',t',rfl,hu',hl',ht'⟩:=hb;obtain⟨w4,hw4,hb4,hs4,b1,b2,b3,b4⟩:=pro4 w (.cells #[.int .i64 kind,.float .f64 val,.int .i64 na,.int .i64 nb] 111) (.cells #[.int .i64 u,.int .i64 l,.bool t] 243) (.cells #[.int .i64 u',.int .i64 l',.bool t'] 243) (.cells #[.int .i64 0,.int .i64 0,.bool false] 243);obtain⟨k0,k1,k2,k3⟩:=bM b1;obtain⟨c0,c1,c2,-,-,-⟩:=cells3 b2;obtain⟨d0,d1,d2,-,-,-⟩:=cells3 b3;obtain⟨e0,e1,e2,e3,e4,e5⟩:=cells3 b4;have HB:=hdd hb4;have B4:=hdd b4;have HT:=hdd (hT.below hb4);have HST:Hid (∀(ul:Nat×Nat) (w5:World),Below w4.heap.size w4 w5->∀(u l:Int),u=(ul.1:Int)->l=(ul.2:Int)->
  zJ w ul (.returned (.agg #[.int .i64 u,.int .i64 l,.bool true])) (((w5.setCell ⟨w.heap.size+3,0,none⟩ (.int .i64 u)).setCell ⟨w.heap.size+3,1,none⟩ (.int .i64 l)).setCell ⟨w.heap.size+3,2,none⟩ (.bool true))/\
  (((w5.setCell ⟨w.heap.size+3,0,none⟩ (.int .i64 u)).setCell ⟨w.heap.size+3,1,none⟩ (.int .i64 l)).setCell ⟨w.heap.size+3,2,none⟩ (.bool true)).heap[w.heap.size+3]? =some (.cells #[.int .i64 u,.int .i64 l,.bool true] 243 (0,0))):=hdd (by
  intro ul w5 h5 u l hu hl;obtain⟨r1,r2⟩:=lK (ul:=ul) (u:=u) (l:=l) (HB.out.trans (h5.mono HB.out.size)) (by omega) (aC B4.out h5 (aF B4.out)) hu hl;exact⟨r1.out,r2⟩)
 rcases hk with rfl|rfl|rfl|rfl|rfl|rfl
 . obtain⟨q1,q2,q3⟩:=hlf rfl
   have HL:=hdd (aa0 q1 q2 q3 HT.out);clear hb4 b1 b2 b3 b4 hs4 hT hlf q1 q2 q3 ht ht'
   cases t
   all_goals
    go_enter Tryz.func215,Tryz.ntmps215
    go_wp2_with fail
    refine HL.out.mono ?_;rintro r w5⟨hb5,rfl⟩;obtain⟨hR,hF⟩:=HST.out (iZ val,jA val) w5 hb5 _ _ rfl rfl;have HR:=hdd hR;have HFF:=hdd hF;obtain⟨e0,e1,e2,e3,e4,e5⟩:=cells3 (aC B4.out hb5 (aF B4.out));clear hb5 hR hF c0 c1 c2 d0 d1 d2 k0 k1 k2 k3 hw4;go_wp2;obtain⟨f0,f1,f2,-,-,-⟩:=cells3 HFF.out;refine bodyPost_ret (v:=.agg #[_,_,_]) (by simp[results,Tryz.results215,go_sem,f0,f1,f2];first|exact⟨rfl,rfl,rfl⟩|rfl) rfl ?_;exact HR.out
 . clear hb4 b1 b2 b3 b4 hs4 hT hlf
   obtain⟨rfl,hua,hla⟩:=ht (by decide);obtain⟨rfl,hub,hlb⟩:=ht' (by decide);obtain⟨hR,hF⟩:=HST.out (1+max (a.1+b.2) (a.2+b.1),a.2+b.2) w4 (ayS _ _) (1+max (u+l') (l+u')) (l+l') (show _=((1+max (a.1+b.2) (a.2+b.1):Nat):Int) by omega) (show _=((a.2+b.2:Nat):Int) by omega);have HR:=hdd hR;have HFF:=hdd hF;clear hR hF hua hla hub hlb ht ht';go_enter Tryz.func215,Tryz.ntmps215
   go_wp2;obtain⟨f0,f1,f2,-,-,-⟩:=cells3 HFF.out;refine bodyPost_ret (v:=.agg #[_,_,_]) (by simp[results,Tryz.results215,go_sem,f0,f1,f2];first|exact⟨rfl,rfl,rfl⟩|rfl) rfl ?_;exact HR.out
 . clear hb4 b1 b2 b3 b4 hs4 hT hlf
   obtain⟨rfl,hua,hla⟩:=ht (by decide);obtain⟨rfl,hub,hlb⟩:=ht' (by decide);obtain⟨hR,hF⟩:=HST.out (1+max (a.1+b.2) (a.2+b.1),a.2+b.2) w4 (ayS _ _) (1+max (u+l') (l+u')) (l+l') (show _=((1+max (a.1+b.2) (a.2+b.1):Nat):Int) by omega) (show _=((a.2+b.2:Nat):Int) by omega);have HR:=hdd hR;have HFF:=hdd hF;clear hR hF hua hla hub hlb ht ht';go_enter Tryz.func215,Tryz.ntmps215
   go_wp2;obtain⟨f0,f1,f2,-,-,-⟩:=cells3 HFF.out;refine bodyPost_ret (v:=.agg #[_,_,_]) (by simp[results,Tryz.results215,go_sem,f0,f1,f2];first|exact⟨rfl,rfl,rfl⟩|rfl) rfl ?_;exact HR.out
 . clear hb4 b1 b2 b3 b4 hs4 hT hlf
   obtain⟨rfl,hua,hla⟩:=ht (by decide);obtain⟨rfl,hub,hlb⟩:=ht' (by decide);obtain⟨hR,hF⟩:=HST.out (a.1+b.1,a.2+b.2) w4 (ayS _ _) (u+u') (l+l') (show _=((a.1+b.1:Nat):Int) by omega) (show _=((a.2+b.2:Nat):Int) by omega);have HR:=hdd hR;have HFF:=hdd hF;clear hR hF hua hla hub hlb ht ht';go_enter Tryz.func215,Tryz.ntmps215
   go_wp2;obtain⟨f0,f1,f2,-,-,-⟩:=cells3 HFF.out;refine bodyPost_ret (v:=.agg #[_,_,_]) (by simp[results,Tryz.results215,go_sem,f0,f1,f2];first|exact⟨rfl,rfl,rfl⟩|rfl) rfl ?_;exact HR.out
 . clear hb4 b1 b2 b3 b4 hs4 hT hlf
   obtain⟨rfl,hua,hla⟩:=ht (by decide);obtain⟨rfl,hub,hlb⟩:=ht' (by decide);obtain⟨hR,hF⟩:=HST.out (a.1+b.2,a.2+b.1) w4 (ayS _ _) (u+l') (l+u') (show _=((a.1+b.2:Nat):Int) by omega) (show _=((a.2+b.1:Nat):Int) by omega);have HR:=hdd hR;have HFF:=hdd hF;clear hR hF hua hla hub hlb ht ht';go_enter Tryz.func215,Tryz.ntmps215
   go_wp2;obtain⟨f0,f1,f2,-,-,-⟩:=cells3 HFF.out;refine bodyPost_ret (v:=.agg #[_,_,_]) (by simp[results,Tryz.results215,go_sem,f0,f1,f2];first|exact⟨rfl,rfl,rfl⟩|rfl) rfl ?_;exact HR.out
 . clear hb4 b1 b2 b3 b4 hs4 hT hlf
   obtain⟨rfl,hua,hla⟩:=ht (by decide);have hun:uN ⟨5,val,na,nb⟩ a b=if a.1>=a.2 then((a.1+a.2+1)/2,a.2)else(a.1,(a.1+a.2+1)/2):=rfl;rw[hun];have hw1:IntKind.i64.wrap (u+l)=u+l:=wrap_i64 (by omega);have hw2:IntKind.i64.wrap (u+l+1)=u+l+1:=wrap_i64 (by omega);obtain⟨hv,hhv⟩:∃hv:Int,(u+l+1).tdiv 2=hv:=⟨_,rfl⟩;have hv2:hv=(u+l+1)/2:=by rw[<-hhv,Int.tdiv_eq_ediv_of_nonneg (by omega)]
   have hw3:IntKind.i64.wrap hv=hv:=wrap_i64 (by omega);by_cases hge:l<=u
   . rw[if_pos (by omega)]
     obtain⟨hR,hF⟩:=HST.out ((a.1+a.2+1)/2,a.2) w4 (ayS _ _) hv l (show _=(((a.1+a.2+1)/2:Nat):Int) by omega) hla;have HR:=hdd hR;have HFF:=hdd hF;clear hR hF hua hla ht ht' hv2;go_enter Tryz.func215,Tryz.ntmps215
     go_wp2;obtain⟨f0,f1,f2,-,-,-⟩:=cells3 HFF.out;refine bodyPost_ret (v:=.agg #[_,_,_]) (by simp[results,Tryz.results215,go_sem,f0,f1,f2];first|exact⟨rfl,rfl,rfl⟩|rfl) rfl ?_;exact HR.out
   . rw[if_neg (by omega)]
     obtain⟨hR,hF⟩:=HST.out (a.1,(a.1+a.2+1)/2) w4 (ayS _ _) u hv hua (show _=(((a.1+a.2+1)/2:Nat):Int) by omega);have HR:=hdd hR;have HFF:=hdd hF;clear hR hF hua hla ht ht' hv2;go_enter Tryz.func215,Tryz.ntmps215
     go_wp2;obtain⟨f0,f1,f2,-,-,-⟩:=cells3 HFF.out;refine bodyPost_ret (v:=.agg #[_,_,_]) (by simp[results,Tryz.results215,go_sem,f0,f1,f2];first|exact⟨rfl,rfl,rfl⟩|rfl) rfl ?_;exact HR.out
end Go.Proofs.YtebocijmegkfgaaGreatDoor
