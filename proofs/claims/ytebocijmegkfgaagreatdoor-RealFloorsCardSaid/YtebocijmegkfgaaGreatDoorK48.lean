/- A part of the proof: contracts of functions and plain laws (CnV, OpA, TwD). -/
import Derived.Test.YtebocijmegkfgaaGreatDoorK41
import Derived.Test.YtebocijmegkfgaaGreatDoorK47
import Derived.Test.YtebocijmegkfgaaGreatDoorK46
import Derived.Test.YtebocijmegkfgaaGreatDoorK20
import Derived.Test.YtebocijmegkfgaaGreatDoorK30
import Derived.IntWalk
import Derived.Test.YtebocijmegkfgaaGreatDoorK44
set_option linter.unusedVariables false
set_option linter.unusedSimpArgs false
set_option linter.unnecessarySimpa false
set_option maxHeartbeats 25600000
set_option maxRecDepth 100000
namespace Go.Proofs.YtebocijmegkfgaaGreatDoor
section
open Go.RowKit
open Go.Act renaming put->atF
open List renaming setIfInBounds_toArray->as7,set_cons_zero->as8,set_cons_succ->as9,getElem?_cons_zero->atA,getElem?_cons_succ->atC,getElem?_toArray->atD,length_pos_iff->atI
open Option renaming bind_some->atE,getD_some->atG,getD_none->atH
variable{z:Int}{p q:Nat->Prop}{va vb:Value}{w:World}
theorem amB{x y:Dy}(hx:DyC p w va x)(hy:DyC q w vb y)(cx:Canon x)(cy:Canon y)(sx:SmD x)(sy:SmD y):
 Calls Tryz.prog 81 #[va,vb] w (RetW w (cmpD x y==0)):=by
 obtain⟨ba,A,n,c,us,rfl,h⟩:=hx;obtain⟨bb,A',n',c',vs,rfl,h'⟩:=hy;obtain⟨w2,hw2,hb2,hs2,b1,b2⟩:=pro2 w (.cells #[Value.bool ba,.slice A n c,.int .i64 x.exp] 90) (.cells #[Value.bool bb,.slice A' n' c',.int .i64 y.exp] 90);have HC:=hdd (anS (w:=w2) (DyC.below ⟨_,_,_,_,_,rfl,h⟩ hb2) (DyC.below ⟨_,_,_,_,_,rfl,h'⟩ hb2) cx cy sx sy);have HB:=hdd hb2;obtain⟨c0,c1,c2,-,-,-⟩:=cells3 b1;obtain⟨d0,d1,d2,-,-,-⟩:=cells3 b2;clear h h' hb2 hs2 b1 b2 cx cy sx sy;go_enter Tryz.func81,Tryz.ntmps81
 go_wp2_with fail
 refine HC.out.mono ?_;rintro e w3⟨rfl,hb⟩;have HF:Hid (RetW w (cmpD x y==0) (.returned (.bool (cmpD x y==0))) w3):=hdd ⟨rfl,aA HB.out hb⟩;generalize (cmpD x y)=q at*;clear hb HC HB;go_wp2;go_ret;exact HF.out
theorem apP(z:Int):sg (decide (z<0)) z.natAbs=z:=by
 unfold sg;by_cases h:z<0
 . rw[decide_eq_true h,if_pos rfl];omega
 . rw[decide_eq_false h,if_neg (by decide)];omega
theorem aoJ(hx:IntP p w va z)(hz:bits z.natAbs<=1000000):
 Calls Tryz.prog 82 #[va] w (al4 w (mkDy z 0)):=by
 obtain⟨vm,xs,rfl,h1,h2,h3⟩:=hx;obtain⟨A,c,rfl,-,-,-,-⟩:=id h1;obtain⟨w2,hw2,hb2,hs2,b1,b2⟩:=pro2 w (.cells #[Value.bool (decide (z<0)),.slice A xs.length c] 80) (.cells #[.bool false,.slice none 0 0,.int .i64 0] 90);have HBW:Below w2.heap.size w2 w2.drew:=(Below.refl _ _).drew;have HFR:=hdd (anP ((h1.below hb2).below HBW) (by have:=aZ xs h1.ok h2;rw[h3]at this;omega));have HB:=hdd hb2;have B2:=hdd b2;have HV:=hdd h3;obtain⟨c0,c1,-,-⟩:=aB b1;replace c0:=cbl c0 HBW;replace c1:=cbl c1 HBW;obtain⟨B0,hB0⟩:∃b,decide (z<0)=b:=⟨_,rfl⟩;have HSG:Hid (sg B0 z.natAbs=z):=hdd (by rw[<-hB0];exact apP z);rw[hB0]at c0 hw2|-;clear h1 h2 h3 hb2 b1 b2 hs2 hB0;go_enter Tryz.func82,Tryz.ntmps82
 go_wp2_with fail
 have n1:w.heap.size+1≠w.heap.size:=by omega
 go_region_held3 (fun w'=>w'.cell? ⟨w.heap.size,0,none⟩=some (.bool B0)/\w'.cell? ⟨w.heap.size,1,none⟩=some (.slice A xs.length c)) (go_keep)
  (first
  |(go_at_call 125
    refine HFR.out.mono ?_;rintro r w5⟨v5,us,rfl,hv,o5,t5,e5,hb⟩;have HB5:=hdd (aA HBW hb);have c0:=cbl c0 hb;have c1:=cbl c1 hb;have HMK:=hdd (akS (b:=B0) (e:=0) hv o5 t5 (by omega));rw[e5,HV.out,HSG.out]at HMK;clear hb hv o5 t5 e5)
  |(go_at_call 83
    refine HMK.out.mono ?_;rintro r w6⟨hb,v6,rfl,hz⟩;obtain⟨b9,A9,n9,c9,ts,rfl,hz⟩:=hz;have c0:=cbl c0 hb;have c1:=cbl c1 hb;have HF:=hdd hz;have BZ:=hdd (aC B2.out (HB5.out.trans (hb.mono HB5.out.size)) (aF B2.out));have HBZ:=hdd (aA HB.out (HB5.out.trans (hb.mono HB5.out.size)));obtain⟨e0,e1,e2,e3,e4,e5⟩:=cells3 BZ.out;clear hb hz))
 obtain⟨HFF,hFF⟩:=akR (g:=w.heap.size+1) HBZ.out (by omega) BZ.out ⟨_,_,_,_,_,rfl,HF.out⟩;replace hFF:=hdd hFF;replace HFF:=hdd HFF;have HX:=hdd (set3 BZ.out (.bool b9) (.slice A9 n9 c9) (.int .i64 (mkDy z 0).exp));generalize hq:(mkDy z 0)=q at*;go_wp2;obtain⟨f0,f1,f2,-⟩:=cells3 HX.out;refine bodyPost_ret (v:=.agg #[_,_,_]) (by simp[results,Tryz.results82,go_sem,f0,f1,f2];first|exact⟨rfl,rfl,rfl⟩|rfl) rfl ?_;exact⟨HFF.out,_,rfl,hFF.out⟩
theorem aoK{xs:List Nat}(h:xs=[])(h3:val xs=z.natAbs):decide (z<0)=false:=by
 rw[h]at h3;have:z.natAbs=0:=h3.symm;exact decide_eq_false (by omega)
theorem amC(x:Dy):cmpD x x=0:=by
 have h:=afN x x;have n1:¬cmpD x x<0:=fun k=>by have:=h.1.1 k;grind
 have n2:¬0<cmpD x x:=fun k=>by have:=h.2.1 k;grind
 omega
theorem anC(hx:IntP p w va z)(hy:DyC q w vb (mkDy z 0))(hz:bits z.natAbs<=1000000):
 Calls Tryz.prog 37 #[va,vb] w (RetW w true):=by
 obtain⟨vm,xs,rfl,h1,h2,h3⟩:=hx;obtain⟨A,c,rfl,-,-,-,h5⟩:=id h1;obtain⟨bb,A',n',c',vs,rfl,h'⟩:=hy;obtain⟨w2,hw2,hb2,hs2,b1,b2⟩:=pro2 w (.cells #[Value.bool (decide (z<0)),.slice A xs.length c] 80) (.cells #[Value.bool bb,.slice A' n' c',.int .i64 (mkDy z 0).exp] 90);have HBW:Below w2.heap.size w2 w2.drew:=(Below.refl _ _).drew;have HR:=hdd (aoJ (w:=w2.drew) (va:=.agg #[.bool (decide (z<0)),.slice A xs.length c]) (p:=p) ⟨_,xs,rfl,(h1.below hb2).below HBW,h2,h3⟩ hz);have HY:Hid (DyC q w2.drew (.agg #[.bool bb,.slice A' n' c',.int .i64 (mkDy z 0).exp]) (mkDy z 0)):=hdd (DyC.below (DyC.below ⟨_,_,_,_,_,rfl,h'⟩ hb2) HBW);have HSM:Hid (SmD (mkDy z 0)):=hdd (pE (by omega) (by decide));have HB:=hdd hb2;obtain⟨c0,c1,-,-⟩:=aB b1;obtain⟨d0,d1,d2,-,-,-⟩:=cells3 b2;replace c0:=cbl c0 HBW;replace c1:=cbl c1 HBW;replace d0:=cbl d0 HBW;replace d1:=cbl d1 HBW;replace d2:=cbl d2 HBW;obtain⟨B0,hB0⟩:∃b,decide (z<0)=b:=⟨_,rfl⟩;have HSG:Hid (xs=[]->B0=false):=hdd (fun h=>by rw[<-hB0];exact aoK h h3)
 have HC5:=hdd h5;have HT:=hdd h2;have HO:=hdd h1.ok;have HLN:=hdd h1.len;obtain⟨n,hn⟩:∃n,xs.length=n:=⟨_,rfl⟩;rw[hB0]at c0 hw2 HR b1|-;rw[hn]at c1 hw2 HR b1|-;clear hs2 h' h1 h2 h3 h5 hB0;go_enter Tryz.func37,Tryz.ntmps37
 rcases Decidable.em (xs=[])with he|he
 . obtain rfl:=HSG.out he
   obtain rfl:n=0:=by rw[<-hn,he];rfl
   have HS:Two w.heap.size (w.heap.size+1) (.cells #[Value.bool false,.slice A 0 c] 80) (.cells #[Value.bool bb,.slice A' n' c',.int .i64 (mkDy z 0).exp] 90) w2.drew:=⟨aC b1 HBW (aF b1),aC b2 HBW (aF b2)⟩;clear b1 b2 c0 c1 d0 d1 d2
   go_upto_region 1 with fail
   refine wp_region_noPanic ?_;refine mO (Two w.heap.size (w.heap.size+1) (.cells #[Value.bool false,.slice A 0 c] 80) (.cells #[Value.bool bb,.slice A' n' c',.int .i64 (mkDy z 0).exp] 90)) 32 (by kernel_rfl) ?_;refine akM [(0,.agg #[.bool false,.slice A 0 c]),(2,.agg #[.bool bb,.slice A' n' c',.int .i64 (mkDy z 0).exp])] (by kernel_rfl) (by kernel_rfl) (by kernel_rfl) ?_ HS ?_
   . intro w' hSw
     have q1:=hSw.1;have q2:=hSw.2;obtain⟨x0,x1,-,-⟩:=aB q1;obtain⟨y0,y1,y2,-⟩:=cells3 q2;simp only[akY,atD,atA,atC,atE,atF,as7,as8,as9];refine⟨?_,?_,trivial⟩<;>(go_simp;all_goals rfl)
   simp only[akW,akX,atD,atA,atC,atE,atF,as7,as8,as9];refine fH 1 (by kernel_rfl) rfl fun K' hK=> ?_;go_simp;refine HR.out.mono ?_;rintro r w5⟨hb,v5,rfl,hv⟩;have HB5:=hdd (aA HBW hb);replace HS:=HS.below hb;have HSA:=hdd (amB hv (HY.out.below hb) (Canon.mk _ _) (Canon.mk _ _) HSM.out HSM.out);rw[amC]at HSA;obtain⟨b5,A5,n5,c5,ts,rfl,-⟩:=hv;clear hb HR;refine hK.out _ _ (fun _=>HS) ?_;clear hK
   try simp only[atF,as7,as8,as9]
   refine fH 3 (by kernel_rfl) rfl fun K' hK=> ?_;go_simp;refine HSA.out.mono ?_;rintro r w6⟨rfl,hb⟩;replace HS:=HS.below hb;have HB6:=hdd (aA HB.out (HB5.out.trans (hb.mono HB5.out.size)));clear hb HSA;refine hK.out _ _ (fun _=>HS) ?_;clear hK
   try simp only[atF,as7,as8,as9]
   refine alG [(4,some (.bool true)),(5,some (.pointer (some ⟨w.heap.size,1,none⟩))),(6,some (.slice A 0 c)),(7,some (.int .i64 ((0:Nat):Int))),(8,some (.bool true)),(9,some (.bool true)),(10,none),(11,none),(12,none),(13,none),(14,none),(15,none),(16,none),(17,none),(18,none),(19,some (.bool true)),(20,some (.bool true)),(21,some (.bool true)),(22,some (.pointer (some ⟨w.heap.size,1,none⟩))),(23,some (.slice A 0 c)),(24,some (.int .i64 ((0:Nat):Int))),(25,some (.bool false)),(26,some (.bool false)),(27,some (.pointer (some ⟨w.heap.size,0,none⟩))),(28,some (.bool false)),(29,some (.bool true)),(30,some (.bool true)),(31,some (.bool true))] (by kernel_rfl) (by kernel_rfl) (by kernel_rfl) ?_ HS ?_
   . intro w' hSw
     have q1:=hSw.1;have q2:=hSw.2;obtain⟨x0,x1,-,-⟩:=aB q1;obtain⟨y0,y1,y2,-⟩:=cells3 q2;simp only[alW,atD,atA,atC,atE,atF,as7,as8,as9,atG,atH];refine⟨?_,?_,?_,?_,?_,?_,?_,?_,?_,?_,?_,?_,?_,?_,?_,?_,?_,?_,?_,?_,?_,?_,?_,?_,?_,?_,?_,?_,trivial⟩<;>first|(refine⟨by rfl,?_⟩;go_simp;all_goals rfl)|rfl|(refine⟨by rfl,?_⟩;go_simp;intro hbad;omega)
   simp only[alU,alV,atD,atA,atC,atE,atF,as7,as8,as9,atG,atH];refine fH 32 (by kernel_rfl) rfl fun K' hK=> ?_;go_simp;refine hK.out _ _ (fun h=>absurd rfl h) ?_;clear hK;refine oO (by kernel_rfl) ?_;refine NoPanic.normal ?_
   try simp only[atF,as7,as8,as9]
   have HF:Hid (RetW w true (.returned (.bool true)) w6):=hdd ⟨rfl,HB6.out⟩;clear HS;go_wp2;go_ret;exact HF.out
 . obtain⟨m,rfl⟩:∃m,n=m+1:=⟨n-1,by have:=atI.2 he;omega⟩
   obtain⟨b,off,rfl,-,hbl,hc⟩:=HC5.out (atI.2 he);have hct:=cell_below (cell_below (hc m (by omega)) HB.out nlr) HBW nlr;rw[bZ (show m<xs.length by omega)]at hct;have ht:=HT.out he;have HO2:=HO.out _ (List.getElem_mem (show m<xs.length by omega));rw[List.getLast_eq_getElem]at ht;simp only[hn,Nat.add_sub_cancel]at ht;generalize xs[m]=t at*;have hne:((t:Int) != 0)=true:=by simp;omega
   have hwm:IntKind.i64.wrap (((m+1:Nat):Int)-1)=(m:Int):=by have:=HLN.out;rw[hn]at this;rw[wrap_i64 (by omega)];omega
   have hwm2:IntKind.i64.wrap ((m:Int)+1-1)=(m:Int):=by have:=HLN.out;rw[hn]at this;rw[wrap_i64 (by omega)];omega
   have hwm3:IntKind.i64.wrap (m:Int)=(m:Int):=by have:=HLN.out;rw[hn]at this;rw[wrap_i64 (by omega)]
   have q0:((m:Int)+1==0)=false:=by rw[beq_eq_false_iff_ne];omega
   have q1:(((m+1:Nat):Int)==0)=false:=by rw[beq_eq_false_iff_ne];omega
   have q2:decide (0<(m:Int)+1)=true:=decide_eq_true (by omega);have q3:decide (0<((m+1:Nat):Int))=true:=decide_eq_true (by omega);have HS:Two w.heap.size (w.heap.size+1) (.cells #[Value.bool B0,.slice (some ⟨b,off,none⟩) (m+1) c] 80) (.cells #[Value.bool bb,.slice A' n' c',.int .i64 (mkDy z 0).exp] 90) w2.drew/\w2.drew.cell? ⟨b,off+m,none⟩=some (.int .u64 (t:Int)):=⟨⟨aC b1 HBW (aF b1),aC b2 HBW (aF b2)⟩,hct⟩;clear b1 b2 c0 c1 d0 d1 d2 hc hct ht
   go_upto_region 1 with fail
   refine wp_region_noPanic ?_;refine mO (fun w'=>Two w.heap.size (w.heap.size+1) (.cells #[Value.bool B0,.slice (some ⟨b,off,none⟩) (m+1) c] 80) (.cells #[Value.bool bb,.slice A' n' c',.int .i64 (mkDy z 0).exp] 90) w'/\w'.cell? ⟨b,off+m,none⟩=some (.int .u64 (t:Int))) 32 (by kernel_rfl) ?_;refine akM [(0,.agg #[.bool B0,.slice (some ⟨b,off,none⟩) (m+1) c]),(2,.agg #[.bool bb,.slice A' n' c',.int .i64 (mkDy z 0).exp])] (by kernel_rfl) (by kernel_rfl) (by kernel_rfl) ?_ HS ?_
   . intro w' hSw
     try dsimp only at hSw
     have q1:=hSw.1.1;have q2:=hSw.1.2;obtain⟨x0,x1,-,-⟩:=aB q1;obtain⟨y0,y1,y2,-⟩:=cells3 q2;have q3:=hSw.2;simp only[akY,atD,atA,atC,atE,atF,as7,as8,as9];refine⟨?_,?_,trivial⟩<;>(go_simp;all_goals rfl)
   simp only[akW,akX,atD,atA,atC,atE,atF,as7,as8,as9];refine fH 1 (by kernel_rfl) rfl fun K' hK=> ?_;go_simp;refine HR.out.mono ?_;rintro r w5⟨hb,v5,rfl,hv⟩;have HB5:=hdd (aA HBW hb);replace HS:=And.intro (HS.1.below hb) (cell_below HS.2 hb nlr);have HSA:=hdd (amB hv (HY.out.below hb) (Canon.mk _ _) (Canon.mk _ _) HSM.out HSM.out);rw[amC]at HSA;obtain⟨b5,A5,n5,c5,ts,rfl,-⟩:=hv;clear hb HR;refine hK.out _ _ (fun _=>HS) ?_;clear hK
   try simp only[atF,as7,as8,as9]
   refine fH 3 (by kernel_rfl) rfl fun K' hK=> ?_;go_simp;refine HSA.out.mono ?_;rintro r w6⟨rfl,hb⟩;replace HS:=And.intro (HS.1.below hb) (cell_below HS.2 hb nlr);have HB6:=hdd (aA HB.out (HB5.out.trans (hb.mono HB5.out.size)));clear hb HSA;refine hK.out _ _ (fun _=>HS) ?_;clear hK
   try simp only[atF,as7,as8,as9]
   refine alG [(4,some (.bool true)),(5,some (.pointer (some ⟨w.heap.size,1,none⟩))),(6,some (.slice (some ⟨b,off,none⟩) (m+1) c)),(7,some (.int .i64 (((m+1):Nat):Int))),(8,some (.bool false)),(9,some (.bool false)),(10,some (.pointer (some ⟨w.heap.size,1,none⟩))),(11,some (.slice (some ⟨b,off,none⟩) (m+1) c)),(12,some (.pointer (some ⟨w.heap.size,1,none⟩))),(13,some (.slice (some ⟨b,off,none⟩) (m+1) c)),(14,some (.int .i64 (((m+1):Nat):Int))),(15,some (.int .i64 (m:Int))),(16,some (.pointer (some ⟨b,off+m,none⟩))),(17,some (.int .u64 (t:Int))),(18,some (.bool true)),(19,some (.bool true)),(20,some (.bool true)),(21,some (.bool true)),(22,some (.pointer (some ⟨w.heap.size,1,none⟩))),(23,some (.slice (some ⟨b,off,none⟩) (m+1) c)),(24,some (.int .i64 (((m+1):Nat):Int))),(25,some (.bool true)),(26,some (.bool true)),(27,none),(28,none),(29,none),(30,some (.bool true)),(31,some (.bool true))] (by kernel_rfl) (by kernel_rfl) (by kernel_rfl) ?_ HS ?_
   . intro w' hSw
     try dsimp only at hSw
     have q1:=hSw.1.1;have q2:=hSw.1.2;obtain⟨x0,x1,-,-⟩:=aB q1;obtain⟨y0,y1,y2,-⟩:=cells3 q2;have q3:=hSw.2;simp only[alW,atD,atA,atC,atE,atF,as7,as8,as9,atG,atH];refine⟨?_,?_,?_,?_,?_,?_,?_,?_,?_,?_,?_,?_,?_,?_,?_,?_,?_,?_,?_,?_,?_,?_,?_,?_,?_,?_,?_,?_,trivial⟩<;>first|(refine⟨by rfl,?_⟩;go_simp;all_goals rfl)|rfl|(refine⟨by rfl,?_⟩;go_simp;intro hbad;omega)
   simp only[alU,alV,atD,atA,atC,atE,atF,as7,as8,as9,atG,atH];refine fH 32 (by kernel_rfl) rfl fun K' hK=> ?_;go_simp;refine hK.out _ _ (fun h=>absurd rfl h) ?_;clear hK;refine oO (by kernel_rfl) ?_;refine NoPanic.normal ?_
   try simp only[atF,as7,as8,as9]
   have HF:Hid (RetW w true (.returned (.bool true)) w6):=hdd ⟨rfl,HB6.out⟩;clear HS;go_wp2;go_ret;exact HF.out
end
section
open Go.RowKit Go.Maps
section
variable{P:Program}{ρ:Operand->Value}{o:Oper}{t t2:TypeId}{x y:Operand}{a b v:Value}{w:World}
end
theorem aoL(a:Int)(w:World):(convert 3 75 (.int .i64 a)).run Tryz.prog w=.ok (.float .f64 (fl a)) w:=by
 simp[go_sem];rfl
end
end Go.Proofs.YtebocijmegkfgaaGreatDoor
