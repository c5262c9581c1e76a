/- A part of the proof: contracts of functions and plain laws (OpA, CkA, TwD, FeB, FnA, CkB, LiA, QlL, GtW, SumA, SumB, SumW). -/
import Derived.Test.YtkadpnljocflaaaGreatDoorK41
import Derived.Test.YtkadpnljocflaaaGreatDoorK30
import Derived.IntWalk
import Derived.Test.YtkadpnljocflaaaGreatDoorK10
import Derived.Deep.AppendLies
import Derived.Laws.StructEq
import Derived.Test.YtkadpnljocflaaaGreatDoorK31
import Derived.Laws.AppendOwnNone
set_option linter.unusedVariables false
set_option linter.unusedSimpArgs false
set_option linter.unnecessarySimpa false
set_option maxHeartbeats 25600000
set_option maxRecDepth 100000
namespace Go.Proofs.YtkadpnljocflaaaGreatDoor
section
open Go.RowKit Go.Maps
section
variable{P:Program}{ρ:Operand->Value}{o:Oper}{t t2:TypeId}{x y:Operand}{a b v:Value}{w:World}
end
theorem alS(a:Int)(w:World):(convert 3 52 (.int .i64 a)).run Tryz.prog w=.ok (.float .f64 (fl a)) w:=by
 simp[go_sem];rfl
end
section
open Go.RowKit Go.Maps Go.Stop Go.Extern
abbrev FlOk(b:Nat):Prop:=b<18446744073709551616/\fin b
end
section
open Go.RowKit Go.Maps

end
section
open Ieee
open Re (rat ofI ofN)

end
section
open Go.RowKit Go.Maps
section
variable{f:FuncId}{g d:Nat}{av:Array Value}{K0:List (Ex×Nat)}{V:List Nat->Value}{es:List Ex}
end
section
variable{S:Spec Ex}{w0:Bs}{g c0 i d:Nat}{f:FuncId}{args:(Nat->Nat)->Array Value}{ix ts:List Nat}{V:List Nat->Value}{es:List Ex}
end
end
section
open Go.RowKit Go.Maps Go.Stop Go.Extern

end
section
open Go.RowKit Go.Maps

end
section
open Go.RowKit Go.Maps
open Re (rat ofI ofN)
def Iw(b:Nat)(T:Int):Prop:=FlOk b/\fv b=T*(U74:Int)
end
section
open Go.RowKit Go.Maps Go.Stop Go.Extern
variable{m:Nat}
section
variable{s:Bs}{g N n sz:Nat}{K:List (Ex×Nat)}{L lr:List (Nat×Obj)}{W:World}{v:Value}{xs:List Value}{T:TypeId}
theorem al9{ops:Array Oper}{rest:List Oper}{o:Oper}{a:Act}{Q:Exit->Act->World->Prop}{Ts:TypeId}{z:Value}{bytes b:Nat}{news:List Value}
 (und:Tryz.prog.underlying Ts=some (.slice T)) (info:(Tryz.prog.info? T).map (fun i=>(i.zero,i.size,i.bytes))=some (some z,sz,bytes)) (hz:z.cells.size=sz) (h0:0<sz) (hO:OwnR T sz v n xs lr) (hR:Run s g N K (lr++L) W) (hb:W.heap[b]? =some (.cells news.toArray T))
 (hl:news.length=sz) (h1:∀u∈news,u.oneCell'=true) (hn:n<=1000) (hby:bytes<=1000) (hgd:o.guard=none) (sl x:Operand) (ho:o.op=.call {callee:=.builtin .append,args:=#[sl,x],argTypes:=#[Ts,Ts]}) (hs:a.eval sl=v) (c:Nat) (hx:a.eval x=.slice (some ⟨b,0,none⟩) 1 c)
 (h:∀r cap lr' w',OwnR T sz (.slice (some ⟨r,0,none⟩) (n+1) cap) (n+1) (xs++news) lr'->Run s g N K (lr'++L) w'->wpList Tryz.prog ops Q rest (a.put o.dst (.slice (some ⟨r,0,none⟩) (n+1) cap)) w'):wpList Tryz.prog ops Q (o::rest) a W:=by
 obtain⟨i,hi,i0,i1,i2⟩:=info_parts info;have h4:(n+1)*bytes<=1001*1000:=Nat.mul_le_mul (by omega) hby;exact wpList_append_lies _ hgd sl x Ts ho 0 T i z sz bytes und hi i0 i1 i2 hz h0 v n xs hs (hO.own hR) ⟨b,0,none⟩ 1 c news hx (by omega) (World.news_of_block hb) h1 (by decide) (by unfold maxLen;omega) (by omega) (Nat.zero_le _) _ rfl fun r cap w' o1 o2 o3 _=>by
  obtain⟨lr',p,q⟩:=hO.grow hR o1 o2 o3;exact h r cap lr' w' p q
end
theorem akX:Tryz.prog.underlying 50=some (.slice 33):=Tryz.underlying50
theorem ak8:(Tryz.prog.info? 33).map (fun i=>(i.zero,i.size,i.bytes))=some (some (.agg #[.pointer none,.int .i64 0]),2,16):=by kernel_rfl
theorem amA{n:Nat}(h:m<n)(h8:n<=8):wrap64 ((m:Int)+1)=((m+1:Nat):Int):=by unfold wrap64;omega
theorem alG{n a:Nat}(h:m<n)(h8:n<=8)(ha:a<=100):2*m+a<20000:=by omega
theorem alT{n:Nat}(h:m<n)(h8:n<=8):m<=1000:=by omega
theorem amB{n k:Nat}(h:k<n):((n:Int)-((k+1:Nat):Int)).toNat<((n:Int)-(k:Int)).toNat:=by omega
end
section
open Go.RowKit Go.Maps
open List renaming eq_nil_of_length_eq_zero->am1,length_cons->am2,length_nil->am3
variable{P:Ex->Prop}{ns:List Nd}{B i0:Nat}{w:World}
theorem ak9{N:Nat}{g:Nat}{v:Value}{kind:Int}{e0:Ex}(hs:St P B N w g ns)(hl:IntsD g w v [i0])(he0:Is ns e0 i0):
 Calls Tryz.prog 63 #[.pointer (some ⟨g,0,none⟩),.int .i64 kind,v] w (RetE P B N w g ns idV e0):=by
 obtain⟨b,c,rfl,hc1,hc2,hn,hbl,hcell⟩:=id hl;have c0:=hcell 0 i0 rfl;have HH:=hdd (wZ hs.dag he0.lt);have HR:Hid (RetE P B N w g ns idV e0 (.returned (.int .i64 (i0:Int))) w):=hdd ⟨i0,ns,rfl,hs,List.prefix_rfl,he0,DS.refl g w⟩;simp only[am2,am3]at hc1|-;have hcap:(1:Int)<=(c:Int):=by omega
 have hc2':(c:Int)<=9223372036854775807:=by unfold maxLen at hc2;omega
 clear hs hl he0 hn hbl hcell hc1 hc2;rcases Decidable.em (c=1)with rfl|hcn
 all_goals
  go_enter Tryz.func63,Tryz.ntmps63
  go_wp2_with fail
  refine HH.out.mono ?_;rintro e w2⟨rfl,hw⟩;obtain rfl:=hw;go_wp2_with fail
  go_loopw [7,20] (fun id i wr=>id=.int .i64 (i0:Int)/\i=.int .i64 0/\Hid (wr=w)) (fun _ _ _=>0)
  case atStart=>exact⟨rfl,rfl,hdd rfl⟩
  case round=>
   obtain⟨rfl,rfl,HW⟩:=hrel;obtain rfl:=HW.out;clear HW;go_wp2;go_ret;exact HR.out
theorem amC{N:Nat}{g:Nat}{v:Value}{e0:Ex}(hs:St P B N w g ns)(hl:IntsD g w v [i0])(he0:Is ns e0 i0):
 Calls Tryz.prog 38 #[.pointer (some ⟨g,0,none⟩),v] w (RetE P B N w g ns idV e0):=by
 have HF:=hdd (fun kind=>ak9 (kind:=kind) hs hl he0);obtain⟨b,c,rfl,hc1,hc2,hn,hbl,hcell⟩:=id hl;simp only[am2,am3]at*;clear hs hl he0 hn hbl hcell hc1 hc2;go_enter Tryz.func38,Tryz.ntmps38
 go_wp2_with fail
 refine(HF.out _).mono ?_;rintro e w2⟨k,ns',rfl,h⟩;have HR:=hdd h;clear h;unfold idV;go_wp2;go_ret;exact⟨k,ns',rfl,HR.out⟩
theorem mul_one{N:Nat}{g:Nat}{v:Value}{e0:Ex}(hs:St P B N w g ns)(hl:IntsD g w v [i0])(he0:Is ns e0 i0):
 Calls Tryz.prog 40 #[.pointer (some ⟨g,0,none⟩),v] w (RetE P B N w g ns idV e0):=by
 have HF:=hdd (fun kind=>ak9 (kind:=kind) hs hl he0);obtain⟨b,c,rfl,hc1,hc2,hn,hbl,hcell⟩:=id hl;simp only[am2,am3]at*;clear hs hl he0 hn hbl hcell hc1 hc2;go_enter Tryz.func40,Tryz.ntmps40
 go_wp2_with fail
 refine(HF.out _).mono ?_;rintro e w2⟨k,ns',rfl,h⟩;have HR:=hdd h;clear h;unfold idV;go_wp2;go_ret;exact⟨k,ns',rfl,HR.out⟩
theorem alA{g k:Nat}:
 Calls Tryz.prog 39 #[.agg #[.pointer (some ⟨g,0,none⟩),.int .i64 (k:Int)],.slice none 0 0] w (aa7 w [k]):=by
 obtain⟨w1,hw1,hb1,hs1,b1⟩:=pro1 w (.cells #[.pointer (some ⟨g,0,none⟩),.int .i64 (k:Int)] 33);obtain⟨c0,c1,-,-⟩:=aB b1;obtain⟨i0,hi0,hz0,hz1,hz2⟩:=info_parts tL;obtain⟨w2,hrun,hown,hgr⟩:=run_make_own (P:=Tryz.prog) w1 w1.heap.size 42 3 i0 (.int .i64 0) 1 lF hi0 hz0 hz1 .i64 .i64 1 (by rw[hz2];omega) (by unfold maxLen;omega) nlr;have hb2:Below w1.heap.size w1 w2:=⟨hgr.os,hgr.tape,hgr.output,hgr.size,fun b hb=>hgr.block b hb (by simp)⟩;have hrun':(Instr.makeSlice 42 (.int .i64 0) (.int .i64 1)).run Tryz.prog w1=.ok (.slice (some ⟨w1.heap.size,0,none⟩) 0 1) w2:=by simpa using hrun
 obtain⟨w3,hw3,hb3,hs3,b3⟩:=pro1 w2 (.cells #[.int .i64 (k:Int)] 3);replace c0:=cbl c0 hb2;replace c1:=cbl c1 hb2;have HB1:=hdd hb1;have HB3:=hdd (aA hb2 hb3);have HO3:=hdd (hown.kept (aY (row:=none) hb3) (Or.inr (by simp[Value.ownBlock])));have HC3:=hdd (iN b3);have HI0:=hdd hi0;have HZ0:=hdd hz0;have HZ1:=hdd hz1;have HZ2:=hdd hz2;have d0:=cbl c0 hb3;have d1:=cbl c1 hb3;have HS3:Hid (w1.heap.size<=w3.heap.size):=hdd (aA hb2 hb3).size;clear hb1 hs1 b1 hi0 hz0 hz1 hz2 hrun hown hgr hb2 hb3 hs3 b3;go_enter Tryz.func39,Tryz.ntmps39
 go_wp2_with (first
  |(at_builtin
    go_loud (
    refine wpList_append_lies _ rfl _ _ 42 rfl w1.heap.size 3 i0 (.int .i64 0) 1 8 lF HI0.out HZ0.out HZ1.out HZ2.out rfl (by decide) _ 0 [] rfl HO3.out ⟨w2.heap.size,0,none⟩ 1 1 [.int .i64 (k:Int)] rfl rfl HC3.out (by simp[Value.oneCell']) (by decide) (by unfold maxLen;omega) (by omega) HS3.out w3.heap.size rfl ?_;intro r cap w4 hown4 hgrow4 hat4 hlt4;have HO4:=hdd hown4;have HG4:=hdd hgrow4;clear hown4 hgrow4 hat4 hlt4)))
 have HR4:Hid (w4.ownsRow w1.heap.size 3 1 (.slice (some ⟨r,0,none⟩) 1 cap) 1 (bD [k])/\Below w1.heap.size w1 w4):=hdd ⟨by simpa[bD]using HO4.out,HB3.out.trans (Below.of_grown HG4.out HS3.out (by simp[Value.ownBlock]at*))⟩;clear hw3 hw1 hrun' c0 c1 d0 d1
 go_loopw [5,19] (fun v i wr=>i=.int .i64 0/\v=.slice (some ⟨r,0,none⟩) 1 cap/\Hid (wr=w4)) (fun _ _ _=>0)
 case atStart=>exact⟨rfl,rfl,hdd rfl⟩
 case round=>
  obtain⟨rfl,rfl,HW⟩:=hrel;obtain rfl:=HW.out;clear HW;have HRES:Hid (aa7 w [k] (.returned (.slice (some ⟨r,0,none⟩) 1 cap)) wr):=hdd (by
   obtain⟨hown,hbl⟩:=HR4.out;refine⟨HB1.out.trans (hbl.mono HB1.out.size),_,rfl,?_⟩;obtain⟨b',c',q1,q2,q3,q4,q5⟩:=agR (l:=[k]) hown (by simp);exact⟨b',c',q1,q2,q3,Nat.le_trans HB1.out.size q4,q5⟩)
  clear HR4;go_wp2;go_ret;exact HRES.out
theorem alU{N:Nat}{g i:Nat}{e0:Ex}(hs:St P B N w g ns)(he0:Is ns e0 i):
 Calls Tryz.prog 14 #[numV g i,.slice none 0 0] w (RetE P B N w g ns (numV g) e0):=by
 obtain⟨w2,hw2,hb2,hs2,b1,b2⟩:=pro2 w (.cells #[.pointer (some ⟨g,0,none⟩),.int .i64 (i:Int)] 33) (.cells #[.pointer none,.int .i64 0] 33);have HG:=hdd (vP (hs.dag.below hb2) he0.lt);have HIDS:Hid (∀w',Below w.heap.size w w'->Calls Tryz.prog 39 #[.agg #[.pointer (some ⟨g,0,none⟩),.int .i64 (i:Int)],.slice none 0 0] w' (aa7 w' [i])):=hdd fun w' h=>alA;have HAW:Hid (∀w' (c:Nat),Below w.heap.size w w'->w.heap.size<=c->¬DagB w' g c):=hdd fun w' c h=>hs.away h;have HOP:Hid (∀w' v' (q:Nat),Below w.heap.size w w'->w.heap.size<=q->IntsP (fun b=>q<=b) w' v' [i]->Calls Tryz.prog 38 #[.pointer (some ⟨g,0,none⟩),v'] w' (RetE P B N w' g ns idV e0)):=
  hdd fun w' v' q h hq hi=>by
   obtain⟨b,c,q1,q2,q3,q4,q5,q6⟩:=hi;exact amC (hs.below h) ⟨b,c,q1,q2,q3,hs.away h (Nat.le_trans hq q4),q5,q6⟩ he0
 have HGL:=hdd hs.dag.glt;have HBL:=hdd hs.hB;obtain⟨e0',e1',-,-⟩:=aB b1;have HB2:=hdd hb2;have B2:=hdd b2;have HSZ:Hid (w.heap.size+1<w2.heap.size):=hdd (by omega);clear hs he0 hb2 hs2 b1 b2;go_enter Tryz.func14,Tryz.ntmps14
 go_wp2_with fail
 refine HG.out.mono ?_;rintro e w5⟨rfl,hb5⟩;have hb5d:Below w2.heap.size w2 w5.drew:=aA hb5 (Below.refl _ _).drew;replace e0':=cell_below e0' hb5d nlr;replace e1':=cell_below e1' hb5d nlr;have HB5:=hdd (aA HB2.out hb5d);have B5:=hdd (aD B2.out hb5d (aC B2.out));clear hb5 hb5d;have n1:w.heap.size+1≠w.heap.size:=by omega
 have n2:w.heap.size≠w.heap.size+1:=by omega
 go_wp2_with fail
 go_region_held3 (fun w'=>w'.cell? ⟨w.heap.size,0,none⟩=some (.pointer (some ⟨g,0,none⟩))/\w'.cell? ⟨w.heap.size,1,none⟩=some (.int .i64 (i:Int))) (go_keep)
  (first
  |(go_at_call 39
    refine(HIDS.out _ HB5.out).mono ?_;rintro e w6⟨hb6,v6,rfl,hi6⟩;have e0':=cell_below e0' hb6 nlr;have e1':=cell_below e1' hb6 nlr;have HB6:=hdd (aA HB5.out hb6);have B6:=hdd (aD B5.out hb6 (aC B5.out));have HADD:=hdd (HOP.out w6 v6 _ HB6.out HB5.out.size hi6);obtain⟨b6,c6,rfl,-⟩:=hi6;clear hb6)
  |(go_at_call 38
    refine HADD.out.mono ?_;rintro e w7⟨k,ns',rfl,h1,h2,h3,h4⟩;have e0':=h4.cell e0' (HAW.out _ _ HB6.out (by simp));have e1':=h4.cell e1' (HAW.out _ _ HB6.out (by simp));have hlt6:w.heap.size+1<w6.heap.size:=aC B6.out;have B7:=(h4.heap (b:=w.heap.size+1) hlt6 (HAW.out _ _ HB6.out (by omega))).trans B6.out;obtain⟨r0,r1,f0,f1⟩:=aB B7;have HF:Hid (FoldSt P B N w g ns e0 k ((w7.setCell ⟨w.heap.size+1,0,none⟩ (.pointer (some ⟨g,0,none⟩))).setCell ⟨w.heap.size+1,1,none⟩ (.int .i64 (k:Int)))):=
     hdd (FoldSt.set2 (w0:=w) ⟨ns',h1,h2,h3,h4⟩ (Or.inr trivial) HGL.out HB6.out (by omega) (HAW.out _ _ HB6.out (by omega)) hlt6 (by have:=HBL.out;omega) _ _)
    have HX:=hdd (set2 B7 (.pointer (some ⟨g,0,none⟩)) (.int .i64 (k:Int)));clear h1 h2 h3 h4 B7 hlt6))
 go_wp2;obtain⟨x0,x1,-,-⟩:=aB HX.out;refine bodyPost_ret (v:=.agg #[_,_]) (by simp[results,Tryz.results14,go_sem,x0,x1];first|exact⟨rfl,rfl⟩|rfl) rfl ?_;exact HF.out.ret (numV g)
theorem alV{N:Nat}{g i:Nat}{e0:Ex}(hs:St P B N w g ns)(he0:Is ns e0 i):
 Calls Tryz.prog 16 #[numV g i,.slice none 0 0] w (RetE P B N w g ns (numV g) e0):=by
 obtain⟨w2,hw2,hb2,hs2,b1,b2⟩:=pro2 w (.cells #[.pointer (some ⟨g,0,none⟩),.int .i64 (i:Int)] 33) (.cells #[.pointer none,.int .i64 0] 33);have HG:=hdd (vP (hs.dag.below hb2) he0.lt);have HIDS:Hid (∀w',Below w.heap.size w w'->Calls Tryz.prog 39 #[.agg #[.pointer (some ⟨g,0,none⟩),.int .i64 (i:Int)],.slice none 0 0] w' (aa7 w' [i])):=hdd fun w' h=>alA;have HAW:Hid (∀w' (c:Nat),Below w.heap.size w w'->w.heap.size<=c->¬DagB w' g c):=hdd fun w' c h=>hs.away h;have HOP:Hid (∀w' v' (q:Nat),Below w.heap.size w w'->w.heap.size<=q->IntsP (fun b=>q<=b) w' v' [i]->Calls Tryz.prog 40 #[.pointer (some ⟨g,0,none⟩),v'] w' (RetE P B N w' g ns idV e0)):=
  hdd fun w' v' q h hq hi=>by
   obtain⟨b,c,q1,q2,q3,q4,q5,q6⟩:=hi;exact mul_one (hs.below h) ⟨b,c,q1,q2,q3,hs.away h (Nat.le_trans hq q4),q5,q6⟩ he0
 have HGL:=hdd hs.dag.glt;have HBL:=hdd hs.hB;obtain⟨e0',e1',-,-⟩:=aB b1;have HB2:=hdd hb2;have B2:=hdd b2;have HSZ:Hid (w.heap.size+1<w2.heap.size):=hdd (by omega);clear hs he0 hb2 hs2 b1 b2;go_enter Tryz.func16,Tryz.ntmps16
 go_wp2_with fail
 refine HG.out.mono ?_;rintro e w5⟨rfl,hb5⟩;have hb5d:Below w2.heap.size w2 w5.drew:=aA hb5 (Below.refl _ _).drew;replace e0':=cell_below e0' hb5d nlr;replace e1':=cell_below e1' hb5d nlr;have HB5:=hdd (aA HB2.out hb5d);have B5:=hdd (aD B2.out hb5d (aC B2.out));clear hb5 hb5d;have n1:w.heap.size+1≠w.heap.size:=by omega
 have n2:w.heap.size≠w.heap.size+1:=by omega
 go_wp2_with fail
 go_region_held3 (fun w'=>w'.cell? ⟨w.heap.size,0,none⟩=some (.pointer (some ⟨g,0,none⟩))/\w'.cell? ⟨w.heap.size,1,none⟩=some (.int .i64 (i:Int))) (go_keep)
  (first
  |(go_at_call 39
    refine(HIDS.out _ HB5.out).mono ?_;rintro e w6⟨hb6,v6,rfl,hi6⟩;have e0':=cell_below e0' hb6 nlr;have e1':=cell_below e1' hb6 nlr;have HB6:=hdd (aA HB5.out hb6);have B6:=hdd (aD B5.out hb6 (aC B5.out));have HADD:=hdd (HOP.out w6 v6 _ HB6.out HB5.out.size hi6);obtain⟨b6,c6,rfl,-⟩:=hi6;clear hb6)
  |(go_at_call 40
    refine HADD.out.mono ?_;rintro e w7⟨k,ns',rfl,h1,h2,h3,h4⟩;have e0':=h4.cell e0' (HAW.out _ _ HB6.out (by simp));have e1':=h4.cell e1' (HAW.out _ _ HB6.out (by simp));have hlt6:w.heap.size+1<w6.heap.size:=aC B6.out;have B7:=(h4.heap (b:=w.heap.size+1) hlt6 (HAW.out _ _ HB6.out (by omega))).trans B6.out;obtain⟨r0,r1,f0,f1⟩:=aB B7;have HF:Hid (FoldSt P B N w g ns e0 k ((w7.setCell ⟨w.heap.size+1,0,none⟩ (.pointer (some ⟨g,0,none⟩))).setCell ⟨w.heap.size+1,1,none⟩ (.int .i64 (k:Int)))):=
     hdd (FoldSt.set2 (w0:=w) ⟨ns',h1,h2,h3,h4⟩ (Or.inr trivial) HGL.out HB6.out (by omega) (HAW.out _ _ HB6.out (by omega)) hlt6 (by have:=HBL.out;omega) _ _)
    have HX:=hdd (set2 B7 (.pointer (some ⟨g,0,none⟩)) (.int .i64 (k:Int)));clear h1 h2 h3 h4 B7 hlt6))
 go_wp2;obtain⟨x0,x1,-,-⟩:=aB HX.out;refine bodyPost_ret (v:=.agg #[_,_]) (by simp[results,Tryz.results16,go_sem,x0,x1];first|exact⟨rfl,rfl⟩|rfl) rfl ?_;exact HF.out.ret (numV g)
def RowV(W:World)(g:Nat)(v:Value)(ids:List Nat):Prop:=(v=.slice none 0 0/\ids=[])\/(NumsP W v g ids/\0<ids.length)
theorem OwnR.rowV {s:Bs}{g N n:Nat}{K:List (Ex×Nat)}{L lr:List (Nat×Obj)}{W:World}{v:Value}{ids:List Nat}(ho:OwnR 33 2 v n (nmL g ids) lr)(hn:ids.length=n)(h8:n<=1000)(hz:n=0->v=.slice none 0 0)(hR:Run s g N K (lr++L) W):RowV W g v ids:=by
 rcases ho.2 with ⟨rfl,h,-⟩|⟨r,cap,cur,rfl,rfl,h1,h2,h3,h4⟩
 . exact Or.inl ⟨rfl,am1 (by omega)⟩
 . rcases Nat.eq_zero_or_pos ids.length with h0|h0
   . exact Or.inl ⟨hz (by omega),am1 h0⟩
   . refine Or.inr ⟨⟨r,cap,by rw[hn],by omega,fun i x hx=> ?_⟩,h0⟩
     have hb:=hR.at (List.mem_cons_self ..);have hx2:=alR (g:=g) (sp:=cur.toList.drop (n*2)) hx;rw[<-h4,List.take_append_drop]at hx2;exact⟨alE (cs:=cur.toList) (by simpa using hb) hx2.1,alE (cs:=cur.toList) (by simpa using hb) hx2.2⟩
section
variable{s:Bs}{W:World}{g N i:Nat}{K:List (Ex×Nat)}{l:List (Nat×Obj)}{v:Value}{ids:List Nat}{e0:Ex}{es:List Ex}
theorem Run.addV (h:Run s g N K l W)(hv:RowV W g v ids)(hl:ids.length=es.length)(hes:∀(m x:Nat) e,ids[m]? =some x->es[m]? =some e->(e,x)∈K)(hN:N+ids.length<=20000)(he0:(e0,i)∈K):
 Calls Tryz.prog 14 #[numV g i,v] W (RtR s g (N+ids.length) K l (iH 1 e0 es)):=by
 obtain⟨ns,hs,hK⟩:=h;rcases hv with ⟨rfl,rfl⟩|⟨hv,h0⟩
 . obtain rfl:es=[]:=am1 hl.symm
   exact(alU hs.st (hK _ he0)).mono fun _ _ hr=>oO hs hK hr
 . exact(add_num hs.st hv hl h0 (hK _ he0) (fun m x e h1 h2=>hK _ (hes m x e h1 h2)) (fun _ _=>trivial) hN).mono fun _ _ hr=>oO hs hK hr
theorem Run.mulV (h:Run s g N K l W)(hv:RowV W g v ids)(hl:ids.length=es.length)(hes:∀(m x:Nat) e,ids[m]? =some x->es[m]? =some e->(e,x)∈K)(hN:N+ids.length<=20000)(he0:(e0,i)∈K):
 Calls Tryz.prog 16 #[numV g i,v] W (RtR s g (N+ids.length) K l (iH 3 e0 es)):=by
 obtain⟨ns,hs,hK⟩:=h;rcases hv with ⟨rfl,rfl⟩|⟨hv,h0⟩
 . obtain rfl:es=[]:=am1 hl.symm
   exact(alV hs.st (hK _ he0)).mono fun _ _ hr=>oO hs hK hr
 . exact(al4 hs.st hv hl h0 (hK _ he0) (fun m x e h1 h2=>hK _ (hes m x e h1 h2)) (fun _ _=>trivial) hN).mono fun _ _ hr=>oO hs hK hr
end
end
section
open Go.RowKit Go.Maps
open Re (rat ofI ofN)
open List renaming range->am4,mem_cons_of_mem->am5,mem_cons_self->am6
variable{n:Nat}
theorem akY{α β:Type}(f:β->α->β)(hf:∀b x y,f (f b x) y=f (f b y) x):∀(l:List α) (b:β) (x:α),l.foldl f (f b x)=f (l.foldl f b) x
 |[],_,_=>rfl
 |y::l,b,x=>by
  show l.foldl f (f (f b x) y)=_;rw[hf,akY f hf l];rfl
theorem akT{α β:Type}(f:β->α->β)(hf:∀b x y,f (f b x) y=f (f b y) x):∀(l:List α) (b:β),l.reverse.foldl f b=l.foldl f b
 |[],_=>rfl
 |y::l,b=>by
  rw[List.reverse_cons,List.foldl_append,akT f hf l];exact(akY f hf l b y).symm
section
variable{L:List Ex}{t:Sh}{X:Nat->Ex}{V:Nat->Re}
theorem akZ:∀(idx:List Nat) {s:Sh} {e:Ex} {x:Re},(∀j∈idx,Fit L t (X j) (V j))->Fit L s e x->Fit L (idx.foldl (fun s _=>.add s t) s) (iH 1 e (idx.map X)) (idx.foldl (fun a j=>a+V j) x)
 |[],_,_,_,_,h=>h
 |j::idx,s,e,x,hX,h=>akZ idx (fun k hk=>hX k (am5 _ hk)) (h.add (hX j (am6 ..)))
theorem ak0:∀(idx:List Nat) {s:Sh} {e:Ex} {x:Re},(∀j∈idx,Fit L t (X j) (V j))->Fit L s e x->Fit L (idx.foldl (fun s _=>.mul s t) s) (iH 3 e (idx.map X)) (idx.foldl (fun a j=>a*V j) x)
 |[],_,_,_,_,h=>h
 |j::idx,s,e,x,hX,h=>ak0 idx (fun k hk=>hX k (am5 _ hk)) (h.mul (hX j (am6 ..)))
theorem alB(hV:∀j,0<=V j):∀(idx:List Nat) {x:Re},0<x->0<idx.foldl (fun a j=>a+V j) x
 |[],_,h=>h
 |j::idx,x,h=>alB hV idx (Re.lt_of_lt_of_le h (by have:=Re.add_le_add (Re.le_refl x) (hV j);rwa[Re.add_zero]at this))
end
def sumS(f:Sh->Sh->Sh)(idx:List Nat):Sh:=idx.foldl (fun s _=>f s (.root (.leaf 5 0))) (.leaf 1 0)
def okS(s:Sh):Bool:=s.ok 8&&s.top 8
theorem amD(h:n<=4):(okS (.add (sumS .add (am4 n)) (sumS .add (am4 n).reverse))&&(okS (.add (sumS .mul (am4 n)) (sumS .mul (am4 n).reverse))&&(okS (.add (sumS .add (am4 n)) (sumS .add (am4 n)))&&okS (.add (.div (sumS .add (am4 n)) (sumS .add (am4 n))) (.leaf 1 0)))))=true:=by
 have:n=0\/n=1\/n=2\/n=3\/n=4:=by omega
 rcases this with rfl|rfl|rfl|rfl|rfl<;>decide+kernel
abbrev rtX(Z:Nat->Int)(j:Nat):Ex:=.root (.leaf (fl (Z j)))
abbrev oneE:Ex:=.leaf 4607182418800017408
theorem alW{Z:Nat->Int}(hZ:∀j,0<=Z j/\Z j<30)(hn:n<=4):
 lK PT (.sub (iH 1 oneE ((am4 n).map (rtX Z))) (iH 1 oneE ((am4 n).map (rtX Z)).reverse)) 0/\lK PT (.sub (iH 3 oneE ((am4 n).map (rtX Z))) (iH 3 oneE ((am4 n).map (rtX Z)).reverse)) 0/\
 lK PT (.sub (iH 1 oneE ((am4 n).map (rtX Z))) (iH 1 oneE ((am4 n).map (rtX Z)))) 0/\lK PT (.sub (.div (iH 1 oneE ((am4 n).map (rtX Z))) (iH 1 oneE ((am4 n).map (rtX Z)))) oneE) 0:=by
 have hx:∃x:Nat->Re,∀j,0<=x j/\x j*x j=rat (Z j:Rat):=by
  have h:∀j,∃y:Re,0<=y/\y*y=rat (Z j:Rat):=fun j=>Re.exists_sqrt (by rw[Re.zero_rat,Re.rat_le];exact Rat.intCast_le_intCast.2 (hZ j).1);exact⟨fun j=>Classical.choose (h j),fun j=>Classical.choose_spec (h j)⟩
 obtain⟨x,hx⟩:=hx;have fi:∀(L:List Ex) (j:Nat),Fit L (.leaf 5 0) (li (Z j)) (rat (Z j:Rat)):=fun L j=>xM 5 (by have:=hZ j;omega) (by decide);have hlok:∀l:List Nat,Lok (l.map (rtX Z)):=fun l=>by
  induction l with
  |nil=>exact Lok.nil
  |cons j l ih=>exact Fit.lok ih (fi _ j) rfl (by rw[Re.zero_rat,Re.rat_le];exact Rat.intCast_le_intCast.2 (hZ j).1)
 obtain⟨L,hL⟩:∃L:List Ex,L=[0,1,2,3,0,1,2,3].map (rtX Z):=⟨_,rfl⟩;have l8:L.length=8:=by rw[hL];rfl
 have hLk:Lok L:=by rw[hL];exact hlok _
 have hX:∀j,j<4->Fit L (.root (.leaf 5 0)) (rtX Z j) (x j):=fun j hj=>Fit.root (fi L j) (hx j).1 (hx j).2 (by
  rw[hL];refine List.mem_map.2 ⟨j,?_,rfl⟩;have:j=0\/j=1\/j=2\/j=3:=by omega
  rcases this with rfl|rfl|rfl|rfl<;>decide)
 have m1:∀j∈am4 n,Fit L (.root (.leaf 5 0)) (rtX Z j) (x j):=fun j hj=>hX j (by have:=List.mem_range.1 hj;omega);have m2:∀j∈(am4 n).reverse,Fit L (.root (.leaf 5 0)) (rtX Z j) (x j):=fun j hj=>m1 j (List.mem_reverse.1 hj);have A1:=akZ (am4 n) m1 (akV (L:=L));have A2:=akZ (am4 n).reverse m2 (akV (L:=L));have M1:=ak0 (am4 n) m1 (akV (L:=L));have M2:=ak0 (am4 n).reverse m2 (akV (L:=L));rw[akT (fun a j=>a+x j) (fun b p q=>by rw[Re.add_assoc,Re.add_comm (x p),<-Re.add_assoc])]at A2;rw[akT (fun a j=>a*x j) (fun b p q=>by rw[Re.mul_assoc,Re.mul_comm (x p),<-Re.mul_assoc])]at M2;rw[List.map_reverse]at A2 M2;have hp:=alB (V:=x) (fun j=>(hx j).1) (am4 n) (x:=rat 1) (by rw[Re.zero_rat,Re.rat_lt];decide);have hk:=amD hn;simp only[Bool.and_eq_true]at hk;obtain⟨k1,k2,k3,k4⟩:=hk;unfold okS at k1 k2 k3 k4;rw[<-l8]at k1 k2 k3 k4;have D:=Fit.div hLk A1 A1 (Re.ne_of_gt hp) (z:=rat 1) (Re.one_mul _);have h1:=(A1.sub A2).sgn (P:=PT) k1;have h2:=(M1.sub M2).sgn (P:=PT) k2;have h3:=(A1.sub A1).sgn (P:=PT) k3;have h4:=(D.sub akV).sgn (P:=PT) k4
 rw[Re.sub_self,Re.sgn_zero]at h1 h2 h3 h4;exact⟨h1,h2,h3,h4⟩
end
section
open Go.RowKit Go.Maps Go.Stop Go.Extern
open List renaming mem_cons_of_mem->am7,range->am8,length_reverse->am9,mem_cons_self->anA,getElem?_eq_some_iff->anC,sublist_cons_self->anD,perm_append_comm->anE,getElem?_reverse->anF,append_nil->anH,mem_cons->anI
open Nat renaming le_trans->anB,eq_zero_or_pos->anG,lt_or_ge->anJ,zero_le->anK
variable{lr1 lr2:List (Nat×Obj)}{xs:List Int}{va vb:Value}{w:World}
theorem alH{g:Nat}:∀{ids:List Nat} {u:Value},u∈nmL g ids->u.oneCell'=true
 |[],_,h=>by cases h
 |k::ids,u,h=>by
  rcases anI.1 h with rfl|h
  . rfl
  . rcases anI.1 h with rfl|h
    . rfl
    . exact alH h
section
variable{s:Bs}{g N n k bn c:Nat}{K:List (Ex×Nat)}{L1 L2 lr:List (Nat×Obj)}{W:World}{p:Option Addr}{ids:List Nat}
theorem alX{ops:Array Oper}{rest:List Oper}{o:Oper}{a:Act}{Q:Exit->Act->World->Prop}
 (hO:OwnR 33 2 (.slice p n c) n (nmL g ids) lr) (hz:n=0->p=none/\c=0) (hR:Run s g N K ((bn,numO g k)::(L1++(lr++L2))) W) (hn:n<=1000) (hgd:o.guard=none) (sl x:Operand)
 (ho:o.op=.call {callee:=.builtin .append,args:=#[sl,x],argTypes:=#[50,50]}) (hs:a.eval sl=.slice (some ⟨bn,0,none⟩) 1 1) (hx:a.eval x=.slice p n c)
 (h:∀r cap lr' w',OwnR 33 2 (.slice (some ⟨r,0,none⟩) (n+1) cap) (n+1) (nmL g (k::ids)) lr'->Run s g N K (L1++(lr'++[])) w'->wpList Tryz.prog ops Q rest (a.put o.dst (.slice (some ⟨r,0,none⟩) (n+1) cap)) w'):wpList Tryz.prog ops Q (o::rest) a W:=by
 obtain⟨i,hi,i0,i1,i2⟩:=info_parts ak8;have hO1:OwnR 33 2 (.slice (some ⟨bn,0,none⟩) 1 1) 1 (nmL g [k]) [(bn,numO g k)]:=⟨rfl,Or.inr ⟨bn,1,_,rfl,rfl,Nat.le_refl _,by decide,rfl,rfl⟩⟩;have hown:=OwnR.own (L:=L1++(lr++L2)) hO1 hR;have fin:∀{lr':List (Nat×Obj)} {w':World},Run s g N K (lr'++(L1++(lr++L2))) w'->Run s g N K (L1++(lr'++[])) w':=fun{lr' w'} hr=>by
  rw[anH];exact(hr.subl (List.Sublist.append (List.Sublist.refl lr') (List.sublist_append_left L1 _))).perm anE
 rcases anG n with rfl|h0
 . obtain⟨rfl,rfl⟩:=hz rfl
   have he:nmL g ids=[]:=List.eq_nil_of_length_eq_zero (by have:=hO.1;omega);have hid:ids=[]:=by cases ids with
    |nil=>rfl
    |cons a t=>simp[nmL]at he
   subst hid;exact wpList_append_own_none hgd sl x 50 ho 0 33 i 2 akX hi _ 1 (nmL g [k]) hs hown hx (h bn 1 [(bn,numO g k)] W hO1 (fin (lr':=[(bn,numO g k)]) hR))
 . rcases id hO.2 with ⟨-,e,-⟩|⟨r,cap,cur,e,rfl,h1,h2,h3,h4⟩
   . omega
   . cases e
     have hr:=hR.at (b:=r) (o:=.cells cur 33) (by simp);have hlen:=hO.1;refine wpList_append_lies _ hgd sl x 50 ho 0 33 i _ 2 16 akX hi i0 i1 i2 rfl (by decide) _ 1 (nmL g [k]) hs hown ⟨r,0,none⟩ n c (nmL g ids) hx hlen (fun j u hu=> ?_) (fun u hu=>alH hu) h0 (by unfold maxLen;omega) (by omega) (anK _) _ rfl fun r2 cap2 w' o1 o2 o3 _=> ?_
     . rw[<-h4,List.getElem?_take]at hu
       split at hu
       . exact World.news_of_block hr j u hu
       . cases hu
     . obtain⟨lr',q1,q2⟩:=hO1.grow (L:=L1++([(r,.cells cur 33)]++L2)) hR o1 o2 o3
       rw[Nat.add_comm 1 n]at q1|-;exact h r2 cap2 lr' w' q1 (fin q2)
end
def smV(xs:List Int)(j:Nat):Int:=((xs.getD j 0).tmod 30+30).tmod 30
theorem alY(xs:List Int)(j:Nat):0<=smV xs j/\smV xs j<30:=by
 unfold smV;have h1:=Int.lt_tmod_of_pos (xs.getD j 0) (show(0:Int)<30 by omega);have h3:0<=((xs.getD j 0).tmod 30+30).tmod 30:=Int.tmod_nonneg _ (by omega);have h4:=Int.tmod_lt_of_pos ((xs.getD j 0).tmod 30+30) (show(0:Int)<30 by omega);omega
theorem amE(x:Int):wrap64 (x.tmod 30+30)=x.tmod 30+30:=by
 have h1:=Int.lt_tmod_of_pos x (show(0:Int)<30 by omega);have h5:=Int.tmod_lt_of_pos x (show(0:Int)<30 by omega);unfold wrap64;omega
theorem amM{j:Nat}{x:Int}(h:xs[j]? =some x):(x.tmod 30+30).tmod 30=smV xs j:=by
 unfold smV;rw[List.getD_eq_getElem?_getD,h];rfl
theorem amO(xs:List Int)(j:Nat):Iw (fl (smV xs j)) (smV xs j):=by
 have:=alY xs j;exact⟨⟨(aj5 (by omega)).1,(aj5 (by omega)).2.1⟩,(aj5 (by omega)).2.2⟩
def SmR(w:World)(g:Nat)(xs:List Int)(m:Nat)(va vb:Value)(W:World):Prop:=∃ids lr1 lr2 K,ids.length=m/\OwnR 33 2 va m (nmL g ids) lr1/\OwnR 33 2 vb m (nmL g ids.reverse) lr2/\
 (m=0->va=.slice none 0 0/\vb=.slice none 0 0)/\(∀j k,ids[j]? =some k->(rtX (smV xs) j,k)∈K)/\Run (bs w) g (2*m) K (lr1++(lr2++[])) W
theorem amF{g m k k0:Nat}{ids:List Nat}{K:List (Ex×Nat)}{W:World}{e:Ex}(hl:ids.length=m)(ho:OwnR 33 2 va (m+1) (nmL g ids++[.pointer (some ⟨g,0,none⟩),.int .i64 (k:Int)]) lr1)(ho2:OwnR 33 2 vb (m+1) (nmL g (k::ids.reverse)) lr2)
 (hK:∀j k,ids[j]? =some k->(rtX (smV xs) j,k)∈K) (hR:Run (bs w) g (2*m+1+1) ((rtX (smV xs) m,k)::(e,k0)::K) (lr1++(lr2++[])) W):SmR w g xs (m+1) va vb W:=by
 refine⟨ids++[k],lr1,lr2,_,by rw[List.length_append,hl];rfl,by rw[alF];exact ho,by rw[List.reverse_append];exact ho2,fun h=>by omega,fun j k' hj=> ?_,hR⟩;rw[List.getElem?_append]at hj
 split at hj
 . exact am7 _ (am7 _ (hK j k' hj))
 . rename_i hlt
   have hj2:j-ids.length=0:=by
    rcases anG (j-ids.length)with e|e
    . exact e
    . rw[List.getElem?_eq_none (by simp only[List.length_singleton];exact e)]at hj;cases hj
   rw[hj2]at hj;obtain rfl:k=k':=by simpa using hj
   obtain rfl:j=m:=by omega
   exact anA ..
theorem alZ{s:Bs}{g n b k1:Nat}{K:List (Ex×Nat)}{ids:List Nat}{o:Obj}(hn:ids.length=n)(h4:n<=4)(h1:OwnR 33 2 va n (nmL g ids) lr1)(h2:OwnR 33 2 vb n (nmL g ids.reverse) lr2)(hz:n=0->va=.slice none 0 0/\vb=.slice none 0 0)
 (hK:∀j k,ids[j]? =some k->(rtX (smV xs) j,k)∈K) (h0:(oneE,k1)∈K) {l:List (Nat×Obj)} (hl:(lr1++(lr2++[])).Sublist l):
 ∀(M:Nat) (K':List (Ex×Nat)) (W':World),Run s g M K' l W'->(∀q∈K,q∈K')->M<=100->
  Calls Tryz.prog 14 #[numV g k1,va] W' (RtR s g (M+4) K' l (iH 1 oneE ((am8 n).map (rtX (smV xs)))))/\Calls Tryz.prog 14 #[numV g k1,vb] W' (RtR s g (M+4) K' l (iH 1 oneE ((am8 n).map (rtX (smV xs))).reverse))/\
  Calls Tryz.prog 16 #[numV g k1,va] W' (RtR s g (M+4) K' l (iH 3 oneE ((am8 n).map (rtX (smV xs)))))/\Calls Tryz.prog 16 #[numV g k1,vb] W' (RtR s g (M+4) K' l (iH 3 oneE ((am8 n).map (rtX (smV xs))).reverse)):=by
 intro M K' W' hR hs hM;have hA:=h1.rowV hn (by omega) (fun h=>(hz h).1) (hR.subl hl);have hB:=h2.rowV (by rw[am9];exact hn) (by omega) (fun h=>(hz h).2) (hR.subl ((List.sublist_append_right lr1 _).trans hl));have la:ids.length=((am8 n).map (rtX (smV xs))).length:=by rw[List.length_map,List.length_range,hn]
 have lb:ids.reverse.length=((am8 n).map (rtX (smV xs))).reverse.length:=by rw[am9,am9];exact la
 have ga:∀(m x:Nat) e,ids[m]? =some x->((am8 n).map (rtX (smV xs)))[m]? =some e->(e,x)∈K':=fun m x e hx he=>by
  have hm:=(anC.1 hx).1;rw[List.getElem?_map,List.getElem?_range (by omega)]at he;obtain rfl:=Option.some.inj he;exact hs _ (hK m x hx)
 have gb:∀(m x:Nat) e,ids.reverse[m]? =some x->((am8 n).map (rtX (smV xs))).reverse[m]? =some e->(e,x)∈K':=fun m x e hx he=>by
  have hm:=(anC.1 hx).1;rw[am9]at hm;rw[anF hm]at hx;rw[anF (by rw[<-la];exact hm),<-la]at he;exact ga _ x e hx he
 have up:∀{x:Ex} {q:Nat} {e:Ending} {W2:World},q=n->RtR s g (M+q) K' l x e W2->RtR s g (M+4) K' l x e W2:=fun{x q e W2} hq hr=>by
  obtain⟨k,e1,h⟩:=hr;exact⟨k,e1,h.more (by omega)⟩
 have lr:ids.reverse.length=n:=by rw[am9];exact hn
 exact⟨(hR.addV hA la ga (by omega) (hs _ h0)).mono fun _ _=>up hn,(hR.addV hB lb gb (by omega) (hs _ h0)).mono fun _ _=>up lr,(hR.mulV hA la ga (by omega) (hs _ h0)).mono fun _ _=>up hn,(hR.mulV hB lb gb (by omega) (hs _ h0)).mono fun _ _=>up lr⟩
theorem amG{x:Nat×Obj}:(lr1++(lr2++[x])).Perm (x::(lr1++(lr2++[]))):=by
 rw[anH,<-List.append_assoc];exact anE
theorem ak1{pl:Option Addr}{c:Nat}(hT:Tab w)(htb:0<w.heap.size)(hx:∀j x,xs[j]? =some x->∃lb lo,pl=some ⟨lb,lo,none⟩/\w.cell? ⟨lb,lo+j,none⟩=some (.int .i64 x)):
 Calls Tryz.prog 4 #[.slice pl xs.length c] w (RetV w (.bool true)):=by
 have HA:=hdd (alive15 hT htb);rcases anJ 4 xs.length with h8|h8
 . have hI:(4:Int)<(xs.length:Int):=by omega
   clear hx h8 hT htb;go_enter Tryz.func4,Tryz.ntmps4
   go_wp2_with fail
   refine HA.out.mono ?_;rintro e w2⟨rfl,hb⟩;have HB:=hdd hb;clear hb;go_wp2;go_ret;exact⟨rfl,HB.out⟩
 have hI:(xs.length:Int)<=4:=by omega
 have HX:=hdd hx;have HT:=hdd (And.intro hT htb);have H8:=hdd h8;clear hx hT htb h8;go_enter Tryz.func4,Tryz.ntmps4
 go_wp2_with fail
 refine HA.out.mono ?_;rintro e w2⟨rfl,hb⟩;have HN:=hdd (alN (w0:=w) (l:=[]) hb (fun p hp=>by cases hp) (by simp) HT.out.1 HT.out.2);clear hb HA;go_wp2_with fail
 refine HN.out.mono ?_;rintro e W1⟨g,rfl,hR⟩;have R1:=hdd hR;clear hR HN;dsimp only;go_wp2_with fail
 go_loopw [4,5,6] (fun va vb i wr=>∃m:Nat,m<=xs.length/\i=.int .i64 (m:Int)/\Hid (SmR w g xs m va vb wr)) (fun _ _ i _=>((xs.length:Int)-intOf i).toNat)
 case atStart=>exact⟨0,anK _,rfl,hdd ⟨[],[],[],[],rfl,OwnR.nil _ _,OwnR.nil _ _,fun _=>⟨rfl,rfl⟩,fun j k h=>by simp at h,R1.out⟩⟩
 case round=>
  obtain⟨m,hm,rfl,HG⟩:=hrel;clear R1;rcases anJ m xs.length with hlt|hge
  . obtain⟨ids,lr1,lr2,K,hl,ho1,ho2,hz,hK,hR⟩:=HG.out
    obtain⟨p1,c1,rfl⟩:=ho1.slice;obtain⟨p2,c2,rfl⟩:=ho2.slice;obtain⟨x,hx⟩:∃x,xs[m]? =some x:=⟨_,List.getElem?_eq_getElem hlt⟩;obtain⟨lb,lo,rfl,ca⟩:=HX.out m x hx;replace ca:=cbl ca (Run.below hR);have hvx:=amM hx;have HW:=hdd (amO xs m);obtain⟨VX,hVX⟩:∃z,smV xs m=z:=⟨_,rfl⟩;rw[hVX]at HW hvx;have HE:Hid (rtX (smV xs) m=.root (.leaf (fl VX))):=hdd (by unfold rtX;rw[hVX]);have hmI:(m:Int)<(xs.length:Int):=Int.ofNat_lt.2 hlt;have hm0:(0:Int)<=(m:Int):=Int.natCast_nonneg _;have hwm:=amA hlt (anB H8.out (by decide));have hcv:=fun w=>alS VX w;have hwx:=amE x;have HR:=hdd hR;have HO1:=hdd ho1;have HO2:=hdd ho2;have HK:=hdd hK;have HL:=hdd (And.intro hlt hl);have HZ:Hid (m=0->p2=none/\c2=0):=hdd fun h=>by
     have:=(hz h).2;simp only[Value.slice.injEq]at this;exact⟨this.1,this.2.2⟩
    have HC:=hdd (hR.of (alG (a:=0) hlt (anB H8.out (by decide)) (by decide)) HW.out.1.1 HW.out.1.2);clear hR ho1 ho2 hK hx hz HG hlt hl hVX;go_wp2_with fail
    refine HC.out.mono ?_;rintro e wa⟨ka,rfl,hRa⟩;have HC:=hdd (hRa.sqrt (alG (a:=1) HL.out.1 (anB H8.out (by decide)) (by decide)) m0);clear hRa;go_wp2_with fail
    refine HC.out.mono ?_;rintro e wb⟨kv,rfl,hRb⟩;obtain⟨w5,hw5,b5,hRc⟩:=hRb.boxA (numO g kv);obtain⟨x0,x1,-,-⟩:=aB b5;have RC:=hdd (hRc.perm amG);obtain⟨w6,hw6,b6,hRd⟩:=RC.out.boxA (numO g kv);have RD:=hdd (hRd.subl (anD _ _));have B6:=hdd b6;clear hRb hRc hRd b5 b6 HC ca;go_wp2_with (first
     |(at_builtin
       refine al9 akX ak8 rfl (by decide) HO1.out RD.out B6.out rfl (by simp[Value.oneCell']) (alT HL.out.1 (anB H8.out (by decide))) (by decide) rfl _ _ rfl rfl 1 rfl ?_;intro r2 cap2 lr3 w7 hz1 hR7;obtain⟨y0,y1,-,-⟩:=aB (hR7.at (b:=wb.heap.size) (o:=numO g kv) (by simp));obtain⟨w8,hw8,b8,hR8⟩:=hR7.boxA (numO g kv);have HZ1:=hdd hz1;have R8:=hdd hR8;clear hz1 hR7 hR8 b8)
     |(at_builtin
       refine alX HO2.out HZ.out R8.out (alT HL.out.1 (anB H8.out (by decide))) rfl _ _ rfl rfl rfl ?_;intro r3 cap3 lr4 w9 hz2 hR9;have HZ2:=hdd hz2;have R9:=hdd hR9;clear hz2 hR9))
    have HG:=hdd (amF HL.out.2 HZ1.out HZ2.out HK.out (by rw[HE.out];exact R9.out));clear HZ1 HZ2 R8 R9 HE
    go_roundw
    case rel=>exact⟨m+1,HL.out.1,rfl,HG⟩
    case measure=>exact amB HL.out.1
  . obtain rfl:m=xs.length:=Nat.le_antisymm hm hge
    obtain⟨ids,lr1,lr2,K,hl,ho1,ho2,hz,hK,hR⟩:=HG.out;obtain⟨p1,c1,rfl⟩:=ho1.slice;obtain⟨p2,c2,rfl⟩:=ho2.slice;have HQ:=hdd (alW (alY xs) H8.out);have HC:=hdd (hR.of (v:=4607182418800017408) (by have:=H8.out;omega) (by decide) (by decide));have HCA:=hdd (fun(k1 b:Nat)=>alZ (s:=bs w) (g:=g) (o:=numO g k1) (b:=b) (k1:=k1) hl H8.out ho1 ho2 hz (K:=(oneE,k1)::K) (fun j k h=>am7 _ (hK j k h)) (anA ..) (l:=(b,numO g k1)::(lr1++(lr2++[]))) (anD _ _));clear hR hK ho1 ho2 hz HG hl hm hge;obtain⟨S1,hS1⟩:∃e,iH 1 oneE ((am8 xs.length).map (rtX (smV xs)))=e:=⟨_,rfl⟩;obtain⟨S2,hS2⟩:∃e,iH 1 oneE ((am8 xs.length).map (rtX (smV xs))).reverse=e:=⟨_,rfl⟩;obtain⟨P1,hP1⟩:∃e,iH 3 oneE ((am8 xs.length).map (rtX (smV xs)))=e:=⟨_,rfl⟩;obtain⟨P2,hP2⟩:∃e,iH 3 oneE ((am8 xs.length).map (rtX (smV xs))).reverse=e:=⟨_,rfl⟩;simp only[hS1,hS2,hP1,hP2]at HQ HCA;clear hS1 hS2 hP1 hP2;go_wp2_with fail
    refine HC.out.mono ?_;rintro e wa⟨k1,rfl,hRa⟩;obtain⟨w5,hw5,b5,hRb⟩:=hRa.boxA (numO g k1);obtain⟨x0,x1,-,-⟩:=aB b5;have RB:=hdd (hRb.more (M:=10) (by have:=H8.out;omega));have HCB:=hdd (HCA.out k1 wa.heap.size);obtain⟨bx,hbx⟩:∃b,wa.heap.size=b:=⟨_,rfl⟩;rw[hbx]at x0 x1 RB HCB;have d10:10<=100:=by decide
    have d14:10+4<=100:=by decide
    have e18:10+4+4<20000:=by decide
    have d19:10+4+4+1<=100:=by decide
    have d23:10+4+4+1+4<=100:=by decide
    have e27:10+4+4+1+4+4<20000:=by decide
    have d28:10+4+4+1+4+4+1<=100:=by decide
    clear hRa hRb b5 HC HCA;go_wp2_with fail
    have RA:=hdd RB.out.drew;have HC1:=hdd (HCB.out _ _ _ RA.out (fun _ h=>h) d10).1;obtain⟨x0,x1,-,-⟩:=aB (RA.out.at m0)
    go_region_held3 (fun w'=>w'.cell? ⟨bx,0,none⟩=some (.pointer (some ⟨g,0,none⟩))/\w'.cell? ⟨bx,1,none⟩=some (.int .i64 (k1:Int))) (go_keep)
     (first
     |(go_at_call 14
       with_reducible refine HC1.out.mono ?_
       rintro e w7⟨i1,rfl,hR7⟩;have R7:=hdd hR7;have HC2:=hdd (HCB.out _ _ _ R7.out (fun q h=>am7 _ h) d14).2.1;obtain⟨x0,x1,-,-⟩:=aB (R7.out.at m0);clear hR7)
     |(go_at_call 14
       with_reducible refine HC2.out.mono ?_
       rintro e w8⟨i2,rfl,hR8⟩;have R8:=hdd hR8;have HC3:=hdd (R8.out.cmp e18 m1 m0 HQ.out.1);obtain⟨x0,x1,-,-⟩:=aB (R8.out.at m0);clear hR8)
     |(go_at_call 15
       with_reducible refine HC3.out.mono ?_
       rintro e wB⟨rfl,hR9⟩;have RB:=hdd hR9;obtain⟨x0,x1,-,-⟩:=aB (RB.out.at m0);clear hR9))
    clear HC1 HC2 HC3 R7 R8 RA;go_wp2_with fail
    have RC:=hdd RB.out.drew;have HC1:=hdd (HCB.out _ _ _ RC.out (fun q h=>am7 _ (am7 _ h)) d19).2.2.1;obtain⟨x0,x1,-,-⟩:=aB (RC.out.at m0)
    go_region_held3 (fun w'=>w'.cell? ⟨bx,0,none⟩=some (.pointer (some ⟨g,0,none⟩))/\w'.cell? ⟨bx,1,none⟩=some (.int .i64 (k1:Int))) (go_keep)
     (first
     |(go_at_call 16
       with_reducible refine HC1.out.mono ?_
       rintro e w7⟨i1,rfl,hR7⟩;have R7:=hdd hR7;have HC2:=hdd (HCB.out _ _ _ R7.out (fun q h=>am7 _ (am7 _ (am7 _ h))) d23).2.2.2;obtain⟨x0,x1,-,-⟩:=aB (R7.out.at m0);clear hR7)
     |(go_at_call 16
       with_reducible refine HC2.out.mono ?_
       rintro e w8⟨i2,rfl,hR8⟩;have R8:=hdd hR8;have HC3:=hdd (R8.out.cmp e27 m1 m0 HQ.out.2.1);obtain⟨x0,x1,-,-⟩:=aB (R8.out.at m0);clear hR8)
     |(go_at_call 15
       with_reducible refine HC3.out.mono ?_
       rintro e wD⟨rfl,hR9⟩;have RD:=hdd hR9;obtain⟨x0,x1,-,-⟩:=aB (RD.out.at m0);clear hR9))
    clear HC1 HC2 HC3 R7 R8 RC;go_wp2_with fail
    have HC1:=hdd (HCB.out _ _ _ RD.out (fun q h=>am7 _ (am7 _ (am7 _ (am7 _ h)))) d28).1;go_wp2_with fail
    refine HC1.out.mono ?_;rintro e wE⟨i3,rfl,hRE⟩;obtain⟨wF,hwF,bF,hRF⟩:=hRE.boxA (numO g i3);obtain⟨y0,y1,-,-⟩:=aB bF;obtain⟨x0,x1,-,-⟩:=aB (hRF.at m1);obtain⟨bz,hbz⟩:∃b,wE.heap.size=b:=⟨_,rfl⟩;rw[hbz]at y0 y1 hRF;have HC2:=hdd (hRF.sub2 (by decide) m0 m0);clear hRE hRF bF HC1 RD;go_wp2_with fail
    refine HC2.out.mono ?_;rintro e wG⟨i4,rfl,hRG⟩;have HC3:=hdd (hRG.sign m0 HQ.out.2.2.1);clear hRG HC2;go_wp2_with fail
    refine HC3.out.mono ?_;rintro e wH⟨rfl,hRH⟩;have RH:=hdd hRH.drew;obtain⟨y0,y1,-,-⟩:=aB (RH.out.at m0);obtain⟨x0,x1,-,-⟩:=aB (RH.out.at m1);have HC4:=hdd (RH.out.div2 (by decide) m1 m1);have e30:10+4+4+1+4+4+1+4+1+1<20000:=by decide
    clear hRH HC3;go_wp2_with fail
    go_region_held3 (fun w'=>(w'.cell? ⟨bx,0,none⟩=some (.pointer (some ⟨g,0,none⟩))/\w'.cell? ⟨bx,1,none⟩=some (.int .i64 (k1:Int)))/\w'.cell? ⟨bz,0,none⟩=some (.pointer (some ⟨g,0,none⟩))/\w'.cell? ⟨bz,1,none⟩=some (.int .i64 (i3:Int))) (go_keep)
     (first
     |(go_at_call 19
       with_reducible refine HC4.out.mono ?_
       rintro e w7⟨i5,rfl,hR7⟩;have R7:=hdd hR7;have HC5:=hdd (R7.out.cmp e30 m0 (am7 _ (am7 _ (am7 _ (am7 _ (am7 _ (am7 _ (am7 _ (anA ..)))))))) HQ.out.2.2.2);obtain⟨y0,y1,-,-⟩:=aB (R7.out.at m0);obtain⟨x0,x1,-,-⟩:=aB (R7.out.at m1);clear hR7)
     |(go_at_call 15
       with_reducible refine HC5.out.mono ?_
       rintro e w8⟨rfl,hR8⟩;have RI:=hdd hR8.below;obtain⟨y0,y1,-,-⟩:=aB (hR8.at m0);obtain⟨x0,x1,-,-⟩:=aB (hR8.at m1);clear hR8))
    clear HC4 HC5 R7 RH;go_wp2;go_ret;exact⟨rfl,RI.out⟩
end
end Go.Proofs.YtkadpnljocflaaaGreatDoor
