/- A part of the proof: contracts of functions and plain laws (GapC, GapD, GapE, GapG, GapH, GapF). -/
import Derived.Test.YtigoiiekebccnaaGreatDoorK10
set_option linter.unusedVariables false
set_option linter.unusedSimpArgs false
set_option linter.unnecessarySimpa false
set_option maxHeartbeats 25600000
set_option maxRecDepth 100000
namespace Go.Proofs.YtigoiiekebccnaaGreatDoor
open Go.RowKit
open Bool renaming false_eq_true->ayC,decide_and->ayD
open Go.Extern.MathSqrt renaming sqrt->ayB
open Go.Op renaming negFloat->ax9
open Go.RowKit.Below renaming heap_setCell->ayA
variable{a b c d g hi lo r x y z:Nat}{X Y Z:Re->Prop}{T:TypeId}{w:World}
theorem aU(a:Addr)(b:Nat)(m:Mode)(w:World):(store a (.float .f64 b) m).run Tryz.prog w=stored Tryz.prog w a (.float .f64 b) m:=run_store Tryz.prog w a _ m rfl
theorem num0:num 0:=by decide
theorem sr0:sr 0=0:=by decide
theorem af8(h1:lo<18446744073709551616)(h2:hi<18446744073709551616):
 Calls Tryz.prog 251 #[gv lo hi] w (rV w (dU lo hi).1 (dU lo hi).2):=by
 obtain⟨w1,hw1,hb1,hs1,b1⟩:=pro1 w (.cells #[.float .f64 lo,.float .f64 hi] 270);have HB:=hdd hb1;obtain⟨c0,c1,-,-⟩:=aB b1;have F1:=hdd (kJ (w:=w1) h1 h2);clear hb1 b1 hs1 h1 h2;unfold gv at*;by_cases k:bW lo hi
 . rw[decide_eq_true k]at F1
   have hg:=uU k.1.num num0;have hl:=adM k.2.1.num num0;have he:=qU k.1.num num0;have he2:=qU k.2.1.num num0;rw[sr0]at hg hl he he2;by_cases q1:0<sr lo
   . rw[decide_eq_true q1]at hg
     have hG:dU lo hi=(1,true):=by unfold dU;rw[if_pos k,if_pos q1]
     rw[hG];clear k q1 hl he he2 hG;go_enter Tryz.func251,Tryz.ntmps251
     go_wp2_with fail
     refine F1.out.mono ?_;rintro e w2⟨rfl,hb⟩;replace c0:=cbl c0 hb;replace c1:=cbl c1 hb;have HF:Hid (rV w 1 true (.returned (.tuple #[.int .i64 1,.bool true])) w2):=hdd ⟨rfl,HB.out.trans (hb.mono HB.out.size)⟩;clear hb hw1;go_wp2
     go_ret2
     exact HF.out
   . rw[decide_eq_false q1]at hg
     by_cases q2:sr hi<0
     . rw[decide_eq_true q2]at hl
       have hG:dU lo hi=(-1,true):=by unfold dU;rw[if_pos k,if_neg q1,if_pos q2]
       rw[hG];clear k q1 q2 he he2 hG;go_enter Tryz.func251,Tryz.ntmps251
       go_wp2_with fail
       refine F1.out.mono ?_;rintro e w2⟨rfl,hb⟩;replace c0:=cbl c0 hb;replace c1:=cbl c1 hb;have HF:Hid (rV w (-1) true (.returned (.tuple #[.int .i64 (-1),.bool true])) w2):=hdd ⟨rfl,HB.out.trans (hb.mono HB.out.size)⟩;clear hb hw1;go_wp2
       go_ret2
       exact HF.out
     . rw[decide_eq_false q2]at hl
       have hG:dU lo hi=(0,decide (sr lo=0)&&decide (sr hi=0)):=by unfold dU;rw[if_pos k,if_neg q1,if_neg q2]
       rw[hG];clear k q1 q2 hG;generalize decide (sr lo=0)=r1 at*;generalize decide (sr hi=0)=r2 at*
       cases r1
       all_goals
        go_enter Tryz.func251,Tryz.ntmps251
        go_wp2_with fail
        refine F1.out.mono ?_;rintro e w2⟨rfl,hb⟩;replace c0:=cbl c0 hb;replace c1:=cbl c1 hb;have HB2:Hid (Below w.heap.size w w2):=hdd (HB.out.trans (hb.mono HB.out.size));clear hb hw1;go_wp2_with fail
        go_quiet (fail)
        go_wp2
        go_ret2
        exact⟨rfl,HB2.out.trans ((below_drewN _ _).mono HB2.out.size)⟩
 . rw[decide_eq_false k]at F1
   have hG:dU lo hi=(0,false):=by unfold dU;rw[if_neg k]
   rw[hG];clear k hG;go_enter Tryz.func251,Tryz.ntmps251
   go_wp2_with fail
   refine F1.out.mono ?_;rintro e w2⟨rfl,hb⟩;have HF:Hid (rV w 0 false (.returned (.tuple #[.int .i64 0,.bool false])) w2):=hdd ⟨rfl,HB.out.trans (hb.mono HB.out.size)⟩;clear hb hw1;go_wp2
   go_ret2
   exact HF.out
def ajC:Nat:=18442240474082181120
def ajD:Nat:=9218868437227405312
theorem aeS(up:Bool):Calls Tryz.prog 303 #[.int .i64 (kI up)] w (RetF w (if up then ajD else ajC)):=by
 have ffb:=dS
 cases up
 all_goals
  simp only[kI,ayC,if_false,if_true];go_enter Tryz.func303,Tryz.ntmps303
  go_wp2;go_ret;exact⟨rfl,rfl⟩
theorem bJ{w0 w1:World}{a b:Value}(hb:Below w0.heap.size w0 w1)(hg:w0.heap.size<=g)(hw:w1.heap[g]? =some (.cells #[a,b] T (0,0)))(h:GapS lo hi X):
 Hid (RetG w0 X (.returned (.agg #[.float .f64 lo,.float .f64 hi])) ((w1.setCell ⟨g,0,none⟩ (.float .f64 lo)).setCell ⟨g,1,none⟩ (.float .f64 hi)))/\
 ((w1.setCell ⟨g,0,none⟩ (.float .f64 lo)).setCell ⟨g,1,none⟩ (.float .f64 hi)).heap[g]? =some (.cells #[.float .f64 lo,.float .f64 hi] T (0,0)):=
 ⟨hdd ⟨(hb.setCell hg _).setCell hg _,lo,hi,rfl,h⟩,set2 hw _ _⟩
theorem gall(X:Re->Prop):GapS ajC ajD X:=amF X
theorem all_any:Calls Tryz.prog 263 #[] w (fun e w'=>e=.returned (.agg #[.float .f64 ajC,.float .f64 ajD])/\Below w.heap.size w w'):=by
 obtain⟨w1,hw1,hb1,hs1,b1⟩:=pro1 w (.cells #[.float .f64 0,.float .f64 0] 270);have HB:=hdd hb1;have B1:=hdd b1;obtain⟨c0,c1,c2,c3⟩:=aB b1;have I1:=hdd (aeS (w:=w1) true);have I2:=hdd (aeS (w:=w1) false);have HS:=bJ (X:=fun _=>True) hb1 nlr b1 (gall _);have HFF:=HS.1;have hFF:=hdd HS.2;clear hb1 b1 HS;simp only[kI,ayC,if_false,if_true]at I1 I2;have hst:=aU;go_enter Tryz.func263,Tryz.ntmps263
 go_wp2_with fail
 refine I2.out.mono ?_;rintro e w2⟨rfl,hw⟩;obtain rfl:=hw;go_wp2_with fail
 refine I1.out.mono ?_;rintro e w2⟨rfl,hw⟩;obtain rfl:=hw;go_wp2;obtain⟨f0,f1,-,-⟩:=aB hFF.out;refine bodyPost_ret (v:=.agg #[_,_]) (by simp[results,Tryz.results263,go_sem,f0,f1];first|exact⟨rfl,rfl⟩|rfl) rfl ?_;exact⟨rfl,HFF.out.1⟩
def minW(x y:Nat):Nat:=if sr x<sr y then x else if sr y<sr x then y else if (FloatKind.f64.decode x).neg then x else y
def maxW(x y:Nat):Nat:=if sr y<sr x then x else if sr x<sr y then y else if (FloatKind.f64.decode x).neg then y else x
theorem nG(x y:Nat):sr (minW x y)<=sr x/\sr (minW x y)<=sr y/\(minW x y=x\/minW x y=y):=by
 unfold minW
 split
 . exact⟨by omega,by omega,Or.inl rfl⟩
 . split
   . exact⟨by omega,by omega,Or.inr rfl⟩
   . split
     . exact⟨by omega,by omega,Or.inl rfl⟩
     . exact⟨by omega,by omega,Or.inr rfl⟩
theorem nH(x y:Nat):sr x<=sr (maxW x y)/\sr y<=sr (maxW x y)/\(maxW x y=x\/maxW x y=y):=by
 unfold maxW
 split
 . exact⟨by omega,by omega,Or.inl rfl⟩
 . split
   . exact⟨by omega,by omega,Or.inr rfl⟩
   . split
     . exact⟨by omega,by omega,Or.inr rfl⟩
     . exact⟨by omega,by omega,Or.inl rfl⟩
theorem uV{P:Program}(hx:num x)(hy:num y)(w:World):(Builtin.min2 (.float .f64 x) (.float .f64 y)).run P w=.ok (.float .f64 (minW x y)) w:=by
 unfold Builtin.min2;simp only[pF hx hy];unfold minW;rcases Int.lt_trichotomy (sr x) (sr y)with h|h|h
 . rw[Int.compare_eq_lt.2 h,if_pos h];rfl
 . rw[Int.compare_eq_eq.2 h,if_neg (show¬sr x<sr y by omega),if_neg (show¬sr y<sr x by omega)];rfl
 . rw[Int.compare_eq_gt.2 h,if_neg (show¬sr x<sr y by omega),if_pos h];rfl
theorem uW{P:Program}(hx:num x)(hy:num y)(w:World):(Builtin.max2 (.float .f64 x) (.float .f64 y)).run P w=.ok (.float .f64 (maxW x y)) w:=by
 unfold Builtin.max2;simp only[pF hx hy];unfold maxW;rcases Int.lt_trichotomy (sr x) (sr y)with h|h|h
 . rw[Int.compare_eq_lt.2 h,if_neg (show¬sr y<sr x by omega),if_pos h];rfl
 . rw[Int.compare_eq_eq.2 h,if_neg (show¬sr y<sr x by omega),if_neg (show¬sr x<sr y by omega)];rfl
 . rw[Int.compare_eq_gt.2 h,if_pos h];rfl
theorem uX(hx:num x)(hy:num y):num (minW x y):=by rcases(nG x y).2.2 with h|h<;>rw[h]<;>assumption
theorem uY(hx:num x)(hy:num y):num (maxW x y):=by rcases(nH x y).2.2 with h|h<;>rw[h]<;>assumption
theorem aa7{P:Program}{w:Nat}(hw:num w)(hx:num x)(hy:num y)(hz:num z)(ts:Array TypeId)(t:TypeId)(W:World):
 (Builtin.min_ ts t #[.float .f64 w,.float .f64 x,.float .f64 y,.float .f64 z]).run P W=.ok (.float .f64 (minW (minW (minW w x) y) z)) W:=by
 unfold Builtin.min_;simp only[List.foldlM_cons,List.foldlM_nil,Sem.run_bind,uV hw hx,Result.andThen_ok,uV (uX hw hx) hy,uV (uX (uX hw hx) hy) hz,Sem.run_pure]
theorem aa8{P:Program}{w:Nat}(hw:num w)(hx:num x)(hy:num y)(hz:num z)(ts:Array TypeId)(t:TypeId)(W:World):
 (Builtin.max_ ts t #[.float .f64 w,.float .f64 x,.float .f64 y,.float .f64 z]).run P W=.ok (.float .f64 (maxW (maxW (maxW w x) y) z)) W:=by
 unfold Builtin.max_;simp only[List.foldlM_cons,List.foldlM_nil,Sem.run_bind,uW hw hx,Result.andThen_ok,uW (uY hw hx) hy,uW (uY (uY hw hx) hy) hz,Sem.run_pure]
theorem uZ(w x y z:Nat):y9 (minW (minW (minW w x) y) z) w x y z:=by
 obtain⟨a1,a2,a3⟩:=nG w x;obtain⟨b1,b2,b3⟩:=nG (minW w x) y;obtain⟨c1,c2,c3⟩:=nG (minW (minW w x) y) z;refine⟨by omega,by omega,by omega,by omega,?_⟩;rcases c3 with h|h<;>rw[h]
 . rcases b3 with h|h<;>rw[h]
   . rcases a3 with h|h<;>rw[h]<;>simp
   . simp
 . simp
theorem u6(w x y z:Nat):zA (maxW (maxW (maxW w x) y) z) w x y z:=by
 obtain⟨a1,a2,a3⟩:=nH w x;obtain⟨b1,b2,b3⟩:=nH (maxW w x) y;obtain⟨c1,c2,c3⟩:=nH (maxW (maxW w x) y) z;refine⟨by omega,by omega,by omega,by omega,?_⟩;rcases c3 with h|h<;>rw[h]
 . rcases b3 with h|h<;>rw[h]
   . rcases a3 with h|h<;>rw[h]<;>simp
   . simp
 . simp
theorem af9{v:Nat}(hv:v<18446744073709551616):Calls Tryz.prog 334 #[.float .f64 v] w (RetG w (fun x=>x=Re.ofI (fv v))):=by
 obtain⟨w1,hw1,hb1,hs1,b1⟩:=pro1 w (.cells #[.float .f64 0,.float .f64 0] 270);have HB:=hdd hb1;have B1:=hdd b1;obtain⟨c0,c1,c2,c3⟩:=aB b1;have F1:=hdd (jG (b:=v) (w:=w1) hv);have hst:=aU;by_cases k:fin v
 . rw[decide_eq_true k]at F1
   obtain⟨HFF,hFF⟩:=bJ hb1 nlr b1 (aoH hv);replace hFF:=hdd hFF;clear hb1 b1 k hv;go_enter Tryz.func334,Tryz.ntmps334
   go_wp2_with fail
   refine F1.out.mono ?_;rintro e w2⟨rfl,hw⟩;obtain rfl:=hw;go_wp2;obtain⟨f0,f1,-,-⟩:=aB hFF.out;refine bodyPost_ret (v:=.agg #[_,_]) (by simp[results,Tryz.results334,go_sem,f0,f1];first|exact⟨rfl,rfl⟩|rfl) rfl ?_;exact HFF.out
 . rw[decide_eq_false k]at F1
   clear hb1 b1 k hv;go_enter Tryz.func334,Tryz.ntmps334
   go_wp2_with fail
   refine F1.out.mono ?_;rintro e w2⟨rfl,hw⟩;obtain rfl:=hw;go_wp2_with fail
   refine all_any.mono ?_;rintro e w2⟨rfl,hb⟩;have hb2:=HB.out.trans (hb.mono HB.out.size);have b12:=hbl B1.out hb;have g1:=cbl c1 hb;obtain⟨g0,g1,g2,g3⟩:=aB b12;obtain⟨HFF,hFF⟩:=bJ hb2 nlr b12 (gall (fun x=>x=Re.ofI (fv v)));replace hFF:=hdd hFF;clear hb hb2 b12 c0 c1 c2 c3 hw1;go_wp2;obtain⟨f0,f1,-,-⟩:=aB hFF.out;refine bodyPost_ret (v:=.agg #[_,_]) (by simp[results,Tryz.results334,go_sem,f0,f1];first|exact⟨rfl,rfl⟩|rfl) rfl ?_;exact HFF.out
theorem kV(h:iJ lo hi X):Calls Tryz.prog 357 #[.float .f64 lo,.float .f64 hi] w (RetG w X):=by
 have hg:=af6 h;obtain⟨h1,h2,n1,n2,-⟩:=h;obtain⟨w1,hw1,hb1,hs1,b1⟩:=pro1 w (.cells #[.float .f64 0,.float .f64 0] 270);obtain⟨w2,hw2,hb2,hs2,b2⟩:=pro1 w1 (.cells #[.float .f64 0,.float .f64 0] 270);rw[hs1]at b2;have S1:=hdd (aa6 (w:=w1) h1 n1 false);have S2:=hdd (aa6 (w:=w1) h2 n2 true);simp only[kI,ayC,if_false,if_true]at S1 S2;have hst:=aU;have HG:=hdd hg;generalize stepW lo false=lo' at*;generalize stepW hi true=hi' at*;clear h1 h2 n1 n2;obtain⟨c0,c1,c2,c3⟩:=aB b2;have b3:=set2 b2 (.float .f64 lo') (.float .f64 hi');have e1:((w2.setCell ⟨w.heap.size+1,0,none⟩ (.float .f64 lo')).setCell ⟨w.heap.size+1,1,none⟩ (.float .f64 hi')).heap[w.heap.size]? =some (.cells #[.float .f64 0,.float .f64 0] 270 (0,0)):=by
  rw[ayA _ _ _ _ (by simp),ayA _ _ _ _ (by simp)];exact aC b1 hb2 (by omega)
 have HBS:Hid (Below w.heap.size w ((w2.setCell ⟨w.heap.size+1,0,none⟩ (.float .f64 lo')).setCell ⟨w.heap.size+1,1,none⟩ (.float .f64 hi'))):=hdd (((hb1.trans (hb2.mono hb1.size)).setCell (by simp) _).setCell (by simp) _);have HE1:=hdd e1;have HB3:=hdd b3;clear b3 e1 hb1 hb2 b1 b2 hg;go_enter Tryz.func357,Tryz.ntmps357
 go_wp2_with fail
 refine S1.out.mono ?_;rintro e w3⟨rfl,hw⟩;obtain rfl:=hw;go_wp2_with fail
 refine S2.out.mono ?_;rintro e w3⟨rfl,hw⟩;obtain rfl:=hw;go_wp2_with fail
 refine(kJ HG.out.1 HG.out.2.1).mono ?_;rintro e w3⟨rfl,hb⟩;have HB5:=hdd (HBS.out.trans (hb.mono HBS.out.size));have HE5:=hdd (hbl HE1.out hb);have HB6:=hdd (hbl HB3.out hb);clear hb HE1 HB3 HBS c0 c1 c2 c3 hw1 hw2;by_cases k:bW lo' hi'
 . rw[decide_eq_true k]
   obtain⟨c0,c1,-,-⟩:=aB HB6.out;obtain⟨d0,d1,d2,d3⟩:=aB HE5.out;obtain⟨HFF,hFF⟩:=bJ HB5.out nlr HE5.out HG.out;replace hFF:=hdd hFF;clear k;go_wp2;obtain⟨f0,f1,-,-⟩:=aB hFF.out;refine bodyPost_ret (v:=.agg #[_,_]) (by simp[results,Tryz.results357,go_sem,f0,f1];first|exact⟨rfl,rfl⟩|rfl) rfl ?_;exact HFF.out
 . rw[decide_eq_false k]
   clear k;go_wp2_with fail
   refine all_any.mono ?_;rintro e w4⟨rfl,hb⟩;have b12:=hbl HE5.out hb;obtain⟨d0,d1,d2,d3⟩:=aB b12;obtain⟨HFF,hFF⟩:=bJ (HB5.out.trans (hb.mono HB5.out.size)) nlr b12 (gall X);replace hFF:=hdd hFF;clear hb b12;go_wp2;obtain⟨f0,f1,-,-⟩:=aB hFF.out;refine bodyPost_ret (v:=.agg #[_,_]) (by simp[results,Tryz.results357,go_sem,f0,f1];first|exact⟨rfl,rfl⟩|rfl) rfl ?_;exact HFF.out
theorem lS(h1:a<18446744073709551616)(h2:b<18446744073709551616)(h3:c<18446744073709551616)(h4:d<18446744073709551616):
 Calls Tryz.prog 356 #[gv a b,gv c d] w (RetW w (!(decide (bW a b)&&decide (bW c d)))):=by
 obtain⟨w2,hw2,hb2,hs2,b1,b2⟩:=pro2 w (.cells #[.float .f64 a,.float .f64 b] 270) (.cells #[.float .f64 c,.float .f64 d] 270);obtain⟨c0,c1,-,-⟩:=aB b1;obtain⟨d0,d1,-,-⟩:=aB b2;have HB:=hdd hb2;have K1:=hdd (kJ (w:=w2) h1 h2);have K2:Hid (∀w3,Calls Tryz.prog 261 #[gv c d] w3 (RetW w3 (decide (bW c d)))):=hdd fun w3=>kJ h3 h4;clear hb2 b1 b2 hs2 h1 h2 h3 h4;unfold gv at*;generalize decide (bW a b)=r1 at*;generalize decide (bW c d)=r2 at*
 cases r1
 . go_enter Tryz.func356,Tryz.ntmps356
   go_wp2_with fail
   refine K1.out.mono ?_;rintro e w3⟨rfl,hb⟩;have HF:Hid (RetW w true (.returned (.bool true)) w3):=hdd ⟨rfl,HB.out.trans (hb.mono HB.out.size)⟩;clear hb hw2;go_wp2;go_ret;exact HF.out
 . go_enter Tryz.func356,Tryz.ntmps356
   go_wp2_with fail
   refine K1.out.mono ?_;rintro e w3⟨rfl,hb⟩;replace HB:=hdd (HB.out.trans (hb.mono HB.out.size));replace d0:=cbl d0 hb;replace d1:=cbl d1 hb;clear hb hw2 c0 c1;go_wp2_with fail
   refine(K2.out w3).mono ?_;rintro e w4⟨rfl,hb⟩
   cases r2
   . have HF:Hid (RetW w true (.returned (.bool true)) w4):=hdd ⟨rfl,HB.out.trans (hb.mono HB.out.size)⟩
     clear hb;go_wp2;go_ret;exact HF.out
   . have HF:Hid (RetW w false (.returned (.bool false)) w4):=hdd ⟨rfl,HB.out.trans (hb.mono HB.out.size)⟩
     clear hb;go_wp2;go_ret;exact HF.out
theorem aa9(h1:GapS a b X)(h2:GapS c d Y)(hZ:AddD X Y Z):
 Calls Tryz.prog 335 #[gv a b,gv c d] w (RetG w Z):=by
 obtain⟨w3,hw3,hb3,hs3,b1,b2,b3⟩:=pro3 w (.cells #[.float .f64 a,.float .f64 b] 270) (.cells #[.float .f64 c,.float .f64 d] 270) (.cells #[.float .f64 0,.float .f64 0] 270);have HB:=hdd hb3;have B1:=hdd b1;have B2:=hdd b2;have B3:=hdd b3;have HS:=hdd hs3;obtain⟨c0,c1,-,-⟩:=aB b1;obtain⟨d0,d1,-,-⟩:=aB b2;have hst:=aU;have HU:=hdd (lS (w:=w3) h1.1 h1.2.1 h2.1 h2.2.1);have H1:=hdd h1;have H2:=hdd h2;have HZ:=hdd hZ;clear hb3 b1 b2 b3 hs3 h1 h2 hZ;unfold gv at*;by_cases k:bW a b/\bW c d
 . rw[decide_eq_true k.1,decide_eq_true k.2]at HU
   obtain⟨r,hr,br,nr⟩:=aaZ k.1.1 k.2.1;obtain⟨s,hs,bs,ns⟩:=aaZ k.1.2.1 k.2.2.1;have HA:=hdd (adJ (H1.out.2.2 k.1) (H2.out.2.2 k.2) br bs nr ns HZ.out);have ha:∀t w,(binOp .add t (.float .f64 a) (.float .f64 c)).run Tryz.prog w=.ok (.float .f64 r) w:=fun t w=>run_float_arith w .add t .f64 a c r hr;have hb:∀t w,(binOp .add t (.float .f64 b) (.float .f64 d)).run Tryz.prog w=.ok (.float .f64 s) w:=fun t w=>run_float_arith w .add t .f64 b d s hs;clear k hr br nr hs bs ns;go_enter Tryz.func335,Tryz.ntmps335
   go_wp2_with fail
   refine HU.out.mono ?_;rintro e w4⟨rfl,hb4⟩;replace HB:=hdd (HB.out.trans (hb4.mono HB.out.size));replace B3:=hdd (hbl B3.out hb4);replace c0:=cbl c0 hb4;replace c1:=cbl c1 hb4;replace d0:=cbl d0 hb4;replace d1:=cbl d1 hb4;clear hb4 hw3 B1 B2;go_wp2_with (simp only[ha,hb])
   refine(kV HA.out).mono ?_;rintro e w5⟨hb5,lo,hi,rfl,hg⟩;have b3:=hbl B3.out hb5;obtain⟨e0,e1,e2,e3⟩:=aB b3;obtain⟨HFF,hFF⟩:=bJ (HB.out.trans (hb5.mono HB.out.size)) (by omega) b3 hg;replace hFF:=hdd hFF;clear hb5 b3 hg c0 c1 d0 d1;unfold gv;go_wp2;obtain⟨f0,f1,-,-⟩:=aB hFF.out;refine bodyPost_ret (v:=.agg #[_,_]) (by simp[results,Tryz.results335,go_sem,f0,f1];first|exact⟨rfl,rfl⟩|rfl) rfl ?_;exact HFF.out
 . have hk:(!(decide (bW a b)&&decide (bW c d)))=true:=by
    rw[<-ayD,decide_eq_false k];rfl
   rw[hk]at HU;clear hk k;go_enter Tryz.func335,Tryz.ntmps335
   go_wp2_with fail
   refine HU.out.mono ?_;rintro e w4⟨rfl,hb4⟩;replace HB:=hdd (HB.out.trans (hb4.mono HB.out.size));replace B3:=hdd (hbl B3.out hb4);clear hb4 hw3 B1 B2 c0 c1 d0 d1;go_wp2_with fail
   refine all_any.mono ?_;rintro e w5⟨rfl,hb5⟩;have b3:=hbl B3.out hb5;obtain⟨e0,e1,e2,e3⟩:=aB b3;obtain⟨HFF,hFF⟩:=bJ (HB.out.trans (hb5.mono HB.out.size)) (by omega) b3 (gall Z);replace hFF:=hdd hFF;clear hb5 b3;go_wp2;obtain⟨f0,f1,-,-⟩:=aB hFF.out;refine bodyPost_ret (v:=.agg #[_,_]) (by simp[results,Tryz.results335,go_sem,f0,f1];first|exact⟨rfl,rfl⟩|rfl) rfl ?_;exact HFF.out
theorem ajE(h1:GapS a b X)(h2:GapS c d Y)(hZ:MulD X Y Z):
 Calls Tryz.prog 336 #[gv a b,gv c d] w (RetG w Z):=by
 obtain⟨w3,hw3,hb3,hs3,b1,b2,b3⟩:=pro3 w (.cells #[.float .f64 a,.float .f64 b] 270) (.cells #[.float .f64 c,.float .f64 d] 270) (.cells #[.float .f64 0,.float .f64 0] 270);have HB:=hdd hb3;have B1:=hdd b1;have B2:=hdd b2;have B3:=hdd b3;have HS:=hdd hs3;obtain⟨c0,c1,-,-⟩:=aB b1;obtain⟨d0,d1,-,-⟩:=aB b2;have hst:=aU;have HU:=hdd (lS (w:=w3) h1.1 h1.2.1 h2.1 h2.2.1);have H1:=hdd h1;have H2:=hdd h2;have HZ:=hdd hZ;clear hb3 b1 b2 b3 hs3 h1 h2 hZ;unfold gv at*;by_cases k:bW a b/\bW c d
 . rw[decide_eq_true k.1,decide_eq_true k.2]at HU
   obtain⟨r1,hr1,br1,nr1⟩:=o9 k.1.1 k.2.1;obtain⟨r2,hr2,br2,nr2⟩:=o9 k.1.1 k.2.2.1;obtain⟨r3,hr3,br3,nr3⟩:=o9 k.1.2.1 k.2.1;obtain⟨r4,hr4,br4,nr4⟩:=o9 k.1.2.1 k.2.2.1;have HA:=hdd (adK (H1.out.2.2 k.1) (H2.out.2.2 k.2) br1 br2 br3 br4 nr1 nr2 nr3 nr4 (uZ r1 r2 r3 r4) (u6 r1 r2 r3 r4) HZ.out);have m1:∀t w,(binOp .mul t (.float .f64 a) (.float .f64 c)).run Tryz.prog w=.ok (.float .f64 r1) w:=fun t w=>run_float_arith w .mul t .f64 a c r1 hr1;have m2:∀t w,(binOp .mul t (.float .f64 a) (.float .f64 d)).run Tryz.prog w=.ok (.float .f64 r2) w:=fun t w=>run_float_arith w .mul t .f64 a d r2 hr2;have m3:∀t w,(binOp .mul t (.float .f64 b) (.float .f64 c)).run Tryz.prog w=.ok (.float .f64 r3) w:=fun t w=>run_float_arith w .mul t .f64 b c r3 hr3;have m4:∀t w,(binOp .mul t (.float .f64 b) (.float .f64 d)).run Tryz.prog w=.ok (.float .f64 r4) w:=fun t w=>run_float_arith w .mul t .f64 b d r4 hr4;have hmin:=fun ts t W=>aa7 (P:=Tryz.prog) nr1.1 nr2.1 nr3.1 nr4.1 ts t W
   have hmax:=fun ts t W=>aa8 (P:=Tryz.prog) nr1.1 nr2.1 nr3.1 nr4.1 ts t W;clear k hr1 br1 nr1 hr2 br2 nr2 hr3 br3 nr3 hr4 br4 nr4;generalize minW (minW (minW r1 r2) r3) r4=mi at*;generalize maxW (maxW (maxW r1 r2) r3) r4=ma at*;go_enter Tryz.func336,Tryz.ntmps336
   go_wp2_with fail
   refine HU.out.mono ?_;rintro e w4⟨rfl,hb4⟩;replace HB:=hdd (HB.out.trans (hb4.mono HB.out.size));replace B3:=hdd (hbl B3.out hb4);replace c0:=cbl c0 hb4;replace c1:=cbl c1 hb4;replace d0:=cbl d0 hb4;replace d1:=cbl d1 hb4;clear hb4 hw3 B1 B2;go_wp2_with fail
   go_quiet (simp only[m1,m2,m3,m4])
   replace HB:=hdd (HB.out.trans ((below_drewN w4 nq).mono HB.out.size));replace B3:=hdd (aC B3.out (below_drewN w4 nq) (aD B3.out));go_wp2_with (simp only[hmin,hmax])
   refine(kV HA.out).mono ?_;rintro e w5⟨hb5,lo,hi,rfl,hg⟩;have b3:=hbl B3.out hb5;obtain⟨e0,e1,e2,e3⟩:=aB b3;obtain⟨HFF,hFF⟩:=bJ (HB.out.trans (hb5.mono HB.out.size)) (by omega) b3 hg;replace hFF:=hdd hFF;clear hb5 b3 hg c0 c1 d0 d1;unfold gv;go_wp2;obtain⟨f0,f1,-,-⟩:=aB hFF.out;refine bodyPost_ret (v:=.agg #[_,_]) (by simp[results,Tryz.results336,go_sem,f0,f1];first|exact⟨rfl,rfl⟩|rfl) rfl ?_;exact HFF.out
 . have hk:(!(decide (bW a b)&&decide (bW c d)))=true:=by
    rw[<-ayD,decide_eq_false k];rfl
   rw[hk]at HU;clear hk k;go_enter Tryz.func336,Tryz.ntmps336
   go_wp2_with fail
   refine HU.out.mono ?_;rintro e w4⟨rfl,hb4⟩;replace HB:=hdd (HB.out.trans (hb4.mono HB.out.size));replace B3:=hdd (hbl B3.out hb4);clear hb4 hw3 B1 B2 c0 c1 d0 d1;go_wp2_with fail
   refine all_any.mono ?_;rintro e w5⟨rfl,hb5⟩;have b3:=hbl B3.out hb5;obtain⟨e0,e1,e2,e3⟩:=aB b3;obtain⟨HFF,hFF⟩:=bJ (HB.out.trans (hb5.mono HB.out.size)) (by omega) b3 (gall Z);replace hFF:=hdd hFF;clear hb5 b3;go_wp2;obtain⟨f0,f1,-,-⟩:=aB hFF.out;refine bodyPost_ret (v:=.agg #[_,_]) (by simp[results,Tryz.results336,go_sem,f0,f1];first|exact⟨rfl,rfl⟩|rfl) rfl ?_;exact HFF.out
theorem aoI(hb:num b)(hc:num c):(FloatKind.f64.format.order b c==some Ordering.gt||FloatKind.f64.format.order b c==some Ordering.eq)=decide (sr c<=sr b):=by
 rw[uU hb hc,qU hb hc,<-Bool.decide_or];exact decide_eq_decide.2 (by omega)
theorem ajF(h1:GapS a b X)(h2:GapS c d Y)(hZ:QuoD X Y Z):
 Calls Tryz.prog 337 #[gv a b,gv c d] w (RetG w Z):=by
 obtain⟨w3,hw3,hb3,hs3,b1,b2,b3⟩:=pro3 w (.cells #[.float .f64 a,.float .f64 b] 270) (.cells #[.float .f64 c,.float .f64 d] 270) (.cells #[.float .f64 0,.float .f64 0] 270);have HB:=hdd hb3;have B1:=hdd b1;have B2:=hdd b2;have B3:=hdd b3;have HS:=hdd hs3;obtain⟨c0,c1,-,-⟩:=aB b1;obtain⟨d0,d1,-,-⟩:=aB b2;have hst:=aU;have HU:=hdd (lS (w:=w3) h1.1 h1.2.1 h2.1 h2.2.1);have H1:=hdd h1;have H2:=hdd h2;have HZ:=hdd hZ;clear hb3 b1 b2 b3 hs3 h1 h2 hZ;unfold gv at*;by_cases k:bW a b/\bW c d
 . rw[decide_eq_true k.1,decide_eq_true k.2]at HU
   have hle:=ajB k.2.1.num num0;have hge:=aoI k.2.2.1.num num0;rw[sr0]at hle hge;by_cases q:0<sr c\/sr d<0
   . have hs:0<fv c\/fv d<0:=by
      rcases q with q|q
      . left;have:=kC q;rw[dL]at this;exact this
      . right;have:=kC q;rw[dL]at this;exact this
     have z0:fv c≠0/\fv d≠0:=by
      have:=lN k.2.2.2;change fv c<=fv d at this;omega
     have re0:∀{i:Int},i≠0->Re.ofI i≠0:=fun hi h=>hi (amA (by rw[h,Re.ofI_zero]));obtain⟨V1,e1⟩:=tF (Re.ofI (fv a)*Re.ofN U74) (re0 z0.1);obtain⟨V2,e2⟩:=tF (Re.ofI (fv a)*Re.ofN U74) (re0 z0.2);obtain⟨V3,e3⟩:=tF (Re.ofI (fv b)*Re.ofN U74) (re0 z0.1);obtain⟨V4,e4⟩:=tF (Re.ofI (fv b)*Re.ofN U74) (re0 z0.2);obtain⟨r1,hr1,br1,nr1⟩:=pE iW k.1.1 k.2.1 z0.1 e1;obtain⟨r2,hr2,br2,nr2⟩:=pE iW k.1.1 k.2.2.1 z0.2 e2;obtain⟨r3,hr3,br3,nr3⟩:=pE iW k.1.2.1 k.2.1 z0.1 e3;obtain⟨r4,hr4,br4,nr4⟩:=pE iW k.1.2.1 k.2.2.1 z0.2 e4;have HA:=hdd (adL (H1.out.2.2 k.1) (H2.out.2.2 k.2) hs br1 br2 br3 br4 nr1 nr2 nr3 nr4 e1 e2 e3 e4 (uZ r1 r2 r3 r4) (u6 r1 r2 r3 r4) HZ.out);have hq:(decide (sr c<=0)=false)\/(decide (sr c<=0)=true/\decide (0<=sr d)=false):=by
      by_cases h:sr c<=0
      . right;exact⟨decide_eq_true h,decide_eq_false (by omega)⟩
      . left;exact decide_eq_false h
     clear z0 re0 e1 e2 e3 e4 hs q;have m1:∀t w,(binOp .quo t (.float .f64 a) (.float .f64 c)).run Tryz.prog w=.ok (.float .f64 r1) w:=fun t w=>run_float_arith w .quo t .f64 a c r1 hr1;have m2:∀t w,(binOp .quo t (.float .f64 a) (.float .f64 d)).run Tryz.prog w=.ok (.float .f64 r2) w:=fun t w=>run_float_arith w .quo t .f64 a d r2 hr2;have m3:∀t w,(binOp .quo t (.float .f64 b) (.float .f64 c)).run Tryz.prog w=.ok (.float .f64 r3) w:=fun t w=>run_float_arith w .quo t .f64 b c r3 hr3;have m4:∀t w,(binOp .quo t (.float .f64 b) (.float .f64 d)).run Tryz.prog w=.ok (.float .f64 r4) w:=fun t w=>run_float_arith w .quo t .f64 b d r4 hr4;have hmin:=fun ts t W=>aa7 (P:=Tryz.prog) nr1.1 nr2.1 nr3.1 nr4.1 ts t W;have hmax:=fun ts t W=>aa8 (P:=Tryz.prog) nr1.1 nr2.1 nr3.1 nr4.1 ts t W;clear k hr1 br1 nr1 hr2 br2 nr2 hr3 br3 nr3 hr4 br4 nr4;generalize minW (minW (minW r1 r2) r3) r4=mi at*;generalize maxW (maxW (maxW r1 r2) r3) r4=ma at*;generalize decide (sr c<=0)=p1 at*;generalize decide (0<=sr d)=p2 at*
     rcases hq with rfl|⟨rfl,rfl⟩
     all_goals
      go_enter Tryz.func337,Tryz.ntmps337
      go_wp2_with fail
      refine HU.out.mono ?_;rintro e w4⟨rfl,hb4⟩;replace HB:=hdd (HB.out.trans (hb4.mono HB.out.size));replace B3:=hdd (hbl B3.out hb4);replace c0:=cbl c0 hb4;replace c1:=cbl c1 hb4;replace d0:=cbl d0 hb4;replace d1:=cbl d1 hb4;clear hb4 hw3 B1 B2;go_wp2_with fail
      go_quiet (simp only[m1,m2,m3,m4])
      replace HB:=hdd (HB.out.trans ((below_drewN w4 nq).mono HB.out.size));replace B3:=hdd (aC B3.out (below_drewN w4 nq) (aD B3.out));go_wp2_with (simp only[hmin,hmax])
      refine(kV HA.out).mono ?_;rintro e w5⟨hb5,lo,hi,rfl,hg⟩;have b3:=hbl B3.out hb5;obtain⟨e0,e1,e2,e3⟩:=aB b3;obtain⟨HFF,hFF⟩:=bJ (HB.out.trans (hb5.mono HB.out.size)) (by omega) b3 hg;replace hFF:=hdd hFF;clear hb5 b3 hg c0 c1 d0 d1;unfold gv;go_wp2;obtain⟨f0,f1,-,-⟩:=aB hFF.out;refine bodyPost_ret (v:=.agg #[_,_]) (by simp[results,Tryz.results337,go_sem,f0,f1];first|exact⟨rfl,rfl⟩|rfl) rfl ?_;exact HFF.out
   . rw[decide_eq_true (show sr c<=0 by omega)]at hle
     rw[decide_eq_true (show 0<=sr d by omega)]at hge;clear k q;go_enter Tryz.func337,Tryz.ntmps337
     go_wp2_with fail
     refine HU.out.mono ?_;rintro e w4⟨rfl,hb4⟩;replace HB:=hdd (HB.out.trans (hb4.mono HB.out.size));replace B3:=hdd (hbl B3.out hb4);replace d0:=cbl d0 hb4;replace d1:=cbl d1 hb4;clear hb4 hw3 B1 B2 c0 c1;go_wp2_with fail
     refine all_any.mono ?_;rintro e w5⟨rfl,hb5⟩;have b3:=hbl B3.out hb5;obtain⟨e0,e1,e2,e3⟩:=aB b3;obtain⟨HFF,hFF⟩:=bJ (HB.out.trans (hb5.mono HB.out.size)) (by omega) b3 (gall Z);replace hFF:=hdd hFF;clear hb5 b3;go_wp2;obtain⟨f0,f1,-,-⟩:=aB hFF.out;refine bodyPost_ret (v:=.agg #[_,_]) (by simp[results,Tryz.results337,go_sem,f0,f1];first|exact⟨rfl,rfl⟩|rfl) rfl ?_;exact HFF.out
 . have hk:(!(decide (bW a b)&&decide (bW c d)))=true:=by
    rw[<-ayD,decide_eq_false k];rfl
   rw[hk]at HU;clear hk k;go_enter Tryz.func337,Tryz.ntmps337
   go_wp2_with fail
   refine HU.out.mono ?_;rintro e w4⟨rfl,hb4⟩;replace HB:=hdd (HB.out.trans (hb4.mono HB.out.size));replace B3:=hdd (hbl B3.out hb4);clear hb4 hw3 B1 B2 c0 c1 d0 d1;go_wp2_with fail
   refine all_any.mono ?_;rintro e w5⟨rfl,hb5⟩;have b3:=hbl B3.out hb5;obtain⟨e0,e1,e2,e3⟩:=aB b3;obtain⟨HFF,hFF⟩:=bJ (HB.out.trans (hb5.mono HB.out.size)) (by omega) b3 (gall Z);replace hFF:=hdd hFF;clear hb5 b3;go_wp2;obtain⟨f0,f1,-,-⟩:=aB hFF.out;refine bodyPost_ret (v:=.agg #[_,_]) (by simp[results,Tryz.results337,go_sem,f0,f1];first|exact⟨rfl,rfl⟩|rfl) rfl ?_;exact HFF.out
theorem agA(x:Nat):ayB #[.float .f64 x]=(Option.rec (motive:=fun _=>Sem Value) (do pure (Value.float .f64 (<-choose (.nanBits .f64 x x)))) (fun r=>pure (Value.float .f64 r)) (FloatKind.f64.format.sqrt x)):=by kernel_rfl
theorem ajG(h:FloatKind.f64.format.sqrt x=some r):ayB #[.float .f64 x]=pure (.float .f64 r):=by
 rw[agA,h]
theorem ajH(h:FloatKind.f64.format.sqrt x=some r)(w:World):
 (callFunc 365 #[.float .f64 x]).run Tryz.prog w=.ok (.value (.float .f64 r)) w:=by
 rw[run_callFunc_extern Tryz.func365 (by kernel_rfl) (by kernel_rfl) (by kernel_rfl) (e:=ayB) (by kernel_rfl)];rw[ajG h];rfl
theorem pI(h:FloatKind.f64.format.sqrt x=some r):Calls Tryz.prog 358 #[.float .f64 x] w (RetF w r):=by
 have hs:=ajH h;clear h;go_enter Tryz.func358,Tryz.ntmps358
 go_wp2;go_ret;exact⟨rfl,rfl⟩
theorem aeT(n:Int)(h:0<=n):∃V:Re,0<=V/\V*V=Re.ofI n*Re.ofN U74:=by
 have h0:(0:Re)<=Re.ofI n*Re.ofN U74:=by
  refine Re.mul_nonneg ?_ (Re.le_of_lt lQ);rw[<-Re.ofI_zero];exact Re.ofI_le.2 h
 obtain⟨V,h1,h2⟩:=Re.exists_sqrt h0;exact⟨V,h1,h2⟩
theorem agB(h1:GapS a b X)(hZ:ai7 X Z):
 Calls Tryz.prog 338 #[gv a b] w (RetG w Z):=by
 obtain⟨w3,hw3,hb3,hs3,b1,b2⟩:=pro2 w (.cells #[.float .f64 a,.float .f64 b] 270) (.cells #[.float .f64 0,.float .f64 0] 270);have HB:=hdd hb3;have B1:=hdd b1;have B2:=hdd b2;have HS:=hdd hs3;obtain⟨c0,c1,-,-⟩:=aB b1;have hst:=aU;have HK:=hdd (kJ (w:=w3) h1.1 h1.2.1);have H1:=hdd h1;have HZ:=hdd hZ;clear hb3 b1 b2 hs3 h1 hZ;unfold gv at*;by_cases k:bW a b
 . rw[decide_eq_true k]at HK
   have hlt:=adM k.1.num num0;rw[sr0]at hlt;by_cases q:sr a<0
   . rw[decide_eq_true q]at hlt
     clear k q;go_enter Tryz.func338,Tryz.ntmps338
     go_wp2_with fail
     refine HK.out.mono ?_;rintro e w4⟨rfl,hb4⟩;replace HB:=hdd (HB.out.trans (hb4.mono HB.out.size));replace B2:=hdd (hbl B2.out hb4);replace c0:=cbl c0 hb4;replace c1:=cbl c1 hb4;clear hb4 hw3 B1;go_wp2_with fail
     refine all_any.mono ?_;rintro e w5⟨rfl,hb5⟩;have b3:=hbl B2.out hb5;obtain⟨e0,e1,e2,e3⟩:=aB b3;obtain⟨HFF,hFF⟩:=bJ (HB.out.trans (hb5.mono HB.out.size)) (by omega) b3 (gall Z);replace hFF:=hdd hFF;clear hb5 b3 c0 c1;go_wp2;obtain⟨f0,f1,-,-⟩:=aB hFF.out;refine bodyPost_ret (v:=.agg #[_,_]) (by simp[results,Tryz.results338,go_sem,f0,f1];first|exact⟨rfl,rfl⟩|rfl) rfl ?_;exact HFF.out
   . rw[decide_eq_false q]at hlt
     have q1:0<=fv a:=by have:=lN (show 0<=sr a by omega);rw[dL]at this;exact this
     have q2:0<=fv b:=by have:=lN (show 0<=sr b by have:=k.2.2;omega);rw[dL]at this;exact this
     obtain⟨V,v0,hV⟩:=aeT _ q1;obtain⟨W,w0,hW⟩:=aeT _ q2;obtain⟨r,hr,br,nr⟩:=xO iW k.1 q1 v0 hV;obtain⟨s,hs,bs,ns⟩:=xO iW k.2.1 q2 w0 hW;have HA:=hdd (aa4 (H1.out.2.2 k) br bs nr ns w0 hV hW HZ.out);have HSA:Hid (∀w',Calls Tryz.prog 358 #[.float .f64 a] w' (RetF w' r)):=hdd fun w'=>pI hr;have HSB:Hid (∀w',Calls Tryz.prog 358 #[.float .f64 b] w' (RetF w' s)):=hdd fun w'=>pI hs;have HAR:Hid (∀w',Calls Tryz.prog 357 #[.float .f64 r,.float .f64 s] w' (RetG w' Z)):=hdd fun w'=>kV HA.out;clear k q q1 q2 hr br nr hs bs ns v0 hV w0 hW;go_enter Tryz.func338,Tryz.ntmps338
     go_wp2_with fail
     refine HK.out.mono ?_;rintro e w4⟨rfl,hb4⟩;replace HB:=hdd (HB.out.trans (hb4.mono HB.out.size));replace B2:=hdd (hbl B2.out hb4);replace c0:=cbl c0 hb4;replace c1:=cbl c1 hb4;clear hb4 hw3 B1;go_wp2_with fail
     have hdr:Below w4.heap.size w4 w4.drew:=(Below.refl _ _).drew;replace c0:=cbl c0 hdr;replace c1:=cbl c1 hdr;replace B2:=hdd (hbl B2.out hdr);replace HB:=hdd (HB.out.trans (hdr.mono HB.out.size));have HLE:=hdd (Nat.le_succ w.heap.size);clear hdr
     go_region_held3 (fun w'=>w'.cell? ⟨w.heap.size,0,none⟩=some (.float .f64 a)/\w'.cell? ⟨w.heap.size,1,none⟩=some (.float .f64 b)) (go_keep)
      (first
      |(go_at_call 358
        with_reducible refine(HSA.out _).mono ?_
        rintro e w5⟨rfl,hw⟩;obtain rfl:=hw)
      |(go_at_call 358
        with_reducible refine(HSB.out _).mono ?_
        rintro e w5⟨rfl,hw⟩;obtain rfl:=hw)
      |(go_at_call 357
        with_reducible refine(HAR.out _).mono ?_
        rintro e w5⟨hb5,lo,hi,rfl,hg⟩;have c0:=cbl c0 hb5;have c1:=cbl c1 hb5;have b3:=hbl B2.out hb5;obtain⟨e0,e1,e2,e3⟩:=aB b3;have HST:=hdd (bJ (HB.out.trans (hb5.mono HB.out.size)) HLE.out b3 hg);clear hb5 b3 hg;unfold gv))
     all_goals
      obtain⟨HFF,hFF⟩:=HST.out;replace hFF:=hdd hFF;go_wp2;obtain⟨f0,f1,-,-⟩:=aB hFF.out;refine bodyPost_ret (v:=.agg #[_,_]) (by simp[results,Tryz.results338,go_sem,f0,f1];first|exact⟨rfl,rfl⟩|rfl) rfl ?_;exact HFF.out
 . rw[decide_eq_false k]at HK
   clear k;go_enter Tryz.func338,Tryz.ntmps338
   go_wp2_with fail
   refine HK.out.mono ?_;rintro e w4⟨rfl,hb4⟩;replace HB:=hdd (HB.out.trans (hb4.mono HB.out.size));replace B2:=hdd (hbl B2.out hb4);clear hb4 hw3 B1 c0 c1;go_wp2_with fail
   refine all_any.mono ?_;rintro e w5⟨rfl,hb5⟩;have b3:=hbl B2.out hb5;obtain⟨e0,e1,e2,e3⟩:=aB b3;obtain⟨HFF,hFF⟩:=bJ (HB.out.trans (hb5.mono HB.out.size)) (by omega) b3 (gall Z);replace hFF:=hdd hFF;clear hb5 b3;go_wp2;obtain⟨f0,f1,-,-⟩:=aB hFF.out;refine bodyPost_ret (v:=.agg #[_,_]) (by simp[results,Tryz.results338,go_sem,f0,f1];first|exact⟨rfl,rfl⟩|rfl) rfl ?_;exact HFF.out
structure Nd where
 kind:Int
 val:Nat
 a:Int
 b:Int
deriving DecidableEq
def iL(n:Nd):Value:=.agg #[.int .i64 n.kind,.float .f64 n.val,.int .i64 n.a,.int .i64 n.b]
def pJ(n:Nd)(X Y Z:Re->Prop):Prop:=
 (n.kind=0/\∀z,Z z->z=Re.ofI (fv n.val))\/(n.kind=1/\AddD X Y Z)\/(n.kind=2/\SubD X Y Z)\/(n.kind=3/\MulD X Y Z)\/(n.kind=4/\QuoD X Y Z)\/(n.kind=5/\ai7 X Z)
theorem ajI(hb:b<2^64):fv (b ^^^ 2^63)=-fv b:=by
 unfold fv;rw[(pG hb).2.2,yZ]
theorem amG(h:GapS lo hi X):GapS (hi ^^^ 2^63) (lo ^^^ 2^63) (fun x=>X (-x)):=by
 obtain⟨h1,h2,h3⟩:=h;obtain⟨a1,a2,a3⟩:=pG h1;obtain⟨b1,b2,b3⟩:=pG h2;refine⟨b1,a1,fun k x hx=> ?_⟩;rw[ajI h1,ajI h2,Re.ofI_neg,Re.ofI_neg];obtain⟨k1,k2,k3⟩:=k;obtain⟨q1,q2⟩:=h3 ⟨by unfold fin at*;rw[<-a2];exact k2,by unfold fin at*;rw[<-b2];exact k1,by rw[a3,b3]at k3;omega⟩ (-x) hx;constructor
 . have:=Re.neg_le_neg q2;rwa[Re.neg_neg]at this
 . have:=Re.neg_le_neg q1;rwa[Re.neg_neg]at this
theorem GapS.mono (h:GapS lo hi X)(k:∀x,Y x->X x):GapS lo hi Y:=⟨h.1,h.2.1,fun hk x hx=>h.2.2 hk x (k x hx)⟩
theorem bP{a b c d:Value}(h:w.heap[g]? =some (.cells #[a,b,c,d] T (0,0))):
 w.cell? ⟨g,0,none⟩=some a/\w.cell? ⟨g,1,none⟩=some b/\w.cell? ⟨g,2,none⟩=some c/\w.cell? ⟨g,3,none⟩=some d:=by
 refine⟨?_,?_,?_,?_⟩<;>simp[World.cell?,h]
theorem pro4(w:World)(o1 o2 o3 o4:Obj):∃w4,(((w.alloc o1).alloc o2).alloc o3).alloc o4=w4/\Below w.heap.size w w4/\w4.heap.size=w.heap.size+4/\w4.heap[w.heap.size]? =some o1/\w4.heap[w.heap.size+1]? =some o2/\w4.heap[w.heap.size+2]? =some o3/\w4.heap[w.heap.size+3]? =some o4:=by
 obtain⟨w3,rfl,hb,hs,h1,h2,h3⟩:=pro3 w o1 o2 o3;refine⟨_,rfl,hb.alloc (by omega) _,by simp,?_,?_,?_,?_⟩
 . exact aC h1 (aN _ o4) (by omega)
 . exact aC h2 (aN _ o4) (by omega)
 . exact aC h3 (aN _ o4) (by omega)
 . have:=heap_alloc_new (((w.alloc o1).alloc o2).alloc o3) o4;simpa using this
theorem zD{n:Nd}(hn:n.val<18446744073709551616)(h1:GapS a b X)(h2:GapS c d Y)(hZ:pJ n X Y Z):
 Calls Tryz.prog 302 #[iL n,gv a b,gv c d] w (RetG w Z):=by
 obtain⟨kind,val,na,nb⟩:=n;simp only[pJ]at hZ hn;unfold iL;obtain⟨w4,hw4,hb4,hs4,b1,b2,b3,b4⟩:=pro4 w (.cells #[.int .i64 kind,.float .f64 val,.int .i64 na,.int .i64 nb] 206) (.cells #[.float .f64 a,.float .f64 b] 270) (.cells #[.float .f64 c,.float .f64 d] 270) (.cells #[.float .f64 0,.float .f64 0] 270);have HB:=hdd hb4;have B1:=hdd b1;have B2:=hdd b2;have B3:=hdd b3;have B4:=hdd b4;have HS:=hdd hs4;obtain⟨k0,k1,k2,k3⟩:=bP b1;obtain⟨c0,c1,-,-⟩:=aB b2;obtain⟨d0,d1,d2,d3⟩:=aB b3;obtain⟨e0,e1,e2,e3⟩:=aB b4;have hst:=aU;have H1:=hdd h1;have H2:=hdd h2;have fin4:∀(w5:World),Below w4.heap.size w4 w5->∀(lo hi:Nat),GapS lo hi Z->Hid (RetG w Z (.returned (.agg #[.float .f64 lo,.float .f64 hi])) ((w5.setCell ⟨w.heap.size+3,0,none⟩ (.float .f64 lo)).setCell ⟨w.heap.size+3,1,none⟩ (.float .f64 hi)))/\
  ((w5.setCell ⟨w.heap.size+3,0,none⟩ (.float .f64 lo)).setCell ⟨w.heap.size+3,1,none⟩ (.float .f64 hi)).heap[w.heap.size+3]? =some (.cells #[.float .f64 lo,.float .f64 hi] 270 (0,0))/\
  (w5.cell? ⟨w.heap.size+3,0,none⟩=some (.float .f64 0)/\w5.cell? ⟨w.heap.size+3,1,none⟩=some (.float .f64 0)/\w5.frozen? ⟨w.heap.size+3,0,none⟩=false/\w5.frozen? ⟨w.heap.size+3,1,none⟩=false):=by
  intro w5 h5 lo hi hg;have b45:=hbl B4.out h5;obtain⟨r1,r2⟩:=bJ (HB.out.trans (h5.mono HB.out.size)) (by omega) b45 hg;exact⟨r1,r2,aB b45⟩
 have FIN:=hdd fin4;clear fin4 hb4 b1 b2 b3 b4 hs4 h1 h2;unfold gv at*;rcases hZ with ⟨rfl,hZ⟩|⟨rfl,hZ⟩|⟨rfl,hZ⟩|⟨rfl,hZ⟩|⟨rfl,hZ⟩|⟨rfl,hZ⟩
 . have HC:Hid (Calls Tryz.prog 334 #[.float .f64 val] w4 (RetG w4 Z)):=hdd ((af9 (w:=w4) hn).mono fun e w' h=>by
    obtain⟨q1,lo,hi,q2,q3⟩:=h;exact⟨q1,lo,hi,q2,q3.mono hZ⟩)
   clear hZ hn;go_enter Tryz.func302,Tryz.ntmps302
   go_wp2_with fail
   refine HC.out.mono ?_;rintro e w5⟨hb5,lo,hi,rfl,hg⟩;obtain⟨HFF,hFF,f0,f1,f2,f3⟩:=FIN.out _ hb5 _ _ hg;replace hFF:=hdd hFF;clear hb5 hg c0 c1 d0 d1 d2 d3 e0 e1 e2 e3 k0 k1 k2 k3 hw4;unfold gv;go_wp2;obtain⟨f0,f1,-,-⟩:=aB hFF.out;refine bodyPost_ret (v:=.agg #[_,_]) (by simp[results,Tryz.results302,go_sem,f0,f1];first|exact⟨rfl,rfl⟩|rfl) rfl ?_;exact HFF.out
 . have HC:=hdd (aa9 (w:=w4) H1.out H2.out hZ)
   clear hZ hn;unfold gv at HC;go_enter Tryz.func302,Tryz.ntmps302
   go_wp2_with fail
   refine HC.out.mono ?_;rintro e w5⟨hb5,lo,hi,rfl,hg⟩;obtain⟨HFF,hFF,f0,f1,f2,f3⟩:=FIN.out _ hb5 _ _ hg;replace hFF:=hdd hFF;clear hb5 hg c0 c1 d0 d1 d2 d3 e0 e1 e2 e3 k0 k1 k2 k3 hw4;unfold gv;go_wp2;obtain⟨f0,f1,-,-⟩:=aB hFF.out;refine bodyPost_ret (v:=.agg #[_,_]) (by simp[results,Tryz.results302,go_sem,f0,f1];first|exact⟨rfl,rfl⟩|rfl) rfl ?_;exact HFF.out
 . have hneg:=aa5
   have b3':=set2 B3.out (.float .f64 (ax9 .f64 d)) (.float .f64 (ax9 .f64 c));have hne:∀{i:Nat},i≠w.heap.size+2->((w4.setCell ⟨w.heap.size+2,0,none⟩ (.float .f64 (ax9 .f64 d))).setCell ⟨w.heap.size+2,1,none⟩ (.float .f64 (ax9 .f64 c))).heap[i]? =w4.heap[i]? :=by
    intro i hi;rw[ayA _ _ _ _ (by simp;omega),ayA _ _ _ _ (by simp;omega)]
   have b2':=(hne (i:=w.heap.size+1) (by omega)).trans B2.out;have b4':=(hne (i:=w.heap.size+3) (by omega)).trans B4.out;have HB':=hdd ((HB.out.setCell (p:=⟨w.heap.size+2,0,none⟩) (by simp) (.float .f64 (ax9 .f64 d))).setCell (p:=⟨w.heap.size+2,1,none⟩) (by simp) (.float .f64 (ax9 .f64 c)));have BB2:=hdd b2';have BB3:=hdd b3';have BB4:=hdd b4';have HC:∀w',Hid (Calls Tryz.prog 335 #[.agg #[.float .f64 a,.float .f64 b],.agg #[.float .f64 (ax9 .f64 d),.float .f64 (ax9 .f64 c)]] w' (RetG w' Z)):=fun w'=>hdd (by
    refine aa9 (w:=w') H1.out (amG H2.out) fun z hz=> ?_;obtain⟨x,y,hx,hy,e⟩:=hZ z hz;exact⟨x,-y,hx,by rw[Re.neg_neg];exact hy,by rw[e,Re.sub_def]⟩)
   clear hZ hn b2' b3' b4' hne HB FIN;go_enter Tryz.func302,Tryz.ntmps302
   go_wp2_with fail
   generalize hw5:(w4.setCell ⟨w.heap.size+2,0,none⟩ (.float .f64 (ax9 .f64 d))).setCell ⟨w.heap.size+2,1,none⟩ (.float .f64 (ax9 .f64 c))=w5 at*;refine(HC _).out.mono ?_;rintro e w6⟨hb5,lo,hi,rfl,hg⟩;have b45:=hbl BB4.out hb5;obtain⟨HFF,hFF⟩:=bJ (HB'.out.trans (hb5.mono HB'.out.size)) (by omega) b45 hg;obtain⟨f0,f1,f2,f3⟩:=aB b45;replace hFF:=hdd hFF;clear hb5 hg c0 c1 d0 d1 d2 d3 e0 e1 e2 e3 k0 k1 k2 k3 hw4 b45 hw5;unfold gv;go_wp2;obtain⟨f0,f1,-,-⟩:=aB hFF.out;refine bodyPost_ret (v:=.agg #[_,_]) (by simp[results,Tryz.results302,go_sem,f0,f1];first|exact⟨rfl,rfl⟩|rfl) rfl ?_;exact HFF.out
 . have HC:=hdd (ajE (w:=w4) H1.out H2.out hZ)
   clear hZ hn;unfold gv at HC;go_enter Tryz.func302,Tryz.ntmps302
   go_wp2_with fail
   refine HC.out.mono ?_;rintro e w5⟨hb5,lo,hi,rfl,hg⟩;obtain⟨HFF,hFF,f0,f1,f2,f3⟩:=FIN.out _ hb5 _ _ hg;replace hFF:=hdd hFF;clear hb5 hg c0 c1 d0 d1 d2 d3 e0 e1 e2 e3 k0 k1 k2 k3 hw4;unfold gv;go_wp2;obtain⟨f0,f1,-,-⟩:=aB hFF.out;refine bodyPost_ret (v:=.agg #[_,_]) (by simp[results,Tryz.results302,go_sem,f0,f1];first|exact⟨rfl,rfl⟩|rfl) rfl ?_;exact HFF.out
 . have HC:=hdd (ajF (w:=w4) H1.out H2.out hZ)
   clear hZ hn;unfold gv at HC;go_enter Tryz.func302,Tryz.ntmps302
   go_wp2_with fail
   refine HC.out.mono ?_;rintro e w5⟨hb5,lo,hi,rfl,hg⟩;obtain⟨HFF,hFF,f0,f1,f2,f3⟩:=FIN.out _ hb5 _ _ hg;replace hFF:=hdd hFF;clear hb5 hg c0 c1 d0 d1 d2 d3 e0 e1 e2 e3 k0 k1 k2 k3 hw4;unfold gv;go_wp2;obtain⟨f0,f1,-,-⟩:=aB hFF.out;refine bodyPost_ret (v:=.agg #[_,_]) (by simp[results,Tryz.results302,go_sem,f0,f1];first|exact⟨rfl,rfl⟩|rfl) rfl ?_;exact HFF.out
 . have HC:=hdd (agB (w:=w4) H1.out hZ)
   clear hZ hn;unfold gv at HC;go_enter Tryz.func302,Tryz.ntmps302
   go_wp2_with fail
   refine HC.out.mono ?_;rintro e w5⟨hb5,lo,hi,rfl,hg⟩;obtain⟨HFF,hFF,f0,f1,f2,f3⟩:=FIN.out _ hb5 _ _ hg;replace hFF:=hdd hFF;clear hb5 hg c0 c1 d0 d1 d2 d3 e0 e1 e2 e3 k0 k1 k2 k3 hw4;unfold gv;go_wp2;obtain⟨f0,f1,-,-⟩:=aB hFF.out;refine bodyPost_ret (v:=.agg #[_,_]) (by simp[results,Tryz.results302,go_sem,f0,f1];first|exact⟨rfl,rfl⟩|rfl) rfl ?_;exact HFF.out
end Go.Proofs.YtigoiiekebccnaaGreatDoor
