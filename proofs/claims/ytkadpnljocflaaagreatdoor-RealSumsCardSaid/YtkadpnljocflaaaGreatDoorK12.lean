/- A part of the proof: contracts of functions and plain laws (GapE, GapG, GapH, GapF, DyH). -/
import Derived.Test.YtkadpnljocflaaaGreatDoorK11
import Derived.Test.YtkadpnljocflaaaGreatDoorK08
set_option linter.unusedVariables false
set_option linter.unusedSimpArgs false
set_option linter.unnecessarySimpa false
set_option maxHeartbeats 25600000
set_option maxRecDepth 100000
namespace Go.Proofs.YtkadpnljocflaaaGreatDoor
open Go.RowKit
open Bool renaming decide_and->atC
open Go.Extern.MathSqrt renaming sqrt->atA
open Go.Op renaming negFloat->as9
open Go.RowKit.Below renaming heap_setCell->as8,refl->atD
variable{E:Int}{a b c d g hi lo r x:Nat}{p:Nat->Prop}{X Y Z:Re->Prop}{T:TypeId}{w w0:World}
theorem yJ(h1:GapS a b X)(h2:GapS c d Y)(hZ:AddD X Y Z):
 Calls Tryz.prog 209 #[gv a b,gv c d] w (RetG w Z):=by
 obtain⟨w3,hw3,hb3,hs3,b1,b2,b3⟩:=pro3 w (.cells #[.float .f64 a,.float .f64 b] 136) (.cells #[.float .f64 c,.float .f64 d] 136) (.cells #[.float .f64 0,.float .f64 0] 136);have HB:=hdd hb3;have B1:=hdd b1;have B2:=hdd b2;have B3:=hdd b3;have HS:=hdd hs3;obtain⟨c0,c1,-,-⟩:=aB b1;obtain⟨d0,d1,-,-⟩:=aB b2;have hst:=aT;have HU:=hdd (kX (w:=w3) h1.1 h1.2.1 h2.1 h2.2.1);have H1:=hdd h1;have H2:=hdd h2;have HZ:=hdd hZ;clear hb3 b1 b2 b3 hs3 h1 h2 hZ;unfold gv at*;by_cases k:bV a b/\bV c d
 . rw[decide_eq_true k.1,decide_eq_true k.2]at HU
   obtain⟨r,hr,br,nr⟩:=x8 k.1.1 k.2.1;obtain⟨s,hs,bs,ns⟩:=x8 k.1.2.1 k.2.2.1;have HA:=hdd (aaP (H1.out.2.2 k.1) (H2.out.2.2 k.2) br bs nr ns HZ.out);have ha:∀t w,(binOp .add t (.float .f64 a) (.float .f64 c)).run Tryz.prog w=.ok (.float .f64 r) w:=fun t w=>run_float_arith w .add t .f64 a c r hr;have hb:∀t w,(binOp .add t (.float .f64 b) (.float .f64 d)).run Tryz.prog w=.ok (.float .f64 s) w:=fun t w=>run_float_arith w .add t .f64 b d s hs;clear k hr br nr hs bs ns;go_enter Tryz.func209,Tryz.ntmps209
   go_wp2_with fail
   refine HU.out.mono ?_;rintro e w4⟨rfl,hb4⟩;replace HB:=hdd (HB.out.trans (hb4.mono HB.out.size));replace B3:=hdd (hbl B3.out hb4);replace c0:=cbl c0 hb4;replace c1:=cbl c1 hb4;replace d0:=cbl d0 hb4;replace d1:=cbl d1 hb4;clear hb4 hw3 B1 B2;go_wp2_with (simp only[ha,hb])
   refine(kJ HA.out).mono ?_;rintro e w5⟨hb5,lo,hi,rfl,hg⟩;have b3:=hbl B3.out hb5;obtain⟨e0,e1,e2,e3⟩:=aB b3;obtain⟨HFF,hFF⟩:=bH (HB.out.trans (hb5.mono HB.out.size)) (by omega) b3 hg;replace hFF:=hdd hFF;clear hb5 b3 hg c0 c1 d0 d1;unfold gv;go_wp2;obtain⟨f0,f1,-,-⟩:=aB hFF.out;refine bodyPost_ret (v:=.agg #[_,_]) (by simp[results,Tryz.results209,go_sem,f0,f1];first|exact⟨rfl,rfl⟩|rfl) rfl ?_;exact HFF.out
 . have hk:(!(decide (bV a b)&&decide (bV c d)))=true:=by
    rw[<-atC,decide_eq_false k];rfl
   rw[hk]at HU;clear hk k;go_enter Tryz.func209,Tryz.ntmps209
   go_wp2_with fail
   refine HU.out.mono ?_;rintro e w4⟨rfl,hb4⟩;replace HB:=hdd (HB.out.trans (hb4.mono HB.out.size));replace B3:=hdd (hbl B3.out hb4);clear hb4 hw3 B1 B2 c0 c1 d0 d1;go_wp2_with fail
   refine all_any.mono ?_;rintro e w5⟨rfl,hb5⟩;have b3:=hbl B3.out hb5;obtain⟨e0,e1,e2,e3⟩:=aB b3;obtain⟨HFF,hFF⟩:=bH (HB.out.trans (hb5.mono HB.out.size)) (by omega) b3 (gall Z);replace hFF:=hdd hFF;clear hb5 b3;go_wp2;obtain⟨f0,f1,-,-⟩:=aB hFF.out;refine bodyPost_ret (v:=.agg #[_,_]) (by simp[results,Tryz.results209,go_sem,f0,f1];first|exact⟨rfl,rfl⟩|rfl) rfl ?_;exact HFF.out
theorem afJ(h1:GapS a b X)(h2:GapS c d Y)(hZ:MulD X Y Z):
 Calls Tryz.prog 210 #[gv a b,gv c d] w (RetG w Z):=by
 obtain⟨w3,hw3,hb3,hs3,b1,b2,b3⟩:=pro3 w (.cells #[.float .f64 a,.float .f64 b] 136) (.cells #[.float .f64 c,.float .f64 d] 136) (.cells #[.float .f64 0,.float .f64 0] 136);have HB:=hdd hb3;have B1:=hdd b1;have B2:=hdd b2;have B3:=hdd b3;have HS:=hdd hs3;obtain⟨c0,c1,-,-⟩:=aB b1;obtain⟨d0,d1,-,-⟩:=aB b2;have hst:=aT;have HU:=hdd (kX (w:=w3) h1.1 h1.2.1 h2.1 h2.2.1);have H1:=hdd h1;have H2:=hdd h2;have HZ:=hdd hZ;clear hb3 b1 b2 b3 hs3 h1 h2 hZ;unfold gv at*;by_cases k:bV a b/\bV c d
 . rw[decide_eq_true k.1,decide_eq_true k.2]at HU
   obtain⟨r1,hr1,br1,nr1⟩:=nS k.1.1 k.2.1;obtain⟨r2,hr2,br2,nr2⟩:=nS k.1.1 k.2.2.1;obtain⟨r3,hr3,br3,nr3⟩:=nS k.1.2.1 k.2.1;obtain⟨r4,hr4,br4,nr4⟩:=nS k.1.2.1 k.2.2.1;have HA:=hdd (aaQ (H1.out.2.2 k.1) (H2.out.2.2 k.2) br1 br2 br3 br4 nr1 nr2 nr3 nr4 (sH r1 r2 r3 r4) (sI r1 r2 r3 r4) HZ.out);have m1:∀t w,(binOp .mul t (.float .f64 a) (.float .f64 c)).run Tryz.prog w=.ok (.float .f64 r1) w:=fun t w=>run_float_arith w .mul t .f64 a c r1 hr1;have m2:∀t w,(binOp .mul t (.float .f64 a) (.float .f64 d)).run Tryz.prog w=.ok (.float .f64 r2) w:=fun t w=>run_float_arith w .mul t .f64 a d r2 hr2;have m3:∀t w,(binOp .mul t (.float .f64 b) (.float .f64 c)).run Tryz.prog w=.ok (.float .f64 r3) w:=fun t w=>run_float_arith w .mul t .f64 b c r3 hr3;have m4:∀t w,(binOp .mul t (.float .f64 b) (.float .f64 d)).run Tryz.prog w=.ok (.float .f64 r4) w:=fun t w=>run_float_arith w .mul t .f64 b d r4 hr4;have hmin:=fun ts t W=>yH (P:=Tryz.prog) nr1.1 nr2.1 nr3.1 nr4.1 ts t W
   have hmax:=fun ts t W=>yI (P:=Tryz.prog) nr1.1 nr2.1 nr3.1 nr4.1 ts t W;clear k hr1 br1 nr1 hr2 br2 nr2 hr3 br3 nr3 hr4 br4 nr4;generalize minW (minW (minW r1 r2) r3) r4=mi at*;generalize maxW (maxW (maxW r1 r2) r3) r4=ma at*;go_enter Tryz.func210,Tryz.ntmps210
   go_wp2_with fail
   refine HU.out.mono ?_;rintro e w4⟨rfl,hb4⟩;replace HB:=hdd (HB.out.trans (hb4.mono HB.out.size));replace B3:=hdd (hbl B3.out hb4);replace c0:=cbl c0 hb4;replace c1:=cbl c1 hb4;replace d0:=cbl d0 hb4;replace d1:=cbl d1 hb4;clear hb4 hw3 B1 B2;go_wp2_with fail
   go_quiet (simp only[m1,m2,m3,m4])
   replace HB:=hdd (HB.out.trans ((below_drewN w4 nq).mono HB.out.size));replace B3:=hdd (aD B3.out (below_drewN w4 nq) (aC B3.out));go_wp2_with (simp only[hmin,hmax])
   refine(kJ HA.out).mono ?_;rintro e w5⟨hb5,lo,hi,rfl,hg⟩;have b3:=hbl B3.out hb5;obtain⟨e0,e1,e2,e3⟩:=aB b3;obtain⟨HFF,hFF⟩:=bH (HB.out.trans (hb5.mono HB.out.size)) (by omega) b3 hg;replace hFF:=hdd hFF;clear hb5 b3 hg c0 c1 d0 d1;unfold gv;go_wp2;obtain⟨f0,f1,-,-⟩:=aB hFF.out;refine bodyPost_ret (v:=.agg #[_,_]) (by simp[results,Tryz.results210,go_sem,f0,f1];first|exact⟨rfl,rfl⟩|rfl) rfl ?_;exact HFF.out
 . have hk:(!(decide (bV a b)&&decide (bV c d)))=true:=by
    rw[<-atC,decide_eq_false k];rfl
   rw[hk]at HU;clear hk k;go_enter Tryz.func210,Tryz.ntmps210
   go_wp2_with fail
   refine HU.out.mono ?_;rintro e w4⟨rfl,hb4⟩;replace HB:=hdd (HB.out.trans (hb4.mono HB.out.size));replace B3:=hdd (hbl B3.out hb4);clear hb4 hw3 B1 B2 c0 c1 d0 d1;go_wp2_with fail
   refine all_any.mono ?_;rintro e w5⟨rfl,hb5⟩;have b3:=hbl B3.out hb5;obtain⟨e0,e1,e2,e3⟩:=aB b3;obtain⟨HFF,hFF⟩:=bH (HB.out.trans (hb5.mono HB.out.size)) (by omega) b3 (gall Z);replace hFF:=hdd hFF;clear hb5 b3;go_wp2;obtain⟨f0,f1,-,-⟩:=aB hFF.out;refine bodyPost_ret (v:=.agg #[_,_]) (by simp[results,Tryz.results210,go_sem,f0,f1];first|exact⟨rfl,rfl⟩|rfl) rfl ?_;exact HFF.out
theorem ajN(hb:num b)(hc:num c):(FloatKind.f64.format.order b c==some Ordering.gt||FloatKind.f64.format.order b c==some Ordering.eq)=decide (sr c<=sr b):=by
 rw[rZ hb hc,o8 hb hc,<-Bool.decide_or];exact decide_eq_decide.2 (by omega)
theorem afK(h1:GapS a b X)(h2:GapS c d Y)(hZ:QuoD X Y Z):
 Calls Tryz.prog 211 #[gv a b,gv c d] w (RetG w Z):=by
 obtain⟨w3,hw3,hb3,hs3,b1,b2,b3⟩:=pro3 w (.cells #[.float .f64 a,.float .f64 b] 136) (.cells #[.float .f64 c,.float .f64 d] 136) (.cells #[.float .f64 0,.float .f64 0] 136);have HB:=hdd hb3;have B1:=hdd b1;have B2:=hdd b2;have B3:=hdd b3;have HS:=hdd hs3;obtain⟨c0,c1,-,-⟩:=aB b1;obtain⟨d0,d1,-,-⟩:=aB b2;have hst:=aT;have HU:=hdd (kX (w:=w3) h1.1 h1.2.1 h2.1 h2.2.1);have H1:=hdd h1;have H2:=hdd h2;have HZ:=hdd hZ;clear hb3 b1 b2 b3 hs3 h1 h2 hZ;unfold gv at*;by_cases k:bV a b/\bV c d
 . rw[decide_eq_true k.1,decide_eq_true k.2]at HU
   have hle:=afG k.2.1.num num0;have hge:=ajN k.2.2.1.num num0;rw[sr0]at hle hge;by_cases q:0<sr c\/sr d<0
   . have hs:0<fv c\/fv d<0:=by
      rcases q with q|q
      . left;have:=jN q;rw[dK]at this;exact this
      . right;have:=jN q;rw[dK]at this;exact this
     have z0:fv c≠0/\fv d≠0:=by
      have:=kV k.2.2.2;change fv c<=fv d at this;omega
     have re0:∀{i:Int},i≠0->Re.ofI i≠0:=fun hi h=>hi (ahN (by rw[h,Re.ofI_zero]));obtain⟨V1,e1⟩:=qR (Re.ofI (fv a)*Re.ofN U74) (re0 z0.1);obtain⟨V2,e2⟩:=qR (Re.ofI (fv a)*Re.ofN U74) (re0 z0.2);obtain⟨V3,e3⟩:=qR (Re.ofI (fv b)*Re.ofN U74) (re0 z0.1);obtain⟨V4,e4⟩:=qR (Re.ofI (fv b)*Re.ofN U74) (re0 z0.2);obtain⟨r1,hr1,br1,nr1⟩:=nT iL k.1.1 k.2.1 z0.1 e1;obtain⟨r2,hr2,br2,nr2⟩:=nT iL k.1.1 k.2.2.1 z0.2 e2;obtain⟨r3,hr3,br3,nr3⟩:=nT iL k.1.2.1 k.2.1 z0.1 e3;obtain⟨r4,hr4,br4,nr4⟩:=nT iL k.1.2.1 k.2.2.1 z0.2 e4;have HA:=hdd (aaR (H1.out.2.2 k.1) (H2.out.2.2 k.2) hs br1 br2 br3 br4 nr1 nr2 nr3 nr4 e1 e2 e3 e4 (sH r1 r2 r3 r4) (sI r1 r2 r3 r4) HZ.out);have hq:(decide (sr c<=0)=false)\/(decide (sr c<=0)=true/\decide (0<=sr d)=false):=by
      by_cases h:sr c<=0
      . right;exact⟨decide_eq_true h,decide_eq_false (by omega)⟩
      . left;exact decide_eq_false h
     clear z0 re0 e1 e2 e3 e4 hs q;have m1:∀t w,(binOp .quo t (.float .f64 a) (.float .f64 c)).run Tryz.prog w=.ok (.float .f64 r1) w:=fun t w=>run_float_arith w .quo t .f64 a c r1 hr1;have m2:∀t w,(binOp .quo t (.float .f64 a) (.float .f64 d)).run Tryz.prog w=.ok (.float .f64 r2) w:=fun t w=>run_float_arith w .quo t .f64 a d r2 hr2;have m3:∀t w,(binOp .quo t (.float .f64 b) (.float .f64 c)).run Tryz.prog w=.ok (.float .f64 r3) w:=fun t w=>run_float_arith w .quo t .f64 b c r3 hr3;have m4:∀t w,(binOp .quo t (.float .f64 b) (.float .f64 d)).run Tryz.prog w=.ok (.float .f64 r4) w:=fun t w=>run_float_arith w .quo t .f64 b d r4 hr4;have hmin:=fun ts t W=>yH (P:=Tryz.prog) nr1.1 nr2.1 nr3.1 nr4.1 ts t W;have hmax:=fun ts t W=>yI (P:=Tryz.prog) nr1.1 nr2.1 nr3.1 nr4.1 ts t W;clear k hr1 br1 nr1 hr2 br2 nr2 hr3 br3 nr3 hr4 br4 nr4;generalize minW (minW (minW r1 r2) r3) r4=mi at*;generalize maxW (maxW (maxW r1 r2) r3) r4=ma at*;generalize decide (sr c<=0)=p1 at*;generalize decide (0<=sr d)=p2 at*
     rcases hq with rfl|⟨rfl,rfl⟩
     all_goals
      go_enter Tryz.func211,Tryz.ntmps211
      go_wp2_with fail
      refine HU.out.mono ?_;rintro e w4⟨rfl,hb4⟩;replace HB:=hdd (HB.out.trans (hb4.mono HB.out.size));replace B3:=hdd (hbl B3.out hb4);replace c0:=cbl c0 hb4;replace c1:=cbl c1 hb4;replace d0:=cbl d0 hb4;replace d1:=cbl d1 hb4;clear hb4 hw3 B1 B2;go_wp2_with fail
      go_quiet (simp only[m1,m2,m3,m4])
      replace HB:=hdd (HB.out.trans ((below_drewN w4 nq).mono HB.out.size));replace B3:=hdd (aD B3.out (below_drewN w4 nq) (aC B3.out));go_wp2_with (simp only[hmin,hmax])
      refine(kJ HA.out).mono ?_;rintro e w5⟨hb5,lo,hi,rfl,hg⟩;have b3:=hbl B3.out hb5;obtain⟨e0,e1,e2,e3⟩:=aB b3;obtain⟨HFF,hFF⟩:=bH (HB.out.trans (hb5.mono HB.out.size)) (by omega) b3 hg;replace hFF:=hdd hFF;clear hb5 b3 hg c0 c1 d0 d1;unfold gv;go_wp2;obtain⟨f0,f1,-,-⟩:=aB hFF.out;refine bodyPost_ret (v:=.agg #[_,_]) (by simp[results,Tryz.results211,go_sem,f0,f1];first|exact⟨rfl,rfl⟩|rfl) rfl ?_;exact HFF.out
   . rw[decide_eq_true (show sr c<=0 by omega)]at hle
     rw[decide_eq_true (show 0<=sr d by omega)]at hge;clear k q;go_enter Tryz.func211,Tryz.ntmps211
     go_wp2_with fail
     refine HU.out.mono ?_;rintro e w4⟨rfl,hb4⟩;replace HB:=hdd (HB.out.trans (hb4.mono HB.out.size));replace B3:=hdd (hbl B3.out hb4);replace d0:=cbl d0 hb4;replace d1:=cbl d1 hb4;clear hb4 hw3 B1 B2 c0 c1;go_wp2_with fail
     refine all_any.mono ?_;rintro e w5⟨rfl,hb5⟩;have b3:=hbl B3.out hb5;obtain⟨e0,e1,e2,e3⟩:=aB b3;obtain⟨HFF,hFF⟩:=bH (HB.out.trans (hb5.mono HB.out.size)) (by omega) b3 (gall Z);replace hFF:=hdd hFF;clear hb5 b3;go_wp2;obtain⟨f0,f1,-,-⟩:=aB hFF.out;refine bodyPost_ret (v:=.agg #[_,_]) (by simp[results,Tryz.results211,go_sem,f0,f1];first|exact⟨rfl,rfl⟩|rfl) rfl ?_;exact HFF.out
 . have hk:(!(decide (bV a b)&&decide (bV c d)))=true:=by
    rw[<-atC,decide_eq_false k];rfl
   rw[hk]at HU;clear hk k;go_enter Tryz.func211,Tryz.ntmps211
   go_wp2_with fail
   refine HU.out.mono ?_;rintro e w4⟨rfl,hb4⟩;replace HB:=hdd (HB.out.trans (hb4.mono HB.out.size));replace B3:=hdd (hbl B3.out hb4);clear hb4 hw3 B1 B2 c0 c1 d0 d1;go_wp2_with fail
   refine all_any.mono ?_;rintro e w5⟨rfl,hb5⟩;have b3:=hbl B3.out hb5;obtain⟨e0,e1,e2,e3⟩:=aB b3;obtain⟨HFF,hFF⟩:=bH (HB.out.trans (hb5.mono HB.out.size)) (by omega) b3 (gall Z);replace hFF:=hdd hFF;clear hb5 b3;go_wp2;obtain⟨f0,f1,-,-⟩:=aB hFF.out;refine bodyPost_ret (v:=.agg #[_,_]) (by simp[results,Tryz.results211,go_sem,f0,f1];first|exact⟨rfl,rfl⟩|rfl) rfl ?_;exact HFF.out
theorem ac1(x:Nat):atA #[.float .f64 x]=(Option.rec (motive:=fun _=>Sem Value) (do pure (Value.float .f64 (<-choose (.nanBits .f64 x x)))) (fun r=>pure (Value.float .f64 r)) (FloatKind.f64.format.sqrt x)):=by kernel_rfl
theorem afL(h:FloatKind.f64.format.sqrt x=some r):atA #[.float .f64 x]=pure (.float .f64 r):=by
 rw[ac1,h]
theorem afM(h:FloatKind.f64.format.sqrt x=some r)(w:World):
 (callFunc 263 #[.float .f64 x]).run Tryz.prog w=.ok (.value (.float .f64 r)) w:=by
 rw[run_callFunc_extern Tryz.func263 (by kernel_rfl) (by kernel_rfl) (by kernel_rfl) (e:=atA) (by kernel_rfl)];rw[afL h];rfl
theorem nW(h:FloatKind.f64.format.sqrt x=some r):Calls Tryz.prog 250 #[.float .f64 x] w (RetF w r):=by
 have hs:=afM h;clear h;go_enter Tryz.func250,Tryz.ntmps250
 go_wp2;go_ret;exact⟨rfl,rfl⟩
theorem abT(n:Int)(h:0<=n):∃V:Re,0<=V/\V*V=Re.ofI n*Re.ofN U74:=by
 have h0:(0:Re)<=Re.ofI n*Re.ofN U74:=by
  refine Re.mul_nonneg ?_ (Re.le_of_lt kW);rw[<-Re.ofI_zero];exact Re.ofI_le.2 h
 obtain⟨V,h1,h2⟩:=Re.exists_sqrt h0;exact⟨V,h1,h2⟩
theorem ac2(h1:GapS a b X)(hZ:afC X Z):
 Calls Tryz.prog 212 #[gv a b] w (RetG w Z):=by
 obtain⟨w3,hw3,hb3,hs3,b1,b2⟩:=pro2 w (.cells #[.float .f64 a,.float .f64 b] 136) (.cells #[.float .f64 0,.float .f64 0] 136);have HB:=hdd hb3;have B1:=hdd b1;have B2:=hdd b2;have HS:=hdd hs3;obtain⟨c0,c1,-,-⟩:=aB b1;have hst:=aT;have HK:=hdd (jU (w:=w3) h1.1 h1.2.1);have H1:=hdd h1;have HZ:=hdd hZ;clear hb3 b1 b2 hs3 h1 hZ;unfold gv at*;by_cases k:bV a b
 . rw[decide_eq_true k]at HK
   have hlt:=aaS k.1.num num0;rw[sr0]at hlt;by_cases q:sr a<0
   . rw[decide_eq_true q]at hlt
     clear k q;go_enter Tryz.func212,Tryz.ntmps212
     go_wp2_with fail
     refine HK.out.mono ?_;rintro e w4⟨rfl,hb4⟩;replace HB:=hdd (HB.out.trans (hb4.mono HB.out.size));replace B2:=hdd (hbl B2.out hb4);replace c0:=cbl c0 hb4;replace c1:=cbl c1 hb4;clear hb4 hw3 B1;go_wp2_with fail
     refine all_any.mono ?_;rintro e w5⟨rfl,hb5⟩;have b3:=hbl B2.out hb5;obtain⟨e0,e1,e2,e3⟩:=aB b3;obtain⟨HFF,hFF⟩:=bH (HB.out.trans (hb5.mono HB.out.size)) (by omega) b3 (gall Z);replace hFF:=hdd hFF;clear hb5 b3 c0 c1;go_wp2;obtain⟨f0,f1,-,-⟩:=aB hFF.out;refine bodyPost_ret (v:=.agg #[_,_]) (by simp[results,Tryz.results212,go_sem,f0,f1];first|exact⟨rfl,rfl⟩|rfl) rfl ?_;exact HFF.out
   . rw[decide_eq_false q]at hlt
     have q1:0<=fv a:=by have:=kV (show 0<=sr a by omega);rw[dK]at this;exact this
     have q2:0<=fv b:=by have:=kV (show 0<=sr b by have:=k.2.2;omega);rw[dK]at this;exact this
     obtain⟨V,v0,hV⟩:=abT _ q1;obtain⟨W,w0,hW⟩:=abT _ q2;obtain⟨r,hr,br,nr⟩:=uT iL k.1 q1 v0 hV;obtain⟨s,hs,bs,ns⟩:=uT iL k.2.1 q2 w0 hW;have HA:=hdd (yE (H1.out.2.2 k) br bs nr ns w0 hV hW HZ.out);have HSA:Hid (∀w',Calls Tryz.prog 250 #[.float .f64 a] w' (RetF w' r)):=hdd fun w'=>nW hr;have HSB:Hid (∀w',Calls Tryz.prog 250 #[.float .f64 b] w' (RetF w' s)):=hdd fun w'=>nW hs;have HAR:Hid (∀w',Calls Tryz.prog 249 #[.float .f64 r,.float .f64 s] w' (RetG w' Z)):=hdd fun w'=>kJ HA.out;clear k q q1 q2 hr br nr hs bs ns v0 hV w0 hW;go_enter Tryz.func212,Tryz.ntmps212
     go_wp2_with fail
     refine HK.out.mono ?_;rintro e w4⟨rfl,hb4⟩;replace HB:=hdd (HB.out.trans (hb4.mono HB.out.size));replace B2:=hdd (hbl B2.out hb4);replace c0:=cbl c0 hb4;replace c1:=cbl c1 hb4;clear hb4 hw3 B1;go_wp2_with fail
     have hdr:Below w4.heap.size w4 w4.drew:=(atD _ _).drew;replace c0:=cbl c0 hdr;replace c1:=cbl c1 hdr;replace B2:=hdd (hbl B2.out hdr);replace HB:=hdd (HB.out.trans (hdr.mono HB.out.size));have HLE:=hdd (Nat.le_succ w.heap.size);clear hdr
     go_region_held3 (fun w'=>w'.cell? ⟨w.heap.size,0,none⟩=some (.float .f64 a)/\w'.cell? ⟨w.heap.size,1,none⟩=some (.float .f64 b)) (go_keep)
      (first
      |(go_at_call 250
        with_reducible refine(HSA.out _).mono ?_
        rintro e w5⟨rfl,hw⟩;obtain rfl:=hw)
      |(go_at_call 250
        with_reducible refine(HSB.out _).mono ?_
        rintro e w5⟨rfl,hw⟩;obtain rfl:=hw)
      |(go_at_call 249
        with_reducible refine(HAR.out _).mono ?_
        rintro e w5⟨hb5,lo,hi,rfl,hg⟩;have c0:=cbl c0 hb5;have c1:=cbl c1 hb5;have b3:=hbl B2.out hb5;obtain⟨e0,e1,e2,e3⟩:=aB b3;have HST:=hdd (bH (HB.out.trans (hb5.mono HB.out.size)) HLE.out b3 hg);clear hb5 b3 hg;unfold gv))
     all_goals
      obtain⟨HFF,hFF⟩:=HST.out;replace hFF:=hdd hFF;go_wp2;obtain⟨f0,f1,-,-⟩:=aB hFF.out;refine bodyPost_ret (v:=.agg #[_,_]) (by simp[results,Tryz.results212,go_sem,f0,f1];first|exact⟨rfl,rfl⟩|rfl) rfl ?_;exact HFF.out
 . rw[decide_eq_false k]at HK
   clear k;go_enter Tryz.func212,Tryz.ntmps212
   go_wp2_with fail
   refine HK.out.mono ?_;rintro e w4⟨rfl,hb4⟩;replace HB:=hdd (HB.out.trans (hb4.mono HB.out.size));replace B2:=hdd (hbl B2.out hb4);clear hb4 hw3 B1 c0 c1;go_wp2_with fail
   refine all_any.mono ?_;rintro e w5⟨rfl,hb5⟩;have b3:=hbl B2.out hb5;obtain⟨e0,e1,e2,e3⟩:=aB b3;obtain⟨HFF,hFF⟩:=bH (HB.out.trans (hb5.mono HB.out.size)) (by omega) b3 (gall Z);replace hFF:=hdd hFF;clear hb5 b3;go_wp2;obtain⟨f0,f1,-,-⟩:=aB hFF.out;refine bodyPost_ret (v:=.agg #[_,_]) (by simp[results,Tryz.results212,go_sem,f0,f1];first|exact⟨rfl,rfl⟩|rfl) rfl ?_;exact HFF.out
structure Nd where
 kind:Int
 val:Nat
 a:Int
 b:Int
deriving DecidableEq
def iA(n:Nd):Value:=.agg #[.int .i64 n.kind,.float .f64 n.val,.int .i64 n.a,.int .i64 n.b]
def nX(n:Nd)(X Y Z:Re->Prop):Prop:=
 (n.kind=0/\∀z,Z z->z=Re.ofI (fv n.val))\/(n.kind=1/\AddD X Y Z)\/(n.kind=2/\SubD X Y Z)\/(n.kind=3/\MulD X Y Z)\/(n.kind=4/\QuoD X Y Z)\/(n.kind=5/\afC X Z)
theorem afN(hb:b<2^64):fv (b ^^^ 2^63)=-fv b:=by
 unfold fv;rw[(nV hb).2.2,wH]
theorem ahT(h:GapS lo hi X):GapS (hi ^^^ 2^63) (lo ^^^ 2^63) (fun x=>X (-x)):=by
 obtain⟨h1,h2,h3⟩:=h;obtain⟨a1,a2,a3⟩:=nV h1;obtain⟨b1,b2,b3⟩:=nV h2;refine⟨b1,a1,fun k x hx=> ?_⟩;rw[afN h1,afN h2,Re.ofI_neg,Re.ofI_neg];obtain⟨k1,k2,k3⟩:=k;obtain⟨q1,q2⟩:=h3 ⟨by unfold fin at*;rw[<-a2];exact k2,by unfold fin at*;rw[<-b2];exact k1,by rw[a3,b3]at k3;omega⟩ (-x) hx;constructor
 . have:=Re.neg_le_neg q2;rwa[Re.neg_neg]at this
 . have:=Re.neg_le_neg q1;rwa[Re.neg_neg]at this
theorem GapS.mono (h:GapS lo hi X)(k:∀x,Y x->X x):GapS lo hi Y:=⟨h.1,h.2.1,fun hk x hx=>h.2.2 hk x (k x hx)⟩
theorem bM{a b c d:Value}(h:w.heap[g]? =some (.cells #[a,b,c,d] T (0,0))):
 w.cell? ⟨g,0,none⟩=some a/\w.cell? ⟨g,1,none⟩=some b/\w.cell? ⟨g,2,none⟩=some c/\w.cell? ⟨g,3,none⟩=some d:=by
 refine⟨?_,?_,?_,?_⟩<;>simp[World.cell?,h]
theorem pro4(w:World)(o1 o2 o3 o4:Obj):∃w4,(((w.alloc o1).alloc o2).alloc o3).alloc o4=w4/\Below w.heap.size w w4/\w4.heap.size=w.heap.size+4/\w4.heap[w.heap.size]? =some o1/\w4.heap[w.heap.size+1]? =some o2/\w4.heap[w.heap.size+2]? =some o3/\w4.heap[w.heap.size+3]? =some o4:=by
 obtain⟨w3,rfl,hb,hs,h1,h2,h3⟩:=pro3 w o1 o2 o3;refine⟨_,rfl,hb.alloc (by omega) _,by simp,?_,?_,?_,?_⟩
 . exact aD h1 (aI _ o4) (by omega)
 . exact aD h2 (aI _ o4) (by omega)
 . exact aD h3 (aI _ o4) (by omega)
 . have:=heap_alloc_new (((w.alloc o1).alloc o2).alloc o3) o4;simpa using this
theorem wO{n:Nd}(hn:n.val<18446744073709551616)(h1:GapS a b X)(h2:GapS c d Y)(hZ:nX n X Y Z):
 Calls Tryz.prog 173 #[iA n,gv a b,gv c d] w (RetG w Z):=by
 obtain⟨kind,val,na,nb⟩:=n;simp only[nX]at hZ hn;unfold iA;obtain⟨w4,hw4,hb4,hs4,b1,b2,b3,b4⟩:=pro4 w (.cells #[.int .i64 kind,.float .f64 val,.int .i64 na,.int .i64 nb] 87) (.cells #[.float .f64 a,.float .f64 b] 136) (.cells #[.float .f64 c,.float .f64 d] 136) (.cells #[.float .f64 0,.float .f64 0] 136);have HB:=hdd hb4;have B1:=hdd b1;have B2:=hdd b2;have B3:=hdd b3;have B4:=hdd b4;have HS:=hdd hs4;obtain⟨k0,k1,k2,k3⟩:=bM b1;obtain⟨c0,c1,-,-⟩:=aB b2;obtain⟨d0,d1,d2,d3⟩:=aB b3;obtain⟨e0,e1,e2,e3⟩:=aB b4;have hst:=aT;have H1:=hdd h1;have H2:=hdd h2;have fin4:∀(w5:World),Below w4.heap.size w4 w5->∀(lo hi:Nat),GapS lo hi Z->Hid (RetG w Z (.returned (.agg #[.float .f64 lo,.float .f64 hi])) ((w5.setCell ⟨w.heap.size+3,0,none⟩ (.float .f64 lo)).setCell ⟨w.heap.size+3,1,none⟩ (.float .f64 hi)))/\
  ((w5.setCell ⟨w.heap.size+3,0,none⟩ (.float .f64 lo)).setCell ⟨w.heap.size+3,1,none⟩ (.float .f64 hi)).heap[w.heap.size+3]? =some (.cells #[.float .f64 lo,.float .f64 hi] 136 (0,0))/\
  (w5.cell? ⟨w.heap.size+3,0,none⟩=some (.float .f64 0)/\w5.cell? ⟨w.heap.size+3,1,none⟩=some (.float .f64 0)/\w5.frozen? ⟨w.heap.size+3,0,none⟩=false/\w5.frozen? ⟨w.heap.size+3,1,none⟩=false):=by
  intro w5 h5 lo hi hg;have b45:=hbl B4.out h5;obtain⟨r1,r2⟩:=bH (HB.out.trans (h5.mono HB.out.size)) (by omega) b45 hg;exact⟨r1,r2,aB b45⟩
 have FIN:=hdd fin4;clear fin4 hb4 b1 b2 b3 b4 hs4 h1 h2;unfold gv at*;rcases hZ with ⟨rfl,hZ⟩|⟨rfl,hZ⟩|⟨rfl,hZ⟩|⟨rfl,hZ⟩|⟨rfl,hZ⟩|⟨rfl,hZ⟩
 . have HC:Hid (Calls Tryz.prog 208 #[.float .f64 val] w4 (RetG w4 Z)):=hdd ((ac0 (w:=w4) hn).mono fun e w' h=>by
    obtain⟨q1,lo,hi,q2,q3⟩:=h;exact⟨q1,lo,hi,q2,q3.mono hZ⟩)
   clear hZ hn;go_enter Tryz.func173,Tryz.ntmps173
   go_wp2_with fail
   refine HC.out.mono ?_;rintro e w5⟨hb5,lo,hi,rfl,hg⟩;obtain⟨HFF,hFF,f0,f1,f2,f3⟩:=FIN.out _ hb5 _ _ hg;replace hFF:=hdd hFF;clear hb5 hg c0 c1 d0 d1 d2 d3 e0 e1 e2 e3 k0 k1 k2 k3 hw4;unfold gv;go_wp2;obtain⟨f0,f1,-,-⟩:=aB hFF.out;refine bodyPost_ret (v:=.agg #[_,_]) (by simp[results,Tryz.results173,go_sem,f0,f1];first|exact⟨rfl,rfl⟩|rfl) rfl ?_;exact HFF.out
 . have HC:=hdd (yJ (w:=w4) H1.out H2.out hZ)
   clear hZ hn;unfold gv at HC;go_enter Tryz.func173,Tryz.ntmps173
   go_wp2_with fail
   refine HC.out.mono ?_;rintro e w5⟨hb5,lo,hi,rfl,hg⟩;obtain⟨HFF,hFF,f0,f1,f2,f3⟩:=FIN.out _ hb5 _ _ hg;replace hFF:=hdd hFF;clear hb5 hg c0 c1 d0 d1 d2 d3 e0 e1 e2 e3 k0 k1 k2 k3 hw4;unfold gv;go_wp2;obtain⟨f0,f1,-,-⟩:=aB hFF.out;refine bodyPost_ret (v:=.agg #[_,_]) (by simp[results,Tryz.results173,go_sem,f0,f1];first|exact⟨rfl,rfl⟩|rfl) rfl ?_;exact HFF.out
 . have hneg:=yF
   have b3':=set2 B3.out (.float .f64 (as9 .f64 d)) (.float .f64 (as9 .f64 c));have hne:∀{i:Nat},i≠w.heap.size+2->((w4.setCell ⟨w.heap.size+2,0,none⟩ (.float .f64 (as9 .f64 d))).setCell ⟨w.heap.size+2,1,none⟩ (.float .f64 (as9 .f64 c))).heap[i]? =w4.heap[i]? :=by
    intro i hi;rw[as8 _ _ _ _ (by simp;omega),as8 _ _ _ _ (by simp;omega)]
   have b2':=(hne (i:=w.heap.size+1) (by omega)).trans B2.out;have b4':=(hne (i:=w.heap.size+3) (by omega)).trans B4.out;have HB':=hdd ((HB.out.setCell (p:=⟨w.heap.size+2,0,none⟩) (by simp) (.float .f64 (as9 .f64 d))).setCell (p:=⟨w.heap.size+2,1,none⟩) (by simp) (.float .f64 (as9 .f64 c)));have BB2:=hdd b2';have BB3:=hdd b3';have BB4:=hdd b4';have HC:∀w',Hid (Calls Tryz.prog 209 #[.agg #[.float .f64 a,.float .f64 b],.agg #[.float .f64 (as9 .f64 d),.float .f64 (as9 .f64 c)]] w' (RetG w' Z)):=fun w'=>hdd (by
    refine yJ (w:=w') H1.out (ahT H2.out) fun z hz=> ?_;obtain⟨x,y,hx,hy,e⟩:=hZ z hz;exact⟨x,-y,hx,by rw[Re.neg_neg];exact hy,by rw[e,Re.sub_def]⟩)
   clear hZ hn b2' b3' b4' hne HB FIN;go_enter Tryz.func173,Tryz.ntmps173
   go_wp2_with fail
   generalize hw5:(w4.setCell ⟨w.heap.size+2,0,none⟩ (.float .f64 (as9 .f64 d))).setCell ⟨w.heap.size+2,1,none⟩ (.float .f64 (as9 .f64 c))=w5 at*;refine(HC _).out.mono ?_;rintro e w6⟨hb5,lo,hi,rfl,hg⟩;have b45:=hbl BB4.out hb5;obtain⟨HFF,hFF⟩:=bH (HB'.out.trans (hb5.mono HB'.out.size)) (by omega) b45 hg;obtain⟨f0,f1,f2,f3⟩:=aB b45;replace hFF:=hdd hFF;clear hb5 hg c0 c1 d0 d1 d2 d3 e0 e1 e2 e3 k0 k1 k2 k3 hw4 b45 hw5;unfold gv;go_wp2;obtain⟨f0,f1,-,-⟩:=aB hFF.out;refine bodyPost_ret (v:=.agg #[_,_]) (by simp[results,Tryz.results173,go_sem,f0,f1];first|exact⟨rfl,rfl⟩|rfl) rfl ?_;exact HFF.out
 . have HC:=hdd (afJ (w:=w4) H1.out H2.out hZ)
   clear hZ hn;unfold gv at HC;go_enter Tryz.func173,Tryz.ntmps173
   go_wp2_with fail
   refine HC.out.mono ?_;rintro e w5⟨hb5,lo,hi,rfl,hg⟩;obtain⟨HFF,hFF,f0,f1,f2,f3⟩:=FIN.out _ hb5 _ _ hg;replace hFF:=hdd hFF;clear hb5 hg c0 c1 d0 d1 d2 d3 e0 e1 e2 e3 k0 k1 k2 k3 hw4;unfold gv;go_wp2;obtain⟨f0,f1,-,-⟩:=aB hFF.out;refine bodyPost_ret (v:=.agg #[_,_]) (by simp[results,Tryz.results173,go_sem,f0,f1];first|exact⟨rfl,rfl⟩|rfl) rfl ?_;exact HFF.out
 . have HC:=hdd (afK (w:=w4) H1.out H2.out hZ)
   clear hZ hn;unfold gv at HC;go_enter Tryz.func173,Tryz.ntmps173
   go_wp2_with fail
   refine HC.out.mono ?_;rintro e w5⟨hb5,lo,hi,rfl,hg⟩;obtain⟨HFF,hFF,f0,f1,f2,f3⟩:=FIN.out _ hb5 _ _ hg;replace hFF:=hdd hFF;clear hb5 hg c0 c1 d0 d1 d2 d3 e0 e1 e2 e3 k0 k1 k2 k3 hw4;unfold gv;go_wp2;obtain⟨f0,f1,-,-⟩:=aB hFF.out;refine bodyPost_ret (v:=.agg #[_,_]) (by simp[results,Tryz.results173,go_sem,f0,f1];first|exact⟨rfl,rfl⟩|rfl) rfl ?_;exact HFF.out
 . have HC:=hdd (ac2 (w:=w4) H1.out hZ)
   clear hZ hn;unfold gv at HC;go_enter Tryz.func173,Tryz.ntmps173
   go_wp2_with fail
   refine HC.out.mono ?_;rintro e w5⟨hb5,lo,hi,rfl,hg⟩;obtain⟨HFF,hFF,f0,f1,f2,f3⟩:=FIN.out _ hb5 _ _ hg;replace hFF:=hdd hFF;clear hb5 hg c0 c1 d0 d1 d2 d3 e0 e1 e2 e3 k0 k1 k2 k3 hw4;unfold gv;go_wp2;obtain⟨f0,f1,-,-⟩:=aB hFF.out;refine bodyPost_ret (v:=.agg #[_,_]) (by simp[results,Tryz.results173,go_sem,f0,f1];first|exact⟨rfl,rfl⟩|rfl) rfl ?_;exact HFF.out
def RetA(w0:World)(X Y E:Int)(e:Ending)(w':World):Prop:=
 Below w0.heap.size w0 w'/\∃b1 A1 n1 c1 b2 A2 n2 c2,e=.returned (.tuple #[.agg #[.bool b1,.slice A1 n1 c1],.agg #[.bool b2,.slice A2 n2 c2],.int .i64 E])/\
  IntP AnyB w' (.agg #[.bool b1,.slice A1 n1 c1]) X/\IntP AnyB w' (.agg #[.bool b2,.slice A2 n2 c2]) Y
theorem IntP.any {v:Value}{z:Int}(h:IntP p w v z):IntP AnyB w v z:=h.weak fun _ _ _=>trivial
theorem sJ{w1:World}{T':TypeId}{a b c d u1 m1 u2 m2:Value}{X Y:Int}{b1 b2:Bool}{A1 A2:Option Addr}{n1 n2 c1 c2:Nat}(hb:Below w0.heap.size w0 w1)(hg:w0.heap.size<=g)
 (hw:w1.heap[g]? =some (.cells #[a,b] T (0,0))) (hw':w1.heap[g+1]? =some (.cells #[c,d] T' (0,0)))
 (e1:u1=.bool b1) (e2:m1=.slice A1 n1 c1) (e3:u2=.bool b2) (e4:m2=.slice A2 n2 c2) {q:Nat->Prop} (hq:∀b,q b->b≠g/\b≠g+1)
 (h1:IntP q w1 (.agg #[.bool b1,.slice A1 n1 c1]) X) (h2:IntP q w1 (.agg #[.bool b2,.slice A2 n2 c2]) Y):
 Hid (RetA w0 X Y E (.returned (.tuple #[.agg #[u1,m1],.agg #[u2,m2],.int .i64 E])) ((((w1.setCell ⟨g,0,none⟩ u1).setCell ⟨g,1,none⟩ m1).setCell ⟨g+1,0,none⟩ u2).setCell ⟨g+1,1,none⟩ m2))/\
 ((((w1.setCell ⟨g,0,none⟩ u1).setCell ⟨g,1,none⟩ m1).setCell ⟨g+1,0,none⟩ u2).setCell ⟨g+1,1,none⟩ m2).heap[g]? =some (.cells #[u1,m1] T (0,0))/\
 ((((w1.setCell ⟨g,0,none⟩ u1).setCell ⟨g,1,none⟩ m1).setCell ⟨g+1,0,none⟩ u2).setCell ⟨g+1,1,none⟩ m2).heap[g+1]? =some (.cells #[u2,m2] T' (0,0)):=by
 subst e1 e2 e3 e4;have f1:((w1.setCell ⟨g,0,none⟩ (.bool b1)).setCell ⟨g,1,none⟩ (.slice A1 n1 c1)).heap[g+1]? =some (.cells #[c,d] T' (0,0)):=by
  rw[as8 _ _ _ _ (by simp),as8 _ _ _ _ (by simp)];exact hw'
 refine⟨hdd ⟨(((hb.setCell hg _).setCell hg _).setCell (by simp;omega) _).setCell (by simp;omega) _,b1,A1,n1,c1,b2,A2,n2,c2,rfl,?_,?_⟩,?_,set2 f1 _ _⟩
 . exact((((h1.setCell (fun b hb=>(hq b hb).1) _).setCell (fun b hb=>(hq b hb).1) _).setCell (fun b hb=>(hq b hb).2) _).setCell (fun b hb=>(hq b hb).2) _).any
 . exact((((h2.setCell (fun b hb=>(hq b hb).1) _).setCell (fun b hb=>(hq b hb).1) _).setCell (fun b hb=>(hq b hb).2) _).setCell (fun b hb=>(hq b hb).2) _).any
 . rw[as8 _ _ _ _ (by simp),as8 _ _ _ _ (by simp)];exact set2 hw _ _
theorem uZ{w':World}{X Y X' Y' E':Int}{e:Ending}(h:RetA w0 X Y E e w')(hX:X=X')(hY:Y=Y')(hE:E=E'):RetA w0 X' Y' E' e w':=by subst hX hY hE;exact h
theorem fO{xs:List Nat}(hx:OkL xs)(ht:Tr xs)(h:bits (val xs)<=134217728):xs.length<=1000000000:=by
 have:=bA xs hx ht;omega
theorem u6{q:Nat->Prop}{va vb:Value}{x y:Dy}(hx:DyP p w va x)(hy:DyP q w vb y)(hp:∀b,p b->b<w.heap.size)(hq:∀b,q b->b<w.heap.size)
 (hLx:bits x.man.natAbs<=134217728) (hLy:bits y.man.natAbs<=134217728) (he:-67108864<=x.exp/\x.exp<=67108864) (he':-67108864<=y.exp/\y.exp<=67108864):
 Calls Tryz.prog 79 #[va,vb] w (RetA w (dF x y) (dG x y) (min x.exp y.exp)):=by
 obtain⟨ba,A,n,c,rfl,h⟩:=hx;obtain⟨bb,A',n',c',rfl,h'⟩:=hy;obtain⟨w4,hw4,hb4,hs4,b1,b2,b3,b4⟩:=pro4 w (.cells #[Value.bool ba,.slice A n c,.int .i64 x.exp] 90) (.cells #[Value.bool bb,.slice A' n' c',.int .i64 y.exp] 90) (.cells #[Value.bool false,Value.slice none 0 0] 75) (.cells #[Value.bool false,Value.slice none 0 0] 75);have HB:=hdd hb4;have H1:=hdd (h.below hb4);have H2:=hdd (h'.below hb4);have HS:=hdd hs4;have B3:=hdd b3;have B4:=hdd b4;have HP:=hdd hp;have HQ:=hdd hq;obtain⟨c0,c1,c2,-,-,-⟩:=cells3 b1;obtain⟨d0,d1,d2,-,-,-⟩:=cells3 b2;clear h h' hb4 b1 b2 b3 b4 hs4 hp hq;by_cases hle:x.exp<=y.exp
 . obtain⟨d,hd⟩:∃d:Nat,(d:Int)=y.exp-x.exp:=⟨(y.exp-x.exp).toNat,by omega⟩
   have hwr:IntKind.i64.wrap (y.exp-x.exp)=(d:Int):=by rw[wrap_i64 (by omega)];omega
   obtain⟨ys,hy1,hy2,hy3,hy4⟩:=H2.out.get;have HRG:=hdd (gJ (n:=d) (hy1.below ((atD _ _).drew (w:=w4))) (by omega) (fO hy1.ok hy2 (by rw[hy3];exact hLy)));have HFX:Hid (dF x y=x.man):=hdd (by unfold dF;rw[if_pos hle]);have HFY:Hid (dG x y=sg bb (val ys*2^d)):=hdd (by
    unfold dG;rw[if_pos hle,hy3,kF,hy4,kT];have:(y.exp-x.exp).toNat=d:=by omega
    rw[this])
   have HM:Hid (min x.exp y.exp=x.exp):=hdd (by omega);have hled:=hle;clear hy1 hy2 hy3 hy4 hLx hLy he he' hd;go_enter Tryz.func79,Tryz.ntmps79
   go_wp2_with fail
   have n1:w.heap.size+1+1≠w.heap.size:=by omega
   have n2:w.heap.size+1+1≠w.heap.size+1:=by omega
   have n3:w.heap.size+1+1+1≠w.heap.size:=by omega
   have n4:w.heap.size+1+1+1≠w.heap.size+1:=by omega
   go_region_held3 (fun w'=>w'.cell? ⟨w.heap.size,0,none⟩=some (.bool ba)/\w'.cell? ⟨w.heap.size,1,none⟩=some (.slice A n c)/\w'.cell? ⟨w.heap.size,2,none⟩=some (.int .i64 x.exp)/\w'.cell? ⟨w.heap.size+1,0,none⟩=some (.bool bb)/\w'.cell? ⟨w.heap.size+1,1,none⟩=some (.slice A' n' c')/\w'.cell? ⟨w.heap.size+1,2,none⟩=some (.int .i64 y.exp)) (go_keep)
    (first
    |(go_at_call 124
      refine HRG.out.mono ?_;rintro r w5⟨hb,v5,zs,rfl,hz,tz,hvz⟩;have HB5:Hid (Below w4.heap.size w4 w5):=hdd ((atD _ _).drew.trans hb);have c0:=cbl c0 HB5.out;have c1:=cbl c1 HB5.out;have c2:=cbl c2 HB5.out;have d0:=cbl d0 HB5.out;have d1:=cbl d1 HB5.out;have d2:=cbl d2 HB5.out;have HMK:=hdd (bR (b:=bb) hz);have HVZ:=hdd hvz;clear hb hz tz hvz)
    |(go_at_call 75
      refine HMK.out.mono ?_;rintro r w6⟨hb,v6,hz⟩;obtain⟨rfl,hz⟩:=hz;obtain⟨b6,A6,n6,c6,rfl⟩:=hz.shape;have c0:=cbl c0 hb;have c1:=cbl c1 hb;have c2:=cbl c2 hb;have d0:=cbl d0 hb;have d1:=cbl d1 hb;have d2:=cbl d2 hb;have HSZ:=hdd HB5.out.size;have HB5:=hdd (HB5.out.trans (hb.mono HB5.out.size));have HF:=hdd hz;have B35:=hdd (hbl B3.out HB5.out);have B45:=hdd (hbl B4.out HB5.out);obtain⟨e0,e1,e2,e3⟩:=aB B35.out;obtain⟨f0,f1,f2,f3⟩:=aB B45.out;clear hb hz))
   have HSS:=HS.out;have hszz:=HSZ.out;have hX:IntP (fun b=>b≠w.heap.size+2/\b≠w.heap.size+2+1) _ (.agg #[.bool ba,.slice A n c]) x.man:=(H1.out.below HB5.out).weak fun b hb _=>by have:=HP.out b hb;omega
   have hY:IntP (fun b=>b≠w.heap.size+2/\b≠w.heap.size+2+1) _ (.agg #[.bool b6,.slice A6 n6 c6]) (sg bb (val zs)):=HF.out.weak fun b hb _=>by omega
   obtain⟨HFF,hF1,hF2⟩:=sJ (E:=x.exp) (HB.out.trans (HB5.out.mono HB.out.size)) (g:=w.heap.size+2) (by omega) B35.out B45.out rfl rfl rfl rfl (fun b hb=>hb) hX hY;replace hF1:=hdd hF1;replace hF2:=hdd hF2;clear hX hY HSS hszz n1 n2 n3 n4;go_wp2;obtain⟨r0,r1,-,-⟩:=aB hF1.out;obtain⟨r2,r3,-,-⟩:=aB hF2.out;refine bodyPost_ret (v:=.tuple #[.agg #[_,_],.agg #[_,_],_]) (by simp[results,Tryz.results79,go_sem,r0,r1,r2,r3];first|exact⟨⟨rfl,rfl⟩,⟨rfl,rfl⟩,rfl⟩|rfl) rfl ?_;exact uZ HFF.out HFX.out.symm (by rw[HVZ.out,HFY.out]) HM.out.symm
 . obtain⟨d,hd⟩:∃d:Nat,(d:Int)=x.exp-y.exp:=⟨(x.exp-y.exp).toNat,by omega⟩
   have hwr:IntKind.i64.wrap (x.exp-y.exp)=(d:Int):=by rw[wrap_i64 (by omega)];omega
   obtain⟨ys,hy1,hy2,hy3,hy4⟩:=H1.out.get;have HRG:=hdd (gJ (n:=d) (hy1.below ((atD _ _).drew (w:=w4))) (by omega) (fO hy1.ok hy2 (by rw[hy3];exact hLx)));have HFY:Hid (dG x y=y.man):=hdd (by unfold dG;rw[if_neg hle]);have HFX:Hid (dF x y=sg ba (val ys*2^d)):=hdd (by
    unfold dF;rw[if_neg hle,hy3,kF,hy4,kT];have:(x.exp-y.exp).toNat=d:=by omega
    rw[this])
   have HM:Hid (min x.exp y.exp=y.exp):=hdd (by omega);have hled:=hle;clear hy1 hy2 hy3 hy4 hLx hLy he he' hd;go_enter Tryz.func79,Tryz.ntmps79
   go_wp2_with fail
   have n1:w.heap.size+1+1≠w.heap.size:=by omega
   have n2:w.heap.size+1+1≠w.heap.size+1:=by omega
   have n3:w.heap.size+1+1+1≠w.heap.size:=by omega
   have n4:w.heap.size+1+1+1≠w.heap.size+1:=by omega
   go_region_held3 (fun w'=>w'.cell? ⟨w.heap.size,0,none⟩=some (.bool ba)/\w'.cell? ⟨w.heap.size,1,none⟩=some (.slice A n c)/\w'.cell? ⟨w.heap.size,2,none⟩=some (.int .i64 x.exp)/\w'.cell? ⟨w.heap.size+1,0,none⟩=some (.bool bb)/\w'.cell? ⟨w.heap.size+1,1,none⟩=some (.slice A' n' c')/\w'.cell? ⟨w.heap.size+1,2,none⟩=some (.int .i64 y.exp)) (go_keep)
    (first
    |(go_at_call 124
      refine HRG.out.mono ?_;rintro r w5⟨hb,v5,zs,rfl,hz,tz,hvz⟩;have HB5:Hid (Below w4.heap.size w4 w5):=hdd ((atD _ _).drew.trans hb);have c0:=cbl c0 HB5.out;have c1:=cbl c1 HB5.out;have c2:=cbl c2 HB5.out;have d0:=cbl d0 HB5.out;have d1:=cbl d1 HB5.out;have d2:=cbl d2 HB5.out;have HMK:=hdd (bR (b:=ba) hz);have HVZ:=hdd hvz;clear hb hz tz hvz)
    |(go_at_call 75
      refine HMK.out.mono ?_;rintro r w6⟨hb,v6,hz⟩;obtain⟨rfl,hz⟩:=hz;obtain⟨b6,A6,n6,c6,rfl⟩:=hz.shape;have c0:=cbl c0 hb;have c1:=cbl c1 hb;have c2:=cbl c2 hb;have d0:=cbl d0 hb;have d1:=cbl d1 hb;have d2:=cbl d2 hb;have HSZ:=hdd HB5.out.size;have HB5:=hdd (HB5.out.trans (hb.mono HB5.out.size));have HF:=hdd hz;have B35:=hdd (hbl B3.out HB5.out);have B45:=hdd (hbl B4.out HB5.out);obtain⟨e0,e1,e2,e3⟩:=aB B35.out;obtain⟨f0,f1,f2,f3⟩:=aB B45.out;clear hb hz))
   have HSS:=HS.out;have hszz:=HSZ.out;have hX:IntP (fun b=>b≠w.heap.size+2/\b≠w.heap.size+2+1) _ (.agg #[.bool b6,.slice A6 n6 c6]) (sg ba (val zs)):=HF.out.weak fun b hb _=>by omega
   have hY:IntP (fun b=>b≠w.heap.size+2/\b≠w.heap.size+2+1) _ (.agg #[.bool bb,.slice A' n' c']) y.man:=(H2.out.below HB5.out).weak fun b hb _=>by have:=HQ.out b hb;omega
   obtain⟨HFF,hF1,hF2⟩:=sJ (E:=y.exp) (HB.out.trans (HB5.out.mono HB.out.size)) (g:=w.heap.size+2) (by omega) B35.out B45.out rfl rfl rfl rfl (fun b hb=>hb) hX hY;replace hF1:=hdd hF1;replace hF2:=hdd hF2;clear hX hY HSS hszz n1 n2 n3 n4;go_wp2;obtain⟨r0,r1,-,-⟩:=aB hF1.out;obtain⟨r2,r3,-,-⟩:=aB hF2.out;refine bodyPost_ret (v:=.tuple #[.agg #[_,_],.agg #[_,_],_]) (by simp[results,Tryz.results79,go_sem,r0,r1,r2,r3];first|exact⟨⟨rfl,rfl⟩,⟨rfl,rfl⟩,rfl⟩|rfl) rfl ?_;exact uZ HFF.out (by rw[HVZ.out,HFX.out]) HFY.out.symm HM.out.symm
end Go.Proofs.YtkadpnljocflaaaGreatDoor
