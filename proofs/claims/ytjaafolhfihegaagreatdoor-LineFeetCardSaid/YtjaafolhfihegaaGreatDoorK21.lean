/- A part of the proof: contracts of functions and plain laws (DyK, DyL, DyM, BalA, DyR, DyS). -/
import Derived.Test.YtjaafolhfihegaaGreatDoorK20
import Derived.Test.YtjaafolhfihegaaGreatDoorK09
set_option linter.unusedVariables false
set_option linter.unusedSimpArgs false
set_option maxHeartbeats 25600000
set_option maxRecDepth 100000
namespace Go.Proofs.YtjaafolhfihegaaGreatDoor
open Go.RowKit
open Go.RowKit.Below renaming heap_setCell->bdY,refl->beA
open Int renaming natAbs_natCast->bdZ,sign_eq_one_of_pos->bd0,sign_eq_zero_iff_zero->bd1,lt_trichotomy->bd2,natAbs_mul->bd6,sign_mul->bd7,mul_one->bd9
open Nat renaming le_trans->bd3,lt_or_ge->bd4,two_pow_pos->bd5,le_of_eq->bd8,mod_lt->beB
variable{x y:Dy}{B b g i:Nat}{p:Nat->Prop}{T:TypeId}{a c d e f va:Value}{w w0:World}
theorem kU{n:Nat}(hn:n≠0)(k:Nat):bits (n*2^k)=bits n+k:=by
 refine Nat.le_antisymm (eF n k) ?_;rcases bd4 (bits (n*2^k)) (bits n+k)with h|h
 . exfalso
   have hb:bits n≠0:=fun h'=>hn ((cB _).1 h');have h1:=(aG (n*2^k) (bits n-1+k)).1 (by omega);rw[Nat.pow_add]at h1;have h2:=fD n hn;have:=Nat.mul_le_mul_right (2^k) h2;omega
 . exact h
theorem fU(x y:Dy):(dW x y).sign=x.man.sign:=by
 have:=bd5 (x.exp-min x.exp y.exp).toNat;rw[iY,bd7,bd0 (a:=((2^(x.exp-min x.exp y.exp).toNat:Nat):Int)) (by omega),bd9]
theorem jJ(x y:Dy):(dX x y).sign=y.man.sign:=by
 have:=bd5 (y.exp-min x.exp y.exp).toNat;rw[iZ,bd7,bd0 (a:=((2^(y.exp-min x.exp y.exp).toNat:Nat):Int)) (by omega),bd9]
theorem y8(hx:x.man≠0):topD x-min x.exp y.exp=bits (dW x y).natAbs:=by
 rw[iY,bd6,bdZ,kU (by omega)];unfold topD;rw[if_neg hx];omega
theorem y9(hy:y.man≠0):topD y-min x.exp y.exp=bits (dX x y).natAbs:=by
 rw[iZ,bd6,bdZ,kU (by omega)];unfold topD;rw[if_neg hy];omega
theorem amS{x y:Dy}(h:x.man.sign<y.man.sign):cmpD x y=-1:=sS (by rw[fU,jJ];exact h)
theorem amT{x y:Dy}(h:y.man.sign<x.man.sign):cmpD x y=1:=sU (by rw[fU,jJ];exact h)
theorem agY{x y:Dy}(h:x.man.sign=y.man.sign)(h0:x.man.sign=0):cmpD x y=0:=by
 have h1:dW x y=0:=bd1.1 (by rw[fU];exact h0);have h2:dX x y=0:=bd1.1 (by rw[jJ,<-h];exact h0);unfold cmpD;rw[h1,h2];rfl
theorem akK{x y:Dy}(h:x.man.sign=y.man.sign)(h0:x.man.sign≠0)(ht:topD x<topD y):cmpD x y=-x.man.sign:=by
 have hx:x.man≠0:=fun e=>h0 (by rw[e];rfl);have hy:y.man≠0:=fun e=>h0 (by rw[h,e];rfl);have h1:=y8 (y:=y) hx;have h2:=y9 (x:=x) hy;have hlt:(dW x y).natAbs<(dX x y).natAbs:=by
  rcases bd4 (dW x y).natAbs (dX x y).natAbs with h|h
  . exact h
  . have:=dF h;omega
 unfold cmpD;rw[mZ (by rw[fU,jJ];exact h),fU];unfold cmpN;rw[if_pos hlt];omega
theorem agZ{x y:Dy}(h:x.man.sign=y.man.sign)(h0:x.man.sign≠0)(ht:topD y<topD x):cmpD x y=x.man.sign:=by
 have hx:x.man≠0:=fun e=>h0 (by rw[e];rfl);have hy:y.man≠0:=fun e=>h0 (by rw[h,e];rfl);have h1:=y8 (y:=y) hx;have h2:=y9 (x:=x) hy;have hlt:(dX x y).natAbs<(dW x y).natAbs:=by
  rcases bd4 (dX x y).natAbs (dW x y).natAbs with h|h
  . exact h
  . have:=dF h;omega
 unfold cmpD;rw[mZ (by rw[fU,jJ];exact h),fU];unfold cmpN;rw[if_neg (by omega),if_pos hlt];omega
theorem akL{q:Nat->Prop}{vb:Value}(hx:DyP p w va x)(hy:DyP q w vb y)(hp:∀b,p b->b<w.heap.size)(hq:∀b,q b->b<w.heap.size)(sx:SmD x)(sy:SmD y):
 Calls Tryz.prog 211 #[va,vb] w (RetK w (cmpD x y)):=by
 obtain⟨ba,A,n,c,rfl,h⟩:=hx;obtain⟨bb,A',n',c',rfl,h'⟩:=hy;obtain⟨w2,hw2,hb2,hs2,b1,b2⟩:=pro2 w (.cells #[Value.bool ba,.slice A n c,.int .i64 x.exp] 225) (.cells #[Value.bool bb,.slice A' n' c',.int .i64 y.exp] 225);have HB:=hdd hb2;have HS:=hdd hs2;have HP:=hdd hp;have HQ:=hdd hq;have SX:=hdd sx;have SY:=hdd sy;obtain⟨c0,c1,c2,-,-,-⟩:=cells3 b1;obtain⟨d0,d1,d2,-,-,-⟩:=cells3 b2;have D1:Hid (DyP p w2 (.agg #[.bool ba,.slice A n c,.int .i64 x.exp]) x):=hdd ⟨_,_,_,_,rfl,h.below hb2⟩;have D2:Hid (DyP q w2 (.agg #[.bool bb,.slice A' n' c',.int .i64 y.exp]) y):=hdd ⟨_,_,_,_,rfl,h'.below hb2⟩;clear h h' hb2 b1 b2 hs2 hp hq sx sy;go_enter Tryz.func211,Tryz.ntmps211
 go_wp2_with fail
 have HSA:Hid (∀w',Below w2.heap.size w2 w'->Calls Tryz.prog 149 #[.agg #[.bool ba,.slice A n c,.int .i64 x.exp]] w' (RetK w' x.man.sign)):=hdd fun w' h=>dK (D1.out.below h);have HSB:Hid (∀w',Below w2.heap.size w2 w'->Calls Tryz.prog 149 #[.agg #[.bool bb,.slice A' n' c',.int .i64 y.exp]] w' (RetK w' y.man.sign)):=hdd fun w' h=>dK (D2.out.below h);have HTA:Hid (∀w',Below w2.heap.size w2 w'->Calls Tryz.prog 151 #[.agg #[.bool ba,.slice A n c,.int .i64 x.exp]] w' (RetK w' (topD x))):=hdd fun w' h=>rC (D1.out.below h) (by have:=SX.out.2;omega);have HTB:Hid (∀w',Below w2.heap.size w2 w'->Calls Tryz.prog 151 #[.agg #[.bool bb,.slice A' n' c',.int .i64 y.exp]] w' (RetK w' (topD y))):=hdd fun w' h=>rC (D2.out.below h) (by have:=SY.out.2;omega);have HBW:Below w2.heap.size w2 w2.drew:=(beA _ _).drew;replace c0:=cbl c0 HBW;replace c1:=cbl c1 HBW;replace c2:=cbl c2 HBW;replace d0:=cbl d0 HBW;replace d1:=cbl d1 HBW;replace d2:=cbl d2 HBW
 go_region_held3 (fun w'=>w'.cell? ⟨w.heap.size,0,none⟩=some (.bool ba)/\w'.cell? ⟨w.heap.size,1,none⟩=some (.slice A n c)/\w'.cell? ⟨w.heap.size,2,none⟩=some (.int .i64 x.exp)/\w'.cell? ⟨w.heap.size+1,0,none⟩=some (.bool bb)/\w'.cell? ⟨w.heap.size+1,1,none⟩=some (.slice A' n' c')/\w'.cell? ⟨w.heap.size+1,2,none⟩=some (.int .i64 y.exp)) (go_keep)
  (first
  |(go_at_call 149
    with_reducible refine(HSA.out _ (by assumption)).mono ?_
    rintro e w3⟨rfl,hb⟩;have c0:=cbl c0 hb;have c1:=cbl c1 hb;have c2:=cbl c2 hb;have d0:=cbl d0 hb;have d1:=cbl d1 hb;have d2:=cbl d2 hb;have HBW:=aC HBW hb)
  |(go_at_call 149
    with_reducible refine(HSB.out _ (by assumption)).mono ?_
    rintro e w4⟨rfl,hb⟩;have c0:=cbl c0 hb;have c1:=cbl c1 hb;have c2:=cbl c2 hb;have d0:=cbl d0 hb;have d1:=cbl d1 hb;have d2:=cbl d2 hb;have HBW:=aC HBW hb))
 have HB3:=hdd (HB.out.trans (HBW.mono HB.out.size));have HW3:=hdd HBW;have HLT:=hdd (@amS x y);have HGT:=hdd (@amT x y);have HEQ:=hdd (@agY x y);have HTL:=hdd (@akK x y);have HTG:=hdd (@agZ x y);clear HBW HSA HSB hw2;have hsb:-1<=x.man.sign/\x.man.sign<=1:=by
  rcases bd2 x.man 0 with h|h|h
  . rw[Int.sign_eq_neg_one_of_neg h];omega
  . rw[h];decide
  . rw[bd0 h];omega
 generalize x.man.sign=s at*;generalize y.man.sign=t at*;rcases bd2 s t with h|h|h
 . have h2:=HLT.out h
   have HF:Hid (RetK w (cmpD x y) (.returned (.int .i64 (-1))) _):=hdd ⟨by rw[h2],HB3.out⟩;clear h2;go_wp2;go_ret;exact HF.out
 . subst h
   by_cases hz:s=0
   . have h2:=HEQ.out rfl hz
     have hz2:(s==0)=true:=by rw[hz];rfl
     have HF:Hid (RetK w (cmpD x y) (.returned (.int .i64 0)) _):=hdd ⟨by rw[h2],HB3.out⟩;clear h2 hz;go_wp2;go_ret;exact HF.out
   . have hz2:(s==0)=false:=beq_eq_false_iff_ne.2 hz
     have HTL2:=hdd (HTL.out rfl hz);have HTG2:=hdd (HTG.out rfl hz);clear HLT HGT HEQ HTL HTG;go_wp2_with fail
     have HBW:Below w2.heap.size w2 w4.drew:=HW3.out.drew;have hdr:Below w4.heap.size w4 w4.drew:=(beA _ _).drew;replace c0:=cbl c0 hdr;replace c1:=cbl c1 hdr;replace c2:=cbl c2 hdr;replace d0:=cbl d0 hdr;replace d1:=cbl d1 hdr;replace d2:=cbl d2 hdr;clear hdr
     go_region_held3 (fun w'=>w'.cell? ⟨w.heap.size,0,none⟩=some (.bool ba)/\w'.cell? ⟨w.heap.size,1,none⟩=some (.slice A n c)/\w'.cell? ⟨w.heap.size,2,none⟩=some (.int .i64 x.exp)/\w'.cell? ⟨w.heap.size+1,0,none⟩=some (.bool bb)/\w'.cell? ⟨w.heap.size+1,1,none⟩=some (.slice A' n' c')/\w'.cell? ⟨w.heap.size+1,2,none⟩=some (.int .i64 y.exp)) (go_keep)
      (first
      |(go_at_call 151
        with_reducible refine(HTA.out _ (by assumption)).mono ?_
        rintro e w5⟨rfl,hb⟩;have c0:=cbl c0 hb;have c1:=cbl c1 hb;have c2:=cbl c2 hb;have d0:=cbl d0 hb;have d1:=cbl d1 hb;have d2:=cbl d2 hb;have HBW:=aC HBW hb)
      |(go_at_call 151
        with_reducible refine(HTB.out _ (by assumption)).mono ?_
        rintro e w6⟨rfl,hb⟩;have c0:=cbl c0 hb;have c1:=cbl c1 hb;have c2:=cbl c2 hb;have d0:=cbl d0 hb;have d1:=cbl d1 hb;have d2:=cbl d2 hb;have HBW:=aC HBW hb))
     have HB6:=hdd (HB.out.trans (HBW.mono HB.out.size));replace D1:=hdd (D1.out.below HBW);replace D2:=hdd (D2.out.below HBW);clear HBW HTA HTB HB3 HW3;generalize topD x=m at*;generalize topD y=n at*;rcases bd2 m n with h|h|h
     . have h2:=HTL2.out h
       have hw:IntKind.i64.wrap (-s)=-s:=wrap_i64 (by omega);have hw2:IntKind.i64.wrap (0-s)=-s:=by rw[wrap_i64 (by omega)];omega
       have HF:Hid (RetK w (cmpD x y) (.returned (.int .i64 (-s))) _):=hdd ⟨by rw[h2],HB6.out⟩;clear h2;go_wp2;go_ret;exact HF.out
     . subst h
       clear HTL2 HTG2;go_wp2_with fail
       refine(y7 D1.out D2.out (fun b hb=>by have:=HP.out b hb;have:=HB6.out.size;omega) (fun b hb=>by have:=HQ.out b hb;have:=HB6.out.size;omega) SX.out.1 SY.out.1 SX.out.2 SY.out.2).mono ?_;rintro r w7⟨hb,u1,U1,m1,k1,u2,U2,m2,k2,rfl,hX,hY⟩;have hX':=hX.weak (q:=fun b=>b<w7.heap.size) fun b _ h=>h;have hY':=hY.weak (q:=fun b=>b<w7.heap.size) fun b _ h=>h;replace HB6:=hdd (HB6.out.trans (hb.mono HB6.out.size));obtain⟨w8,hw8,hb8,hs8,q1,q2⟩:=pro2 w7 (.cells #[Value.bool false,Value.slice none 0 0] 223) (.cells #[Value.bool false,Value.slice none 0 0] 223);obtain⟨g0,g1,g2,g3⟩:=aD q1;obtain⟨i0,i1,i2,i3⟩:=aD q2;clear c0 c1 c2 d0 d1 d2 D1 D2;have r1:=set2 q1 (.bool u1) (.slice U1 m1 k1);have q2':((w8.setCell ⟨w7.heap.size,0,none⟩ (.bool u1)).setCell ⟨w7.heap.size,1,none⟩ (.slice U1 m1 k1)).heap[w7.heap.size+1]? =some (.cells #[Value.bool false,Value.slice none 0 0] 223 (0,0)):=by
        rw[bdY _ _ _ _ (by simp),bdY _ _ _ _ (by simp)];exact q2
       have r2:=set2 q2' (.bool u2) (.slice U2 m2 k2);have r1':((((w8.setCell ⟨w7.heap.size,0,none⟩ (.bool u1)).setCell ⟨w7.heap.size,1,none⟩ (.slice U1 m1 k1)).setCell ⟨w7.heap.size+1,0,none⟩ (.bool u2)).setCell ⟨w7.heap.size+1,1,none⟩ (.slice U2 m2 k2)).heap[w7.heap.size]? =some (.cells #[.bool u1,.slice U1 m1 k1] 223 (0,0)):=by
        rw[bdY _ _ _ _ (by simp),bdY _ _ _ _ (by simp)];exact r1
       have hbb:Below w7.heap.size w7 ((((w8.setCell ⟨w7.heap.size,0,none⟩ (.bool u1)).setCell ⟨w7.heap.size,1,none⟩ (.slice U1 m1 k1)).setCell ⟨w7.heap.size+1,0,none⟩ (.bool u2)).setCell ⟨w7.heap.size+1,1,none⟩ (.slice U2 m2 k2)):=(((hb8.setCell (by simp) _).setCell (by simp) _).setCell (by simp) _).setCell (by simp) _;obtain⟨j0,j1,-,-⟩:=aD r1';obtain⟨l0,l1,-,-⟩:=aD r2;have HCI:=hdd (aiN (hX'.below hbb) (hY'.below hbb));have HB8:=hdd (HB6.out.trans (hbb.mono HB6.out.size));clear hX hY hX' hY' hb hb8 hs8 q1 q2 q2' r1 r1' r2 hbb;go_wp2_with fail
       refine HCI.out.mono ?_;rintro r w9⟨rfl,hb⟩;have HF:Hid (RetK w (cmpD x y) (.returned (.int .i64 (cmpD x y))) _):=hdd ⟨rfl,HB8.out.trans (hb.mono HB8.out.size)⟩;clear hb;go_wp2;go_ret;exact HF.out
     . have h2:=HTG2.out h
       have h3:¬m<n:=by omega
       have HF:Hid (RetK w (cmpD x y) (.returned (.int .i64 s)) _):=hdd ⟨by rw[h2],HB6.out⟩;clear h2;go_wp2;go_ret;exact HF.out
 . have h2:=HGT.out h
   have HF:Hid (RetK w (cmpD x y) (.returned (.int .i64 1)) _):=hdd ⟨by rw[h2],HB3.out⟩;have h3:¬s<t:=by omega
   clear h2;go_wp2;go_ret;exact HF.out
theorem sF{p:Int}(hp:1<=p/\p<=65536):Calls Tryz.prog 223 #[.int .i64 p] w (fun e w'=>e=.returned (.int .i64 p)/\w=w'):=by
 go_enter Tryz.func223,Tryz.ntmps223
 go_wp2;go_ret;exact⟨by show Ending.returned (.int .i64 (max 1 (min p 65536)))=_;rw[show max 1 (min p 65536)=p from by omega],rfl⟩
theorem bR(h:g≠i)(u v x:Value):(((w.setCell ⟨g,0,none⟩ u).setCell ⟨g,1,none⟩ v).setCell ⟨g,2,none⟩ x).heap[i]? =w.heap[i]? :=by
 rw[bdY _ _ _ _ (by simp;omega),bdY _ _ _ _ (by simp;omega),bdY _ _ _ _ (by simp;omega)]
theorem ad3{P dir:Int}(hx:DyP p w va x)(hT:Tab w)(sx:SmD x)(hP:1<=P/\P<=65536)(hb:(bits (mkDy x.man x.exp).man.natAbs:Int)<=P):
 Calls Tryz.prog 209 #[va,.int .i64 P,.int .i64 dir] w (RetD w.heap.size w (mkDy x.man x.exp)):=by
 obtain⟨ba,A,n,c,rfl,h⟩:=hx;obtain⟨w2,hw2,hb2,hs2,b1,b2⟩:=pro2 w (.cells #[Value.bool ba,.slice A n c,.int .i64 x.exp] 225) (.cells #[Value.bool false,Value.slice none 0 0,.int .i64 0] 225);have HB:=hdd hb2;have HS:=hdd hs2;have B1:=hdd b1;have B2:=hdd b2;have HBI:=hdd hb;have HPP:=hdd hP;obtain⟨c0,c1,c2,-,-,-⟩:=cells3 b1;have HMK:=hdd (dQ (e:=x.exp) (h.below hb2) (hT.below hb2) (by have:=sx.1;omega) (by have:=sx.2;omega));have HSX:=hdd sx;clear h hb2 b1 b2 hs2 hT sx hb;go_enter Tryz.func209,Tryz.ntmps209
 go_wp2_with fail
 refine HMK.out.mono ?_;rintro r w3⟨hb,v5,rfl,hz⟩;obtain⟨b6,A6,n6,c6,rfl,hz2⟩:=id hz;have B13:=hbl B1.out hb;have B23:=hdd (hbl B2.out hb);obtain⟨e0,e1,e2,e3,e4,e5⟩:=cells3 B13;have S1:=set3 B13 (.bool b6) (.slice A6 n6 c6) (.int .i64 (mkDy x.man x.exp).exp);have hI:IntP (fun b=>w2.heap.size<=b) (((w3.setCell ⟨w.heap.size,0,none⟩ (.bool b6)).setCell ⟨w.heap.size,1,none⟩ (.slice A6 n6 c6)).setCell ⟨w.heap.size,2,none⟩ (.int .i64 (mkDy x.man x.exp).exp)) (.agg #[.bool b6,.slice A6 n6 c6]) (mkDy x.man x.exp).man:=
  ((hz2.setCell (fun b hb=>by have:=HS.out;simp;omega) _).setCell (fun b hb=>by have:=HS.out;simp;omega) _).setCell (fun b hb=>by have:=HS.out;simp;omega) _
 have S2:=(bR (w:=w3) (g:=w.heap.size) (i:=w.heap.size+1) (by omega) (.bool b6) (.slice A6 n6 c6) (.int .i64 (mkDy x.man x.exp).exp)).trans B23.out;have hbb:Below w.heap.size w (((w3.setCell ⟨w.heap.size,0,none⟩ (.bool b6)).setCell ⟨w.heap.size,1,none⟩ (.slice A6 n6 c6)).setCell ⟨w.heap.size,2,none⟩ (.int .i64 (mkDy x.man x.exp).exp)):=(((HB.out.trans (hb.mono HB.out.size)).setCell (by simp) _).setCell (by simp) _).setCell (by simp) _;generalize hE:(mkDy x.man x.exp).exp=E at*;generalize hW:((w3.setCell ⟨w.heap.size,0,none⟩ (.bool b6)).setCell ⟨w.heap.size,1,none⟩ (.slice A6 n6 c6)).setCell ⟨w.heap.size,2,none⟩ (.int .i64 E)=w4 at*;obtain⟨c0,c1,c2,-,-,-⟩:=cells3 S1;obtain⟨xs,hx1,-,hx3,-⟩:=hI.get;have HBT:=hdd (dM hx1);have HI:=hdd hI;have HS1:=hdd S1;have HS2:=hdd S2;have HBB:=hdd hbb;have hle:¬(0:Int)<(bits (val xs):Int)-P:=by have:=HBI.out;rw[hx3];omega
 have hle2:(bits (val xs):Int)-P<=0:=by omega
 have hwr:IntKind.i64.wrap ((bits (val xs):Int)-P)=(bits (val xs):Int)-P:=wrap_i64 (by have:=HPP.out;omega);have HWD:=fun w'=>sF (w:=w') HPP.out;clear hx1 hx3 hI S1 S2 hbb hz hz2 hb B13 hP;go_wp2_with fail
 refine HBT.out.mono ?_;rintro r w5⟨rfl,k,rfl⟩;have hd:=below_drewN w4 k;replace c0:=cbl c0 hd;replace c1:=cbl c1 hd;replace c2:=cbl c2 hd;replace HI:=hdd (HI.out.below hd);replace HS2:=hdd (hbl HS2.out hd);replace HBB:=hdd (HBB.out.trans (hd.mono HBB.out.size));clear hd HS1;generalize w4.drewN k=w5 at*;have HWD5:=hdd (HWD w5);clear HWD;go_wp2_with fail
 refine HWD5.out.mono ?_;rintro r w6⟨rfl,hw⟩;obtain rfl:=hw;obtain⟨f0,f1,f2,f3,f4,f5⟩:=cells3 HS2.out;have hD:DyP (fun b=>w2.heap.size<=b) w5 (.agg #[.bool b6,.slice A6 n6 c6,.int .i64 E]) (mkDy x.man x.exp):=⟨b6,A6,n6,c6,by rw[hE],HI.out⟩;obtain⟨HFF,hFF⟩:=aV HBB.out (g:=w.heap.size+1) (by omega) HS2.out hD (fun b hb=>by have:=HS.out;omega);replace hFF:=hdd hFF;clear hD;go_wp2;obtain⟨f0,f1,f2,-,-,-⟩:=cells3 hFF.out;refine bodyPost_ret (v:=.agg #[_,_,_]) (by simp[results,Tryz.results209,go_sem,f0,f1,f2];first|exact⟨rfl,rfl,rfl⟩|rfl) rfl ?_;exact HFF.out
theorem akM(hb:b<2^64)(hf:fin b):
 (b/2^52%2048=0->fv b=sg (fneg b) (b%2^52))/\(b/2^52%2048≠0->fv b=sg (fneg b) (b%2^52+2^52)*(2^(b/2^52%2048-1):Nat)):=by
 have hr:rung b=b%2^63:=rfl;have key:fv b=sg (fneg b) (mg (rung b)):=by
  unfold fv sr fvr sg
  cases fneg b
  . simp only[Bool.false_eq_true,if_false];rw[if_neg (by omega),bdZ]
  . simp only[if_true]
    rw[Int.natAbs_neg,bdZ];rcases Nat.eq_zero_or_pos (rung b)with h0|h0
    . rw[h0,qI];simp
    . rw[if_pos (by omega)]
 refine⟨fun h=> ?_,fun h=> ?_⟩
 . rw[key,kF _ (by omega)]
   congr 1;omega
 . rw[key,jD _ (by omega),<-mO]
   congr 1
   have e1:rung b/2^52=b/2^52%2048:=by omega
   have e2:rung b%2^52=b%2^52:=by omega
   rw[e1,e2,Nat.add_comm]
theorem akN(hb:b<18446744073709551616):(Go.bits BinOp.and IntKind.u64 (b:Int) 9223372036854775808 != 0)=fneg b:=by
 have h:=u64_and_nat b 9223372036854775808 hb (by omega);rw[show((9223372036854775808:Int))=((9223372036854775808:Nat):Int) from rfl,h,show(9223372036854775808:Nat)=2^63 from rfl];have e1:(b &&& 2^63)/2^63=b/2^63%2:=by rw[Nat.and_div_two_pow,Nat.div_self (by omega),Nat.and_one_is_mod]
 have e2:(b &&& 2^63)%2^63=0:=by rw[Nat.and_mod_two_pow,Nat.mod_self,Nat.and_zero]
 have e3:=Nat.div_add_mod (b &&& 2^63) (2^63);rw[e1,e2]at e3;unfold fneg;by_cases hc:b/2^63%2=1
 . rw[beq_iff_eq.2 hc,<-e3,hc];decide
 . rw[beq_eq_false_iff_ne.2 hc,<-e3,show b/2^63%2=0 from by omega];decide
theorem apD{m:Nat}(hm:m<4503599627370496):Go.bits BinOp.or IntKind.u64 (m:Int) 4503599627370496=((m+4503599627370496:Nat):Int):=by
 have h:=u64_or_nat m 4503599627370496 (by omega) (by omega);rw[show((4503599627370496:Int))=((4503599627370496:Nat):Int) from rfl,h]
 congr 1
 have:=Nat.two_pow_add_eq_or_of_lt (i:=52) (b:=m) hm 1;rw[Nat.or_comm,show(4503599627370496:Nat)=2^52*1 from rfl,<-this];omega
theorem ad4(hb:b<2^64)(hf:fin b):(b/2^52%2048=0->mkDy (sg (fneg b) (b%2^52)) (-1074)=mkDy (fv b) (-1074))/\
 (b/2^52%2048≠0->mkDy (sg (fneg b) (b%2^52+2^52)) ((b/2^52%2048:Nat)-1+-1074)=mkDy (fv b) (-1074)):=by
 obtain⟨h1,h2⟩:=akM hb hf;refine⟨fun h=>by rw[h1 h],fun h=> ?_⟩;rw[h2 h];refine uW (j:=b/2^52%2048-1) (k:=0) (by simp) (by omega)
def tV(B:Nat)(w0:World)(d:Dy)(t:Bool)(e:Ending)(w':World):Prop:=
 Below B w0 w'/\∃v,e=.returned (.tuple #[v,.bool t])/\DyP (fun b=>B<=b) w' v d
theorem eZ{w':World}{d:Dy}{t:Bool}{v:Value}(h:RetD B w0 d (.returned v) w'):tV B w0 d t (.returned (.tuple #[v,.bool t])) w':=by
 obtain⟨h1,v',e,h2⟩:=h;injection e with e;subst e;exact⟨h1,v,rfl,h2⟩
theorem tX(hb:b<18446744073709551616)(hf:fin b)(hT:Tab w):
 Calls Tryz.prog 186 #[.float .f64 b] w (tV w.heap.size w (mkDy (fv b) (-1074)) true):=by
 obtain⟨w1,hw1,hb1,hs1,b1⟩:=pro1 w (.cells #[Value.bool false,Value.slice none 0 0,.int .i64 0] 225);have F1:=hdd (iT (b:=b) (w:=w1) hb);rw[decide_eq_true hf]at F1;have hbits:=fF b;have hS:=akN hb;have hA:=zU b 52 hb (by omega);rw[show(((2^52-1:Nat)):Int)=4503599627370495 from rfl]at hA;have hX:=zU (b/4503599627370496) 11 (by omega) (by omega);rw[show(((2^11-1:Nat)):Int)=2047 from rfl,show((b/4503599627370496:Nat):Int)=(b:Int)/4503599627370496 from by omega]at hX;have hO:=apD (m:=b%2^52) (by omega);obtain⟨M1,M2⟩:=ad4 hb hf;rw[show b/4503599627370496%2^11=b/2^52%2048 from rfl]at hX;have hm:=beB b (show 2^52>0 by omega);have hx:=beB (b/2^52) (show 2048>0 by omega);generalize b/2^52%2048=x at*;generalize b%2^52=m at*;have hcv:IntKind.i64.wrap (x:Int)=(x:Int):=wrap_i64 (by omega);have HB:=hdd hb1;have HS:=hdd hs1;have B1:=hdd b1;have HT:=hdd (hT.below hb1);clear hb1 b1 hT hb hf;by_cases h0:x=0
 . subst h0
   have HM:=hdd (M1 rfl);obtain⟨w2,hw2,hb2,hs2,q2⟩:=pro1 w1 (.cells #[.int .u64 ((m:Nat):Int)] 140);have HN:=hdd (lZ (NatP.one (x:=m) (by unfold B64;omega) q2 (p:=AnyB) trivial));rw[hs1]at HN;have HB2:=hdd (HB.out.trans (hb2.mono HB.out.size));have B12:=hdd (aF B1.out hb2 (aH B1.out));have HT2:=hdd (HT.out.below hb2);have HS2:=hdd hs2;clear hb2 hs2 q2 HB HT;go_enter Tryz.func186,Tryz.ntmps186
   go_wp2_with fail
   refine F1.out.mono ?_;rintro e w3⟨rfl,hw⟩;obtain rfl:=hw;go_wp2_with fail
   refine HN.out.mono ?_;rintro r w3⟨hb,v3,zs,rfl,hz,tz,hvz⟩;have HMK:=hdd (dR (b:=fneg b) hz);replace HB2:=hdd (HB2.out.trans (hb.mono HB2.out.size));replace B12:=hdd (aF B12.out hb (aH B12.out));replace HT2:=hdd (HT2.out.below hb);replace HS2:=hdd (bd3 (bd8 HS2.out.symm) hb.size);have hv1:val zs=m:=by rw[hvz];simp[val]
   rw[hv1]at HMK;have hbl:bits (m)<=53:=by rw[aG];omega
   clear hb hz tz hvz hw1 hw2;go_wp2_with fail
   refine HMK.out.mono ?_;rintro r w4⟨hb,v4,rfl,hz⟩;have HMD:=hdd (dQ (e:=-1074) hz (HT2.out.below hb) (by rw[bV];omega) (by omega));rw[HM.out]at HMD;replace HB2:=hdd (HB2.out.trans (hb.mono HB2.out.size));replace B12:=hdd (aF B12.out hb (aH B12.out));replace HS2:=hdd (bd3 HS2.out hb.size);have hw1:True:=trivial;clear hb hz;go_wp2_with fail
   refine HMD.out.mono ?_;rintro r w5⟨hb,v5,rfl,hz⟩;obtain⟨b6,A6,n6,c6,rfl,-⟩:=id hz;have B15:=aF B12.out hb (aH B12.out);obtain⟨e0,e1,e2,e3,e4,e5⟩:=cells3 B15;obtain⟨HFF,hFF⟩:=aV (HB2.out.trans (hb.mono HB2.out.size)) (g:=w.heap.size) (by omega) B15 hz (fun b hb=>by have:=HS.out;have:=HS2.out;omega);replace hFF:=hdd hFF;have HFB:=hdd (eZ (t:=true) HFF.out);clear hz hb B15 HFF;go_wp2;obtain⟨f0,f1,f2,-,-,-⟩:=cells3 hFF.out;refine bodyPost_ret (v:=.tuple #[.agg #[_,_,_],_]) (by simp[results,Tryz.results186,go_sem,f0,f1,f2];first|exact⟨⟨rfl,rfl,rfl⟩,rfl⟩|rfl) rfl ?_;exact HFB.out
 . have hx0:((x:Int)==0)=false:=beq_eq_false_iff_ne.2 (by omega)
   obtain⟨M,hM⟩:∃M,M=m+2^52:=⟨_,rfl⟩;have hO2:Go.bits BinOp.or IntKind.u64 (m:Int) 4503599627370496=(M:Int):=by rw[hM];exact hO
   rw[<-hM]at M2;have hm2:M<2^53:=by omega
   clear hO hM;have HM:=hdd (M2 h0);obtain⟨w2,hw2,hb2,hs2,q2⟩:=pro1 w1 (.cells #[.int .u64 ((M:Nat):Int)] 140);have HN:=hdd (lZ (NatP.one (x:=M) (by unfold B64;omega) q2 (p:=AnyB) trivial));rw[hs1]at HN;have HB2:=hdd (HB.out.trans (hb2.mono HB.out.size));have B12:=hdd (aF B1.out hb2 (aH B1.out));have HT2:=hdd (HT.out.below hb2);have HS2:=hdd hs2;clear hb2 hs2 q2 HB HT;go_enter Tryz.func186,Tryz.ntmps186
   go_wp2_with fail
   refine F1.out.mono ?_;rintro e w3⟨rfl,hw⟩;obtain rfl:=hw;go_wp2_with fail
   refine HN.out.mono ?_;rintro r w3⟨hb,v3,zs,rfl,hz,tz,hvz⟩;have HMK:=hdd (dR (b:=fneg b) hz);replace HB2:=hdd (HB2.out.trans (hb.mono HB2.out.size));replace B12:=hdd (aF B12.out hb (aH B12.out));replace HT2:=hdd (HT2.out.below hb);replace HS2:=hdd (bd3 (bd8 HS2.out.symm) hb.size);have hv1:val zs=M:=by rw[hvz];simp[val]
   rw[hv1]at HMK;have hbl:bits M<=53:=by rw[aG];omega
   clear hb hz tz hvz hw1 hw2;go_wp2_with fail
   refine HMK.out.mono ?_;rintro r w4⟨hb,v4,rfl,hz⟩;have HMD:=hdd (dQ (e:=(x:Nat)-1+-1074) hz (HT2.out.below hb) (by rw[bV];omega) (by omega));rw[HM.out]at HMD;replace HB2:=hdd (HB2.out.trans (hb.mono HB2.out.size));replace B12:=hdd (aF B12.out hb (aH B12.out));replace HS2:=hdd (bd3 HS2.out hb.size);have hw1:True:=trivial;clear hb hz;go_wp2_with fail
   refine HMD.out.mono ?_;rintro r w5⟨hb,v5,rfl,hz⟩;obtain⟨b6,A6,n6,c6,rfl,-⟩:=id hz;have B15:=aF B12.out hb (aH B12.out);obtain⟨e0,e1,e2,e3,e4,e5⟩:=cells3 B15;obtain⟨HFF,hFF⟩:=aV (HB2.out.trans (hb.mono HB2.out.size)) (g:=w.heap.size) (by omega) B15 hz (fun b hb=>by have:=HS.out;have:=HS2.out;omega);replace hFF:=hdd hFF;have HFB:=hdd (eZ (t:=true) HFF.out);clear hz hb B15 HFF;go_wp2;obtain⟨f0,f1,f2,-,-,-⟩:=cells3 hFF.out;refine bodyPost_ret (v:=.tuple #[.agg #[_,_,_],_]) (by simp[results,Tryz.results186,go_sem,f0,f1,f2];first|exact⟨⟨rfl,rfl,rfl⟩,rfl⟩|rfl) rfl ?_;exact HFB.out
theorem aJ{b:Value}(h:w.heap[g]? =some (.cells #[a,b,c,d,e,f] T (0,0))):
 w.cell? ⟨g,0,none⟩=some a/\w.cell? ⟨g,1,none⟩=some b/\w.cell? ⟨g,2,none⟩=some c/\w.cell? ⟨g,3,none⟩=some d/\w.cell? ⟨g,4,none⟩=some e/\w.cell? ⟨g,5,none⟩=some f:=by
 refine⟨?_,?_,?_,?_,?_,?_⟩<;>simp[World.cell?,h]
theorem iD{b:Value}(h:w.heap[g]? =some (.cells #[a,b,c,d,e,f] T (0,0))):
 w.frozen? ⟨g,0,none⟩=false/\w.frozen? ⟨g,1,none⟩=false/\w.frozen? ⟨g,2,none⟩=false/\w.frozen? ⟨g,3,none⟩=false/\w.frozen? ⟨g,4,none⟩=false/\w.frozen? ⟨g,5,none⟩=false:=by
 refine⟨?_,?_,?_,?_,?_,?_⟩<;>simp[World.frozen?,h]
def put6(w:World)(g:Nat)(a b c d e f:Value):World:=
 (((((w.setCell ⟨g,0,none⟩ a).setCell ⟨g,1,none⟩ b).setCell ⟨g,2,none⟩ c).setCell ⟨g,3,none⟩ d).setCell ⟨g,4,none⟩ e).setCell ⟨g,5,none⟩ f
theorem jA{b:Value}(h:w.heap[g]? =some (.cells #[a,b,c,d,e,f] T (0,0)))(u v x y z t:Value):
 (put6 w g u v x y z t).heap[g]? =some (.cells #[u,v,x,y,z,t] T (0,0)):=by
 have hg:g<w.heap.size:=(Array.getElem?_eq_some_iff.1 h).1;have h':w.heap[g]=.cells #[a,b,c,d,e,f] T (0,0):=(Array.getElem?_eq_some_iff.1 h).2;simp[put6,World.setCell,hg,Array.getElem_modify,h']
theorem fV(hb:Below B w0 w)(hg:B<=g)(u v x y z t:Value):Below B w0 (put6 w g u v x y z t):=
 (((((hb.setCell hg _).setCell hg _).setCell hg _).setCell hg _).setCell hg _).setCell hg _
theorem wU(h:g≠i)(u v x y z t:Value):(put6 w g u v x y z t).heap[i]? =w.heap[i]? :=by
 unfold put6;rw[bdY _ _ _ _ (by simp;omega),bdY _ _ _ _ (by simp;omega),bdY _ _ _ _ (by simp;omega),bdY _ _ _ _ (by simp;omega),bdY _ _ _ _ (by simp;omega),bdY _ _ _ _ (by simp;omega)]
theorem jK{z0:Int}(h:IntP p w va z0)(ha:∀b,p b->b≠g)(u v x y z t:Value):IntP p (put6 w g u v x y z t) va z0:=
 (((((h.setCell (a:=⟨g,0,none⟩) ha u).setCell (a:=⟨g,1,none⟩) ha v).setCell (a:=⟨g,2,none⟩) ha x).setCell (a:=⟨g,3,none⟩) ha y).setCell (a:=⟨g,4,none⟩) ha z).setCell (a:=⟨g,5,none⟩) ha t
theorem akO(hx:DyP p w va x)(hT:Tab w)(sx:SmD x):
 Calls Tryz.prog 207 #[va] w (RetD w.heap.size w (mkDy x.man x.exp)):=by
 obtain⟨ba,A,n,c,rfl,h⟩:=hx;obtain⟨w2,hw2,hb2,hs2,b1,b2⟩:=pro2 w (.cells #[Value.bool ba,.slice A n c,.int .i64 x.exp] 225) (.cells #[Value.bool false,Value.slice none 0 0,.int .i64 0] 225);have HB:=hdd hb2;have HS:=hdd hs2;have B2:=hdd b2;obtain⟨c0,c1,c2,-,-,-⟩:=cells3 b1;have HMK:=hdd (dQ (e:=x.exp) (h.below hb2) (hT.below hb2) (by have:=sx.1;omega) (by have:=sx.2;omega));clear h hb2 b1 b2 hs2 hT sx;go_enter Tryz.func207,Tryz.ntmps207
 go_wp2_with fail
 refine HMK.out.mono ?_;rintro r w3⟨hb,v5,rfl,hz⟩;obtain⟨b6,A6,n6,c6,rfl,-⟩:=id hz;have B23:=hbl B2.out hb;obtain⟨e0,e1,e2,e3,e4,e5⟩:=cells3 B23;obtain⟨HFF,hFF⟩:=aV (HB.out.trans (hb.mono HB.out.size)) (g:=w.heap.size+1) (by omega) B23 hz (fun b hb=>by have:=HS.out;omega);replace hFF:=hdd hFF;clear hz hb B23 c0 c1 c2;go_wp2;obtain⟨f0,f1,f2,-,-,-⟩:=cells3 hFF.out;refine bodyPost_ret (v:=.agg #[_,_,_]) (by simp[results,Tryz.results207,go_sem,f0,f1,f2];first|exact⟨rfl,rfl,rfl⟩|rfl) rfl ?_;exact HFF.out
end Go.Proofs.YtjaafolhfihegaaGreatDoor
namespace Go.Proofs.YtjaafolhfihegaaGreatDoor
open Bool renaming false_eq_true->beJ,toNat->beN
open Nat renaming two_pow_pos->beD,pow_add->beK
open Rat renaming intCast_natCast->beC,natCast_le_natCast->beE,intCast_mul->beF,natCast_mul->beG,mul_pos->beH,mul_nonneg->beI,intCast_neg->beL,intCast_neg_iff->beM,natCast_add->beO,le_refl->beP
variable{a b x:Int}{P m:Nat}
def p2(e:Int):Rat:=if 0<=e then((2^e.toNat:Nat):Rat)else 1/((2^(-e).toNat:Nat):Rat)
theorem wV(k:Nat):(0:Rat)<((2^k:Nat):Rat):=Rat.natCast_pos.2 (beD k)
theorem fP(k:Nat):p2 k=((2^k:Nat):Rat):=by unfold p2;rw[if_pos (by omega)];rfl
theorem rD(e:Int)(k:Nat)(h:0<=e+k):p2 e*((2^k:Nat):Rat)=((2^(e+k).toNat:Nat):Rat):=by
 unfold p2
 split
 . rw[<-beG,<-beK];congr 2;omega
 . have e1:k=(-e).toNat+(e+k).toNat:=by omega
   have h2:=wV (-e).toNat
   conv=>lhs;rw[e1]
   rw[beK,beG];generalize ((2^(-e).toNat:Nat):Rat)=a at*;generalize ((2^(e+k).toNat:Nat):Rat)=b at*;grind
theorem bU(e:Int):0<p2 e:=by
 unfold p2;split
 . exact wV _
 . exact dO (by decide) (wV _)
theorem dE(a b:Int):p2 (a+b)=p2 a*p2 b:=by
 have h1:=rD a a.natAbs (by omega);have h2:=rD b b.natAbs (by omega);have h3:=rD (a+b) (a.natAbs+b.natAbs) (by omega);have e1:(a+b+((a.natAbs+b.natAbs:Nat):Int)).toNat=(a+(a.natAbs:Nat)).toNat+(b+(b.natAbs:Nat)).toNat:=by omega
 rw[e1,beK,beK,beG,beG,<-h1,<-h2]at h3;have k1:=wV a.natAbs;have k2:=wV b.natAbs;generalize ((2^a.natAbs:Nat):Rat)=x at*;generalize ((2^b.natAbs:Nat):Rat)=y at*;have k3:=beH k1 k2;have h4:(p2 (a+b)-p2 a*p2 b)*(x*y)=0:=by grind
 rcases Rat.mul_eq_zero.1 h4 with h5|h5<;>grind
theorem mP:p2 0=1:=by decide
theorem aoU:p2 1=2:=by decide
theorem jG(e:Int):p2 (e+1)=2*p2 e:=by rw[dE,aoU];grind
theorem lQ(h:a<=b):p2 a<=p2 b:=by
 have e:b=a+((b-a).toNat:Nat):=by omega
 rw[e,dE,fP];have h1:(1:Rat)<=((2^(b-a).toNat:Nat):Rat):=by
  have:=beE.2 (beD (b-a).toNat);simpa using this
 have:=beI (a:=p2 a) (b:=((2^(b-a).toNat:Nat):Rat)-1) (by have:=bU a;grind) (by grind);grind
theorem anU(h:a<b):p2 a<p2 b:=by
 have h1:=lQ (show a+1<=b by omega);rw[jG]at h1;have:=bU a;grind
theorem ag0:p2 a<p2 b↔a<b:=by
 constructor
 . intro h
   rcases Int.lt_or_le a b with h1|h1
   . exact h1
   . have:=lQ h1;grind
 . exact anU
def rv(d:Dy):Rat:=(d.man:Rat)*p2 d.exp
theorem mQ(e:Int):rv ⟨0,e⟩=0:=by unfold rv;simp
theorem lS(x e:Int):rv (mkDy x e)=(x:Rat)*p2 e:=by
 rcases jF x e with ⟨h1,h2⟩|⟨h1,h2,h3,h4⟩
 . rw[h1,h2,mQ];simp
 . unfold rv
   generalize mkDy x e=d at*;have e1:d.exp=e+((d.exp-e).toNat:Nat):=by omega
   conv=>rhs;rw[h4]
   conv=>lhs;rw[e1]
   rw[dE,fP,beF,beC];grind
def Canon(d:Dy):Prop:=mkDy d.man d.exp=d
theorem Canon.mk (x e:Int):Canon (mkDy x e):=oP x e
theorem aaI(a b:Dy):rv (addD a b)=rv a+rv b:=by
 unfold addD
 split
 . rename_i h;rw[lS];unfold rv;rw[h];simp[Rat.zero_add]
 . split
   . rename_i h;rw[lS];unfold rv;rw[h];simp[Rat.add_zero]
   . rw[lS,iY,iZ,Rat.intCast_add,beF,beF,beC,beC,<-fP,<-fP]
     unfold rv;have e1:p2 a.exp=p2 ((a.exp-min a.exp b.exp).toNat:Nat)*p2 (min a.exp b.exp):=by rw[<-dE];congr 1;omega
     have e2:p2 b.exp=p2 ((b.exp-min a.exp b.exp).toNat:Nat)*p2 (min a.exp b.exp):=by rw[<-dE];congr 1;omega
     rw[e1,e2];grind
theorem gX(a b:Dy):rv (mulD a b)=rv a*rv b:=by
 unfold mulD rv;have:=lS (a.man*b.man) (a.exp+b.exp);unfold rv at this;rw[this,beF,dE];grind
theorem oQ(a:Dy):rv (notD a)=-rv a:=by
 unfold notD;rw[lS];unfold rv;rw[beL];grind
theorem bH(d:Dy):(0<rv d↔0<d.man)/\(rv d<0↔d.man<0)/\(rv d=0↔d.man=0):=by
 have hp:=bU d.exp;unfold rv;rcases Int.lt_trichotomy d.man 0 with h|h|h
 . have h1:(d.man:Rat)<0:=beM.2 h
   have h2:=beH (a:=-(d.man:Rat)) (b:=p2 d.exp) (by grind) hp;refine⟨⟨fun _=>by grind,fun _=>by omega⟩,⟨fun _=>h,fun _=>by grind⟩,⟨fun _=>by grind,fun _=>by omega⟩⟩
 . rw[h]
   have h0:((0:Int):Rat)=0:=rfl;refine⟨⟨fun _=>by grind,fun _=>by omega⟩,⟨fun _=>by grind,fun _=>by omega⟩,⟨fun _=>rfl,fun _=>by grind⟩⟩
 . have h1:0<(d.man:Rat):=Rat.intCast_pos.2 h
   have h2:=beH (a:=(d.man:Rat)) (b:=p2 d.exp) h1 hp;refine⟨⟨fun _=>h,fun _=>h2⟩,⟨fun _=>by grind,fun _=>by omega⟩,⟨fun _=>by grind,fun _=>by omega⟩⟩
theorem akP(a b:Dy):(cmpD a b<0↔rv a<rv b)/\(0<cmpD a b↔rv b<rv a):=by
 have e1:rv a=(dW a b:Rat)*p2 (min a.exp b.exp):=by
  rw[iY,beF,beC,<-fP];have:p2 a.exp=p2 ((a.exp-min a.exp b.exp).toNat:Nat)*p2 (min a.exp b.exp):=by rw[<-dE];congr 1;omega
  unfold rv;rw[this];grind
 have e2:rv b=(dX a b:Rat)*p2 (min a.exp b.exp):=by
  rw[iZ,beF,beC,<-fP];have:p2 b.exp=p2 ((b.exp-min a.exp b.exp).toNat:Nat)*p2 (min a.exp b.exp):=by rw[<-dE];congr 1;omega
  unfold rv;rw[this];grind
 have hp:=bU (min a.exp b.exp);rw[e1,e2];unfold cmpD cmpI;generalize dW a b=x at*;generalize dX a b=y at*;generalize p2 (min a.exp b.exp)=p at*;have key:∀u v:Int,u<v->(u:Rat)*p<(v:Rat)*p:=fun u v h=>by
  have h1:=Rat.intCast_lt_intCast.2 h;have:=beH (a:=(v:Rat)-u) (b:=p) (by grind) hp;grind
 rcases Int.lt_trichotomy x y with h|h|h
 . have:=key x y h
   rw[if_pos h];exact⟨⟨fun _=>this,fun _=>by decide⟩,⟨fun h=>absurd h (by decide),fun _=>by grind⟩⟩
 . rw[h,if_neg (by omega),if_neg (by omega)]
   exact⟨⟨fun h=>absurd h (by decide),fun _=>by grind⟩,⟨fun h=>absurd h (by decide),fun _=>by grind⟩⟩
 . have:=key y x h
   rw[if_neg (by omega),if_pos h];exact⟨⟨fun h=>absurd h (by decide),fun _=>by grind⟩,⟨fun _=>this,fun _=>by decide⟩⟩
theorem jL(x:Int):((x.natAbs:Nat):Rat)=x/\0<=x\/((x.natAbs:Nat):Rat)=-x/\x<0:=by
 rcases Int.lt_or_le x 0 with h|h
 . right;refine⟨?_,h⟩
   rw[<-beC,<-beL];congr 1;omega
 . left;refine⟨?_,h⟩
   rw[<-beC];congr 1;omega
theorem rE(h:m≠0):p2 ((bits m:Int)-1)<=(m:Rat)/\(m:Rat)<p2 (bits m):=by
 have h1:=(aG m (bits m)).1 nlr;have h2:¬bits m<=bits m-1:=by
  have:=(not_congr (cB m)).2 h;omega
 rw[aG]at h2;have e:(bits m:Int)-1=((bits m-1:Nat):Int):=by have:=(not_congr (cB m)).2 h;omega
 rw[e,fP,fP];exact⟨beE.2 (by omega),Rat.natCast_lt_natCast.2 h1⟩
theorem akQ(d:Dy):-p2 (topD d)<rv d/\rv d<p2 (topD d):=by
 unfold topD
 split
 . rename_i h
   have:rv d=0:=(bH d).2.2.2 h;rw[this,mP];constructor<;>decide
 . rename_i h
   have h1:=(rE (m:=d.man.natAbs) (by omega)).2;have hp:=bU d.exp;rw[dE];have h2:=beH (a:=p2 (bits d.man.natAbs)-(d.man.natAbs:Rat)) (b:=p2 d.exp) (by grind) hp;have h3:=beH (bU (bits d.man.natAbs)) hp;unfold rv;rcases jL d.man with ⟨h4,h5⟩|⟨h4,h5⟩
   . have h6:=beI (a:=(d.man:Rat)) (b:=p2 d.exp) (Rat.intCast_nonneg.2 h5) (by grind)
     rw[h4]at h2;constructor<;>grind
   . have h6:=beH (a:=-(d.man:Rat)) (b:=p2 d.exp) (by have:=beM.2 h5;grind) hp
     rw[h4]at h2;constructor<;>grind
theorem sG(d:Dy)(h:d.man≠0):p2 (topD d-1)<=rv d\/rv d<=-p2 (topD d-1):=by
 unfold topD;rw[if_neg h,show(bits d.man.natAbs:Int)+d.exp-1=((bits d.man.natAbs:Int)-1)+d.exp from by omega,dE];have h1:=(rE (m:=d.man.natAbs) (by omega)).1;have hp:=bU d.exp;have h2:=beI (a:=(d.man.natAbs:Rat)-p2 ((bits d.man.natAbs:Int)-1)) (b:=p2 d.exp) (by grind) (by grind);unfold rv;rcases jL d.man with ⟨h4,h5⟩|⟨h4,h5⟩<;>rw[h4]at h2
 . left;grind
 . right;grind
def outw(neg:Bool)(dir:Int):Bool:=if 0<=dir then !neg else neg
def aY(a:Dy)(P dir:Int):Dy:=
 if (bits (mkDy a.man a.exp).man.natAbs:Int)<=P then mkDy a.man a.exp else
  mkDy (sg (decide ((mkDy a.man a.exp).man<0)) ((mkDy a.man a.exp).man.natAbs/2^((bits (mkDy a.man a.exp).man.natAbs:Int)-P).toNat+(outw (decide ((mkDy a.man a.exp).man<0)) dir).toNat))
   ((mkDy a.man a.exp).exp+((bits (mkDy a.man a.exp).man.natAbs:Int)-P))
def bD(neg:Bool)(m:Nat)(exp:Int)(more:Bool)(P dir:Int):Dy:=
 aY (mkDy (sg neg (if more then 2*m+1 else m)) (if more then exp-1 else exp)) P dir
def sgq(neg:Bool)(z:Rat):Rat:=if neg then-z else z
theorem aaJ(neg:Bool)(n:Nat):((sg neg n:Int):Rat)=sgq neg n:=by
 unfold sg sgq;cases neg
 . simp only[beJ,if_false];exact beC n
 . simp only[if_true];rw[beL,beC]
theorem afA{q:Nat}{p z:Rat}(hp:0<p)(h1:(q:Rat)*p<=z)(h2:z<=((q:Rat)+1)*p)(neg:Bool)(dir:Int):
 (dir<0->sgq neg (q+(outw neg dir).toNat:Nat)*p<=sgq neg z)/\(0<=dir->sgq neg z<=sgq neg (q+(outw neg dir).toNat:Nat)*p)/\
 sgq neg (q+(outw neg dir).toNat:Nat)*p-sgq neg z<=p/\sgq neg z-sgq neg (q+(outw neg dir).toNat:Nat)*p<=p:=by
 have e1:((q+1:Nat):Rat)=(q:Rat)+1:=by rw[beO];rfl
 have e2:((q+0:Nat):Rat)=(q:Rat):=rfl;rcases Int.lt_or_le dir 0 with h|h
 . cases neg
   . have ho:outw false dir=false:=by unfold outw;rw[if_neg (by omega)]
     rw[ho];unfold sgq;simp only[beN,cond_false,e2,beJ,if_false];refine⟨fun _=>h1,fun h'=>by omega,?_,?_⟩<;>grind
   . have ho:outw true dir=true:=by unfold outw;rw[if_neg (by omega)]
     rw[ho];unfold sgq;simp only[beN,cond_true,e1,if_true];refine⟨fun _=> ?_,fun h'=>by omega,?_,?_⟩<;>grind
 . cases neg
   . have ho:outw false dir=true:=by unfold outw;rw[if_pos h];rfl
     rw[ho];unfold sgq;simp only[beN,cond_true,e1,beJ,if_false];refine⟨fun h'=>by omega,fun _=>h2,?_,?_⟩<;>grind
   . have ho:outw true dir=false:=by unfold outw;rw[if_pos h];rfl
     rw[ho];unfold sgq;simp only[beN,cond_false,e2,if_true];refine⟨fun h'=>by omega,fun _=> ?_,?_,?_⟩<;>grind
theorem aaK(hx:x≠0)(e:Int):topD (mkDy x e)=bits x.natAbs+e:=by
 rcases jF x e with ⟨h1,h2⟩|⟨h1,h2,h3,h4⟩
 . exact absurd h2 hx
 . unfold topD
   rw[if_neg h2];generalize mkDy x e=d at*;have:x.natAbs=d.man.natAbs*2^(d.exp-e).toNat:=by
    conv=>lhs;rw[h4]
    rw[Int.natAbs_mul,Int.natAbs_natCast]
   rw[this,kU (by omega)];omega
theorem acE(e:Int)(hP:1<=P)(hx:x.natAbs<=2^P):bits (mkDy x e).man.natAbs<=P:=by
 rcases Nat.lt_or_eq_of_le hx with h|h
 . exact Nat.le_trans (rA x e) ((aG _ _).2 h)
 . unfold mkDy
   have h0:x≠0:=by have:=beD P;omega
   rw[if_neg h0,h];have:ctz (2^P)=P:=by have:=zG P 0;simpa using this
   rw[this,Nat.div_self (beD P),bV];have:bits 1<=P:=(aG 1 P).2 (Nat.lt_of_lt_of_le (by decide) (Nat.pow_le_pow_right (n:=2) (by omega) hP));exact this
theorem pM(m n:Nat):(m/2^n)*2^n<=m/\m<(m/2^n+1)*2^n:=by
 have h1:=Nat.div_add_mod m (2^n);have h2:=Nat.mod_lt m (beD n);rw[Nat.mul_comm]at h1;rw[Nat.succ_mul];omega
theorem akR{n:Nat}(h:bits m=n+P):m/2^n<2^P:=by
 rw[Nat.div_lt_iff_lt_mul (beD n),<-beK];refine(aG m _).1 (by omega)
theorem wW{a:Dy}{P:Int}(dir:Int)(hP:1<=P):Canon (aY a P dir)/\(bits (aY a P dir).man.natAbs:Int)<=P/\
 ((aY a P dir).man≠0->(mkDy a.man a.exp).exp<=(aY a P dir).exp/\topD (aY a P dir)<=topD (mkDy a.man a.exp)+1):=by
 unfold aY
 split
 . rename_i h
   exact⟨Canon.mk _ _,h,fun _=>⟨Int.le_refl _,by omega⟩⟩
 . rename_i h
   generalize hd:mkDy a.man a.exp=d at*;have hm0:d.man≠0:=by
    intro h0;rw[h0]at h;apply h;show((bits 0:Nat):Int)<=P;have:bits 0=0:=rfl;omega
   obtain⟨n,hn⟩:∃n:Nat,(bits d.man.natAbs:Int)-P=n:=⟨((bits d.man.natAbs:Int)-P).toNat,by omega⟩;obtain⟨Q,hQ⟩:∃Q:Nat,P=Q:=⟨P.toNat,by omega⟩;subst hQ;rw[hn,Int.toNat_natCast];have hb:bits d.man.natAbs=n+Q:=by omega
   have hq:=akR hb;generalize hx:sg (decide (d.man<0)) (d.man.natAbs/2^n+(outw (decide (d.man<0)) dir).toNat)=x;have hxn:x.natAbs<=2^Q:=by
    rw[<-hx,bV];have:=Bool.toNat_le (outw (decide (d.man<0)) dir);omega
   refine⟨Canon.mk _ _,by have:=acE (e:=d.exp+(n:Int)) (by omega) hxn;omega,fun hne=> ?_⟩;rcases jF x (d.exp+n)with ⟨h1,h2⟩|⟨h1,h2,h3,h4⟩
   . rw[h1]at hne;exact absurd rfl hne
   . refine⟨by omega,?_⟩
     rw[aaK h1];have h5:topD d=bits d.man.natAbs+d.exp:=by unfold topD;rw[if_neg hm0]
     rw[h5,hb];have:bits x.natAbs<=Q+1:=(aG _ _).2 (by rw[Nat.pow_succ];have:=beD Q;omega);omega
theorem jX(a:Dy){P:Int}(dir:Int)(hP:1<=P):(dir<0->rv (aY a P dir)<=rv a)/\(0<=dir->rv a<=rv (aY a P dir))/\
 rv (aY a P dir)-rv a<=p2 (topD (mkDy a.man a.exp)-P)/\rv a-rv (aY a P dir)<=p2 (topD (mkDy a.man a.exp)-P):=by
 have hv:rv (mkDy a.man a.exp)=rv a:=lS _ _;rw[<-hv];unfold aY
 split
 . have:=bU (topD (mkDy a.man a.exp)-P)
   exact⟨fun _=>beP,fun _=>beP,by grind,by grind⟩
 . rename_i h
   generalize mkDy a.man a.exp=d at*;clear hv;have hm0:d.man≠0:=by
    intro h0;rw[h0]at h;apply h;show((bits 0:Nat):Int)<=P;have:bits 0=0:=rfl;omega
   obtain⟨n,hn⟩:∃n:Nat,(bits d.man.natAbs:Int)-P=n:=⟨((bits d.man.natAbs:Int)-P).toNat,by omega⟩;rw[hn,Int.toNat_natCast,lS,aaJ];have hb:=pM d.man.natAbs n;have hp:=bU (d.exp+n);have hz:rv d=sgq (decide (d.man<0)) ((d.man.natAbs:Rat)*p2 d.exp):=by
    unfold rv sgq;rcases jL d.man with ⟨h4,h5⟩|⟨h4,h5⟩<;>rw[h4]
    . rw[if_neg (by simp;omega)]
    . rw[if_pos (by simpa using h5)];grind
   have e1:p2 (d.exp+n)=((2^n:Nat):Rat)*p2 d.exp:=by rw[dE,fP];grind
   have c1:=beE.2 hb.1;have c2:=beE.2 (Nat.le_of_lt hb.2);rw[beG]at c1 c2;have hpe:=bU d.exp;have k:=afA (q:=d.man.natAbs/2^n) (p:=p2 (d.exp+n)) (z:=(d.man.natAbs:Rat)*p2 d.exp) hp (by
    rw[e1];have:=beI (a:=(d.man.natAbs:Rat)-((d.man.natAbs/2^n:Nat):Rat)*((2^n:Nat):Rat)) (b:=p2 d.exp) (by grind) (by grind);grind) (by
    rw[e1];rw[beO]at c2;have:=beI (a:=(((d.man.natAbs/2^n:Nat):Rat)+((1:Nat):Rat))*((2^n:Nat):Rat)-(d.man.natAbs:Rat)) (b:=p2 d.exp) (by grind) (by grind);have e2:((1:Nat):Rat)=1:=rfl;grind) (decide (d.man<0)) dir
   rw[<-hz]at k;have e3:topD d-P=d.exp+n:=by unfold topD;rw[if_neg hm0];omega
   rw[e3];exact k
end Go.Proofs.YtjaafolhfihegaaGreatDoor
