/- A part of the proof: contracts of functions and plain laws (DyI, DyK, DyL, DyM, BalA, DyR). -/
import Derived.Test.YtkpodipoegbclaaGreatDoorK19
import Derived.Test.YtkpodipoegbclaaGreatDoorK09
set_option linter.unusedVariables false
set_option linter.unusedSimpArgs false
set_option maxHeartbeats 25600000
set_option maxRecDepth 100000
namespace Go.Proofs.YtkpodipoegbclaaGreatDoor
section
open Go.RowKit
open Go.RowKit.Below renaming heap_setCell->ba2,refl->bbG
open Int renaming natAbs_natCast->ba3,sign_eq_zero_iff_zero->ba4,sign_eq_one_of_pos->ba5,natAbs_mul->ba7,lt_trichotomy->ba8,sign_mul->bbC,mul_one->bbF
open Nat renaming le_trans->ba6,two_pow_pos->ba9,pow_le_pow_right->bbA,lt_or_ge->bbB,le_of_eq->bbD,pow_add->bbE,mod_lt->bbH
variable{x y:Dy}{B b g i:Nat}{p q:Nat->Prop}{T:TypeId}{a c d e f va vb:Value}{w w0:World}
theorem dO(n k:Nat):bits (n*2^k)<=bits n+k:=by
 rw[aD,bbE];exact Nat.mul_lt_mul_of_pos_right (bK n) (ba9 k)
theorem rT(m n:Nat):bits (m+n)<=bits m+bits n+1:=by
 rw[aD];have h1:=bK m;have h2:=bK n;have h3:2^bits m<=2^(bits m+bits n):=bbA (by omega) (by omega);have h4:2^bits n<=2^(bits m+bits n):=bbA (by omega) (by omega);rw[Nat.pow_succ];omega
def SmD(d:Dy):Prop:=bits d.man.natAbs<=134217728/\-67108864<=d.exp/\d.exp<=67108864
theorem abJ(hx:SmD x)(hy:SmD y):bits (dG x y).natAbs<=268435456:=by
 obtain⟨h1,h2,h3⟩:=hx;obtain⟨k1,k2,k3⟩:=hy;rw[gX,ba7,ba3];have:=dO x.man.natAbs (x.exp-min x.exp y.exp).toNat;omega
theorem abK(hx:SmD x)(hy:SmD y):bits (dH x y).natAbs<=268435456:=by
 obtain⟨h1,h2,h3⟩:=hx;obtain⟨k1,k2,k3⟩:=hy;rw[gY,ba7,ba3];have:=dO y.man.natAbs (y.exp-min x.exp y.exp).toNat;omega
theorem ajK{x y:Int}(hx:bits x.natAbs<=268435456)(hy:bits y.natAbs<=268435456):bits (x+y).natAbs<=1073741824:=by
 have h1:bits (x+y).natAbs<=bits (x.natAbs+y.natAbs):=bX (by omega);have:=rT x.natAbs y.natAbs;omega
theorem abL(hx:DyP p w va x)(hy:DyP q w vb y)(hT:Tab w)(hp:∀b,p b->b<w.heap.size)(hq:∀b,q b->b<w.heap.size)(sx:SmD x)(sy:SmD y):
 Calls Tryz.prog 156 #[va,vb] w (RetD w.heap.size w (addD x y)):=by
 obtain⟨ba,A,n,c,rfl,h⟩:=hx;obtain⟨bb,A',n',c',rfl,h'⟩:=hy;obtain⟨w3,hw3,hb3,hs3,b1,b2,b3⟩:=pro3 w (.cells #[Value.bool ba,.slice A n c,.int .i64 x.exp] 87) (.cells #[Value.bool bb,.slice A' n' c',.int .i64 y.exp] 87) (.cells #[Value.bool false,Value.slice none 0 0,.int .i64 0] 87);have HB:=hdd hb3;have H1:=hdd (h.below hb3);have H2:=hdd (h'.below hb3);have HT:=hdd (hT.below hb3);have HS:=hdd hs3;have B3:=hdd b3;have HP:=hdd hp;have HQ:=hdd hq;have SX:=hdd sx;have SY:=hdd sy;obtain⟨c0,c1,c2,-,-,-⟩:=cells3 b1;obtain⟨d0,d1,d2,-,-,-⟩:=cells3 b2;have D1:Hid (DyP p w3 (.agg #[.bool ba,.slice A n c,.int .i64 x.exp]) x):=hdd ⟨_,_,_,_,rfl,H1.out⟩;have D2:Hid (DyP q w3 (.agg #[.bool bb,.slice A' n' c',.int .i64 y.exp]) y):=hdd ⟨_,_,_,_,rfl,H2.out⟩;have HSZ3:Hid (w3.heap.size<=w3.heap.size):=hdd nlr;clear h h' hb3 b1 b2 b3 hs3 hT hp hq sx sy;go_enter Tryz.func156,Tryz.ntmps156
 go_wp2_with fail
 refine(cK D1.out).mono ?_;rintro r w4⟨rfl,hb⟩;replace c0:=cbl c0 hb;replace c1:=cbl c1 hb;replace c2:=cbl c2 hb;replace d0:=cbl d0 hb;replace d1:=cbl d1 hb;replace d2:=cbl d2 hb;replace HB:=hdd (HB.out.trans (hb.mono HB.out.size));replace D1:=hdd (D1.out.below hb);replace D2:=hdd (D2.out.below hb);replace HT:=hdd (HT.out.below hb);replace H1:=hdd (H1.out.below hb);replace H2:=hdd (H2.out.below hb);replace B3:=hdd (hbl B3.out hb);have HS4:=hdd hb.size;clear hb hw3;by_cases hz:x.man=0
 . have hs:(x.man.sign==0)=true:=by rw[hz];rfl
   have HADD:Hid (addD x y=mkDy y.man y.exp):=hdd (by unfold addD;rw[if_pos hz]);clear hz;have HMK:=hdd (dD (e:=y.exp) H2.out HT.out (by have:=SY.out.1;omega) (by have:=SY.out.2;omega));go_wp2_with fail
   refine HMK.out.mono ?_;rintro r w5⟨hb,v5,rfl,hz⟩;obtain⟨b6,A6,n6,c6,rfl,-⟩:=id hz;have B35:=hbl B3.out hb;obtain⟨e0,e1,e2,e3,e4,e5⟩:=cells3 B35;obtain⟨HFF,hFF⟩:=aK (HB.out.trans (hb.mono HB.out.size)) (g:=w.heap.size+2) (by omega) B35 hz (fun b hb=>by have:=HS.out;have:=HS4.out;omega);replace hFF:=hdd hFF;clear hz hb B35 c0 c1 c2 d0 d1 d2;go_wp2;obtain⟨f0,f1,f2,-,-,-⟩:=cells3 hFF.out;refine bodyPost_ret (v:=.agg #[_,_,_]) (by simp[results,Tryz.results156,go_sem,f0,f1,f2];first|exact⟨rfl,rfl,rfl⟩|rfl) rfl ?_;rw[HADD.out];exact HFF.out
 . have hs:(x.man.sign==0)=false:=beq_eq_false_iff_ne.2 (fun h=>hz (ba4.1 h))
   have HZ:=hdd hz;clear hz;go_wp2_with fail
   refine(cK D2.out).mono ?_;rintro r w5⟨rfl,hb⟩;replace c0:=cbl c0 hb;replace c1:=cbl c1 hb;replace c2:=cbl c2 hb;replace d0:=cbl d0 hb;replace d1:=cbl d1 hb;replace d2:=cbl d2 hb;replace HB:=hdd (HB.out.trans (hb.mono HB.out.size));replace D1:=hdd (D1.out.below hb);replace D2:=hdd (D2.out.below hb);replace HT:=hdd (HT.out.below hb);replace H1:=hdd (H1.out.below hb);replace H2:=hdd (H2.out.below hb);replace B3:=hdd (hbl B3.out hb);replace HS4:=hdd (ba6 HS4.out hb.size);clear hb;by_cases hz:y.man=0
   . have hs2:(y.man.sign==0)=true:=by rw[hz];rfl
     have HADD:Hid (addD x y=mkDy x.man x.exp):=hdd (by unfold addD;rw[if_neg HZ.out,if_pos hz]);clear hz;have HMK:=hdd (dD (e:=x.exp) H1.out HT.out (by have:=SX.out.1;omega) (by have:=SX.out.2;omega));go_wp2_with fail
     refine HMK.out.mono ?_;rintro r w6⟨hb,v5,rfl,hz⟩;obtain⟨b6,A6,n6,c6,rfl,-⟩:=id hz;have B35:=hbl B3.out hb;obtain⟨e0,e1,e2,e3,e4,e5⟩:=cells3 B35;obtain⟨HFF,hFF⟩:=aK (HB.out.trans (hb.mono HB.out.size)) (g:=w.heap.size+2) (by omega) B35 hz (fun b hb=>by have:=HS.out;have:=HS4.out;omega);replace hFF:=hdd hFF;clear hz hb B35 c0 c1 c2 d0 d1 d2;go_wp2;obtain⟨f0,f1,f2,-,-,-⟩:=cells3 hFF.out;refine bodyPost_ret (v:=.agg #[_,_,_]) (by simp[results,Tryz.results156,go_sem,f0,f1,f2];first|exact⟨rfl,rfl,rfl⟩|rfl) rfl ?_;rw[HADD.out];exact HFF.out
   . have hs2:(y.man.sign==0)=false:=beq_eq_false_iff_ne.2 (fun h=>hz (ba4.1 h))
     have HADD:Hid (addD x y=mkDy (dG x y+dH x y) (min x.exp y.exp)):=hdd (by unfold addD;rw[if_neg HZ.out,if_neg hz]);clear hz;have HAL:=hdd (xY D1.out D2.out (fun b hb=>by have:=HP.out b hb;have:=HB.out.size;omega) (fun b hb=>by have:=HQ.out b hb;have:=HB.out.size;omega) SX.out.1 SY.out.1 SX.out.2 SY.out.2);have BA:=hdd (abJ SX.out SY.out);have BB:=hdd (abK SX.out SY.out);have HE:Hid (-1000000000000<=min x.exp y.exp/\min x.exp y.exp<=1000000000000):=hdd (by have:=SX.out.2;have:=SY.out.2;omega);generalize dG x y=X at*;generalize dH x y=Y at*;generalize min x.exp y.exp=E at*;go_wp2_with fail
     refine HAL.out.mono ?_;rintro r w6⟨hb,u1,U1,m1,k1,u2,U2,m2,k2,rfl,hX,hY⟩;have hX':=hX.weak (q:=fun b=>b<w6.heap.size) fun b _ h=>h;have hY':=hY.weak (q:=fun b=>b<w6.heap.size) fun b _ h=>h;replace HB:=hdd (HB.out.trans (hb.mono HB.out.size));replace HT:=hdd (HT.out.below hb);replace B3:=hdd (hbl B3.out hb);replace HS4:=hdd (ba6 HS4.out hb.size);obtain⟨w8,hw8,hb8,hs8,q1,q2⟩:=pro2 w6 (.cells #[Value.bool false,Value.slice none 0 0] 33) (.cells #[Value.bool false,Value.slice none 0 0] 33);obtain⟨g0,g1,g2,g3⟩:=aB q1;obtain⟨i0,i1,i2,i3⟩:=aB q2;clear c0 c1 c2 d0 d1 d2 D1 D2 H1 H2;have r1:=set2 q1 (.bool u1) (.slice U1 m1 k1);have q2':((w8.setCell ⟨w6.heap.size,0,none⟩ (.bool u1)).setCell ⟨w6.heap.size,1,none⟩ (.slice U1 m1 k1)).heap[w6.heap.size+1]? =some (.cells #[Value.bool false,Value.slice none 0 0] 33 (0,0)):=by
      rw[ba2 _ _ _ _ (by simp),ba2 _ _ _ _ (by simp)];exact q2
     have r2:=set2 q2' (.bool u2) (.slice U2 m2 k2);have r1':((((w8.setCell ⟨w6.heap.size,0,none⟩ (.bool u1)).setCell ⟨w6.heap.size,1,none⟩ (.slice U1 m1 k1)).setCell ⟨w6.heap.size+1,0,none⟩ (.bool u2)).setCell ⟨w6.heap.size+1,1,none⟩ (.slice U2 m2 k2)).heap[w6.heap.size]? =some (.cells #[.bool u1,.slice U1 m1 k1] 33 (0,0)):=by
      rw[ba2 _ _ _ _ (by simp),ba2 _ _ _ _ (by simp)];exact r1
     have hbb:Below w6.heap.size w6 ((((w8.setCell ⟨w6.heap.size,0,none⟩ (.bool u1)).setCell ⟨w6.heap.size,1,none⟩ (.slice U1 m1 k1)).setCell ⟨w6.heap.size+1,0,none⟩ (.bool u2)).setCell ⟨w6.heap.size+1,1,none⟩ (.slice U2 m2 k2)):=(((hb8.setCell (by simp) _).setCell (by simp) _).setCell (by simp) _).setCell (by simp) _;have HXX:=hdd (hX'.below hbb);have HYY:=hdd (hY'.below hbb);have HBB:=hdd hbb;have HR1:=hdd r1';have HR2:=hdd r2;clear hX hY hX' hY' hb hb8 hs8 q1 q2 q2' r1 r1' r2 hbb;obtain⟨w9,hw9,hb9,hs9,q9⟩:=pro1 ((((w8.setCell ⟨w6.heap.size,0,none⟩ (.bool u1)).setCell ⟨w6.heap.size,1,none⟩ (.slice U1 m1 k1)).setCell ⟨w6.heap.size+1,0,none⟩ (.bool u2)).setCell ⟨w6.heap.size+1,1,none⟩ (.slice U2 m2 k2)) (.cells #[.bool u2,.slice U2 m2 k2] 33);have hsz8:((((w8.setCell ⟨w6.heap.size,0,none⟩ (.bool u1)).setCell ⟨w6.heap.size,1,none⟩ (.slice U1 m1 k1)).setCell ⟨w6.heap.size+1,0,none⟩ (.bool u2)).setCell ⟨w6.heap.size+1,1,none⟩ (.slice U2 m2 k2)).heap.size=w8.heap.size:=by simp[World.setCell]
     rw[hsz8]at hb9 hs9 q9;obtain⟨j0,j1,-,-⟩:=aB HR1.out;obtain⟨l0,l1,-,-⟩:=aB HR2.out;have hb69:=HBB.out.trans (hb9.mono (by have:=HBB.out.size;omega));have HADDI:=hdd (ahT (HXX.out.below (by rw[hsz8];exact hb9)) q9 (HYY.out.below (by rw[hsz8];exact hb9)) (by have:=BA.out;have:=BB.out;omega));have HB9:=hdd hb69;clear hb9 hs9 q9 hb69 HXX HYY HBB HR1 HR2;go_wp2_with fail
     refine HADDI.out.mono ?_;rintro r w10⟨hb,v10,rfl,hz⟩;replace HB9:=hdd (HB9.out.trans (hb.mono HB9.out.size));have HSZ:=hdd hb.size;have HMK:=hdd (dD (e:=E) hz (HT.out.below HB9.out) (ajK BA.out BB.out) HE.out);clear hb hz g0 g1 g2 g3 i0 i1 i2 i3 j0 j1 l0 l1 hw8 hw9 hsz8;go_wp2_with fail
     refine HMK.out.mono ?_;rintro r w11⟨hb,v5,rfl,hz⟩;obtain⟨b6,A6,n6,c6,rfl,-⟩:=id hz;have hb9:=HB9.out.trans (hb.mono HB9.out.size);have B35:=hbl B3.out hb9;obtain⟨e0,e1,e2,e3,e4,e5⟩:=cells3 B35;obtain⟨HFF,hFF⟩:=aK (HB.out.trans (hb9.mono HB.out.size)) (g:=w.heap.size+2) (by omega) B35 hz (fun b hb=>by have:=HS.out;have:=HS4.out;have:=HB9.out.size;omega);replace hFF:=hdd hFF;clear hz hb B35 hb9;go_wp2;obtain⟨f0,f1,f2,-,-,-⟩:=cells3 hFF.out;refine bodyPost_ret (v:=.agg #[_,_,_]) (by simp[results,Tryz.results156,go_sem,f0,f1,f2];first|exact⟨rfl,rfl,rfl⟩|rfl) rfl ?_;rw[HADD.out];exact HFF.out
theorem jR{n:Nat}(hn:n≠0)(k:Nat):bits (n*2^k)=bits n+k:=by
 refine Nat.le_antisymm (dO n k) ?_;rcases bbB (bits (n*2^k)) (bits n+k)with h|h
 . exfalso
   have hb:bits n≠0:=fun h'=>hn ((bN _).1 h');have h1:=(aD (n*2^k) (bits n-1+k)).1 (by omega);rw[bbE]at h1;have h2:=eB n hn;have:=Nat.mul_le_mul_right (2^k) h2;omega
 . exact h
theorem eX(x y:Dy):(dG x y).sign=x.man.sign:=by
 have:=ba9 (x.exp-min x.exp y.exp).toNat;rw[gX,bbC,ba5 (a:=((2^(x.exp-min x.exp y.exp).toNat:Nat):Int)) (by omega),bbF]
theorem iH(x y:Dy):(dH x y).sign=y.man.sign:=by
 have:=ba9 (y.exp-min x.exp y.exp).toNat;rw[gY,bbC,ba5 (a:=((2^(y.exp-min x.exp y.exp).toNat:Nat):Int)) (by omega),bbF]
theorem xZ(hx:x.man≠0):topD x-min x.exp y.exp=bits (dG x y).natAbs:=by
 rw[gX,ba7,ba3,jR (by omega)];unfold topD;rw[if_neg hx];omega
theorem x8(hy:y.man≠0):topD y-min x.exp y.exp=bits (dH x y).natAbs:=by
 rw[gY,ba7,ba3,jR (by omega)];unfold topD;rw[if_neg hy];omega
theorem alM{x y:Dy}(h:x.man.sign<y.man.sign):cmpD x y=-1:=rD (by rw[eX,iH];exact h)
theorem alN{x y:Dy}(h:y.man.sign<x.man.sign):cmpD x y=1:=rE (by rw[eX,iH];exact h)
theorem agD{x y:Dy}(h:x.man.sign=y.man.sign)(h0:x.man.sign=0):cmpD x y=0:=by
 have h1:dG x y=0:=ba4.1 (by rw[eX];exact h0);have h2:dH x y=0:=ba4.1 (by rw[iH,<-h];exact h0);unfold cmpD;rw[h1,h2];rfl
theorem ajL{x y:Dy}(h:x.man.sign=y.man.sign)(h0:x.man.sign≠0)(ht:topD x<topD y):cmpD x y=-x.man.sign:=by
 have hx:x.man≠0:=fun e=>h0 (by rw[e];rfl);have hy:y.man≠0:=fun e=>h0 (by rw[h,e];rfl);have h1:=xZ (y:=y) hx;have h2:=x8 (x:=x) hy;have hlt:(dG x y).natAbs<(dH x y).natAbs:=by
  rcases bbB (dG x y).natAbs (dH x y).natAbs with h|h
  . exact h
  . have:=bX h;omega
 unfold cmpD;rw[lL (by rw[eX,iH];exact h),eX];unfold cmpN;rw[if_pos hlt];omega
theorem agE{x y:Dy}(h:x.man.sign=y.man.sign)(h0:x.man.sign≠0)(ht:topD y<topD x):cmpD x y=x.man.sign:=by
 have hx:x.man≠0:=fun e=>h0 (by rw[e];rfl);have hy:y.man≠0:=fun e=>h0 (by rw[h,e];rfl);have h1:=xZ (y:=y) hx;have h2:=x8 (x:=x) hy;have hlt:(dH x y).natAbs<(dG x y).natAbs:=by
  rcases bbB (dH x y).natAbs (dG x y).natAbs with h|h
  . exact h
  . have:=bX h;omega
 unfold cmpD;rw[lL (by rw[eX,iH];exact h),eX];unfold cmpN;rw[if_neg (by omega),if_pos hlt];omega
theorem ajM(hx:DyP p w va x)(hy:DyP q w vb y)(hp:∀b,p b->b<w.heap.size)(hq:∀b,q b->b<w.heap.size)(sx:SmD x)(sy:SmD y):
 Calls Tryz.prog 49 #[va,vb] w (RetK w (cmpD x y)):=by
 obtain⟨ba,A,n,c,rfl,h⟩:=hx;obtain⟨bb,A',n',c',rfl,h'⟩:=hy;obtain⟨w2,hw2,hb2,hs2,b1,b2⟩:=pro2 w (.cells #[Value.bool ba,.slice A n c,.int .i64 x.exp] 87) (.cells #[Value.bool bb,.slice A' n' c',.int .i64 y.exp] 87);have HB:=hdd hb2;have HS:=hdd hs2;have HP:=hdd hp;have HQ:=hdd hq;have SX:=hdd sx;have SY:=hdd sy;obtain⟨c0,c1,c2,-,-,-⟩:=cells3 b1;obtain⟨d0,d1,d2,-,-,-⟩:=cells3 b2;have D1:Hid (DyP p w2 (.agg #[.bool ba,.slice A n c,.int .i64 x.exp]) x):=hdd ⟨_,_,_,_,rfl,h.below hb2⟩;have D2:Hid (DyP q w2 (.agg #[.bool bb,.slice A' n' c',.int .i64 y.exp]) y):=hdd ⟨_,_,_,_,rfl,h'.below hb2⟩;clear h h' hb2 b1 b2 hs2 hp hq sx sy;go_enter Tryz.func49,Tryz.ntmps49
 go_wp2_with fail
 have HSA:Hid (∀w',Below w2.heap.size w2 w'->Calls Tryz.prog 93 #[.agg #[.bool ba,.slice A n c,.int .i64 x.exp]] w' (RetK w' x.man.sign)):=hdd fun w' h=>cK (D1.out.below h);have HSB:Hid (∀w',Below w2.heap.size w2 w'->Calls Tryz.prog 93 #[.agg #[.bool bb,.slice A' n' c',.int .i64 y.exp]] w' (RetK w' y.man.sign)):=hdd fun w' h=>cK (D2.out.below h);have HTA:Hid (∀w',Below w2.heap.size w2 w'->Calls Tryz.prog 94 #[.agg #[.bool ba,.slice A n c,.int .i64 x.exp]] w' (RetK w' (topD x))):=hdd fun w' h=>pK (D1.out.below h) (by have:=SX.out.2;omega);have HTB:Hid (∀w',Below w2.heap.size w2 w'->Calls Tryz.prog 94 #[.agg #[.bool bb,.slice A' n' c',.int .i64 y.exp]] w' (RetK w' (topD y))):=hdd fun w' h=>pK (D2.out.below h) (by have:=SY.out.2;omega);have HBW:Below w2.heap.size w2 w2.drew:=(bbG _ _).drew;replace c0:=cbl c0 HBW;replace c1:=cbl c1 HBW;replace c2:=cbl c2 HBW;replace d0:=cbl d0 HBW;replace d1:=cbl d1 HBW;replace d2:=cbl d2 HBW
 go_region_held3 (fun w'=>w'.cell? ⟨w.heap.size,0,none⟩=some (.bool ba)/\w'.cell? ⟨w.heap.size,1,none⟩=some (.slice A n c)/\w'.cell? ⟨w.heap.size,2,none⟩=some (.int .i64 x.exp)/\w'.cell? ⟨w.heap.size+1,0,none⟩=some (.bool bb)/\w'.cell? ⟨w.heap.size+1,1,none⟩=some (.slice A' n' c')/\w'.cell? ⟨w.heap.size+1,2,none⟩=some (.int .i64 y.exp)) (go_keep)
  (first
  |(go_at_call 93
    with_reducible refine(HSA.out _ (by assumption)).mono ?_
    rintro e w3⟨rfl,hb⟩;have c0:=cbl c0 hb;have c1:=cbl c1 hb;have c2:=cbl c2 hb;have d0:=cbl d0 hb;have d1:=cbl d1 hb;have d2:=cbl d2 hb;have HBW:=aA HBW hb)
  |(go_at_call 93
    with_reducible refine(HSB.out _ (by assumption)).mono ?_
    rintro e w4⟨rfl,hb⟩;have c0:=cbl c0 hb;have c1:=cbl c1 hb;have c2:=cbl c2 hb;have d0:=cbl d0 hb;have d1:=cbl d1 hb;have d2:=cbl d2 hb;have HBW:=aA HBW hb))
 have HB3:=hdd (HB.out.trans (HBW.mono HB.out.size));have HW3:=hdd HBW;have HLT:=hdd (@alM x y);have HGT:=hdd (@alN x y);have HEQ:=hdd (@agD x y);have HTL:=hdd (@ajL x y);have HTG:=hdd (@agE x y);clear HBW HSA HSB hw2;have hsb:-1<=x.man.sign/\x.man.sign<=1:=by
  rcases ba8 x.man 0 with h|h|h
  . rw[Int.sign_eq_neg_one_of_neg h];omega
  . rw[h];decide
  . rw[ba5 h];omega
 generalize x.man.sign=s at*;generalize y.man.sign=t at*;rcases ba8 s t with h|h|h
 . have h2:=HLT.out h
   have HF:Hid (RetK w (cmpD x y) (.returned (.int .i64 (-1))) _):=hdd ⟨by rw[h2],HB3.out⟩;clear h2;go_wp2;go_ret;exact HF.out
 . subst h
   by_cases hz:s=0
   . have h2:=HEQ.out rfl hz
     have hz2:(s==0)=true:=by rw[hz];rfl
     have HF:Hid (RetK w (cmpD x y) (.returned (.int .i64 0)) _):=hdd ⟨by rw[h2],HB3.out⟩;clear h2 hz;go_wp2;go_ret;exact HF.out
   . have hz2:(s==0)=false:=beq_eq_false_iff_ne.2 hz
     have HTL2:=hdd (HTL.out rfl hz);have HTG2:=hdd (HTG.out rfl hz);clear HLT HGT HEQ HTL HTG;go_wp2_with fail
     have HBW:Below w2.heap.size w2 w4.drew:=HW3.out.drew;have hdr:Below w4.heap.size w4 w4.drew:=(bbG _ _).drew;replace c0:=cbl c0 hdr;replace c1:=cbl c1 hdr;replace c2:=cbl c2 hdr;replace d0:=cbl d0 hdr;replace d1:=cbl d1 hdr;replace d2:=cbl d2 hdr;clear hdr
     go_region_held3 (fun w'=>w'.cell? ⟨w.heap.size,0,none⟩=some (.bool ba)/\w'.cell? ⟨w.heap.size,1,none⟩=some (.slice A n c)/\w'.cell? ⟨w.heap.size,2,none⟩=some (.int .i64 x.exp)/\w'.cell? ⟨w.heap.size+1,0,none⟩=some (.bool bb)/\w'.cell? ⟨w.heap.size+1,1,none⟩=some (.slice A' n' c')/\w'.cell? ⟨w.heap.size+1,2,none⟩=some (.int .i64 y.exp)) (go_keep)
      (first
      |(go_at_call 94
        with_reducible refine(HTA.out _ (by assumption)).mono ?_
        rintro e w5⟨rfl,hb⟩;have c0:=cbl c0 hb;have c1:=cbl c1 hb;have c2:=cbl c2 hb;have d0:=cbl d0 hb;have d1:=cbl d1 hb;have d2:=cbl d2 hb;have HBW:=aA HBW hb)
      |(go_at_call 94
        with_reducible refine(HTB.out _ (by assumption)).mono ?_
        rintro e w6⟨rfl,hb⟩;have c0:=cbl c0 hb;have c1:=cbl c1 hb;have c2:=cbl c2 hb;have d0:=cbl d0 hb;have d1:=cbl d1 hb;have d2:=cbl d2 hb;have HBW:=aA HBW hb))
     have HB6:=hdd (HB.out.trans (HBW.mono HB.out.size));replace D1:=hdd (D1.out.below HBW);replace D2:=hdd (D2.out.below HBW);clear HBW HTA HTB HB3 HW3;generalize topD x=m at*;generalize topD y=n at*;rcases ba8 m n with h|h|h
     . have h2:=HTL2.out h
       have hw:IntKind.i64.wrap (-s)=-s:=wrap_i64 (by omega);have hw2:IntKind.i64.wrap (0-s)=-s:=by rw[wrap_i64 (by omega)];omega
       have HF:Hid (RetK w (cmpD x y) (.returned (.int .i64 (-s))) _):=hdd ⟨by rw[h2],HB6.out⟩;clear h2;go_wp2;go_ret;exact HF.out
     . subst h
       clear HTL2 HTG2;go_wp2_with fail
       refine(xY D1.out D2.out (fun b hb=>by have:=HP.out b hb;have:=HB6.out.size;omega) (fun b hb=>by have:=HQ.out b hb;have:=HB6.out.size;omega) SX.out.1 SY.out.1 SX.out.2 SY.out.2).mono ?_;rintro r w7⟨hb,u1,U1,m1,k1,u2,U2,m2,k2,rfl,hX,hY⟩;have hX':=hX.weak (q:=fun b=>b<w7.heap.size) fun b _ h=>h;have hY':=hY.weak (q:=fun b=>b<w7.heap.size) fun b _ h=>h;replace HB6:=hdd (HB6.out.trans (hb.mono HB6.out.size));obtain⟨w8,hw8,hb8,hs8,q1,q2⟩:=pro2 w7 (.cells #[Value.bool false,Value.slice none 0 0] 33) (.cells #[Value.bool false,Value.slice none 0 0] 33);obtain⟨g0,g1,g2,g3⟩:=aB q1;obtain⟨i0,i1,i2,i3⟩:=aB q2;clear c0 c1 c2 d0 d1 d2 D1 D2;have r1:=set2 q1 (.bool u1) (.slice U1 m1 k1);have q2':((w8.setCell ⟨w7.heap.size,0,none⟩ (.bool u1)).setCell ⟨w7.heap.size,1,none⟩ (.slice U1 m1 k1)).heap[w7.heap.size+1]? =some (.cells #[Value.bool false,Value.slice none 0 0] 33 (0,0)):=by
        rw[ba2 _ _ _ _ (by simp),ba2 _ _ _ _ (by simp)];exact q2
       have r2:=set2 q2' (.bool u2) (.slice U2 m2 k2);have r1':((((w8.setCell ⟨w7.heap.size,0,none⟩ (.bool u1)).setCell ⟨w7.heap.size,1,none⟩ (.slice U1 m1 k1)).setCell ⟨w7.heap.size+1,0,none⟩ (.bool u2)).setCell ⟨w7.heap.size+1,1,none⟩ (.slice U2 m2 k2)).heap[w7.heap.size]? =some (.cells #[.bool u1,.slice U1 m1 k1] 33 (0,0)):=by
        rw[ba2 _ _ _ _ (by simp),ba2 _ _ _ _ (by simp)];exact r1
       have hbb:Below w7.heap.size w7 ((((w8.setCell ⟨w7.heap.size,0,none⟩ (.bool u1)).setCell ⟨w7.heap.size,1,none⟩ (.slice U1 m1 k1)).setCell ⟨w7.heap.size+1,0,none⟩ (.bool u2)).setCell ⟨w7.heap.size+1,1,none⟩ (.slice U2 m2 k2)):=(((hb8.setCell (by simp) _).setCell (by simp) _).setCell (by simp) _).setCell (by simp) _;obtain⟨j0,j1,-,-⟩:=aB r1';obtain⟨l0,l1,-,-⟩:=aB r2;have HCI:=hdd (ahV (hX'.below hbb) (hY'.below hbb));have HB8:=hdd (HB6.out.trans (hbb.mono HB6.out.size));clear hX hY hX' hY' hb hb8 hs8 q1 q2 q2' r1 r1' r2 hbb;go_wp2_with fail
       refine HCI.out.mono ?_;rintro r w9⟨rfl,hb⟩;have HF:Hid (RetK w (cmpD x y) (.returned (.int .i64 (cmpD x y))) _):=hdd ⟨rfl,HB8.out.trans (hb.mono HB8.out.size)⟩;clear hb;go_wp2;go_ret;exact HF.out
     . have h2:=HTG2.out h
       have h3:¬m<n:=by omega
       have HF:Hid (RetK w (cmpD x y) (.returned (.int .i64 s)) _):=hdd ⟨by rw[h2],HB6.out⟩;clear h2;go_wp2;go_ret;exact HF.out
 . have h2:=HGT.out h
   have HF:Hid (RetK w (cmpD x y) (.returned (.int .i64 1)) _):=hdd ⟨by rw[h2],HB3.out⟩;have h3:¬s<t:=by omega
   clear h2;go_wp2;go_ret;exact HF.out
theorem qR{p:Int}(hp:1<=p/\p<=65536):Calls Tryz.prog 189 #[.int .i64 p] w (fun e w'=>e=.returned (.int .i64 p)/\w=w'):=by
 go_enter Tryz.func189,Tryz.ntmps189
 go_wp2;go_ret;exact⟨by show Ending.returned (.int .i64 (max 1 (min p 65536)))=_;rw[show max 1 (min p 65536)=p from by omega],rfl⟩
theorem bW(h:g≠i)(u v x:Value):(((w.setCell ⟨g,0,none⟩ u).setCell ⟨g,1,none⟩ v).setCell ⟨g,2,none⟩ x).heap[i]? =w.heap[i]? :=by
 rw[ba2 _ _ _ _ (by simp;omega),ba2 _ _ _ _ (by simp;omega),ba2 _ _ _ _ (by simp;omega)]
theorem adH{P dir:Int}(hx:DyP p w va x)(hT:Tab w)(sx:SmD x)(hP:1<=P/\P<=65536)(hb:(bits (mkDy x.man x.exp).man.natAbs:Int)<=P):
 Calls Tryz.prog 150 #[va,.int .i64 P,.int .i64 dir] w (RetD w.heap.size w (mkDy x.man x.exp)):=by
 obtain⟨ba,A,n,c,rfl,h⟩:=hx;obtain⟨w2,hw2,hb2,hs2,b1,b2⟩:=pro2 w (.cells #[Value.bool ba,.slice A n c,.int .i64 x.exp] 87) (.cells #[Value.bool false,Value.slice none 0 0,.int .i64 0] 87);have HB:=hdd hb2;have HS:=hdd hs2;have B1:=hdd b1;have B2:=hdd b2;have HBI:=hdd hb;have HPP:=hdd hP;obtain⟨c0,c1,c2,-,-,-⟩:=cells3 b1;have HMK:=hdd (dD (e:=x.exp) (h.below hb2) (hT.below hb2) (by have:=sx.1;omega) (by have:=sx.2;omega));have HSX:=hdd sx;clear h hb2 b1 b2 hs2 hT sx hb;go_enter Tryz.func150,Tryz.ntmps150
 go_wp2_with fail
 refine HMK.out.mono ?_;rintro r w3⟨hb,v5,rfl,hz⟩;obtain⟨b6,A6,n6,c6,rfl,hz2⟩:=id hz;have B13:=hbl B1.out hb;have B23:=hdd (hbl B2.out hb);obtain⟨e0,e1,e2,e3,e4,e5⟩:=cells3 B13;have S1:=set3 B13 (.bool b6) (.slice A6 n6 c6) (.int .i64 (mkDy x.man x.exp).exp);have hI:IntP (fun b=>w2.heap.size<=b) (((w3.setCell ⟨w.heap.size,0,none⟩ (.bool b6)).setCell ⟨w.heap.size,1,none⟩ (.slice A6 n6 c6)).setCell ⟨w.heap.size,2,none⟩ (.int .i64 (mkDy x.man x.exp).exp)) (.agg #[.bool b6,.slice A6 n6 c6]) (mkDy x.man x.exp).man:=
  ((hz2.setCell (fun b hb=>by have:=HS.out;simp;omega) _).setCell (fun b hb=>by have:=HS.out;simp;omega) _).setCell (fun b hb=>by have:=HS.out;simp;omega) _
 have S2:=(bW (w:=w3) (g:=w.heap.size) (i:=w.heap.size+1) (by omega) (.bool b6) (.slice A6 n6 c6) (.int .i64 (mkDy x.man x.exp).exp)).trans B23.out;have hbb:Below w.heap.size w (((w3.setCell ⟨w.heap.size,0,none⟩ (.bool b6)).setCell ⟨w.heap.size,1,none⟩ (.slice A6 n6 c6)).setCell ⟨w.heap.size,2,none⟩ (.int .i64 (mkDy x.man x.exp).exp)):=(((HB.out.trans (hb.mono HB.out.size)).setCell (by simp) _).setCell (by simp) _).setCell (by simp) _;generalize hE:(mkDy x.man x.exp).exp=E at*;generalize hW:((w3.setCell ⟨w.heap.size,0,none⟩ (.bool b6)).setCell ⟨w.heap.size,1,none⟩ (.slice A6 n6 c6)).setCell ⟨w.heap.size,2,none⟩ (.int .i64 E)=w4 at*;obtain⟨c0,c1,c2,-,-,-⟩:=cells3 S1;obtain⟨xs,hx1,-,hx3,-⟩:=hI.get;have HBT:=hdd (cZ hx1);have HI:=hdd hI;have HS1:=hdd S1;have HS2:=hdd S2;have HBB:=hdd hbb;have hle:¬(0:Int)<(bits (val xs):Int)-P:=by have:=HBI.out;rw[hx3];omega
 have hle2:(bits (val xs):Int)-P<=0:=by omega
 have hwr:IntKind.i64.wrap ((bits (val xs):Int)-P)=(bits (val xs):Int)-P:=wrap_i64 (by have:=HPP.out;omega);have HWD:=fun w'=>qR (w:=w') HPP.out;clear hx1 hx3 hI S1 S2 hbb hz hz2 hb B13 hP;go_wp2_with fail
 refine HBT.out.mono ?_;rintro r w5⟨rfl,k,rfl⟩;have hd:=below_drewN w4 k;replace c0:=cbl c0 hd;replace c1:=cbl c1 hd;replace c2:=cbl c2 hd;replace HI:=hdd (HI.out.below hd);replace HS2:=hdd (hbl HS2.out hd);replace HBB:=hdd (HBB.out.trans (hd.mono HBB.out.size));clear hd HS1;generalize w4.drewN k=w5 at*;have HWD5:=hdd (HWD w5);clear HWD;go_wp2_with fail
 refine HWD5.out.mono ?_;rintro r w6⟨rfl,hw⟩;obtain rfl:=hw;obtain⟨f0,f1,f2,f3,f4,f5⟩:=cells3 HS2.out;have hD:DyP (fun b=>w2.heap.size<=b) w5 (.agg #[.bool b6,.slice A6 n6 c6,.int .i64 E]) (mkDy x.man x.exp):=⟨b6,A6,n6,c6,by rw[hE],HI.out⟩;obtain⟨HFF,hFF⟩:=aK HBB.out (g:=w.heap.size+1) (by omega) HS2.out hD (fun b hb=>by have:=HS.out;omega);replace hFF:=hdd hFF;clear hD;go_wp2;obtain⟨f0,f1,f2,-,-,-⟩:=cells3 hFF.out;refine bodyPost_ret (v:=.agg #[_,_,_]) (by simp[results,Tryz.results150,go_sem,f0,f1,f2];first|exact⟨rfl,rfl,rfl⟩|rfl) rfl ?_;exact HFF.out
theorem ajN(hb:b<2^64)(hf:fin b):
 (b/2^52%2048=0->fv b=sg (fneg b) (b%2^52))/\(b/2^52%2048≠0->fv b=sg (fneg b) (b%2^52+2^52)*(2^(b/2^52%2048-1):Nat)):=by
 have hr:rung b=b%2^63:=rfl;have key:fv b=sg (fneg b) (mg (rung b)):=by
  unfold fv sr fvr sg
  cases fneg b
  . simp only[Bool.false_eq_true,if_false];rw[if_neg (by omega),ba3]
  . simp only[if_true]
    rw[Int.natAbs_neg,ba3];rcases Nat.eq_zero_or_pos (rung b)with h0|h0
    . rw[h0,oO];simp
    . rw[if_pos (by omega)]
 refine⟨fun h=> ?_,fun h=> ?_⟩
 . rw[key,jZ _ (by omega)]
   congr 1;omega
 . rw[key,iQ _ (by omega),<-lC]
   congr 1
   have e1:rung b/2^52=b/2^52%2048:=by omega
   have e2:rung b%2^52=b%2^52:=by omega
   rw[e1,e2,Nat.add_comm]
theorem ajO(hb:b<18446744073709551616):(Go.bits BinOp.and IntKind.u64 (b:Int) 9223372036854775808 != 0)=fneg b:=by
 have h:=u64_and_nat b 9223372036854775808 hb (by omega);rw[show((9223372036854775808:Int))=((9223372036854775808:Nat):Int) from rfl,h,show(9223372036854775808:Nat)=2^63 from rfl];have e1:(b &&& 2^63)/2^63=b/2^63%2:=by rw[Nat.and_div_two_pow,Nat.div_self (by omega),Nat.and_one_is_mod]
 have e2:(b &&& 2^63)%2^63=0:=by rw[Nat.and_mod_two_pow,Nat.mod_self,Nat.and_zero]
 have e3:=Nat.div_add_mod (b &&& 2^63) (2^63);rw[e1,e2]at e3;unfold fneg;by_cases hc:b/2^63%2=1
 . rw[beq_iff_eq.2 hc,<-e3,hc];decide
 . rw[beq_eq_false_iff_ne.2 hc,<-e3,show b/2^63%2=0 from by omega];decide
theorem anU{m:Nat}(hm:m<4503599627370496):Go.bits BinOp.or IntKind.u64 (m:Int) 4503599627370496=((m+4503599627370496:Nat):Int):=by
 have h:=u64_or_nat m 4503599627370496 (by omega) (by omega);rw[show((4503599627370496:Int))=((4503599627370496:Nat):Int) from rfl,h]
 congr 1
 have:=Nat.two_pow_add_eq_or_of_lt (i:=52) (b:=m) hm 1;rw[Nat.or_comm,show(4503599627370496:Nat)=2^52*1 from rfl,<-this];omega
theorem adI(hb:b<2^64)(hf:fin b):(b/2^52%2048=0->mkDy (sg (fneg b) (b%2^52)) (-1074)=mkDy (fv b) (-1074))/\
 (b/2^52%2048≠0->mkDy (sg (fneg b) (b%2^52+2^52)) ((b/2^52%2048:Nat)-1+-1074)=mkDy (fv b) (-1074)):=by
 obtain⟨h1,h2⟩:=ajN hb hf;refine⟨fun h=>by rw[h1 h],fun h=> ?_⟩;rw[h2 h];refine sS (j:=b/2^52%2048-1) (k:=0) (by simp) (by omega)
def rU(B:Nat)(w0:World)(d:Dy)(t:Bool)(e:Ending)(w':World):Prop:=
 Below B w0 w'/\∃v,e=.returned (.tuple #[v,.bool t])/\DyP (fun b=>B<=b) w' v d
theorem dY{w':World}{d:Dy}{t:Bool}{v:Value}(h:RetD B w0 d (.returned v) w'):rU B w0 d t (.returned (.tuple #[v,.bool t])) w':=by
 obtain⟨h1,v',e,h2⟩:=h;injection e with e;subst e;exact⟨h1,v,rfl,h2⟩
theorem rV(hb:b<18446744073709551616)(hf:fin b)(hT:Tab w):
 Calls Tryz.prog 230 #[.float .f64 b] w (rU w.heap.size w (mkDy (fv b) (-1074)) true):=by
 obtain⟨w1,hw1,hb1,hs1,b1⟩:=pro1 w (.cells #[Value.bool false,Value.slice none 0 0,.int .i64 0] 87);have F1:=hdd (jD (b:=b) (w:=w1) hb);rw[decide_eq_true hf]at F1;have hbits:=eD b;have hS:=ajO hb;have hA:=yY b 52 hb (by omega);rw[show(((2^52-1:Nat)):Int)=4503599627370495 from rfl]at hA;have hX:=yY (b/4503599627370496) 11 (by omega) (by omega);rw[show(((2^11-1:Nat)):Int)=2047 from rfl,show((b/4503599627370496:Nat):Int)=(b:Int)/4503599627370496 from by omega]at hX;have hO:=anU (m:=b%2^52) (by omega);obtain⟨M1,M2⟩:=adI hb hf;rw[show b/4503599627370496%2^11=b/2^52%2048 from rfl]at hX;have hm:=bbH b (show 2^52>0 by omega);have hx:=bbH (b/2^52) (show 2048>0 by omega);generalize b/2^52%2048=x at*;generalize b%2^52=m at*;have hcv:IntKind.i64.wrap (x:Int)=(x:Int):=wrap_i64 (by omega);have HB:=hdd hb1;have HS:=hdd hs1;have B1:=hdd b1;have HT:=hdd (hT.below hb1);clear hb1 b1 hT hb hf;by_cases h0:x=0
 . subst h0
   have HM:=hdd (M1 rfl);obtain⟨w2,hw2,hb2,hs2,q2⟩:=pro1 w1 (.cells #[.int .u64 ((m:Nat):Int)] 101);have HN:=hdd (kR (NatP.one (x:=m) (by unfold B64;omega) q2 (p:=AnyB) trivial));rw[hs1]at HN;have HB2:=hdd (HB.out.trans (hb2.mono HB.out.size));have B12:=hdd (aC B1.out hb2 (aG B1.out));have HT2:=hdd (HT.out.below hb2);have HS2:=hdd hs2;clear hb2 hs2 q2 HB HT;go_enter Tryz.func230,Tryz.ntmps230
   go_wp2_with fail
   refine F1.out.mono ?_;rintro e w3⟨rfl,hw⟩;obtain rfl:=hw;go_wp2_with fail
   refine HN.out.mono ?_;rintro r w3⟨hb,v3,zs,rfl,hz,tz,hvz⟩;have HMK:=hdd (dE (b:=fneg b) hz);replace HB2:=hdd (HB2.out.trans (hb.mono HB2.out.size));replace B12:=hdd (aC B12.out hb (aG B12.out));replace HT2:=hdd (HT2.out.below hb);replace HS2:=hdd (ba6 (bbD HS2.out.symm) hb.size);have hv1:val zs=m:=by rw[hvz];simp[val]
   rw[hv1]at HMK;have hbl:bits (m)<=53:=by rw[aD];omega
   clear hb hz tz hvz hw1 hw2;go_wp2_with fail
   refine HMK.out.mono ?_;rintro r w4⟨hb,v4,rfl,hz⟩;have HMD:=hdd (dD (e:=-1074) hz (HT2.out.below hb) (by rw[bG];omega) (by omega));rw[HM.out]at HMD;replace HB2:=hdd (HB2.out.trans (hb.mono HB2.out.size));replace B12:=hdd (aC B12.out hb (aG B12.out));replace HS2:=hdd (ba6 HS2.out hb.size);have hw1:True:=trivial;clear hb hz;go_wp2_with fail
   refine HMD.out.mono ?_;rintro r w5⟨hb,v5,rfl,hz⟩;obtain⟨b6,A6,n6,c6,rfl,-⟩:=id hz;have B15:=aC B12.out hb (aG B12.out);obtain⟨e0,e1,e2,e3,e4,e5⟩:=cells3 B15;obtain⟨HFF,hFF⟩:=aK (HB2.out.trans (hb.mono HB2.out.size)) (g:=w.heap.size) (by omega) B15 hz (fun b hb=>by have:=HS.out;have:=HS2.out;omega);replace hFF:=hdd hFF;have HFB:=hdd (dY (t:=true) HFF.out);clear hz hb B15 HFF;go_wp2;obtain⟨f0,f1,f2,-,-,-⟩:=cells3 hFF.out;refine bodyPost_ret (v:=.tuple #[.agg #[_,_,_],_]) (by simp[results,Tryz.results230,go_sem,f0,f1,f2];first|exact⟨⟨rfl,rfl,rfl⟩,rfl⟩|rfl) rfl ?_;exact HFB.out
 . have hx0:((x:Int)==0)=false:=beq_eq_false_iff_ne.2 (by omega)
   obtain⟨M,hM⟩:∃M,M=m+2^52:=⟨_,rfl⟩;have hO2:Go.bits BinOp.or IntKind.u64 (m:Int) 4503599627370496=(M:Int):=by rw[hM];exact hO
   rw[<-hM]at M2;have hm2:M<2^53:=by omega
   clear hO hM;have HM:=hdd (M2 h0);obtain⟨w2,hw2,hb2,hs2,q2⟩:=pro1 w1 (.cells #[.int .u64 ((M:Nat):Int)] 101);have HN:=hdd (kR (NatP.one (x:=M) (by unfold B64;omega) q2 (p:=AnyB) trivial));rw[hs1]at HN;have HB2:=hdd (HB.out.trans (hb2.mono HB.out.size));have B12:=hdd (aC B1.out hb2 (aG B1.out));have HT2:=hdd (HT.out.below hb2);have HS2:=hdd hs2;clear hb2 hs2 q2 HB HT;go_enter Tryz.func230,Tryz.ntmps230
   go_wp2_with fail
   refine F1.out.mono ?_;rintro e w3⟨rfl,hw⟩;obtain rfl:=hw;go_wp2_with fail
   refine HN.out.mono ?_;rintro r w3⟨hb,v3,zs,rfl,hz,tz,hvz⟩;have HMK:=hdd (dE (b:=fneg b) hz);replace HB2:=hdd (HB2.out.trans (hb.mono HB2.out.size));replace B12:=hdd (aC B12.out hb (aG B12.out));replace HT2:=hdd (HT2.out.below hb);replace HS2:=hdd (ba6 (bbD HS2.out.symm) hb.size);have hv1:val zs=M:=by rw[hvz];simp[val]
   rw[hv1]at HMK;have hbl:bits M<=53:=by rw[aD];omega
   clear hb hz tz hvz hw1 hw2;go_wp2_with fail
   refine HMK.out.mono ?_;rintro r w4⟨hb,v4,rfl,hz⟩;have HMD:=hdd (dD (e:=(x:Nat)-1+-1074) hz (HT2.out.below hb) (by rw[bG];omega) (by omega));rw[HM.out]at HMD;replace HB2:=hdd (HB2.out.trans (hb.mono HB2.out.size));replace B12:=hdd (aC B12.out hb (aG B12.out));replace HS2:=hdd (ba6 HS2.out hb.size);have hw1:True:=trivial;clear hb hz;go_wp2_with fail
   refine HMD.out.mono ?_;rintro r w5⟨hb,v5,rfl,hz⟩;obtain⟨b6,A6,n6,c6,rfl,-⟩:=id hz;have B15:=aC B12.out hb (aG B12.out);obtain⟨e0,e1,e2,e3,e4,e5⟩:=cells3 B15;obtain⟨HFF,hFF⟩:=aK (HB2.out.trans (hb.mono HB2.out.size)) (g:=w.heap.size) (by omega) B15 hz (fun b hb=>by have:=HS.out;have:=HS2.out;omega);replace hFF:=hdd hFF;have HFB:=hdd (dY (t:=true) HFF.out);clear hz hb B15 HFF;go_wp2;obtain⟨f0,f1,f2,-,-,-⟩:=cells3 hFF.out;refine bodyPost_ret (v:=.tuple #[.agg #[_,_,_],_]) (by simp[results,Tryz.results230,go_sem,f0,f1,f2];first|exact⟨⟨rfl,rfl,rfl⟩,rfl⟩|rfl) rfl ?_;exact HFB.out
theorem aH{b:Value}(h:w.heap[g]? =some (.cells #[a,b,c,d,e,f] T (0,0))):
 w.cell? ⟨g,0,none⟩=some a/\w.cell? ⟨g,1,none⟩=some b/\w.cell? ⟨g,2,none⟩=some c/\w.cell? ⟨g,3,none⟩=some d/\w.cell? ⟨g,4,none⟩=some e/\w.cell? ⟨g,5,none⟩=some f:=by
 refine⟨?_,?_,?_,?_,?_,?_⟩<;>simp[World.cell?,h]
theorem fV{b:Value}(h:w.heap[g]? =some (.cells #[a,b,c,d,e,f] T (0,0))):
 w.frozen? ⟨g,0,none⟩=false/\w.frozen? ⟨g,1,none⟩=false/\w.frozen? ⟨g,2,none⟩=false/\w.frozen? ⟨g,3,none⟩=false/\w.frozen? ⟨g,4,none⟩=false/\w.frozen? ⟨g,5,none⟩=false:=by
 refine⟨?_,?_,?_,?_,?_,?_⟩<;>simp[World.frozen?,h]
def put6(w:World)(g:Nat)(a b c d e f:Value):World:=
 (((((w.setCell ⟨g,0,none⟩ a).setCell ⟨g,1,none⟩ b).setCell ⟨g,2,none⟩ c).setCell ⟨g,3,none⟩ d).setCell ⟨g,4,none⟩ e).setCell ⟨g,5,none⟩ f
theorem gZ{b:Value}(h:w.heap[g]? =some (.cells #[a,b,c,d,e,f] T (0,0)))(u v x y z t:Value):
 (put6 w g u v x y z t).heap[g]? =some (.cells #[u,v,x,y,z,t] T (0,0)):=by
 have hg:g<w.heap.size:=(Array.getElem?_eq_some_iff.1 h).1;have h':w.heap[g]=.cells #[a,b,c,d,e,f] T (0,0):=(Array.getElem?_eq_some_iff.1 h).2;simp[put6,World.setCell,hg,Array.getElem_modify,h']
theorem eZ(hb:Below B w0 w)(hg:B<=g)(u v x y z t:Value):Below B w0 (put6 w g u v x y z t):=
 (((((hb.setCell hg _).setCell hg _).setCell hg _).setCell hg _).setCell hg _).setCell hg _
theorem vN(h:g≠i)(u v x y z t:Value):(put6 w g u v x y z t).heap[i]? =w.heap[i]? :=by
 unfold put6;rw[ba2 _ _ _ _ (by simp;omega),ba2 _ _ _ _ (by simp;omega),ba2 _ _ _ _ (by simp;omega),ba2 _ _ _ _ (by simp;omega),ba2 _ _ _ _ (by simp;omega),ba2 _ _ _ _ (by simp;omega)]
theorem iJ{z0:Int}(h:IntP p w va z0)(ha:∀b,p b->b≠g)(u v x y z t:Value):IntP p (put6 w g u v x y z t) va z0:=
 (((((h.setCell (a:=⟨g,0,none⟩) ha u).setCell (a:=⟨g,1,none⟩) ha v).setCell (a:=⟨g,2,none⟩) ha x).setCell (a:=⟨g,3,none⟩) ha y).setCell (a:=⟨g,4,none⟩) ha z).setCell (a:=⟨g,5,none⟩) ha t
theorem ajP(hx:DyP p w va x)(hT:Tab w)(sx:SmD x):
 Calls Tryz.prog 260 #[va] w (RetD w.heap.size w (mkDy x.man x.exp)):=by
 obtain⟨ba,A,n,c,rfl,h⟩:=hx;obtain⟨w2,hw2,hb2,hs2,b1,b2⟩:=pro2 w (.cells #[Value.bool ba,.slice A n c,.int .i64 x.exp] 87) (.cells #[Value.bool false,Value.slice none 0 0,.int .i64 0] 87);have HB:=hdd hb2;have HS:=hdd hs2;have B2:=hdd b2;obtain⟨c0,c1,c2,-,-,-⟩:=cells3 b1;have HMK:=hdd (dD (e:=x.exp) (h.below hb2) (hT.below hb2) (by have:=sx.1;omega) (by have:=sx.2;omega));clear h hb2 b1 b2 hs2 hT sx;go_enter Tryz.func260,Tryz.ntmps260
 go_wp2_with fail
 refine HMK.out.mono ?_;rintro r w3⟨hb,v5,rfl,hz⟩;obtain⟨b6,A6,n6,c6,rfl,-⟩:=id hz;have B23:=hbl B2.out hb;obtain⟨e0,e1,e2,e3,e4,e5⟩:=cells3 B23;obtain⟨HFF,hFF⟩:=aK (HB.out.trans (hb.mono HB.out.size)) (g:=w.heap.size+1) (by omega) B23 hz (fun b hb=>by have:=HS.out;omega);replace hFF:=hdd hFF;clear hz hb B23 c0 c1 c2;go_wp2;obtain⟨f0,f1,f2,-,-,-⟩:=cells3 hFF.out;refine bodyPost_ret (v:=.agg #[_,_,_]) (by simp[results,Tryz.results260,go_sem,f0,f1,f2];first|exact⟨rfl,rfl,rfl⟩|rfl) rfl ?_;exact HFF.out
end
section
open Nat renaming pow_add->bbO,two_pow_pos->bbQ
open Rat renaming intCast_natCast->bbI,intCast_mul->bbJ,mul_pos->bbK,natCast_mul->bbL,natCast_le_natCast->bbM,mul_nonneg->bbN,intCast_neg_iff->bbP,intCast_neg->bbR
variable{a b:Int}
def p2(e:Int):Rat:=if 0<=e then((2^e.toNat:Nat):Rat)else 1/((2^(-e).toNat:Nat):Rat)
theorem vO(k:Nat):(0:Rat)<((2^k:Nat):Rat):=Rat.natCast_pos.2 (bbQ k)
theorem fA(k:Nat):p2 k=((2^k:Nat):Rat):=by unfold p2;rw[if_pos (by omega)];rfl
theorem pM(e:Int)(k:Nat)(h:0<=e+k):p2 e*((2^k:Nat):Rat)=((2^(e+k).toNat:Nat):Rat):=by
 unfold p2
 split
 . rw[<-bbL,<-bbO];congr 2;omega
 . have e1:k=(-e).toNat+(e+k).toNat:=by omega
   have h2:=vO (-e).toNat
   conv=>lhs;rw[e1]
   rw[bbO,bbL];generalize ((2^(-e).toNat:Nat):Rat)=a at*;generalize ((2^(e+k).toNat:Nat):Rat)=b at*;grind
theorem bD(e:Int):0<p2 e:=by
 unfold p2;split
 . exact vO _
 . exact dB (by decide) (vO _)
theorem bY(a b:Int):p2 (a+b)=p2 a*p2 b:=by
 have h1:=pM a a.natAbs (by omega);have h2:=pM b b.natAbs (by omega);have h3:=pM (a+b) (a.natAbs+b.natAbs) (by omega);have e1:(a+b+((a.natAbs+b.natAbs:Nat):Int)).toNat=(a+(a.natAbs:Nat)).toNat+(b+(b.natAbs:Nat)).toNat:=by omega
 rw[e1,bbO,bbO,bbL,bbL,<-h1,<-h2]at h3;have k1:=vO a.natAbs;have k2:=vO b.natAbs;generalize ((2^a.natAbs:Nat):Rat)=x at*;generalize ((2^b.natAbs:Nat):Rat)=y at*;have k3:=bbK k1 k2;have h4:(p2 (a+b)-p2 a*p2 b)*(x*y)=0:=by grind
 rcases Rat.mul_eq_zero.1 h4 with h5|h5<;>grind
theorem lD:p2 0=1:=by decide
theorem anB:p2 1=2:=by decide
theorem gH(e:Int):p2 (e+1)=2*p2 e:=by rw[bY,anB];grind
theorem iL(h:a<=b):p2 a<=p2 b:=by
 have e:b=a+((b-a).toNat:Nat):=by omega
 rw[e,bY,fA];have h1:(1:Rat)<=((2^(b-a).toNat:Nat):Rat):=by
  have:=bbM.2 (bbQ (b-a).toNat);simpa using this
 have:=bbN (a:=p2 a) (b:=((2^(b-a).toNat:Nat):Rat)-1) (by have:=bD a;grind) (by grind);grind
theorem amC(h:a<b):p2 a<p2 b:=by
 have h1:=iL (show a+1<=b by omega);rw[gH]at h1;have:=bD a;grind
theorem agF:p2 a<p2 b↔a<b:=by
 constructor
 . intro h
   rcases Int.lt_or_le a b with h1|h1
   . exact h1
   . have:=iL h1;grind
 . exact amC
def rv(d:Dy):Rat:=(d.man:Rat)*p2 d.exp
theorem lF(e:Int):rv ⟨0,e⟩=0:=by unfold rv;simp
theorem kL(x e:Int):rv (mkDy x e)=(x:Rat)*p2 e:=by
 rcases iD x e with ⟨h1,h2⟩|⟨h1,h2,h3,h4⟩
 . rw[h1,h2,lF];simp
 . unfold rv
   generalize mkDy x e=d at*;have e1:d.exp=e+((d.exp-e).toNat:Nat):=by omega
   conv=>rhs;rw[h4]
   conv=>lhs;rw[e1]
   rw[bY,fA,bbJ,bbI];grind
def Canon(d:Dy):Prop:=mkDy d.man d.exp=d
theorem Canon.mk (x e:Int):Canon (mkDy x e):=nE x e
theorem zN(a b:Dy):rv (addD a b)=rv a+rv b:=by
 unfold addD
 split
 . rename_i h;rw[kL];unfold rv;rw[h];simp[Rat.zero_add]
 . split
   . rename_i h;rw[kL];unfold rv;rw[h];simp[Rat.add_zero]
   . rw[kL,gX,gY,Rat.intCast_add,bbJ,bbJ,bbI,bbI,<-fA,<-fA]
     unfold rv;have e1:p2 a.exp=p2 ((a.exp-min a.exp b.exp).toNat:Nat)*p2 (min a.exp b.exp):=by rw[<-bY];congr 1;omega
     have e2:p2 b.exp=p2 ((b.exp-min a.exp b.exp).toNat:Nat)*p2 (min a.exp b.exp):=by rw[<-bY];congr 1;omega
     rw[e1,e2];grind
theorem zO(a b:Dy):rv (mulD a b)=rv a*rv b:=by
 unfold mulD rv;have:=kL (a.man*b.man) (a.exp+b.exp);unfold rv at this;rw[this,bbJ,bY];grind
theorem nG(a:Dy):rv (notD a)=-rv a:=by
 unfold notD;rw[kL];unfold rv;rw[bbR];grind
theorem aX(d:Dy):(0<rv d↔0<d.man)/\(rv d<0↔d.man<0)/\(rv d=0↔d.man=0):=by
 have hp:=bD d.exp;unfold rv;rcases Int.lt_trichotomy d.man 0 with h|h|h
 . have h1:(d.man:Rat)<0:=bbP.2 h
   have h2:=bbK (a:=-(d.man:Rat)) (b:=p2 d.exp) (by grind) hp;refine⟨⟨fun _=>by grind,fun _=>by omega⟩,⟨fun _=>h,fun _=>by grind⟩,⟨fun _=>by grind,fun _=>by omega⟩⟩
 . rw[h]
   have h0:((0:Int):Rat)=0:=rfl;refine⟨⟨fun _=>by grind,fun _=>by omega⟩,⟨fun _=>by grind,fun _=>by omega⟩,⟨fun _=>rfl,fun _=>by grind⟩⟩
 . have h1:0<(d.man:Rat):=Rat.intCast_pos.2 h
   have h2:=bbK (a:=(d.man:Rat)) (b:=p2 d.exp) h1 hp;refine⟨⟨fun _=>h,fun _=>h2⟩,⟨fun _=>by grind,fun _=>by omega⟩,⟨fun _=>by grind,fun _=>by omega⟩⟩
theorem ajQ(a b:Dy):(cmpD a b<0↔rv a<rv b)/\(0<cmpD a b↔rv b<rv a):=by
 have e1:rv a=(dG a b:Rat)*p2 (min a.exp b.exp):=by
  rw[gX,bbJ,bbI,<-fA];have:p2 a.exp=p2 ((a.exp-min a.exp b.exp).toNat:Nat)*p2 (min a.exp b.exp):=by rw[<-bY];congr 1;omega
  unfold rv;rw[this];grind
 have e2:rv b=(dH a b:Rat)*p2 (min a.exp b.exp):=by
  rw[gY,bbJ,bbI,<-fA];have:p2 b.exp=p2 ((b.exp-min a.exp b.exp).toNat:Nat)*p2 (min a.exp b.exp):=by rw[<-bY];congr 1;omega
  unfold rv;rw[this];grind
 have hp:=bD (min a.exp b.exp);rw[e1,e2];unfold cmpD cmpI;generalize dG a b=x at*;generalize dH a b=y at*;generalize p2 (min a.exp b.exp)=p at*;have key:∀u v:Int,u<v->(u:Rat)*p<(v:Rat)*p:=fun u v h=>by
  have h1:=Rat.intCast_lt_intCast.2 h;have:=bbK (a:=(v:Rat)-u) (b:=p) (by grind) hp;grind
 rcases Int.lt_trichotomy x y with h|h|h
 . have:=key x y h
   rw[if_pos h];exact⟨⟨fun _=>this,fun _=>by decide⟩,⟨fun h=>absurd h (by decide),fun _=>by grind⟩⟩
 . rw[h,if_neg (by omega),if_neg (by omega)]
   exact⟨⟨fun h=>absurd h (by decide),fun _=>by grind⟩,⟨fun h=>absurd h (by decide),fun _=>by grind⟩⟩
 . have:=key y x h
   rw[if_neg (by omega),if_pos h];exact⟨⟨fun h=>absurd h (by decide),fun _=>by grind⟩,⟨fun _=>this,fun _=>by decide⟩⟩
theorem iM(x:Int):((x.natAbs:Nat):Rat)=x/\0<=x\/((x.natAbs:Nat):Rat)=-x/\x<0:=by
 rcases Int.lt_or_le x 0 with h|h
 . right;refine⟨?_,h⟩
   rw[<-bbI,<-bbR];congr 1;omega
 . left;refine⟨?_,h⟩
   rw[<-bbI];congr 1;omega
theorem pO{m:Nat}(h:m≠0):p2 ((bits m:Int)-1)<=(m:Rat)/\(m:Rat)<p2 (bits m):=by
 have h1:=(aD m (bits m)).1 nlr;have h2:¬bits m<=bits m-1:=by
  have:=(not_congr (bN m)).2 h;omega
 rw[aD]at h2;have e:(bits m:Int)-1=((bits m-1:Nat):Int):=by have:=(not_congr (bN m)).2 h;omega
 rw[e,fA,fA];exact⟨bbM.2 (by omega),Rat.natCast_lt_natCast.2 h1⟩
theorem ajR(d:Dy):-p2 (topD d)<rv d/\rv d<p2 (topD d):=by
 unfold topD
 split
 . rename_i h
   have:rv d=0:=(aX d).2.2.2 h;rw[this,lD];constructor<;>decide
 . rename_i h
   have h1:=(pO (m:=d.man.natAbs) (by omega)).2;have hp:=bD d.exp;rw[bY];have h2:=bbK (a:=p2 (bits d.man.natAbs)-(d.man.natAbs:Rat)) (b:=p2 d.exp) (by grind) hp;have h3:=bbK (bD (bits d.man.natAbs)) hp;unfold rv;rcases iM d.man with ⟨h4,h5⟩|⟨h4,h5⟩
   . have h6:=bbN (a:=(d.man:Rat)) (b:=p2 d.exp) (Rat.intCast_nonneg.2 h5) (by grind)
     rw[h4]at h2;constructor<;>grind
   . have h6:=bbK (a:=-(d.man:Rat)) (b:=p2 d.exp) (by have:=bbP.2 h5;grind) hp
     rw[h4]at h2;constructor<;>grind
theorem qU(d:Dy)(h:d.man≠0):p2 (topD d-1)<=rv d\/rv d<=-p2 (topD d-1):=by
 unfold topD;rw[if_neg h,show(bits d.man.natAbs:Int)+d.exp-1=((bits d.man.natAbs:Int)-1)+d.exp from by omega,bY];have h1:=(pO (m:=d.man.natAbs) (by omega)).1;have hp:=bD d.exp;have h2:=bbN (a:=(d.man.natAbs:Rat)-p2 ((bits d.man.natAbs:Int)-1)) (b:=p2 d.exp) (by grind) (by grind);unfold rv;rcases iM d.man with ⟨h4,h5⟩|⟨h4,h5⟩<;>rw[h4]at h2
 . left;grind
 . right;grind
end
end Go.Proofs.YtkpodipoegbclaaGreatDoor
