/- A part of the proof: contracts of functions and plain laws (DyI, DyK, DyR, DyS, DyT). -/
import Derived.Test.YtkadpnljocflaaaGreatDoorK12
import Derived.Test.YtkadpnljocflaaaGreatDoorK10
set_option linter.unusedVariables false
set_option linter.unusedSimpArgs false
set_option linter.unnecessarySimpa false
set_option maxHeartbeats 25600000
set_option maxRecDepth 100000
namespace Go.Proofs.YtkadpnljocflaaaGreatDoor
section
open Go.RowKit
open Go.RowKit.Below renaming heap_setCell->atE,refl->atS
open Int renaming sign_eq_zero_iff_zero->atF,natAbs_natCast->atG,sign_eq_one_of_pos->atH,natAbs_mul->atI,lt_trichotomy->atJ,sign_mul->atO,mul_one->atQ
open Nat renaming two_pow_pos->atK,pow_le_pow_right->atL,lt_or_ge->atM,le_trans->atN,pow_add->atP
variable{x y:Dy}{p q:Nat->Prop}{va vb:Value}{w:World}
theorem dL(n k:Nat):bits (n*2^k)<=bits n+k:=by
 rw[aF,atP];exact Nat.mul_lt_mul_of_pos_right (bJ n) (atK k)
theorem qB(m n:Nat):bits (m+n)<=bits m+bits n+1:=by
 rw[aF];have h1:=bJ m;have h2:=bJ n;have h3:2^bits m<=2^(bits m+bits n):=atL (by omega) (by omega);have h4:2^bits n<=2^(bits m+bits n):=atL (by omega) (by omega);rw[Nat.pow_succ];omega
def SmD(d:Dy):Prop:=bits d.man.natAbs<=134217728/\-67108864<=d.exp/\d.exp<=67108864
theorem yK(hx:SmD x)(hy:SmD y):bits (dF x y).natAbs<=268435456:=by
 obtain⟨h1,h2,h3⟩:=hx;obtain⟨k1,k2,k3⟩:=hy;rw[gL,atI,atG];have:=dL x.man.natAbs (x.exp-min x.exp y.exp).toNat;omega
theorem yL(hx:SmD x)(hy:SmD y):bits (dG x y).natAbs<=268435456:=by
 obtain⟨h1,h2,h3⟩:=hx;obtain⟨k1,k2,k3⟩:=hy;rw[gM,atI,atG];have:=dL y.man.natAbs (y.exp-min x.exp y.exp).toNat;omega
theorem afO{x y:Int}(hx:bits x.natAbs<=268435456)(hy:bits y.natAbs<=268435456):bits (x+y).natAbs<=1073741824:=by
 have h1:bits (x+y).natAbs<=bits (x.natAbs+y.natAbs):=bP (by omega);have:=qB x.natAbs y.natAbs;omega
theorem sK(hx:DyP p w va x)(hy:DyP q w vb y)(hT:Tab w)(hp:∀b,p b->b<w.heap.size)(hq:∀b,q b->b<w.heap.size)(sx:SmD x)(sy:SmD y):
 Calls Tryz.prog 137 #[va,vb] w (RetD w.heap.size w (addD x y)):=by
 obtain⟨ba,A,n,c,rfl,h⟩:=hx;obtain⟨bb,A',n',c',rfl,h'⟩:=hy;obtain⟨w3,hw3,hb3,hs3,b1,b2,b3⟩:=pro3 w (.cells #[Value.bool ba,.slice A n c,.int .i64 x.exp] 90) (.cells #[Value.bool bb,.slice A' n' c',.int .i64 y.exp] 90) (.cells #[Value.bool false,Value.slice none 0 0,.int .i64 0] 90);have HB:=hdd hb3;have H1:=hdd (h.below hb3);have H2:=hdd (h'.below hb3);have HT:=hdd (hT.below hb3);have HS:=hdd hs3;have B3:=hdd b3;have HP:=hdd hp;have HQ:=hdd hq;have SX:=hdd sx;have SY:=hdd sy;obtain⟨c0,c1,c2,-,-,-⟩:=cells3 b1;obtain⟨d0,d1,d2,-,-,-⟩:=cells3 b2;have D1:Hid (DyP p w3 (.agg #[.bool ba,.slice A n c,.int .i64 x.exp]) x):=hdd ⟨_,_,_,_,rfl,H1.out⟩;have D2:Hid (DyP q w3 (.agg #[.bool bb,.slice A' n' c',.int .i64 y.exp]) y):=hdd ⟨_,_,_,_,rfl,H2.out⟩;have HSZ3:Hid (w3.heap.size<=w3.heap.size):=hdd nlr;clear h h' hb3 b1 b2 b3 hs3 hT hp hq sx sy;go_enter Tryz.func137,Tryz.ntmps137
 go_wp2_with fail
 refine(bY D1.out).mono ?_;rintro r w4⟨rfl,hb⟩;replace c0:=cbl c0 hb;replace c1:=cbl c1 hb;replace c2:=cbl c2 hb;replace d0:=cbl d0 hb;replace d1:=cbl d1 hb;replace d2:=cbl d2 hb;replace HB:=hdd (HB.out.trans (hb.mono HB.out.size));replace D1:=hdd (D1.out.below hb);replace D2:=hdd (D2.out.below hb);replace HT:=hdd (HT.out.below hb);replace H1:=hdd (H1.out.below hb);replace H2:=hdd (H2.out.below hb);replace B3:=hdd (hbl B3.out hb);have HS4:=hdd hb.size;clear hb hw3;by_cases hz:x.man=0
 . have hs:(x.man.sign==0)=true:=by rw[hz];rfl
   have HADD:Hid (addD x y=mkDy y.man y.exp):=hdd (by unfold addD;rw[if_pos hz]);clear hz;have HMK:=hdd (bX (e:=y.exp) H2.out HT.out (by have:=SY.out.1;omega) (by have:=SY.out.2;omega));go_wp2_with fail
   refine HMK.out.mono ?_;rintro r w5⟨hb,v5,rfl,hz⟩;obtain⟨b6,A6,n6,c6,rfl,-⟩:=id hz;have B35:=hbl B3.out hb;obtain⟨e0,e1,e2,e3,e4,e5⟩:=cells3 B35;obtain⟨HFF,hFF⟩:=aJ (HB.out.trans (hb.mono HB.out.size)) (g:=w.heap.size+2) (by omega) B35 hz (fun b hb=>by have:=HS.out;have:=HS4.out;omega);replace hFF:=hdd hFF;clear hz hb B35 c0 c1 c2 d0 d1 d2;go_wp2;obtain⟨f0,f1,f2,-,-,-⟩:=cells3 hFF.out;refine bodyPost_ret (v:=.agg #[_,_,_]) (by simp[results,Tryz.results137,go_sem,f0,f1,f2];first|exact⟨rfl,rfl,rfl⟩|rfl) rfl ?_;rw[HADD.out];exact HFF.out
 . have hs:(x.man.sign==0)=false:=beq_eq_false_iff_ne.2 (fun h=>hz (atF.1 h))
   have HZ:=hdd hz;clear hz;go_wp2_with fail
   refine(bY D2.out).mono ?_;rintro r w5⟨rfl,hb⟩;replace c0:=cbl c0 hb;replace c1:=cbl c1 hb;replace c2:=cbl c2 hb;replace d0:=cbl d0 hb;replace d1:=cbl d1 hb;replace d2:=cbl d2 hb;replace HB:=hdd (HB.out.trans (hb.mono HB.out.size));replace D1:=hdd (D1.out.below hb);replace D2:=hdd (D2.out.below hb);replace HT:=hdd (HT.out.below hb);replace H1:=hdd (H1.out.below hb);replace H2:=hdd (H2.out.below hb);replace B3:=hdd (hbl B3.out hb);replace HS4:=hdd (atN HS4.out hb.size);clear hb;by_cases hz:y.man=0
   . have hs2:(y.man.sign==0)=true:=by rw[hz];rfl
     have HADD:Hid (addD x y=mkDy x.man x.exp):=hdd (by unfold addD;rw[if_neg HZ.out,if_pos hz]);clear hz;have HMK:=hdd (bX (e:=x.exp) H1.out HT.out (by have:=SX.out.1;omega) (by have:=SX.out.2;omega));go_wp2_with fail
     refine HMK.out.mono ?_;rintro r w6⟨hb,v5,rfl,hz⟩;obtain⟨b6,A6,n6,c6,rfl,-⟩:=id hz;have B35:=hbl B3.out hb;obtain⟨e0,e1,e2,e3,e4,e5⟩:=cells3 B35;obtain⟨HFF,hFF⟩:=aJ (HB.out.trans (hb.mono HB.out.size)) (g:=w.heap.size+2) (by omega) B35 hz (fun b hb=>by have:=HS.out;have:=HS4.out;omega);replace hFF:=hdd hFF;clear hz hb B35 c0 c1 c2 d0 d1 d2;go_wp2;obtain⟨f0,f1,f2,-,-,-⟩:=cells3 hFF.out;refine bodyPost_ret (v:=.agg #[_,_,_]) (by simp[results,Tryz.results137,go_sem,f0,f1,f2];first|exact⟨rfl,rfl,rfl⟩|rfl) rfl ?_;rw[HADD.out];exact HFF.out
   . have hs2:(y.man.sign==0)=false:=beq_eq_false_iff_ne.2 (fun h=>hz (atF.1 h))
     have HADD:Hid (addD x y=mkDy (dF x y+dG x y) (min x.exp y.exp)):=hdd (by unfold addD;rw[if_neg HZ.out,if_neg hz]);clear hz;have HAL:=hdd (u6 D1.out D2.out (fun b hb=>by have:=HP.out b hb;have:=HB.out.size;omega) (fun b hb=>by have:=HQ.out b hb;have:=HB.out.size;omega) SX.out.1 SY.out.1 SX.out.2 SY.out.2);have BA:=hdd (yK SX.out SY.out);have BB:=hdd (yL SX.out SY.out);have HE:Hid (-1000000000000<=min x.exp y.exp/\min x.exp y.exp<=1000000000000):=hdd (by have:=SX.out.2;have:=SY.out.2;omega);generalize dF x y=X at*;generalize dG x y=Y at*;generalize min x.exp y.exp=E at*;go_wp2_with fail
     refine HAL.out.mono ?_;rintro r w6⟨hb,u1,U1,m1,k1,u2,U2,m2,k2,rfl,hX,hY⟩;have hX':=hX.weak (q:=fun b=>b<w6.heap.size) fun b _ h=>h;have hY':=hY.weak (q:=fun b=>b<w6.heap.size) fun b _ h=>h;replace HB:=hdd (HB.out.trans (hb.mono HB.out.size));replace HT:=hdd (HT.out.below hb);replace B3:=hdd (hbl B3.out hb);replace HS4:=hdd (atN HS4.out hb.size);obtain⟨w8,hw8,hb8,hs8,q1,q2⟩:=pro2 w6 (.cells #[Value.bool false,Value.slice none 0 0] 75) (.cells #[Value.bool false,Value.slice none 0 0] 75);obtain⟨g0,g1,g2,g3⟩:=aB q1;obtain⟨i0,i1,i2,i3⟩:=aB q2;clear c0 c1 c2 d0 d1 d2 D1 D2 H1 H2;have r1:=set2 q1 (.bool u1) (.slice U1 m1 k1);have q2':((w8.setCell ⟨w6.heap.size,0,none⟩ (.bool u1)).setCell ⟨w6.heap.size,1,none⟩ (.slice U1 m1 k1)).heap[w6.heap.size+1]? =some (.cells #[Value.bool false,Value.slice none 0 0] 75 (0,0)):=by
      rw[atE _ _ _ _ (by simp),atE _ _ _ _ (by simp)];exact q2
     have r2:=set2 q2' (.bool u2) (.slice U2 m2 k2);have r1':((((w8.setCell ⟨w6.heap.size,0,none⟩ (.bool u1)).setCell ⟨w6.heap.size,1,none⟩ (.slice U1 m1 k1)).setCell ⟨w6.heap.size+1,0,none⟩ (.bool u2)).setCell ⟨w6.heap.size+1,1,none⟩ (.slice U2 m2 k2)).heap[w6.heap.size]? =some (.cells #[.bool u1,.slice U1 m1 k1] 75 (0,0)):=by
      rw[atE _ _ _ _ (by simp),atE _ _ _ _ (by simp)];exact r1
     have hbb:Below w6.heap.size w6 ((((w8.setCell ⟨w6.heap.size,0,none⟩ (.bool u1)).setCell ⟨w6.heap.size,1,none⟩ (.slice U1 m1 k1)).setCell ⟨w6.heap.size+1,0,none⟩ (.bool u2)).setCell ⟨w6.heap.size+1,1,none⟩ (.slice U2 m2 k2)):=(((hb8.setCell (by simp) _).setCell (by simp) _).setCell (by simp) _).setCell (by simp) _;have HXX:=hdd (hX'.below hbb);have HYY:=hdd (hY'.below hbb);have HBB:=hdd hbb;have HR1:=hdd r1';have HR2:=hdd r2;clear hX hY hX' hY' hb hb8 hs8 q1 q2 q2' r1 r1' r2 hbb;obtain⟨w9,hw9,hb9,hs9,q9⟩:=pro1 ((((w8.setCell ⟨w6.heap.size,0,none⟩ (.bool u1)).setCell ⟨w6.heap.size,1,none⟩ (.slice U1 m1 k1)).setCell ⟨w6.heap.size+1,0,none⟩ (.bool u2)).setCell ⟨w6.heap.size+1,1,none⟩ (.slice U2 m2 k2)) (.cells #[.bool u2,.slice U2 m2 k2] 75);have hsz8:((((w8.setCell ⟨w6.heap.size,0,none⟩ (.bool u1)).setCell ⟨w6.heap.size,1,none⟩ (.slice U1 m1 k1)).setCell ⟨w6.heap.size+1,0,none⟩ (.bool u2)).setCell ⟨w6.heap.size+1,1,none⟩ (.slice U2 m2 k2)).heap.size=w8.heap.size:=by simp[World.setCell]
     rw[hsz8]at hb9 hs9 q9;obtain⟨j0,j1,-,-⟩:=aB HR1.out;obtain⟨l0,l1,-,-⟩:=aB HR2.out;have hb69:=HBB.out.trans (hb9.mono (by have:=HBB.out.size;omega));have HADDI:=hdd (aeR (HXX.out.below (by rw[hsz8];exact hb9)) q9 (HYY.out.below (by rw[hsz8];exact hb9)) (by have:=BA.out;have:=BB.out;omega));have HB9:=hdd hb69;clear hb9 hs9 q9 hb69 HXX HYY HBB HR1 HR2;go_wp2_with fail
     refine HADDI.out.mono ?_;rintro r w10⟨hb,v10,rfl,hz⟩;replace HB9:=hdd (HB9.out.trans (hb.mono HB9.out.size));have HSZ:=hdd hb.size;have HMK:=hdd (bX (e:=E) hz (HT.out.below HB9.out) (afO BA.out BB.out) HE.out);clear hb hz g0 g1 g2 g3 i0 i1 i2 i3 j0 j1 l0 l1 hw8 hw9 hsz8;go_wp2_with fail
     refine HMK.out.mono ?_;rintro r w11⟨hb,v5,rfl,hz⟩;obtain⟨b6,A6,n6,c6,rfl,-⟩:=id hz;have hb9:=HB9.out.trans (hb.mono HB9.out.size);have B35:=hbl B3.out hb9;obtain⟨e0,e1,e2,e3,e4,e5⟩:=cells3 B35;obtain⟨HFF,hFF⟩:=aJ (HB.out.trans (hb9.mono HB.out.size)) (g:=w.heap.size+2) (by omega) B35 hz (fun b hb=>by have:=HS.out;have:=HS4.out;have:=HB9.out.size;omega);replace hFF:=hdd hFF;clear hz hb B35 hb9;go_wp2;obtain⟨f0,f1,f2,-,-,-⟩:=cells3 hFF.out;refine bodyPost_ret (v:=.agg #[_,_,_]) (by simp[results,Tryz.results137,go_sem,f0,f1,f2];first|exact⟨rfl,rfl,rfl⟩|rfl) rfl ?_;rw[HADD.out];exact HFF.out
theorem jF{n:Nat}(hn:n≠0)(k:Nat):bits (n*2^k)=bits n+k:=by
 refine Nat.le_antisymm (dL n k) ?_;rcases atM (bits (n*2^k)) (bits n+k)with h|h
 . exfalso
   have hb:bits n≠0:=fun h'=>hn ((bK _).1 h');have h1:=(aF (n*2^k) (bits n-1+k)).1 (by omega);rw[atP]at h1;have h2:=dX n hn;have:=Nat.mul_le_mul_right (2^k) h2;omega
 . exact h
theorem eT(x y:Dy):(dF x y).sign=x.man.sign:=by
 have:=atK (x.exp-min x.exp y.exp).toNat;rw[gL,atO,atH (a:=((2^(x.exp-min x.exp y.exp).toNat:Nat):Int)) (by omega),atQ]
theorem iB(x y:Dy):(dG x y).sign=y.man.sign:=by
 have:=atK (y.exp-min x.exp y.exp).toNat;rw[gM,atO,atH (a:=((2^(y.exp-min x.exp y.exp).toNat:Nat):Int)) (by omega),atQ]
theorem vB(hx:x.man≠0):topD x-min x.exp y.exp=bits (dF x y).natAbs:=by
 rw[gL,atI,atG,jF (by omega)];unfold topD;rw[if_neg hx];omega
theorem vC(hy:y.man≠0):topD y-min x.exp y.exp=bits (dG x y).natAbs:=by
 rw[gM,atI,atG,jF (by omega)];unfold topD;rw[if_neg hy];omega
theorem ahU{x y:Dy}(h:x.man.sign<y.man.sign):cmpD x y=-1:=pW (by rw[eT,iB];exact h)
theorem ahV{x y:Dy}(h:y.man.sign<x.man.sign):cmpD x y=1:=pX (by rw[eT,iB];exact h)
theorem ac3{x y:Dy}(h:x.man.sign=y.man.sign)(h0:x.man.sign=0):cmpD x y=0:=by
 have h1:dF x y=0:=atF.1 (by rw[eT];exact h0);have h2:dG x y=0:=atF.1 (by rw[iB,<-h];exact h0);unfold cmpD;rw[h1,h2];rfl
theorem afP{x y:Dy}(h:x.man.sign=y.man.sign)(h0:x.man.sign≠0)(ht:topD x<topD y):cmpD x y=-x.man.sign:=by
 have hx:x.man≠0:=fun e=>h0 (by rw[e];rfl);have hy:y.man≠0:=fun e=>h0 (by rw[h,e];rfl);have h1:=vB (y:=y) hx;have h2:=vC (x:=x) hy;have hlt:(dF x y).natAbs<(dG x y).natAbs:=by
  rcases atM (dF x y).natAbs (dG x y).natAbs with h|h
  . exact h
  . have:=bP h;omega
 unfold cmpD;rw[kU (by rw[eT,iB];exact h),eT];unfold cmpN;rw[if_pos hlt];omega
theorem ac4{x y:Dy}(h:x.man.sign=y.man.sign)(h0:x.man.sign≠0)(ht:topD y<topD x):cmpD x y=x.man.sign:=by
 have hx:x.man≠0:=fun e=>h0 (by rw[e];rfl);have hy:y.man≠0:=fun e=>h0 (by rw[h,e];rfl);have h1:=vB (y:=y) hx;have h2:=vC (x:=x) hy;have hlt:(dG x y).natAbs<(dF x y).natAbs:=by
  rcases atM (dG x y).natAbs (dF x y).natAbs with h|h
  . exact h
  . have:=bP h;omega
 unfold cmpD;rw[kU (by rw[eT,iB];exact h),eT];unfold cmpN;rw[if_neg (by omega),if_pos hlt];omega
theorem sM(hx:DyP p w va x)(hy:DyP q w vb y)(hp:∀b,p b->b<w.heap.size)(hq:∀b,q b->b<w.heap.size)(sx:SmD x)(sy:SmD y):
 Calls Tryz.prog 54 #[va,vb] w (RetK w (cmpD x y)):=by
 obtain⟨ba,A,n,c,rfl,h⟩:=hx;obtain⟨bb,A',n',c',rfl,h'⟩:=hy;obtain⟨w2,hw2,hb2,hs2,b1,b2⟩:=pro2 w (.cells #[Value.bool ba,.slice A n c,.int .i64 x.exp] 90) (.cells #[Value.bool bb,.slice A' n' c',.int .i64 y.exp] 90);have HB:=hdd hb2;have HS:=hdd hs2;have HP:=hdd hp;have HQ:=hdd hq;have SX:=hdd sx;have SY:=hdd sy;obtain⟨c0,c1,c2,-,-,-⟩:=cells3 b1;obtain⟨d0,d1,d2,-,-,-⟩:=cells3 b2;have D1:Hid (DyP p w2 (.agg #[.bool ba,.slice A n c,.int .i64 x.exp]) x):=hdd ⟨_,_,_,_,rfl,h.below hb2⟩;have D2:Hid (DyP q w2 (.agg #[.bool bb,.slice A' n' c',.int .i64 y.exp]) y):=hdd ⟨_,_,_,_,rfl,h'.below hb2⟩;clear h h' hb2 b1 b2 hs2 hp hq sx sy;go_enter Tryz.func54,Tryz.ntmps54
 go_wp2_with fail
 have HSA:Hid (∀w',Below w2.heap.size w2 w'->Calls Tryz.prog 77 #[.agg #[.bool ba,.slice A n c,.int .i64 x.exp]] w' (RetK w' x.man.sign)):=hdd fun w' h=>bY (D1.out.below h);have HSB:Hid (∀w',Below w2.heap.size w2 w'->Calls Tryz.prog 77 #[.agg #[.bool bb,.slice A' n' c',.int .i64 y.exp]] w' (RetK w' y.man.sign)):=hdd fun w' h=>bY (D2.out.below h);have HTA:Hid (∀w',Below w2.heap.size w2 w'->Calls Tryz.prog 78 #[.agg #[.bool ba,.slice A n c,.int .i64 x.exp]] w' (RetK w' (topD x))):=hdd fun w' h=>nP (D1.out.below h) (by have:=SX.out.2;omega);have HTB:Hid (∀w',Below w2.heap.size w2 w'->Calls Tryz.prog 78 #[.agg #[.bool bb,.slice A' n' c',.int .i64 y.exp]] w' (RetK w' (topD y))):=hdd fun w' h=>nP (D2.out.below h) (by have:=SY.out.2;omega);have HBW:Below w2.heap.size w2 w2.drew:=(atS _ _).drew;replace c0:=cbl c0 HBW;replace c1:=cbl c1 HBW;replace c2:=cbl c2 HBW;replace d0:=cbl d0 HBW;replace d1:=cbl d1 HBW;replace d2:=cbl d2 HBW
 go_region_held3 (fun w'=>w'.cell? ⟨w.heap.size,0,none⟩=some (.bool ba)/\w'.cell? ⟨w.heap.size,1,none⟩=some (.slice A n c)/\w'.cell? ⟨w.heap.size,2,none⟩=some (.int .i64 x.exp)/\w'.cell? ⟨w.heap.size+1,0,none⟩=some (.bool bb)/\w'.cell? ⟨w.heap.size+1,1,none⟩=some (.slice A' n' c')/\w'.cell? ⟨w.heap.size+1,2,none⟩=some (.int .i64 y.exp)) (go_keep)
  (first
  |(go_at_call 77
    with_reducible refine(HSA.out _ (by assumption)).mono ?_
    rintro e w3⟨rfl,hb⟩;have c0:=cbl c0 hb;have c1:=cbl c1 hb;have c2:=cbl c2 hb;have d0:=cbl d0 hb;have d1:=cbl d1 hb;have d2:=cbl d2 hb;have HBW:=aA HBW hb)
  |(go_at_call 77
    with_reducible refine(HSB.out _ (by assumption)).mono ?_
    rintro e w4⟨rfl,hb⟩;have c0:=cbl c0 hb;have c1:=cbl c1 hb;have c2:=cbl c2 hb;have d0:=cbl d0 hb;have d1:=cbl d1 hb;have d2:=cbl d2 hb;have HBW:=aA HBW hb))
 have HB3:=hdd (HB.out.trans (HBW.mono HB.out.size));have HW3:=hdd HBW;have HLT:=hdd (@ahU x y);have HGT:=hdd (@ahV x y);have HEQ:=hdd (@ac3 x y);have HTL:=hdd (@afP x y);have HTG:=hdd (@ac4 x y);clear HBW HSA HSB hw2;have hsb:-1<=x.man.sign/\x.man.sign<=1:=by
  rcases atJ x.man 0 with h|h|h
  . rw[Int.sign_eq_neg_one_of_neg h];omega
  . rw[h];decide
  . rw[atH h];omega
 generalize x.man.sign=s at*;generalize y.man.sign=t at*;rcases atJ s t with h|h|h
 . have h2:=HLT.out h
   have HF:Hid (RetK w (cmpD x y) (.returned (.int .i64 (-1))) _):=hdd ⟨by rw[h2],HB3.out⟩;clear h2;go_wp2;go_ret;exact HF.out
 . subst h
   by_cases hz:s=0
   . have h2:=HEQ.out rfl hz
     have hz2:(s==0)=true:=by rw[hz];rfl
     have HF:Hid (RetK w (cmpD x y) (.returned (.int .i64 0)) _):=hdd ⟨by rw[h2],HB3.out⟩;clear h2 hz;go_wp2;go_ret;exact HF.out
   . have hz2:(s==0)=false:=beq_eq_false_iff_ne.2 hz
     have HTL2:=hdd (HTL.out rfl hz);have HTG2:=hdd (HTG.out rfl hz);clear HLT HGT HEQ HTL HTG;go_wp2_with fail
     have HBW:Below w2.heap.size w2 w4.drew:=HW3.out.drew;have hdr:Below w4.heap.size w4 w4.drew:=(atS _ _).drew;replace c0:=cbl c0 hdr;replace c1:=cbl c1 hdr;replace c2:=cbl c2 hdr;replace d0:=cbl d0 hdr;replace d1:=cbl d1 hdr;replace d2:=cbl d2 hdr;clear hdr
     go_region_held3 (fun w'=>w'.cell? ⟨w.heap.size,0,none⟩=some (.bool ba)/\w'.cell? ⟨w.heap.size,1,none⟩=some (.slice A n c)/\w'.cell? ⟨w.heap.size,2,none⟩=some (.int .i64 x.exp)/\w'.cell? ⟨w.heap.size+1,0,none⟩=some (.bool bb)/\w'.cell? ⟨w.heap.size+1,1,none⟩=some (.slice A' n' c')/\w'.cell? ⟨w.heap.size+1,2,none⟩=some (.int .i64 y.exp)) (go_keep)
      (first
      |(go_at_call 78
        with_reducible refine(HTA.out _ (by assumption)).mono ?_
        rintro e w5⟨rfl,hb⟩;have c0:=cbl c0 hb;have c1:=cbl c1 hb;have c2:=cbl c2 hb;have d0:=cbl d0 hb;have d1:=cbl d1 hb;have d2:=cbl d2 hb;have HBW:=aA HBW hb)
      |(go_at_call 78
        with_reducible refine(HTB.out _ (by assumption)).mono ?_
        rintro e w6⟨rfl,hb⟩;have c0:=cbl c0 hb;have c1:=cbl c1 hb;have c2:=cbl c2 hb;have d0:=cbl d0 hb;have d1:=cbl d1 hb;have d2:=cbl d2 hb;have HBW:=aA HBW hb))
     have HB6:=hdd (HB.out.trans (HBW.mono HB.out.size));replace D1:=hdd (D1.out.below HBW);replace D2:=hdd (D2.out.below HBW);clear HBW HTA HTB HB3 HW3;generalize topD x=m at*;generalize topD y=n at*;rcases atJ m n with h|h|h
     . have h2:=HTL2.out h
       have hw:IntKind.i64.wrap (-s)=-s:=wrap_i64 (by omega);have hw2:IntKind.i64.wrap (0-s)=-s:=by rw[wrap_i64 (by omega)];omega
       have HF:Hid (RetK w (cmpD x y) (.returned (.int .i64 (-s))) _):=hdd ⟨by rw[h2],HB6.out⟩;clear h2;go_wp2;go_ret;exact HF.out
     . subst h
       clear HTL2 HTG2;go_wp2_with fail
       refine(u6 D1.out D2.out (fun b hb=>by have:=HP.out b hb;have:=HB6.out.size;omega) (fun b hb=>by have:=HQ.out b hb;have:=HB6.out.size;omega) SX.out.1 SY.out.1 SX.out.2 SY.out.2).mono ?_;rintro r w7⟨hb,u1,U1,m1,k1,u2,U2,m2,k2,rfl,hX,hY⟩;have hX':=hX.weak (q:=fun b=>b<w7.heap.size) fun b _ h=>h;have hY':=hY.weak (q:=fun b=>b<w7.heap.size) fun b _ h=>h;replace HB6:=hdd (HB6.out.trans (hb.mono HB6.out.size));obtain⟨w8,hw8,hb8,hs8,q1,q2⟩:=pro2 w7 (.cells #[Value.bool false,Value.slice none 0 0] 75) (.cells #[Value.bool false,Value.slice none 0 0] 75);obtain⟨g0,g1,g2,g3⟩:=aB q1;obtain⟨i0,i1,i2,i3⟩:=aB q2;clear c0 c1 c2 d0 d1 d2 D1 D2;have r1:=set2 q1 (.bool u1) (.slice U1 m1 k1);have q2':((w8.setCell ⟨w7.heap.size,0,none⟩ (.bool u1)).setCell ⟨w7.heap.size,1,none⟩ (.slice U1 m1 k1)).heap[w7.heap.size+1]? =some (.cells #[Value.bool false,Value.slice none 0 0] 75 (0,0)):=by
        rw[atE _ _ _ _ (by simp),atE _ _ _ _ (by simp)];exact q2
       have r2:=set2 q2' (.bool u2) (.slice U2 m2 k2);have r1':((((w8.setCell ⟨w7.heap.size,0,none⟩ (.bool u1)).setCell ⟨w7.heap.size,1,none⟩ (.slice U1 m1 k1)).setCell ⟨w7.heap.size+1,0,none⟩ (.bool u2)).setCell ⟨w7.heap.size+1,1,none⟩ (.slice U2 m2 k2)).heap[w7.heap.size]? =some (.cells #[.bool u1,.slice U1 m1 k1] 75 (0,0)):=by
        rw[atE _ _ _ _ (by simp),atE _ _ _ _ (by simp)];exact r1
       have hbb:Below w7.heap.size w7 ((((w8.setCell ⟨w7.heap.size,0,none⟩ (.bool u1)).setCell ⟨w7.heap.size,1,none⟩ (.slice U1 m1 k1)).setCell ⟨w7.heap.size+1,0,none⟩ (.bool u2)).setCell ⟨w7.heap.size+1,1,none⟩ (.slice U2 m2 k2)):=(((hb8.setCell (by simp) _).setCell (by simp) _).setCell (by simp) _).setCell (by simp) _;obtain⟨j0,j1,-,-⟩:=aB r1';obtain⟨l0,l1,-,-⟩:=aB r2;have HCI:=hdd (aeT (hX'.below hbb) (hY'.below hbb));have HB8:=hdd (HB6.out.trans (hbb.mono HB6.out.size));clear hX hY hX' hY' hb hb8 hs8 q1 q2 q2' r1 r1' r2 hbb;go_wp2_with fail
       refine HCI.out.mono ?_;rintro r w9⟨rfl,hb⟩;have HF:Hid (RetK w (cmpD x y) (.returned (.int .i64 (cmpD x y))) _):=hdd ⟨rfl,HB8.out.trans (hb.mono HB8.out.size)⟩;clear hb;go_wp2;go_ret;exact HF.out
     . have h2:=HTG2.out h
       have h3:¬m<n:=by omega
       have HF:Hid (RetK w (cmpD x y) (.returned (.int .i64 s)) _):=hdd ⟨by rw[h2],HB6.out⟩;clear h2;go_wp2;go_ret;exact HF.out
 . have h2:=HGT.out h
   have HF:Hid (RetK w (cmpD x y) (.returned (.int .i64 1)) _):=hdd ⟨by rw[h2],HB3.out⟩;have h3:¬s<t:=by omega
   clear h2;go_wp2;go_ret;exact HF.out
end
section
open Bool renaming false_eq_true->at0,toNat->auN,and_eq_true->auP,or_eq_true->auR
open Int renaming toNat_natCast->auA,lt_or_le->auE,lt_trichotomy->auM
open Nat renaming two_pow_pos->atV,pow_add->atX,mul_le_mul_left->atY,le_trans->at5,div_lt_iff_lt_mul->auB,mul_assoc->auC,lt_of_lt_of_le->auD,mul_comm->auG,pow_succ->auH,le_div_iff_mul_le->auI,le_of_eq->auJ,eq_zero_or_pos->auL,le_of_lt->auO,div_add_mod->auQ,succ_mul->auS,mul_pos->auU,mod_lt->auV
open Rat renaming natCast_le_natCast->atT,intCast_natCast->atU,natCast_mul->atW,mul_nonneg->atZ,intCast_mul->at1,natCast_add->at6,mul_pos->at7,intCast_neg->auF,intCast_neg_iff->auK,le_refl->auT
variable{P a b e x:Int}{m:Nat}{z:Rat}
def p2(e:Int):Rat:=if 0<=e then((2^e.toNat:Nat):Rat)else 1/((2^(-e).toNat:Nat):Rat)
theorem sO(k:Nat):(0:Rat)<((2^k:Nat):Rat):=Rat.natCast_pos.2 (atV k)
theorem eX(k:Nat):p2 k=((2^k:Nat):Rat):=by unfold p2;rw[if_pos (by omega)];rfl
theorem nY(e:Int)(k:Nat)(h:0<=e+k):p2 e*((2^k:Nat):Rat)=((2^(e+k).toNat:Nat):Rat):=by
 unfold p2
 split
 . rw[<-atW,<-atX];congr 2;omega
 . have e1:k=(-e).toNat+(e+k).toNat:=by omega
   have h2:=sO (-e).toNat
   conv=>lhs;rw[e1]
   rw[atX,atW];generalize ((2^(-e).toNat:Nat):Rat)=a at*;generalize ((2^(e+k).toNat:Nat):Rat)=b at*;grind
theorem bC(e:Int):0<p2 e:=by
 unfold p2;split
 . exact sO _
 . exact dA (by decide) (sO _)
theorem bZ(a b:Int):p2 (a+b)=p2 a*p2 b:=by
 have h1:=nY a a.natAbs (by omega);have h2:=nY b b.natAbs (by omega);have h3:=nY (a+b) (a.natAbs+b.natAbs) (by omega);have e1:(a+b+((a.natAbs+b.natAbs:Nat):Int)).toNat=(a+(a.natAbs:Nat)).toNat+(b+(b.natAbs:Nat)).toNat:=by omega
 rw[e1,atX,atX,atW,atW,<-h1,<-h2]at h3;have k1:=sO a.natAbs;have k2:=sO b.natAbs;generalize ((2^a.natAbs:Nat):Rat)=x at*;generalize ((2^b.natAbs:Nat):Rat)=y at*;have k3:=at7 k1 k2;have h4:(p2 (a+b)-p2 a*p2 b)*(x*y)=0:=by grind
 rcases Rat.mul_eq_zero.1 h4 with h5|h5<;>grind
theorem kK:p2 0=1:=by decide
theorem ajO:p2 1=2:=by decide
theorem fV(e:Int):p2 (e+1)=2*p2 e:=by rw[bZ,ajO];grind
theorem iC(h:a<=b):p2 a<=p2 b:=by
 have e:b=a+((b-a).toNat:Nat):=by omega
 rw[e,bZ,eX];have h1:(1:Rat)<=((2^(b-a).toNat:Nat):Rat):=by
  have:=atT.2 (atV (b-a).toNat);simpa using this
 have:=atZ (a:=p2 a) (b:=((2^(b-a).toNat:Nat):Rat)-1) (by have:=bC a;grind) (by grind);grind
theorem aiY(h:a<b):p2 a<p2 b:=by
 have h1:=iC (show a+1<=b by omega);rw[fV]at h1;have:=bC a;grind
theorem ac5:p2 a<p2 b↔a<b:=by
 constructor
 . intro h
   rcases auE a b with h1|h1
   . exact h1
   . have:=iC h1;grind
 . exact aiY
def rv(d:Dy):Rat:=(d.man:Rat)*p2 d.exp
theorem kL(e:Int):rv ⟨0,e⟩=0:=by unfold rv;simp
theorem jV(x e:Int):rv (mkDy x e)=(x:Rat)*p2 e:=by
 rcases gW x e with ⟨h1,h2⟩|⟨h1,h2,h3,h4⟩
 . rw[h1,h2,kL];simp
 . unfold rv
   generalize mkDy x e=d at*;have e1:d.exp=e+((d.exp-e).toNat:Nat):=by omega
   conv=>rhs;rw[h4]
   conv=>lhs;rw[e1]
   rw[bZ,eX,at1,atU];grind
def Canon(d:Dy):Prop:=mkDy d.man d.exp=d
theorem Canon.mk (x e:Int):Canon (mkDy x e):=lX x e
theorem wP(a b:Dy):rv (addD a b)=rv a+rv b:=by
 unfold addD
 split
 . rename_i h;rw[jV];unfold rv;rw[h];simp[Rat.zero_add]
 . split
   . rename_i h;rw[jV];unfold rv;rw[h];simp[Rat.add_zero]
   . rw[jV,gL,gM,Rat.intCast_add,at1,at1,atU,atU,<-eX,<-eX]
     unfold rv;have e1:p2 a.exp=p2 ((a.exp-min a.exp b.exp).toNat:Nat)*p2 (min a.exp b.exp):=by rw[<-bZ];congr 1;omega
     have e2:p2 b.exp=p2 ((b.exp-min a.exp b.exp).toNat:Nat)*p2 (min a.exp b.exp):=by rw[<-bZ];congr 1;omega
     rw[e1,e2];grind
theorem wQ(a b:Dy):rv (mulD a b)=rv a*rv b:=by
 unfold mulD rv;have:=jV (a.man*b.man) (a.exp+b.exp);unfold rv at this;rw[this,at1,bZ];grind
theorem mF(a:Dy):rv (notD a)=-rv a:=by
 unfold notD;rw[jV];unfold rv;rw[auF];grind
theorem aW(d:Dy):(0<rv d↔0<d.man)/\(rv d<0↔d.man<0)/\(rv d=0↔d.man=0):=by
 have hp:=bC d.exp;unfold rv;rcases auM d.man 0 with h|h|h
 . have h1:(d.man:Rat)<0:=auK.2 h
   have h2:=at7 (a:=-(d.man:Rat)) (b:=p2 d.exp) (by grind) hp;refine⟨⟨fun _=>by grind,fun _=>by omega⟩,⟨fun _=>h,fun _=>by grind⟩,⟨fun _=>by grind,fun _=>by omega⟩⟩
 . rw[h]
   have h0:((0:Int):Rat)=0:=rfl;refine⟨⟨fun _=>by grind,fun _=>by omega⟩,⟨fun _=>by grind,fun _=>by omega⟩,⟨fun _=>rfl,fun _=>by grind⟩⟩
 . have h1:0<(d.man:Rat):=Rat.intCast_pos.2 h
   have h2:=at7 (a:=(d.man:Rat)) (b:=p2 d.exp) h1 hp;refine⟨⟨fun _=>h,fun _=>h2⟩,⟨fun _=>by grind,fun _=>by omega⟩,⟨fun _=>by grind,fun _=>by omega⟩⟩
theorem afQ(a b:Dy):(cmpD a b<0↔rv a<rv b)/\(0<cmpD a b↔rv b<rv a):=by
 have e1:rv a=(dF a b:Rat)*p2 (min a.exp b.exp):=by
  rw[gL,at1,atU,<-eX];have:p2 a.exp=p2 ((a.exp-min a.exp b.exp).toNat:Nat)*p2 (min a.exp b.exp):=by rw[<-bZ];congr 1;omega
  unfold rv;rw[this];grind
 have e2:rv b=(dG a b:Rat)*p2 (min a.exp b.exp):=by
  rw[gM,at1,atU,<-eX];have:p2 b.exp=p2 ((b.exp-min a.exp b.exp).toNat:Nat)*p2 (min a.exp b.exp):=by rw[<-bZ];congr 1;omega
  unfold rv;rw[this];grind
 have hp:=bC (min a.exp b.exp);rw[e1,e2];unfold cmpD cmpI;generalize dF a b=x at*;generalize dG a b=y at*;generalize p2 (min a.exp b.exp)=p at*;have key:∀u v:Int,u<v->(u:Rat)*p<(v:Rat)*p:=fun u v h=>by
  have h1:=Rat.intCast_lt_intCast.2 h;have:=at7 (a:=(v:Rat)-u) (b:=p) (by grind) hp;grind
 rcases auM x y with h|h|h
 . have:=key x y h
   rw[if_pos h];exact⟨⟨fun _=>this,fun _=>by decide⟩,⟨fun h=>absurd h (by decide),fun _=>by grind⟩⟩
 . rw[h,if_neg (by omega),if_neg (by omega)]
   exact⟨⟨fun h=>absurd h (by decide),fun _=>by grind⟩,⟨fun h=>absurd h (by decide),fun _=>by grind⟩⟩
 . have:=key y x h
   rw[if_neg (by omega),if_pos h];exact⟨⟨fun h=>absurd h (by decide),fun _=>by grind⟩,⟨fun _=>this,fun _=>by decide⟩⟩
theorem iD(x:Int):((x.natAbs:Nat):Rat)=x/\0<=x\/((x.natAbs:Nat):Rat)=-x/\x<0:=by
 rcases auE x 0 with h|h
 . right;refine⟨?_,h⟩
   rw[<-atU,<-auF];congr 1;omega
 . left;refine⟨?_,h⟩
   rw[<-atU];congr 1;omega
theorem nZ(h:m≠0):p2 ((bits m:Int)-1)<=(m:Rat)/\(m:Rat)<p2 (bits m):=by
 have h1:=(aF m (bits m)).1 nlr;have h2:¬bits m<=bits m-1:=by
  have:=(not_congr (bK m)).2 h;omega
 rw[aF]at h2;have e:(bits m:Int)-1=((bits m-1:Nat):Int):=by have:=(not_congr (bK m)).2 h;omega
 rw[e,eX,eX];exact⟨atT.2 (by omega),Rat.natCast_lt_natCast.2 h1⟩
theorem afR(d:Dy):-p2 (topD d)<rv d/\rv d<p2 (topD d):=by
 unfold topD
 split
 . rename_i h
   have:rv d=0:=(aW d).2.2.2 h;rw[this,kK];constructor<;>decide
 . rename_i h
   have h1:=(nZ (m:=d.man.natAbs) (by omega)).2;have hp:=bC d.exp;rw[bZ];have h2:=at7 (a:=p2 (bits d.man.natAbs)-(d.man.natAbs:Rat)) (b:=p2 d.exp) (by grind) hp;have h3:=at7 (bC (bits d.man.natAbs)) hp;unfold rv;rcases iD d.man with ⟨h4,h5⟩|⟨h4,h5⟩
   . have h6:=atZ (a:=(d.man:Rat)) (b:=p2 d.exp) (Rat.intCast_nonneg.2 h5) (by grind)
     rw[h4]at h2;constructor<;>grind
   . have h6:=at7 (a:=-(d.man:Rat)) (b:=p2 d.exp) (by have:=auK.2 h5;grind) hp
     rw[h4]at h2;constructor<;>grind
theorem o9(d:Dy)(h:d.man≠0):p2 (topD d-1)<=rv d\/rv d<=-p2 (topD d-1):=by
 unfold topD;rw[if_neg h,show(bits d.man.natAbs:Int)+d.exp-1=((bits d.man.natAbs:Int)-1)+d.exp from by omega,bZ];have h1:=(nZ (m:=d.man.natAbs) (by omega)).1;have hp:=bC d.exp;have h2:=atZ (a:=(d.man.natAbs:Rat)-p2 ((bits d.man.natAbs:Int)-1)) (b:=p2 d.exp) (by grind) (by grind);unfold rv;rcases iD d.man with ⟨h4,h5⟩|⟨h4,h5⟩<;>rw[h4]at h2
 . left;grind
 . right;grind
def outw(neg:Bool)(dir:Int):Bool:=if 0<=dir then !neg else neg
def aM(a:Dy)(P dir:Int):Dy:=
 if (bits (mkDy a.man a.exp).man.natAbs:Int)<=P then mkDy a.man a.exp else
  mkDy (sg (decide ((mkDy a.man a.exp).man<0)) ((mkDy a.man a.exp).man.natAbs/2^((bits (mkDy a.man a.exp).man.natAbs:Int)-P).toNat+(outw (decide ((mkDy a.man a.exp).man<0)) dir).toNat))
   ((mkDy a.man a.exp).exp+((bits (mkDy a.man a.exp).man.natAbs:Int)-P))
def aP(neg:Bool)(m:Nat)(exp:Int)(more:Bool)(P dir:Int):Dy:=
 aM (mkDy (sg neg (if more then 2*m+1 else m)) (if more then exp-1 else exp)) P dir
def sgq(neg:Bool)(z:Rat):Rat:=if neg then-z else z
theorem wR(neg:Bool)(n:Nat):((sg neg n:Int):Rat)=sgq neg n:=by
 unfold sg sgq;cases neg
 . simp only[at0,if_false];exact atU n
 . simp only[if_true];rw[auF,atU]
theorem abU{q:Nat}{p:Rat}(hp:0<p)(h1:(q:Rat)*p<=z)(h2:z<=((q:Rat)+1)*p)(neg:Bool)(dir:Int):
 (dir<0->sgq neg (q+(outw neg dir).toNat:Nat)*p<=sgq neg z)/\(0<=dir->sgq neg z<=sgq neg (q+(outw neg dir).toNat:Nat)*p)/\
 sgq neg (q+(outw neg dir).toNat:Nat)*p-sgq neg z<=p/\sgq neg z-sgq neg (q+(outw neg dir).toNat:Nat)*p<=p:=by
 have e1:((q+1:Nat):Rat)=(q:Rat)+1:=by rw[at6];rfl
 have e2:((q+0:Nat):Rat)=(q:Rat):=rfl;rcases auE dir 0 with h|h
 . cases neg
   . have ho:outw false dir=false:=by unfold outw;rw[if_neg (by omega)]
     rw[ho];unfold sgq;simp only[auN,cond_false,e2,at0,if_false];refine⟨fun _=>h1,fun h'=>by omega,?_,?_⟩<;>grind
   . have ho:outw true dir=true:=by unfold outw;rw[if_neg (by omega)]
     rw[ho];unfold sgq;simp only[auN,cond_true,e1,if_true];refine⟨fun _=> ?_,fun h'=>by omega,?_,?_⟩<;>grind
 . cases neg
   . have ho:outw false dir=true:=by unfold outw;rw[if_pos h];rfl
     rw[ho];unfold sgq;simp only[auN,cond_true,e1,at0,if_false];refine⟨fun h'=>by omega,fun _=>h2,?_,?_⟩<;>grind
   . have ho:outw true dir=false:=by unfold outw;rw[if_pos h];rfl
     rw[ho];unfold sgq;simp only[auN,cond_false,e2,if_true];refine⟨fun h'=>by omega,fun _=> ?_,?_,?_⟩<;>grind
theorem wS(hx:x≠0)(e:Int):topD (mkDy x e)=bits x.natAbs+e:=by
 rcases gW x e with ⟨h1,h2⟩|⟨h1,h2,h3,h4⟩
 . exact absurd h2 hx
 . unfold topD
   rw[if_neg h2];generalize mkDy x e=d at*;have:x.natAbs=d.man.natAbs*2^(d.exp-e).toNat:=by
    conv=>lhs;rw[h4]
    rw[Int.natAbs_mul,Int.natAbs_natCast]
   rw[this,jF (by omega)];omega
theorem yM{P:Nat}(e:Int)(hP:1<=P)(hx:x.natAbs<=2^P):bits (mkDy x e).man.natAbs<=P:=by
 rcases Nat.lt_or_eq_of_le hx with h|h
 . exact at5 (nO x e) ((aF _ _).2 h)
 . unfold mkDy
   have h0:x≠0:=by have:=atV P;omega
   rw[if_neg h0,h];have:ctz (2^P)=P:=by have:=vT P 0;simpa using this
   rw[this,Nat.div_self (atV P),bG];have:bits 1<=P:=(aF 1 P).2 (auD (by decide) (Nat.pow_le_pow_right (n:=2) (by omega) hP));exact this
theorem mX(m n:Nat):(m/2^n)*2^n<=m/\m<(m/2^n+1)*2^n:=by
 have h1:=auQ m (2^n);have h2:=auV m (atV n);rw[auG]at h1;rw[auS];omega
theorem afS{n P:Nat}(h:bits m=n+P):m/2^n<2^P:=by
 rw[auB (atV n),<-atX];refine(aF m _).1 (by omega)
theorem sP{a:Dy}(dir:Int)(hP:1<=P):Canon (aM a P dir)/\(bits (aM a P dir).man.natAbs:Int)<=P/\
 ((aM a P dir).man≠0->(mkDy a.man a.exp).exp<=(aM a P dir).exp/\topD (aM a P dir)<=topD (mkDy a.man a.exp)+1):=by
 unfold aM
 split
 . rename_i h
   exact⟨Canon.mk _ _,h,fun _=>⟨Int.le_refl _,by omega⟩⟩
 . rename_i h
   generalize hd:mkDy a.man a.exp=d at*;have hm0:d.man≠0:=by
    intro h0;rw[h0]at h;apply h;show((bits 0:Nat):Int)<=P;have:bits 0=0:=rfl;omega
   obtain⟨n,hn⟩:∃n:Nat,(bits d.man.natAbs:Int)-P=n:=⟨((bits d.man.natAbs:Int)-P).toNat,by omega⟩;obtain⟨Q,hQ⟩:∃Q:Nat,P=Q:=⟨P.toNat,by omega⟩;subst hQ;rw[hn,auA];have hb:bits d.man.natAbs=n+Q:=by omega
   have hq:=afS hb;generalize hx:sg (decide (d.man<0)) (d.man.natAbs/2^n+(outw (decide (d.man<0)) dir).toNat)=x;have hxn:x.natAbs<=2^Q:=by
    rw[<-hx,bG];have:=Bool.toNat_le (outw (decide (d.man<0)) dir);omega
   refine⟨Canon.mk _ _,by have:=yM (e:=d.exp+(n:Int)) (by omega) hxn;omega,fun hne=> ?_⟩;rcases gW x (d.exp+n)with ⟨h1,h2⟩|⟨h1,h2,h3,h4⟩
   . rw[h1]at hne;exact absurd rfl hne
   . refine⟨by omega,?_⟩
     rw[wS h1];have h5:topD d=bits d.man.natAbs+d.exp:=by unfold topD;rw[if_neg hm0]
     rw[h5,hb];have:bits x.natAbs<=Q+1:=(aF _ _).2 (by rw[auH];have:=atV Q;omega);omega
theorem iQ(a:Dy)(dir:Int)(hP:1<=P):(dir<0->rv (aM a P dir)<=rv a)/\(0<=dir->rv a<=rv (aM a P dir))/\
 rv (aM a P dir)-rv a<=p2 (topD (mkDy a.man a.exp)-P)/\rv a-rv (aM a P dir)<=p2 (topD (mkDy a.man a.exp)-P):=by
 have hv:rv (mkDy a.man a.exp)=rv a:=jV _ _;rw[<-hv];unfold aM
 split
 . have:=bC (topD (mkDy a.man a.exp)-P)
   exact⟨fun _=>auT,fun _=>auT,by grind,by grind⟩
 . rename_i h
   generalize mkDy a.man a.exp=d at*;clear hv;have hm0:d.man≠0:=by
    intro h0;rw[h0]at h;apply h;show((bits 0:Nat):Int)<=P;have:bits 0=0:=rfl;omega
   obtain⟨n,hn⟩:∃n:Nat,(bits d.man.natAbs:Int)-P=n:=⟨((bits d.man.natAbs:Int)-P).toNat,by omega⟩;rw[hn,auA,jV,wR];have hb:=mX d.man.natAbs n;have hp:=bC (d.exp+n);have hz:rv d=sgq (decide (d.man<0)) ((d.man.natAbs:Rat)*p2 d.exp):=by
    unfold rv sgq;rcases iD d.man with ⟨h4,h5⟩|⟨h4,h5⟩<;>rw[h4]
    . rw[if_neg (by simp;omega)]
    . rw[if_pos (by simpa using h5)];grind
   have e1:p2 (d.exp+n)=((2^n:Nat):Rat)*p2 d.exp:=by rw[bZ,eX];grind
   have c1:=atT.2 hb.1;have c2:=atT.2 (auO hb.2);rw[atW]at c1 c2;have hpe:=bC d.exp;have k:=abU (q:=d.man.natAbs/2^n) (p:=p2 (d.exp+n)) (z:=(d.man.natAbs:Rat)*p2 d.exp) hp (by
    rw[e1];have:=atZ (a:=(d.man.natAbs:Rat)-((d.man.natAbs/2^n:Nat):Rat)*((2^n:Nat):Rat)) (b:=p2 d.exp) (by grind) (by grind);grind) (by
    rw[e1];rw[at6]at c2;have:=atZ (a:=(((d.man.natAbs/2^n:Nat):Rat)+((1:Nat):Rat))*((2^n:Nat):Rat)-(d.man.natAbs:Rat)) (b:=p2 d.exp) (by grind) (by grind);have e2:((1:Nat):Rat)=1:=rfl;grind) (decide (d.man<0)) dir
   rw[<-hz]at k;have e3:topD d-P=d.exp+n:=by unfold topD;rw[if_neg hm0];omega
   rw[e3];exact k
theorem yN(h:m≠0):bits (2*m+1)=bits m+1:=by
 have h1:=uK (2*m+1) (by omega);rw[h1,show(2*m+1)/2=m from by omega];omega
theorem yO(neg:Bool)(m:Nat)(e:Int):mkDy (sg neg (2*m+1)) e=⟨sg neg (2*m+1),e⟩:=by
 unfold mkDy;have h0:sg neg (2*m+1)≠0:=by cases neg<;>simp[sg]<;>omega
 have hc:ctz (sg neg (2*m+1)).natAbs=0:=by
  rw[bG];have:=vT 0 m;simpa using this
 have hn:decide (sg neg (2*m+1)<0)=neg:=by
  rw[rU];cases neg<;>simp
 rw[if_neg h0,hc,hn,bG];simp
theorem kY{neg:Bool}{more:Bool}(dir:Int)(hP:1<=P)(h1:(m:Rat)*p2 e<=z)(h2:z<=((m:Rat)+1)*p2 e)(h3:more=false->z=(m:Rat)*p2 e)(h4:more=true->P+2<=bits m):
 (dir<0->rv (aP neg m e more P dir)<=sgq neg z)/\(0<=dir->sgq neg z<=rv (aP neg m e more P dir))/\
 rv (aP neg m e more P dir)-sgq neg z<=p2 (bits m+e-P)/\sgq neg z-rv (aP neg m e more P dir)<=p2 (bits m+e-P):=by
 unfold aP
 cases more
 . simp only[at0,if_false]
   have hz:=h3 rfl;have hr:rv (mkDy (sg neg m) e)=sgq neg z:=by rw[jV,wR,hz];unfold sgq;cases neg<;>grind
   have k:=iQ (mkDy (sg neg m) e) (P:=P) dir hP;rw[hr,lX]at k;by_cases hm:m=0
   . subst hm
     have e0:mkDy (sg neg 0) e=⟨0,0⟩:=by cases neg<;>exact aS e
     have e1:aM (mkDy (sg neg 0) e) P dir=⟨0,0⟩:=by
      rw[e0];unfold aM;rw[aS,if_pos (by show((bits 0:Nat):Int)<=P;have:bits 0=0:=rfl;omega)]
     rw[e1,kL]at k|-;have hz0:z=0:=by rw[hz];simp
     have:=bC ((bits 0:Int)+e-P);rw[hz0]at k|-;have:sgq neg 0=0:=by unfold sgq;cases neg<;>simp
     rw[this]at k|-;exact⟨k.1,k.2.1,by grind,by grind⟩
   . have ht:topD (mkDy (sg neg m) e)=bits m+e:=by
      rw[wS (by cases neg<;>simp[sg]<;>omega),bG]
     rw[ht]at k;exact k
 . simp only[if_true]
   have hb:=h4 rfl;have hm:m≠0:=by intro h;rw[h]at hb;have:bits 0=0:=rfl;omega
   unfold aM;rw[yO,yO,bG,yN hm];simp only;obtain⟨n,hn⟩:∃n:Nat,((bits m+1:Nat):Int)-P=n:=⟨(((bits m+1:Nat):Int)-P).toNat,by omega⟩;have hng:decide (sg neg (2*m+1)<0)=neg:=by
    rw[rU];cases neg<;>simp
   rw[if_neg (by omega),hn,auA,hng,jV,wR];obtain⟨j,hj⟩:∃j,n=j+1:=⟨n-1,by omega⟩;have hd:=mX (2*m+1) n;rw[hj,auH]at hd;have hd1:((2*m+1)/(2^j*2))*2^j<=m:=by
    have:=hd.1;rw[<-auC]at this;omega
   have hd2:m+1<=((2*m+1)/(2^j*2)+1)*2^j:=by
    have:=hd.2;rw[<-auC]at this;omega
   rw[hj,auH];have c1:=atT.2 hd1;have c2:=atT.2 hd2;rw[atW]at c1 c2;rw[at6,at6]at c2;have e5:((1:Nat):Rat)=1:=rfl;rw[e5]at c2;have e1:p2 (e-1+((j+1:Nat):Int))=((2^j:Nat):Rat)*p2 e:=by
    rw[show e-1+((j+1:Nat):Int)=(j:Int)+e from by omega,bZ,eX]
   have hpe:=bC e;have k:=abU (q:=(2*m+1)/(2^j*2)) (p:=p2 (e-1+((j+1:Nat):Int))) (z:=z) (bC _) (by
    rw[e1];have:=atZ (a:=(m:Rat)-((((2*m+1)/(2^j*2)):Nat):Rat)*((2^j:Nat):Rat)) (b:=p2 e) (by grind) (by grind);grind) (by
    rw[e1];have:=atZ (a:=(((((2*m+1)/(2^j*2)):Nat):Rat)+1)*((2^j:Nat):Rat)-((m:Rat)+1)) (b:=p2 e) (by grind) (by grind);grind) neg dir
   have e3:(bits m:Int)+e-P=e-1+((j+1:Nat):Int):=by omega
   rw[e3];exact k
theorem oC{neg:Bool}{more:Bool}(dir:Int)(hP:1<=P):Canon (aP neg m e more P dir)/\(bits (aP neg m e more P dir).man.natAbs:Int)<=P/\
 ((aP neg m e more P dir).man≠0->e-1<=(aP neg m e more P dir).exp/\topD (aP neg m e more P dir)<=bits m+e+1):=by
 unfold aP;obtain⟨k1,k2,k3⟩:=sP (a:=mkDy (sg neg (if more then 2*m+1 else m)) (if more then e-1 else e)) (P:=P) dir hP;refine⟨k1,k2,fun h=> ?_⟩;obtain⟨j1,j2⟩:=k3 h;rw[lX]at j1 j2;rcases gW (sg neg (if more then 2*m+1 else m)) (if more then e-1 else e)with ⟨h1,h2⟩|⟨h1,h2,h3,h4⟩
 . exfalso;apply h
   rw[h1];unfold aM;rw[aS,if_pos (by show((bits 0:Nat):Int)<=P;have:bits 0=0:=rfl;omega)]
 . have ht:=wS h1 (if more then e-1 else e)
   rw[ht,bG]at j2
   cases more
   . simp only[at0,if_false]at*
     exact⟨by omega,by omega⟩
   . simp only[if_true]at*
     by_cases hm:m=0
     . subst hm
       have:bits (2*0+1)=1:=by decide
       have:bits 0=0:=rfl;exact⟨by omega,by omega⟩
     . rw[yN hm]at j2
       exact⟨by omega,by omega⟩
def quoA(a b:Nat)(P:Int):Int:=P+2-bits a+bits b
def quoX(a b:Nat)(P:Int):Nat:=if 0<=quoA a b P then a*2^(quoA a b P).toNat else a/2^(-quoA a b P).toNat
def quoM(a b:Nat)(P:Int):Bool:=(decide (quoA a b P<0)&&decide ((ctz a:Int)< -quoA a b P))||decide (0<bits (quoX a b P%b))
def quoD(x y:Dy)(P dir:Int):Dy:=if x.man=0 then⟨0,0⟩else
 aP (decide (x.man<0) != decide (y.man<0)) (quoX x.man.natAbs y.man.natAbs P/y.man.natAbs) (x.exp-y.exp-quoA x.man.natAbs y.man.natAbs P) (quoM x.man.natAbs y.man.natAbs P) P dir
theorem ahW{A B:Nat}(hB:0<B):((A/B:Nat):Rat)*(B:Rat)<=A/\(A:Rat)<=(((A/B:Nat):Rat)+1)*(B:Rat)/\(A%B=0->(A:Rat)=((A/B:Nat):Rat)*(B:Rat)):=by
 have h1:=auQ A B;have h2:=auV A hB;have e5:((1:Nat):Rat)=1:=rfl;refine⟨?_,?_,fun h=> ?_⟩
 . rw[<-atW];exact atT.2 (by rw[auG]at h1;omega)
 . rw[<-e5,<-at6,<-atW];exact atT.2 (by rw[auG]at h1;rw[auS];omega)
 . rw[<-atW];congr 1;rw[auG]at h1;omega
theorem wT{a k:Nat}(h0:a≠0):k<=ctz a↔a%2^k=0:=by
 obtain⟨j,m,e,hj⟩:=oW a h0;rw[hj];constructor
 . intro h
   obtain⟨d,rfl⟩:∃d,j=k+d:=⟨j-k,by omega⟩;rw[e,atX,auC];exact Nat.mul_mod_right _ _
 . intro h
   rcases Nat.lt_or_ge j k with h1|h1
   . exfalso
     obtain⟨d,rfl⟩:∃d,k=j+1+d:=⟨k-j-1,by omega⟩;obtain⟨c,hc⟩:=Nat.dvd_of_mod_eq_zero h;rw[e,atX,auH,auC,auC]at hc;have:=Nat.eq_of_mul_eq_mul_left (atV j) hc;omega
   . exact h1
theorem yP{a b:Nat}(ha:a≠0)(hb:b≠0)(hP:1<=P):∃A B:Nat,0<B/\quoX a b P/b=A/B/\(quoM a b P=true↔A%B≠0)/\(A:Rat)*(b:Rat)=(a:Rat)*(B:Rat)*p2 (quoA a b P)/\P+2<=bits (A/B)/\(bits (A/B):Int)<=P+3:=by
 have hba:=(not_congr (bK a)).2 ha;have hbb:=(not_congr (bK b)).2 hb;have a1:=(aF a (bits a)).1 nlr;have a2:2^(bits a-1)<=a:=by
  have:¬bits a<=bits a-1:=by omega
  rw[aF]at this;omega
 have b1:=(aF b (bits b)).1 nlr;have b2:2^(bits b-1)<=b:=by
  have:¬bits b<=bits b-1:=by omega
  rw[aF]at this;omega
 obtain⟨Q,hQ⟩:∃Q:Nat,P=Q:=⟨P.toNat,by omega⟩;subst hQ;have hn:quoA a b Q=(Q:Int)+2-bits a+bits b:=rfl;unfold quoX quoM;unfold quoX;rcases auE (quoA a b Q) 0 with h|h
 . obtain⟨k,hk⟩:∃k:Nat,quoA a b Q=-(k:Int):=⟨(-quoA a b Q).toNat,by omega⟩
   rw[if_neg (by omega),hk,show(-(-(k:Int))).toNat=k from by omega];have hpb:0<2^k*b:=auU (atV k) (by omega);refine⟨a,2^k*b,hpb,Nat.div_div_eq_div_mul _ _ _,?_,?_,?_,?_⟩
   . have e1:=Nat.mod_mul (x:=a) (a:=2^k) (b:=b)
     have e2:=wT (k:=k) ha;have e3:=bK (a/2^k%b);have hp:=atV k;rw[e1];simp only[auR,auP,decide_eq_true_eq];constructor
     . rintro(⟨g1,g2⟩|g)
       . have:¬k<=ctz a:=by omega
         rw[e2]at this;omega
       . have g3:a/2^k%b≠0:=fun g3=>by have:=e3.2 g3;omega
         have:=auU hp (show 0<a/2^k%b by omega);omega
     . intro g
       by_cases g1:a%2^k=0
       . right
         rcases auL (bits (a/2^k%b))with g2|g2
         . rw[e3.1 g2,g1]at g;simp at g
         . exact g2
       . left
         have:¬k<=ctz a:=by rw[e2];exact g1
         omega
   . have e1:=nY (-(k:Int)) k (by omega)
     rw[show(-(k:Int)+(k:Int)).toNat=0 from by omega]at e1;rw[atW];have e4:((2^0:Nat):Rat)=1:=rfl;rw[e4]at e1;have:(a:Rat)*(((2^k:Nat):Rat)*(b:Rat))*p2 (-(k:Int))=(a:Rat)*(b:Rat)*(p2 (-(k:Int))*((2^k:Nat):Rat)):=by grind
     rw[this,e1];grind
   . have:2^(Q+1)<=a/(2^k*b):=by
      rw[auI hpb];refine at5 (atY _ (atY _ (auO b1))) (at5 (auJ ?_) a2);rw[<-atX,<-atX];congr 1;omega
     have h5:¬bits (a/(2^k*b))<=Q+1:=by rw[aF];omega
     omega
   . have:a/(2^k*b)<2^(Q+3):=by
      rw[auB hpb];refine auD a1 (at5 (auJ ?_) (atY _ (atY _ b2)));rw[<-atX,<-atX];congr 1;omega
     have h5:=(aF _ _).2 this;omega
 . obtain⟨k,hk⟩:∃k:Nat,quoA a b Q=(k:Int):=⟨(quoA a b Q).toNat,by omega⟩
   rw[if_pos h,hk,auA];refine⟨a*2^k,b,by omega,rfl,?_,?_,?_,?_⟩
   . have e3:=bK (a*2^k%b)
     simp only[auR,auP,decide_eq_true_eq];constructor
     . rintro(⟨g1,g2⟩|g)
       . omega
       . intro g3;have:=e3.2 g3;omega
     . intro g;right
       rcases auL (bits (a*2^k%b))with g2|g2
       . exact absurd (e3.1 g2) g
       . exact g2
   . rw[eX,atW];grind
   . have:2^(Q+1)<=a*2^k/b:=by
      rw[auI (by omega)];refine at5 (atY _ (auO b1)) (at5 (auJ ?_) (Nat.mul_le_mul_right _ a2));rw[<-atX,<-atX];congr 1;omega
     have h5:¬bits (a*2^k/b)<=Q+1:=by rw[aF];omega
     omega
   . have:a*2^k/b<2^(Q+3):=by
      rw[auB (by omega)];refine auD ((Nat.mul_lt_mul_right (atV k)).2 a1) (at5 (auJ ?_) (atY _ b2));rw[<-atX,<-atX];congr 1;omega
     have h5:=(aF _ _).2 this;omega
end
end Go.Proofs.YtkadpnljocflaaaGreatDoor
