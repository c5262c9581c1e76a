/- A part of the proof: contracts of functions and plain laws (DyI, DyK, DyL, DyM, BalA, DyR). -/
import Derived.Test.YtjaafolhfihegaaGreatDoorK22
import Derived.Test.YtjaafolhfihegaaGreatDoorK09
set_option linter.unusedVariables false
set_option linter.unusedSimpArgs false
set_option maxHeartbeats 25600000
set_option maxRecDepth 100000
namespace Go.Proofs.YtjaafolhfihegaaGreatDoor
open Go.RowKit
open Go.RowKit.Below renaming heap_setCell->bcS,refl->bdA
open Int renaming natAbs_natCast->bcT,sign_eq_zero_iff_zero->bcU,sign_eq_one_of_pos->bcV,natAbs_mul->bcX,lt_trichotomy->bcY,sign_mul->bc6,mul_one->bc9
open Nat renaming le_trans->bcW,two_pow_pos->bcZ,pow_le_pow_right->bc4,lt_or_ge->bc5,le_of_eq->bc7,pow_add->bc8,mod_lt->bdB
variable{x y:Dy}{B b g i:Nat}{p q:Nat->Prop}{T:TypeId}{a c d e f va vb:Value}{w w0:World}
theorem dW(n k:Nat):bits (n*2^k)<=bits n+k:=by
 rw[aH,bc8];exact Nat.mul_lt_mul_of_pos_right (bV n) (bcZ k)
theorem sW(m n:Nat):bits (m+n)<=bits m+bits n+1:=by
 rw[aH];have h1:=bV m;have h2:=bV n;have h3:2^bits m<=2^(bits m+bits n):=bc4 (by omega) (by omega);have h4:2^bits n<=2^(bits m+bits n):=bc4 (by omega) (by omega);rw[Nat.pow_succ];omega
def SmD(d:Dy):Prop:=bits d.man.natAbs<=134217728/\-67108864<=d.exp/\d.exp<=67108864
theorem abN(hx:SmD x)(hy:SmD y):bits (dQ x y).natAbs<=268435456:=by
 obtain⟨h1,h2,h3⟩:=hx;obtain⟨k1,k2,k3⟩:=hy;rw[iT,bcX,bcT];have:=dW x.man.natAbs (x.exp-min x.exp y.exp).toNat;omega
theorem abO(hx:SmD x)(hy:SmD y):bits (dR x y).natAbs<=268435456:=by
 obtain⟨h1,h2,h3⟩:=hx;obtain⟨k1,k2,k3⟩:=hy;rw[iU,bcX,bcT];have:=dW y.man.natAbs (y.exp-min x.exp y.exp).toNat;omega
theorem ajY{x y:Int}(hx:bits x.natAbs<=268435456)(hy:bits y.natAbs<=268435456):bits (x+y).natAbs<=1073741824:=by
 have h1:bits (x+y).natAbs<=bits (x.natAbs+y.natAbs):=dD (by omega);have:=sW x.natAbs y.natAbs;omega
theorem abP(hx:DyP p w va x)(hy:DyP q w vb y)(hT:Tab w)(hp:∀b,p b->b<w.heap.size)(hq:∀b,q b->b<w.heap.size)(sx:SmD x)(sy:SmD y):
 Calls Tryz.prog 208 #[va,vb] w (RetD w.heap.size w (addD x y)):=by
 obtain⟨ba,A,n,c,rfl,h⟩:=hx;obtain⟨bb,A',n',c',rfl,h'⟩:=hy;obtain⟨w3,hw3,hb3,hs3,b1,b2,b3⟩:=pro3 w (.cells #[Value.bool ba,.slice A n c,.int .i64 x.exp] 225) (.cells #[Value.bool bb,.slice A' n' c',.int .i64 y.exp] 225) (.cells #[Value.bool false,Value.slice none 0 0,.int .i64 0] 225);have HB:=hdd hb3;have H1:=hdd (h.below hb3);have H2:=hdd (h'.below hb3);have HT:=hdd (hT.below hb3);have HS:=hdd hs3;have B3:=hdd b3;have HP:=hdd hp;have HQ:=hdd hq;have SX:=hdd sx;have SY:=hdd sy;obtain⟨c0,c1,c2,-,-,-⟩:=cells3 b1;obtain⟨d0,d1,d2,-,-,-⟩:=cells3 b2;have D1:Hid (DyP p w3 (.agg #[.bool ba,.slice A n c,.int .i64 x.exp]) x):=hdd ⟨_,_,_,_,rfl,H1.out⟩;have D2:Hid (DyP q w3 (.agg #[.bool bb,.slice A' n' c',.int .i64 y.exp]) y):=hdd ⟨_,_,_,_,rfl,H2.out⟩;have HSZ3:Hid (w3.heap.size<=w3.heap.size):=hdd nlr;clear h h' hb3 b1 b2 b3 hs3 hT hp hq sx sy;go_enter Tryz.func208,Tryz.ntmps208
 go_wp2_with fail
 refine(dH D1.out).mono ?_;rintro r w4⟨rfl,hb⟩;replace c0:=cbl c0 hb;replace c1:=cbl c1 hb;replace c2:=cbl c2 hb;replace d0:=cbl d0 hb;replace d1:=cbl d1 hb;replace d2:=cbl d2 hb;replace HB:=hdd (HB.out.trans (hb.mono HB.out.size));replace D1:=hdd (D1.out.below hb);replace D2:=hdd (D2.out.below hb);replace HT:=hdd (HT.out.below hb);replace H1:=hdd (H1.out.below hb);replace H2:=hdd (H2.out.below hb);replace B3:=hdd (hbl B3.out hb);have HS4:=hdd hb.size;clear hb hw3;by_cases hz:x.man=0
 . have hs:(x.man.sign==0)=true:=by rw[hz];rfl
   have HADD:Hid (addD x y=mkDy y.man y.exp):=hdd (by unfold addD;rw[if_pos hz]);clear hz;have HMK:=hdd (dM (e:=y.exp) H2.out HT.out (by have:=SY.out.1;omega) (by have:=SY.out.2;omega));go_wp2_with fail
   refine HMK.out.mono ?_;rintro r w5⟨hb,v5,rfl,hz⟩;obtain⟨b6,A6,n6,c6,rfl,-⟩:=id hz;have B35:=hbl B3.out hb;obtain⟨e0,e1,e2,e3,e4,e5⟩:=cells3 B35;obtain⟨HFF,hFF⟩:=aS (HB.out.trans (hb.mono HB.out.size)) (g:=w.heap.size+2) (by omega) B35 hz (fun b hb=>by have:=HS.out;have:=HS4.out;omega);replace hFF:=hdd hFF;clear hz hb B35 c0 c1 c2 d0 d1 d2;go_wp2;obtain⟨f0,f1,f2,-,-,-⟩:=cells3 hFF.out;refine bodyPost_ret (v:=.agg #[_,_,_]) (by simp[results,Tryz.results208,go_sem,f0,f1,f2];first|exact⟨rfl,rfl,rfl⟩|rfl) rfl ?_;rw[HADD.out];exact HFF.out
 . have hs:(x.man.sign==0)=false:=beq_eq_false_iff_ne.2 (fun h=>hz (bcU.1 h))
   have HZ:=hdd hz;clear hz;go_wp2_with fail
   refine(dH D2.out).mono ?_;rintro r w5⟨rfl,hb⟩;replace c0:=cbl c0 hb;replace c1:=cbl c1 hb;replace c2:=cbl c2 hb;replace d0:=cbl d0 hb;replace d1:=cbl d1 hb;replace d2:=cbl d2 hb;replace HB:=hdd (HB.out.trans (hb.mono HB.out.size));replace D1:=hdd (D1.out.below hb);replace D2:=hdd (D2.out.below hb);replace HT:=hdd (HT.out.below hb);replace H1:=hdd (H1.out.below hb);replace H2:=hdd (H2.out.below hb);replace B3:=hdd (hbl B3.out hb);replace HS4:=hdd (bcW HS4.out hb.size);clear hb;by_cases hz:y.man=0
   . have hs2:(y.man.sign==0)=true:=by rw[hz];rfl
     have HADD:Hid (addD x y=mkDy x.man x.exp):=hdd (by unfold addD;rw[if_neg HZ.out,if_pos hz]);clear hz;have HMK:=hdd (dM (e:=x.exp) H1.out HT.out (by have:=SX.out.1;omega) (by have:=SX.out.2;omega));go_wp2_with fail
     refine HMK.out.mono ?_;rintro r w6⟨hb,v5,rfl,hz⟩;obtain⟨b6,A6,n6,c6,rfl,-⟩:=id hz;have B35:=hbl B3.out hb;obtain⟨e0,e1,e2,e3,e4,e5⟩:=cells3 B35;obtain⟨HFF,hFF⟩:=aS (HB.out.trans (hb.mono HB.out.size)) (g:=w.heap.size+2) (by omega) B35 hz (fun b hb=>by have:=HS.out;have:=HS4.out;omega);replace hFF:=hdd hFF;clear hz hb B35 c0 c1 c2 d0 d1 d2;go_wp2;obtain⟨f0,f1,f2,-,-,-⟩:=cells3 hFF.out;refine bodyPost_ret (v:=.agg #[_,_,_]) (by simp[results,Tryz.results208,go_sem,f0,f1,f2];first|exact⟨rfl,rfl,rfl⟩|rfl) rfl ?_;rw[HADD.out];exact HFF.out
   . have hs2:(y.man.sign==0)=false:=beq_eq_false_iff_ne.2 (fun h=>hz (bcU.1 h))
     have HADD:Hid (addD x y=mkDy (dQ x y+dR x y) (min x.exp y.exp)):=hdd (by unfold addD;rw[if_neg HZ.out,if_neg hz]);clear hz;have HAL:=hdd (yG D1.out D2.out (fun b hb=>by have:=HP.out b hb;have:=HB.out.size;omega) (fun b hb=>by have:=HQ.out b hb;have:=HB.out.size;omega) SX.out.1 SY.out.1 SX.out.2 SY.out.2);have BA:=hdd (abN SX.out SY.out);have BB:=hdd (abO SX.out SY.out);have HE:Hid (-1000000000000<=min x.exp y.exp/\min x.exp y.exp<=1000000000000):=hdd (by have:=SX.out.2;have:=SY.out.2;omega);generalize dQ x y=X at*;generalize dR x y=Y at*;generalize min x.exp y.exp=E at*;go_wp2_with fail
     refine HAL.out.mono ?_;rintro r w6⟨hb,u1,U1,m1,k1,u2,U2,m2,k2,rfl,hX,hY⟩;have hX':=hX.weak (q:=fun b=>b<w6.heap.size) fun b _ h=>h;have hY':=hY.weak (q:=fun b=>b<w6.heap.size) fun b _ h=>h;replace HB:=hdd (HB.out.trans (hb.mono HB.out.size));replace HT:=hdd (HT.out.below hb);replace B3:=hdd (hbl B3.out hb);replace HS4:=hdd (bcW HS4.out hb.size);obtain⟨w8,hw8,hb8,hs8,q1,q2⟩:=pro2 w6 (.cells #[Value.bool false,Value.slice none 0 0] 223) (.cells #[Value.bool false,Value.slice none 0 0] 223);obtain⟨g0,g1,g2,g3⟩:=aD q1;obtain⟨i0,i1,i2,i3⟩:=aD q2;clear c0 c1 c2 d0 d1 d2 D1 D2 H1 H2;have r1:=set2 q1 (.bool u1) (.slice U1 m1 k1);have q2':((w8.setCell ⟨w6.heap.size,0,none⟩ (.bool u1)).setCell ⟨w6.heap.size,1,none⟩ (.slice U1 m1 k1)).heap[w6.heap.size+1]? =some (.cells #[Value.bool false,Value.slice none 0 0] 223 (0,0)):=by
      rw[bcS _ _ _ _ (by simp),bcS _ _ _ _ (by simp)];exact q2
     have r2:=set2 q2' (.bool u2) (.slice U2 m2 k2);have r1':((((w8.setCell ⟨w6.heap.size,0,none⟩ (.bool u1)).setCell ⟨w6.heap.size,1,none⟩ (.slice U1 m1 k1)).setCell ⟨w6.heap.size+1,0,none⟩ (.bool u2)).setCell ⟨w6.heap.size+1,1,none⟩ (.slice U2 m2 k2)).heap[w6.heap.size]? =some (.cells #[.bool u1,.slice U1 m1 k1] 223 (0,0)):=by
      rw[bcS _ _ _ _ (by simp),bcS _ _ _ _ (by simp)];exact r1
     have hbb:Below w6.heap.size w6 ((((w8.setCell ⟨w6.heap.size,0,none⟩ (.bool u1)).setCell ⟨w6.heap.size,1,none⟩ (.slice U1 m1 k1)).setCell ⟨w6.heap.size+1,0,none⟩ (.bool u2)).setCell ⟨w6.heap.size+1,1,none⟩ (.slice U2 m2 k2)):=(((hb8.setCell (by simp) _).setCell (by simp) _).setCell (by simp) _).setCell (by simp) _;have HXX:=hdd (hX'.below hbb);have HYY:=hdd (hY'.below hbb);have HBB:=hdd hbb;have HR1:=hdd r1';have HR2:=hdd r2;clear hX hY hX' hY' hb hb8 hs8 q1 q2 q2' r1 r1' r2 hbb;obtain⟨w9,hw9,hb9,hs9,q9⟩:=pro1 ((((w8.setCell ⟨w6.heap.size,0,none⟩ (.bool u1)).setCell ⟨w6.heap.size,1,none⟩ (.slice U1 m1 k1)).setCell ⟨w6.heap.size+1,0,none⟩ (.bool u2)).setCell ⟨w6.heap.size+1,1,none⟩ (.slice U2 m2 k2)) (.cells #[.bool u2,.slice U2 m2 k2] 223);have hsz8:((((w8.setCell ⟨w6.heap.size,0,none⟩ (.bool u1)).setCell ⟨w6.heap.size,1,none⟩ (.slice U1 m1 k1)).setCell ⟨w6.heap.size+1,0,none⟩ (.bool u2)).setCell ⟨w6.heap.size+1,1,none⟩ (.slice U2 m2 k2)).heap.size=w8.heap.size:=by simp[World.setCell]
     rw[hsz8]at hb9 hs9 q9;obtain⟨j0,j1,-,-⟩:=aD HR1.out;obtain⟨l0,l1,-,-⟩:=aD HR2.out;have hb69:=HBB.out.trans (hb9.mono (by have:=HBB.out.size;omega));have HADDI:=hdd (ahT (HXX.out.below (by rw[hsz8];exact hb9)) q9 (HYY.out.below (by rw[hsz8];exact hb9)) (by have:=BA.out;have:=BB.out;omega));have HB9:=hdd hb69;clear hb9 hs9 q9 hb69 HXX HYY HBB HR1 HR2;go_wp2_with fail
     refine HADDI.out.mono ?_;rintro r w10⟨hb,v10,rfl,hz⟩;replace HB9:=hdd (HB9.out.trans (hb.mono HB9.out.size));have HSZ:=hdd hb.size;have HMK:=hdd (dM (e:=E) hz (HT.out.below HB9.out) (ajY BA.out BB.out) HE.out);clear hb hz g0 g1 g2 g3 i0 i1 i2 i3 j0 j1 l0 l1 hw8 hw9 hsz8;go_wp2_with fail
     refine HMK.out.mono ?_;rintro r w11⟨hb,v5,rfl,hz⟩;obtain⟨b6,A6,n6,c6,rfl,-⟩:=id hz;have hb9:=HB9.out.trans (hb.mono HB9.out.size);have B35:=hbl B3.out hb9;obtain⟨e0,e1,e2,e3,e4,e5⟩:=cells3 B35;obtain⟨HFF,hFF⟩:=aS (HB.out.trans (hb9.mono HB.out.size)) (g:=w.heap.size+2) (by omega) B35 hz (fun b hb=>by have:=HS.out;have:=HS4.out;have:=HB9.out.size;omega);replace hFF:=hdd hFF;clear hz hb B35 hb9;go_wp2;obtain⟨f0,f1,f2,-,-,-⟩:=cells3 hFF.out;refine bodyPost_ret (v:=.agg #[_,_,_]) (by simp[results,Tryz.results208,go_sem,f0,f1,f2];first|exact⟨rfl,rfl,rfl⟩|rfl) rfl ?_;rw[HADD.out];exact HFF.out
theorem kR{n:Nat}(hn:n≠0)(k:Nat):bits (n*2^k)=bits n+k:=by
 refine Nat.le_antisymm (dW n k) ?_;rcases bc5 (bits (n*2^k)) (bits n+k)with h|h
 . exfalso
   have hb:bits n≠0:=fun h'=>hn ((bX _).1 h');have h1:=(aH (n*2^k) (bits n-1+k)).1 (by omega);rw[bc8]at h1;have h2:=eQ n hn;have:=Nat.mul_le_mul_right (2^k) h2;omega
 . exact h
theorem fG(x y:Dy):(dQ x y).sign=x.man.sign:=by
 have:=bcZ (x.exp-min x.exp y.exp).toNat;rw[iT,bc6,bcV (a:=((2^(x.exp-min x.exp y.exp).toNat:Nat):Int)) (by omega),bc9]
theorem jD(x y:Dy):(dR x y).sign=y.man.sign:=by
 have:=bcZ (y.exp-min x.exp y.exp).toNat;rw[iU,bc6,bcV (a:=((2^(y.exp-min x.exp y.exp).toNat:Nat):Int)) (by omega),bc9]
theorem yH(hx:x.man≠0):topD x-min x.exp y.exp=bits (dQ x y).natAbs:=by
 rw[iT,bcX,bcT,kR (by omega)];unfold topD;rw[if_neg hx];omega
theorem yI(hy:y.man≠0):topD y-min x.exp y.exp=bits (dR x y).natAbs:=by
 rw[iU,bcX,bcT,kR (by omega)];unfold topD;rw[if_neg hy];omega
theorem amB{x y:Dy}(h:x.man.sign<y.man.sign):cmpD x y=-1:=sM (by rw[fG,jD];exact h)
theorem amC{x y:Dy}(h:y.man.sign<x.man.sign):cmpD x y=1:=sN (by rw[fG,jD];exact h)
theorem af8{x y:Dy}(h:x.man.sign=y.man.sign)(h0:x.man.sign=0):cmpD x y=0:=by
 have h1:dQ x y=0:=bcU.1 (by rw[fG];exact h0);have h2:dR x y=0:=bcU.1 (by rw[jD,<-h];exact h0);unfold cmpD;rw[h1,h2];rfl
theorem ajZ{x y:Dy}(h:x.man.sign=y.man.sign)(h0:x.man.sign≠0)(ht:topD x<topD y):cmpD x y=-x.man.sign:=by
 have hx:x.man≠0:=fun e=>h0 (by rw[e];rfl);have hy:y.man≠0:=fun e=>h0 (by rw[h,e];rfl);have h1:=yH (y:=y) hx;have h2:=yI (x:=x) hy;have hlt:(dQ x y).natAbs<(dR x y).natAbs:=by
  rcases bc5 (dQ x y).natAbs (dR x y).natAbs with h|h
  . exact h
  . have:=dD h;omega
 unfold cmpD;rw[mQ (by rw[fG,jD];exact h),fG];unfold cmpN;rw[if_pos hlt];omega
theorem af9{x y:Dy}(h:x.man.sign=y.man.sign)(h0:x.man.sign≠0)(ht:topD y<topD x):cmpD x y=x.man.sign:=by
 have hx:x.man≠0:=fun e=>h0 (by rw[e];rfl);have hy:y.man≠0:=fun e=>h0 (by rw[h,e];rfl);have h1:=yH (y:=y) hx;have h2:=yI (x:=x) hy;have hlt:(dR x y).natAbs<(dQ x y).natAbs:=by
  rcases bc5 (dR x y).natAbs (dQ x y).natAbs with h|h
  . exact h
  . have:=dD h;omega
 unfold cmpD;rw[mQ (by rw[fG,jD];exact h),fG];unfold cmpN;rw[if_neg (by omega),if_pos hlt];omega
theorem aj0(hx:DyP p w va x)(hy:DyP q w vb y)(hp:∀b,p b->b<w.heap.size)(hq:∀b,q b->b<w.heap.size)(sx:SmD x)(sy:SmD y):
 Calls Tryz.prog 211 #[va,vb] w (RetK w (cmpD x y)):=by
 obtain⟨ba,A,n,c,rfl,h⟩:=hx;obtain⟨bb,A',n',c',rfl,h'⟩:=hy;obtain⟨w2,hw2,hb2,hs2,b1,b2⟩:=pro2 w (.cells #[Value.bool ba,.slice A n c,.int .i64 x.exp] 225) (.cells #[Value.bool bb,.slice A' n' c',.int .i64 y.exp] 225);have HB:=hdd hb2;have HS:=hdd hs2;have HP:=hdd hp;have HQ:=hdd hq;have SX:=hdd sx;have SY:=hdd sy;obtain⟨c0,c1,c2,-,-,-⟩:=cells3 b1;obtain⟨d0,d1,d2,-,-,-⟩:=cells3 b2;have D1:Hid (DyP p w2 (.agg #[.bool ba,.slice A n c,.int .i64 x.exp]) x):=hdd ⟨_,_,_,_,rfl,h.below hb2⟩;have D2:Hid (DyP q w2 (.agg #[.bool bb,.slice A' n' c',.int .i64 y.exp]) y):=hdd ⟨_,_,_,_,rfl,h'.below hb2⟩;clear h h' hb2 b1 b2 hs2 hp hq sx sy;go_enter Tryz.func211,Tryz.ntmps211
 go_wp2_with fail
 have HSA:Hid (∀w',Below w2.heap.size w2 w'->Calls Tryz.prog 149 #[.agg #[.bool ba,.slice A n c,.int .i64 x.exp]] w' (RetK w' x.man.sign)):=hdd fun w' h=>dH (D1.out.below h);have HSB:Hid (∀w',Below w2.heap.size w2 w'->Calls Tryz.prog 149 #[.agg #[.bool bb,.slice A' n' c',.int .i64 y.exp]] w' (RetK w' y.man.sign)):=hdd fun w' h=>dH (D2.out.below h);have HTA:Hid (∀w',Below w2.heap.size w2 w'->Calls Tryz.prog 151 #[.agg #[.bool ba,.slice A n c,.int .i64 x.exp]] w' (RetK w' (topD x))):=hdd fun w' h=>qU (D1.out.below h) (by have:=SX.out.2;omega);have HTB:Hid (∀w',Below w2.heap.size w2 w'->Calls Tryz.prog 151 #[.agg #[.bool bb,.slice A' n' c',.int .i64 y.exp]] w' (RetK w' (topD y))):=hdd fun w' h=>qU (D2.out.below h) (by have:=SY.out.2;omega);have HBW:Below w2.heap.size w2 w2.drew:=(bdA _ _).drew;replace c0:=cbl c0 HBW;replace c1:=cbl c1 HBW;replace c2:=cbl c2 HBW;replace d0:=cbl d0 HBW;replace d1:=cbl d1 HBW;replace d2:=cbl d2 HBW
 go_region_held3 (fun w'=>w'.cell? ⟨w.heap.size,0,none⟩=some (.bool ba)/\w'.cell? ⟨w.heap.size,1,none⟩=some (.slice A n c)/\w'.cell? ⟨w.heap.size,2,none⟩=some (.int .i64 x.exp)/\w'.cell? ⟨w.heap.size+1,0,none⟩=some (.bool bb)/\w'.cell? ⟨w.heap.size+1,1,none⟩=some (.slice A' n' c')/\w'.cell? ⟨w.heap.size+1,2,none⟩=some (.int .i64 y.exp)) (go_keep)
  (first
  |(go_at_call 149
    with_reducible refine(HSA.out _ (by assumption)).mono ?_
    rintro e w3⟨rfl,hb⟩;have c0:=cbl c0 hb;have c1:=cbl c1 hb;have c2:=cbl c2 hb;have d0:=cbl d0 hb;have d1:=cbl d1 hb;have d2:=cbl d2 hb;have HBW:=aC HBW hb)
  |(go_at_call 149
    with_reducible refine(HSB.out _ (by assumption)).mono ?_
    rintro e w4⟨rfl,hb⟩;have c0:=cbl c0 hb;have c1:=cbl c1 hb;have c2:=cbl c2 hb;have d0:=cbl d0 hb;have d1:=cbl d1 hb;have d2:=cbl d2 hb;have HBW:=aC HBW hb))
 have HB3:=hdd (HB.out.trans (HBW.mono HB.out.size));have HW3:=hdd HBW;have HLT:=hdd (@amB x y);have HGT:=hdd (@amC x y);have HEQ:=hdd (@af8 x y);have HTL:=hdd (@ajZ x y);have HTG:=hdd (@af9 x y);clear HBW HSA HSB hw2;have hsb:-1<=x.man.sign/\x.man.sign<=1:=by
  rcases bcY x.man 0 with h|h|h
  . rw[Int.sign_eq_neg_one_of_neg h];omega
  . rw[h];decide
  . rw[bcV h];omega
 generalize x.man.sign=s at*;generalize y.man.sign=t at*;rcases bcY s t with h|h|h
 . have h2:=HLT.out h
   have HF:Hid (RetK w (cmpD x y) (.returned (.int .i64 (-1))) _):=hdd ⟨by rw[h2],HB3.out⟩;clear h2;go_wp2;go_ret;exact HF.out
 . subst h
   by_cases hz:s=0
   . have h2:=HEQ.out rfl hz
     have hz2:(s==0)=true:=by rw[hz];rfl
     have HF:Hid (RetK w (cmpD x y) (.returned (.int .i64 0)) _):=hdd ⟨by rw[h2],HB3.out⟩;clear h2 hz;go_wp2;go_ret;exact HF.out
   . have hz2:(s==0)=false:=beq_eq_false_iff_ne.2 hz
     have HTL2:=hdd (HTL.out rfl hz);have HTG2:=hdd (HTG.out rfl hz);clear HLT HGT HEQ HTL HTG;go_wp2_with fail
     have HBW:Below w2.heap.size w2 w4.drew:=HW3.out.drew;have hdr:Below w4.heap.size w4 w4.drew:=(bdA _ _).drew;replace c0:=cbl c0 hdr;replace c1:=cbl c1 hdr;replace c2:=cbl c2 hdr;replace d0:=cbl d0 hdr;replace d1:=cbl d1 hdr;replace d2:=cbl d2 hdr;clear hdr
     go_region_held3 (fun w'=>w'.cell? ⟨w.heap.size,0,none⟩=some (.bool ba)/\w'.cell? ⟨w.heap.size,1,none⟩=some (.slice A n c)/\w'.cell? ⟨w.heap.size,2,none⟩=some (.int .i64 x.exp)/\w'.cell? ⟨w.heap.size+1,0,none⟩=some (.bool bb)/\w'.cell? ⟨w.heap.size+1,1,none⟩=some (.slice A' n' c')/\w'.cell? ⟨w.heap.size+1,2,none⟩=some (.int .i64 y.exp)) (go_keep)
      (first
      |(go_at_call 151
        with_reducible refine(HTA.out _ (by assumption)).mono ?_
        rintro e w5⟨rfl,hb⟩;have c0:=cbl c0 hb;have c1:=cbl c1 hb;have c2:=cbl c2 hb;have d0:=cbl d0 hb;have d1:=cbl d1 hb;have d2:=cbl d2 hb;have HBW:=aC HBW hb)
      |(go_at_call 151
        with_reducible refine(HTB.out _ (by assumption)).mono ?_
        rintro e w6⟨rfl,hb⟩;have c0:=cbl c0 hb;have c1:=cbl c1 hb;have c2:=cbl c2 hb;have d0:=cbl d0 hb;have d1:=cbl d1 hb;have d2:=cbl d2 hb;have HBW:=aC HBW hb))
     have HB6:=hdd (HB.out.trans (HBW.mono HB.out.size));replace D1:=hdd (D1.out.below HBW);replace D2:=hdd (D2.out.below HBW);clear HBW HTA HTB HB3 HW3;generalize topD x=m at*;generalize topD y=n at*;rcases bcY m n with h|h|h
     . have h2:=HTL2.out h
       have hw:IntKind.i64.wrap (-s)=-s:=wrap_i64 (by omega);have hw2:IntKind.i64.wrap (0-s)=-s:=by rw[wrap_i64 (by omega)];omega
       have HF:Hid (RetK w (cmpD x y) (.returned (.int .i64 (-s))) _):=hdd ⟨by rw[h2],HB6.out⟩;clear h2;go_wp2;go_ret;exact HF.out
     . subst h
       clear HTL2 HTG2;go_wp2_with fail
       refine(yG D1.out D2.out (fun b hb=>by have:=HP.out b hb;have:=HB6.out.size;omega) (fun b hb=>by have:=HQ.out b hb;have:=HB6.out.size;omega) SX.out.1 SY.out.1 SX.out.2 SY.out.2).mono ?_;rintro r w7⟨hb,u1,U1,m1,k1,u2,U2,m2,k2,rfl,hX,hY⟩;have hX':=hX.weak (q:=fun b=>b<w7.heap.size) fun b _ h=>h;have hY':=hY.weak (q:=fun b=>b<w7.heap.size) fun b _ h=>h;replace HB6:=hdd (HB6.out.trans (hb.mono HB6.out.size));obtain⟨w8,hw8,hb8,hs8,q1,q2⟩:=pro2 w7 (.cells #[Value.bool false,Value.slice none 0 0] 223) (.cells #[Value.bool false,Value.slice none 0 0] 223);obtain⟨g0,g1,g2,g3⟩:=aD q1;obtain⟨i0,i1,i2,i3⟩:=aD q2;clear c0 c1 c2 d0 d1 d2 D1 D2;have r1:=set2 q1 (.bool u1) (.slice U1 m1 k1);have q2':((w8.setCell ⟨w7.heap.size,0,none⟩ (.bool u1)).setCell ⟨w7.heap.size,1,none⟩ (.slice U1 m1 k1)).heap[w7.heap.size+1]? =some (.cells #[Value.bool false,Value.slice none 0 0] 223 (0,0)):=by
        rw[bcS _ _ _ _ (by simp),bcS _ _ _ _ (by simp)];exact q2
       have r2:=set2 q2' (.bool u2) (.slice U2 m2 k2);have r1':((((w8.setCell ⟨w7.heap.size,0,none⟩ (.bool u1)).setCell ⟨w7.heap.size,1,none⟩ (.slice U1 m1 k1)).setCell ⟨w7.heap.size+1,0,none⟩ (.bool u2)).setCell ⟨w7.heap.size+1,1,none⟩ (.slice U2 m2 k2)).heap[w7.heap.size]? =some (.cells #[.bool u1,.slice U1 m1 k1] 223 (0,0)):=by
        rw[bcS _ _ _ _ (by simp),bcS _ _ _ _ (by simp)];exact r1
       have hbb:Below w7.heap.size w7 ((((w8.setCell ⟨w7.heap.size,0,none⟩ (.bool u1)).setCell ⟨w7.heap.size,1,none⟩ (.slice U1 m1 k1)).setCell ⟨w7.heap.size+1,0,none⟩ (.bool u2)).setCell ⟨w7.heap.size+1,1,none⟩ (.slice U2 m2 k2)):=(((hb8.setCell (by simp) _).setCell (by simp) _).setCell (by simp) _).setCell (by simp) _;obtain⟨j0,j1,-,-⟩:=aD r1';obtain⟨l0,l1,-,-⟩:=aD r2;have HCI:=hdd (ahV (hX'.below hbb) (hY'.below hbb));have HB8:=hdd (HB6.out.trans (hbb.mono HB6.out.size));clear hX hY hX' hY' hb hb8 hs8 q1 q2 q2' r1 r1' r2 hbb;go_wp2_with fail
       refine HCI.out.mono ?_;rintro r w9⟨rfl,hb⟩;have HF:Hid (RetK w (cmpD x y) (.returned (.int .i64 (cmpD x y))) _):=hdd ⟨rfl,HB8.out.trans (hb.mono HB8.out.size)⟩;clear hb;go_wp2;go_ret;exact HF.out
     . have h2:=HTG2.out h
       have h3:¬m<n:=by omega
       have HF:Hid (RetK w (cmpD x y) (.returned (.int .i64 s)) _):=hdd ⟨by rw[h2],HB6.out⟩;clear h2;go_wp2;go_ret;exact HF.out
 . have h2:=HGT.out h
   have HF:Hid (RetK w (cmpD x y) (.returned (.int .i64 1)) _):=hdd ⟨by rw[h2],HB3.out⟩;have h3:¬s<t:=by omega
   clear h2;go_wp2;go_ret;exact HF.out
theorem rY{p:Int}(hp:1<=p/\p<=65536):Calls Tryz.prog 223 #[.int .i64 p] w (fun e w'=>e=.returned (.int .i64 p)/\w=w'):=by
 go_enter Tryz.func223,Tryz.ntmps223
 go_wp2;go_ret;exact⟨by show Ending.returned (.int .i64 (max 1 (min p 65536)))=_;rw[show max 1 (min p 65536)=p from by omega],rfl⟩
theorem bO(h:g≠i)(u v x:Value):(((w.setCell ⟨g,0,none⟩ u).setCell ⟨g,1,none⟩ v).setCell ⟨g,2,none⟩ x).heap[i]? =w.heap[i]? :=by
 rw[bcS _ _ _ _ (by simp;omega),bcS _ _ _ _ (by simp;omega),bcS _ _ _ _ (by simp;omega)]
theorem adC{P dir:Int}(hx:DyP p w va x)(hT:Tab w)(sx:SmD x)(hP:1<=P/\P<=65536)(hb:(bits (mkDy x.man x.exp).man.natAbs:Int)<=P):
 Calls Tryz.prog 209 #[va,.int .i64 P,.int .i64 dir] w (RetD w.heap.size w (mkDy x.man x.exp)):=by
 obtain⟨ba,A,n,c,rfl,h⟩:=hx;obtain⟨w2,hw2,hb2,hs2,b1,b2⟩:=pro2 w (.cells #[Value.bool ba,.slice A n c,.int .i64 x.exp] 225) (.cells #[Value.bool false,Value.slice none 0 0,.int .i64 0] 225);have HB:=hdd hb2;have HS:=hdd hs2;have B1:=hdd b1;have B2:=hdd b2;have HBI:=hdd hb;have HPP:=hdd hP;obtain⟨c0,c1,c2,-,-,-⟩:=cells3 b1;have HMK:=hdd (dM (e:=x.exp) (h.below hb2) (hT.below hb2) (by have:=sx.1;omega) (by have:=sx.2;omega));have HSX:=hdd sx;clear h hb2 b1 b2 hs2 hT sx hb;go_enter Tryz.func209,Tryz.ntmps209
 go_wp2_with fail
 refine HMK.out.mono ?_;rintro r w3⟨hb,v5,rfl,hz⟩;obtain⟨b6,A6,n6,c6,rfl,hz2⟩:=id hz;have B13:=hbl B1.out hb;have B23:=hdd (hbl B2.out hb);obtain⟨e0,e1,e2,e3,e4,e5⟩:=cells3 B13;have S1:=set3 B13 (.bool b6) (.slice A6 n6 c6) (.int .i64 (mkDy x.man x.exp).exp);have hI:IntP (fun b=>w2.heap.size<=b) (((w3.setCell ⟨w.heap.size,0,none⟩ (.bool b6)).setCell ⟨w.heap.size,1,none⟩ (.slice A6 n6 c6)).setCell ⟨w.heap.size,2,none⟩ (.int .i64 (mkDy x.man x.exp).exp)) (.agg #[.bool b6,.slice A6 n6 c6]) (mkDy x.man x.exp).man:=
  ((hz2.setCell (fun b hb=>by have:=HS.out;simp;omega) _).setCell (fun b hb=>by have:=HS.out;simp;omega) _).setCell (fun b hb=>by have:=HS.out;simp;omega) _
 have S2:=(bO (w:=w3) (g:=w.heap.size) (i:=w.heap.size+1) (by omega) (.bool b6) (.slice A6 n6 c6) (.int .i64 (mkDy x.man x.exp).exp)).trans B23.out;have hbb:Below w.heap.size w (((w3.setCell ⟨w.heap.size,0,none⟩ (.bool b6)).setCell ⟨w.heap.size,1,none⟩ (.slice A6 n6 c6)).setCell ⟨w.heap.size,2,none⟩ (.int .i64 (mkDy x.man x.exp).exp)):=(((HB.out.trans (hb.mono HB.out.size)).setCell (by simp) _).setCell (by simp) _).setCell (by simp) _;generalize hE:(mkDy x.man x.exp).exp=E at*;generalize hW:((w3.setCell ⟨w.heap.size,0,none⟩ (.bool b6)).setCell ⟨w.heap.size,1,none⟩ (.slice A6 n6 c6)).setCell ⟨w.heap.size,2,none⟩ (.int .i64 E)=w4 at*;obtain⟨c0,c1,c2,-,-,-⟩:=cells3 S1;obtain⟨xs,hx1,-,hx3,-⟩:=hI.get;have HBT:=hdd (dI hx1);have HI:=hdd hI;have HS1:=hdd S1;have HS2:=hdd S2;have HBB:=hdd hbb;have hle:¬(0:Int)<(bits (val xs):Int)-P:=by have:=HBI.out;rw[hx3];omega
 have hle2:(bits (val xs):Int)-P<=0:=by omega
 have hwr:IntKind.i64.wrap ((bits (val xs):Int)-P)=(bits (val xs):Int)-P:=wrap_i64 (by have:=HPP.out;omega);have HWD:=fun w'=>rY (w:=w') HPP.out;clear hx1 hx3 hI S1 S2 hbb hz hz2 hb B13 hP;go_wp2_with fail
 refine HBT.out.mono ?_;rintro r w5⟨rfl,k,rfl⟩;have hd:=below_drewN w4 k;replace c0:=cbl c0 hd;replace c1:=cbl c1 hd;replace c2:=cbl c2 hd;replace HI:=hdd (HI.out.below hd);replace HS2:=hdd (hbl HS2.out hd);replace HBB:=hdd (HBB.out.trans (hd.mono HBB.out.size));clear hd HS1;generalize w4.drewN k=w5 at*;have HWD5:=hdd (HWD w5);clear HWD;go_wp2_with fail
 refine HWD5.out.mono ?_;rintro r w6⟨rfl,hw⟩;obtain rfl:=hw;obtain⟨f0,f1,f2,f3,f4,f5⟩:=cells3 HS2.out;have hD:DyP (fun b=>w2.heap.size<=b) w5 (.agg #[.bool b6,.slice A6 n6 c6,.int .i64 E]) (mkDy x.man x.exp):=⟨b6,A6,n6,c6,by rw[hE],HI.out⟩;obtain⟨HFF,hFF⟩:=aS HBB.out (g:=w.heap.size+1) (by omega) HS2.out hD (fun b hb=>by have:=HS.out;omega);replace hFF:=hdd hFF;clear hD;go_wp2;obtain⟨f0,f1,f2,-,-,-⟩:=cells3 hFF.out;refine bodyPost_ret (v:=.agg #[_,_,_]) (by simp[results,Tryz.results209,go_sem,f0,f1,f2];first|exact⟨rfl,rfl,rfl⟩|rfl) rfl ?_;exact HFF.out
theorem aj1(hb:b<2^64)(hf:fin b):
 (b/2^52%2048=0->fv b=sg (fneg b) (b%2^52))/\(b/2^52%2048≠0->fv b=sg (fneg b) (b%2^52+2^52)*(2^(b/2^52%2048-1):Nat)):=by
 have hr:rung b=b%2^63:=rfl;have key:fv b=sg (fneg b) (mg (rung b)):=by
  unfold fv sr fvr sg
  cases fneg b
  . simp only[Bool.false_eq_true,if_false];rw[if_neg (by omega),bcT]
  . simp only[if_true]
    rw[Int.natAbs_neg,bcT];rcases Nat.eq_zero_or_pos (rung b)with h0|h0
    . rw[h0,p8];simp
    . rw[if_pos (by omega)]
 refine⟨fun h=> ?_,fun h=> ?_⟩
 . rw[key,kW _ (by omega)]
   congr 1;omega
 . rw[key,jO _ (by omega),<-mF]
   congr 1
   have e1:rung b/2^52=b/2^52%2048:=by omega
   have e2:rung b%2^52=b%2^52:=by omega
   rw[e1,e2,Nat.add_comm]
theorem aj2(hb:b<18446744073709551616):(Go.bits BinOp.and IntKind.u64 (b:Int) 9223372036854775808 != 0)=fneg b:=by
 have h:=u64_and_nat b 9223372036854775808 hb (by omega);rw[show((9223372036854775808:Int))=((9223372036854775808:Nat):Int) from rfl,h,show(9223372036854775808:Nat)=2^63 from rfl];have e1:(b &&& 2^63)/2^63=b/2^63%2:=by rw[Nat.and_div_two_pow,Nat.div_self (by omega),Nat.and_one_is_mod]
 have e2:(b &&& 2^63)%2^63=0:=by rw[Nat.and_mod_two_pow,Nat.mod_self,Nat.and_zero]
 have e3:=Nat.div_add_mod (b &&& 2^63) (2^63);rw[e1,e2]at e3;unfold fneg;by_cases hc:b/2^63%2=1
 . rw[beq_iff_eq.2 hc,<-e3,hc];decide
 . rw[beq_eq_false_iff_ne.2 hc,<-e3,show b/2^63%2=0 from by omega];decide
theorem aoL{m:Nat}(hm:m<4503599627370496):Go.bits BinOp.or IntKind.u64 (m:Int) 4503599627370496=((m+4503599627370496:Nat):Int):=by
 have h:=u64_or_nat m 4503599627370496 (by omega) (by omega);rw[show((4503599627370496:Int))=((4503599627370496:Nat):Int) from rfl,h]
 congr 1
 have:=Nat.two_pow_add_eq_or_of_lt (i:=52) (b:=m) hm 1;rw[Nat.or_comm,show(4503599627370496:Nat)=2^52*1 from rfl,<-this];omega
theorem adD(hb:b<2^64)(hf:fin b):(b/2^52%2048=0->mkDy (sg (fneg b) (b%2^52)) (-1074)=mkDy (fv b) (-1074))/\
 (b/2^52%2048≠0->mkDy (sg (fneg b) (b%2^52+2^52)) ((b/2^52%2048:Nat)-1+-1074)=mkDy (fv b) (-1074)):=by
 obtain⟨h1,h2⟩:=aj1 hb hf;refine⟨fun h=>by rw[h1 h],fun h=> ?_⟩;rw[h2 h];refine uJ (j:=b/2^52%2048-1) (k:=0) (by simp) (by omega)
def sZ(B:Nat)(w0:World)(d:Dy)(t:Bool)(e:Ending)(w':World):Prop:=
 Below B w0 w'/\∃v,e=.returned (.tuple #[v,.bool t])/\DyP (fun b=>B<=b) w' v d
theorem eG{w':World}{d:Dy}{t:Bool}{v:Value}(h:RetD B w0 d (.returned v) w'):sZ B w0 d t (.returned (.tuple #[v,.bool t])) w':=by
 obtain⟨h1,v',e,h2⟩:=h;injection e with e;subst e;exact⟨h1,v,rfl,h2⟩
theorem tC(hb:b<18446744073709551616)(hf:fin b)(hT:Tab w):
 Calls Tryz.prog 186 #[.float .f64 b] w (sZ w.heap.size w (mkDy (fv b) (-1074)) true):=by
 obtain⟨w1,hw1,hb1,hs1,b1⟩:=pro1 w (.cells #[Value.bool false,Value.slice none 0 0,.int .i64 0] 225);have F1:=hdd (eP (b:=b) (w:=w1) hb);rw[decide_eq_true hf]at F1;have hbits:=eT b;have hS:=aj2 hb;have hA:=zB b 52 hb (by omega);rw[show(((2^52-1:Nat)):Int)=4503599627370495 from rfl]at hA;have hX:=zB (b/4503599627370496) 11 (by omega) (by omega);rw[show(((2^11-1:Nat)):Int)=2047 from rfl,show((b/4503599627370496:Nat):Int)=(b:Int)/4503599627370496 from by omega]at hX;have hO:=aoL (m:=b%2^52) (by omega);obtain⟨M1,M2⟩:=adD hb hf;rw[show b/4503599627370496%2^11=b/2^52%2048 from rfl]at hX;have hm:=bdB b (show 2^52>0 by omega);have hx:=bdB (b/2^52) (show 2048>0 by omega);generalize b/2^52%2048=x at*;generalize b%2^52=m at*;have hcv:IntKind.i64.wrap (x:Int)=(x:Int):=wrap_i64 (by omega);have HB:=hdd hb1;have HS:=hdd hs1;have B1:=hdd b1;have HT:=hdd (hT.below hb1);clear hb1 b1 hT hb hf;by_cases h0:x=0
 . subst h0
   have HM:=hdd (M1 rfl);obtain⟨w2,hw2,hb2,hs2,q2⟩:=pro1 w1 (.cells #[.int .u64 ((m:Nat):Int)] 140);have HN:=hdd (lU (NatP.one (x:=m) (by unfold B64;omega) q2 (p:=AnyB) trivial));rw[hs1]at HN;have HB2:=hdd (HB.out.trans (hb2.mono HB.out.size));have B12:=hdd (aG B1.out hb2 (aI B1.out));have HT2:=hdd (HT.out.below hb2);have HS2:=hdd hs2;clear hb2 hs2 q2 HB HT;go_enter Tryz.func186,Tryz.ntmps186
   go_wp2_with fail
   refine F1.out.mono ?_;rintro e w3⟨rfl,hw⟩;obtain rfl:=hw;go_wp2_with fail
   refine HN.out.mono ?_;rintro r w3⟨hb,v3,zs,rfl,hz,tz,hvz⟩;have HMK:=hdd (dN (b:=fneg b) hz);replace HB2:=hdd (HB2.out.trans (hb.mono HB2.out.size));replace B12:=hdd (aG B12.out hb (aI B12.out));replace HT2:=hdd (HT2.out.below hb);replace HS2:=hdd (bcW (bc7 HS2.out.symm) hb.size);have hv1:val zs=m:=by rw[hvz];simp[val]
   rw[hv1]at HMK;have hbl:bits (m)<=53:=by rw[aH];omega
   clear hb hz tz hvz hw1 hw2;go_wp2_with fail
   refine HMK.out.mono ?_;rintro r w4⟨hb,v4,rfl,hz⟩;have HMD:=hdd (dM (e:=-1074) hz (HT2.out.below hb) (by rw[bS];omega) (by omega));rw[HM.out]at HMD;replace HB2:=hdd (HB2.out.trans (hb.mono HB2.out.size));replace B12:=hdd (aG B12.out hb (aI B12.out));replace HS2:=hdd (bcW HS2.out hb.size);have hw1:True:=trivial;clear hb hz;go_wp2_with fail
   refine HMD.out.mono ?_;rintro r w5⟨hb,v5,rfl,hz⟩;obtain⟨b6,A6,n6,c6,rfl,-⟩:=id hz;have B15:=aG B12.out hb (aI B12.out);obtain⟨e0,e1,e2,e3,e4,e5⟩:=cells3 B15;obtain⟨HFF,hFF⟩:=aS (HB2.out.trans (hb.mono HB2.out.size)) (g:=w.heap.size) (by omega) B15 hz (fun b hb=>by have:=HS.out;have:=HS2.out;omega);replace hFF:=hdd hFF;have HFB:=hdd (eG (t:=true) HFF.out);clear hz hb B15 HFF;go_wp2;obtain⟨f0,f1,f2,-,-,-⟩:=cells3 hFF.out;refine bodyPost_ret (v:=.tuple #[.agg #[_,_,_],_]) (by simp[results,Tryz.results186,go_sem,f0,f1,f2];first|exact⟨⟨rfl,rfl,rfl⟩,rfl⟩|rfl) rfl ?_;exact HFB.out
 . have hx0:((x:Int)==0)=false:=beq_eq_false_iff_ne.2 (by omega)
   obtain⟨M,hM⟩:∃M,M=m+2^52:=⟨_,rfl⟩;have hO2:Go.bits BinOp.or IntKind.u64 (m:Int) 4503599627370496=(M:Int):=by rw[hM];exact hO
   rw[<-hM]at M2;have hm2:M<2^53:=by omega
   clear hO hM;have HM:=hdd (M2 h0);obtain⟨w2,hw2,hb2,hs2,q2⟩:=pro1 w1 (.cells #[.int .u64 ((M:Nat):Int)] 140);have HN:=hdd (lU (NatP.one (x:=M) (by unfold B64;omega) q2 (p:=AnyB) trivial));rw[hs1]at HN;have HB2:=hdd (HB.out.trans (hb2.mono HB.out.size));have B12:=hdd (aG B1.out hb2 (aI B1.out));have HT2:=hdd (HT.out.below hb2);have HS2:=hdd hs2;clear hb2 hs2 q2 HB HT;go_enter Tryz.func186,Tryz.ntmps186
   go_wp2_with fail
   refine F1.out.mono ?_;rintro e w3⟨rfl,hw⟩;obtain rfl:=hw;go_wp2_with fail
   refine HN.out.mono ?_;rintro r w3⟨hb,v3,zs,rfl,hz,tz,hvz⟩;have HMK:=hdd (dN (b:=fneg b) hz);replace HB2:=hdd (HB2.out.trans (hb.mono HB2.out.size));replace B12:=hdd (aG B12.out hb (aI B12.out));replace HT2:=hdd (HT2.out.below hb);replace HS2:=hdd (bcW (bc7 HS2.out.symm) hb.size);have hv1:val zs=M:=by rw[hvz];simp[val]
   rw[hv1]at HMK;have hbl:bits M<=53:=by rw[aH];omega
   clear hb hz tz hvz hw1 hw2;go_wp2_with fail
   refine HMK.out.mono ?_;rintro r w4⟨hb,v4,rfl,hz⟩;have HMD:=hdd (dM (e:=(x:Nat)-1+-1074) hz (HT2.out.below hb) (by rw[bS];omega) (by omega));rw[HM.out]at HMD;replace HB2:=hdd (HB2.out.trans (hb.mono HB2.out.size));replace B12:=hdd (aG B12.out hb (aI B12.out));replace HS2:=hdd (bcW HS2.out hb.size);have hw1:True:=trivial;clear hb hz;go_wp2_with fail
   refine HMD.out.mono ?_;rintro r w5⟨hb,v5,rfl,hz⟩;obtain⟨b6,A6,n6,c6,rfl,-⟩:=id hz;have B15:=aG B12.out hb (aI B12.out);obtain⟨e0,e1,e2,e3,e4,e5⟩:=cells3 B15;obtain⟨HFF,hFF⟩:=aS (HB2.out.trans (hb.mono HB2.out.size)) (g:=w.heap.size) (by omega) B15 hz (fun b hb=>by have:=HS.out;have:=HS2.out;omega);replace hFF:=hdd hFF;have HFB:=hdd (eG (t:=true) HFF.out);clear hz hb B15 HFF;go_wp2;obtain⟨f0,f1,f2,-,-,-⟩:=cells3 hFF.out;refine bodyPost_ret (v:=.tuple #[.agg #[_,_,_],_]) (by simp[results,Tryz.results186,go_sem,f0,f1,f2];first|exact⟨⟨rfl,rfl,rfl⟩,rfl⟩|rfl) rfl ?_;exact HFB.out
theorem aK{b:Value}(h:w.heap[g]? =some (.cells #[a,b,c,d,e,f] T (0,0))):
 w.cell? ⟨g,0,none⟩=some a/\w.cell? ⟨g,1,none⟩=some b/\w.cell? ⟨g,2,none⟩=some c/\w.cell? ⟨g,3,none⟩=some d/\w.cell? ⟨g,4,none⟩=some e/\w.cell? ⟨g,5,none⟩=some f:=by
 refine⟨?_,?_,?_,?_,?_,?_⟩<;>simp[World.cell?,h]
theorem gZ{b:Value}(h:w.heap[g]? =some (.cells #[a,b,c,d,e,f] T (0,0))):
 w.frozen? ⟨g,0,none⟩=false/\w.frozen? ⟨g,1,none⟩=false/\w.frozen? ⟨g,2,none⟩=false/\w.frozen? ⟨g,3,none⟩=false/\w.frozen? ⟨g,4,none⟩=false/\w.frozen? ⟨g,5,none⟩=false:=by
 refine⟨?_,?_,?_,?_,?_,?_⟩<;>simp[World.frozen?,h]
def put6(w:World)(g:Nat)(a b c d e f:Value):World:=
 (((((w.setCell ⟨g,0,none⟩ a).setCell ⟨g,1,none⟩ b).setCell ⟨g,2,none⟩ c).setCell ⟨g,3,none⟩ d).setCell ⟨g,4,none⟩ e).setCell ⟨g,5,none⟩ f
theorem iV{b:Value}(h:w.heap[g]? =some (.cells #[a,b,c,d,e,f] T (0,0)))(u v x y z t:Value):
 (put6 w g u v x y z t).heap[g]? =some (.cells #[u,v,x,y,z,t] T (0,0)):=by
 have hg:g<w.heap.size:=(Array.getElem?_eq_some_iff.1 h).1;have h':w.heap[g]=.cells #[a,b,c,d,e,f] T (0,0):=(Array.getElem?_eq_some_iff.1 h).2;simp[put6,World.setCell,hg,Array.getElem_modify,h']
theorem fH(hb:Below B w0 w)(hg:B<=g)(u v x y z t:Value):Below B w0 (put6 w g u v x y z t):=
 (((((hb.setCell hg _).setCell hg _).setCell hg _).setCell hg _).setCell hg _).setCell hg _
theorem wF(h:g≠i)(u v x y z t:Value):(put6 w g u v x y z t).heap[i]? =w.heap[i]? :=by
 unfold put6;rw[bcS _ _ _ _ (by simp;omega),bcS _ _ _ _ (by simp;omega),bcS _ _ _ _ (by simp;omega),bcS _ _ _ _ (by simp;omega),bcS _ _ _ _ (by simp;omega),bcS _ _ _ _ (by simp;omega)]
theorem jE{z0:Int}(h:IntP p w va z0)(ha:∀b,p b->b≠g)(u v x y z t:Value):IntP p (put6 w g u v x y z t) va z0:=
 (((((h.setCell (a:=⟨g,0,none⟩) ha u).setCell (a:=⟨g,1,none⟩) ha v).setCell (a:=⟨g,2,none⟩) ha x).setCell (a:=⟨g,3,none⟩) ha y).setCell (a:=⟨g,4,none⟩) ha z).setCell (a:=⟨g,5,none⟩) ha t
theorem aj3(hx:DyP p w va x)(hT:Tab w)(sx:SmD x):
 Calls Tryz.prog 207 #[va] w (RetD w.heap.size w (mkDy x.man x.exp)):=by
 obtain⟨ba,A,n,c,rfl,h⟩:=hx;obtain⟨w2,hw2,hb2,hs2,b1,b2⟩:=pro2 w (.cells #[Value.bool ba,.slice A n c,.int .i64 x.exp] 225) (.cells #[Value.bool false,Value.slice none 0 0,.int .i64 0] 225);have HB:=hdd hb2;have HS:=hdd hs2;have B2:=hdd b2;obtain⟨c0,c1,c2,-,-,-⟩:=cells3 b1;have HMK:=hdd (dM (e:=x.exp) (h.below hb2) (hT.below hb2) (by have:=sx.1;omega) (by have:=sx.2;omega));clear h hb2 b1 b2 hs2 hT sx;go_enter Tryz.func207,Tryz.ntmps207
 go_wp2_with fail
 refine HMK.out.mono ?_;rintro r w3⟨hb,v5,rfl,hz⟩;obtain⟨b6,A6,n6,c6,rfl,-⟩:=id hz;have B23:=hbl B2.out hb;obtain⟨e0,e1,e2,e3,e4,e5⟩:=cells3 B23;obtain⟨HFF,hFF⟩:=aS (HB.out.trans (hb.mono HB.out.size)) (g:=w.heap.size+1) (by omega) B23 hz (fun b hb=>by have:=HS.out;omega);replace hFF:=hdd hFF;clear hz hb B23 c0 c1 c2;go_wp2;obtain⟨f0,f1,f2,-,-,-⟩:=cells3 hFF.out;refine bodyPost_ret (v:=.agg #[_,_,_]) (by simp[results,Tryz.results207,go_sem,f0,f1,f2];first|exact⟨rfl,rfl,rfl⟩|rfl) rfl ?_;exact HFF.out
end Go.Proofs.YtjaafolhfihegaaGreatDoor
namespace Go.Proofs.YtjaafolhfihegaaGreatDoor
open Nat renaming pow_add->bdI,two_pow_pos->bdK
open Rat renaming intCast_natCast->bdC,intCast_mul->bdD,mul_pos->bdE,natCast_mul->bdF,natCast_le_natCast->bdG,mul_nonneg->bdH,intCast_neg_iff->bdJ,intCast_neg->bdL
variable{a b:Int}
def p2(e:Int):Rat:=if 0<=e then((2^e.toNat:Nat):Rat)else 1/((2^(-e).toNat:Nat):Rat)
theorem wG(k:Nat):(0:Rat)<((2^k:Nat):Rat):=Rat.natCast_pos.2 (bdK k)
theorem fI(k:Nat):p2 k=((2^k:Nat):Rat):=by unfold p2;rw[if_pos (by omega)];rfl
theorem qV(e:Int)(k:Nat)(h:0<=e+k):p2 e*((2^k:Nat):Rat)=((2^(e+k).toNat:Nat):Rat):=by
 unfold p2
 split
 . rw[<-bdF,<-bdI];congr 2;omega
 . have e1:k=(-e).toNat+(e+k).toNat:=by omega
   have h2:=wG (-e).toNat
   conv=>lhs;rw[e1]
   rw[bdI,bdF];generalize ((2^(-e).toNat:Nat):Rat)=a at*;generalize ((2^(e+k).toNat:Nat):Rat)=b at*;grind
theorem bG(e:Int):0<p2 e:=by
 unfold p2;split
 . exact wG _
 . exact dK (by decide) (wG _)
theorem dA(a b:Int):p2 (a+b)=p2 a*p2 b:=by
 have h1:=qV a a.natAbs (by omega);have h2:=qV b b.natAbs (by omega);have h3:=qV (a+b) (a.natAbs+b.natAbs) (by omega);have e1:(a+b+((a.natAbs+b.natAbs:Nat):Int)).toNat=(a+(a.natAbs:Nat)).toNat+(b+(b.natAbs:Nat)).toNat:=by omega
 rw[e1,bdI,bdI,bdF,bdF,<-h1,<-h2]at h3;have k1:=wG a.natAbs;have k2:=wG b.natAbs;generalize ((2^a.natAbs:Nat):Rat)=x at*;generalize ((2^b.natAbs:Nat):Rat)=y at*;have k3:=bdE k1 k2;have h4:(p2 (a+b)-p2 a*p2 b)*(x*y)=0:=by grind
 rcases Rat.mul_eq_zero.1 h4 with h5|h5<;>grind
theorem mG:p2 0=1:=by decide
theorem an3:p2 1=2:=by decide
theorem iF(e:Int):p2 (e+1)=2*p2 e:=by rw[dA,an3];grind
theorem iM(h:a<=b):p2 a<=p2 b:=by
 have e:b=a+((b-a).toNat:Nat):=by omega
 rw[e,dA,fI];have h1:(1:Rat)<=((2^(b-a).toNat:Nat):Rat):=by
  have:=bdG.2 (bdK (b-a).toNat);simpa using this
 have:=bdH (a:=p2 a) (b:=((2^(b-a).toNat:Nat):Rat)-1) (by have:=bG a;grind) (by grind);grind
theorem am0(h:a<b):p2 a<p2 b:=by
 have h1:=iM (show a+1<=b by omega);rw[iF]at h1;have:=bG a;grind
theorem agA:p2 a<p2 b↔a<b:=by
 constructor
 . intro h
   rcases Int.lt_or_le a b with h1|h1
   . exact h1
   . have:=iM h1;grind
 . exact am0
def rv(d:Dy):Rat:=(d.man:Rat)*p2 d.exp
theorem mH(e:Int):rv ⟨0,e⟩=0:=by unfold rv;simp
theorem lL(x e:Int):rv (mkDy x e)=(x:Rat)*p2 e:=by
 rcases iZ x e with ⟨h1,h2⟩|⟨h1,h2,h3,h4⟩
 . rw[h1,h2,mH];simp
 . unfold rv
   generalize mkDy x e=d at*;have e1:d.exp=e+((d.exp-e).toNat:Nat):=by omega
   conv=>rhs;rw[h4]
   conv=>lhs;rw[e1]
   rw[dA,fI,bdD,bdC];grind
def Canon(d:Dy):Prop:=mkDy d.man d.exp=d
theorem Canon.mk (x e:Int):Canon (mkDy x e):=oI x e
theorem zP(a b:Dy):rv (addD a b)=rv a+rv b:=by
 unfold addD
 split
 . rename_i h;rw[lL];unfold rv;rw[h];simp[Rat.zero_add]
 . split
   . rename_i h;rw[lL];unfold rv;rw[h];simp[Rat.add_zero]
   . rw[lL,iT,iU,Rat.intCast_add,bdD,bdD,bdC,bdC,<-fI,<-fI]
     unfold rv;have e1:p2 a.exp=p2 ((a.exp-min a.exp b.exp).toNat:Nat)*p2 (min a.exp b.exp):=by rw[<-dA];congr 1;omega
     have e2:p2 b.exp=p2 ((b.exp-min a.exp b.exp).toNat:Nat)*p2 (min a.exp b.exp):=by rw[<-dA];congr 1;omega
     rw[e1,e2];grind
theorem gK(a b:Dy):rv (mulD a b)=rv a*rv b:=by
 unfold mulD rv;have:=lL (a.man*b.man) (a.exp+b.exp);unfold rv at this;rw[this,bdD,dA];grind
theorem oJ(a:Dy):rv (notD a)=-rv a:=by
 unfold notD;rw[lL];unfold rv;rw[bdL];grind
theorem bE(d:Dy):(0<rv d↔0<d.man)/\(rv d<0↔d.man<0)/\(rv d=0↔d.man=0):=by
 have hp:=bG d.exp;unfold rv;rcases Int.lt_trichotomy d.man 0 with h|h|h
 . have h1:(d.man:Rat)<0:=bdJ.2 h
   have h2:=bdE (a:=-(d.man:Rat)) (b:=p2 d.exp) (by grind) hp;refine⟨⟨fun _=>by grind,fun _=>by omega⟩,⟨fun _=>h,fun _=>by grind⟩,⟨fun _=>by grind,fun _=>by omega⟩⟩
 . rw[h]
   have h0:((0:Int):Rat)=0:=rfl;refine⟨⟨fun _=>by grind,fun _=>by omega⟩,⟨fun _=>by grind,fun _=>by omega⟩,⟨fun _=>rfl,fun _=>by grind⟩⟩
 . have h1:0<(d.man:Rat):=Rat.intCast_pos.2 h
   have h2:=bdE (a:=(d.man:Rat)) (b:=p2 d.exp) h1 hp;refine⟨⟨fun _=>h,fun _=>h2⟩,⟨fun _=>by grind,fun _=>by omega⟩,⟨fun _=>by grind,fun _=>by omega⟩⟩
theorem aj4(a b:Dy):(cmpD a b<0↔rv a<rv b)/\(0<cmpD a b↔rv b<rv a):=by
 have e1:rv a=(dQ a b:Rat)*p2 (min a.exp b.exp):=by
  rw[iT,bdD,bdC,<-fI];have:p2 a.exp=p2 ((a.exp-min a.exp b.exp).toNat:Nat)*p2 (min a.exp b.exp):=by rw[<-dA];congr 1;omega
  unfold rv;rw[this];grind
 have e2:rv b=(dR a b:Rat)*p2 (min a.exp b.exp):=by
  rw[iU,bdD,bdC,<-fI];have:p2 b.exp=p2 ((b.exp-min a.exp b.exp).toNat:Nat)*p2 (min a.exp b.exp):=by rw[<-dA];congr 1;omega
  unfold rv;rw[this];grind
 have hp:=bG (min a.exp b.exp);rw[e1,e2];unfold cmpD cmpI;generalize dQ a b=x at*;generalize dR a b=y at*;generalize p2 (min a.exp b.exp)=p at*;have key:∀u v:Int,u<v->(u:Rat)*p<(v:Rat)*p:=fun u v h=>by
  have h1:=Rat.intCast_lt_intCast.2 h;have:=bdE (a:=(v:Rat)-u) (b:=p) (by grind) hp;grind
 rcases Int.lt_trichotomy x y with h|h|h
 . have:=key x y h
   rw[if_pos h];exact⟨⟨fun _=>this,fun _=>by decide⟩,⟨fun h=>absurd h (by decide),fun _=>by grind⟩⟩
 . rw[h,if_neg (by omega),if_neg (by omega)]
   exact⟨⟨fun h=>absurd h (by decide),fun _=>by grind⟩,⟨fun h=>absurd h (by decide),fun _=>by grind⟩⟩
 . have:=key y x h
   rw[if_neg (by omega),if_pos h];exact⟨⟨fun h=>absurd h (by decide),fun _=>by grind⟩,⟨fun _=>this,fun _=>by decide⟩⟩
theorem jF(x:Int):((x.natAbs:Nat):Rat)=x/\0<=x\/((x.natAbs:Nat):Rat)=-x/\x<0:=by
 rcases Int.lt_or_le x 0 with h|h
 . right;refine⟨?_,h⟩
   rw[<-bdC,<-bdL];congr 1;omega
 . left;refine⟨?_,h⟩
   rw[<-bdC];congr 1;omega
theorem qW{m:Nat}(h:m≠0):p2 ((bits m:Int)-1)<=(m:Rat)/\(m:Rat)<p2 (bits m):=by
 have h1:=(aH m (bits m)).1 nlr;have h2:¬bits m<=bits m-1:=by
  have:=(not_congr (bX m)).2 h;omega
 rw[aH]at h2;have e:(bits m:Int)-1=((bits m-1:Nat):Int):=by have:=(not_congr (bX m)).2 h;omega
 rw[e,fI,fI];exact⟨bdG.2 (by omega),Rat.natCast_lt_natCast.2 h1⟩
theorem aj5(d:Dy):-p2 (topD d)<rv d/\rv d<p2 (topD d):=by
 unfold topD
 split
 . rename_i h
   have:rv d=0:=(bE d).2.2.2 h;rw[this,mG];constructor<;>decide
 . rename_i h
   have h1:=(qW (m:=d.man.natAbs) (by omega)).2;have hp:=bG d.exp;rw[dA];have h2:=bdE (a:=p2 (bits d.man.natAbs)-(d.man.natAbs:Rat)) (b:=p2 d.exp) (by grind) hp;have h3:=bdE (bG (bits d.man.natAbs)) hp;unfold rv;rcases jF d.man with ⟨h4,h5⟩|⟨h4,h5⟩
   . have h6:=bdH (a:=(d.man:Rat)) (b:=p2 d.exp) (Rat.intCast_nonneg.2 h5) (by grind)
     rw[h4]at h2;constructor<;>grind
   . have h6:=bdE (a:=-(d.man:Rat)) (b:=p2 d.exp) (by have:=bdJ.2 h5;grind) hp
     rw[h4]at h2;constructor<;>grind
theorem rZ(d:Dy)(h:d.man≠0):p2 (topD d-1)<=rv d\/rv d<=-p2 (topD d-1):=by
 unfold topD;rw[if_neg h,show(bits d.man.natAbs:Int)+d.exp-1=((bits d.man.natAbs:Int)-1)+d.exp from by omega,dA];have h1:=(qW (m:=d.man.natAbs) (by omega)).1;have hp:=bG d.exp;have h2:=bdH (a:=(d.man.natAbs:Rat)-p2 ((bits d.man.natAbs:Int)-1)) (b:=p2 d.exp) (by grind) (by grind);unfold rv;rcases jF d.man with ⟨h4,h5⟩|⟨h4,h5⟩<;>rw[h4]at h2
 . left;grind
 . right;grind
end Go.Proofs.YtjaafolhfihegaaGreatDoor
