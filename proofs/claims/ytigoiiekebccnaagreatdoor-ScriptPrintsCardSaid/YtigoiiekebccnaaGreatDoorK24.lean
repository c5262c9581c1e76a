/- A part of the proof: contracts of functions and plain laws (DyW, BaA, BaB, BaF). -/
import Derived.Test.YtigoiiekebccnaaGreatDoorK23
import Derived.Test.YtigoiiekebccnaaGreatDoorK22
set_option linter.unusedVariables false
set_option linter.unusedSimpArgs false
set_option linter.unnecessarySimpa false
set_option maxHeartbeats 25600000
set_option maxRecDepth 100000
namespace Go.Proofs.YtigoiiekebccnaaGreatDoor
open Go.RowKit
open Go.RowKit.Below renaming refl->bgC
open Nat renaming le_trans->bgB
variable{d:Bl}{b1 b2:Bool}{x:Dy}{P:Int}{B g n1 n2:Nat}{S p q:Nat->Prop}{A1 A2:Option Addr}{v va:Value}
theorem wH{x o T:Nat}(k:Nat)(h:bits x<=T)(ho:o<=1:=by omega):bits (x/2^k+o)<=T+1:=by
 rw[aF]at*;have:=Nat.div_le_self x (2^k);have:=Nat.two_pow_pos T;rw[Nat.pow_succ];omega
theorem zV{dir:Int}{w:World}(hx:DyP p w va x)(hT:Tab w)(sx:SmD x)(hP:1<=P/\P<=65536)(hb:¬(bits (mkDy x.man x.exp).man.natAbs:Int)<=P):
 Calls Tryz.prog 266 #[va,.int .i64 P,.int .i64 dir] w (RetD w.heap.size w (aM x P dir)):=by
 obtain⟨ba,A,n,c,rfl,h⟩:=hx;obtain⟨w2,hw2,hb2,hs2,b1,b2⟩:=pro2 w (.cells #[Value.bool ba,.slice A n c,.int .i64 x.exp] 233) (.cells #[Value.bool false,Value.slice none 0 0,.int .i64 0] 233);have HB:=hdd hb2;have HS:=hdd hs2;have B1:=hdd b1;have B2:=hdd b2;have HBI:=hdd hb;have HPP:=hdd hP;have HT0:=hdd hT;obtain⟨c0,c1,c2,-,-,-⟩:=cells3 b1;have HMK:=hdd (dC (e:=x.exp) (h.below hb2) (hT.below hb2) (by have:=sx.1;omega) (by have:=sx.2;omega));have hbm:=qC x.man x.exp;have hex:(mkDy x.man x.exp).man≠0->x.exp<=(mkDy x.man x.exp).exp/\(mkDy x.man x.exp).exp<=x.exp+134217728:=by
  intro hne;have hx0:x.man≠0:=fun h0=>hne (by rw[h0,aT]);obtain⟨k,k1,k2,k3,k4⟩:=gZ x.man x.exp hx0;have:=sx.1;omega
 have hm0:(mkDy x.man x.exp).man≠0:=by
  intro h0;apply hb;rw[h0];show((bits 0:Nat):Int)<=P;have:bits 0=0:=rfl;omega
 have HM0:=hdd hm0;have HSX:Hid ((bits (mkDy x.man x.exp).man.natAbs<=134217728)/\-67108864<=(mkDy x.man x.exp).exp/\(mkDy x.man x.exp).exp<=67108864+134217728):=hdd (by have:=hex hm0;have:=sx.1;have:=sx.2;omega);have HRD:Hid (aM x P dir=mkDy (sg (decide ((mkDy x.man x.exp).man<0)) ((mkDy x.man x.exp).man.natAbs/2^((bits (mkDy x.man x.exp).man.natAbs:Int)-P).toNat+(outw (decide ((mkDy x.man x.exp).man<0)) dir).toNat))
  ((mkDy x.man x.exp).exp+((bits (mkDy x.man x.exp).man.natAbs:Int)-P))):=hdd (by unfold aM;rw[if_neg hb])
 clear h hb2 b1 b2 hs2 hT sx hb hbm hex hm0;go_enter Tryz.func266,Tryz.ntmps266
 go_wp2_with fail
 refine HMK.out.mono ?_;rintro r w3⟨hb,v5,rfl,hz⟩;obtain⟨b6,A6,n6,c6,rfl,hz2⟩:=id hz;have B13:=hbl B1.out hb;have B23:=hdd (hbl B2.out hb);obtain⟨e0,e1,e2,e3,e4,e5⟩:=cells3 B13;have S1:=set3 B13 (.bool b6) (.slice A6 n6 c6) (.int .i64 (mkDy x.man x.exp).exp);have hI:IntP (fun b=>w2.heap.size<=b) (((w3.setCell ⟨w.heap.size,0,none⟩ (.bool b6)).setCell ⟨w.heap.size,1,none⟩ (.slice A6 n6 c6)).setCell ⟨w.heap.size,2,none⟩ (.int .i64 (mkDy x.man x.exp).exp)) (.agg #[.bool b6,.slice A6 n6 c6]) (mkDy x.man x.exp).man:=
  ((hz2.setCell (fun b hb=>by have:=HS.out;simp;omega) _).setCell (fun b hb=>by have:=HS.out;simp;omega) _).setCell (fun b hb=>by have:=HS.out;simp;omega) _
 have S2:=(bX (w:=w3) (g:=w.heap.size) (i:=w.heap.size+1) (by omega) (.bool b6) (.slice A6 n6 c6) (.int .i64 (mkDy x.man x.exp).exp)).trans B23.out;have hbb:Below w.heap.size w (((w3.setCell ⟨w.heap.size,0,none⟩ (.bool b6)).setCell ⟨w.heap.size,1,none⟩ (.slice A6 n6 c6)).setCell ⟨w.heap.size,2,none⟩ (.int .i64 (mkDy x.man x.exp).exp)):=(((HB.out.trans (hb.mono HB.out.size)).setCell (by simp) _).setCell (by simp) _).setCell (by simp) _;have hT4:Tab (((w3.setCell ⟨w.heap.size,0,none⟩ (.bool b6)).setCell ⟨w.heap.size,1,none⟩ (.slice A6 n6 c6)).setCell ⟨w.heap.size,2,none⟩ (.int .i64 (mkDy x.man x.exp).exp)):=HT0.out.below hbb;generalize hE:(mkDy x.man x.exp).exp=E at*;generalize hW:((w3.setCell ⟨w.heap.size,0,none⟩ (.bool b6)).setCell ⟨w.heap.size,1,none⟩ (.slice A6 n6 c6)).setCell ⟨w.heap.size,2,none⟩ (.int .i64 E)=w4 at*;obtain⟨c0,c1,c2,-,-,-⟩:=cells3 S1;obtain⟨xs,hx1,hx2,hx3,hx4⟩:=hI.get;have HBT:=hdd (cZ hx1);have HS1:=hdd S1;have HS2:=hdd S2;have HBB:=hdd hbb;have HX:=hdd hx1;have HX3:=hdd hx3;have HX4:=hdd hx4;have HT4:=hdd hT4
 obtain⟨k,hk⟩:∃k:Nat,(bits (val xs):Int)-P=k:=⟨((bits (val xs):Int)-P).toNat,by have:=HBI.out;rw[hx3];omega⟩;have hle:¬((k:Int)<=0):=by have h1:=HBI.out;rw[hx3]at hk;omega
 have hwr:IntKind.i64.wrap ((bits (val xs):Int)-P)=(k:Int):=(wrap_i64 (by have:=HPP.out;have:=HSX.out;rw[hx3];omega)).trans hk;have HWD:=fun w'=>rC (w:=w') HPP.out;clear hx1 hx2 hx3 hx4 hI S1 S2 hbb hz hz2 hb B13 hP hT4;go_wp2_with fail
 refine HBT.out.mono ?_;rintro r w5⟨rfl,k5,rfl⟩;have hd:=below_drewN w4 k5;replace c0:=cbl c0 hd;replace c1:=cbl c1 hd;replace c2:=cbl c2 hd;replace HX:=hdd (HX.out.below hd);replace HS2:=hdd (hbl HS2.out hd);replace HBB:=hdd (HBB.out.trans (hd.mono HBB.out.size));replace HT4:=hdd (HT4.out.below hd);clear hd HS1 HBT;generalize w4.drewN k5=w5 at*;have HWD5:=hdd (HWD w5);clear HWD;go_wp2_with fail
 refine HWD5.out.mono ?_;rintro r w6⟨rfl,hw⟩;obtain rfl:=hw;have HK:=hdd hk;have HRT:=hdd (jJ (n:=k) HX.out (by have h1:=HK.out;rw[HX3.out]at h1;have:=HSX.out;have:=HPP.out;omega));clear HWD5 hk;go_wp2_with fail
 refine HRT.out.mono ?_;rintro r w6⟨hb,v6,ys,rfl,hy,ty,hvy⟩;obtain⟨A8,c8,rfl,-⟩:=id hy;replace c0:=cbl c0 hb;replace c1:=cbl c1 hb;replace c2:=cbl c2 hb;replace HS2:=hdd (hbl HS2.out hb);replace HBB:=hdd (HBB.out.trans (hb.mono HBB.out.size));replace HT4:=hdd (HT4.out.below hb);have HY:=hdd hy;have HVY:=hdd hvy;have HTY:=hdd ty;have HSZ:Hid (w2.heap.size<=w6.heap.size):=hdd (by have:=HBB.out.size;have:=aD HS2.out;have:=HS.out;omega);clear hb hy ty hvy HRT HX;go_wp2_with fail
 refine outward_any.mono ?_;rintro r w7⟨rfl,hw⟩;obtain rfl:=hw
 cases ho:outw b6 dir
 . go_wp2_with fail
   have hwr2:IntKind.i64.wrap (E+(k:Int))=E+(k:Int):=wrap_i64 (by have h1:=HK.out;rw[HX3.out]at h1;have:=HSX.out;have:=HPP.out;omega);have HWM:=hdd (dD (b:=b6) (HY.out.below ((bgC _ _).drew (w:=w6))));have hne1:w.heap.size+1≠w.heap.size:=by omega
   have HVL:Hid (bits (sg b6 (val ys)).natAbs<=1073741824):=hdd (by
    rw[bI,show val ys=val xs/2^k+0 from HVY.out];exact bgB (wH k (T:=134217728) (by rw[HX3.out];exact HSX.out.1)) (by omega))
   have HEE:Hid (-1000000000000<=E+(k:Int)/\E+(k:Int)<=1000000000000):=hdd (by have h1:=HK.out;rw[HX3.out]at h1;have:=HSX.out;have:=HPP.out;omega);have M1:True:=trivial
   go_region_held3 (fun w'=>w'.cell? ⟨w.heap.size,0,none⟩=some (.bool b6)/\w'.cell? ⟨w.heap.size,1,none⟩=some (.slice A6 n6 c6)/\w'.cell? ⟨w.heap.size,2,none⟩=some (.int .i64 E)) (go_keep)
    (first
    |(go_at_call 200
      refine HWM.out.mono ?_;rintro r wa⟨hb,va,hz⟩;obtain⟨rfl,hz⟩:=hz;obtain⟨b8,A8,n8,c8,rfl⟩:=hz.shape;have HBA:Hid (Below w6.heap.size w6 wa):=hdd ((bgC _ _).drew.trans hb);have c0:=cbl c0 HBA.out;have c1:=cbl c1 HBA.out;have c2:=cbl c2 HBA.out;have HMK2:=hdd (dC (e:=E+(k:Int)) hz (HT4.out.below HBA.out) HVL.out HEE.out);clear hb hz)
    |(go_at_call 152
      refine HMK2.out.mono ?_;rintro r wb⟨hb,vb,hz⟩;obtain⟨rfl,hz⟩:=hz;obtain⟨b9,A9,n9,c9,rfl,-⟩:=id hz;have c0:=cbl c0 hb;have c1:=cbl c1 hb;have c2:=cbl c2 hb;have HSZ9:=hdd HBA.out.size;have HBA:=hdd (HBA.out.trans (hb.mono HBA.out.size));have HF:=hdd hz;have B9:=hdd (hbl HS2.out HBA.out);obtain⟨e0,e1,e2,e3,e4,e5⟩:=cells3 B9.out;clear hb hz))
   obtain⟨HFF,hFF⟩:=aK (HBB.out.trans (HBA.out.mono HBB.out.size)) (g:=w.heap.size+1) (by omega) B9.out HF.out (fun b hb=>by have:=HSZ.out;have:=HSZ9.out;have:=HS.out;omega);replace hFF:=hdd hFF;have HEQ:Hid (mkDy (sg b6 (val ys)) (E+(k:Int))=aM x P dir):=hdd (by
    have h1:=HK.out;rw[HX3.out]at h1;rw[HRD.out,<-HX4.out,h1,Int.toNat_natCast,ho,<-HX3.out,show val ys=val xs/2^k+0 from HVY.out];rfl)
   go_wp2;obtain⟨f0,f1,f2,-,-,-⟩:=cells3 hFF.out;refine bodyPost_ret (v:=.agg #[_,_,_]) (by simp[results,Tryz.results266,go_sem,f0,f1,f2];first|exact⟨rfl,rfl,rfl⟩|rfl) rfl ?_;rw[<-HEQ.out];exact HFF.out
 . go_wp2_with fail
   have HB1:Hid (Below w6.heap.size w6 (w6.alloc (.cells #[.int .u64 1] 198))):=hdd (aN _ _);have HOF:=hdd (kQ (NatP.one (x:=1) (by decide) (heap_alloc_new w6 (.cells #[.int .u64 1] 198)) (p:=AnyB) trivial));refine HOF.out.mono ?_;rintro r w7⟨hb,v7,ys7,rfl,hy7,ty7,hvy7⟩;obtain⟨A7,c7,rfl,-⟩:=id hy7;have HB7:=hdd (HB1.out.trans (hb.mono HB1.out.size));have HY7:=hdd hy7;have HVY7:=hdd hvy7;clear hb hy7 ty7 hvy7 HOF HB1;have HB8:Hid (Below w7.heap.size w7 (w7.alloc (.cells #[.slice A8 ys.length c8,.slice A7 ys7.length c7] 184))):=hdd (aN _ _);obtain⟨g0,g1,-,-⟩:=aB (heap_alloc_new w7 (.cells #[.slice A8 ys.length c8,.slice A7 ys7.length c7] 184));have HB78:=hdd (HB7.out.trans (HB8.out.mono HB7.out.size));have HAD:=hdd (yJ (HY.out.below HB78.out) (HY7.out.below HB8.out) (by simp) g0 g1
    (by rw[HVY.out];exact bgB (wH k (o:=0) (T:=134217728) (by rw[HX3.out];exact HSX.out.1)) (by omega)) (by rw[HVY7.out];decide))
   clear g0 g1;go_wp2_with fail
   refine HAD.out.mono ?_;rintro r w9⟨hb,v9,ys9,rfl,hy9,ty9,hvy9⟩;obtain⟨A9',c9',rfl,-⟩:=id hy9;have HB9:=hdd (HB78.out.trans (hb.mono HB78.out.size));replace c0:=cbl c0 HB9.out;replace c1:=cbl c1 HB9.out;replace c2:=cbl c2 HB9.out;have HY9:=hdd hy9;have HVY9:Hid (val ys9=val xs/2^k+1):=hdd (by rw[hvy9,HVY.out,HVY7.out];rfl);have HS9:=hdd (hbl HS2.out HB9.out);have HBB9:=hdd (HBB.out.trans (HB9.out.mono HBB.out.size));have HT9:=hdd (HT4.out.below HB9.out);replace HSZ:Hid (w2.heap.size<=w9.heap.size):=hdd (bgB HSZ.out HB9.out.size);clear hb hy9 ty9 hvy9 HAD HB9 HB78 HB8 HB7;go_wp2_with fail
   have hwr2:IntKind.i64.wrap (E+(k:Int))=E+(k:Int):=wrap_i64 (by have h1:=HK.out;rw[HX3.out]at h1;have:=HSX.out;have:=HPP.out;omega);have HWM:=hdd (dD (b:=b6) (HY9.out.below ((bgC _ _).drew (w:=w9))));have hne1:w.heap.size+1≠w.heap.size:=by omega
   have HVL:Hid (bits (sg b6 (val ys9)).natAbs<=1073741824):=hdd (by
    rw[bI,HVY9.out];exact bgB (wH k (T:=134217728) (by rw[HX3.out];exact HSX.out.1)) (by omega))
   have HEE:Hid (-1000000000000<=E+(k:Int)/\E+(k:Int)<=1000000000000):=hdd (by have h1:=HK.out;rw[HX3.out]at h1;have:=HSX.out;have:=HPP.out;omega);have M1:True:=trivial
   go_region_held3 (fun w'=>w'.cell? ⟨w.heap.size,0,none⟩=some (.bool b6)/\w'.cell? ⟨w.heap.size,1,none⟩=some (.slice A6 n6 c6)/\w'.cell? ⟨w.heap.size,2,none⟩=some (.int .i64 E)) (go_keep)
    (first
    |(go_at_call 200
      refine HWM.out.mono ?_;rintro r wa⟨hb,va,hz⟩;obtain⟨rfl,hz⟩:=hz;obtain⟨b8,A8,n8,c8,rfl⟩:=hz.shape;have HBA:Hid (Below w9.heap.size w9 wa):=hdd ((bgC _ _).drew.trans hb);have c0:=cbl c0 HBA.out;have c1:=cbl c1 HBA.out;have c2:=cbl c2 HBA.out;have HMK2:=hdd (dC (e:=E+(k:Int)) hz (HT9.out.below HBA.out) HVL.out HEE.out);clear hb hz)
    |(go_at_call 152
      refine HMK2.out.mono ?_;rintro r wb⟨hb,vb,hz⟩;obtain⟨rfl,hz⟩:=hz;obtain⟨b9,A9,n9,c9,rfl,-⟩:=id hz;have c0:=cbl c0 hb;have c1:=cbl c1 hb;have c2:=cbl c2 hb;have HSZ9:=hdd HBA.out.size;have HBA:=hdd (HBA.out.trans (hb.mono HBA.out.size));have HF:=hdd hz;have B9:=hdd (hbl HS9.out HBA.out);obtain⟨e0,e1,e2,e3,e4,e5⟩:=cells3 B9.out;clear hb hz))
   obtain⟨HFF,hFF⟩:=aK (HBB9.out.trans (HBA.out.mono HBB9.out.size)) (g:=w.heap.size+1) (by omega) B9.out HF.out (fun b hb=>by have:=HSZ.out;have:=HSZ9.out;have:=HS.out;omega);replace hFF:=hdd hFF;have HEQ:Hid (mkDy (sg b6 (val ys9)) (E+(k:Int))=aM x P dir):=hdd (by
    have h1:=HK.out;rw[HX3.out]at h1;rw[HRD.out,<-HX4.out,h1,Int.toNat_natCast,ho,<-HX3.out,HVY9.out];rfl)
   go_wp2;obtain⟨f0,f1,f2,-,-,-⟩:=cells3 hFF.out;refine bodyPost_ret (v:=.agg #[_,_,_]) (by simp[results,Tryz.results266,go_sem,f0,f1,f2];first|exact⟨rfl,rfl,rfl⟩|rfl) rfl ?_;rw[<-HEQ.out];exact HFF.out
theorem nS{dir:Int}{w:World}(hx:DyP p w va x)(hT:Tab w)(sx:SmD x)(hP:1<=P/\P<=65536):
 Calls Tryz.prog 266 #[va,.int .i64 P,.int .i64 dir] w (RetD w.heap.size w (aM x P dir)):=by
 by_cases hb:(bits (mkDy x.man x.exp).man.natAbs:Int)<=P
 . have:=adX (dir:=dir) hx hT sx hP hb
   unfold aM;rw[if_pos hb];exact this
 . exact zV hx hT sx hP hb
def BlP(p:Nat->Prop)(w:World)(v:Value)(d:Bl):Prop:=
 ∃b A n c b' A' n' c',v=.agg #[.bool b,.slice A n c,.int .i64 d.lo.exp,.bool b',.slice A' n' c',.int .i64 d.hi.exp]/\IntP p w (.agg #[.bool b,.slice A n c]) d.lo.man/\IntP p w (.agg #[.bool b',.slice A' n' c']) d.hi.man
def mH(B:Nat)(w0:World)(d:Bl)(e:Ending)(w':World):Prop:=Below B w0 w'/\∃v,e=.returned v/\BlP (fun b=>B<=b) w' v d
theorem BlP.below {w w':World}(h:BlP p w v d)(hb:Below w.heap.size w w'):BlP p w' v d:=by
 obtain⟨b,A,n,c,b',A',n',c',e,h1,h2⟩:=h;exact⟨b,A,n,c,b',A',n',c',e,h1.below hb,h2.below hb⟩
theorem BlP.weak {w:World}(h:BlP p w v d)(hq:∀b,p b->b<w.heap.size->q b):BlP q w v d:=by
 obtain⟨b,A,n,c,b',A',n',c',e,h1,h2⟩:=h;exact⟨b,A,n,c,b',A',n',c',e,h1.weak hq,h2.weak hq⟩
def sgB(x:Bl):Int:=if x.lo.man.sign=x.hi.man.sign then x.lo.man.sign else 0
def sgOk(x:Bl):Bool:=decide (x.lo.man.sign=x.hi.man.sign)
def SmB(b:Bl):Prop:=SmD b.lo/\SmD b.hi
theorem bK{w0 w1:World}{T:TypeId}{a b c d e f:Value}{c1 c2:Nat}{x:Bl}(hb:Below B w0 w1)(hg:B<=g)(hw:w1.heap[g]? =some (.cells #[a,b,c,d,e,f] T (0,0)))
 (h1:IntP q w1 (.agg #[.bool b1,.slice A1 n1 c1]) x.lo.man) (h2:IntP q w1 (.agg #[.bool b2,.slice A2 n2 c2]) x.hi.man) (hq:∀b,q b->B<=b/\b≠g):
 Hid (mH B w0 x (.returned (.agg #[.bool b1,.slice A1 n1 c1,.int .i64 x.lo.exp,.bool b2,.slice A2 n2 c2,.int .i64 x.hi.exp])) (put6 w1 g (.bool b1) (.slice A1 n1 c1) (.int .i64 x.lo.exp) (.bool b2) (.slice A2 n2 c2) (.int .i64 x.hi.exp)))/\
 (put6 w1 g (.bool b1) (.slice A1 n1 c1) (.int .i64 x.lo.exp) (.bool b2) (.slice A2 n2 c2) (.int .i64 x.hi.exp)).heap[g]? =some (.cells #[.bool b1,.slice A1 n1 c1,.int .i64 x.lo.exp,.bool b2,.slice A2 n2 c2,.int .i64 x.hi.exp] T (0,0)):=by
 refine⟨hdd ⟨eZ hb hg _ _ _ _ _ _,_,rfl,b1,A1,n1,c1,b2,A2,n2,c2,rfl,?_,?_⟩,iD hw _ _ _ _ _ _⟩
 . exact(iN h1 (fun b hb=>(hq b hb).2) _ _ _ _ _ _).weak fun b hb _=>(hq b hb).1
 . exact(iN h2 (fun b hb=>(hq b hb).2) _ _ _ _ _ _).weak fun b hb _=>(hq b hb).1
theorem ak5{w:World}(hx:DyP p w va x)(hT:Tab w)(sx:SmD x)(hc:mkDy x.man x.exp=x):
 Calls Tryz.prog 341 #[va] w (mH w.heap.size w (atB x)):=by
 obtain⟨ba,A,n,c,rfl,h⟩:=hx;obtain⟨w2,hw2,hb2,hs2,b1,b2⟩:=pro2 w (.cells #[Value.bool ba,.slice A n c,.int .i64 x.exp] 233) (.cells #[Value.bool false,Value.slice none 0 0,.int .i64 0,Value.bool false,Value.slice none 0 0,.int .i64 0] 235);have HB:=hdd hb2;have HS:=hdd hs2;have B2:=hdd b2;obtain⟨c0,c1,c2,-,-,-⟩:=cells3 b1;have HD:Hid (DyP p w2 (.agg #[.bool ba,.slice A n c,.int .i64 x.exp]) x):=hdd ⟨_,_,_,_,rfl,h.below hb2⟩;have HT2:=hdd (hT.below hb2);have HSM:Hid (∀w',Below w2.heap.size w2 w'->Calls Tryz.prog 359 #[.agg #[.bool ba,.slice A n c,.int .i64 x.exp]] w' (RetD w'.heap.size w' x)):=hdd fun w' h=>by
  have:=akY (HD.out.below h) (HT2.out.below h) sx;rwa[hc]at this
 clear h hb2 b1 b2 hs2 hT sx hc HD HT2;go_enter Tryz.func341,Tryz.ntmps341
 go_wp2_with fail
 have HBW:Below w2.heap.size w2 w2.drew:=(bgC _ _).drew;replace c0:=cbl c0 HBW;replace c1:=cbl c1 HBW;replace c2:=cbl c2 HBW;have n1:w.heap.size+1≠w.heap.size:=by omega
 have M1:True:=trivial
 go_region_held3 (fun w'=>w'.cell? ⟨w.heap.size,0,none⟩=some (.bool ba)/\w'.cell? ⟨w.heap.size,1,none⟩=some (.slice A n c)/\w'.cell? ⟨w.heap.size,2,none⟩=some (.int .i64 x.exp)) (go_keep)
  (first
  |(go_at_call 359
    clear M1
    with_reducible refine(HSM.out _ (by assumption)).mono ?_
    rintro r w3⟨hb,v3,hz⟩;obtain⟨rfl,hz⟩:=hz;obtain⟨b5,A5,n5,k5,rfl,hz⟩:=hz;have c0:=cbl c0 hb;have c1:=cbl c1 hb;have c2:=cbl c2 hb;have HSZ3:=hdd HBW.size;have HBW:=aA HBW hb;have HZ:=hdd hz;clear hb hz)
  |(go_at_call 359
    with_reducible refine(HSM.out _ (by assumption)).mono ?_
    rintro r w4⟨hb,v4,hz⟩;obtain⟨rfl,hz⟩:=hz;obtain⟨b6,A6,n6,k6,rfl,hz⟩:=hz;have c0:=cbl c0 hb;have c1:=cbl c1 hb;have c2:=cbl c2 hb;have HSZ4:=hdd HBW.size;have HBW:=aA HBW hb;have HZ4:=hdd hz;have HZ3:=hdd (HZ.out.below hb);have B24:=hdd (hbl B2.out HBW);obtain⟨e0,e1,e2,e3,e4,e5⟩:=aG B24.out;obtain⟨f0,f1,f2,f3,f4,f5⟩:=fV B24.out;clear hb hz))
 have hq:∀b,w2.heap.size<=b->w.heap.size<=b/\b≠w.heap.size+1:=fun b hb=>by have:=HS.out;omega
 obtain⟨HFF,hFF⟩:=bK (x:=atB x) (HB.out.trans (HBW.mono HB.out.size)) (g:=w.heap.size+1) (by omega) B24.out (HZ3.out.weak (q:=fun b=>w2.heap.size<=b) fun b hb _=>bgB HSZ3.out hb) (HZ4.out.weak (q:=fun b=>w2.heap.size<=b) fun b hb _=>bgB HSZ4.out hb) hq;dsimp only[atB]at HFF hFF;replace hFF:=hdd hFF;clear hq;go_wp2;obtain⟨f0,f1,f2,f3,f4,f5⟩:=aG hFF.out;unfold put6 at f0 f1 f2 f3 f4 f5;refine bodyPost_ret (v:=.agg #[_,_,_,_,_,_]) (by simp[results,Tryz.results341,go_sem,f0,f1,f2,f3,f4,f5];first|exact⟨rfl,rfl,rfl,rfl,rfl,rfl⟩|rfl) rfl ?_;exact HFF.out
theorem oI{x:Bl}{w:World}(hx:BlP p w va x):
 Calls Tryz.prog 296 #[va] w (rV w (sgB x) (sgOk x)):=by
 obtain⟨ba,A,n,c,bb,A',n',c',rfl,h,h'⟩:=hx;obtain⟨w1,hw1,hb1,hs1,b1⟩:=pro1 w (.cells #[Value.bool ba,.slice A n c,.int .i64 x.lo.exp,Value.bool bb,.slice A' n' c',.int .i64 x.hi.exp] 235);have HB:=hdd hb1;obtain⟨c0,c1,c2,c3,c4,c5⟩:=aG b1;have D1:Hid (DyP p w1 (.agg #[.bool ba,.slice A n c,.int .i64 x.lo.exp]) x.lo):=hdd ⟨_,_,_,_,rfl,h.below hb1⟩;have D2:Hid (DyP p w1 (.agg #[.bool bb,.slice A' n' c',.int .i64 x.hi.exp]) x.hi):=hdd ⟨_,_,_,_,rfl,h'.below hb1⟩;clear h h' hb1 b1 hs1;go_enter Tryz.func296,Tryz.ntmps296
 go_wp2_with fail
 refine(cO D1.out).mono ?_;rintro r w3⟨rfl,hb⟩;replace c0:=cbl c0 hb;replace c1:=cbl c1 hb;replace c2:=cbl c2 hb;replace c3:=cbl c3 hb;replace c4:=cbl c4 hb;replace c5:=cbl c5 hb;replace D2:=hdd (D2.out.below hb);replace HB:=hdd (HB.out.trans (hb.mono HB.out.size));clear hb hw1;go_wp2_with fail
 refine(cO D2.out).mono ?_;rintro r w4⟨rfl,hb⟩;have HBB:=hdd (HB.out.trans (hb.mono HB.out.size));clear hb D1 D2 HB;have HS1:Hid (sgB x=if x.lo.man.sign=x.hi.man.sign then x.lo.man.sign else 0):=hdd rfl;have HS2:Hid (sgOk x=decide (x.lo.man.sign=x.hi.man.sign)):=hdd rfl;generalize sgB x=g1 at*;generalize sgOk x=g2 at*;generalize x.lo.man.sign=s1 at*;generalize x.hi.man.sign=s2 at*;by_cases he:s1=s2
 . subst he
   have hne:(s1 != s1)=false:=by simp
   have HF:Hid (rV w g1 g2 (.returned (.tuple #[.int .i64 s1,.bool true])) w4):=hdd (by rw[HS1.out,HS2.out,if_pos rfl,decide_eq_true rfl];exact⟨rfl,HBB.out⟩);go_wp2
   go_ret2
   exact HF.out
 . have hne:(s1 != s2)=true:=by simp[he]
   have HF:Hid (rV w g1 g2 (.returned (.tuple #[.int .i64 0,.bool false])) w4):=hdd (by rw[HS1.out,HS2.out,if_neg he,decide_eq_false he];exact⟨rfl,HBB.out⟩);go_wp2
   go_ret2
   exact HF.out
theorem ag7{x:Bl}{w:World}(hx:BlP p w va x)(hT:Tab w)(sx:SmB x):
 Calls Tryz.prog 342 #[va] w (mH w.heap.size w (notB x)):=by
 obtain⟨ba,A,n,c,bb,A',n',c',rfl,h,h'⟩:=hx;obtain⟨w2,hw2,hb2,hs2,b1,b2⟩:=pro2 w (.cells #[Value.bool ba,.slice A n c,.int .i64 x.lo.exp,Value.bool bb,.slice A' n' c',.int .i64 x.hi.exp] 235) (.cells #[Value.bool false,Value.slice none 0 0,.int .i64 0,Value.bool false,Value.slice none 0 0,.int .i64 0] 235);have HB:=hdd hb2;have HS:=hdd hs2;have B2:=hdd b2;obtain⟨c0,c1,c2,c3,c4,c5⟩:=aG b1;have D1:Hid (DyP p w2 (.agg #[.bool ba,.slice A n c,.int .i64 x.lo.exp]) x.lo):=hdd ⟨_,_,_,_,rfl,h.below hb2⟩;have D2:Hid (DyP p w2 (.agg #[.bool bb,.slice A' n' c',.int .i64 x.hi.exp]) x.hi):=hdd ⟨_,_,_,_,rfl,h'.below hb2⟩;have HT2:=hdd (hT.below hb2);have HN2:Hid (∀w',Below w2.heap.size w2 w'->Calls Tryz.prog 214 #[.agg #[.bool bb,.slice A' n' c',.int .i64 x.hi.exp]] w' (RetD w'.heap.size w' (notD x.hi))):=hdd fun w' h=>vT (D2.out.below h) (HT2.out.below h) (by have:=sx.2.1;omega) (by have:=sx.2.2;omega);have HN1:Hid (∀w',Below w2.heap.size w2 w'->Calls Tryz.prog 214 #[.agg #[.bool ba,.slice A n c,.int .i64 x.lo.exp]] w' (RetD w'.heap.size w' (notD x.lo))):=hdd fun w' h=>vT (D1.out.below h) (HT2.out.below h) (by have:=sx.1.1;omega) (by have:=sx.1.2;omega)
 clear h h' hb2 b1 b2 hs2 hT sx D1 D2 HT2;go_enter Tryz.func342,Tryz.ntmps342
 go_wp2_with fail
 have HBW:Below w2.heap.size w2 w2.drew:=(bgC _ _).drew;replace c0:=cbl c0 HBW;replace c1:=cbl c1 HBW;replace c2:=cbl c2 HBW;replace c3:=cbl c3 HBW;replace c4:=cbl c4 HBW;replace c5:=cbl c5 HBW;have n1:w.heap.size+1≠w.heap.size:=by omega
 have M1:True:=trivial
 go_region_held3 (fun w'=>w'.cell? ⟨w.heap.size,0,none⟩=some (.bool ba)/\w'.cell? ⟨w.heap.size,1,none⟩=some (.slice A n c)/\w'.cell? ⟨w.heap.size,2,none⟩=some (.int .i64 x.lo.exp)/\w'.cell? ⟨w.heap.size,3,none⟩=some (.bool bb)/\w'.cell? ⟨w.heap.size,4,none⟩=some (.slice A' n' c')/\w'.cell? ⟨w.heap.size,5,none⟩=some (.int .i64 x.hi.exp)) (go_keep)
  (first
  |(go_at_call 214
    clear M1
    with_reducible refine(HN2.out _ (by assumption)).mono ?_
    rintro r w3⟨hb,v3,hz⟩;obtain⟨rfl,hz⟩:=hz;obtain⟨b5,A5,n5,k5,rfl,hz⟩:=hz;have c0:=cbl c0 hb;have c1:=cbl c1 hb;have c2:=cbl c2 hb;have c3:=cbl c3 hb;have c4:=cbl c4 hb;have c5:=cbl c5 hb;have HSZ3:=hdd HBW.size;have HBW:=aA HBW hb;have HZ:=hdd hz;clear hb hz)
  |(go_at_call 214
    with_reducible refine(HN1.out _ (by assumption)).mono ?_
    rintro r w4⟨hb,v4,hz⟩;obtain⟨rfl,hz⟩:=hz;obtain⟨b6,A6,n6,k6,rfl,hz⟩:=hz;have c0:=cbl c0 hb;have c1:=cbl c1 hb;have c2:=cbl c2 hb;have c3:=cbl c3 hb;have c4:=cbl c4 hb;have c5:=cbl c5 hb;have HSZ4:=hdd HBW.size;have HBW:=aA HBW hb;have HZ4:=hdd hz;have HZ3:=hdd (HZ.out.below hb);have B24:=hdd (hbl B2.out HBW);obtain⟨e0,e1,e2,e3,e4,e5⟩:=aG B24.out;obtain⟨f0,f1,f2,f3,f4,f5⟩:=fV B24.out;clear hb hz))
 have hq:∀b,w2.heap.size<=b->w.heap.size<=b/\b≠w.heap.size+1:=fun b hb=>by have:=HS.out;omega
 obtain⟨HFF,hFF⟩:=bK (x:=notB x) (HB.out.trans (HBW.mono HB.out.size)) (g:=w.heap.size+1) (by omega) B24.out (HZ3.out.weak (q:=fun b=>w2.heap.size<=b) fun b hb _=>bgB HSZ3.out hb) (HZ4.out.weak (q:=fun b=>w2.heap.size<=b) fun b hb _=>bgB HSZ4.out hb) hq;dsimp only[notB]at HFF hFF;replace hFF:=hdd hFF;clear hq;go_wp2;obtain⟨f0,f1,f2,f3,f4,f5⟩:=aG hFF.out;unfold put6 at f0 f1 f2 f3 f4 f5;refine bodyPost_ret (v:=.agg #[_,_,_,_,_,_]) (by simp[results,Tryz.results342,go_sem,f0,f1,f2,f3,f4,f5];first|exact⟨rfl,rfl,rfl,rfl,rfl,rfl⟩|rfl) rfl ?_;exact HFF.out
theorem yK{vb:Value}{x y:Bl}{w:World}(hx:BlP p w va x)(hy:BlP q w vb y)(hp:∀b,p b->b<w.heap.size)(hq:∀b,q b->b<w.heap.size)(hT:Tab w)(sx:SmB x)(sy:SmB y)(s1:SmD (addD x.lo y.lo))(s2:SmD (addD x.hi y.hi))(hP:1<=P/\P<=65536):
 Calls Tryz.prog 343 #[va,vb,.int .i64 P] w (mH w.heap.size w (addB x y P)):=by
 obtain⟨ba,A,n,c,bb,A',n',c',rfl,h1,h2⟩:=hx;obtain⟨bd,E,m,k,be,E',m',k',rfl,h3,h4⟩:=hy;obtain⟨w3,hw3,hb3,hs3,b1,b2,b3⟩:=pro3 w (.cells #[Value.bool ba,.slice A n c,.int .i64 x.lo.exp,Value.bool bb,.slice A' n' c',.int .i64 x.hi.exp] 235) (.cells #[Value.bool bd,.slice E m k,.int .i64 y.lo.exp,Value.bool be,.slice E' m' k',.int .i64 y.hi.exp] 235) (.cells #[Value.bool false,Value.slice none 0 0,.int .i64 0,Value.bool false,Value.slice none 0 0,.int .i64 0] 235);have HB:=hdd hb3;have HS:=hdd hs3;have B3:=hdd b3;obtain⟨c0,c1,c2,c3,c4,c5⟩:=aG b1;obtain⟨d0,d1,d2,d3,d4,d5⟩:=aG b2;have hpp:∀{p:Nat->Prop},(∀b,p b->b<w.heap.size)->∀w',Below w3.heap.size w3 w'->∀b,p b->b<w'.heap.size:=fun hp w' h b hb=>by have:=hp b hb;have:=h.size;omega
 have HT2:=hdd (hT.below hb3);have HA1:Hid (∀w',Below w3.heap.size w3 w'->Calls Tryz.prog 271 #[.agg #[.bool ba,.slice A n c,.int .i64 x.lo.exp],.agg #[.bool bd,.slice E m k,.int .i64 y.lo.exp]] w' (RetD w'.heap.size w' (addD x.lo y.lo))):=
  hdd fun w' h=>ab1 (p:=p) (q:=q) (x:=x.lo) (y:=y.lo) ⟨_,_,_,_,rfl,(h1.below hb3).below h⟩ ⟨_,_,_,_,rfl,(h3.below hb3).below h⟩ (HT2.out.below h) (hpp hp w' h) (hpp hq w' h) sx.1 sy.1
 have HA2:Hid (∀w',Below w3.heap.size w3 w'->Calls Tryz.prog 271 #[.agg #[.bool bb,.slice A' n' c',.int .i64 x.hi.exp],.agg #[.bool be,.slice E' m' k',.int .i64 y.hi.exp]] w' (RetD w'.heap.size w' (addD x.hi y.hi))):=
  hdd fun w' h=>ab1 (p:=p) (q:=q) (x:=x.hi) (y:=y.hi) ⟨_,_,_,_,rfl,(h2.below hb3).below h⟩ ⟨_,_,_,_,rfl,(h4.below hb3).below h⟩ (HT2.out.below h) (hpp hp w' h) (hpp hq w' h) sx.2 sy.2
 have HR:Hid (∀(w':World) (v:Value) (B:Nat) (dir:Int) (z:Dy),SmD z->Below w3.heap.size w3 w'->DyP (fun b=>B<=b) w' v z->Calls Tryz.prog 266 #[v,.int .i64 P,.int .i64 dir] w' (RetD w'.heap.size w' (aM z P dir))):=hdd fun w' v B dir z hz h hv=>
  nS (dir:=dir) hv (HT2.out.below h) hz hP
 have HS1:=hdd s1;have HS2:=hdd s2;clear h1 h2 h3 h4 hb3 b1 b2 b3 hs3 hT sx sy s1 s2 hP hp hq hpp HT2;go_enter Tryz.func343,Tryz.ntmps343
 go_wp2_with fail
 have HBW:Below w3.heap.size w3 w3.drew:=(bgC _ _).drew;replace c0:=cbl c0 HBW;replace c1:=cbl c1 HBW;replace c2:=cbl c2 HBW;replace c3:=cbl c3 HBW;replace c4:=cbl c4 HBW;replace c5:=cbl c5 HBW;replace d0:=cbl d0 HBW;replace d1:=cbl d1 HBW;replace d2:=cbl d2 HBW;replace d3:=cbl d3 HBW;replace d4:=cbl d4 HBW;replace d5:=cbl d5 HBW;have n1:w.heap.size+1+1≠w.heap.size:=by omega
 have n2:w.heap.size+1+1≠w.heap.size+1:=by omega
 have M1:True:=trivial;have M2:True:=trivial
 go_region_held3 (fun w'=>w'.cell? ⟨w.heap.size,0,none⟩=some (.bool ba)/\w'.cell? ⟨w.heap.size,1,none⟩=some (.slice A n c)/\w'.cell? ⟨w.heap.size,2,none⟩=some (.int .i64 x.lo.exp)/\w'.cell? ⟨w.heap.size,3,none⟩=some (.bool bb)/\w'.cell? ⟨w.heap.size,4,none⟩=some (.slice A' n' c')/\w'.cell? ⟨w.heap.size,5,none⟩=some (.int .i64 x.hi.exp)/\w'.cell? ⟨w.heap.size+1,0,none⟩=some (.bool bd)/\w'.cell? ⟨w.heap.size+1,1,none⟩=some (.slice E m k)/\w'.cell? ⟨w.heap.size+1,2,none⟩=some (.int .i64 y.lo.exp)/\w'.cell? ⟨w.heap.size+1,3,none⟩=some (.bool be)/\w'.cell? ⟨w.heap.size+1,4,none⟩=some (.slice E' m' k')/\w'.cell? ⟨w.heap.size+1,5,none⟩=some (.int .i64 y.hi.exp)) (go_keep)
  (first
  |(go_at_call 271
    clear M1
    with_reducible refine(HA1.out _ (by assumption)).mono ?_
    rintro r w4⟨hb,v4,hz⟩;obtain⟨rfl,hz⟩:=hz;obtain⟨b4,A4,n4,k4,rfl,hz⟩:=hz;have c0:=cbl c0 hb;have c1:=cbl c1 hb;have c2:=cbl c2 hb;have c3:=cbl c3 hb;have c4:=cbl c4 hb;have c5:=cbl c5 hb;have d0:=cbl d0 hb;have d1:=cbl d1 hb;have d2:=cbl d2 hb;have d3:=cbl d3 hb;have d4:=cbl d4 hb;have d5:=cbl d5 hb;have HBW:=aA HBW hb;have HRA:=hdd (HR.out _ _ _ (-1) _ HS1.out HBW ⟨b4,A4,n4,k4,rfl,hz⟩);clear hb hz)
  |(go_at_call 266
    clear M2;refine HRA.out.mono ?_;rintro r w5⟨hb,v5,hz⟩;obtain⟨rfl,hz⟩:=hz;obtain⟨b5,A5,n5,k5,rfl,hz⟩:=hz;have c0:=cbl c0 hb;have c1:=cbl c1 hb;have c2:=cbl c2 hb;have c3:=cbl c3 hb;have c4:=cbl c4 hb;have c5:=cbl c5 hb;have d0:=cbl d0 hb;have d1:=cbl d1 hb;have d2:=cbl d2 hb;have d3:=cbl d3 hb;have d4:=cbl d4 hb;have d5:=cbl d5 hb;have HSZ5:=hdd HBW.size;have HBW:=aA HBW hb;have HZ5:=hdd hz;clear hb hz)
  |(go_at_call 271
    with_reducible refine(HA2.out _ (by assumption)).mono ?_
    rintro r w6⟨hb,v6,hz⟩;obtain⟨rfl,hz⟩:=hz;obtain⟨b6,A6,n6,k6,rfl,hz⟩:=hz;have c0:=cbl c0 hb;have c1:=cbl c1 hb;have c2:=cbl c2 hb;have c3:=cbl c3 hb;have c4:=cbl c4 hb;have c5:=cbl c5 hb;have d0:=cbl d0 hb;have d1:=cbl d1 hb;have d2:=cbl d2 hb;have d3:=cbl d3 hb;have d4:=cbl d4 hb;have d5:=cbl d5 hb;have HBW:=aA HBW hb;have HZ6:=hdd (HZ5.out.below hb);have HRB:=hdd (HR.out _ _ _ 1 _ HS2.out HBW ⟨b6,A6,n6,k6,rfl,hz⟩);clear hb hz)
  |(go_at_call 266
    refine HRB.out.mono ?_;rintro r w7⟨hb,v7,hz⟩;obtain⟨rfl,hz⟩:=hz;obtain⟨b7,A7,n7,k7,rfl,hz⟩:=hz;have c0:=cbl c0 hb;have c1:=cbl c1 hb;have c2:=cbl c2 hb;have c3:=cbl c3 hb;have c4:=cbl c4 hb;have c5:=cbl c5 hb;have d0:=cbl d0 hb;have d1:=cbl d1 hb;have d2:=cbl d2 hb;have d3:=cbl d3 hb;have d4:=cbl d4 hb;have d5:=cbl d5 hb;have HSZ7:=hdd HBW.size;have HBW:=aA HBW hb;have HZ7:=hdd hz;have HZ8:=hdd (HZ6.out.below hb);have B37:=hdd (hbl B3.out HBW);obtain⟨e0,e1,e2,e3,e4,e5⟩:=aG B37.out;obtain⟨f0,f1,f2,f3,f4,f5⟩:=fV B37.out;clear hb hz))
 have hq:∀b,w3.heap.size<=b->w.heap.size<=b/\b≠w.heap.size+2:=fun b hb=>by have:=HS.out;omega
 obtain⟨HFF,hFF⟩:=bK (x:=addB x y P) (HB.out.trans (HBW.mono HB.out.size)) (g:=w.heap.size+2) (by omega) B37.out (HZ8.out.weak (q:=fun b=>w3.heap.size<=b) fun b hb _=>bgB HSZ5.out hb) (HZ7.out.weak (q:=fun b=>w3.heap.size<=b) fun b hb _=>bgB HSZ7.out hb) hq;dsimp only[addB]at HFF hFF;replace hFF:=hdd hFF;clear hq;go_wp2;obtain⟨f0,f1,f2,f3,f4,f5⟩:=aG hFF.out;unfold put6 at f0 f1 f2 f3 f4 f5;refine bodyPost_ret (v:=.agg #[_,_,_,_,_,_]) (by simp[results,Tryz.results343,go_sem,f0,f1,f2,f3,f4,f5];first|exact⟨rfl,rfl,rfl,rfl,rfl,rfl⟩|rfl) rfl ?_;exact HFF.out
theorem apC(a0 a1 a2 a3 a4 a5 a6 a7 a8:Value)(w:World):(Instr.index 444 (.agg #[a0,a1,a2,a3,a4,a5,a6,a7,a8]) (.int .i64 0)).run Tryz.prog w=.ok (.agg #[a0,a1,a2]) w:=by kernel_rfl
theorem apD(a0 a1 a2 a3 a4 a5 a6 a7 a8:Value)(w:World):(Instr.index 444 (.agg #[a0,a1,a2,a3,a4,a5,a6,a7,a8]) (.int .i64 1)).run Tryz.prog w=.ok (.agg #[a3,a4,a5]) w:=by kernel_rfl
theorem apE(a0 a1 a2 a3 a4 a5 a6 a7 a8:Value)(w:World):(Instr.index 444 (.agg #[a0,a1,a2,a3,a4,a5,a6,a7,a8]) (.int .i64 2)).run Tryz.prog w=.ok (.agg #[a6,a7,a8]) w:=by kernel_rfl
def put3(w:World)(g:Nat)(b:Bool)(A:Option Addr)(n c:Nat)(e:Int):World:=((w.setCell ⟨g,0,none⟩ (.bool b)).setCell ⟨g,1,none⟩ (.slice A n c)).setCell ⟨g,2,none⟩ (.int .i64 e)
abbrev NG(gl gh:Nat):Nat->Prop:=fun b=>b≠gl/\b≠gh
def HasQ(S:Nat->Prop)(w:World)(g:Nat)(z:Dy):Prop:=∃b A n c,w.heap[g]? =some (.cells #[.bool b,.slice A n c,.int .i64 z.exp] 233 (0,0))/\IntP S w (.agg #[.bool b,.slice A n c]) z.man
theorem HasQ.below {w w':World}{z:Dy}(h:HasQ S w g z)(hb:Below w.heap.size w w'):HasQ S w' g z:=by
 obtain⟨b,A,n,c,h1,h2⟩:=h;exact⟨b,A,n,c,hbl h1 hb,h2.below hb⟩
theorem HasQ.lt {w:World}{z:Dy}(h:HasQ S w g z):g<w.heap.size:=by
 obtain⟨b,A,n,c,h1,h2⟩:=h;exact aD h1
theorem dO{w:World}{z:Int}(h:IntP p w v z)(hp:∀b,p b->b≠g)(b:Bool)(A:Option Addr)(n c:Nat)(e:Int):IntP p (put3 w g b A n c e) v z:=
 ((h.setCell (a:=⟨g,0,none⟩) hp _).setCell (a:=⟨g,1,none⟩) hp _).setCell (a:=⟨g,2,none⟩) hp _
theorem bM{w0 w:World}(h:Below B w0 w)(hg:B<=g)(b:Bool)(A:Option Addr)(n c:Nat)(e:Int):Below B w0 (put3 w g b A n c e):=((h.setCell hg _).setCell hg _).setCell hg _
theorem ag8{w:World}{b:Bool}{A:Option Addr}{n c:Nat}{e:Int}:(put3 w g b A n c e).heap.size=w.heap.size:=by simp[put3,World.setCell]
structure LS(w0 w:World)(gl gh:Nat)(zl zh:Dy):Prop where
 below:Below w0.heap.size w0 w
 lo:HasQ (NG gl gh) w gl zl
 hi:HasQ (NG gl gh) w gh zh
 ne:gl≠gh
 bl:w0.heap.size<=gl
 bh:w0.heap.size<=gh
section
variable{w0 w w':World}{gl gh:Nat}{zl zh z:Dy}{b:Bool}{A:Option Addr}{n c:Nat}
theorem LS.step (h:LS w0 w gl gh zl zh)(hb:Below w.heap.size w w'):LS w0 w' gl gh zl zh:=
 ⟨aA h.below hb,h.lo.below hb,h.hi.below hb,h.ne,h.bl,h.bh⟩
theorem LS.setLo (h:LS w0 w gl gh zl zh)(hx:IntP (NG gl gh) w (.agg #[.bool b,.slice A n c]) z.man):LS w0 (put3 w gl b A n c z.exp) gl gh z zh:=by
 obtain⟨b',A',n',c',h1,-⟩:=h.lo;obtain⟨b2,A2,n2,c2,k1,k2⟩:=h.hi;exact⟨bM h.below h.bl b A n c z.exp,⟨b,A,n,c,set3 h1 _ _ _,dO hx (fun b hb=>hb.1) b A n c z.exp⟩,⟨b2,A2,n2,c2,(bX h.ne _ _ _).trans k1,dO k2 (fun b hb=>hb.1) b A n c z.exp⟩,h.ne,h.bl,h.bh⟩
theorem LS.setHi (h:LS w0 w gl gh zl zh)(hx:IntP (NG gl gh) w (.agg #[.bool b,.slice A n c]) z.man):LS w0 (put3 w gh b A n c z.exp) gl gh zl z:=by
 obtain⟨b',A',n',c',h1,-⟩:=h.hi;obtain⟨b2,A2,n2,c2,k1,k2⟩:=h.lo;exact⟨bM h.below h.bh b A n c z.exp,⟨b2,A2,n2,c2,(bX (Ne.symm h.ne) _ _ _).trans k1,dO k2 (fun b hb=>hb.2) b A n c z.exp⟩,⟨b,A,n,c,set3 h1 _ _ _,dO hx (fun b hb=>hb.2) b A n c z.exp⟩,h.ne,h.bl,h.bh⟩
theorem LS.ng (h:LS w0 w gl gh zl zh)(hB:w.heap.size<=B):∀b,B<=b->NG gl gh b:=fun b hb=>by
 have:=h.lo.lt;have:=h.hi.lt;exact⟨by omega,by omega⟩
end
theorem zW{k1 k2:Nat}{y:Dy}{w:World}(h:IntP p w (.agg #[.bool b1,.slice A1 n1 k1]) x.man)(h':IntP q w (.agg #[.bool b2,.slice A2 n2 k2]) y.man)(sx:SmD x)(sy:SmD y):
 Calls Tryz.prog 153 #[.agg #[.bool b1,.slice A1 n1 k1,.int .i64 x.exp],.agg #[.bool b2,.slice A2 n2 k2,.int .i64 y.exp]] w (RetK w (cmpD x y)):=
 akV (p:=fun b=>b<w.heap.size) (q:=fun b=>b<w.heap.size) ⟨_,_,_,_,rfl,h.weak fun b _ h=>h⟩ ⟨_,_,_,_,rfl,h'.weak fun b _ h=>h⟩ (fun b hb=>hb) (fun b hb=>hb) sx sy
theorem newv(w:World)(b:Bool)(A:Option Addr)(n c:Nat)(e:Int):∃t w',w.alloc (.cells #[Value.bool false,Value.slice none 0 0,.int .i64 0] 233)=t/\(t.cell? ⟨w.heap.size,0,none⟩=some (.bool false)/\t.cell? ⟨w.heap.size,1,none⟩=some (.slice none 0 0)/\t.cell? ⟨w.heap.size,2,none⟩=some (.int .i64 0)/\t.frozen? ⟨w.heap.size,0,none⟩=false/\t.frozen? ⟨w.heap.size,1,none⟩=false/\t.frozen? ⟨w.heap.size,2,none⟩=false)/\
 ((t.setCell ⟨w.heap.size,0,none⟩ (.bool b)).setCell ⟨w.heap.size,1,none⟩ (.slice A n c)).setCell ⟨w.heap.size,2,none⟩ (.int .i64 e)=w'/\Hid (w'.heap[w.heap.size]? =some (.cells #[.bool b,.slice A n c,.int .i64 e] 233 (0,0)))/\Below w.heap.size w w':=by
 obtain⟨t,ht,hb,-,q⟩:=pro1 w (.cells #[Value.bool false,Value.slice none 0 0,.int .i64 0] 233);exact⟨t,_,ht,cells3 q,rfl,hdd (set3 q _ _ _),bM hb nlr b A n c e⟩
section
variable{w0 w:World}{gl gh:Nat}{zl zh z:Dy}{b:Bool}{A:Option Addr}{n c:Nat}
theorem LS.lo1 (h:LS w0 w gl gh zl zh)(hx:IntP (NG gl gh) w (.agg #[.bool b,.slice A n c]) z.man):∃(u:Bool) (v:Option Addr) (t p:Nat) (q:Int) (w':World),(w.cell? ⟨gl,0,none⟩=some (.bool u)/\w.cell? ⟨gl,1,none⟩=some (.slice v t p)/\w.cell? ⟨gl,2,none⟩=some (.int .i64 q)/\w.frozen? ⟨gl,0,none⟩=false/\w.frozen? ⟨gl,1,none⟩=false/\w.frozen? ⟨gl,2,none⟩=false)/\((w.setCell ⟨gl,0,none⟩ (.bool b)).setCell ⟨gl,1,none⟩ (.slice A n c)).setCell ⟨gl,2,none⟩ (.int .i64 z.exp)=w'/\Hid (LS w0 w' gl gh z zh)/\(∀v k,IntP (NG gl gh) w v k->IntP (NG gl gh) w' v k)/\∀g,gl≠g->w'.heap[g]? =w.heap[g]? :=by
 obtain⟨b',A',n',c',h1,-⟩:=h.lo;exact⟨_,_,_,_,_,_,cells3 h1,rfl,hdd (h.setLo hx),fun v k hv=>dO hv (fun b hb=>hb.1) _ _ _ _ _,fun g hg=>bX hg _ _ _⟩
theorem LS.hi1 (h:LS w0 w gl gh zl zh)(hx:IntP (NG gl gh) w (.agg #[.bool b,.slice A n c]) z.man):∃(u:Bool) (v:Option Addr) (t p:Nat) (q:Int) (w':World),(w.cell? ⟨gh,0,none⟩=some (.bool u)/\w.cell? ⟨gh,1,none⟩=some (.slice v t p)/\w.cell? ⟨gh,2,none⟩=some (.int .i64 q)/\w.frozen? ⟨gh,0,none⟩=false/\w.frozen? ⟨gh,1,none⟩=false/\w.frozen? ⟨gh,2,none⟩=false)/\((w.setCell ⟨gh,0,none⟩ (.bool b)).setCell ⟨gh,1,none⟩ (.slice A n c)).setCell ⟨gh,2,none⟩ (.int .i64 z.exp)=w'/\Hid (LS w0 w' gl gh zl z)/\(∀v k,IntP (NG gl gh) w v k->IntP (NG gl gh) w' v k)/\∀g,gh≠g->w'.heap[g]? =w.heap[g]? :=by
 obtain⟨b',A',n',c',h1,-⟩:=h.hi;exact⟨_,_,_,_,_,_,cells3 h1,rfl,hdd (h.setHi hx),fun v k hv=>dO hv (fun b hb=>hb.2) _ _ _ _ _,fun g hg=>bX hg _ _ _⟩
end
end Go.Proofs.YtigoiiekebccnaaGreatDoor
