/- A part of the proof: contracts of functions and plain laws (BlS, DyV, DyW, BaA, BaB). -/
import Derived.Test.YtkpodipoegbclaaGreatDoorK21
import Derived.Test.YtkpodipoegbclaaGreatDoorK20
set_option linter.unusedVariables false
set_option linter.unusedSimpArgs false
set_option maxHeartbeats 25600000
set_option maxRecDepth 100000
namespace Go.Proofs.YtkpodipoegbclaaGreatDoor
section
variable{a b r:Bl}{d x y:Dy}{B C E F P:Int}
def Sz(B E:Int)(d:Dy):Prop:=Canon d/\(bits d.man.natAbs:Int)<=B/\(d.man≠0->-E<=d.exp/\topD d<=E)
def SzB(B E:Int)(b:Bl):Prop:=Sz B E b.lo/\Sz B E b.hi
theorem Sz.mono (h:Sz B E d)(hB:B<=C)(hE:E<=F):Sz C F d:=
 ⟨h.1,by have:=h.2.1;omega,fun hn=>by have:=h.2.2 hn;omega⟩
theorem SzB.mono (h:SzB B E b)(hB:B<=C)(hE:E<=F):SzB C F b:=⟨h.1.mono hB hE,h.2.mono hB hE⟩
theorem Sz.zero (hB:0<=B):Sz B E ⟨0,0⟩:=⟨aU 0,by show((bits 0:Nat):Int)<=B;have:bits 0=0:=rfl;omega,fun h=>absurd rfl h⟩
theorem lG(h:d.man≠0):d.exp+1<=topD d:=by
 unfold topD;rw[if_neg h];have:bits d.man.natAbs≠0:=fun h'=>h (by have:=(bN _).1 h';omega);omega
theorem Sz.lt (h:Sz B E d):-p2 E<rv d/\rv d<p2 E:=by
 by_cases hn:d.man=0
 . have e0:rv d=0:=(aX d).2.2.2 hn
   have:=bD E;rw[e0];constructor<;>grind
 . have h1:=ajR d
   have h2:=iL (h.2.2 hn).2;constructor<;>grind
theorem qW(hn:d.man≠0)(h1:-p2 E<rv d)(h2:rv d<p2 E):topD d<=E:=by
 have h3:p2 (topD d-1)<p2 E:=by rcases qU d hn with h|h<;>grind
 have:=agF.1 h3;omega
theorem mF{x e:Int}(h:(mkDy x e).man≠0):e<=(mkDy x e).exp:=by
 rcases iD x e with ⟨h1,h2⟩|⟨h1,h2,h3,h4⟩
 . rw[h1]at h;exact absurd rfl h
 . exact h3
theorem vT{a:Dy}(dir:Int)(hP:1<=P)(h:(mkDy a.man a.exp).man≠0->-E<=(mkDy a.man a.exp).exp/\topD (mkDy a.man a.exp)<=E):Sz P (E+1) (aM a P dir):=by
 obtain⟨k1,k2,k3⟩:=vP (a:=a) dir hP;refine⟨k1,k2,fun hn=> ?_⟩;obtain⟨j1,j2⟩:=k3 hn;by_cases h0:(mkDy a.man a.exp).man=0
 . exfalso;apply hn
   have h1:a.man=0:=by
    rcases iD a.man a.exp with ⟨g1,g2⟩|⟨g1,g2,-⟩
    . exact g2
    . exact absurd h0 g2
   unfold aM;rw[h1,aU,if_pos (by show((bits 0:Nat):Int)<=P;have:bits 0=0:=rfl;omega)]
 . have:=h h0
   omega
theorem adJ(x y:Dy):Canon (addD x y):=by
 unfold addD;split
 . exact Canon.mk _ _
 . split<;>exact Canon.mk _ _
theorem ajV(dir:Int)(hP:1<=P)(h:Sz B E x)(k:Sz C F y):Sz P (max E F+2) (aM (addD x y) P dir):=by
 refine Sz.mono (vT (E:=max E F+1) dir hP ?_) (Int.le_refl _) (by omega);rw[show mkDy (addD x y).man (addD x y).exp=addD x y from adJ x y];intro hn;constructor
 . by_cases hx:x.man=0
   . have e:addD x y=mkDy y.man y.exp:=by unfold addD;rw[if_pos hx]
     rw[e]at hn|-;have h1:=mF hn;have hy:y.man≠0:=fun hy=>hn (by rw[hy,aU]);have:=(k.2.2 hy).1;omega
   . by_cases hy:y.man=0
     . have e:addD x y=mkDy x.man x.exp:=by unfold addD;rw[if_neg hx,if_pos hy]
       rw[e]at hn|-;have h1:=mF hn;have:=(h.2.2 hx).1;omega
     . have e:addD x y=mkDy (dG x y+dH x y) (min x.exp y.exp):=by unfold addD;rw[if_neg hx,if_neg hy]
       rw[e]at hn|-;have h1:=mF hn;have:=(h.2.2 hx).1;have:=(k.2.2 hy).1;omega
 . have h1:=h.lt;have h2:=k.lt
   have h3:=iL (show E<=max E F by omega);have h4:=iL (show F<=max E F by omega);have h5:=gH (max E F);refine qW hn ?_ ?_<;>rw[zN]<;>grind
theorem mul_lt{x y X Y:Rat}(h1:-X<x)(h2:x<X)(h3:-Y<y)(h4:y<Y):-(X*Y)<x*y/\x*y<X*Y:=yS h1 h2 h3 h4
theorem sV(h:Sz B E x)(k:Sz C F y)(hn:(mulD x y).man≠0):-(E+F)<=(mulD x y).exp/\topD (mulD x y)<=E+F:=by
 have hx:x.man≠0:=fun hx=>hn (by unfold mulD;rw[hx,Int.zero_mul,aU]);have hy:y.man≠0:=fun hy=>hn (by unfold mulD;rw[hy,Int.mul_zero,aU]);constructor
 . have h1:x.exp+y.exp<=(mulD x y).exp:=mF hn
   have:=(h.2.2 hx).1;have:=(k.2.2 hy).1;omega
 . have h1:=h.lt;have h2:=k.lt
   have:=mul_lt h1.1 h1.2 h2.1 h2.2;rw[<-bY]at this;exact qW hn (by rw[zO];exact this.1) (by rw[zO];exact this.2)
theorem anF(hP:1<=P)(h:SzB B E a)(k:SzB C F b):SzB P (E+F+1) (mulB a b P):=by
 have key:∀m:Dy,(m=mulD a.hi b.hi\/m=mulD a.hi b.lo\/m=mulD a.lo b.hi\/m=mulD a.lo b.lo)->(mkDy m.man m.exp).man≠0->-(E+F)<=(mkDy m.man m.exp).exp/\topD (mkDy m.man m.exp)<=E+F:=by
  intro m hm hn;have hc:mkDy m.man m.exp=m:=by rcases hm with hm|hm|hm|hm<;>rw[hm]<;>exact Canon.mk _ _
  rw[hc]at hn|-;rcases hm with hm|hm|hm|hm<;>rw[hm]at hn|-
  . exact sV h.2 k.2 hn
  . exact sV h.2 k.1 hn
  . exact sV h.1 k.2 hn
  . exact sV h.1 k.1 hn
 exact⟨vT (-1) hP (key _ (pX _ _ _ _).2.2.2.2),vT 1 hP (key _ (pY _ _ _ _).2.2.2.2)⟩
theorem sW(dir:Int)(hP:1<=P)(h:Sz B E x)(k:Sz C F y)(hy:y.man≠0):Sz P (E+F+P+4) (quoD x y P dir):=by
 obtain⟨k1,k2,k3⟩:=abQ x y dir hP hy;refine⟨k1,k2,fun hn=> ?_⟩;have hx:x.man≠0:=fun hx=>hn (by unfold quoD;rw[if_pos hx]);obtain⟨j1,j2⟩:=k3 hn;have:=h.2.2 hx;have:=k.2.2 hy;have:=lG hx;have:=lG hy;omega
theorem anG(hP:1<=P)(h:SzB B E a)(k:SzB C F b)(hr:quoB a b P=some r):SzB P (E+F+P+4) r:=by
 unfold quoB at hr
 split at hr
 . rename_i hs
   injection hr with hr;subst hr;have n1:b.lo.man≠0:=by rcases jG hs with g|g<;>omega
   have n2:b.hi.man≠0:=by rcases jG hs with g|g<;>omega
   have key:∀(m:Dy) (dir:Int),(m=quoD a.hi b.hi P dir\/m=quoD a.hi b.lo P dir\/m=quoD a.lo b.hi P dir\/m=quoD a.lo b.lo P dir)->Sz P (E+F+P+4) m:=by
    intro m dir hm;rcases hm with hm|hm|hm|hm<;>rw[hm]
    . exact sW dir hP h.2 k.2 n2
    . exact sW dir hP h.2 k.1 n1
    . exact sW dir hP h.1 k.2 n2
    . exact sW dir hP h.1 k.1 n1
   exact⟨key _ (-1) (pX _ _ _ _).2.2.2.2,key _ 1 (pY _ _ _ _).2.2.2.2⟩
 . cases hr
theorem abR(dir:Int)(hP:1<=P)(h:Sz B E x)(hE:0<=E)(hx:0<=x.man):Sz P (E+P+5) (aL x P dir):=by
 obtain⟨k1,k2,k3⟩:=agG x dir hP hx;refine⟨k1,k2,fun hn=> ?_⟩;have hx0:x.man≠0:=fun hx=>hn (by unfold aL;rw[if_pos hx]);obtain⟨j1,j2⟩:=k3 hn;have:=h.2.2 hx0;have:=lG hx0;omega
theorem alQ(hP:1<=P)(h:SzB B E a)(hE:0<=E)(hB:0<=B)(hr:nO a P=some r):SzB P (E+P+5) r:=by
 unfold nO at hr
 split at hr
 . cases hr
 . rename_i hs
   injection hr with hr;subst hr;refine⟨abR (-1) hP (x:=aS a) (B:=B) (E:=E) ?_ hE (kM a).1,abR 1 hP h.2 hE (by omega)⟩;unfold aS;split
   . exact Sz.zero hB
   . exact h.1
theorem aeL(hP:1<=P)(h:SzB B E a)(k:SzB C F b):SzB P (max E F+2) (addB a b P):=⟨ajV (-1) hP h.1 k.1,ajV 1 hP h.2 k.2⟩
theorem aeM(h:Sz B E d):Sz B E (notD d):=by
 have hm:(notD d).man=-d.man/\(notD d).exp=d.exp:=by
  have hc:=h.1;unfold Canon at hc;have h1:=aeG d.man d.exp;rw[hc]at h1;by_cases h0:d.man=0
  . have:d.exp=0:=by rw[<-hc,h0,aU]
    unfold notD;rw[h0,this];exact⟨rfl,rfl⟩
  . unfold notD
    unfold mkDy at hc|-;rw[if_neg h0]at hc;rw[if_neg (by omega)];have e1:(-d.man).natAbs=d.man.natAbs:=by omega
    rw[e1];have hc1:sg (decide (d.man<0)) (d.man.natAbs/2^ctz d.man.natAbs)=d.man:=congrArg Dy.man hc;have hc2:d.exp+ctz d.man.natAbs=d.exp:=congrArg Dy.exp hc;refine⟨?_,hc2⟩;have:decide (-d.man<0)= !decide (d.man<0):=by
     by_cases g:d.man<0
     . rw[decide_eq_true g,decide_eq_false (by omega)];rfl
     . rw[decide_eq_false g,decide_eq_true (by omega)];rfl
    rw[this]
    conv=>rhs;rw[<-hc1]
    cases decide (d.man<0)<;>simp[sg]
 refine⟨Canon.mk _ _,by rw[hm.1,show(-d.man).natAbs=d.man.natAbs from by omega];exact h.2.1,fun hn=> ?_⟩;rw[hm.1]at hn;have hn':d.man≠0:=by omega
 have h2:=h.2.2 hn';refine⟨by rw[hm.2];exact h2.1,?_⟩;unfold topD at h2|-;rw[if_neg hn']at h2;rw[if_neg (by rw[hm.1];omega),hm.1,hm.2,show(-d.man).natAbs=d.man.natAbs from by omega];exact h2.2
theorem alR(h:SzB B E b):SzB B E (notB b):=⟨aeM h.2,aeM h.1⟩
end
section
open Go.RowKit
open Go.RowKit.Below renaming refl->bdA
open Nat renaming le_trans->bc9
variable{d:Bl}{b1 b2:Bool}{x:Dy}{P:Int}{B g n1 n2:Nat}{S p q:Nat->Prop}{A1 A2:Option Addr}{v va vb:Value}
theorem yB{xs ys:List Nat}{w:World}(hx:NatP p w va xs)(hy:NatP q w vb ys)(hg:g<w.heap.size)(c0:w.cell? ⟨g,0,none⟩=some va)(c1:w.cell? ⟨g,1,none⟩=some vb)(hL:bits (val xs)<=1000000000)(hL':bits (val ys)<=1000000000):
 Calls Tryz.prog 106 #[.slice (some ⟨g,0,none⟩) 2 2] w (RetN w.heap.size w (val xs+val ys)):=by
 have HX:=hdd hx;have HY:=hdd hy;have HLX:=hdd hL;have HLY:=hdd hL';obtain⟨A,ca,rfl,-⟩:=hx;obtain⟨A',cb,rfl,-⟩:=hy;clear hL hL';go_enter Tryz.func106,Tryz.ntmps106
 go_wp2_with fail
 go_loopw [3,8] (fun sv i wr=>∃(m:Nat) (zs:List Nat),m<=2/\i=.int .i64 m/\Hid (NatP (fun b=>w.heap.size<=b) wr sv zs)/\Hid (Tr zs)/\Hid (Below w.heap.size w wr)/\Hid (val zs=(if 0<m then val xs else 0)+(if 1<m then val ys else 0))) (fun _ i _=>(2-intOf i).toNat)
 case atStart=>exact⟨0,[],by omega,rfl,hdd (NatP.nil _),hdd Tr.nil,hdd (bdA _ _),hdd rfl⟩
 case round=>
  obtain⟨m,zs,hm,rfl,HZ,HTZ,HB,HV⟩:=hrel;rcases(by omega:m=0\/m=1\/m=2)with rfl|rfl|rfl
  . have c0:=cbl c0 HB.out
    have HT1:=hdd (aI (HX.out.below HB.out));clear c1;go_wp2_with fail
    refine HT1.out.mono ?_;rintro e w1⟨rfl,v1,xs1,rfl,hv1,ht1,hval1,-⟩;have HA:=hdd (jM HZ.out hv1 (by have h1:=bC zs HZ.out.ok HTZ.out;rw[HV.out]at h1;have h2:=HLX.out;simp at h1;first|omega|(have:bits 0=0:=rfl;omega)) (by have:=bC xs1 hv1.ok ht1;rw[hval1]at this;have:=HLX.out;have:=HLY.out;omega));have HV1:=hdd hval1;clear hv1 ht1 hval1 HT1 HZ HTZ;go_wp2_with fail
    refine HA.out.mono ?_;rintro e w2⟨hb,v2,zs2,rfl,hz2,tz2,hvz2⟩;have HZ2:=hdd (hz2.weak fun b h _=>bc9 HB.out.size h);have HT2:=hdd tz2;have HB2:=hdd (HB.out.trans (hb.mono HB.out.size));have HV2:Hid (val zs2=(if 0<1 then val xs else 0)+(if 1<1 then val ys else 0)):=hdd (by rw[hvz2,HV.out,HV1.out];simp);clear hb hz2 tz2 hvz2 HA;go_wp2
    go_roundw
    case rel=>exact⟨1,zs2,by omega,by go_num,HZ2,HT2,HB2,HV2⟩
    case measure=>simp[intOf]
  . have c1:=cbl c1 HB.out
    have HT1:=hdd (aI (HY.out.below HB.out));clear c0;go_wp2_with fail
    refine HT1.out.mono ?_;rintro e w1⟨rfl,v1,xs1,rfl,hv1,ht1,hval1,-⟩;have HA:=hdd (jM HZ.out hv1 (by have h1:=bC zs HZ.out.ok HTZ.out;rw[HV.out]at h1;have h2:=HLX.out;simp at h1;first|omega|(have:bits 0=0:=rfl;omega)) (by have:=bC xs1 hv1.ok ht1;rw[hval1]at this;have:=HLX.out;have:=HLY.out;omega));have HV1:=hdd hval1;clear hv1 ht1 hval1 HT1 HZ HTZ;go_wp2_with fail
    refine HA.out.mono ?_;rintro e w2⟨hb,v2,zs2,rfl,hz2,tz2,hvz2⟩;have HZ2:=hdd (hz2.weak fun b h _=>bc9 HB.out.size h);have HT2:=hdd tz2;have HB2:=hdd (HB.out.trans (hb.mono HB.out.size));have HV2:Hid (val zs2=(if 0<2 then val xs else 0)+(if 1<2 then val ys else 0)):=hdd (by rw[hvz2,HV.out,HV1.out];simp);clear hb hz2 tz2 hvz2 HA;go_wp2
    go_roundw
    case rel=>exact⟨2,zs2,by omega,by go_num,HZ2,HT2,HB2,HV2⟩
    case measure=>simp[intOf]
  . have HT1:=hdd (aI HZ.out)
    go_wp2_with fail
    refine HT1.out.mono ?_;rintro e w1⟨rfl,v1,xs1,rfl,hv1,ht1,hval1,-⟩;have HF:=hdd (RetN.of (n:=val xs+val ys) HB.out hv1 ht1 (by rw[hval1,HV.out];simp));clear hv1 ht1 hval1 HT1;go_wp2;go_ret;exact HF.out
theorem outward_any{neg:Bool}{dir:Int}{w:World}:Calls Tryz.prog 190 #[.bool neg,.int .i64 dir] w (fun e w'=>e=.returned (.bool (outw neg dir))/\w=w'):=by
 by_cases h:0<=dir
 . go_enter Tryz.func190,Tryz.ntmps190
   go_wp2;go_ret;exact⟨by show Ending.returned (.bool (!neg))=.returned (.bool (outw neg dir));unfold outw;rw[if_pos h],rfl⟩
 . go_enter Tryz.func190,Tryz.ntmps190
   go_wp2;go_ret;exact⟨by show Ending.returned (.bool neg)=.returned (.bool (outw neg dir));unfold outw;rw[if_neg (by omega)],rfl⟩
theorem vU{x o T:Nat}(k:Nat)(h:bits x<=T)(ho:o<=1:=by omega):bits (x/2^k+o)<=T+1:=by
 rw[aD]at*;have:=Nat.div_le_self x (2^k);have:=Nat.two_pow_pos T;rw[Nat.pow_succ];omega
theorem zS{dir:Int}{w:World}(hx:DyP p w va x)(hT:Tab w)(sx:SmD x)(hP:1<=P/\P<=65536)(hb:¬(bits (mkDy x.man x.exp).man.natAbs:Int)<=P):
 Calls Tryz.prog 150 #[va,.int .i64 P,.int .i64 dir] w (RetD w.heap.size w (aM x P dir)):=by
 obtain⟨ba,A,n,c,rfl,h⟩:=hx;obtain⟨w2,hw2,hb2,hs2,b1,b2⟩:=pro2 w (.cells #[Value.bool ba,.slice A n c,.int .i64 x.exp] 87) (.cells #[Value.bool false,Value.slice none 0 0,.int .i64 0] 87);have HB:=hdd hb2;have HS:=hdd hs2;have B1:=hdd b1;have B2:=hdd b2;have HBI:=hdd hb;have HPP:=hdd hP;have HT0:=hdd hT;obtain⟨c0,c1,c2,-,-,-⟩:=cells3 b1;have HMK:=hdd (dD (e:=x.exp) (h.below hb2) (hT.below hb2) (by have:=sx.1;omega) (by have:=sx.2;omega));have hbm:=pJ x.man x.exp;have hex:(mkDy x.man x.exp).man≠0->x.exp<=(mkDy x.man x.exp).exp/\(mkDy x.man x.exp).exp<=x.exp+134217728:=by
  intro hne;have hx0:x.man≠0:=fun h0=>hne (by rw[h0,aU]);obtain⟨k,k1,k2,k3,k4⟩:=gW x.man x.exp hx0;have:=sx.1;omega
 have hm0:(mkDy x.man x.exp).man≠0:=by
  intro h0;apply hb;rw[h0];show((bits 0:Nat):Int)<=P;have:bits 0=0:=rfl;omega
 have HM0:=hdd hm0;have HSX:Hid ((bits (mkDy x.man x.exp).man.natAbs<=134217728)/\-67108864<=(mkDy x.man x.exp).exp/\(mkDy x.man x.exp).exp<=67108864+134217728):=hdd (by have:=hex hm0;have:=sx.1;have:=sx.2;omega);have HRD:Hid (aM x P dir=mkDy (sg (decide ((mkDy x.man x.exp).man<0)) ((mkDy x.man x.exp).man.natAbs/2^((bits (mkDy x.man x.exp).man.natAbs:Int)-P).toNat+(outw (decide ((mkDy x.man x.exp).man<0)) dir).toNat))
  ((mkDy x.man x.exp).exp+((bits (mkDy x.man x.exp).man.natAbs:Int)-P))):=hdd (by unfold aM;rw[if_neg hb])
 clear h hb2 b1 b2 hs2 hT sx hb hbm hex hm0;go_enter Tryz.func150,Tryz.ntmps150
 go_wp2_with fail
 refine HMK.out.mono ?_;rintro r w3⟨hb,v5,rfl,hz⟩;obtain⟨b6,A6,n6,c6,rfl,hz2⟩:=id hz;have B13:=hbl B1.out hb;have B23:=hdd (hbl B2.out hb);obtain⟨e0,e1,e2,e3,e4,e5⟩:=cells3 B13;have S1:=set3 B13 (.bool b6) (.slice A6 n6 c6) (.int .i64 (mkDy x.man x.exp).exp);have hI:IntP (fun b=>w2.heap.size<=b) (((w3.setCell ⟨w.heap.size,0,none⟩ (.bool b6)).setCell ⟨w.heap.size,1,none⟩ (.slice A6 n6 c6)).setCell ⟨w.heap.size,2,none⟩ (.int .i64 (mkDy x.man x.exp).exp)) (.agg #[.bool b6,.slice A6 n6 c6]) (mkDy x.man x.exp).man:=
  ((hz2.setCell (fun b hb=>by have:=HS.out;simp;omega) _).setCell (fun b hb=>by have:=HS.out;simp;omega) _).setCell (fun b hb=>by have:=HS.out;simp;omega) _
 have S2:=(bW (w:=w3) (g:=w.heap.size) (i:=w.heap.size+1) (by omega) (.bool b6) (.slice A6 n6 c6) (.int .i64 (mkDy x.man x.exp).exp)).trans B23.out;have hbb:Below w.heap.size w (((w3.setCell ⟨w.heap.size,0,none⟩ (.bool b6)).setCell ⟨w.heap.size,1,none⟩ (.slice A6 n6 c6)).setCell ⟨w.heap.size,2,none⟩ (.int .i64 (mkDy x.man x.exp).exp)):=(((HB.out.trans (hb.mono HB.out.size)).setCell (by simp) _).setCell (by simp) _).setCell (by simp) _;have hT4:Tab (((w3.setCell ⟨w.heap.size,0,none⟩ (.bool b6)).setCell ⟨w.heap.size,1,none⟩ (.slice A6 n6 c6)).setCell ⟨w.heap.size,2,none⟩ (.int .i64 (mkDy x.man x.exp).exp)):=HT0.out.below hbb;generalize hE:(mkDy x.man x.exp).exp=E at*;generalize hW:((w3.setCell ⟨w.heap.size,0,none⟩ (.bool b6)).setCell ⟨w.heap.size,1,none⟩ (.slice A6 n6 c6)).setCell ⟨w.heap.size,2,none⟩ (.int .i64 E)=w4 at*;obtain⟨c0,c1,c2,-,-,-⟩:=cells3 S1;obtain⟨xs,hx1,hx2,hx3,hx4⟩:=hI.get;have HBT:=hdd (cZ hx1);have HS1:=hdd S1;have HS2:=hdd S2;have HBB:=hdd hbb;have HX:=hdd hx1;have HX3:=hdd hx3;have HX4:=hdd hx4;have HT4:=hdd hT4
 obtain⟨k,hk⟩:∃k:Nat,(bits (val xs):Int)-P=k:=⟨((bits (val xs):Int)-P).toNat,by have:=HBI.out;rw[hx3];omega⟩;have hle:¬((k:Int)<=0):=by have h1:=HBI.out;rw[hx3]at hk;omega
 have hwr:IntKind.i64.wrap ((bits (val xs):Int)-P)=(k:Int):=(wrap_i64 (by have:=HPP.out;have:=HSX.out;rw[hx3];omega)).trans hk;have HWD:=fun w'=>qR (w:=w') HPP.out;clear hx1 hx2 hx3 hx4 hI S1 S2 hbb hz hz2 hb B13 hP hT4;go_wp2_with fail
 refine HBT.out.mono ?_;rintro r w5⟨rfl,k5,rfl⟩;have hd:=below_drewN w4 k5;replace c0:=cbl c0 hd;replace c1:=cbl c1 hd;replace c2:=cbl c2 hd;replace HX:=hdd (HX.out.below hd);replace HS2:=hdd (hbl HS2.out hd);replace HBB:=hdd (HBB.out.trans (hd.mono HBB.out.size));replace HT4:=hdd (HT4.out.below hd);clear hd HS1 HBT;generalize w4.drewN k5=w5 at*;have HWD5:=hdd (HWD w5);clear HWD;go_wp2_with fail
 refine HWD5.out.mono ?_;rintro r w6⟨rfl,hw⟩;obtain rfl:=hw;have HK:=hdd hk;have HRT:=hdd (jF (n:=k) HX.out (by have h1:=HK.out;rw[HX3.out]at h1;have:=HSX.out;have:=HPP.out;omega));clear HWD5 hk;go_wp2_with fail
 refine HRT.out.mono ?_;rintro r w6⟨hb,v6,ys,rfl,hy,ty,hvy⟩;obtain⟨A8,c8,rfl,-⟩:=id hy;replace c0:=cbl c0 hb;replace c1:=cbl c1 hb;replace c2:=cbl c2 hb;replace HS2:=hdd (hbl HS2.out hb);replace HBB:=hdd (HBB.out.trans (hb.mono HBB.out.size));replace HT4:=hdd (HT4.out.below hb);have HY:=hdd hy;have HVY:=hdd hvy;have HTY:=hdd ty;have HSZ:Hid (w2.heap.size<=w6.heap.size):=hdd (by have:=HBB.out.size;have:=aG HS2.out;have:=HS.out;omega);clear hb hy ty hvy HRT HX;go_wp2_with fail
 refine outward_any.mono ?_;rintro r w7⟨rfl,hw⟩;obtain rfl:=hw
 cases ho:outw b6 dir
 . go_wp2_with fail
   have hwr2:IntKind.i64.wrap (E+(k:Int))=E+(k:Int):=wrap_i64 (by have h1:=HK.out;rw[HX3.out]at h1;have:=HSX.out;have:=HPP.out;omega);have HWM:=hdd (dE (b:=b6) (HY.out.below ((bdA _ _).drew (w:=w6))));have hne1:w.heap.size+1≠w.heap.size:=by omega
   have HVL:Hid (bits (sg b6 (val ys)).natAbs<=1073741824):=hdd (by
    rw[bG,show val ys=val xs/2^k+0 from HVY.out];exact bc9 (vU k (T:=134217728) (by rw[HX3.out];exact HSX.out.1)) (by omega))
   have HEE:Hid (-1000000000000<=E+(k:Int)/\E+(k:Int)<=1000000000000):=hdd (by have h1:=HK.out;rw[HX3.out]at h1;have:=HSX.out;have:=HPP.out;omega);have M1:True:=trivial
   go_region_held3 (fun w'=>w'.cell? ⟨w.heap.size,0,none⟩=some (.bool b6)/\w'.cell? ⟨w.heap.size,1,none⟩=some (.slice A6 n6 c6)/\w'.cell? ⟨w.heap.size,2,none⟩=some (.int .i64 E)) (go_keep)
    (first
    |(go_at_call 55
      refine HWM.out.mono ?_;rintro r wa⟨hb,va,hz⟩;obtain⟨rfl,hz⟩:=hz;obtain⟨b8,A8,n8,c8,rfl⟩:=hz.shape;have HBA:Hid (Below w6.heap.size w6 wa):=hdd ((bdA _ _).drew.trans hb);have c0:=cbl c0 HBA.out;have c1:=cbl c1 HBA.out;have c2:=cbl c2 HBA.out;have HMK2:=hdd (dD (e:=E+(k:Int)) hz (HT4.out.below HBA.out) HVL.out HEE.out);clear hb hz)
    |(go_at_call 48
      refine HMK2.out.mono ?_;rintro r wb⟨hb,vb,hz⟩;obtain⟨rfl,hz⟩:=hz;obtain⟨b9,A9,n9,c9,rfl,-⟩:=id hz;have c0:=cbl c0 hb;have c1:=cbl c1 hb;have c2:=cbl c2 hb;have HSZ9:=hdd HBA.out.size;have HBA:=hdd (HBA.out.trans (hb.mono HBA.out.size));have HF:=hdd hz;have B9:=hdd (hbl HS2.out HBA.out);obtain⟨e0,e1,e2,e3,e4,e5⟩:=cells3 B9.out;clear hb hz))
   obtain⟨HFF,hFF⟩:=aK (HBB.out.trans (HBA.out.mono HBB.out.size)) (g:=w.heap.size+1) (by omega) B9.out HF.out (fun b hb=>by have:=HSZ.out;have:=HSZ9.out;have:=HS.out;omega);replace hFF:=hdd hFF;have HEQ:Hid (mkDy (sg b6 (val ys)) (E+(k:Int))=aM x P dir):=hdd (by
    have h1:=HK.out;rw[HX3.out]at h1;rw[HRD.out,<-HX4.out,h1,Int.toNat_natCast,ho,<-HX3.out,show val ys=val xs/2^k+0 from HVY.out];rfl)
   go_wp2;obtain⟨f0,f1,f2,-,-,-⟩:=cells3 hFF.out;refine bodyPost_ret (v:=.agg #[_,_,_]) (by simp[results,Tryz.results150,go_sem,f0,f1,f2];first|exact⟨rfl,rfl,rfl⟩|rfl) rfl ?_;rw[<-HEQ.out];exact HFF.out
 . go_wp2_with fail
   have HB1:Hid (Below w6.heap.size w6 (w6.alloc (.cells #[.int .u64 1] 101))):=hdd (aO _ _);have HOF:=hdd (kR (NatP.one (x:=1) (by decide) (heap_alloc_new w6 (.cells #[.int .u64 1] 101)) (p:=AnyB) trivial));refine HOF.out.mono ?_;rintro r w7⟨hb,v7,ys7,rfl,hy7,ty7,hvy7⟩;obtain⟨A7,c7,rfl,-⟩:=id hy7;have HB7:=hdd (HB1.out.trans (hb.mono HB1.out.size));have HY7:=hdd hy7;have HVY7:=hdd hvy7;clear hb hy7 ty7 hvy7 HOF HB1;have HB8:Hid (Below w7.heap.size w7 (w7.alloc (.cells #[.slice A8 ys.length c8,.slice A7 ys7.length c7] 31))):=hdd (aO _ _);obtain⟨g0,g1,-,-⟩:=aB (heap_alloc_new w7 (.cells #[.slice A8 ys.length c8,.slice A7 ys7.length c7] 31));have HB78:=hdd (HB7.out.trans (HB8.out.mono HB7.out.size));have HAD:=hdd (yB (HY.out.below HB78.out) (HY7.out.below HB8.out) (by simp) g0 g1
    (by rw[HVY.out];exact bc9 (vU k (o:=0) (T:=134217728) (by rw[HX3.out];exact HSX.out.1)) (by omega)) (by rw[HVY7.out];decide))
   clear g0 g1;go_wp2_with fail
   refine HAD.out.mono ?_;rintro r w9⟨hb,v9,ys9,rfl,hy9,ty9,hvy9⟩;obtain⟨A9',c9',rfl,-⟩:=id hy9;have HB9:=hdd (HB78.out.trans (hb.mono HB78.out.size));replace c0:=cbl c0 HB9.out;replace c1:=cbl c1 HB9.out;replace c2:=cbl c2 HB9.out;have HY9:=hdd hy9;have HVY9:Hid (val ys9=val xs/2^k+1):=hdd (by rw[hvy9,HVY.out,HVY7.out];rfl);have HS9:=hdd (hbl HS2.out HB9.out);have HBB9:=hdd (HBB.out.trans (HB9.out.mono HBB.out.size));have HT9:=hdd (HT4.out.below HB9.out);replace HSZ:Hid (w2.heap.size<=w9.heap.size):=hdd (bc9 HSZ.out HB9.out.size);clear hb hy9 ty9 hvy9 HAD HB9 HB78 HB8 HB7;go_wp2_with fail
   have hwr2:IntKind.i64.wrap (E+(k:Int))=E+(k:Int):=wrap_i64 (by have h1:=HK.out;rw[HX3.out]at h1;have:=HSX.out;have:=HPP.out;omega);have HWM:=hdd (dE (b:=b6) (HY9.out.below ((bdA _ _).drew (w:=w9))));have hne1:w.heap.size+1≠w.heap.size:=by omega
   have HVL:Hid (bits (sg b6 (val ys9)).natAbs<=1073741824):=hdd (by
    rw[bG,HVY9.out];exact bc9 (vU k (T:=134217728) (by rw[HX3.out];exact HSX.out.1)) (by omega))
   have HEE:Hid (-1000000000000<=E+(k:Int)/\E+(k:Int)<=1000000000000):=hdd (by have h1:=HK.out;rw[HX3.out]at h1;have:=HSX.out;have:=HPP.out;omega);have M1:True:=trivial
   go_region_held3 (fun w'=>w'.cell? ⟨w.heap.size,0,none⟩=some (.bool b6)/\w'.cell? ⟨w.heap.size,1,none⟩=some (.slice A6 n6 c6)/\w'.cell? ⟨w.heap.size,2,none⟩=some (.int .i64 E)) (go_keep)
    (first
    |(go_at_call 55
      refine HWM.out.mono ?_;rintro r wa⟨hb,va,hz⟩;obtain⟨rfl,hz⟩:=hz;obtain⟨b8,A8,n8,c8,rfl⟩:=hz.shape;have HBA:Hid (Below w9.heap.size w9 wa):=hdd ((bdA _ _).drew.trans hb);have c0:=cbl c0 HBA.out;have c1:=cbl c1 HBA.out;have c2:=cbl c2 HBA.out;have HMK2:=hdd (dD (e:=E+(k:Int)) hz (HT9.out.below HBA.out) HVL.out HEE.out);clear hb hz)
    |(go_at_call 48
      refine HMK2.out.mono ?_;rintro r wb⟨hb,vb,hz⟩;obtain⟨rfl,hz⟩:=hz;obtain⟨b9,A9,n9,c9,rfl,-⟩:=id hz;have c0:=cbl c0 hb;have c1:=cbl c1 hb;have c2:=cbl c2 hb;have HSZ9:=hdd HBA.out.size;have HBA:=hdd (HBA.out.trans (hb.mono HBA.out.size));have HF:=hdd hz;have B9:=hdd (hbl HS9.out HBA.out);obtain⟨e0,e1,e2,e3,e4,e5⟩:=cells3 B9.out;clear hb hz))
   obtain⟨HFF,hFF⟩:=aK (HBB9.out.trans (HBA.out.mono HBB9.out.size)) (g:=w.heap.size+1) (by omega) B9.out HF.out (fun b hb=>by have:=HSZ.out;have:=HSZ9.out;have:=HS.out;omega);replace hFF:=hdd hFF;have HEQ:Hid (mkDy (sg b6 (val ys9)) (E+(k:Int))=aM x P dir):=hdd (by
    have h1:=HK.out;rw[HX3.out]at h1;rw[HRD.out,<-HX4.out,h1,Int.toNat_natCast,ho,<-HX3.out,HVY9.out];rfl)
   go_wp2;obtain⟨f0,f1,f2,-,-,-⟩:=cells3 hFF.out;refine bodyPost_ret (v:=.agg #[_,_,_]) (by simp[results,Tryz.results150,go_sem,f0,f1,f2];first|exact⟨rfl,rfl,rfl⟩|rfl) rfl ?_;rw[<-HEQ.out];exact HFF.out
theorem nH{dir:Int}{w:World}(hx:DyP p w va x)(hT:Tab w)(sx:SmD x)(hP:1<=P/\P<=65536):
 Calls Tryz.prog 150 #[va,.int .i64 P,.int .i64 dir] w (RetD w.heap.size w (aM x P dir)):=by
 by_cases hb:(bits (mkDy x.man x.exp).man.natAbs:Int)<=P
 . have:=adH (dir:=dir) hx hT sx hP hb
   unfold aM;rw[if_pos hb];exact this
 . exact zS hx hT sx hP hb
def BlP(p:Nat->Prop)(w:World)(v:Value)(d:Bl):Prop:=
 ∃b A n c b' A' n' c',v=.agg #[.bool b,.slice A n c,.int .i64 d.lo.exp,.bool b',.slice A' n' c',.int .i64 d.hi.exp]/\IntP p w (.agg #[.bool b,.slice A n c]) d.lo.man/\IntP p w (.agg #[.bool b',.slice A' n' c']) d.hi.man
def mG(B:Nat)(w0:World)(d:Bl)(e:Ending)(w':World):Prop:=Below B w0 w'/\∃v,e=.returned v/\BlP (fun b=>B<=b) w' v d
theorem BlP.below {w w':World}(h:BlP p w v d)(hb:Below w.heap.size w w'):BlP p w' v d:=by
 obtain⟨b,A,n,c,b',A',n',c',e,h1,h2⟩:=h;exact⟨b,A,n,c,b',A',n',c',e,h1.below hb,h2.below hb⟩
theorem BlP.weak {w:World}(h:BlP p w v d)(hq:∀b,p b->b<w.heap.size->q b):BlP q w v d:=by
 obtain⟨b,A,n,c,b',A',n',c',e,h1,h2⟩:=h;exact⟨b,A,n,c,b',A',n',c',e,h1.weak hq,h2.weak hq⟩
def sgB(x:Bl):Int:=if x.lo.man.sign=x.hi.man.sign then x.lo.man.sign else 0
def sgOk(x:Bl):Bool:=decide (x.lo.man.sign=x.hi.man.sign)
def SmB(b:Bl):Prop:=SmD b.lo/\SmD b.hi
theorem bI{w0 w1:World}{T:TypeId}{a b c d e f:Value}{c1 c2:Nat}{x:Bl}(hb:Below B w0 w1)(hg:B<=g)(hw:w1.heap[g]? =some (.cells #[a,b,c,d,e,f] T (0,0)))
 (h1:IntP q w1 (.agg #[.bool b1,.slice A1 n1 c1]) x.lo.man) (h2:IntP q w1 (.agg #[.bool b2,.slice A2 n2 c2]) x.hi.man) (hq:∀b,q b->B<=b/\b≠g):
 Hid (mG B w0 x (.returned (.agg #[.bool b1,.slice A1 n1 c1,.int .i64 x.lo.exp,.bool b2,.slice A2 n2 c2,.int .i64 x.hi.exp])) (put6 w1 g (.bool b1) (.slice A1 n1 c1) (.int .i64 x.lo.exp) (.bool b2) (.slice A2 n2 c2) (.int .i64 x.hi.exp)))/\
 (put6 w1 g (.bool b1) (.slice A1 n1 c1) (.int .i64 x.lo.exp) (.bool b2) (.slice A2 n2 c2) (.int .i64 x.hi.exp)).heap[g]? =some (.cells #[.bool b1,.slice A1 n1 c1,.int .i64 x.lo.exp,.bool b2,.slice A2 n2 c2,.int .i64 x.hi.exp] T (0,0)):=by
 refine⟨hdd ⟨eZ hb hg _ _ _ _ _ _,_,rfl,b1,A1,n1,c1,b2,A2,n2,c2,rfl,?_,?_⟩,gZ hw _ _ _ _ _ _⟩
 . exact(iJ h1 (fun b hb=>(hq b hb).2) _ _ _ _ _ _).weak fun b hb _=>(hq b hb).1
 . exact(iJ h2 (fun b hb=>(hq b hb).2) _ _ _ _ _ _).weak fun b hb _=>(hq b hb).1
theorem ajW{w:World}(hx:DyP p w va x)(hT:Tab w)(sx:SmD x)(hc:mkDy x.man x.exp=x):
 Calls Tryz.prog 231 #[va] w (mG w.heap.size w (atB x)):=by
 obtain⟨ba,A,n,c,rfl,h⟩:=hx;obtain⟨w2,hw2,hb2,hs2,b1,b2⟩:=pro2 w (.cells #[Value.bool ba,.slice A n c,.int .i64 x.exp] 87) (.cells #[Value.bool false,Value.slice none 0 0,.int .i64 0,Value.bool false,Value.slice none 0 0,.int .i64 0] 89);have HB:=hdd hb2;have HS:=hdd hs2;have B2:=hdd b2;obtain⟨c0,c1,c2,-,-,-⟩:=cells3 b1;have HD:Hid (DyP p w2 (.agg #[.bool ba,.slice A n c,.int .i64 x.exp]) x):=hdd ⟨_,_,_,_,rfl,h.below hb2⟩;have HT2:=hdd (hT.below hb2);have HSM:Hid (∀w',Below w2.heap.size w2 w'->Calls Tryz.prog 260 #[.agg #[.bool ba,.slice A n c,.int .i64 x.exp]] w' (RetD w'.heap.size w' x)):=hdd fun w' h=>by
  have:=ajP (HD.out.below h) (HT2.out.below h) sx;rwa[hc]at this
 clear h hb2 b1 b2 hs2 hT sx hc HD HT2;go_enter Tryz.func231,Tryz.ntmps231
 go_wp2_with fail
 have HBW:Below w2.heap.size w2 w2.drew:=(bdA _ _).drew;replace c0:=cbl c0 HBW;replace c1:=cbl c1 HBW;replace c2:=cbl c2 HBW;have n1:w.heap.size+1≠w.heap.size:=by omega
 have M1:True:=trivial
 go_region_held3 (fun w'=>w'.cell? ⟨w.heap.size,0,none⟩=some (.bool ba)/\w'.cell? ⟨w.heap.size,1,none⟩=some (.slice A n c)/\w'.cell? ⟨w.heap.size,2,none⟩=some (.int .i64 x.exp)) (go_keep)
  (first
  |(go_at_call 260
    clear M1
    with_reducible refine(HSM.out _ (by assumption)).mono ?_
    rintro r w3⟨hb,v3,hz⟩;obtain⟨rfl,hz⟩:=hz;obtain⟨b5,A5,n5,k5,rfl,hz⟩:=hz;have c0:=cbl c0 hb;have c1:=cbl c1 hb;have c2:=cbl c2 hb;have HSZ3:=hdd HBW.size;have HBW:=aA HBW hb;have HZ:=hdd hz;clear hb hz)
  |(go_at_call 260
    with_reducible refine(HSM.out _ (by assumption)).mono ?_
    rintro r w4⟨hb,v4,hz⟩;obtain⟨rfl,hz⟩:=hz;obtain⟨b6,A6,n6,k6,rfl,hz⟩:=hz;have c0:=cbl c0 hb;have c1:=cbl c1 hb;have c2:=cbl c2 hb;have HSZ4:=hdd HBW.size;have HBW:=aA HBW hb;have HZ4:=hdd hz;have HZ3:=hdd (HZ.out.below hb);have B24:=hdd (hbl B2.out HBW);obtain⟨e0,e1,e2,e3,e4,e5⟩:=aH B24.out;obtain⟨f0,f1,f2,f3,f4,f5⟩:=fV B24.out;clear hb hz))
 have hq:∀b,w2.heap.size<=b->w.heap.size<=b/\b≠w.heap.size+1:=fun b hb=>by have:=HS.out;omega
 obtain⟨HFF,hFF⟩:=bI (x:=atB x) (HB.out.trans (HBW.mono HB.out.size)) (g:=w.heap.size+1) (by omega) B24.out (HZ3.out.weak (q:=fun b=>w2.heap.size<=b) fun b hb _=>bc9 HSZ3.out hb) (HZ4.out.weak (q:=fun b=>w2.heap.size<=b) fun b hb _=>bc9 HSZ4.out hb) hq;dsimp only[atB]at HFF hFF;replace hFF:=hdd hFF;clear hq;go_wp2;obtain⟨f0,f1,f2,f3,f4,f5⟩:=aH hFF.out;unfold put6 at f0 f1 f2 f3 f4 f5;refine bodyPost_ret (v:=.agg #[_,_,_,_,_,_]) (by simp[results,Tryz.results231,go_sem,f0,f1,f2,f3,f4,f5];first|exact⟨rfl,rfl,rfl,rfl,rfl,rfl⟩|rfl) rfl ?_;exact HFF.out
theorem nY{x:Bl}{w:World}(hx:BlP p w va x):
 Calls Tryz.prog 207 #[va] w (rG w (sgB x) (sgOk x)):=by
 obtain⟨ba,A,n,c,bb,A',n',c',rfl,h,h'⟩:=hx;obtain⟨w1,hw1,hb1,hs1,b1⟩:=pro1 w (.cells #[Value.bool ba,.slice A n c,.int .i64 x.lo.exp,Value.bool bb,.slice A' n' c',.int .i64 x.hi.exp] 89);have HB:=hdd hb1;obtain⟨c0,c1,c2,c3,c4,c5⟩:=aH b1;have D1:Hid (DyP p w1 (.agg #[.bool ba,.slice A n c,.int .i64 x.lo.exp]) x.lo):=hdd ⟨_,_,_,_,rfl,h.below hb1⟩;have D2:Hid (DyP p w1 (.agg #[.bool bb,.slice A' n' c',.int .i64 x.hi.exp]) x.hi):=hdd ⟨_,_,_,_,rfl,h'.below hb1⟩;clear h h' hb1 b1 hs1;go_enter Tryz.func207,Tryz.ntmps207
 go_wp2_with fail
 refine(cK D1.out).mono ?_;rintro r w3⟨rfl,hb⟩;replace c0:=cbl c0 hb;replace c1:=cbl c1 hb;replace c2:=cbl c2 hb;replace c3:=cbl c3 hb;replace c4:=cbl c4 hb;replace c5:=cbl c5 hb;replace D2:=hdd (D2.out.below hb);replace HB:=hdd (HB.out.trans (hb.mono HB.out.size));clear hb hw1;go_wp2_with fail
 refine(cK D2.out).mono ?_;rintro r w4⟨rfl,hb⟩;have HBB:=hdd (HB.out.trans (hb.mono HB.out.size));clear hb D1 D2 HB;have HS1:Hid (sgB x=if x.lo.man.sign=x.hi.man.sign then x.lo.man.sign else 0):=hdd rfl;have HS2:Hid (sgOk x=decide (x.lo.man.sign=x.hi.man.sign)):=hdd rfl;generalize sgB x=g1 at*;generalize sgOk x=g2 at*;generalize x.lo.man.sign=s1 at*;generalize x.hi.man.sign=s2 at*;by_cases he:s1=s2
 . subst he
   have hne:(s1 != s1)=false:=by simp
   have HF:Hid (rG w g1 g2 (.returned (.tuple #[.int .i64 s1,.bool true])) w4):=hdd (by rw[HS1.out,HS2.out,if_pos rfl,decide_eq_true rfl];exact⟨rfl,HBB.out⟩);go_wp2
   go_ret2
   exact HF.out
 . have hne:(s1 != s2)=true:=by simp[he]
   have HF:Hid (rG w g1 g2 (.returned (.tuple #[.int .i64 0,.bool false])) w4):=hdd (by rw[HS1.out,HS2.out,if_neg he,decide_eq_false he];exact⟨rfl,HBB.out⟩);go_wp2
   go_ret2
   exact HF.out
theorem agH{x:Bl}{w:World}(hx:BlP p w va x)(hT:Tab w)(sx:SmB x):
 Calls Tryz.prog 232 #[va] w (mG w.heap.size w (notB x)):=by
 obtain⟨ba,A,n,c,bb,A',n',c',rfl,h,h'⟩:=hx;obtain⟨w2,hw2,hb2,hs2,b1,b2⟩:=pro2 w (.cells #[Value.bool ba,.slice A n c,.int .i64 x.lo.exp,Value.bool bb,.slice A' n' c',.int .i64 x.hi.exp] 89) (.cells #[Value.bool false,Value.slice none 0 0,.int .i64 0,Value.bool false,Value.slice none 0 0,.int .i64 0] 89);have HB:=hdd hb2;have HS:=hdd hs2;have B2:=hdd b2;obtain⟨c0,c1,c2,c3,c4,c5⟩:=aH b1;have D1:Hid (DyP p w2 (.agg #[.bool ba,.slice A n c,.int .i64 x.lo.exp]) x.lo):=hdd ⟨_,_,_,_,rfl,h.below hb2⟩;have D2:Hid (DyP p w2 (.agg #[.bool bb,.slice A' n' c',.int .i64 x.hi.exp]) x.hi):=hdd ⟨_,_,_,_,rfl,h'.below hb2⟩;have HT2:=hdd (hT.below hb2);have HN2:Hid (∀w',Below w2.heap.size w2 w'->Calls Tryz.prog 104 #[.agg #[.bool bb,.slice A' n' c',.int .i64 x.hi.exp]] w' (RetD w'.heap.size w' (notD x.hi))):=hdd fun w' h=>vL (D2.out.below h) (HT2.out.below h) (by have:=sx.2.1;omega) (by have:=sx.2.2;omega);have HN1:Hid (∀w',Below w2.heap.size w2 w'->Calls Tryz.prog 104 #[.agg #[.bool ba,.slice A n c,.int .i64 x.lo.exp]] w' (RetD w'.heap.size w' (notD x.lo))):=hdd fun w' h=>vL (D1.out.below h) (HT2.out.below h) (by have:=sx.1.1;omega) (by have:=sx.1.2;omega)
 clear h h' hb2 b1 b2 hs2 hT sx D1 D2 HT2;go_enter Tryz.func232,Tryz.ntmps232
 go_wp2_with fail
 have HBW:Below w2.heap.size w2 w2.drew:=(bdA _ _).drew;replace c0:=cbl c0 HBW;replace c1:=cbl c1 HBW;replace c2:=cbl c2 HBW;replace c3:=cbl c3 HBW;replace c4:=cbl c4 HBW;replace c5:=cbl c5 HBW;have n1:w.heap.size+1≠w.heap.size:=by omega
 have M1:True:=trivial
 go_region_held3 (fun w'=>w'.cell? ⟨w.heap.size,0,none⟩=some (.bool ba)/\w'.cell? ⟨w.heap.size,1,none⟩=some (.slice A n c)/\w'.cell? ⟨w.heap.size,2,none⟩=some (.int .i64 x.lo.exp)/\w'.cell? ⟨w.heap.size,3,none⟩=some (.bool bb)/\w'.cell? ⟨w.heap.size,4,none⟩=some (.slice A' n' c')/\w'.cell? ⟨w.heap.size,5,none⟩=some (.int .i64 x.hi.exp)) (go_keep)
  (first
  |(go_at_call 104
    clear M1
    with_reducible refine(HN2.out _ (by assumption)).mono ?_
    rintro r w3⟨hb,v3,hz⟩;obtain⟨rfl,hz⟩:=hz;obtain⟨b5,A5,n5,k5,rfl,hz⟩:=hz;have c0:=cbl c0 hb;have c1:=cbl c1 hb;have c2:=cbl c2 hb;have c3:=cbl c3 hb;have c4:=cbl c4 hb;have c5:=cbl c5 hb;have HSZ3:=hdd HBW.size;have HBW:=aA HBW hb;have HZ:=hdd hz;clear hb hz)
  |(go_at_call 104
    with_reducible refine(HN1.out _ (by assumption)).mono ?_
    rintro r w4⟨hb,v4,hz⟩;obtain⟨rfl,hz⟩:=hz;obtain⟨b6,A6,n6,k6,rfl,hz⟩:=hz;have c0:=cbl c0 hb;have c1:=cbl c1 hb;have c2:=cbl c2 hb;have c3:=cbl c3 hb;have c4:=cbl c4 hb;have c5:=cbl c5 hb;have HSZ4:=hdd HBW.size;have HBW:=aA HBW hb;have HZ4:=hdd hz;have HZ3:=hdd (HZ.out.below hb);have B24:=hdd (hbl B2.out HBW);obtain⟨e0,e1,e2,e3,e4,e5⟩:=aH B24.out;obtain⟨f0,f1,f2,f3,f4,f5⟩:=fV B24.out;clear hb hz))
 have hq:∀b,w2.heap.size<=b->w.heap.size<=b/\b≠w.heap.size+1:=fun b hb=>by have:=HS.out;omega
 obtain⟨HFF,hFF⟩:=bI (x:=notB x) (HB.out.trans (HBW.mono HB.out.size)) (g:=w.heap.size+1) (by omega) B24.out (HZ3.out.weak (q:=fun b=>w2.heap.size<=b) fun b hb _=>bc9 HSZ3.out hb) (HZ4.out.weak (q:=fun b=>w2.heap.size<=b) fun b hb _=>bc9 HSZ4.out hb) hq;dsimp only[notB]at HFF hFF;replace hFF:=hdd hFF;clear hq;go_wp2;obtain⟨f0,f1,f2,f3,f4,f5⟩:=aH hFF.out;unfold put6 at f0 f1 f2 f3 f4 f5;refine bodyPost_ret (v:=.agg #[_,_,_,_,_,_]) (by simp[results,Tryz.results232,go_sem,f0,f1,f2,f3,f4,f5];first|exact⟨rfl,rfl,rfl,rfl,rfl,rfl⟩|rfl) rfl ?_;exact HFF.out
theorem yC{x y:Bl}{w:World}(hx:BlP p w va x)(hy:BlP q w vb y)(hp:∀b,p b->b<w.heap.size)(hq:∀b,q b->b<w.heap.size)(hT:Tab w)(sx:SmB x)(sy:SmB y)(s1:SmD (addD x.lo y.lo))(s2:SmD (addD x.hi y.hi))(hP:1<=P/\P<=65536):
 Calls Tryz.prog 233 #[va,vb,.int .i64 P] w (mG w.heap.size w (addB x y P)):=by
 obtain⟨ba,A,n,c,bb,A',n',c',rfl,h1,h2⟩:=hx;obtain⟨bd,E,m,k,be,E',m',k',rfl,h3,h4⟩:=hy;obtain⟨w3,hw3,hb3,hs3,b1,b2,b3⟩:=pro3 w (.cells #[Value.bool ba,.slice A n c,.int .i64 x.lo.exp,Value.bool bb,.slice A' n' c',.int .i64 x.hi.exp] 89) (.cells #[Value.bool bd,.slice E m k,.int .i64 y.lo.exp,Value.bool be,.slice E' m' k',.int .i64 y.hi.exp] 89) (.cells #[Value.bool false,Value.slice none 0 0,.int .i64 0,Value.bool false,Value.slice none 0 0,.int .i64 0] 89);have HB:=hdd hb3;have HS:=hdd hs3;have B3:=hdd b3;obtain⟨c0,c1,c2,c3,c4,c5⟩:=aH b1;obtain⟨d0,d1,d2,d3,d4,d5⟩:=aH b2;have hpp:∀{p:Nat->Prop},(∀b,p b->b<w.heap.size)->∀w',Below w3.heap.size w3 w'->∀b,p b->b<w'.heap.size:=fun hp w' h b hb=>by have:=hp b hb;have:=h.size;omega
 have HT2:=hdd (hT.below hb3);have HA1:Hid (∀w',Below w3.heap.size w3 w'->Calls Tryz.prog 156 #[.agg #[.bool ba,.slice A n c,.int .i64 x.lo.exp],.agg #[.bool bd,.slice E m k,.int .i64 y.lo.exp]] w' (RetD w'.heap.size w' (addD x.lo y.lo))):=
  hdd fun w' h=>abL (p:=p) (q:=q) (x:=x.lo) (y:=y.lo) ⟨_,_,_,_,rfl,(h1.below hb3).below h⟩ ⟨_,_,_,_,rfl,(h3.below hb3).below h⟩ (HT2.out.below h) (hpp hp w' h) (hpp hq w' h) sx.1 sy.1
 have HA2:Hid (∀w',Below w3.heap.size w3 w'->Calls Tryz.prog 156 #[.agg #[.bool bb,.slice A' n' c',.int .i64 x.hi.exp],.agg #[.bool be,.slice E' m' k',.int .i64 y.hi.exp]] w' (RetD w'.heap.size w' (addD x.hi y.hi))):=
  hdd fun w' h=>abL (p:=p) (q:=q) (x:=x.hi) (y:=y.hi) ⟨_,_,_,_,rfl,(h2.below hb3).below h⟩ ⟨_,_,_,_,rfl,(h4.below hb3).below h⟩ (HT2.out.below h) (hpp hp w' h) (hpp hq w' h) sx.2 sy.2
 have HR:Hid (∀(w':World) (v:Value) (B:Nat) (dir:Int) (z:Dy),SmD z->Below w3.heap.size w3 w'->DyP (fun b=>B<=b) w' v z->Calls Tryz.prog 150 #[v,.int .i64 P,.int .i64 dir] w' (RetD w'.heap.size w' (aM z P dir))):=hdd fun w' v B dir z hz h hv=>
  nH (dir:=dir) hv (HT2.out.below h) hz hP
 have HS1:=hdd s1;have HS2:=hdd s2;clear h1 h2 h3 h4 hb3 b1 b2 b3 hs3 hT sx sy s1 s2 hP hp hq hpp HT2;go_enter Tryz.func233,Tryz.ntmps233
 go_wp2_with fail
 have HBW:Below w3.heap.size w3 w3.drew:=(bdA _ _).drew;replace c0:=cbl c0 HBW;replace c1:=cbl c1 HBW;replace c2:=cbl c2 HBW;replace c3:=cbl c3 HBW;replace c4:=cbl c4 HBW;replace c5:=cbl c5 HBW;replace d0:=cbl d0 HBW;replace d1:=cbl d1 HBW;replace d2:=cbl d2 HBW;replace d3:=cbl d3 HBW;replace d4:=cbl d4 HBW;replace d5:=cbl d5 HBW;have n1:w.heap.size+1+1≠w.heap.size:=by omega
 have n2:w.heap.size+1+1≠w.heap.size+1:=by omega
 have M1:True:=trivial;have M2:True:=trivial
 go_region_held3 (fun w'=>w'.cell? ⟨w.heap.size,0,none⟩=some (.bool ba)/\w'.cell? ⟨w.heap.size,1,none⟩=some (.slice A n c)/\w'.cell? ⟨w.heap.size,2,none⟩=some (.int .i64 x.lo.exp)/\w'.cell? ⟨w.heap.size,3,none⟩=some (.bool bb)/\w'.cell? ⟨w.heap.size,4,none⟩=some (.slice A' n' c')/\w'.cell? ⟨w.heap.size,5,none⟩=some (.int .i64 x.hi.exp)/\w'.cell? ⟨w.heap.size+1,0,none⟩=some (.bool bd)/\w'.cell? ⟨w.heap.size+1,1,none⟩=some (.slice E m k)/\w'.cell? ⟨w.heap.size+1,2,none⟩=some (.int .i64 y.lo.exp)/\w'.cell? ⟨w.heap.size+1,3,none⟩=some (.bool be)/\w'.cell? ⟨w.heap.size+1,4,none⟩=some (.slice E' m' k')/\w'.cell? ⟨w.heap.size+1,5,none⟩=some (.int .i64 y.hi.exp)) (go_keep)
  (first
  |(go_at_call 156
    clear M1
    with_reducible refine(HA1.out _ (by assumption)).mono ?_
    rintro r w4⟨hb,v4,hz⟩;obtain⟨rfl,hz⟩:=hz;obtain⟨b4,A4,n4,k4,rfl,hz⟩:=hz;have c0:=cbl c0 hb;have c1:=cbl c1 hb;have c2:=cbl c2 hb;have c3:=cbl c3 hb;have c4:=cbl c4 hb;have c5:=cbl c5 hb;have d0:=cbl d0 hb;have d1:=cbl d1 hb;have d2:=cbl d2 hb;have d3:=cbl d3 hb;have d4:=cbl d4 hb;have d5:=cbl d5 hb;have HBW:=aA HBW hb;have HRA:=hdd (HR.out _ _ _ (-1) _ HS1.out HBW ⟨b4,A4,n4,k4,rfl,hz⟩);clear hb hz)
  |(go_at_call 150
    clear M2;refine HRA.out.mono ?_;rintro r w5⟨hb,v5,hz⟩;obtain⟨rfl,hz⟩:=hz;obtain⟨b5,A5,n5,k5,rfl,hz⟩:=hz;have c0:=cbl c0 hb;have c1:=cbl c1 hb;have c2:=cbl c2 hb;have c3:=cbl c3 hb;have c4:=cbl c4 hb;have c5:=cbl c5 hb;have d0:=cbl d0 hb;have d1:=cbl d1 hb;have d2:=cbl d2 hb;have d3:=cbl d3 hb;have d4:=cbl d4 hb;have d5:=cbl d5 hb;have HSZ5:=hdd HBW.size;have HBW:=aA HBW hb;have HZ5:=hdd hz;clear hb hz)
  |(go_at_call 156
    with_reducible refine(HA2.out _ (by assumption)).mono ?_
    rintro r w6⟨hb,v6,hz⟩;obtain⟨rfl,hz⟩:=hz;obtain⟨b6,A6,n6,k6,rfl,hz⟩:=hz;have c0:=cbl c0 hb;have c1:=cbl c1 hb;have c2:=cbl c2 hb;have c3:=cbl c3 hb;have c4:=cbl c4 hb;have c5:=cbl c5 hb;have d0:=cbl d0 hb;have d1:=cbl d1 hb;have d2:=cbl d2 hb;have d3:=cbl d3 hb;have d4:=cbl d4 hb;have d5:=cbl d5 hb;have HBW:=aA HBW hb;have HZ6:=hdd (HZ5.out.below hb);have HRB:=hdd (HR.out _ _ _ 1 _ HS2.out HBW ⟨b6,A6,n6,k6,rfl,hz⟩);clear hb hz)
  |(go_at_call 150
    refine HRB.out.mono ?_;rintro r w7⟨hb,v7,hz⟩;obtain⟨rfl,hz⟩:=hz;obtain⟨b7,A7,n7,k7,rfl,hz⟩:=hz;have c0:=cbl c0 hb;have c1:=cbl c1 hb;have c2:=cbl c2 hb;have c3:=cbl c3 hb;have c4:=cbl c4 hb;have c5:=cbl c5 hb;have d0:=cbl d0 hb;have d1:=cbl d1 hb;have d2:=cbl d2 hb;have d3:=cbl d3 hb;have d4:=cbl d4 hb;have d5:=cbl d5 hb;have HSZ7:=hdd HBW.size;have HBW:=aA HBW hb;have HZ7:=hdd hz;have HZ8:=hdd (HZ6.out.below hb);have B37:=hdd (hbl B3.out HBW);obtain⟨e0,e1,e2,e3,e4,e5⟩:=aH B37.out;obtain⟨f0,f1,f2,f3,f4,f5⟩:=fV B37.out;clear hb hz))
 have hq:∀b,w3.heap.size<=b->w.heap.size<=b/\b≠w.heap.size+2:=fun b hb=>by have:=HS.out;omega
 obtain⟨HFF,hFF⟩:=bI (x:=addB x y P) (HB.out.trans (HBW.mono HB.out.size)) (g:=w.heap.size+2) (by omega) B37.out (HZ8.out.weak (q:=fun b=>w3.heap.size<=b) fun b hb _=>bc9 HSZ5.out hb) (HZ7.out.weak (q:=fun b=>w3.heap.size<=b) fun b hb _=>bc9 HSZ7.out hb) hq;dsimp only[addB]at HFF hFF;replace hFF:=hdd hFF;clear hq;go_wp2;obtain⟨f0,f1,f2,f3,f4,f5⟩:=aH hFF.out;unfold put6 at f0 f1 f2 f3 f4 f5;refine bodyPost_ret (v:=.agg #[_,_,_,_,_,_]) (by simp[results,Tryz.results233,go_sem,f0,f1,f2,f3,f4,f5];first|exact⟨rfl,rfl,rfl,rfl,rfl,rfl⟩|rfl) rfl ?_;exact HFF.out
theorem anW(a0 a1 a2 a3 a4 a5 a6 a7 a8:Value)(w:World):(Instr.index 328 (.agg #[a0,a1,a2,a3,a4,a5,a6,a7,a8]) (.int .i64 0)).run Tryz.prog w=.ok (.agg #[a0,a1,a2]) w:=by kernel_rfl
theorem anX(a0 a1 a2 a3 a4 a5 a6 a7 a8:Value)(w:World):(Instr.index 328 (.agg #[a0,a1,a2,a3,a4,a5,a6,a7,a8]) (.int .i64 1)).run Tryz.prog w=.ok (.agg #[a3,a4,a5]) w:=by kernel_rfl
theorem anY(a0 a1 a2 a3 a4 a5 a6 a7 a8:Value)(w:World):(Instr.index 328 (.agg #[a0,a1,a2,a3,a4,a5,a6,a7,a8]) (.int .i64 2)).run Tryz.prog w=.ok (.agg #[a6,a7,a8]) w:=by kernel_rfl
def put3(w:World)(g:Nat)(b:Bool)(A:Option Addr)(n c:Nat)(e:Int):World:=((w.setCell ⟨g,0,none⟩ (.bool b)).setCell ⟨g,1,none⟩ (.slice A n c)).setCell ⟨g,2,none⟩ (.int .i64 e)
abbrev NG(gl gh:Nat):Nat->Prop:=fun b=>b≠gl/\b≠gh
def HasQ(S:Nat->Prop)(w:World)(g:Nat)(z:Dy):Prop:=∃b A n c,w.heap[g]? =some (.cells #[.bool b,.slice A n c,.int .i64 z.exp] 87 (0,0))/\IntP S w (.agg #[.bool b,.slice A n c]) z.man
theorem HasQ.below {w w':World}{z:Dy}(h:HasQ S w g z)(hb:Below w.heap.size w w'):HasQ S w' g z:=by
 obtain⟨b,A,n,c,h1,h2⟩:=h;exact⟨b,A,n,c,hbl h1 hb,h2.below hb⟩
theorem HasQ.lt {w:World}{z:Dy}(h:HasQ S w g z):g<w.heap.size:=by
 obtain⟨b,A,n,c,h1,h2⟩:=h;exact aG h1
theorem dP{w:World}{z:Int}(h:IntP p w v z)(hp:∀b,p b->b≠g)(b:Bool)(A:Option Addr)(n c:Nat)(e:Int):IntP p (put3 w g b A n c e) v z:=
 ((h.setCell (a:=⟨g,0,none⟩) hp _).setCell (a:=⟨g,1,none⟩) hp _).setCell (a:=⟨g,2,none⟩) hp _
theorem bJ{w0 w:World}(h:Below B w0 w)(hg:B<=g)(b:Bool)(A:Option Addr)(n c:Nat)(e:Int):Below B w0 (put3 w g b A n c e):=((h.setCell hg _).setCell hg _).setCell hg _
theorem agI{w:World}{b:Bool}{A:Option Addr}{n c:Nat}{e:Int}:(put3 w g b A n c e).heap.size=w.heap.size:=by simp[put3,World.setCell]
structure LS(w0 w:World)(gl gh:Nat)(zl zh:Dy):Prop where
 below:Below w0.heap.size w0 w
 lo:HasQ (NG gl gh) w gl zl
 hi:HasQ (NG gl gh) w gh zh
 ne:gl≠gh
 bl:w0.heap.size<=gl
 bh:w0.heap.size<=gh
section
variable{w0 w w':World}{gl gh:Nat}{zl zh z:Dy}{b:Bool}{A:Option Addr}{n c:Nat}
theorem LS.step (h:LS w0 w gl gh zl zh)(hb:Below w.heap.size w w'):LS w0 w' gl gh zl zh:=
 ⟨aA h.below hb,h.lo.below hb,h.hi.below hb,h.ne,h.bl,h.bh⟩
theorem LS.setLo (h:LS w0 w gl gh zl zh)(hx:IntP (NG gl gh) w (.agg #[.bool b,.slice A n c]) z.man):LS w0 (put3 w gl b A n c z.exp) gl gh z zh:=by
 obtain⟨b',A',n',c',h1,-⟩:=h.lo;obtain⟨b2,A2,n2,c2,k1,k2⟩:=h.hi;exact⟨bJ h.below h.bl b A n c z.exp,⟨b,A,n,c,set3 h1 _ _ _,dP hx (fun b hb=>hb.1) b A n c z.exp⟩,⟨b2,A2,n2,c2,(bW h.ne _ _ _).trans k1,dP k2 (fun b hb=>hb.1) b A n c z.exp⟩,h.ne,h.bl,h.bh⟩
theorem LS.setHi (h:LS w0 w gl gh zl zh)(hx:IntP (NG gl gh) w (.agg #[.bool b,.slice A n c]) z.man):LS w0 (put3 w gh b A n c z.exp) gl gh zl z:=by
 obtain⟨b',A',n',c',h1,-⟩:=h.hi;obtain⟨b2,A2,n2,c2,k1,k2⟩:=h.lo;exact⟨bJ h.below h.bh b A n c z.exp,⟨b2,A2,n2,c2,(bW (Ne.symm h.ne) _ _ _).trans k1,dP k2 (fun b hb=>hb.2) b A n c z.exp⟩,⟨b,A,n,c,set3 h1 _ _ _,dP hx (fun b hb=>hb.2) b A n c z.exp⟩,h.ne,h.bl,h.bh⟩
theorem LS.ng (h:LS w0 w gl gh zl zh)(hB:w.heap.size<=B):∀b,B<=b->NG gl gh b:=fun b hb=>by
 have:=h.lo.lt;have:=h.hi.lt;exact⟨by omega,by omega⟩
end
theorem zT{k1 k2:Nat}{y:Dy}{w:World}(h:IntP p w (.agg #[.bool b1,.slice A1 n1 k1]) x.man)(h':IntP q w (.agg #[.bool b2,.slice A2 n2 k2]) y.man)(sx:SmD x)(sy:SmD y):
 Calls Tryz.prog 49 #[.agg #[.bool b1,.slice A1 n1 k1,.int .i64 x.exp],.agg #[.bool b2,.slice A2 n2 k2,.int .i64 y.exp]] w (RetK w (cmpD x y)):=
 ajM (p:=fun b=>b<w.heap.size) (q:=fun b=>b<w.heap.size) ⟨_,_,_,_,rfl,h.weak fun b _ h=>h⟩ ⟨_,_,_,_,rfl,h'.weak fun b _ h=>h⟩ (fun b hb=>hb) (fun b hb=>hb) sx sy
end
end Go.Proofs.YtkpodipoegbclaaGreatDoor
