/- A part of the proof: contracts of functions and plain laws (FlrM, DyU, DyL, DyM, DyV, FlrA). -/
import Derived.Test.YtkadpnljocflaaaGreatDoorK13
set_option linter.unusedVariables false
set_option linter.unusedSimpArgs false
set_option linter.unnecessarySimpa false
set_option maxHeartbeats 25600000
set_option maxRecDepth 100000
namespace Go.Proofs.YtkadpnljocflaaaGreatDoor
section
open Go.RowKit
theorem afT(z:Int)(n:Nat):sg (decide (z<0)) (z.natAbs/2^n+(if z<0/\ctz z.natAbs<n then 1 else 0))=z/((2^n:Nat):Int):=by
 have hP:0<2^n:=Nat.two_pow_pos n;rcases Int.lt_or_le z 0 with h|h
 . have h0:z.natAbs≠0:=by omega
   have hd:=Nat.div_add_mod z.natAbs (2^n);have hm:=Nat.mod_lt z.natAbs hP;have hc:=wT (a:=z.natAbs) (k:=n) h0
   symm
   rw[decide_eq_true h];generalize 2^n=P at*;have hz:z=-(z.natAbs:Int):=by omega
   generalize z.natAbs=m at*;by_cases hr:m%P=0
   . rw[if_neg (by rintro⟨-,h2⟩;have:=hc.2 hr;omega)]
     show _=-((m/P+0:Nat):Int);refine((Int.ediv_emod_unique (r:=0) (by omega)).2 ⟨?_,by omega,by omega⟩).1;rw[hz];rw[hr]at hd;generalize m/P=q at*;rw[<-hd];push_cast;grind
   . rw[if_pos ⟨h,by rcases Nat.lt_or_ge (ctz m) n with h2|h2;exact h2;exact absurd (hc.1 h2) hr⟩]
     show _=-((m/P+1:Nat):Int);refine((Int.ediv_emod_unique (r:=(P:Int)-((m%P:Nat):Int)) (by omega)).2 ⟨?_,by omega,by omega⟩).1;rw[hz];generalize m/P=q at*;generalize m%P=r at*;rw[<-hd];push_cast;grind
 . rw[decide_eq_false (by omega),if_neg (by omega)]
   show((z.natAbs/2^n+0:Nat):Int)=_;rw[Nat.add_zero,Int.natCast_ediv,Int.natAbs_of_nonneg h]
def flrD(d:Dy):Int:=if 0<=d.exp then d.man*((2^d.exp.toNat:Nat):Int)else d.man/((2^(-d.exp).toNat:Nat):Int)
def vD(x y:Dy):Dy:=addD x (notD y)
def fK(lo hi:Dy)(bits:Int):Bool:=(vD hi lo).man.sign==0||decide (cmpD (vD hi lo) (mkDy 1 (-bits))<=0)
end
section
open Classical renaming byContradiction->au1
open Int renaming sign_eq_neg_one_iff_neg->au3,lt_or_le->avE
open Nat renaming pow_le_pow_right->au0,le_trans->au2,pow_add->au5,lt_of_lt_of_le->au6,two_pow_pos->au8,le_of_eq->au9,mul_le_mul->avD
open Rat renaming mul_nonneg->auW,le_refl->auX,natCast_le_natCast->auY,natCast_mul->auZ,mul_eq_zero->au4,natCast_add->au7,mul_pos->avA,natCast_nonneg->avB,natCast_pos->avC
variable{P:Int}{t:Rat}
def Err(P:Int)(r t:Rat):Prop:=∀b:Rat,-b<=t->t<=b->r-t<=2*b*p2 (-P)/\t-r<=2*b*p2 (-P)
theorem pE{T:Int}{r z:Rat}(h1:r-t<=p2 (T-P))(h2:t-r<=p2 (T-P))(hz:p2 (T-1)<=z)(ht:t=z\/t=-z):Err P r t:=by
 intro b hb1 hb2;have h3:z<=b:=by rcases ht with h|h<;>grind
 have e:p2 (T-P)=2*p2 (T-1)*p2 (-P):=by
  rw[show T-P=(T-1+1)+-P from by omega,bZ,fV]
 have hp:=bC (-P);have:=auW (a:=2*(b-p2 (T-1))) (b:=p2 (-P)) (by grind) (by grind);constructor<;>grind
theorem oD:Err P 0 0:=by
 intro b h1 h2;have:=auW (a:=2*b) (b:=p2 (-P)) (by grind) (by have:=bC (-P);grind);constructor<;>grind
theorem vE(a:Dy)(dir:Int)(hP:1<=P):Err P (rv (aM a P dir)) (rv a):=by
 obtain⟨-,-,h1,h2⟩:=iQ a dir hP;by_cases h0:a.man=0
 . have e0:rv a=0:=(aW a).2.2.2 h0
   have e1:aM a P dir=⟨0,0⟩:=by
    unfold aM;rw[h0,aS,if_pos (by show((bits 0:Nat):Int)<=P;have:bits 0=0:=rfl;omega)]
   rw[e0,e1,kL];exact oD
 . have hv:rv (mkDy a.man a.exp)=rv a:=jV _ _
   rcases o9 (mkDy a.man a.exp) (by rcases gW a.man a.exp with ⟨g1,g2⟩|⟨g1,g2,-⟩<;>first|exact absurd g2 h0|exact g2)with h3|h3<;>rw[hv]at h3
   . exact pE h1 h2 h3 (Or.inl rfl)
   . exact pE h1 h2 (z:=-rv a) (by grind) (Or.inr (by grind))
theorem sQ{x:Int}(e:Int)(h:0<=x):0<=(mkDy x e).man:=by
 rcases avE (mkDy x e).man 0 with g|g
 . have h1:=ahI x e
   rw[au3.2 g]at h1;have:=au3.1 h1.symm;omega
 . exact g
theorem wU{a:Dy}(dir:Int)(h:0<=a.man):0<=rv (aM a P dir):=by
 have hm:=sQ a.exp h;unfold aM
 split
 . unfold rv
   exact auW (Rat.intCast_nonneg.2 hm) (by have:=bC (mkDy a.man a.exp).exp;grind)
 . rw[jV,show decide ((mkDy a.man a.exp).man<0)=false from by simpa using hm]
   refine auW ?_ (by have:=bC ((mkDy a.man a.exp).exp+((bits (mkDy a.man a.exp).man.natAbs:Int)-P));grind);rw[wR];exact avB
theorem afU(d:Dy):rv d=sgq (decide (d.man<0)) ((d.man.natAbs:Rat)*p2 d.exp):=by
 unfold rv sgq;rcases iD d.man with ⟨h4,h5⟩|⟨h4,h5⟩<;>rw[h4]
 . rw[if_neg (by simp;omega)]
 . rw[if_pos (by simpa using h5)];grind
theorem ahX(b c:Bool)(x y:Rat):sgq (b != c) x*sgq c y=sgq b (x*y):=by cases b<;>cases c<;>simp[sgq]<;>grind
theorem jG(x y:Dy)(dir:Int)(hP:1<=P)(hy:y.man≠0)(ht:t*rv y=rv x):
 (dir<0->rv (quoD x y P dir)<=t)/\(0<=dir->t<=rv (quoD x y P dir))/\Err P (rv (quoD x y P dir)) t:=by
 have hy0:rv y≠0:=fun h=>hy ((aW y).2.2.1 h);unfold quoD;by_cases hx:x.man=0
 . rw[if_pos hx,kL]
   have e0:rv x=0:=(aW x).2.2.2 hx;rw[e0]at ht;have:t=0:=by rcases au4.1 ht with h|h<;>first|exact absurd h hy0|exact h
   rw[this];exact⟨fun _=>auX,fun _=>auX,oD⟩
 . rw[if_neg hx]
   obtain⟨A,B,hB,e1,e2,e3,e4,e5⟩:=yP (a:=x.man.natAbs) (b:=y.man.natAbs) (P:=P) (by omega) (by omega) hP;rw[e1];obtain⟨q1,q2,q3⟩:=ahW (A:=A) hB;have hBr:(0:Rat)<(B:Rat):=avC.2 hB;have hbr:(0:Rat)<(y.man.natAbs:Rat):=avC.2 (by omega);obtain⟨e,he⟩:∃e,e=x.exp-y.exp-quoA x.man.natAbs y.man.natAbs P:=⟨_,rfl⟩;rw[<-he];have hpe:=bC e;generalize hneg:(decide (x.man<0) != decide (y.man<0))=neg at*;generalize quoM x.man.natAbs y.man.natAbs P=more at*
   -- the amount of the quotient
   obtain⟨z,hz⟩:∃z:Rat,z=(A:Rat)/B*p2 e:=⟨_,rfl⟩;have hAB:(A:Rat)/B*B=A:=by grind
   have htz:t=sgq neg z:=by
    have k1:z*((y.man.natAbs:Rat)*p2 y.exp)=(x.man.natAbs:Rat)*p2 x.exp:=by
     rw[hz];have k2:p2 x.exp=p2 (quoA x.man.natAbs y.man.natAbs P)*p2 e*p2 y.exp:=by rw[<-bZ,<-bZ];congr 1;omega
     rw[k2];generalize p2 (quoA x.man.natAbs y.man.natAbs P)=u at*;generalize p2 e=v at*;generalize p2 y.exp=w at*;have k3:(A:Rat)/B*(y.man.natAbs:Rat)=(x.man.natAbs:Rat)*u:=by
      have:((A:Rat)/B*(y.man.natAbs:Rat)-(x.man.natAbs:Rat)*u)*B=0:=by grind
      rcases au4.1 this with h|h<;>grind
     grind
    have k4:sgq neg z*rv y=rv x:=by
     rw[afU x,afU y,<-hneg,ahX,k1]
    have k5:(t-sgq neg z)*rv y=0:=by grind
    rcases au4.1 k5 with h|h
    . grind
    . exact absurd h hy0
   have l1:((A/B:Nat):Rat)*p2 e<=z:=by
    rw[hz];have:((A/B:Nat):Rat)<=(A:Rat)/B:=by
     apply au1;intro hc;have:=avA (a:=((A/B:Nat):Rat)-(A:Rat)/B) (b:=(B:Rat)) (by grind) hBr;grind
    have:=auW (a:=(A:Rat)/B-((A/B:Nat):Rat)) (b:=p2 e) (by grind) (by grind);grind
   have l2:z<=(((A/B:Nat):Rat)+1)*p2 e:=by
    rw[hz];have:(A:Rat)/B<=((A/B:Nat):Rat)+1:=by
     apply au1;intro hc;have:=avA (a:=(A:Rat)/B-(((A/B:Nat):Rat)+1)) (b:=(B:Rat)) (by grind) hBr;grind
    have:=auW (a:=((A/B:Nat):Rat)+1-(A:Rat)/B) (b:=p2 e) (by grind) (by grind);grind
   have l3:more=false->z=((A/B:Nat):Rat)*p2 e:=by
    intro h;have h6:A%B=0:=by
     apply au1;intro hc;have:=e2.2 hc;rw[h]at this;cases this
    have h7:=q3 h6;rw[hz];have:(A:Rat)/B=((A/B:Nat):Rat):=by
     have:((A:Rat)/B-((A/B:Nat):Rat))*B=0:=by grind
     rcases au4.1 this with h|h<;>grind
    rw[this]
   obtain⟨r1,r2,r3,r4⟩:=kY (neg:=neg) (P:=P) dir hP l1 l2 l3 (fun _=>e4);rw[htz];refine⟨r1,r2,?_⟩;have hbm:=(nZ (m:=A/B) (by intro h;rw[h]at e4;have:bits 0=0:=rfl;omega)).1;refine pE r3 r4 (z:=z) ?_ (by unfold sgq;cases neg<;>simp);rw[show(bits (A/B):Int)+e-1=((bits (A/B):Int)-1)+e from by omega,bZ];have:=auW (a:=((A/B:Nat):Rat)-p2 ((bits (A/B):Int)-1)) (b:=p2 e) (by grind) (by grind);grind
theorem yQ(x y:Dy)(dir:Int)(hP:1<=P)(hy:y.man≠0):Canon (quoD x y P dir)/\(bits (quoD x y P dir).man.natAbs:Int)<=P/\
 ((quoD x y P dir).man≠0->topD x-topD y-P-4<=(quoD x y P dir).exp/\topD (quoD x y P dir)<=topD x-topD y+2):=by
 unfold quoD;by_cases hx:x.man=0
 . rw[if_pos hx]
   exact⟨aS 0,by show((bits 0:Nat):Int)<=P;have:bits 0=0:=rfl;omega,fun h=>absurd rfl h⟩
 . rw[if_neg hx]
   obtain⟨A,B,hB,e1,e2,e3,e4,e5⟩:=yP (a:=x.man.natAbs) (b:=y.man.natAbs) (P:=P) (by omega) (by omega) hP;rw[e1];obtain⟨k1,k2,k3⟩:=oC (neg:=(decide (x.man<0) != decide (y.man<0))) (m:=A/B) (e:=x.exp-y.exp-quoA x.man.natAbs y.man.natAbs P) (more:=quoM x.man.natAbs y.man.natAbs P) (P:=P) dir hP;refine⟨k1,k2,fun h=> ?_⟩;obtain⟨k4,k5⟩:=k3 h;have t1:topD x=bits x.man.natAbs+x.exp:=by unfold topD;rw[if_neg hx]
   have t2:topD y=bits y.man.natAbs+y.exp:=by unfold topD;rw[if_neg hy]
   have t3:quoA x.man.natAbs y.man.natAbs P=P+2-bits x.man.natAbs+bits y.man.natAbs:=rfl;omega
def sqM(x:Dy):Nat:=if x.exp%2=0 then x.man.natAbs else x.man.natAbs*2
def sqE(x:Dy):Int:=if x.exp%2=0 then x.exp else x.exp-1
def sqN(x:Dy)(P:Int):Int:=(2*(P+2)-bits (sqM x))+(2*(P+2)-bits (sqM x))%2
def sqX(x:Dy)(P:Int):Nat:=if 0<=sqN x P then sqM x*2^(sqN x P).toNat else sqM x/2^(-sqN x P).toNat
def sqR(x:Dy)(P:Int):Bool:=(decide (sqN x P<0)&&decide ((ctz (sqM x):Int)< -sqN x P))||decide (0<bits (sqX x P-bQ (sqX x P)*bQ (sqX x P)))
def aL(x:Dy)(P dir:Int):Dy:=if x.man=0 then⟨0,0⟩else aP false (bQ (sqX x P)) ((sqE x-sqN x P)/2) (sqR x P) P dir
theorem abV{x:Dy}(hx:0<x.man)(hP:1<=P):∃(m:Nat) (f:Int),bQ (sqX x P)=m/\(sqE x-sqN x P)/2=f/\
 ((m:Rat)*p2 f)*((m:Rat)*p2 f)<=rv x/\rv x<=(((m:Rat)+1)*p2 f)*(((m:Rat)+1)*p2 f)/\(sqR x P=false->rv x=((m:Rat)*p2 f)*((m:Rat)*p2 f))/\
 P+2<=bits m/\(bits m:Int)<=P+3/\topD x-2*P-8<=2*f/\2*f<=topD x-2*P-3:=by
 have hM0:sqM x≠0:=by unfold sqM;split<;>omega
 have hv:rv x=(sqM x:Rat)*p2 (sqE x):=by
  unfold rv sqM sqE;rcases iD x.man with ⟨h4,h5⟩|⟨h4,h5⟩
  . split
    . rw[h4]
    . rw[auZ,h4,show p2 x.exp=p2 (x.exp-1+1) from by congr 1;omega,fV]
      have:((2:Nat):Rat)=2:=rfl;grind
  . omega
 have hE:sqE x%2=0:=by unfold sqE;split<;>omega
 have hT:topD x=bits (sqM x)+sqE x:=by
  unfold topD sqM sqE;rw[if_neg (by omega)]
  split
  . rfl
  . have:=jF (n:=x.man.natAbs) (by omega) 1
    rw[Nat.pow_one]at this;omega
 have hN:sqN x P=(2*(P+2)-bits (sqM x))+(2*(P+2)-bits (sqM x))%2:=rfl;have hr:=dO (sqX x P);unfold sqR;generalize hX:sqX x P=X at*;unfold sqX at hX;generalize sqM x=a at*;generalize sqE x=E at*;generalize hn:sqN x P=n at*;obtain⟨f,hf⟩:∃f,(E-n)/2=f:=⟨_,rfl⟩;have hfE:E=n+2*f:=by omega
 obtain⟨h1,h2⟩:=hr;generalize hm:bQ X=m at*;have a1:=(aF a (bits a)).1 nlr;have hba:=(not_congr (bK a)).2 hM0;have a2:2^(bits a-1)<=a:=by
  have:¬bits a<=bits a-1:=by omega
  rw[aF]at this;omega
 obtain⟨Q,hQ⟩:∃Q:Nat,P=Q:=⟨P.toNat,by omega⟩;subst hQ
 -- v = y * p2 (2 f), X <= y < X + 1
 obtain⟨y,hy1,hy2,hy3,hy4,hy5,hy6⟩:∃y:Rat,rv x=y*p2 (2*f)/\(X:Rat)<=y/\y<=(X:Rat)+1/\((decide (n<0)&&decide ((ctz a:Int)< -n))=false->y=X)/\2^(2*Q+2)<=X/\X<2^(2*Q+6):=by
  rcases avE n 0 with h|h
  . obtain⟨k,hk⟩:∃k:Nat,n=-(k:Int):=⟨(-n).toNat,by omega⟩
    rw[if_neg (by omega),hk,show(-(-(k:Int))).toNat=k from by omega]at hX;have e1:=nY (-(k:Int)) k (by omega);rw[show(-(k:Int)+(k:Int)).toNat=0 from by omega]at e1;have e4:((2^0:Nat):Rat)=1:=rfl;rw[e4]at e1;obtain⟨d1,d2⟩:=mX a k;rw[hX]at d1 d2;have c1:=auY.2 d1;have c2:=auY.2 (Nat.le_of_lt d2);rw[auZ]at c1 c2;rw[au7]at c2;have e5:((1:Nat):Rat)=1:=rfl;rw[e5]at c2;have hpk:=bC (-(k:Int));refine⟨(a:Rat)*p2 (-(k:Int)),?_,?_,?_,?_,?_,?_⟩
    . rw[hv,hfE,hk,bZ];grind
    . have:=auW (a:=(a:Rat)-(X:Rat)*((2^k:Nat):Rat)) (b:=p2 (-(k:Int))) (by grind) (by grind)
      have:(X:Rat)*((2^k:Nat):Rat)*p2 (-(k:Int))=X:=by
       have:(X:Rat)*((2^k:Nat):Rat)*p2 (-(k:Int))=X*(p2 (-(k:Int))*((2^k:Nat):Rat)):=by grind
       rw[this,e1];grind
      grind
    . have:=auW (a:=((X:Rat)+1)*((2^k:Nat):Rat)-(a:Rat)) (b:=p2 (-(k:Int))) (by grind) (by grind)
      have:((X:Rat)+1)*((2^k:Nat):Rat)*p2 (-(k:Int))=X+1:=by
       have:((X:Rat)+1)*((2^k:Nat):Rat)*p2 (-(k:Int))=(X+1)*(p2 (-(k:Int))*((2^k:Nat):Rat)):=by grind
       rw[this,e1];grind
      grind
    . intro hh
      rw[hk]at hh;have hc:k<=ctz a:=by
       simp only[Bool.and_eq_false_iff,decide_eq_false_iff_not]at hh;omega
      have h7:=(wT hM0).1 hc;have h8:=Nat.div_add_mod a (2^k);rw[h7,hX,Nat.add_zero]at h8;rw[<-h8,auZ];have:((2^k:Nat):Rat)*(X:Rat)*p2 (-(k:Int))=X*(p2 (-(k:Int))*((2^k:Nat):Rat)):=by grind
      rw[this,e1];grind
    . rw[<-hX,Nat.le_div_iff_mul_le (au8 k)]
      refine au2 (au9 ?_) (au2 (au0 (by omega) (show 2*Q+2+k<=bits a-1 by omega)) a2);rw[<-au5]
    . rw[<-hX,Nat.div_lt_iff_lt_mul (au8 k)]
      refine au6 a1 (au2 (au0 (by omega) (show bits a<=2*Q+6+k by omega)) (au9 ?_));rw[<-au5]
  . obtain⟨k,hk⟩:∃k:Nat,n=(k:Int):=⟨n.toNat,by omega⟩
    rw[if_pos h,hk,Int.toNat_natCast]at hX;refine⟨(X:Rat),?_,auX,by grind,fun _=>rfl,?_,?_⟩
    . rw[hv,hfE,hk,bZ,eX,<-hX,auZ];grind
    . rw[<-hX]
      refine au2 (au2 (au0 (by omega) (show 2*Q+2<=bits a-1+k by omega)) (au9 (au5 2 (bits a-1) k))) (Nat.mul_le_mul_right _ a2)
    . rw[<-hX]
      refine au6 ((Nat.mul_lt_mul_right (au8 k)).2 a1) (au2 (au9 (au5 2 (bits a) k).symm) (au0 (by omega) (by omega)))
 have c1:=auY.2 h1;have c2:=auY.2 (show X+1<=(m+1)*(m+1) from h2);rw[auZ]at c1 c2;rw[au7,au7]at c2;have e5:((1:Nat):Rat)=1:=rfl;rw[e5]at c2;have e6:p2 (2*f)=p2 f*p2 f:=by rw[<-bZ];congr 1;omega
 rw[e6]at hy1;have hpf:=bC f;have hpp:=avA hpf hpf;refine⟨m,f,rfl,hf,?_,?_,?_,?_,?_,?_,?_⟩
 . rw[hy1]
   have:=auW (a:=y-(m:Rat)*m) (b:=p2 f*p2 f) (by grind) (by grind);grind
 . rw[hy1]
   have:=auW (a:=((m:Rat)+1)*((m:Rat)+1)-y) (b:=p2 f*p2 f) (by grind) (by grind);grind
 . intro hh
   simp only[Bool.or_eq_false_iff]at hh;have h8:=hy4 hh.1;have h9:X=m*m:=by
    have:=hh.2;simp only[decide_eq_false_iff_not]at this;have:=(bK (X-m*m)).1 (by omega);omega
   rw[hy1,h8,h9,auZ];grind
 . have h8:¬bits m<=Q+1:=by
    rw[aF];intro h9;have h10:(m+1)*(m+1)<=2^(Q+1)*2^(Q+1):=avD h9 h9;rw[<-au5]at h10;have h11:X<2^(Q+1+(Q+1)):=au6 h2 h10;rw[show Q+1+(Q+1)=2*Q+2 from by omega]at h11;omega
   omega
 . have h8:bits m<=Q+3:=by
    rw[aF];rcases Nat.lt_or_ge m (2^(Q+3))with h9|h9
    . exact h9
    . exfalso
      have h10:2^(Q+3)*2^(Q+3)<=m*m:=avD h9 h9;rw[<-au5,show Q+3+(Q+3)=2*Q+6 from by omega]at h10;omega
   omega
 . omega
 . omega
theorem oF(x:Dy)(dir:Int)(hP:1<=P)(hx:0<=x.man):∃q q':Rat,0<=q/\q<=q'/\q*q<=rv x/\rv x<=q'*q'/\
 0<=rv (aL x P dir)/\(dir<0->rv (aL x P dir)<=q)/\(0<=dir->q'<=rv (aL x P dir))/\q'-q<=q*p2 (-P)/\Err P (rv (aL x P dir)) q/\Err P (rv (aL x P dir)) q':=by
 unfold aL;by_cases h0:x.man=0
 . rw[if_pos h0,kL]
   have e0:rv x=0:=(aW x).2.2.2 h0;rw[e0];exact⟨0,0,auX,auX,by grind,by grind,auX,fun _=>auX,fun _=>auX,by grind,oD,oD⟩
 . rw[if_neg h0]
   obtain⟨m,f,e1,e2,h1,h2,h3,h4,h5,-,-⟩:=abV (x:=x) (P:=P) (by omega) hP;rw[e1,e2];have hpf:=bC f;have hm0:(0:Rat)<=(m:Rat):=avB;have hq0:=auW hm0 (show 0<=p2 f by grind);have hbm:=(nZ (m:=m) (by intro h;rw[h]at h4;have:bits 0=0:=rfl;omega)).1;have hnn:0<=rv (aP false m f (sqR x P) P dir):=by
    unfold aP;refine wU dir ?_;exact sQ _ (by show(0:Int)<=((_:Nat):Int);omega)
   have hE:p2 ((bits m:Int)+f-1)<=(m:Rat)*p2 f:=by
    rw[show(bits m:Int)+f-1=((bits m:Int)-1)+f from by omega,bZ];have:=auW (a:=(m:Rat)-p2 ((bits m:Int)-1)) (b:=p2 f) (by grind) (by grind);grind
   have b1:=kY (neg:=false) (more:=sqR x P) (P:=P) (z:=(m:Rat)*p2 f) (m:=m) (e:=f) dir hP auX (by grind) (fun _=>rfl) (fun _=>h4);have sf:∀z,sgq false z=z:=fun z=>by unfold sgq;simp
   rw[sf]at b1
   cases hr:sqR x P
   . rw[hr]at b1 hnn
     have h6:=h3 hr;have hz0:0<=(m:Rat)*p2 f*p2 (-P):=auW hq0 (by have:=bC (-P);grind);have er:=pE b1.2.2.1 b1.2.2.2 hE (Or.inl rfl);exact⟨(m:Rat)*p2 f,(m:Rat)*p2 f,hq0,auX,h1,by rw[h6];exact auX,hnn,b1.1,b1.2.1,by grind,er,er⟩
   . rw[hr]at b1 hnn
     have b2:=kY (neg:=false) (more:=true) (P:=P) (z:=((m:Rat)+1)*p2 f) (m:=m) (e:=f) dir hP (by grind) auX (fun h=>by cases h) (fun _=>h4);rw[sf]at b2;refine⟨(m:Rat)*p2 f,((m:Rat)+1)*p2 f,hq0,by grind,h1,h2,hnn,b1.1,b2.2.1,?_,pE b1.2.2.1 b1.2.2.2 hE (Or.inl rfl),pE b2.2.2.1 b2.2.2.2 (z:=((m:Rat)+1)*p2 f) (by grind) (Or.inl rfl)⟩
     -- p2 f <= m * p2 f * p2 (-P)
     have h7:p2 P<=(m:Rat):=by
      have:=iC (show P<=(bits m:Int)-1 by omega);grind
     have h8:p2 P*p2 (-P)=1:=by rw[<-bZ,show P+-P=0 from by omega,kK]
     have h9:=auW (a:=(m:Rat)-p2 P) (b:=p2 f*p2 (-P)) (by grind) (by have:=avA hpf (bC (-P));grind);have h10:p2 P*(p2 f*p2 (-P))=p2 f:=by
      have:p2 P*(p2 f*p2 (-P))=p2 P*p2 (-P)*p2 f:=by grind
      rw[this,h8];grind
     have h11:((m:Rat)-p2 P)*(p2 f*p2 (-P))=(m:Rat)*p2 f*p2 (-P)-p2 P*(p2 f*p2 (-P)):=by grind
     rw[h11,h10]at h9;have h12:((m:Rat)+1)*p2 f=(m:Rat)*p2 f+p2 f:=by grind
     rw[h12];generalize (m:Rat)*p2 f*p2 (-P)=u at*;generalize (m:Rat)*p2 f=v at*;grind
theorem ac6(x:Dy)(dir:Int)(hP:1<=P)(hx:0<=x.man):Canon (aL x P dir)/\(bits (aL x P dir).man.natAbs:Int)<=P/\
 ((aL x P dir).man≠0->topD x-2*P-10<=2*(aL x P dir).exp/\2*topD (aL x P dir)<=topD x+5):=by
 unfold aL;by_cases h0:x.man=0
 . rw[if_pos h0]
   exact⟨aS 0,by show((bits 0:Nat):Int)<=P;have:bits 0=0:=rfl;omega,fun h=>absurd rfl h⟩
 . rw[if_neg h0]
   obtain⟨m,f,e1,e2,-,-,-,h4,h5,h6,h7⟩:=abV (x:=x) (P:=P) (by omega) hP;rw[e1,e2];obtain⟨k1,k2,k3⟩:=oC (neg:=false) (m:=m) (e:=f) (more:=sqR x P) (P:=P) dir hP;refine⟨k1,k2,fun h=> ?_⟩;obtain⟨k4,k5⟩:=k3 h;omega
end
section
open Go.RowKit
open Nat renaming le_trans->avF,le_of_eq->avG,add_zero->avH,mod_lt->avI
variable{b g n:Nat}{p:Nat->Prop}{v va:Value}{w:World}
theorem pF{p:Int}(hp:1<=p/\p<=65536):Calls Tryz.prog 175 #[.int .i64 p] w (fun e w'=>e=.returned (.int .i64 p)/\w=w'):=by
 go_enter Tryz.func175,Tryz.ntmps175
 go_wp2;go_ret;exact⟨by show Ending.returned (.int .i64 (max 1 (min p 65536)))=_;rw[show max 1 (min p 65536)=p from by omega],rfl⟩
theorem bW{i:Nat}(h:g≠i)(u v x:Value):(((w.setCell ⟨g,0,none⟩ u).setCell ⟨g,1,none⟩ v).setCell ⟨g,2,none⟩ x).heap[i]? =w.heap[i]? :=by
 rw[Below.heap_setCell _ _ _ _ (by simp;omega),Below.heap_setCell _ _ _ _ (by simp;omega),Below.heap_setCell _ _ _ _ (by simp;omega)]
theorem aaU{x:Dy}{P dir:Int}(hx:DyP p w va x)(hT:Tab w)(sx:SmD x)(hP:1<=P/\P<=65536)(hb:(bits (mkDy x.man x.exp).man.natAbs:Int)<=P):
 Calls Tryz.prog 132 #[va,.int .i64 P,.int .i64 dir] w (RetD w.heap.size w (mkDy x.man x.exp)):=by
 obtain⟨ba,A,n,c,rfl,h⟩:=hx;obtain⟨w2,hw2,hb2,hs2,b1,b2⟩:=pro2 w (.cells #[Value.bool ba,.slice A n c,.int .i64 x.exp] 90) (.cells #[Value.bool false,Value.slice none 0 0,.int .i64 0] 90);have HB:=hdd hb2;have HS:=hdd hs2;have B1:=hdd b1;have B2:=hdd b2;have HBI:=hdd hb;have HPP:=hdd hP;obtain⟨c0,c1,c2,-,-,-⟩:=cells3 b1;have HMK:=hdd (bX (e:=x.exp) (h.below hb2) (hT.below hb2) (by have:=sx.1;omega) (by have:=sx.2;omega));have HSX:=hdd sx;clear h hb2 b1 b2 hs2 hT sx hb;go_enter Tryz.func132,Tryz.ntmps132
 go_wp2_with fail
 refine HMK.out.mono ?_;rintro r w3⟨hb,v5,rfl,hz⟩;obtain⟨b6,A6,n6,c6,rfl,hz2⟩:=id hz;have B13:=hbl B1.out hb;have B23:=hdd (hbl B2.out hb);obtain⟨e0,e1,e2,e3,e4,e5⟩:=cells3 B13;have S1:=set3 B13 (.bool b6) (.slice A6 n6 c6) (.int .i64 (mkDy x.man x.exp).exp);have hI:IntP (fun b=>w2.heap.size<=b) (((w3.setCell ⟨w.heap.size,0,none⟩ (.bool b6)).setCell ⟨w.heap.size,1,none⟩ (.slice A6 n6 c6)).setCell ⟨w.heap.size,2,none⟩ (.int .i64 (mkDy x.man x.exp).exp)) (.agg #[.bool b6,.slice A6 n6 c6]) (mkDy x.man x.exp).man:=
  ((hz2.setCell (fun b hb=>by have:=HS.out;simp;omega) _).setCell (fun b hb=>by have:=HS.out;simp;omega) _).setCell (fun b hb=>by have:=HS.out;simp;omega) _
 have S2:=(bW (w:=w3) (g:=w.heap.size) (i:=w.heap.size+1) (by omega) (.bool b6) (.slice A6 n6 c6) (.int .i64 (mkDy x.man x.exp).exp)).trans B23.out;have hbb:Below w.heap.size w (((w3.setCell ⟨w.heap.size,0,none⟩ (.bool b6)).setCell ⟨w.heap.size,1,none⟩ (.slice A6 n6 c6)).setCell ⟨w.heap.size,2,none⟩ (.int .i64 (mkDy x.man x.exp).exp)):=(((HB.out.trans (hb.mono HB.out.size)).setCell (by simp) _).setCell (by simp) _).setCell (by simp) _;generalize hE:(mkDy x.man x.exp).exp=E at*;generalize hW:((w3.setCell ⟨w.heap.size,0,none⟩ (.bool b6)).setCell ⟨w.heap.size,1,none⟩ (.slice A6 n6 c6)).setCell ⟨w.heap.size,2,none⟩ (.int .i64 E)=w4 at*;obtain⟨c0,c1,c2,-,-,-⟩:=cells3 S1;obtain⟨xs,hx1,-,hx3,-⟩:=hI.get;have HBT:=hdd (cO hx1);have HI:=hdd hI;have HS1:=hdd S1;have HS2:=hdd S2;have HBB:=hdd hbb;have hle:¬(0:Int)<(bits (val xs):Int)-P:=by have:=HBI.out;rw[hx3];omega
 have hle2:(bits (val xs):Int)-P<=0:=by omega
 have hwr:IntKind.i64.wrap ((bits (val xs):Int)-P)=(bits (val xs):Int)-P:=wrap_i64 (by have:=HPP.out;omega);have HWD:=fun w'=>pF (w:=w') HPP.out;clear hx1 hx3 hI S1 S2 hbb hz hz2 hb B13 hP;go_wp2_with fail
 refine HBT.out.mono ?_;rintro r w5⟨rfl,k,rfl⟩;have hd:=below_drewN w4 k;replace c0:=cbl c0 hd;replace c1:=cbl c1 hd;replace c2:=cbl c2 hd;replace HI:=hdd (HI.out.below hd);replace HS2:=hdd (hbl HS2.out hd);replace HBB:=hdd (HBB.out.trans (hd.mono HBB.out.size));clear hd HS1;generalize w4.drewN k=w5 at*;have HWD5:=hdd (HWD w5);clear HWD;go_wp2_with fail
 refine HWD5.out.mono ?_;rintro r w6⟨rfl,hw⟩;obtain rfl:=hw;obtain⟨f0,f1,f2,f3,f4,f5⟩:=cells3 HS2.out;have hD:DyP (fun b=>w2.heap.size<=b) w5 (.agg #[.bool b6,.slice A6 n6 c6,.int .i64 E]) (mkDy x.man x.exp):=⟨b6,A6,n6,c6,by rw[hE],HI.out⟩;obtain⟨HFF,hFF⟩:=aJ HBB.out (g:=w.heap.size+1) (by omega) HS2.out hD (fun b hb=>by have:=HS.out;omega);replace hFF:=hdd hFF;clear hD;go_wp2;obtain⟨f0,f1,f2,-,-,-⟩:=cells3 hFF.out;refine bodyPost_ret (v:=.agg #[_,_,_]) (by simp[results,Tryz.results132,go_sem,f0,f1,f2];first|exact⟨rfl,rfl,rfl⟩|rfl) rfl ?_;exact HFF.out
theorem afV(hb:b<2^64)(hf:fin b):
 (b/2^52%2048=0->fv b=sg (fneg b) (b%2^52))/\(b/2^52%2048≠0->fv b=sg (fneg b) (b%2^52+2^52)*(2^(b/2^52%2048-1):Nat)):=by
 have hr:rung b=b%2^63:=rfl;have key:fv b=sg (fneg b) (mg (rung b)):=by
  unfold fv sr fvr sg
  cases fneg b
  . simp only[Bool.false_eq_true,if_false];rw[if_neg (by omega),Int.natAbs_natCast]
  . simp only[if_true]
    rw[Int.natAbs_neg,Int.natAbs_natCast];rcases Nat.eq_zero_or_pos (rung b)with h0|h0
    . rw[h0,nR];simp
    . rw[if_pos (by omega)]
 refine⟨fun h=> ?_,fun h=> ?_⟩
 . rw[key,jM _ (by omega)]
   congr 1;omega
 . rw[key,iI _ (by omega),<-kF]
   congr 1
   have e1:rung b/2^52=b/2^52%2048:=by omega
   have e2:rung b%2^52=b%2^52:=by omega
   rw[e1,e2,Nat.add_comm]
theorem afW(hb:b<18446744073709551616):(Go.bits BinOp.and IntKind.u64 (b:Int) 9223372036854775808 != 0)=fneg b:=by
 have h:=u64_and_nat b 9223372036854775808 hb (by omega);rw[show((9223372036854775808:Int))=((9223372036854775808:Nat):Int) from rfl,h,show(9223372036854775808:Nat)=2^63 from rfl];have e1:(b &&& 2^63)/2^63=b/2^63%2:=by rw[Nat.and_div_two_pow,Nat.div_self (by omega),Nat.and_one_is_mod]
 have e2:(b &&& 2^63)%2^63=0:=by rw[Nat.and_mod_two_pow,Nat.mod_self,Nat.and_zero]
 have e3:=Nat.div_add_mod (b &&& 2^63) (2^63);rw[e1,e2]at e3;unfold fneg;by_cases hc:b/2^63%2=1
 . rw[beq_iff_eq.2 hc,<-e3,hc];decide
 . rw[beq_eq_false_iff_ne.2 hc,<-e3,show b/2^63%2=0 from by omega];decide
theorem aj9{m:Nat}(hm:m<4503599627370496):Go.bits BinOp.or IntKind.u64 (m:Int) 4503599627370496=((m+4503599627370496:Nat):Int):=by
 have h:=u64_or_nat m 4503599627370496 (by omega) (by omega);rw[show((4503599627370496:Int))=((4503599627370496:Nat):Int) from rfl,h]
 congr 1
 have:=Nat.two_pow_add_eq_or_of_lt (i:=52) (b:=m) hm 1;rw[Nat.or_comm,show(4503599627370496:Nat)=2^52*1 from rfl,<-this];omega
theorem aaV(hb:b<2^64)(hf:fin b):(b/2^52%2048=0->mkDy (sg (fneg b) (b%2^52)) (-1074)=mkDy (fv b) (-1074))/\
 (b/2^52%2048≠0->mkDy (sg (fneg b) (b%2^52+2^52)) ((b/2^52%2048:Nat)-1+-1074)=mkDy (fv b) (-1074)):=by
 obtain⟨h1,h2⟩:=afV hb hf;refine⟨fun h=>by rw[h1 h],fun h=> ?_⟩;rw[h2 h];refine qP (j:=b/2^52%2048-1) (k:=0) (by simp) (by omega)
def qC(B:Nat)(w0:World)(d:Dy)(t:Bool)(e:Ending)(w':World):Prop:=
 Below B w0 w'/\∃v,e=.returned (.tuple #[v,.bool t])/\DyP (fun b=>B<=b) w' v d
theorem dU{B:Nat}{w0 w':World}{d:Dy}{t:Bool}(h:RetD B w0 d (.returned v) w'):qC B w0 d t (.returned (.tuple #[v,.bool t])) w':=by
 obtain⟨h1,v',e,h2⟩:=h;injection e with e;subst e;exact⟨h1,v,rfl,h2⟩
theorem qD(hb:b<18446744073709551616)(hf:fin b)(hT:Tab w):
 Calls Tryz.prog 214 #[.float .f64 b] w (qC w.heap.size w (mkDy (fv b) (-1074)) true):=by
 obtain⟨w1,hw1,hb1,hs1,b1⟩:=pro1 w (.cells #[Value.bool false,Value.slice none 0 0,.int .i64 0] 90);have F1:=hdd (iY (b:=b) (w:=w1) hb);rw[decide_eq_true hf]at F1;have hbits:=dY b;have hS:=afW hb;have hA:=wN b 52 hb (by omega);rw[show(((2^52-1:Nat)):Int)=4503599627370495 from rfl]at hA;have hX:=wN (b/4503599627370496) 11 (by omega) (by omega);rw[show(((2^11-1:Nat)):Int)=2047 from rfl,show((b/4503599627370496:Nat):Int)=(b:Int)/4503599627370496 from by omega]at hX;have hO:=aj9 (m:=b%2^52) (by omega);obtain⟨M1,M2⟩:=aaV hb hf;rw[show b/4503599627370496%2^11=b/2^52%2048 from rfl]at hX;have hm:=avI b (show 2^52>0 by omega);have hx:=avI (b/2^52) (show 2048>0 by omega);generalize b/2^52%2048=x at*;generalize b%2^52=m at*;have hcv:IntKind.i64.wrap (x:Int)=(x:Int):=wrap_i64 (by omega);have HB:=hdd hb1;have HS:=hdd hs1;have B1:=hdd b1;have HT:=hdd (hT.below hb1);clear hb1 b1 hT hb hf;by_cases h0:x=0
 . subst h0
   have HM:=hdd (M1 rfl);obtain⟨w2,hw2,hb2,hs2,q2⟩:=pro1 w1 (.cells #[.int .u64 ((m:Nat):Int)] 149);have HN:=hdd (iV (NatP.one (x:=m) (by unfold B64;omega) q2 (p:=AnyB) trivial));rw[hs1]at HN;have HB2:=hdd (HB.out.trans (hb2.mono HB.out.size));have B12:=hdd (aD B1.out hb2 (aC B1.out));have HT2:=hdd (HT.out.below hb2);have HS2:=hdd hs2;clear hb2 hs2 q2 HB HT;go_enter Tryz.func214,Tryz.ntmps214
   go_wp2_with fail
   refine F1.out.mono ?_;rintro e w3⟨rfl,hw⟩;obtain rfl:=hw;go_wp2_with fail
   refine HN.out.mono ?_;rintro r w3⟨hb,v3,zs,rfl,hz,tz,hvz⟩;have HMK:=hdd (bR (b:=fneg b) hz);replace HB2:=hdd (HB2.out.trans (hb.mono HB2.out.size));replace B12:=hdd (aD B12.out hb (aC B12.out));replace HT2:=hdd (HT2.out.below hb);replace HS2:=hdd (avF (avG HS2.out.symm) hb.size);have hv1:val zs=m:=by rw[hvz];simp[val]
   rw[hv1]at HMK;have hbl:bits (m)<=53:=by rw[aF];omega
   clear hb hz tz hvz hw1 hw2;go_wp2_with fail
   refine HMK.out.mono ?_;rintro r w4⟨hb,v4,rfl,hz⟩;have HMD:=hdd (bX (e:=-1074) hz (HT2.out.below hb) (by rw[bG];omega) (by omega));rw[HM.out]at HMD;replace HB2:=hdd (HB2.out.trans (hb.mono HB2.out.size));replace B12:=hdd (aD B12.out hb (aC B12.out));replace HS2:=hdd (avF HS2.out hb.size);have hw1:True:=trivial;clear hb hz;go_wp2_with fail
   refine HMD.out.mono ?_;rintro r w5⟨hb,v5,rfl,hz⟩;obtain⟨b6,A6,n6,c6,rfl,-⟩:=id hz;have B15:=aD B12.out hb (aC B12.out);obtain⟨e0,e1,e2,e3,e4,e5⟩:=cells3 B15;obtain⟨HFF,hFF⟩:=aJ (HB2.out.trans (hb.mono HB2.out.size)) (g:=w.heap.size) (by omega) B15 hz (fun b hb=>by have:=HS.out;have:=HS2.out;omega);replace hFF:=hdd hFF;have HFB:=hdd (dU (t:=true) HFF.out);clear hz hb B15 HFF;go_wp2;obtain⟨f0,f1,f2,-,-,-⟩:=cells3 hFF.out;refine bodyPost_ret (v:=.tuple #[.agg #[_,_,_],_]) (by simp[results,Tryz.results214,go_sem,f0,f1,f2];first|exact⟨⟨rfl,rfl,rfl⟩,rfl⟩|rfl) rfl ?_;exact HFB.out
 . have hx0:((x:Int)==0)=false:=beq_eq_false_iff_ne.2 (by omega)
   obtain⟨M,hM⟩:∃M,M=m+2^52:=⟨_,rfl⟩;have hO2:Go.bits BinOp.or IntKind.u64 (m:Int) 4503599627370496=(M:Int):=by rw[hM];exact hO
   rw[<-hM]at M2;have hm2:M<2^53:=by omega
   clear hO hM;have HM:=hdd (M2 h0);obtain⟨w2,hw2,hb2,hs2,q2⟩:=pro1 w1 (.cells #[.int .u64 ((M:Nat):Int)] 149);have HN:=hdd (iV (NatP.one (x:=M) (by unfold B64;omega) q2 (p:=AnyB) trivial));rw[hs1]at HN;have HB2:=hdd (HB.out.trans (hb2.mono HB.out.size));have B12:=hdd (aD B1.out hb2 (aC B1.out));have HT2:=hdd (HT.out.below hb2);have HS2:=hdd hs2;clear hb2 hs2 q2 HB HT;go_enter Tryz.func214,Tryz.ntmps214
   go_wp2_with fail
   refine F1.out.mono ?_;rintro e w3⟨rfl,hw⟩;obtain rfl:=hw;go_wp2_with fail
   refine HN.out.mono ?_;rintro r w3⟨hb,v3,zs,rfl,hz,tz,hvz⟩;have HMK:=hdd (bR (b:=fneg b) hz);replace HB2:=hdd (HB2.out.trans (hb.mono HB2.out.size));replace B12:=hdd (aD B12.out hb (aC B12.out));replace HT2:=hdd (HT2.out.below hb);replace HS2:=hdd (avF (avG HS2.out.symm) hb.size);have hv1:val zs=M:=by rw[hvz];simp[val]
   rw[hv1]at HMK;have hbl:bits M<=53:=by rw[aF];omega
   clear hb hz tz hvz hw1 hw2;go_wp2_with fail
   refine HMK.out.mono ?_;rintro r w4⟨hb,v4,rfl,hz⟩;have HMD:=hdd (bX (e:=(x:Nat)-1+-1074) hz (HT2.out.below hb) (by rw[bG];omega) (by omega));rw[HM.out]at HMD;replace HB2:=hdd (HB2.out.trans (hb.mono HB2.out.size));replace B12:=hdd (aD B12.out hb (aC B12.out));replace HS2:=hdd (avF HS2.out hb.size);have hw1:True:=trivial;clear hb hz;go_wp2_with fail
   refine HMD.out.mono ?_;rintro r w5⟨hb,v5,rfl,hz⟩;obtain⟨b6,A6,n6,c6,rfl,-⟩:=id hz;have B15:=aD B12.out hb (aC B12.out);obtain⟨e0,e1,e2,e3,e4,e5⟩:=cells3 B15;obtain⟨HFF,hFF⟩:=aJ (HB2.out.trans (hb.mono HB2.out.size)) (g:=w.heap.size) (by omega) B15 hz (fun b hb=>by have:=HS.out;have:=HS2.out;omega);replace hFF:=hdd hFF;have HFB:=hdd (dU (t:=true) HFF.out);clear hz hb B15 HFF;go_wp2;obtain⟨f0,f1,f2,-,-,-⟩:=cells3 hFF.out;refine bodyPost_ret (v:=.tuple #[.agg #[_,_,_],_]) (by simp[results,Tryz.results214,go_sem,f0,f1,f2];first|exact⟨⟨rfl,rfl,rfl⟩,rfl⟩|rfl) rfl ?_;exact HFB.out
theorem pG{q:Nat->Prop}{vb:Value}{xs ys:List Nat}(hx:NatP p w va xs)(hy:NatP q w vb ys)(hg:g<w.heap.size)(c0:w.cell? ⟨g,0,none⟩=some va)(c1:w.cell? ⟨g,1,none⟩=some vb)(hL:bits (val xs)<=1000000000)(hL':bits (val ys)<=1000000000):
 Calls Tryz.prog 122 #[.slice (some ⟨g,0,none⟩) 2 2] w (RetN w.heap.size w (val xs+val ys)):=by
 have HX:=hdd hx;have HY:=hdd hy;have HLX:=hdd hL;have HLY:=hdd hL';obtain⟨A,ca,rfl,-⟩:=hx;obtain⟨A',cb,rfl,-⟩:=hy;clear hL hL';go_enter Tryz.func122,Tryz.ntmps122
 go_wp2_with fail
 go_loopw [3,8] (fun sv i wr=>∃(m:Nat) (zs:List Nat),m<=2/\i=.int .i64 m/\Hid (NatP (fun b=>w.heap.size<=b) wr sv zs)/\Hid (Tr zs)/\Hid (Below w.heap.size w wr)/\Hid (val zs=(if 0<m then val xs else 0)+(if 1<m then val ys else 0))) (fun _ i _=>(2-intOf i).toNat)
 case atStart=>exact⟨0,[],by omega,rfl,hdd (NatP.nil _),hdd Tr.nil,hdd (Below.refl _ _),hdd rfl⟩
 case round=>
  obtain⟨m,zs,hm,rfl,HZ,HTZ,HB,HV⟩:=hrel;rcases(by omega:m=0\/m=1\/m=2)with rfl|rfl|rfl
  . have c0:=cbl c0 HB.out
    have HT1:=hdd (aH (HX.out.below HB.out));clear c1;go_wp2_with fail
    refine HT1.out.mono ?_;rintro e w1⟨rfl,v1,xs1,rfl,hv1,ht1,hval1,-⟩;have HA:=hdd (jE HZ.out hv1 (by have h1:=bA zs HZ.out.ok HTZ.out;rw[HV.out]at h1;have h2:=HLX.out;simp at h1;first|omega|(have:bits 0=0:=rfl;omega)) (by have:=bA xs1 hv1.ok ht1;rw[hval1]at this;have:=HLX.out;have:=HLY.out;omega));have HV1:=hdd hval1;clear hv1 ht1 hval1 HT1 HZ HTZ;go_wp2_with fail
    refine HA.out.mono ?_;rintro e w2⟨hb,v2,zs2,rfl,hz2,tz2,hvz2⟩;have HZ2:=hdd (hz2.weak fun b h _=>avF HB.out.size h);have HT2:=hdd tz2;have HB2:=hdd (HB.out.trans (hb.mono HB.out.size));have HV2:Hid (val zs2=(if 0<1 then val xs else 0)+(if 1<1 then val ys else 0)):=hdd (by rw[hvz2,HV.out,HV1.out];simp);clear hb hz2 tz2 hvz2 HA;go_wp2
    go_roundw
    case rel=>exact⟨1,zs2,by omega,by go_num,HZ2,HT2,HB2,HV2⟩
    case measure=>simp[intOf]
  . have c1:=cbl c1 HB.out
    have HT1:=hdd (aH (HY.out.below HB.out));clear c0;go_wp2_with fail
    refine HT1.out.mono ?_;rintro e w1⟨rfl,v1,xs1,rfl,hv1,ht1,hval1,-⟩;have HA:=hdd (jE HZ.out hv1 (by have h1:=bA zs HZ.out.ok HTZ.out;rw[HV.out]at h1;have h2:=HLX.out;simp at h1;first|omega|(have:bits 0=0:=rfl;omega)) (by have:=bA xs1 hv1.ok ht1;rw[hval1]at this;have:=HLX.out;have:=HLY.out;omega));have HV1:=hdd hval1;clear hv1 ht1 hval1 HT1 HZ HTZ;go_wp2_with fail
    refine HA.out.mono ?_;rintro e w2⟨hb,v2,zs2,rfl,hz2,tz2,hvz2⟩;have HZ2:=hdd (hz2.weak fun b h _=>avF HB.out.size h);have HT2:=hdd tz2;have HB2:=hdd (HB.out.trans (hb.mono HB.out.size));have HV2:Hid (val zs2=(if 0<2 then val xs else 0)+(if 1<2 then val ys else 0)):=hdd (by rw[hvz2,HV.out,HV1.out];simp);clear hb hz2 tz2 hvz2 HA;go_wp2
    go_roundw
    case rel=>exact⟨2,zs2,by omega,by go_num,HZ2,HT2,HB2,HV2⟩
    case measure=>simp[intOf]
  . have HT1:=hdd (aH HZ.out)
    go_wp2_with fail
    refine HT1.out.mono ?_;rintro e w1⟨rfl,v1,xs1,rfl,hv1,ht1,hval1,-⟩;have HF:=hdd (RetN.of (n:=val xs+val ys) HB.out hv1 ht1 (by rw[hval1,HV.out];simp));clear hv1 ht1 hval1 HT1;go_wp2;go_ret;exact HF.out
theorem outward_any{neg:Bool}{dir:Int}:Calls Tryz.prog 176 #[.bool neg,.int .i64 dir] w (fun e w'=>e=.returned (.bool (outw neg dir))/\w=w'):=by
 by_cases h:0<=dir
 . go_enter Tryz.func176,Tryz.ntmps176
   go_wp2;go_ret;exact⟨by show Ending.returned (.bool (!neg))=.returned (.bool (outw neg dir));unfold outw;rw[if_pos h],rfl⟩
 . go_enter Tryz.func176,Tryz.ntmps176
   go_wp2;go_ret;exact⟨by show Ending.returned (.bool neg)=.returned (.bool (outw neg dir));unfold outw;rw[if_neg (by omega)],rfl⟩
theorem afX(w:World)(h:n<B64):NatP AnyB (w.alloc (Obj.cells #[Value.int .u64 (n:Int)] 149)) (.slice (some ⟨w.heap.size,0,none⟩) 1 1) [n]:=by
 have hn:=heap_alloc_new w (Obj.cells #[Value.int .u64 (n:Int)] 149);refine⟨_,_,rfl,Nat.le_refl _,⟨by simp,by omega⟩,by simpa[OkL]using h,fun _=>⟨_,0,rfl,trivial,aC hn,fun k hk=> ?_⟩⟩
 match k,hk with
 |0,_=>simp only[World.cell?,hn];rfl
theorem ahY(hn:n<9223372036854775808):Calls Tryz.prog 58 #[.int .i64 n] w (RetZ w.heap.size w n):=by
 obtain⟨w1,hw1,hb1,hs1,b1⟩:=pro1 w (.cells #[Value.bool false,.slice none 0 0] 75);have HB:=hdd hb1;have B1:=hdd b1;have HS:=hdd hs1;have hc:IntKind.u64.wrap (n:Int)=n:=by rw[IntWalk.u64_in];omega
 have hlt:¬((n:Int)<0):=by omega
 clear hb1 b1 hs1;go_enter Tryz.func58,Tryz.ntmps58
 go_wp2_with fail
 have hb4:=aI w1 (Obj.cells #[Value.int .u64 (n:Int)] 149);have HNP:=afX (n:=n) w1 (by unfold B64;omega);have HS4:w1.heap.size<=(w1.alloc (Obj.cells #[Value.int .u64 (n:Int)] 149)).heap.size:=hb4.size;generalize w1.alloc (Obj.cells #[Value.int .u64 (n:Int)] 149)=w4 at*;refine(iV HNP).mono ?_;rintro e w5⟨hb5,v5,zs,rfl,hz,tz,hvz⟩;have HM:=hdd (bR (b:=false) hz);have HV:Hid (sg false (val zs)=(n:Int)):=hdd (by rw[hvz];simp[val,sg]);have HB5:=hdd (HB.out.trans ((hb4.trans (hb5.mono hb4.size)).mono HB.out.size));have B5:=hdd (aD (hbl B1.out hb4) hb5 (aC (hbl B1.out hb4)));have HS5:Hid (w1.heap.size<=w5.heap.size):=hdd (avF HS4 hb5.size);clear hb4 hb5 hz tz hvz HNP HS4 B1;go_wp2_with fail
 refine HM.out.mono ?_;rintro e w6⟨hb6,v6,rfl,h⟩;rw[HV.out]at h;obtain⟨b',A',n',c',rfl⟩:=h.shape;have B6:=hbl B5.out hb6;obtain⟨HF,hF⟩:=dC (HB5.out.trans (hb6.mono HB5.out.size)) nlr B6 h (g:=w.heap.size) (fun b hb=>by have:=HS5.out;have:=HS.out;omega);obtain⟨e0,e1,e2,e3⟩:=aB B6;replace hF:=hdd hF;clear hb6 h B6;go_wp2;obtain⟨f0,f1,-,-⟩:=aB hF.out;refine bodyPost_ret (v:=.agg #[_,_]) (by simp[results,Tryz.results58,go_sem,f0,f1];first|exact⟨rfl,rfl⟩|rfl) rfl ?_;exact HF.out
theorem aaW{z:Int}(hx:IntP p w v z)(hT:Tab w)(hn:n<=16777216)(hL:bits z.natAbs<=1000000000):
 Calls Tryz.prog 73 #[v,.int .i64 n] w (RetZ w.heap.size w (z/((2^n:Nat):Int))):=by
 obtain⟨R,hR⟩:∃R,z/((2^n:Nat):Int)=R:=⟨_,rfl⟩;rw[hR];obtain⟨vm,xs,rfl,h1,h2,h3⟩:=hx;obtain⟨w2,hw2,hb2,hs2,b1,b2⟩:=pro2 w (.cells #[.bool (decide (z<0)),vm] 75) (.cells #[Value.bool false,.slice none 0 0] 75);have HB:=hdd hb2;have B2:=hdd b2;have HS:=hdd hs2;have HX:=hdd (h1.below hb2);have HT:=hdd (hT.below hb2);have HL:=hdd hL;have HV:=hdd h3;have HTR:=hdd h2;obtain⟨c0,c1,-,-⟩:=aB b1;have g1:¬((n:Int)<0):=by omega
 have g2:¬((16777216:Int)<n):=by omega
 have HC:=hdd (wF HX.out hn);clear hb2 b1 b2 hs2 h1 h2 h3 hT hL;go_enter Tryz.func73,Tryz.ntmps73
 go_wp2_with fail
 refine HC.out.mono ?_;rintro e w3⟨hb,vq,ys,rfl,hy,ty,hvy⟩;have HB3:=hdd (HB.out.trans (hb.mono HB.out.size));have B3:=hdd (hbl B2.out hb);have HT3:=hdd (HT.out.below hb);have HX3:=hdd (HX.out.below hb);have HS3:Hid (w.heap.size+2<=w3.heap.size):=hdd (by have:=HS.out;have:=hb.size;omega);replace c0:=cbl c0 hb;replace c1:=cbl c1 hb;have HY:=hdd hy;have HVY:=hdd hvy;have HSG:=hdd (jS (show IntP p w3 (.agg #[.bool (decide (z<0)),vm]) z from⟨vm,xs,rfl,HX3.out,HTR.out,HV.out⟩));clear hb hy ty hvy HC HT HX B2 HB HS hw2;go_wp2_with fail
 refine HSG.out.mono ?_;rintro e w4⟨rfl,hb⟩;replace c0:=cbl c0 hb;replace c1:=cbl c1 hb;have HB4:=hdd (HB3.out.trans (hb.mono HB3.out.size));have B4:=hdd (hbl B3.out hb);have HLW:=hdd (nI (HX3.out.below hb) (HT3.out.below hb));have HS4:Hid (w.heap.size+2<=w4.heap.size):=hdd (by have:=HS3.out;have:=hb.size;omega);have HQ4:=hdd (HY.out.below hb);have HE:Hid (sg (decide (z<0)) (z.natAbs/2^n+(if z<0/\ctz z.natAbs<n then 1 else 0))=R):=hdd ((afT z n).trans hR);have HQL:Hid (bits (val ys)<=1000000000):=hdd (avF (bP (by rw[HVY.out,HV.out];exact Nat.div_le_self _ _)) HL.out);clear hb HSG HX3 HT3 HB3 B3 HS3 HY;by_cases hn:z<0
 . go_wp2_with fail
   refine HLW.out.mono ?_;rintro e w5⟨rfl,k,rfl⟩;have hd:=below_drewN w4 k;replace c0:=cbl c0 hd;replace c1:=cbl c1 hd;have HB5:=hdd (HB4.out.trans (hd.mono HB4.out.size));have B5:=hdd (hbl B4.out hd);have HS5:Hid (w.heap.size+2<=(w4.drewN k).heap.size):=HS4;have HQ5:=hdd (HQ4.out.below hd);clear hd HLW HB4 B4 HS4 HQ4;generalize w4.drewN k=w5 at*;by_cases hl:ctz (val xs)<n
   . have hl':(ctz (val xs):Int)<n:=by omega
     have hq:val ys+1=z.natAbs/2^n+(if z<0/\ctz z.natAbs<n then 1 else 0):=by
      rw[<-HV.out,if_pos ⟨hn,hl⟩,HVY.out]
     have HQ:=hdd hq;clear hl hq;go_wp2_with fail
     have hb6:=aI w5 (Obj.cells #[Value.int .u64 1] 149);have HNP:NatP AnyB (w5.alloc (Obj.cells #[Value.int .u64 1] 149)) (.slice (some ⟨w5.heap.size,0,none⟩) 1 1) [1]:=afX (n:=1) w5 (by decide);generalize w5.alloc (Obj.cells #[Value.int .u64 1] 149)=w6 at*;refine(iV HNP).mono ?_;rintro e w7⟨hb7,v7,zs,rfl,hz,tz,hvz⟩;have hb57:=hb6.trans (hb7.mono hb6.size);replace c0:=cbl c0 hb57;have HB7:=hdd (HB5.out.trans (hb57.mono HB5.out.size));have B7:=hdd (hbl B5.out hb57);have HS7:Hid (w.heap.size+2<=w7.heap.size):=hdd (by have:=HS5.out;have:=hb57.size;omega);have HQ7:=hdd (HQ5.out.below hb57);have HZ7:=hdd hz;have HVZ:Hid (val zs=1):=hdd (by rw[hvz];rfl);obtain⟨Aq,cq,rfl,-⟩:=id HQ7.out;obtain⟨Az,cz,rfl,-⟩:=id hz;clear hb6 hb7 hb57 hz tz hvz HNP HB5 B5 HS5 HQ5 c1;go_wp2_with fail
     have hb8:=aI w7 (Obj.cells #[Value.slice Aq ys.length cq,Value.slice Az zs.length cz] 73);have hn8:=heap_alloc_new w7 (Obj.cells #[Value.slice Aq ys.length cq,Value.slice Az zs.length cz] 73);generalize w7.alloc (Obj.cells #[Value.slice Aq ys.length cq,Value.slice Az zs.length cz] 73)=w8 at*;obtain⟨g0,g1',-,-⟩:=aB hn8;refine(pG (HQ7.out.below hb8) (HZ7.out.below hb8) (aC hn8) g0 g1' HQL.out (by rw[HVZ.out];decide)).mono ?_;rintro e wA⟨hbA,vA,us,rfl,hA,tA,hvA⟩;have hb7A:=hb8.trans (hbA.mono hb8.size);replace c0:=cbl c0 hb7A;have HBA:=hdd (HB7.out.trans (hb7A.mono HB7.out.size));have BA:=hdd (hbl B7.out hb7A);have HSA:Hid (w.heap.size+2<=wA.heap.size):=hdd (by have:=HS7.out;have:=hb7A.size;omega);have HQA:=hdd hA;have HVA:Hid (val us=z.natAbs/2^n+(if z<0/\ctz z.natAbs<n then 1 else 0)):=hdd (by rw[hvA,HVZ.out];exact HQ.out);clear hb8 hn8 g0 g1' hbA hb7A hA tA hvA HB7 B7 HS7 HQ7 HZ7;have HM:=hdd (bR (b:=true) HQA.out);have HVV:=hdd (show sg true (val us)=R by rw[HVA.out,<-HE.out,decide_eq_true hn])
     clear HL HV HTR HE;go_wp2_with fail
     refine HM.out.mono ?_;rintro e w9⟨hb9,v9,rfl,h⟩;rw[HVV.out]at h;obtain⟨b',A',n',c',rfl⟩:=h.shape;have B9:=hbl BA.out hb9;obtain⟨HF,hF⟩:=dC (HBA.out.trans (hb9.mono HBA.out.size)) (by omega) B9 h (g:=w.heap.size+1) (fun b hb=>by have:=HSA.out;omega);obtain⟨e0,e1,e2,e3⟩:=aB B9;replace hF:=hdd hF;clear hb9 h B9;go_wp2;obtain⟨f0,f1,-,-⟩:=aB hF.out;refine bodyPost_ret (v:=.agg #[_,_]) (by simp[results,Tryz.results73,go_sem,f0,f1];first|exact⟨rfl,rfl⟩|rfl) rfl ?_;exact HF.out
   . have hl':¬(ctz (val xs):Int)<n:=by omega
     have hq:val ys=z.natAbs/2^n+(if z<0/\ctz z.natAbs<n then 1 else 0):=by
      rw[<-HV.out,if_neg (fun h=>hl h.2),HVY.out,avH]
     have HQ:=hdd hq;clear hl hq;have HM:=hdd (bR (b:=true) HQ5.out);have HVV:=hdd (show sg true (val ys)=R by rw[HQ.out,<-HE.out,decide_eq_true hn]);clear HL HV HTR HE;go_wp2_with fail
     refine HM.out.mono ?_;rintro e w9⟨hb9,v9,rfl,h⟩;rw[HVV.out]at h;obtain⟨b',A',n',c',rfl⟩:=h.shape;have B9:=hbl B5.out hb9;obtain⟨HF,hF⟩:=dC (HB5.out.trans (hb9.mono HB5.out.size)) (by omega) B9 h (g:=w.heap.size+1) (fun b hb=>by have:=HS5.out;omega);obtain⟨e0,e1,e2,e3⟩:=aB B9;replace hF:=hdd hF;clear hb9 h B9;go_wp2;obtain⟨f0,f1,-,-⟩:=aB hF.out;refine bodyPost_ret (v:=.agg #[_,_]) (by simp[results,Tryz.results73,go_sem,f0,f1];first|exact⟨rfl,rfl⟩|rfl) rfl ?_;exact HF.out
 . have hq:val ys=z.natAbs/2^n+(if z<0/\ctz z.natAbs<n then 1 else 0):=by
    rw[<-HV.out,if_neg (fun h=>hn h.1),HVY.out,avH]
   have HQ:=hdd hq;clear hq HLW;have HM:=hdd (bR (b:=false) HQ4.out);have HVV:=hdd (show sg false (val ys)=R by rw[HQ.out,<-HE.out,decide_eq_false hn]);clear HL HV HTR HE;go_wp2_with fail
   refine HM.out.mono ?_;rintro e w9⟨hb9,v9,rfl,h⟩;rw[HVV.out]at h;obtain⟨b',A',n',c',rfl⟩:=h.shape;have B9:=hbl B4.out hb9;obtain⟨HF,hF⟩:=dC (HB4.out.trans (hb9.mono HB4.out.size)) (by omega) B9 h (g:=w.heap.size+1) (fun b hb=>by have:=HS4.out;omega);obtain⟨e0,e1,e2,e3⟩:=aB B9;replace hF:=hdd hF;clear hb9 h B9;go_wp2;obtain⟨f0,f1,-,-⟩:=aB hF.out;refine bodyPost_ret (v:=.agg #[_,_]) (by simp[results,Tryz.results73,go_sem,f0,f1];first|exact⟨rfl,rfl⟩|rfl) rfl ?_;exact HF.out
end
end Go.Proofs.YtkadpnljocflaaaGreatDoor
