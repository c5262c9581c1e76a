/- A part of the proof: contracts of functions and plain laws (DyU, BlR, BlS, DyV). -/
import Derived.Test.YtigoiiekebccnaaGreatDoorK22
set_option linter.unusedVariables false
set_option linter.unusedSimpArgs false
set_option linter.unnecessarySimpa false
set_option maxHeartbeats 25600000
set_option maxRecDepth 100000
namespace Go.Proofs.YtigoiiekebccnaaGreatDoor
section
open Classical renaming byContradiction->bfS
open Int renaming sign_eq_neg_one_iff_neg->bfU,lt_or_le->bf5
open Nat renaming pow_le_pow_right->bfR,le_trans->bfT,pow_add->bfW,lt_of_lt_of_le->bfX,two_pow_pos->bfZ,le_of_eq->bf0,mul_le_mul->bf4
open Rat renaming mul_nonneg->bfN,le_refl->bfO,natCast_le_natCast->bfP,natCast_mul->bfQ,mul_eq_zero->bfV,natCast_add->bfY,mul_pos->bf1,natCast_nonneg->bf2,natCast_pos->bf3
variable{P:Int}{t:Rat}
def Err(P:Int)(r t:Rat):Prop:=∀b:Rat,-b<=t->t<=b->r-t<=2*b*p2 (-P)/\t-r<=2*b*p2 (-P)
theorem rE{T:Int}{r z:Rat}(h1:r-t<=p2 (T-P))(h2:t-r<=p2 (T-P))(hz:p2 (T-1)<=z)(ht:t=z\/t=-z):Err P r t:=by
 intro b hb1 hb2;have h3:z<=b:=by rcases ht with h|h<;>grind
 have e:p2 (T-P)=2*p2 (T-1)*p2 (-P):=by
  rw[show T-P=(T-1+1)+-P from by omega,bY,gI]
 have hp:=aZ (-P);have:=bfN (a:=2*(b-p2 (T-1))) (b:=p2 (-P)) (by grind) (by grind);constructor<;>grind
theorem qH:Err P 0 0:=by
 intro b h1 h2;have:=bfN (a:=2*b) (b:=p2 (-P)) (by grind) (by have:=aZ (-P);grind);constructor<;>grind
theorem nR(a:Dy)(dir:Int)(hP:1<=P):Err P (rv (aM a P dir)) (rv a):=by
 obtain⟨-,-,h1,h2⟩:=jD a dir hP;by_cases h0:a.man=0
 . have e0:rv a=0:=(aY a).2.2.2 h0
   have e1:aM a P dir=⟨0,0⟩:=by
    unfold aM;rw[h0,aT,if_pos (by show((bits 0:Nat):Int)<=P;have:bits 0=0:=rfl;omega)]
   rw[e0,e1,lD];exact qH
 . have hv:rv (mkDy a.man a.exp)=rv a:=kL _ _
   rcases rD (mkDy a.man a.exp) (by rcases iG a.man a.exp with ⟨g1,g2⟩|⟨g1,g2,-⟩<;>first|exact absurd g2 h0|exact g2)with h3|h3<;>rw[hv]at h3
   . exact rE h1 h2 h3 (Or.inl rfl)
   . exact rE h1 h2 (z:=-rv a) (by grind) (Or.inr (by grind))
theorem vY{x:Int}(e:Int)(h:0<=x):0<=(mkDy x e).man:=by
 rcases bf5 (mkDy x e).man 0 with g|g
 . have h1:=am1 x e
   rw[bfU.2 g]at h1;have:=bfU.1 h1.symm;omega
 . exact g
theorem zU{a:Dy}(dir:Int)(h:0<=a.man):0<=rv (aM a P dir):=by
 have hm:=vY a.exp h;unfold aM
 split
 . unfold rv
   exact bfN (Rat.intCast_nonneg.2 hm) (by have:=aZ (mkDy a.man a.exp).exp;grind)
 . rw[kL,show decide ((mkDy a.man a.exp).man<0)=false from by simpa using hm]
   refine bfN ?_ (by have:=aZ ((mkDy a.man a.exp).exp+((bits (mkDy a.man a.exp).man.natAbs:Int)-P));grind);rw[zS];exact bf2
theorem ak2(d:Dy):rv d=sgq (decide (d.man<0)) ((d.man.natAbs:Rat)*p2 d.exp):=by
 unfold rv sgq;rcases iP d.man with ⟨h4,h5⟩|⟨h4,h5⟩<;>rw[h4]
 . rw[if_neg (by simp;omega)]
 . rw[if_pos (by simpa using h5)];grind
theorem am5(b c:Bool)(x y:Rat):sgq (b != c) x*sgq c y=sgq b (x*y):=by cases b<;>cases c<;>simp[sgq]<;>grind
theorem jT(x y:Dy)(dir:Int)(hP:1<=P)(hy:y.man≠0)(ht:t*rv y=rv x):
 (dir<0->rv (quoD x y P dir)<=t)/\(0<=dir->t<=rv (quoD x y P dir))/\Err P (rv (quoD x y P dir)) t:=by
 have hy0:rv y≠0:=fun h=>hy ((aY y).2.2.1 h);unfold quoD;by_cases hx:x.man=0
 . rw[if_pos hx,lD]
   have e0:rv x=0:=(aY x).2.2.2 hx;rw[e0]at ht;have:t=0:=by rcases bfV.1 ht with h|h<;>first|exact absurd h hy0|exact h
   rw[this];exact⟨fun _=>bfO,fun _=>bfO,qH⟩
 . rw[if_neg hx]
   obtain⟨A,B,hB,e1,e2,e3,e4,e5⟩:=ab5 (a:=x.man.natAbs) (b:=y.man.natAbs) (P:=P) (by omega) (by omega) hP;rw[e1];obtain⟨q1,q2,q3⟩:=am4 (A:=A) hB;have hBr:(0:Rat)<(B:Rat):=bf3.2 hB;have hbr:(0:Rat)<(y.man.natAbs:Rat):=bf3.2 (by omega);obtain⟨e,he⟩:∃e,e=x.exp-y.exp-quoA x.man.natAbs y.man.natAbs P:=⟨_,rfl⟩;rw[<-he];have hpe:=aZ e;generalize hneg:(decide (x.man<0) != decide (y.man<0))=neg at*;generalize quoM x.man.natAbs y.man.natAbs P=more at*
   -- the amount of the quotient
   obtain⟨z,hz⟩:∃z:Rat,z=(A:Rat)/B*p2 e:=⟨_,rfl⟩;have hAB:(A:Rat)/B*B=A:=by grind
   have htz:t=sgq neg z:=by
    have k1:z*((y.man.natAbs:Rat)*p2 y.exp)=(x.man.natAbs:Rat)*p2 x.exp:=by
     rw[hz];have k2:p2 x.exp=p2 (quoA x.man.natAbs y.man.natAbs P)*p2 e*p2 y.exp:=by rw[<-bY,<-bY];congr 1;omega
     rw[k2];generalize p2 (quoA x.man.natAbs y.man.natAbs P)=u at*;generalize p2 e=v at*;generalize p2 y.exp=w at*;have k3:(A:Rat)/B*(y.man.natAbs:Rat)=(x.man.natAbs:Rat)*u:=by
      have:((A:Rat)/B*(y.man.natAbs:Rat)-(x.man.natAbs:Rat)*u)*B=0:=by grind
      rcases bfV.1 this with h|h<;>grind
     grind
    have k4:sgq neg z*rv y=rv x:=by
     rw[ak2 x,ak2 y,<-hneg,am5,k1]
    have k5:(t-sgq neg z)*rv y=0:=by grind
    rcases bfV.1 k5 with h|h
    . grind
    . exact absurd h hy0
   have l1:((A/B:Nat):Rat)*p2 e<=z:=by
    rw[hz];have:((A/B:Nat):Rat)<=(A:Rat)/B:=by
     apply bfS;intro hc;have:=bf1 (a:=((A/B:Nat):Rat)-(A:Rat)/B) (b:=(B:Rat)) (by grind) hBr;grind
    have:=bfN (a:=(A:Rat)/B-((A/B:Nat):Rat)) (b:=p2 e) (by grind) (by grind);grind
   have l2:z<=(((A/B:Nat):Rat)+1)*p2 e:=by
    rw[hz];have:(A:Rat)/B<=((A/B:Nat):Rat)+1:=by
     apply bfS;intro hc;have:=bf1 (a:=(A:Rat)/B-(((A/B:Nat):Rat)+1)) (b:=(B:Rat)) (by grind) hBr;grind
    have:=bfN (a:=((A/B:Nat):Rat)+1-(A:Rat)/B) (b:=p2 e) (by grind) (by grind);grind
   have l3:more=false->z=((A/B:Nat):Rat)*p2 e:=by
    intro h;have h6:A%B=0:=by
     apply bfS;intro hc;have:=e2.2 hc;rw[h]at this;cases this
    have h7:=q3 h6;rw[hz];have:(A:Rat)/B=((A/B:Nat):Rat):=by
     have:((A:Rat)/B-((A/B:Nat):Rat))*B=0:=by grind
     rcases bfV.1 this with h|h<;>grind
    rw[this]
   obtain⟨r1,r2,r3,r4⟩:=lZ (neg:=neg) (P:=P) dir hP l1 l2 l3 (fun _=>e4);rw[htz];refine⟨r1,r2,?_⟩;have hbm:=(qF (m:=A/B) (by intro h;rw[h]at e4;have:bits 0=0:=rfl;omega)).1;refine rE r3 r4 (z:=z) ?_ (by unfold sgq;cases neg<;>simp);rw[show(bits (A/B):Int)+e-1=((bits (A/B):Int)-1)+e from by omega,bY];have:=bfN (a:=((A/B:Nat):Rat)-p2 ((bits (A/B):Int)-1)) (b:=p2 e) (by grind) (by grind);grind
theorem ab6(x y:Dy)(dir:Int)(hP:1<=P)(hy:y.man≠0):Canon (quoD x y P dir)/\(bits (quoD x y P dir).man.natAbs:Int)<=P/\
 ((quoD x y P dir).man≠0->topD x-topD y-P-4<=(quoD x y P dir).exp/\topD (quoD x y P dir)<=topD x-topD y+2):=by
 unfold quoD;by_cases hx:x.man=0
 . rw[if_pos hx]
   exact⟨aT 0,by show((bits 0:Nat):Int)<=P;have:bits 0=0:=rfl;omega,fun h=>absurd rfl h⟩
 . rw[if_neg hx]
   obtain⟨A,B,hB,e1,e2,e3,e4,e5⟩:=ab5 (a:=x.man.natAbs) (b:=y.man.natAbs) (P:=P) (by omega) (by omega) hP;rw[e1];obtain⟨k1,k2,k3⟩:=qG (neg:=(decide (x.man<0) != decide (y.man<0))) (m:=A/B) (e:=x.exp-y.exp-quoA x.man.natAbs y.man.natAbs P) (more:=quoM x.man.natAbs y.man.natAbs P) (P:=P) dir hP;refine⟨k1,k2,fun h=> ?_⟩;obtain⟨k4,k5⟩:=k3 h;have t1:topD x=bits x.man.natAbs+x.exp:=by unfold topD;rw[if_neg hx]
   have t2:topD y=bits y.man.natAbs+y.exp:=by unfold topD;rw[if_neg hy]
   have t3:quoA x.man.natAbs y.man.natAbs P=P+2-bits x.man.natAbs+bits y.man.natAbs:=rfl;omega
def sqM(x:Dy):Nat:=if x.exp%2=0 then x.man.natAbs else x.man.natAbs*2
def sqE(x:Dy):Int:=if x.exp%2=0 then x.exp else x.exp-1
def sqN(x:Dy)(P:Int):Int:=(2*(P+2)-bits (sqM x))+(2*(P+2)-bits (sqM x))%2
def sqX(x:Dy)(P:Int):Nat:=if 0<=sqN x P then sqM x*2^(sqN x P).toNat else sqM x/2^(-sqN x P).toNat
def sqR(x:Dy)(P:Int):Bool:=(decide (sqN x P<0)&&decide ((ctz (sqM x):Int)< -sqN x P))||decide (0<bits (sqX x P-bS (sqX x P)*bS (sqX x P)))
def aL(x:Dy)(P dir:Int):Dy:=if x.man=0 then⟨0,0⟩else aQ false (bS (sqX x P)) ((sqE x-sqN x P)/2) (sqR x P) P dir
theorem ae9{x:Dy}(hx:0<x.man)(hP:1<=P):∃(m:Nat) (f:Int),bS (sqX x P)=m/\(sqE x-sqN x P)/2=f/\
 ((m:Rat)*p2 f)*((m:Rat)*p2 f)<=rv x/\rv x<=(((m:Rat)+1)*p2 f)*(((m:Rat)+1)*p2 f)/\(sqR x P=false->rv x=((m:Rat)*p2 f)*((m:Rat)*p2 f))/\
 P+2<=bits m/\(bits m:Int)<=P+3/\topD x-2*P-8<=2*f/\2*f<=topD x-2*P-3:=by
 have hM0:sqM x≠0:=by unfold sqM;split<;>omega
 have hv:rv x=(sqM x:Rat)*p2 (sqE x):=by
  unfold rv sqM sqE;rcases iP x.man with ⟨h4,h5⟩|⟨h4,h5⟩
  . split
    . rw[h4]
    . rw[bfQ,h4,show p2 x.exp=p2 (x.exp-1+1) from by congr 1;omega,gI]
      have:((2:Nat):Rat)=2:=rfl;grind
  . omega
 have hE:sqE x%2=0:=by unfold sqE;split<;>omega
 have hT:topD x=bits (sqM x)+sqE x:=by
  unfold topD sqM sqE;rw[if_neg (by omega)]
  split
  . rfl
  . have:=jS (n:=x.man.natAbs) (by omega) 1
    rw[Nat.pow_one]at this;omega
 have hN:sqN x P=(2*(P+2)-bits (sqM x))+(2*(P+2)-bits (sqM x))%2:=rfl;have hr:=dQ (sqX x P);unfold sqR;generalize hX:sqX x P=X at*;unfold sqX at hX;generalize sqM x=a at*;generalize sqE x=E at*;generalize hn:sqN x P=n at*;obtain⟨f,hf⟩:∃f,(E-n)/2=f:=⟨_,rfl⟩;have hfE:E=n+2*f:=by omega
 obtain⟨h1,h2⟩:=hr;generalize hm:bS X=m at*;have a1:=(aF a (bits a)).1 nlr;have hba:=(not_congr (bO a)).2 hM0;have a2:2^(bits a-1)<=a:=by
  have:¬bits a<=bits a-1:=by omega
  rw[aF]at this;omega
 obtain⟨Q,hQ⟩:∃Q:Nat,P=Q:=⟨P.toNat,by omega⟩;subst hQ
 -- v = y * p2 (2 f), X <= y < X + 1
 obtain⟨y,hy1,hy2,hy3,hy4,hy5,hy6⟩:∃y:Rat,rv x=y*p2 (2*f)/\(X:Rat)<=y/\y<=(X:Rat)+1/\((decide (n<0)&&decide ((ctz a:Int)< -n))=false->y=X)/\2^(2*Q+2)<=X/\X<2^(2*Q+6):=by
  rcases bf5 n 0 with h|h
  . obtain⟨k,hk⟩:∃k:Nat,n=-(k:Int):=⟨(-n).toNat,by omega⟩
    rw[if_neg (by omega),hk,show(-(-(k:Int))).toNat=k from by omega]at hX;have e1:=qE (-(k:Int)) k (by omega);rw[show(-(k:Int)+(k:Int)).toNat=0 from by omega]at e1;have e4:((2^0:Nat):Rat)=1:=rfl;rw[e4]at e1;obtain⟨d1,d2⟩:=oH a k;rw[hX]at d1 d2;have c1:=bfP.2 d1;have c2:=bfP.2 (Nat.le_of_lt d2);rw[bfQ]at c1 c2;rw[bfY]at c2;have e5:((1:Nat):Rat)=1:=rfl;rw[e5]at c2;have hpk:=aZ (-(k:Int));refine⟨(a:Rat)*p2 (-(k:Int)),?_,?_,?_,?_,?_,?_⟩
    . rw[hv,hfE,hk,bY];grind
    . have:=bfN (a:=(a:Rat)-(X:Rat)*((2^k:Nat):Rat)) (b:=p2 (-(k:Int))) (by grind) (by grind)
      have:(X:Rat)*((2^k:Nat):Rat)*p2 (-(k:Int))=X:=by
       have:(X:Rat)*((2^k:Nat):Rat)*p2 (-(k:Int))=X*(p2 (-(k:Int))*((2^k:Nat):Rat)):=by grind
       rw[this,e1];grind
      grind
    . have:=bfN (a:=((X:Rat)+1)*((2^k:Nat):Rat)-(a:Rat)) (b:=p2 (-(k:Int))) (by grind) (by grind)
      have:((X:Rat)+1)*((2^k:Nat):Rat)*p2 (-(k:Int))=X+1:=by
       have:((X:Rat)+1)*((2^k:Nat):Rat)*p2 (-(k:Int))=(X+1)*(p2 (-(k:Int))*((2^k:Nat):Rat)):=by grind
       rw[this,e1];grind
      grind
    . intro hh
      rw[hk]at hh;have hc:k<=ctz a:=by
       simp only[Bool.and_eq_false_iff,decide_eq_false_iff_not]at hh;omega
      have h7:=(ae8 hM0).1 hc;have h8:=Nat.div_add_mod a (2^k);rw[h7,hX,Nat.add_zero]at h8;rw[<-h8,bfQ];have:((2^k:Nat):Rat)*(X:Rat)*p2 (-(k:Int))=X*(p2 (-(k:Int))*((2^k:Nat):Rat)):=by grind
      rw[this,e1];grind
    . rw[<-hX,Nat.le_div_iff_mul_le (bfZ k)]
      refine bfT (bf0 ?_) (bfT (bfR (by omega) (show 2*Q+2+k<=bits a-1 by omega)) a2);rw[<-bfW]
    . rw[<-hX,Nat.div_lt_iff_lt_mul (bfZ k)]
      refine bfX a1 (bfT (bfR (by omega) (show bits a<=2*Q+6+k by omega)) (bf0 ?_));rw[<-bfW]
  . obtain⟨k,hk⟩:∃k:Nat,n=(k:Int):=⟨n.toNat,by omega⟩
    rw[if_pos h,hk,Int.toNat_natCast]at hX;refine⟨(X:Rat),?_,bfO,by grind,fun _=>rfl,?_,?_⟩
    . rw[hv,hfE,hk,bY,fA,<-hX,bfQ];grind
    . rw[<-hX]
      refine bfT (bfT (bfR (by omega) (show 2*Q+2<=bits a-1+k by omega)) (bf0 (bfW 2 (bits a-1) k))) (Nat.mul_le_mul_right _ a2)
    . rw[<-hX]
      refine bfX ((Nat.mul_lt_mul_right (bfZ k)).2 a1) (bfT (bf0 (bfW 2 (bits a) k).symm) (bfR (by omega) (by omega)))
 have c1:=bfP.2 h1;have c2:=bfP.2 (show X+1<=(m+1)*(m+1) from h2);rw[bfQ]at c1 c2;rw[bfY,bfY]at c2;have e5:((1:Nat):Rat)=1:=rfl;rw[e5]at c2;have e6:p2 (2*f)=p2 f*p2 f:=by rw[<-bY];congr 1;omega
 rw[e6]at hy1;have hpf:=aZ f;have hpp:=bf1 hpf hpf;refine⟨m,f,rfl,hf,?_,?_,?_,?_,?_,?_,?_⟩
 . rw[hy1]
   have:=bfN (a:=y-(m:Rat)*m) (b:=p2 f*p2 f) (by grind) (by grind);grind
 . rw[hy1]
   have:=bfN (a:=((m:Rat)+1)*((m:Rat)+1)-y) (b:=p2 f*p2 f) (by grind) (by grind);grind
 . intro hh
   simp only[Bool.or_eq_false_iff]at hh;have h8:=hy4 hh.1;have h9:X=m*m:=by
    have:=hh.2;simp only[decide_eq_false_iff_not]at this;have:=(bO (X-m*m)).1 (by omega);omega
   rw[hy1,h8,h9,bfQ];grind
 . have h8:¬bits m<=Q+1:=by
    rw[aF];intro h9;have h10:(m+1)*(m+1)<=2^(Q+1)*2^(Q+1):=bf4 h9 h9;rw[<-bfW]at h10;have h11:X<2^(Q+1+(Q+1)):=bfX h2 h10;rw[show Q+1+(Q+1)=2*Q+2 from by omega]at h11;omega
   omega
 . have h8:bits m<=Q+3:=by
    rw[aF];rcases Nat.lt_or_ge m (2^(Q+3))with h9|h9
    . exact h9
    . exfalso
      have h10:2^(Q+3)*2^(Q+3)<=m*m:=bf4 h9 h9;rw[<-bfW,show Q+3+(Q+3)=2*Q+6 from by omega]at h10;omega
   omega
 . omega
 . omega
theorem qI(x:Dy)(dir:Int)(hP:1<=P)(hx:0<=x.man):∃q q':Rat,0<=q/\q<=q'/\q*q<=rv x/\rv x<=q'*q'/\
 0<=rv (aL x P dir)/\(dir<0->rv (aL x P dir)<=q)/\(0<=dir->q'<=rv (aL x P dir))/\q'-q<=q*p2 (-P)/\Err P (rv (aL x P dir)) q/\Err P (rv (aL x P dir)) q':=by
 unfold aL;by_cases h0:x.man=0
 . rw[if_pos h0,lD]
   have e0:rv x=0:=(aY x).2.2.2 h0;rw[e0];exact⟨0,0,bfO,bfO,by grind,by grind,bfO,fun _=>bfO,fun _=>bfO,by grind,qH,qH⟩
 . rw[if_neg h0]
   obtain⟨m,f,e1,e2,h1,h2,h3,h4,h5,-,-⟩:=ae9 (x:=x) (P:=P) (by omega) hP;rw[e1,e2];have hpf:=aZ f;have hm0:(0:Rat)<=(m:Rat):=bf2;have hq0:=bfN hm0 (show 0<=p2 f by grind);have hbm:=(qF (m:=m) (by intro h;rw[h]at h4;have:bits 0=0:=rfl;omega)).1;have hnn:0<=rv (aQ false m f (sqR x P) P dir):=by
    unfold aQ;refine zU dir ?_;exact vY _ (by show(0:Int)<=((_:Nat):Int);omega)
   have hE:p2 ((bits m:Int)+f-1)<=(m:Rat)*p2 f:=by
    rw[show(bits m:Int)+f-1=((bits m:Int)-1)+f from by omega,bY];have:=bfN (a:=(m:Rat)-p2 ((bits m:Int)-1)) (b:=p2 f) (by grind) (by grind);grind
   have b1:=lZ (neg:=false) (more:=sqR x P) (P:=P) (z:=(m:Rat)*p2 f) (m:=m) (e:=f) dir hP bfO (by grind) (fun _=>rfl) (fun _=>h4);have sf:∀z,sgq false z=z:=fun z=>by unfold sgq;simp
   rw[sf]at b1
   cases hr:sqR x P
   . rw[hr]at b1 hnn
     have h6:=h3 hr;have hz0:0<=(m:Rat)*p2 f*p2 (-P):=bfN hq0 (by have:=aZ (-P);grind);have er:=rE b1.2.2.1 b1.2.2.2 hE (Or.inl rfl);exact⟨(m:Rat)*p2 f,(m:Rat)*p2 f,hq0,bfO,h1,by rw[h6];exact bfO,hnn,b1.1,b1.2.1,by grind,er,er⟩
   . rw[hr]at b1 hnn
     have b2:=lZ (neg:=false) (more:=true) (P:=P) (z:=((m:Rat)+1)*p2 f) (m:=m) (e:=f) dir hP (by grind) bfO (fun h=>by cases h) (fun _=>h4);rw[sf]at b2;refine⟨(m:Rat)*p2 f,((m:Rat)+1)*p2 f,hq0,by grind,h1,h2,hnn,b1.1,b2.2.1,?_,rE b1.2.2.1 b1.2.2.2 hE (Or.inl rfl),rE b2.2.2.1 b2.2.2.2 (z:=((m:Rat)+1)*p2 f) (by grind) (Or.inl rfl)⟩
     -- p2 f <= m * p2 f * p2 (-P)
     have h7:p2 P<=(m:Rat):=by
      have:=iO (show P<=(bits m:Int)-1 by omega);grind
     have h8:p2 P*p2 (-P)=1:=by rw[<-bY,show P+-P=0 from by omega,lC]
     have h9:=bfN (a:=(m:Rat)-p2 P) (b:=p2 f*p2 (-P)) (by grind) (by have:=bf1 hpf (aZ (-P));grind);have h10:p2 P*(p2 f*p2 (-P))=p2 f:=by
      have:p2 P*(p2 f*p2 (-P))=p2 P*p2 (-P)*p2 f:=by grind
      rw[this,h8];grind
     have h11:((m:Rat)-p2 P)*(p2 f*p2 (-P))=(m:Rat)*p2 f*p2 (-P)-p2 P*(p2 f*p2 (-P)):=by grind
     rw[h11,h10]at h9;have h12:((m:Rat)+1)*p2 f=(m:Rat)*p2 f+p2 f:=by grind
     rw[h12];generalize (m:Rat)*p2 f*p2 (-P)=u at*;generalize (m:Rat)*p2 f=v at*;grind
theorem ag6(x:Dy)(dir:Int)(hP:1<=P)(hx:0<=x.man):Canon (aL x P dir)/\(bits (aL x P dir).man.natAbs:Int)<=P/\
 ((aL x P dir).man≠0->topD x-2*P-10<=2*(aL x P dir).exp/\2*topD (aL x P dir)<=topD x+5):=by
 unfold aL;by_cases h0:x.man=0
 . rw[if_pos h0]
   exact⟨aT 0,by show((bits 0:Nat):Int)<=P;have:bits 0=0:=rfl;omega,fun h=>absurd rfl h⟩
 . rw[if_neg h0]
   obtain⟨m,f,e1,e2,-,-,-,h4,h5,h6,h7⟩:=ae9 (x:=x) (P:=P) (by omega) hP;rw[e1,e2];obtain⟨k1,k2,k3⟩:=qG (neg:=false) (m:=m) (e:=f) (more:=sqR x P) (P:=P) dir hP;refine⟨k1,k2,fun h=> ?_⟩;obtain⟨k4,k5⟩:=k3 h;omega
end
section
open Re (rat)
open Int renaming sign_eq_neg_one_iff_neg->bf7,sign_eq_one_iff_pos->bf9
open Rat renaming le_trans->bf6,le_refl->bf8,mul_nonneg->bgA
variable{P:Int}{L p q x y z:Re}
structure Bl where
 lo:Dy
 hi:Dy
def In(x:Re)(b:Bl):Prop:=rat (rv b.lo)<=x/\x<=rat (rv b.hi)
def atB(v:Dy):Bl:=⟨v,v⟩
def notB(b:Bl):Bl:=⟨notD b.hi,notD b.lo⟩
def addB(a b:Bl)(P:Int):Bl:=⟨aM (addD a.lo b.lo) P (-1),aM (addD a.hi b.hi) P 1⟩
def minD(x lo:Dy):Dy:=if cmpD x lo<0 then x else lo
def maxD(x hi:Dy):Dy:=if 0<cmpD x hi then x else hi
def vZ(a b:Bl):Dy:=minD (mulD a.hi b.hi) (minD (mulD a.hi b.lo) (minD (mulD a.lo b.hi) (mulD a.lo b.lo)))
def yI(a b:Bl):Dy:=maxD (mulD a.hi b.hi) (maxD (mulD a.hi b.lo) (maxD (mulD a.lo b.hi) (mulD a.lo b.lo)))
def mulB(a b:Bl)(P:Int):Bl:=⟨aM (vZ a b) P (-1),aM (yI a b) P 1⟩
def jU(a b:Bl)(P:Int):Dy:=minD (quoD a.hi b.hi P (-1)) (minD (quoD a.hi b.lo P (-1)) (minD (quoD a.lo b.hi P (-1)) (quoD a.lo b.lo P (-1))))
def jV(a b:Bl)(P:Int):Dy:=maxD (quoD a.hi b.hi P 1) (maxD (quoD a.hi b.lo P 1) (maxD (quoD a.lo b.hi P 1) (quoD a.lo b.lo P 1)))
def quoB(a b:Bl)(P:Int):Option Bl:=if b.lo.man.sign=b.hi.man.sign/\b.lo.man.sign≠0 then some ⟨jU a b P,jV a b P⟩else none
def aS(a:Bl):Dy:=if a.lo.man<0 then⟨0,0⟩else a.lo
def nW(a:Bl)(P:Int):Option Bl:=if a.hi.man<0 then none else some ⟨aL (aS a) P (-1),aL a.hi P 1⟩
theorem wC(x y:Dy):rv (minD x y)<=rv x/\rv (minD x y)<=rv y/\(minD x y=x\/minD x y=y):=by
 unfold minD;have:=(akZ x y).1
 split
 . rename_i h;have:=this.1 h;exact⟨bf8,by grind,Or.inl rfl⟩
 . rename_i h
   have:¬rv x<rv y:=fun h'=>h (this.2 h');exact⟨by grind,bf8,Or.inr rfl⟩
theorem wF(x y:Dy):rv x<=rv (maxD x y)/\rv y<=rv (maxD x y)/\(maxD x y=x\/maxD x y=y):=by
 unfold maxD;have:=(akZ x y).2
 split
 . rename_i h;have:=this.1 h;exact⟨bf8,by grind,Or.inl rfl⟩
 . rename_i h
   have:¬rv y<rv x:=fun h'=>h (this.2 h');exact⟨by grind,bf8,Or.inr rfl⟩
theorem mD(a b c d:Dy):let m:=minD a (minD b (minD c d));rv m<=rv a/\rv m<=rv b/\rv m<=rv c/\rv m<=rv d/\(m=a\/m=b\/m=c\/m=d):=by
 obtain⟨h1,h2,h3⟩:=wC c d;obtain⟨k1,k2,k3⟩:=wC b (minD c d);obtain⟨j1,j2,j3⟩:=wC a (minD b (minD c d));refine⟨j1,by grind,by grind,by grind,?_⟩;rcases j3 with j3|j3<;>rw[j3]
 . exact Or.inl rfl
 . rcases k3 with k3|k3<;>rw[k3]
   . exact Or.inr (Or.inl rfl)
   . rcases h3 with h3|h3<;>rw[h3]
     . exact Or.inr (Or.inr (Or.inl rfl))
     . exact Or.inr (Or.inr (Or.inr rfl))
theorem mF(a b c d:Dy):let m:=maxD a (maxD b (maxD c d));rv a<=rv m/\rv b<=rv m/\rv c<=rv m/\rv d<=rv m/\(m=a\/m=b\/m=c\/m=d):=by
 obtain⟨h1,h2,h3⟩:=wF c d;obtain⟨k1,k2,k3⟩:=wF b (maxD c d);obtain⟨j1,j2,j3⟩:=wF a (maxD b (maxD c d));refine⟨j1,by grind,by grind,by grind,?_⟩;rcases j3 with j3|j3<;>rw[j3]
 . exact Or.inl rfl
 . rcases k3 with k3|k3<;>rw[k3]
   . exact Or.inr (Or.inl rfl)
   . rcases h3 with h3|h3<;>rw[h3]
     . exact Or.inr (Or.inr (Or.inl rfl))
     . exact Or.inr (Or.inr (Or.inr rfl))
namespace Re
theorem lin_ge(h1:p<=x)(h2:x<=q)(k1:L<=p*y)(k2:L<=q*y):L<=x*y:=by
 rcases le_total 0 y with h|h
 . exact le_trans k1 (mul_le_mul_right h h1)
 . refine le_trans k2 ?_
   have:=mul_le_mul_right (neg_nonneg.2 h) h2;rw[mul_neg,mul_neg]at this;have:=neg_le_neg this;rwa[neg_neg,neg_neg]at this
theorem lin_le(h1:p<=x)(h2:x<=q)(k1:p*y<=L)(k2:q*y<=L):x*y<=L:=by
 rcases le_total 0 y with h|h
 . exact le_trans (mul_le_mul_right h h2) k2
 . refine le_trans ?_ k1
   have:=mul_le_mul_right (neg_nonneg.2 h) h1;rw[mul_neg,mul_neg]at this;have:=neg_le_neg this;rwa[neg_neg,neg_neg]at this
theorem lin_ge'(h1:p<=x)(h2:x<=q)(k1:L<=y*p)(k2:L<=y*q):L<=y*x:=by
 rw[mul_comm y]at*;exact lin_ge h1 h2 k1 k2
theorem lin_le'(h1:p<=x)(h2:x<=q)(k1:y*p<=L)(k2:y*q<=L):y*x<=L:=by
 rw[mul_comm y]at*;exact lin_le h1 h2 k1 k2
theorem le_of_mul_pos(hz:0<z)(h:x*z<=y*z):x<=y:=by
 intro k;have k':y<x:=k;have:=mul_pos (sub_pos.2 k') hz;rw[sub_mul]at this;exact lt_irrefl _ (lt_of_lt_of_le (sub_pos.1 this) h)
theorem le_of_mul_neg(hz:z<0)(h:y*z<=x*z):x<=y:=by
 refine le_of_mul_pos (z:=-z) (neg_pos.2 hz) ?_;rw[mul_neg,mul_neg];exact neg_le_neg h
end Re
open Re
theorem apB{v:Dy}:In (rat (rv v)) (atB v):=⟨le_refl _,le_refl _⟩
theorem aoR{b:Bl}(h:In x b):In (-x) (notB b):=by
 unfold In notB;rw[nQ,nQ,rat_neg,rat_neg];exact⟨neg_le_neg h.2,neg_le_neg h.1⟩
theorem ak3{a b:Bl}(hP:1<=P)(h:In x a)(k:In y b):In (x+y) (addB a b P):=by
 unfold In addB;have h1:=(jD (addD a.lo b.lo) (-1) hP).1 (by decide);have h2:=(jD (addD a.hi b.hi) 1 hP).2.1 (by decide);rw[zR]at h1 h2;have h1:=rat_le.2 h1;have h2:=rat_le.2 h2;rw[rat_add]at h1 h2;exact⟨le_trans h1 (add_le_add h.1 k.1),le_trans (add_le_add h.2 k.2) h2⟩
theorem aoS{a b:Bl}(hP:1<=P)(h:In x a)(k:In y b):In (x*y) (mulB a b P):=by
 unfold In mulB;have h1:=(jD (vZ a b) (-1) hP).1 (by decide);have h2:=(jD (yI a b) 1 hP).2.1 (by decide);obtain⟨l1,l2,l3,l4,-⟩:=mD (mulD a.hi b.hi) (mulD a.hi b.lo) (mulD a.lo b.hi) (mulD a.lo b.lo);obtain⟨m1,m2,m3,m4,-⟩:=mF (mulD a.hi b.hi) (mulD a.hi b.lo) (mulD a.lo b.hi) (mulD a.lo b.lo);have h1:=rat_le.2 h1;have h2:=rat_le.2 h2;have l1:=rat_le.2 l1;have l2:=rat_le.2 l2;have l3:=rat_le.2 l3;have l4:=rat_le.2 l4;have m1:=rat_le.2 m1;have m2:=rat_le.2 m2;have m3:=rat_le.2 m3;have m4:=rat_le.2 m4;rw[fP,rat_mul]at l1 l2 l3 l4 m1 m2 m3 m4;refine⟨le_trans h1 (lin_ge h.1 h.2 (lin_ge' k.1 k.2 l4 l3) (lin_ge' k.1 k.2 l2 l1)),le_trans (lin_le h.1 h.2 (lin_le' k.1 k.2 m4 m3) (lin_le' k.1 k.2 m2 m1)) h2⟩
theorem jK{b:Bl}(h:b.lo.man.sign=b.hi.man.sign/\b.lo.man.sign≠0):(0<b.lo.man/\0<b.hi.man)\/(b.lo.man<0/\b.hi.man<0):=by
 obtain⟨h1,h2⟩:=h;rcases Int.lt_trichotomy b.lo.man 0 with g|g|g
 . right;refine⟨g,?_⟩
   rw[bf7.2 g]at h1;exact bf7.1 h1.symm
 . rw[g]at h2;exact absurd rfl h2
 . left;refine⟨g,?_⟩
   rw[bf9.2 g]at h1;exact bf9.1 h1.symm
theorem tL(x y:Rat)(h:y≠0):∃t:Rat,t*y=x:=⟨x/y,by grind⟩
theorem aoT{a b r:Bl}(hP:1<=P)(h:In x a)(k:In y b)(hz:z*y=x)(hr:quoB a b P=some r):In z r:=by
 unfold quoB at hr
 split at hr
 . rename_i hs
   injection hr with hr;subst hr;obtain⟨l1,l2,l3,l4,-⟩:=mD (quoD a.hi b.hi P (-1)) (quoD a.hi b.lo P (-1)) (quoD a.lo b.hi P (-1)) (quoD a.lo b.lo P (-1));obtain⟨m1,m2,m3,m4,-⟩:=mF (quoD a.hi b.hi P 1) (quoD a.hi b.lo P 1) (quoD a.lo b.hi P 1) (quoD a.lo b.lo P 1);have n1:b.lo.man≠0:=by rcases jK hs with g|g<;>omega
   have n2:b.hi.man≠0:=by rcases jK hs with g|g<;>omega
   have v1:rv b.lo≠0:=fun g=>n1 ((aY _).2.2.1 g);have v2:rv b.hi≠0:=fun g=>n2 ((aY _).2.2.1 g);obtain⟨t1,e1⟩:=tL (rv a.hi) (rv b.hi) v2;obtain⟨t2,e2⟩:=tL (rv a.hi) (rv b.lo) v1;obtain⟨t3,e3⟩:=tL (rv a.lo) (rv b.hi) v2;obtain⟨t4,e4⟩:=tL (rv a.lo) (rv b.lo) v1;have d1:=(jT a.hi b.hi (-1) hP n2 e1).1 (by decide);have d2:=(jT a.hi b.lo (-1) hP n1 e2).1 (by decide);have d3:=(jT a.lo b.hi (-1) hP n2 e3).1 (by decide);have d4:=(jT a.lo b.lo (-1) hP n1 e4).1 (by decide);have u1:=(jT a.hi b.hi 1 hP n2 e1).2.1 (by decide);have u2:=(jT a.hi b.lo 1 hP n1 e2).2.1 (by decide);have u3:=(jT a.lo b.hi 1 hP n2 e3).2.1 (by decide);have u4:=(jT a.lo b.lo 1 hP n1 e4).2.1 (by decide);show rat (rv (jU a b P))<=z/\z<=rat (rv (jV a b P));have hL:rv (jU a b P)<=t1/\rv (jU a b P)<=t2/\rv (jU a b P)<=t3/\rv (jU a b P)<=t4:=
    ⟨bf6 l1 d1,bf6 l2 d2,bf6 l3 d3,bf6 l4 d4⟩
   have hH:t1<=rv (jV a b P)/\t2<=rv (jV a b P)/\t3<=rv (jV a b P)/\t4<=rv (jV a b P):=
    ⟨bf6 u1 m1,bf6 u2 m2,bf6 u3 m3,bf6 u4 m4⟩
   generalize rv (jU a b P)=L at*;generalize rv (jV a b P)=H at*;have key:∀u v:Rat,∀c:Rat,u<=v->(0<=c->u*c<=v*c)/\(c<=0->v*c<=u*c):=fun u v c huv=>by
    constructor
    . intro hc;have:=bgA (a:=v-u) (b:=c) (by grind) hc;grind
    . intro hc;have:=bgA (a:=v-u) (b:=-c) (by grind) (by grind);grind
   rcases jK hs with ⟨g1,g2⟩|⟨g1,g2⟩
   . have p1:0<rv b.lo:=(aY _).1.2 g1
     have p2':0<rv b.hi:=(aY _).1.2 g2;have hy:0<y:=lt_of_lt_of_le (by rw[zero_rat,rat_lt];exact p1) k.1;constructor
     . refine le_of_mul_pos hy ?_
       rw[hz];refine le_trans ?_ h.1;refine lin_le' k.1 k.2 ?_ ?_<;>rw[<-rat_mul,rat_le]
       . rw[<-e4];exact(key _ _ _ hL.2.2.2).1 (by grind)
       . rw[<-e3];exact(key _ _ _ hL.2.2.1).1 (by grind)
     . refine le_of_mul_pos hy ?_
       rw[hz];refine le_trans h.2 ?_;refine lin_ge' k.1 k.2 ?_ ?_<;>rw[<-rat_mul,rat_le]
       . rw[<-e2];exact(key _ _ _ hH.2.1).1 (by grind)
       . rw[<-e1];exact(key _ _ _ hH.1).1 (by grind)
   . have p1:rv b.lo<0:=(aY _).2.1.2 g1
     have p2':rv b.hi<0:=(aY _).2.1.2 g2;have hy:y<0:=lt_of_le_of_lt k.2 (by rw[zero_rat,rat_lt];exact p2');constructor
     . refine le_of_mul_neg hy ?_
       rw[hz];refine le_trans h.2 ?_;refine lin_ge' k.1 k.2 ?_ ?_<;>rw[<-rat_mul,rat_le]
       . rw[<-e2];exact(key _ _ _ hL.2.1).2 (by grind)
       . rw[<-e1];exact(key _ _ _ hL.1).2 (by grind)
     . refine le_of_mul_neg hy ?_
       rw[hz];refine le_trans ?_ h.1;refine lin_le' k.1 k.2 ?_ ?_<;>rw[<-rat_mul,rat_le]
       . rw[<-e4];exact(key _ _ _ hH.2.2.2).2 (by grind)
       . rw[<-e3];exact(key _ _ _ hH.2.2.1).2 (by grind)
 . cases hr
theorem kM(a:Bl):0<=(aS a).man/\rv a.lo<=rv (aS a)/\(rv (aS a)=rv a.lo\/rv (aS a)=0):=by
 unfold aS
 split
 . rename_i h
   refine⟨Int.le_refl _,?_,Or.inr (lD 0)⟩;have:=(aY a.lo).2.1.2 h;rw[lD];grind
 . rename_i h;exact⟨by omega,bf8,Or.inl rfl⟩
theorem afA{s:Re}{a:Bl}(hP:1<=P)(h:In x a)(hs:0<=s)(hx:s*s=x):∃r,nW a P=some r/\In s r:=by
 have hx0:0<=x:=by rw[<-hx];exact sq_nonneg s
 have hhi:0<=rv a.hi:=by have:=le_trans hx0 h.2;rw[zero_rat,rat_le]at this;exact this
 have hm:0<=a.hi.man:=by
  rcases Int.lt_or_le a.hi.man 0 with g|g
  . have:=(aY a.hi).2.1.2 g;grind
  . exact g
 unfold nW;rw[if_neg (by omega)];refine⟨_,rfl,?_,?_⟩
 . obtain⟨k1,k2,k3⟩:=kM a
   obtain⟨q,q',q1,q2,q3,q4,q5,q6,-⟩:=qI (aS a) (-1) hP k1;show rat (rv (aL (aS a) P (-1)))<=s;refine le_trans (rat_le.2 (q6 (by decide))) (le_of_sq hs ?_);rw[hx,<-rat_mul];refine le_trans (rat_le.2 q3) ?_;rcases k3 with k3|k3<;>rw[k3]
   . exact h.1
   . exact hx0
 . obtain⟨q,q',q1,q2,q3,q4,q5,-,q7,-⟩:=qI a.hi 1 hP hm
   show s<=rat (rv (aL a.hi P 1));refine le_trans (le_of_sq (y:=rat q') ?_ ?_) (rat_le.2 (q7 (by decide)))
   . rw[zero_rat,rat_le];grind
   . rw[hx,<-rat_mul];exact le_trans h.2 (rat_le.2 q4)
end
section
variable{d x y:Dy}{B C E F P:Int}
def Sz(B E:Int)(d:Dy):Prop:=Canon d/\(bits d.man.natAbs:Int)<=B/\(d.man≠0->-E<=d.exp/\topD d<=E)
def SzB(B E:Int)(b:Bl):Prop:=Sz B E b.lo/\Sz B E b.hi
theorem Sz.mono (h:Sz B E d)(hB:B<=C)(hE:E<=F):Sz C F d:=
 ⟨h.1,by have:=h.2.1;omega,fun hn=>by have:=h.2.2 hn;omega⟩
theorem SzB.mono {b:Bl}(h:SzB B E b)(hB:B<=C)(hE:E<=F):SzB C F b:=⟨h.1.mono hB hE,h.2.mono hB hE⟩
theorem Sz.zero (hB:0<=B):Sz B E ⟨0,0⟩:=⟨aT 0,by show((bits 0:Nat):Int)<=B;have:bits 0=0:=rfl;omega,fun h=>absurd rfl h⟩
theorem lF(h:d.man≠0):d.exp+1<=topD d:=by
 unfold topD;rw[if_neg h];have:bits d.man.natAbs≠0:=fun h'=>h (by have:=(bO _).1 h';omega);omega
theorem Sz.lt (h:Sz B E d):-p2 E<rv d/\rv d<p2 E:=by
 by_cases hn:d.man=0
 . have e0:rv d=0:=(aY d).2.2.2 hn
   have:=aZ E;rw[e0];constructor<;>grind
 . have h1:=ak0 d
   have h2:=iO (h.2.2 hn).2;constructor<;>grind
theorem rF(hn:d.man≠0)(h1:-p2 E<rv d)(h2:rv d<p2 E):topD d<=E:=by
 have h3:p2 (topD d-1)<p2 E:=by rcases rD d hn with h|h<;>grind
 have:=ag5.1 h3;omega
theorem mG{x e:Int}(h:(mkDy x e).man≠0):e<=(mkDy x e).exp:=by
 rcases iG x e with ⟨h1,h2⟩|⟨h1,h2,h3,h4⟩
 . rw[h1]at h;exact absurd rfl h
 . exact h3
theorem wG{a:Dy}(dir:Int)(hP:1<=P)(h:(mkDy a.man a.exp).man≠0->-E<=(mkDy a.man a.exp).exp/\topD (mkDy a.man a.exp)<=E):Sz P (E+1) (aM a P dir):=by
 obtain⟨k1,k2,k3⟩:=vX (a:=a) dir hP;refine⟨k1,k2,fun hn=> ?_⟩;obtain⟨j1,j2⟩:=k3 hn;by_cases h0:(mkDy a.man a.exp).man=0
 . exfalso;apply hn
   have h1:a.man=0:=by
    rcases iG a.man a.exp with ⟨g1,g2⟩|⟨g1,g2,-⟩
    . exact g2
    . exact absurd h0 g2
   unfold aM;rw[h1,aT,if_pos (by show((bits 0:Nat):Int)<=P;have:bits 0=0:=rfl;omega)]
 . have:=h h0
   omega
theorem adZ(x y:Dy):Canon (addD x y):=by
 unfold addD;split
 . exact Canon.mk _ _
 . split<;>exact Canon.mk _ _
theorem ak4(dir:Int)(hP:1<=P)(h:Sz B E x)(k:Sz C F y):Sz P (max E F+2) (aM (addD x y) P dir):=by
 refine Sz.mono (wG (E:=max E F+1) dir hP ?_) (Int.le_refl _) (by omega);rw[show mkDy (addD x y).man (addD x y).exp=addD x y from adZ x y];intro hn;constructor
 . by_cases hx:x.man=0
   . have e:addD x y=mkDy y.man y.exp:=by unfold addD;rw[if_pos hx]
     rw[e]at hn|-;have h1:=mG hn;have hy:y.man≠0:=fun hy=>hn (by rw[hy,aT]);have:=(k.2.2 hy).1;omega
   . by_cases hy:y.man=0
     . have e:addD x y=mkDy x.man x.exp:=by unfold addD;rw[if_neg hx,if_pos hy]
       rw[e]at hn|-;have h1:=mG hn;have:=(h.2.2 hx).1;omega
     . have e:addD x y=mkDy (dG x y+dH x y) (min x.exp y.exp):=by unfold addD;rw[if_neg hx,if_neg hy]
       rw[e]at hn|-;have h1:=mG hn;have:=(h.2.2 hx).1;have:=(k.2.2 hy).1;omega
 . have h1:=h.lt;have h2:=k.lt
   have h3:=iO (show E<=max E F by omega);have h4:=iO (show F<=max E F by omega);have h5:=gI (max E F);refine rF hn ?_ ?_<;>rw[zR]<;>grind
theorem mul_lt{x y X Y:Rat}(h1:-X<x)(h2:x<X)(h3:-Y<y)(h4:y<Y):-(X*Y)<x*y/\x*y<X*Y:=y7 h1 h2 h3 h4
theorem tN(h:Sz B E x)(k:Sz C F y)(hn:(mulD x y).man≠0):-(E+F)<=(mulD x y).exp/\topD (mulD x y)<=E+F:=by
 have hx:x.man≠0:=fun hx=>hn (by unfold mulD;rw[hx,Int.zero_mul,aT]);have hy:y.man≠0:=fun hy=>hn (by unfold mulD;rw[hy,Int.mul_zero,aT]);constructor
 . have h1:x.exp+y.exp<=(mulD x y).exp:=mG hn
   have:=(h.2.2 hx).1;have:=(k.2.2 hy).1;omega
 . have h1:=h.lt;have h2:=k.lt
   have:=mul_lt h1.1 h1.2 h2.1 h2.2;rw[<-bY]at this;exact rF hn (by rw[fP];exact this.1) (by rw[fP];exact this.2)
theorem aoU{a b:Bl}(hP:1<=P)(h:SzB B E a)(k:SzB C F b):SzB P (E+F+1) (mulB a b P):=by
 have key:∀m:Dy,(m=mulD a.hi b.hi\/m=mulD a.hi b.lo\/m=mulD a.lo b.hi\/m=mulD a.lo b.lo)->(mkDy m.man m.exp).man≠0->-(E+F)<=(mkDy m.man m.exp).exp/\topD (mkDy m.man m.exp)<=E+F:=by
  intro m hm hn;have hc:mkDy m.man m.exp=m:=by rcases hm with hm|hm|hm|hm<;>rw[hm]<;>exact Canon.mk _ _
  rw[hc]at hn|-;rcases hm with hm|hm|hm|hm<;>rw[hm]at hn|-
  . exact tN h.2 k.2 hn
  . exact tN h.2 k.1 hn
  . exact tN h.1 k.2 hn
  . exact tN h.1 k.1 hn
 exact⟨wG (-1) hP (key _ (mD _ _ _ _).2.2.2.2),wG 1 hP (key _ (mF _ _ _ _).2.2.2.2)⟩
theorem tQ(dir:Int)(hP:1<=P)(h:Sz B E x)(k:Sz C F y)(hy:y.man≠0):Sz P (E+F+P+4) (quoD x y P dir):=by
 obtain⟨k1,k2,k3⟩:=ab6 x y dir hP hy;refine⟨k1,k2,fun hn=> ?_⟩;have hx:x.man≠0:=fun hx=>hn (by unfold quoD;rw[if_pos hx]);obtain⟨j1,j2⟩:=k3 hn;have:=h.2.2 hx;have:=k.2.2 hy;have:=lF hx;have:=lF hy;omega
theorem aoV{a b r:Bl}(hP:1<=P)(h:SzB B E a)(k:SzB C F b)(hr:quoB a b P=some r):SzB P (E+F+P+4) r:=by
 unfold quoB at hr
 split at hr
 . rename_i hs
   injection hr with hr;subst hr;have n1:b.lo.man≠0:=by rcases jK hs with g|g<;>omega
   have n2:b.hi.man≠0:=by rcases jK hs with g|g<;>omega
   have key:∀(m:Dy) (dir:Int),(m=quoD a.hi b.hi P dir\/m=quoD a.hi b.lo P dir\/m=quoD a.lo b.hi P dir\/m=quoD a.lo b.lo P dir)->Sz P (E+F+P+4) m:=by
    intro m dir hm;rcases hm with hm|hm|hm|hm<;>rw[hm]
    . exact tQ dir hP h.2 k.2 n2
    . exact tQ dir hP h.2 k.1 n1
    . exact tQ dir hP h.1 k.2 n2
    . exact tQ dir hP h.1 k.1 n1
   exact⟨key _ (-1) (mD _ _ _ _).2.2.2.2,key _ 1 (mF _ _ _ _).2.2.2.2⟩
 . cases hr
theorem ab7(dir:Int)(hP:1<=P)(h:Sz B E x)(hE:0<=E)(hx:0<=x.man):Sz P (E+P+5) (aL x P dir):=by
 obtain⟨k1,k2,k3⟩:=ag6 x dir hP hx;refine⟨k1,k2,fun hn=> ?_⟩;have hx0:x.man≠0:=fun hx=>hn (by unfold aL;rw[if_pos hx]);obtain⟨j1,j2⟩:=k3 hn;have:=h.2.2 hx0;have:=lF hx0;omega
theorem am6{a r:Bl}(hP:1<=P)(h:SzB B E a)(hE:0<=E)(hB:0<=B)(hr:nW a P=some r):SzB P (E+P+5) r:=by
 unfold nW at hr
 split at hr
 . cases hr
 . rename_i hs
   injection hr with hr;subst hr;refine⟨ab7 (-1) hP (x:=aS a) (B:=B) (E:=E) ?_ hE (kM a).1,ab7 1 hP h.2 hE (by omega)⟩;unfold aS;split
   . exact Sz.zero hB
   . exact h.1
theorem afB{a b:Bl}(hP:1<=P)(h:SzB B E a)(k:SzB C F b):SzB P (max E F+2) (addB a b P):=⟨ak4 (-1) hP h.1 k.1,ak4 1 hP h.2 k.2⟩
theorem afC(h:Sz B E d):Sz B E (notD d):=by
 have hm:(notD d).man=-d.man/\(notD d).exp=d.exp:=by
  have hc:=h.1;unfold Canon at hc;have h1:=ae6 d.man d.exp;rw[hc]at h1;by_cases h0:d.man=0
  . have:d.exp=0:=by rw[<-hc,h0,aT]
    unfold notD;rw[h0,this];exact⟨rfl,rfl⟩
  . unfold notD
    unfold mkDy at hc|-;rw[if_neg h0]at hc;rw[if_neg (by omega)];have e1:(-d.man).natAbs=d.man.natAbs:=by omega
    rw[e1];have hc1:sg (decide (d.man<0)) (d.man.natAbs/2^ctz d.man.natAbs)=d.man:=congrArg Dy.man hc;have hc2:d.exp+ctz d.man.natAbs=d.exp:=congrArg Dy.exp hc;refine⟨?_,hc2⟩;have:decide (-d.man<0)= !decide (d.man<0):=by
     by_cases g:d.man<0
     . rw[decide_eq_true g,decide_eq_false (by omega)];rfl
     . rw[decide_eq_false g,decide_eq_true (by omega)];rfl
    rw[this]
    conv=>rhs;rw[<-hc1]
    cases decide (d.man<0)<;>simp[sg]
 refine⟨Canon.mk _ _,by rw[hm.1,show(-d.man).natAbs=d.man.natAbs from by omega];exact h.2.1,fun hn=> ?_⟩;rw[hm.1]at hn;have hn':d.man≠0:=by omega
 have h2:=h.2.2 hn';refine⟨by rw[hm.2];exact h2.1,?_⟩;unfold topD at h2|-;rw[if_neg hn']at h2;rw[if_neg (by rw[hm.1];omega),hm.1,hm.2,show(-d.man).natAbs=d.man.natAbs from by omega];exact h2.2
theorem am7{b:Bl}(h:SzB B E b):SzB B E (notB b):=⟨afC h.2,afC h.1⟩
end
section
open Go.RowKit
variable{w:World}
theorem yJ{p q:Nat->Prop}{va vb:Value}{xs ys:List Nat}{g:Nat}(hx:NatP p w va xs)(hy:NatP q w vb ys)(hg:g<w.heap.size)(c0:w.cell? ⟨g,0,none⟩=some va)(c1:w.cell? ⟨g,1,none⟩=some vb)(hL:bits (val xs)<=1000000000)(hL':bits (val ys)<=1000000000):
 Calls Tryz.prog 258 #[.slice (some ⟨g,0,none⟩) 2 2] w (RetN w.heap.size w (val xs+val ys)):=by
 have HX:=hdd hx;have HY:=hdd hy;have HLX:=hdd hL;have HLY:=hdd hL';obtain⟨A,ca,rfl,-⟩:=hx;obtain⟨A',cb,rfl,-⟩:=hy;clear hL hL';go_enter Tryz.func258,Tryz.ntmps258
 go_wp2_with fail
 go_loopw [3,8] (fun sv i wr=>∃(m:Nat) (zs:List Nat),m<=2/\i=.int .i64 m/\Hid (NatP (fun b=>w.heap.size<=b) wr sv zs)/\Hid (Tr zs)/\Hid (Below w.heap.size w wr)/\Hid (val zs=(if 0<m then val xs else 0)+(if 1<m then val ys else 0))) (fun _ i _=>(2-intOf i).toNat)
 case atStart=>exact⟨0,[],by omega,rfl,hdd (NatP.nil _),hdd Tr.nil,hdd (Below.refl _ _),hdd rfl⟩
 case round=>
  obtain⟨m,zs,hm,rfl,HZ,HTZ,HB,HV⟩:=hrel;rcases(by omega:m=0\/m=1\/m=2)with rfl|rfl|rfl
  . have c0:=cbl c0 HB.out
    have HT1:=hdd (aI (HX.out.below HB.out));clear c1;go_wp2_with fail
    refine HT1.out.mono ?_;rintro e w1⟨rfl,v1,xs1,rfl,hv1,ht1,hval1,-⟩;have HA:=hdd (jP HZ.out hv1 (by have h1:=bD zs HZ.out.ok HTZ.out;rw[HV.out]at h1;have h2:=HLX.out;simp at h1;first|omega|(have:bits 0=0:=rfl;omega)) (by have:=bD xs1 hv1.ok ht1;rw[hval1]at this;have:=HLX.out;have:=HLY.out;omega));have HV1:=hdd hval1;clear hv1 ht1 hval1 HT1 HZ HTZ;go_wp2_with fail
    refine HA.out.mono ?_;rintro e w2⟨hb,v2,zs2,rfl,hz2,tz2,hvz2⟩;have HZ2:=hdd (hz2.weak fun b h _=>Nat.le_trans HB.out.size h);have HT2:=hdd tz2;have HB2:=hdd (HB.out.trans (hb.mono HB.out.size));have HV2:Hid (val zs2=(if 0<1 then val xs else 0)+(if 1<1 then val ys else 0)):=hdd (by rw[hvz2,HV.out,HV1.out];simp);clear hb hz2 tz2 hvz2 HA;go_wp2
    go_roundw
    case rel=>exact⟨1,zs2,by omega,by go_num,HZ2,HT2,HB2,HV2⟩
    case measure=>simp[intOf]
  . have c1:=cbl c1 HB.out
    have HT1:=hdd (aI (HY.out.below HB.out));clear c0;go_wp2_with fail
    refine HT1.out.mono ?_;rintro e w1⟨rfl,v1,xs1,rfl,hv1,ht1,hval1,-⟩;have HA:=hdd (jP HZ.out hv1 (by have h1:=bD zs HZ.out.ok HTZ.out;rw[HV.out]at h1;have h2:=HLX.out;simp at h1;first|omega|(have:bits 0=0:=rfl;omega)) (by have:=bD xs1 hv1.ok ht1;rw[hval1]at this;have:=HLX.out;have:=HLY.out;omega));have HV1:=hdd hval1;clear hv1 ht1 hval1 HT1 HZ HTZ;go_wp2_with fail
    refine HA.out.mono ?_;rintro e w2⟨hb,v2,zs2,rfl,hz2,tz2,hvz2⟩;have HZ2:=hdd (hz2.weak fun b h _=>Nat.le_trans HB.out.size h);have HT2:=hdd tz2;have HB2:=hdd (HB.out.trans (hb.mono HB.out.size));have HV2:Hid (val zs2=(if 0<2 then val xs else 0)+(if 1<2 then val ys else 0)):=hdd (by rw[hvz2,HV.out,HV1.out];simp);clear hb hz2 tz2 hvz2 HA;go_wp2
    go_roundw
    case rel=>exact⟨2,zs2,by omega,by go_num,HZ2,HT2,HB2,HV2⟩
    case measure=>simp[intOf]
  . have HT1:=hdd (aI HZ.out)
    go_wp2_with fail
    refine HT1.out.mono ?_;rintro e w1⟨rfl,v1,xs1,rfl,hv1,ht1,hval1,-⟩;have HF:=hdd (RetN.of (n:=val xs+val ys) HB.out hv1 ht1 (by rw[hval1,HV.out];simp));clear hv1 ht1 hval1 HT1;go_wp2;go_ret;exact HF.out
theorem outward_any{neg:Bool}{dir:Int}:Calls Tryz.prog 305 #[.bool neg,.int .i64 dir] w (fun e w'=>e=.returned (.bool (outw neg dir))/\w=w'):=by
 by_cases h:0<=dir
 . go_enter Tryz.func305,Tryz.ntmps305
   go_wp2;go_ret;exact⟨by show Ending.returned (.bool (!neg))=.returned (.bool (outw neg dir));unfold outw;rw[if_pos h],rfl⟩
 . go_enter Tryz.func305,Tryz.ntmps305
   go_wp2;go_ret;exact⟨by show Ending.returned (.bool neg)=.returned (.bool (outw neg dir));unfold outw;rw[if_neg (by omega)],rfl⟩
end
end Go.Proofs.YtigoiiekebccnaaGreatDoor
