/- A part of the proof: contracts of functions and plain laws (DyT, DyU, BlR, BlS). -/
import Derived.Test.YtjaafolhfihegaaGreatDoorK21
set_option linter.unusedVariables false
set_option linter.unusedSimpArgs false
set_option maxHeartbeats 25600000
set_option maxRecDepth 100000
namespace Go.Proofs.YtjaafolhfihegaaGreatDoor
open Classical renaming byContradiction->be3
open Int renaming sign_eq_neg_one_iff_neg->be7,toNat_natCast->be9,lt_or_le->bfH
open Nat renaming pow_add->beT,le_trans->beU,mul_le_mul_left->beV,two_pow_pos->beX,lt_of_lt_of_le->beY,le_of_eq->be1,pow_le_pow_right->be2,le_div_iff_mul_le->be4,div_lt_iff_lt_mul->be5,mul_assoc->be6,mul_le_mul_right->bfA,mul_lt_mul_right->bfB,eq_zero_or_pos->bfD,pow_succ->bfF,mul_comm->bfG,le_of_lt->bfI,div_add_mod->bfJ,mul_le_mul->bfL,lt_or_ge->bfM,mul_pos->bfN
open Rat renaming mul_nonneg->beQ,natCast_le_natCast->beR,natCast_mul->beS,le_refl->beW,natCast_add->be0,mul_eq_zero->be8,mul_pos->bfC,natCast_nonneg->bfE,natCast_pos->bfK
variable{P e:Int}{a m:Nat}{t z:Rat}
theorem acF(h:m≠0):bits (2*m+1)=bits m+1:=by
 have h1:=yB (2*m+1) (by omega);rw[h1,show(2*m+1)/2=m from by omega];omega
theorem acG(neg:Bool)(m:Nat)(e:Int):mkDy (sg neg (2*m+1)) e=⟨sg neg (2*m+1),e⟩:=by
 unfold mkDy;have h0:sg neg (2*m+1)≠0:=by cases neg<;>simp[sg]<;>omega
 have hc:ctz (sg neg (2*m+1)).natAbs=0:=by
  rw[bV];have:=zG 0 m;simpa using this
 have hn:decide (sg neg (2*m+1)<0)=neg:=by
  rw[vO];cases neg<;>simp
 rw[if_neg h0,hc,hn,bV];simp
theorem nR{neg:Bool}{more:Bool}(dir:Int)(hP:1<=P)(h1:(m:Rat)*p2 e<=z)(h2:z<=((m:Rat)+1)*p2 e)(h3:more=false->z=(m:Rat)*p2 e)(h4:more=true->P+2<=bits m):
 (dir<0->rv (bD neg m e more P dir)<=sgq neg z)/\(0<=dir->sgq neg z<=rv (bD neg m e more P dir))/\
 rv (bD neg m e more P dir)-sgq neg z<=p2 (bits m+e-P)/\sgq neg z-rv (bD neg m e more P dir)<=p2 (bits m+e-P):=by
 unfold bD
 cases more
 . simp only[Bool.false_eq_true,if_false]
   have hz:=h3 rfl;have hr:rv (mkDy (sg neg m) e)=sgq neg z:=by rw[lS,aaJ,hz];unfold sgq;cases neg<;>grind
   have k:=jX (mkDy (sg neg m) e) (P:=P) dir hP;rw[hr,oP]at k;by_cases hm:m=0
   . subst hm
     have e0:mkDy (sg neg 0) e=⟨0,0⟩:=by cases neg<;>exact bF e
     have e1:aY (mkDy (sg neg 0) e) P dir=⟨0,0⟩:=by
      rw[e0];unfold aY;rw[bF,if_pos (by show((bits 0:Nat):Int)<=P;have:bits 0=0:=rfl;omega)]
     rw[e1,mQ]at k|-;have hz0:z=0:=by rw[hz];simp
     have:=bU ((bits 0:Int)+e-P);rw[hz0]at k|-;have:sgq neg 0=0:=by unfold sgq;cases neg<;>simp
     rw[this]at k|-;exact⟨k.1,k.2.1,by grind,by grind⟩
   . have ht:topD (mkDy (sg neg m) e)=bits m+e:=by
      rw[aaK (by cases neg<;>simp[sg]<;>omega),bV]
     rw[ht]at k;exact k
 . simp only[if_true]
   have hb:=h4 rfl;have hm:m≠0:=by intro h;rw[h]at hb;have:bits 0=0:=rfl;omega
   unfold aY;rw[acG,acG,bV,acF hm];simp only;obtain⟨n,hn⟩:∃n:Nat,((bits m+1:Nat):Int)-P=n:=⟨(((bits m+1:Nat):Int)-P).toNat,by omega⟩;have hng:decide (sg neg (2*m+1)<0)=neg:=by
    rw[vO];cases neg<;>simp
   rw[if_neg (by omega),hn,be9,hng,lS,aaJ];obtain⟨j,hj⟩:∃j,n=j+1:=⟨n-1,by omega⟩;have hd:=pM (2*m+1) n;rw[hj,bfF]at hd;have hd1:((2*m+1)/(2^j*2))*2^j<=m:=by
    have:=hd.1;rw[<-be6]at this;omega
   have hd2:m+1<=((2*m+1)/(2^j*2)+1)*2^j:=by
    have:=hd.2;rw[<-be6]at this;omega
   rw[hj,bfF];have c1:=beR.2 hd1;have c2:=beR.2 hd2;rw[beS]at c1 c2;rw[be0,be0]at c2;have e5:((1:Nat):Rat)=1:=rfl;rw[e5]at c2;have e1:p2 (e-1+((j+1:Nat):Int))=((2^j:Nat):Rat)*p2 e:=by
    rw[show e-1+((j+1:Nat):Int)=(j:Int)+e from by omega,dE,fP]
   have hpe:=bU e;have k:=afA (q:=(2*m+1)/(2^j*2)) (p:=p2 (e-1+((j+1:Nat):Int))) (z:=z) (bU _) (by
    rw[e1];have:=beQ (a:=(m:Rat)-((((2*m+1)/(2^j*2)):Nat):Rat)*((2^j:Nat):Rat)) (b:=p2 e) (by grind) (by grind);grind) (by
    rw[e1];have:=beQ (a:=(((((2*m+1)/(2^j*2)):Nat):Rat)+1)*((2^j:Nat):Rat)-((m:Rat)+1)) (b:=p2 e) (by grind) (by grind);grind) neg dir
   have e3:(bits m:Int)+e-P=e-1+((j+1:Nat):Int):=by omega
   rw[e3];exact k
theorem rF{neg:Bool}{more:Bool}(dir:Int)(hP:1<=P):Canon (bD neg m e more P dir)/\(bits (bD neg m e more P dir).man.natAbs:Int)<=P/\
 ((bD neg m e more P dir).man≠0->e-1<=(bD neg m e more P dir).exp/\topD (bD neg m e more P dir)<=bits m+e+1):=by
 unfold bD;obtain⟨k1,k2,k3⟩:=wW (a:=mkDy (sg neg (if more then 2*m+1 else m)) (if more then e-1 else e)) (P:=P) dir hP;refine⟨k1,k2,fun h=> ?_⟩;obtain⟨j1,j2⟩:=k3 h;rw[oP]at j1 j2;rcases jF (sg neg (if more then 2*m+1 else m)) (if more then e-1 else e)with ⟨h1,h2⟩|⟨h1,h2,h3,h4⟩
 . exfalso;apply h
   rw[h1];unfold aY;rw[bF,if_pos (by show((bits 0:Nat):Int)<=P;have:bits 0=0:=rfl;omega)]
 . have ht:=aaK h1 (if more then e-1 else e)
   rw[ht,bV]at j2
   cases more
   . simp only[Bool.false_eq_true,if_false]at*
     exact⟨by omega,by omega⟩
   . simp only[if_true]at*
     by_cases hm:m=0
     . subst hm
       have:bits (2*0+1)=1:=by decide
       have:bits 0=0:=rfl;exact⟨by omega,by omega⟩
     . rw[acF hm]at j2
       exact⟨by omega,by omega⟩
def quoA(a b:Nat)(P:Int):Int:=P+2-bits a+bits b
def quoX(a b:Nat)(P:Int):Nat:=if 0<=quoA a b P then a*2^(quoA a b P).toNat else a/2^(-quoA a b P).toNat
def quoM(a b:Nat)(P:Int):Bool:=(decide (quoA a b P<0)&&decide ((ctz a:Int)< -quoA a b P))||decide (0<bits (quoX a b P%b))
def quoD(x y:Dy)(P dir:Int):Dy:=if x.man=0 then⟨0,0⟩else
 bD (decide (x.man<0) != decide (y.man<0)) (quoX x.man.natAbs y.man.natAbs P/y.man.natAbs) (x.exp-y.exp-quoA x.man.natAbs y.man.natAbs P) (quoM x.man.natAbs y.man.natAbs P) P dir
theorem amU{A B:Nat}(hB:0<B):((A/B:Nat):Rat)*(B:Rat)<=A/\(A:Rat)<=(((A/B:Nat):Rat)+1)*(B:Rat)/\(A%B=0->(A:Rat)=((A/B:Nat):Rat)*(B:Rat)):=by
 have h1:=bfJ A B;have h2:=Nat.mod_lt A hB;have e5:((1:Nat):Rat)=1:=rfl;refine⟨?_,?_,fun h=> ?_⟩
 . rw[<-beS];exact beR.2 (by rw[bfG]at h1;omega)
 . rw[<-e5,<-be0,<-beS];exact beR.2 (by rw[bfG]at h1;rw[Nat.succ_mul];omega)
 . rw[<-beS];congr 1;rw[bfG]at h1;omega
theorem afB{k:Nat}(h0:a≠0):k<=ctz a↔a%2^k=0:=by
 obtain⟨j,m,e,hj⟩:=sD a h0;rw[hj];constructor
 . intro h
   obtain⟨d,rfl⟩:∃d,j=k+d:=⟨j-k,by omega⟩;rw[e,beT,be6];exact Nat.mul_mod_right _ _
 . intro h
   rcases bfM j k with h1|h1
   . exfalso
     obtain⟨d,rfl⟩:∃d,k=j+1+d:=⟨k-j-1,by omega⟩;obtain⟨c,hc⟩:=Nat.dvd_of_mod_eq_zero h;rw[e,beT,bfF,be6,be6]at hc;have:=Nat.eq_of_mul_eq_mul_left (beX j) hc;omega
   . exact h1
theorem acH{b:Nat}(ha:a≠0)(hb:b≠0)(hP:1<=P):∃A B:Nat,0<B/\quoX a b P/b=A/B/\(quoM a b P=true↔A%B≠0)/\(A:Rat)*(b:Rat)=(a:Rat)*(B:Rat)*p2 (quoA a b P)/\P+2<=bits (A/B)/\(bits (A/B):Int)<=P+3:=by
 have hba:=(not_congr (cB a)).2 ha;have hbb:=(not_congr (cB b)).2 hb;have a1:=(aG a (bits a)).1 nlr;have a2:2^(bits a-1)<=a:=by
  have:¬bits a<=bits a-1:=by omega
  rw[aG]at this;omega
 have b1:=(aG b (bits b)).1 nlr;have b2:2^(bits b-1)<=b:=by
  have:¬bits b<=bits b-1:=by omega
  rw[aG]at this;omega
 obtain⟨Q,hQ⟩:∃Q:Nat,P=Q:=⟨P.toNat,by omega⟩;subst hQ;have hn:quoA a b Q=(Q:Int)+2-bits a+bits b:=rfl;unfold quoX quoM;unfold quoX;rcases bfH (quoA a b Q) 0 with h|h
 . obtain⟨k,hk⟩:∃k:Nat,quoA a b Q=-(k:Int):=⟨(-quoA a b Q).toNat,by omega⟩
   rw[if_neg (by omega),hk,show(-(-(k:Int))).toNat=k from by omega];have hpb:0<2^k*b:=bfN (beX k) (by omega);refine⟨a,2^k*b,hpb,Nat.div_div_eq_div_mul _ _ _,?_,?_,?_,?_⟩
   . have e1:=Nat.mod_mul (x:=a) (a:=2^k) (b:=b)
     have e2:=afB (k:=k) ha;have e3:=cB (a/2^k%b);have hp:=beX k;rw[e1];simp only[Bool.or_eq_true,Bool.and_eq_true,decide_eq_true_eq];constructor
     . rintro(⟨g1,g2⟩|g)
       . have:¬k<=ctz a:=by omega
         rw[e2]at this;omega
       . have g3:a/2^k%b≠0:=fun g3=>by have:=e3.2 g3;omega
         have:=bfN hp (show 0<a/2^k%b by omega);omega
     . intro g
       by_cases g1:a%2^k=0
       . right
         rcases bfD (bits (a/2^k%b))with g2|g2
         . rw[e3.1 g2,g1]at g;simp at g
         . exact g2
       . left
         have:¬k<=ctz a:=by rw[e2];exact g1
         omega
   . have e1:=rD (-(k:Int)) k (by omega)
     rw[show(-(k:Int)+(k:Int)).toNat=0 from by omega]at e1;rw[beS];have e4:((2^0:Nat):Rat)=1:=rfl;rw[e4]at e1;have:(a:Rat)*(((2^k:Nat):Rat)*(b:Rat))*p2 (-(k:Int))=(a:Rat)*(b:Rat)*(p2 (-(k:Int))*((2^k:Nat):Rat)):=by grind
     rw[this,e1];grind
   . have:2^(Q+1)<=a/(2^k*b):=by
      rw[be4 hpb];refine beU (beV _ (beV _ (bfI b1))) (beU (be1 ?_) a2);rw[<-beT,<-beT];congr 1;omega
     have h5:¬bits (a/(2^k*b))<=Q+1:=by rw[aG];omega
     omega
   . have:a/(2^k*b)<2^(Q+3):=by
      rw[be5 hpb];refine beY a1 (beU (be1 ?_) (beV _ (beV _ b2)));rw[<-beT,<-beT];congr 1;omega
     have h5:=(aG _ _).2 this;omega
 . obtain⟨k,hk⟩:∃k:Nat,quoA a b Q=(k:Int):=⟨(quoA a b Q).toNat,by omega⟩
   rw[if_pos h,hk,be9];refine⟨a*2^k,b,by omega,rfl,?_,?_,?_,?_⟩
   . have e3:=cB (a*2^k%b)
     simp only[Bool.or_eq_true,Bool.and_eq_true,decide_eq_true_eq];constructor
     . rintro(⟨g1,g2⟩|g)
       . omega
       . intro g3;have:=e3.2 g3;omega
     . intro g;right
       rcases bfD (bits (a*2^k%b))with g2|g2
       . exact absurd (e3.1 g2) g
       . exact g2
   . rw[fP,beS];grind
   . have:2^(Q+1)<=a*2^k/b:=by
      rw[be4 (by omega)];refine beU (beV _ (bfI b1)) (beU (be1 ?_) (bfA _ a2));rw[<-beT,<-beT];congr 1;omega
     have h5:¬bits (a*2^k/b)<=Q+1:=by rw[aG];omega
     omega
   . have:a*2^k/b<2^(Q+3):=by
      rw[be5 (by omega)];refine beY ((bfB (beX k)).2 a1) (beU (be1 ?_) (beV _ b2));rw[<-beT,<-beT];congr 1;omega
     have h5:=(aG _ _).2 this;omega
def Err(P:Int)(r t:Rat):Prop:=∀b:Rat,-b<=t->t<=b->r-t<=2*b*p2 (-P)/\t-r<=2*b*p2 (-P)
theorem sH{T:Int}{r:Rat}(h1:r-t<=p2 (T-P))(h2:t-r<=p2 (T-P))(hz:p2 (T-1)<=z)(ht:t=z\/t=-z):Err P r t:=by
 intro b hb1 hb2;have h3:z<=b:=by rcases ht with h|h<;>grind
 have e:p2 (T-P)=2*p2 (T-1)*p2 (-P):=by
  rw[show T-P=(T-1+1)+-P from by omega,dE,jG]
 have hp:=bU (-P);have:=beQ (a:=2*(b-p2 (T-1))) (b:=p2 (-P)) (by grind) (by grind);constructor<;>grind
theorem rG:Err P 0 0:=by
 intro b h1 h2;have:=beQ (a:=2*b) (b:=p2 (-P)) (by grind) (by have:=bU (-P);grind);constructor<;>grind
theorem oU(a:Dy)(dir:Int)(hP:1<=P):Err P (rv (aY a P dir)) (rv a):=by
 obtain⟨-,-,h1,h2⟩:=jX a dir hP;by_cases h0:a.man=0
 . have e0:rv a=0:=(bH a).2.2.2 h0
   have e1:aY a P dir=⟨0,0⟩:=by
    unfold aY;rw[h0,bF,if_pos (by show((bits 0:Nat):Int)<=P;have:bits 0=0:=rfl;omega)]
   rw[e0,e1,mQ];exact rG
 . have hv:rv (mkDy a.man a.exp)=rv a:=lS _ _
   rcases sG (mkDy a.man a.exp) (by rcases jF a.man a.exp with ⟨g1,g2⟩|⟨g1,g2,-⟩<;>first|exact absurd g2 h0|exact g2)with h3|h3<;>rw[hv]at h3
   . exact sH h1 h2 h3 (Or.inl rfl)
   . exact sH h1 h2 (z:=-rv a) (by grind) (Or.inr (by grind))
theorem wX{x:Int}(e:Int)(h:0<=x):0<=(mkDy x e).man:=by
 rcases bfH (mkDy x e).man 0 with g|g
 . have h1:=amR x e
   rw[be7.2 g]at h1;have:=be7.1 h1.symm;omega
 . exact g
theorem aaL{a:Dy}(dir:Int)(h:0<=a.man):0<=rv (aY a P dir):=by
 have hm:=wX a.exp h;unfold aY
 split
 . unfold rv
   exact beQ (Rat.intCast_nonneg.2 hm) (by have:=bU (mkDy a.man a.exp).exp;grind)
 . rw[lS,show decide ((mkDy a.man a.exp).man<0)=false from by simpa using hm]
   refine beQ ?_ (by have:=bU ((mkDy a.man a.exp).exp+((bits (mkDy a.man a.exp).man.natAbs:Int)-P));grind);rw[aaJ];exact bfE
theorem akS(d:Dy):rv d=sgq (decide (d.man<0)) ((d.man.natAbs:Rat)*p2 d.exp):=by
 unfold rv sgq;rcases jL d.man with ⟨h4,h5⟩|⟨h4,h5⟩<;>rw[h4]
 . rw[if_neg (by simp;omega)]
 . rw[if_pos (by simpa using h5)];grind
theorem amV(b c:Bool)(x y:Rat):sgq (b != c) x*sgq c y=sgq b (x*y):=by cases b<;>cases c<;>simp[sgq]<;>grind
theorem gY(x y:Dy)(dir:Int)(hP:1<=P)(hy:y.man≠0)(ht:t*rv y=rv x):
 (dir<0->rv (quoD x y P dir)<=t)/\(0<=dir->t<=rv (quoD x y P dir))/\Err P (rv (quoD x y P dir)) t:=by
 have hy0:rv y≠0:=fun h=>hy ((bH y).2.2.1 h);unfold quoD;by_cases hx:x.man=0
 . rw[if_pos hx,mQ]
   have e0:rv x=0:=(bH x).2.2.2 hx;rw[e0]at ht;have:t=0:=by rcases be8.1 ht with h|h<;>first|exact absurd h hy0|exact h
   rw[this];exact⟨fun _=>beW,fun _=>beW,rG⟩
 . rw[if_neg hx]
   obtain⟨A,B,hB,e1,e2,e3,e4,e5⟩:=acH (a:=x.man.natAbs) (b:=y.man.natAbs) (P:=P) (by omega) (by omega) hP;rw[e1];obtain⟨q1,q2,q3⟩:=amU (A:=A) hB;have hBr:(0:Rat)<(B:Rat):=bfK.2 hB;have hbr:(0:Rat)<(y.man.natAbs:Rat):=bfK.2 (by omega);obtain⟨e,he⟩:∃e,e=x.exp-y.exp-quoA x.man.natAbs y.man.natAbs P:=⟨_,rfl⟩;rw[<-he];have hpe:=bU e;generalize hneg:(decide (x.man<0) != decide (y.man<0))=neg at*;generalize quoM x.man.natAbs y.man.natAbs P=more at*
   -- the amount of the quotient
   obtain⟨z,hz⟩:∃z:Rat,z=(A:Rat)/B*p2 e:=⟨_,rfl⟩;have hAB:(A:Rat)/B*B=A:=by grind
   have htz:t=sgq neg z:=by
    have k1:z*((y.man.natAbs:Rat)*p2 y.exp)=(x.man.natAbs:Rat)*p2 x.exp:=by
     rw[hz];have k2:p2 x.exp=p2 (quoA x.man.natAbs y.man.natAbs P)*p2 e*p2 y.exp:=by rw[<-dE,<-dE];congr 1;omega
     rw[k2];generalize p2 (quoA x.man.natAbs y.man.natAbs P)=u at*;generalize p2 e=v at*;generalize p2 y.exp=w at*;have k3:(A:Rat)/B*(y.man.natAbs:Rat)=(x.man.natAbs:Rat)*u:=by
      have:((A:Rat)/B*(y.man.natAbs:Rat)-(x.man.natAbs:Rat)*u)*B=0:=by grind
      rcases be8.1 this with h|h<;>grind
     grind
    have k4:sgq neg z*rv y=rv x:=by
     rw[akS x,akS y,<-hneg,amV,k1]
    have k5:(t-sgq neg z)*rv y=0:=by grind
    rcases be8.1 k5 with h|h
    . grind
    . exact absurd h hy0
   have l1:((A/B:Nat):Rat)*p2 e<=z:=by
    rw[hz];have:((A/B:Nat):Rat)<=(A:Rat)/B:=by
     apply be3;intro hc;have:=bfC (a:=((A/B:Nat):Rat)-(A:Rat)/B) (b:=(B:Rat)) (by grind) hBr;grind
    have:=beQ (a:=(A:Rat)/B-((A/B:Nat):Rat)) (b:=p2 e) (by grind) (by grind);grind
   have l2:z<=(((A/B:Nat):Rat)+1)*p2 e:=by
    rw[hz];have:(A:Rat)/B<=((A/B:Nat):Rat)+1:=by
     apply be3;intro hc;have:=bfC (a:=(A:Rat)/B-(((A/B:Nat):Rat)+1)) (b:=(B:Rat)) (by grind) hBr;grind
    have:=beQ (a:=((A/B:Nat):Rat)+1-(A:Rat)/B) (b:=p2 e) (by grind) (by grind);grind
   have l3:more=false->z=((A/B:Nat):Rat)*p2 e:=by
    intro h;have h6:A%B=0:=by
     apply be3;intro hc;have:=e2.2 hc;rw[h]at this;cases this
    have h7:=q3 h6;rw[hz];have:(A:Rat)/B=((A/B:Nat):Rat):=by
     have:((A:Rat)/B-((A/B:Nat):Rat))*B=0:=by grind
     rcases be8.1 this with h|h<;>grind
    rw[this]
   obtain⟨r1,r2,r3,r4⟩:=nR (neg:=neg) (P:=P) dir hP l1 l2 l3 (fun _=>e4);rw[htz];refine⟨r1,r2,?_⟩;have hbm:=(rE (m:=A/B) (by intro h;rw[h]at e4;have:bits 0=0:=rfl;omega)).1;refine sH r3 r4 (z:=z) ?_ (by unfold sgq;cases neg<;>simp);rw[show(bits (A/B):Int)+e-1=((bits (A/B):Int)-1)+e from by omega,dE];have:=beQ (a:=((A/B:Nat):Rat)-p2 ((bits (A/B):Int)-1)) (b:=p2 e) (by grind) (by grind);grind
theorem acI(x y:Dy)(dir:Int)(hP:1<=P)(hy:y.man≠0):Canon (quoD x y P dir)/\(bits (quoD x y P dir).man.natAbs:Int)<=P/\
 ((quoD x y P dir).man≠0->topD x-topD y-P-4<=(quoD x y P dir).exp/\topD (quoD x y P dir)<=topD x-topD y+2):=by
 unfold quoD;by_cases hx:x.man=0
 . rw[if_pos hx]
   exact⟨bF 0,by show((bits 0:Nat):Int)<=P;have:bits 0=0:=rfl;omega,fun h=>absurd rfl h⟩
 . rw[if_neg hx]
   obtain⟨A,B,hB,e1,e2,e3,e4,e5⟩:=acH (a:=x.man.natAbs) (b:=y.man.natAbs) (P:=P) (by omega) (by omega) hP;rw[e1];obtain⟨k1,k2,k3⟩:=rF (neg:=(decide (x.man<0) != decide (y.man<0))) (m:=A/B) (e:=x.exp-y.exp-quoA x.man.natAbs y.man.natAbs P) (more:=quoM x.man.natAbs y.man.natAbs P) (P:=P) dir hP;refine⟨k1,k2,fun h=> ?_⟩;obtain⟨k4,k5⟩:=k3 h;have t1:topD x=bits x.man.natAbs+x.exp:=by unfold topD;rw[if_neg hx]
   have t2:topD y=bits y.man.natAbs+y.exp:=by unfold topD;rw[if_neg hy]
   have t3:quoA x.man.natAbs y.man.natAbs P=P+2-bits x.man.natAbs+bits y.man.natAbs:=rfl;omega
def sqM(x:Dy):Nat:=if x.exp%2=0 then x.man.natAbs else x.man.natAbs*2
def sqE(x:Dy):Int:=if x.exp%2=0 then x.exp else x.exp-1
def sqN(x:Dy)(P:Int):Int:=(2*(P+2)-bits (sqM x))+(2*(P+2)-bits (sqM x))%2
def sqX(x:Dy)(P:Int):Nat:=if 0<=sqN x P then sqM x*2^(sqN x P).toNat else sqM x/2^(-sqN x P).toNat
def sqR(x:Dy)(P:Int):Bool:=(decide (sqN x P<0)&&decide ((ctz (sqM x):Int)< -sqN x P))||decide (0<bits (sqX x P-cZ (sqX x P)*cZ (sqX x P)))
def aX(x:Dy)(P dir:Int):Dy:=if x.man=0 then⟨0,0⟩else bD false (cZ (sqX x P)) ((sqE x-sqN x P)/2) (sqR x P) P dir
theorem afC{x:Dy}(hx:0<x.man)(hP:1<=P):∃(m:Nat) (f:Int),cZ (sqX x P)=m/\(sqE x-sqN x P)/2=f/\
 ((m:Rat)*p2 f)*((m:Rat)*p2 f)<=rv x/\rv x<=(((m:Rat)+1)*p2 f)*(((m:Rat)+1)*p2 f)/\(sqR x P=false->rv x=((m:Rat)*p2 f)*((m:Rat)*p2 f))/\
 P+2<=bits m/\(bits m:Int)<=P+3/\topD x-2*P-8<=2*f/\2*f<=topD x-2*P-3:=by
 have hM0:sqM x≠0:=by unfold sqM;split<;>omega
 have hv:rv x=(sqM x:Rat)*p2 (sqE x):=by
  unfold rv sqM sqE;rcases jL x.man with ⟨h4,h5⟩|⟨h4,h5⟩
  . split
    . rw[h4]
    . rw[beS,h4,show p2 x.exp=p2 (x.exp-1+1) from by congr 1;omega,jG]
      have:((2:Nat):Rat)=2:=rfl;grind
  . omega
 have hE:sqE x%2=0:=by unfold sqE;split<;>omega
 have hT:topD x=bits (sqM x)+sqE x:=by
  unfold topD sqM sqE;rw[if_neg (by omega)]
  split
  . rfl
  . have:=kU (n:=x.man.natAbs) (by omega) 1
    rw[Nat.pow_one]at this;omega
 have hN:sqN x P=(2*(P+2)-bits (sqM x))+(2*(P+2)-bits (sqM x))%2:=rfl;have hr:=eH (sqX x P);unfold sqR;generalize hX:sqX x P=X at*;unfold sqX at hX;generalize sqM x=a at*;generalize sqE x=E at*;generalize hn:sqN x P=n at*;obtain⟨f,hf⟩:∃f,(E-n)/2=f:=⟨_,rfl⟩;have hfE:E=n+2*f:=by omega
 obtain⟨h1,h2⟩:=hr;generalize hm:cZ X=m at*;have a1:=(aG a (bits a)).1 nlr;have hba:=(not_congr (cB a)).2 hM0;have a2:2^(bits a-1)<=a:=by
  have:¬bits a<=bits a-1:=by omega
  rw[aG]at this;omega
 obtain⟨Q,hQ⟩:∃Q:Nat,P=Q:=⟨P.toNat,by omega⟩;subst hQ
 -- v = y * p2 (2 f), X <= y < X + 1
 obtain⟨y,hy1,hy2,hy3,hy4,hy5,hy6⟩:∃y:Rat,rv x=y*p2 (2*f)/\(X:Rat)<=y/\y<=(X:Rat)+1/\((decide (n<0)&&decide ((ctz a:Int)< -n))=false->y=X)/\2^(2*Q+2)<=X/\X<2^(2*Q+6):=by
  rcases bfH n 0 with h|h
  . obtain⟨k,hk⟩:∃k:Nat,n=-(k:Int):=⟨(-n).toNat,by omega⟩
    rw[if_neg (by omega),hk,show(-(-(k:Int))).toNat=k from by omega]at hX;have e1:=rD (-(k:Int)) k (by omega);rw[show(-(k:Int)+(k:Int)).toNat=0 from by omega]at e1;have e4:((2^0:Nat):Rat)=1:=rfl;rw[e4]at e1;obtain⟨d1,d2⟩:=pM a k;rw[hX]at d1 d2;have c1:=beR.2 d1;have c2:=beR.2 (bfI d2);rw[beS]at c1 c2;rw[be0]at c2;have e5:((1:Nat):Rat)=1:=rfl;rw[e5]at c2;have hpk:=bU (-(k:Int));refine⟨(a:Rat)*p2 (-(k:Int)),?_,?_,?_,?_,?_,?_⟩
    . rw[hv,hfE,hk,dE];grind
    . have:=beQ (a:=(a:Rat)-(X:Rat)*((2^k:Nat):Rat)) (b:=p2 (-(k:Int))) (by grind) (by grind)
      have:(X:Rat)*((2^k:Nat):Rat)*p2 (-(k:Int))=X:=by
       have:(X:Rat)*((2^k:Nat):Rat)*p2 (-(k:Int))=X*(p2 (-(k:Int))*((2^k:Nat):Rat)):=by grind
       rw[this,e1];grind
      grind
    . have:=beQ (a:=((X:Rat)+1)*((2^k:Nat):Rat)-(a:Rat)) (b:=p2 (-(k:Int))) (by grind) (by grind)
      have:((X:Rat)+1)*((2^k:Nat):Rat)*p2 (-(k:Int))=X+1:=by
       have:((X:Rat)+1)*((2^k:Nat):Rat)*p2 (-(k:Int))=(X+1)*(p2 (-(k:Int))*((2^k:Nat):Rat)):=by grind
       rw[this,e1];grind
      grind
    . intro hh
      rw[hk]at hh;have hc:k<=ctz a:=by
       simp only[Bool.and_eq_false_iff,decide_eq_false_iff_not]at hh;omega
      have h7:=(afB hM0).1 hc;have h8:=bfJ a (2^k);rw[h7,hX,Nat.add_zero]at h8;rw[<-h8,beS];have:((2^k:Nat):Rat)*(X:Rat)*p2 (-(k:Int))=X*(p2 (-(k:Int))*((2^k:Nat):Rat)):=by grind
      rw[this,e1];grind
    . rw[<-hX,be4 (beX k)]
      refine beU (be1 ?_) (beU (be2 (by omega) (show 2*Q+2+k<=bits a-1 by omega)) a2);rw[<-beT]
    . rw[<-hX,be5 (beX k)]
      refine beY a1 (beU (be2 (by omega) (show bits a<=2*Q+6+k by omega)) (be1 ?_));rw[<-beT]
  . obtain⟨k,hk⟩:∃k:Nat,n=(k:Int):=⟨n.toNat,by omega⟩
    rw[if_pos h,hk,be9]at hX;refine⟨(X:Rat),?_,beW,by grind,fun _=>rfl,?_,?_⟩
    . rw[hv,hfE,hk,dE,fP,<-hX,beS];grind
    . rw[<-hX]
      refine beU (beU (be2 (by omega) (show 2*Q+2<=bits a-1+k by omega)) (be1 (beT 2 (bits a-1) k))) (bfA _ a2)
    . rw[<-hX]
      refine beY ((bfB (beX k)).2 a1) (beU (be1 (beT 2 (bits a) k).symm) (be2 (by omega) (by omega)))
 have c1:=beR.2 h1;have c2:=beR.2 (show X+1<=(m+1)*(m+1) from h2);rw[beS]at c1 c2;rw[be0,be0]at c2;have e5:((1:Nat):Rat)=1:=rfl;rw[e5]at c2;have e6:p2 (2*f)=p2 f*p2 f:=by rw[<-dE];congr 1;omega
 rw[e6]at hy1;have hpf:=bU f;have hpp:=bfC hpf hpf;refine⟨m,f,rfl,hf,?_,?_,?_,?_,?_,?_,?_⟩
 . rw[hy1]
   have:=beQ (a:=y-(m:Rat)*m) (b:=p2 f*p2 f) (by grind) (by grind);grind
 . rw[hy1]
   have:=beQ (a:=((m:Rat)+1)*((m:Rat)+1)-y) (b:=p2 f*p2 f) (by grind) (by grind);grind
 . intro hh
   simp only[Bool.or_eq_false_iff]at hh;have h8:=hy4 hh.1;have h9:X=m*m:=by
    have:=hh.2;simp only[decide_eq_false_iff_not]at this;have:=(cB (X-m*m)).1 (by omega);omega
   rw[hy1,h8,h9,beS];grind
 . have h8:¬bits m<=Q+1:=by
    rw[aG];intro h9;have h10:(m+1)*(m+1)<=2^(Q+1)*2^(Q+1):=bfL h9 h9;rw[<-beT]at h10;have h11:X<2^(Q+1+(Q+1)):=beY h2 h10;rw[show Q+1+(Q+1)=2*Q+2 from by omega]at h11;omega
   omega
 . have h8:bits m<=Q+3:=by
    rw[aG];rcases bfM m (2^(Q+3))with h9|h9
    . exact h9
    . exfalso
      have h10:2^(Q+3)*2^(Q+3)<=m*m:=bfL h9 h9;rw[<-beT,show Q+3+(Q+3)=2*Q+6 from by omega]at h10;omega
   omega
 . omega
 . omega
theorem acJ(x:Dy)(dir:Int)(hP:1<=P)(hx:0<=x.man):∃q q':Rat,0<=q/\q<=q'/\q*q<=rv x/\rv x<=q'*q'/\
 0<=rv (aX x P dir)/\(dir<0->rv (aX x P dir)<=q)/\(0<=dir->q'<=rv (aX x P dir))/\q'-q<=q*p2 (-P)/\Err P (rv (aX x P dir)) q/\Err P (rv (aX x P dir)) q':=by
 unfold aX;by_cases h0:x.man=0
 . rw[if_pos h0,mQ]
   have e0:rv x=0:=(bH x).2.2.2 h0;rw[e0];exact⟨0,0,beW,beW,by grind,by grind,beW,fun _=>beW,fun _=>beW,by grind,rG,rG⟩
 . rw[if_neg h0]
   obtain⟨m,f,e1,e2,h1,h2,h3,h4,h5,-,-⟩:=afC (x:=x) (P:=P) (by omega) hP;rw[e1,e2];have hpf:=bU f;have hm0:(0:Rat)<=(m:Rat):=bfE;have hq0:=beQ hm0 (show 0<=p2 f by grind);have hbm:=(rE (m:=m) (by intro h;rw[h]at h4;have:bits 0=0:=rfl;omega)).1;have hnn:0<=rv (bD false m f (sqR x P) P dir):=by
    unfold bD;refine aaL dir ?_;exact wX _ (by show(0:Int)<=((_:Nat):Int);omega)
   have hE:p2 ((bits m:Int)+f-1)<=(m:Rat)*p2 f:=by
    rw[show(bits m:Int)+f-1=((bits m:Int)-1)+f from by omega,dE];have:=beQ (a:=(m:Rat)-p2 ((bits m:Int)-1)) (b:=p2 f) (by grind) (by grind);grind
   have b1:=nR (neg:=false) (more:=sqR x P) (P:=P) (z:=(m:Rat)*p2 f) (m:=m) (e:=f) dir hP beW (by grind) (fun _=>rfl) (fun _=>h4);have sf:∀z,sgq false z=z:=fun z=>by unfold sgq;simp
   rw[sf]at b1
   cases hr:sqR x P
   . rw[hr]at b1 hnn
     have h6:=h3 hr;have hz0:0<=(m:Rat)*p2 f*p2 (-P):=beQ hq0 (by have:=bU (-P);grind);have er:=sH b1.2.2.1 b1.2.2.2 hE (Or.inl rfl);exact⟨(m:Rat)*p2 f,(m:Rat)*p2 f,hq0,beW,h1,by rw[h6];exact beW,hnn,b1.1,b1.2.1,by grind,er,er⟩
   . rw[hr]at b1 hnn
     have b2:=nR (neg:=false) (more:=true) (P:=P) (z:=((m:Rat)+1)*p2 f) (m:=m) (e:=f) dir hP (by grind) beW (fun h=>by cases h) (fun _=>h4);rw[sf]at b2;refine⟨(m:Rat)*p2 f,((m:Rat)+1)*p2 f,hq0,by grind,h1,h2,hnn,b1.1,b2.2.1,?_,sH b1.2.2.1 b1.2.2.2 hE (Or.inl rfl),sH b2.2.2.1 b2.2.2.2 (z:=((m:Rat)+1)*p2 f) (by grind) (Or.inl rfl)⟩
     -- p2 f <= m * p2 f * p2 (-P)
     have h7:p2 P<=(m:Rat):=by
      have:=lQ (show P<=(bits m:Int)-1 by omega);grind
     have h8:p2 P*p2 (-P)=1:=by rw[<-dE,show P+-P=0 from by omega,mP]
     have h9:=beQ (a:=(m:Rat)-p2 P) (b:=p2 f*p2 (-P)) (by grind) (by have:=bfC hpf (bU (-P));grind);have h10:p2 P*(p2 f*p2 (-P))=p2 f:=by
      have:p2 P*(p2 f*p2 (-P))=p2 P*p2 (-P)*p2 f:=by grind
      rw[this,h8];grind
     have h11:((m:Rat)-p2 P)*(p2 f*p2 (-P))=(m:Rat)*p2 f*p2 (-P)-p2 P*(p2 f*p2 (-P)):=by grind
     rw[h11,h10]at h9;have h12:((m:Rat)+1)*p2 f=(m:Rat)*p2 f+p2 f:=by grind
     rw[h12];generalize (m:Rat)*p2 f*p2 (-P)=u at*;generalize (m:Rat)*p2 f=v at*;grind
theorem ag1(x:Dy)(dir:Int)(hP:1<=P)(hx:0<=x.man):Canon (aX x P dir)/\(bits (aX x P dir).man.natAbs:Int)<=P/\
 ((aX x P dir).man≠0->topD x-2*P-10<=2*(aX x P dir).exp/\2*topD (aX x P dir)<=topD x+5):=by
 unfold aX;by_cases h0:x.man=0
 . rw[if_pos h0]
   exact⟨bF 0,by show((bits 0:Nat):Int)<=P;have:bits 0=0:=rfl;omega,fun h=>absurd rfl h⟩
 . rw[if_neg h0]
   obtain⟨m,f,e1,e2,-,-,-,h4,h5,h6,h7⟩:=afC (x:=x) (P:=P) (by omega) hP;rw[e1,e2];obtain⟨k1,k2,k3⟩:=rF (neg:=false) (m:=m) (e:=f) (more:=sqR x P) (P:=P) dir hP;refine⟨k1,k2,fun h=> ?_⟩;obtain⟨k4,k5⟩:=k3 h;omega
end Go.Proofs.YtjaafolhfihegaaGreatDoor
namespace Go.Proofs.YtjaafolhfihegaaGreatDoor
open Re (rat)
open Int renaming sign_eq_neg_one_iff_neg->bfP,sign_eq_one_iff_pos->bfR
open Rat renaming le_trans->bfO,le_refl->bfQ,mul_nonneg->bfS
variable{P:Int}{L p q x y z:Re}
structure Bl where
 lo:Dy
 hi:Dy
def In(x:Re)(b:Bl):Prop:=rat (rv b.lo)<=x/\x<=rat (rv b.hi)
def atB(v:Dy):Bl:=⟨v,v⟩
def notB(b:Bl):Bl:=⟨notD b.hi,notD b.lo⟩
def addB(a b:Bl)(P:Int):Bl:=⟨aY (addD a.lo b.lo) P (-1),aY (addD a.hi b.hi) P 1⟩
def minD(x lo:Dy):Dy:=if cmpD x lo<0 then x else lo
def maxD(x hi:Dy):Dy:=if 0<cmpD x hi then x else hi
def wY(a b:Bl):Dy:=minD (mulD a.hi b.hi) (minD (mulD a.hi b.lo) (minD (mulD a.lo b.hi) (mulD a.lo b.lo)))
def zA(a b:Bl):Dy:=maxD (mulD a.hi b.hi) (maxD (mulD a.hi b.lo) (maxD (mulD a.lo b.hi) (mulD a.lo b.lo)))
def mulB(a b:Bl)(P:Int):Bl:=⟨aY (wY a b) P (-1),aY (zA a b) P 1⟩
def jP(a b:Bl)(P:Int):Dy:=minD (quoD a.hi b.hi P (-1)) (minD (quoD a.hi b.lo P (-1)) (minD (quoD a.lo b.hi P (-1)) (quoD a.lo b.lo P (-1))))
def jQ(a b:Bl)(P:Int):Dy:=maxD (quoD a.hi b.hi P 1) (maxD (quoD a.hi b.lo P 1) (maxD (quoD a.lo b.hi P 1) (quoD a.lo b.lo P 1)))
def quoB(a b:Bl)(P:Int):Option Bl:=if b.lo.man.sign=b.hi.man.sign/\b.lo.man.sign≠0 then some ⟨jP a b P,jQ a b P⟩else none
def bJ(a:Bl):Dy:=if a.lo.man<0 then⟨0,0⟩else a.lo
def tY(a:Bl)(P:Int):Option Bl:=if a.hi.man<0 then none else some ⟨aX (bJ a) P (-1),aX a.hi P 1⟩
theorem wZ(x y:Dy):rv (minD x y)<=rv x/\rv (minD x y)<=rv y/\(minD x y=x\/minD x y=y):=by
 unfold minD;have:=(akP x y).1
 split
 . rename_i h;have:=this.1 h;exact⟨bfQ,by grind,Or.inl rfl⟩
 . rename_i h
   have:¬rv x<rv y:=fun h'=>h (this.2 h');exact⟨by grind,bfQ,Or.inr rfl⟩
theorem xA(x y:Dy):rv x<=rv (maxD x y)/\rv y<=rv (maxD x y)/\(maxD x y=x\/maxD x y=y):=by
 unfold maxD;have:=(akP x y).2
 split
 . rename_i h;have:=this.1 h;exact⟨bfQ,by grind,Or.inl rfl⟩
 . rename_i h
   have:¬rv y<rv x:=fun h'=>h (this.2 h');exact⟨by grind,bfQ,Or.inr rfl⟩
theorem lT(a b c d:Dy):let m:=minD a (minD b (minD c d));rv m<=rv a/\rv m<=rv b/\rv m<=rv c/\rv m<=rv d/\(m=a\/m=b\/m=c\/m=d):=by
 obtain⟨h1,h2,h3⟩:=wZ c d;obtain⟨k1,k2,k3⟩:=wZ b (minD c d);obtain⟨j1,j2,j3⟩:=wZ a (minD b (minD c d));refine⟨j1,by grind,by grind,by grind,?_⟩;rcases j3 with j3|j3<;>rw[j3]
 . exact Or.inl rfl
 . rcases k3 with k3|k3<;>rw[k3]
   . exact Or.inr (Or.inl rfl)
   . rcases h3 with h3|h3<;>rw[h3]
     . exact Or.inr (Or.inr (Or.inl rfl))
     . exact Or.inr (Or.inr (Or.inr rfl))
theorem lU(a b c d:Dy):let m:=maxD a (maxD b (maxD c d));rv a<=rv m/\rv b<=rv m/\rv c<=rv m/\rv d<=rv m/\(m=a\/m=b\/m=c\/m=d):=by
 obtain⟨h1,h2,h3⟩:=xA c d;obtain⟨k1,k2,k3⟩:=xA b (maxD c d);obtain⟨j1,j2,j3⟩:=xA a (maxD b (maxD c d));refine⟨j1,by grind,by grind,by grind,?_⟩;rcases j3 with j3|j3<;>rw[j3]
 . exact Or.inl rfl
 . rcases k3 with k3|k3<;>rw[k3]
   . exact Or.inr (Or.inl rfl)
   . rcases h3 with h3|h3<;>rw[h3]
     . exact Or.inr (Or.inr (Or.inl rfl))
     . exact Or.inr (Or.inr (Or.inr rfl))
namespace Re
theorem lin_ge(h1:p<=x)(h2:x<=q)(k1:L<=p*y)(k2:L<=q*y):L<=x*y:=by
 rcases le_total 0 y with h|h
 . exact le_trans k1 (mul_le_mul_right h h1)
 . refine le_trans k2 ?_
   have:=mul_le_mul_right (neg_nonneg.2 h) h2;rw[mul_neg,mul_neg]at this;have:=neg_le_neg this;rwa[neg_neg,neg_neg]at this
theorem lin_le(h1:p<=x)(h2:x<=q)(k1:p*y<=L)(k2:q*y<=L):x*y<=L:=by
 rcases le_total 0 y with h|h
 . exact le_trans (mul_le_mul_right h h2) k2
 . refine le_trans ?_ k1
   have:=mul_le_mul_right (neg_nonneg.2 h) h1;rw[mul_neg,mul_neg]at this;have:=neg_le_neg this;rwa[neg_neg,neg_neg]at this
theorem lin_ge'(h1:p<=x)(h2:x<=q)(k1:L<=y*p)(k2:L<=y*q):L<=y*x:=by
 rw[mul_comm y]at*;exact lin_ge h1 h2 k1 k2
theorem lin_le'(h1:p<=x)(h2:x<=q)(k1:y*p<=L)(k2:y*q<=L):y*x<=L:=by
 rw[mul_comm y]at*;exact lin_le h1 h2 k1 k2
theorem le_of_mul_pos(hz:0<z)(h:x*z<=y*z):x<=y:=by
 intro k;have k':y<x:=k;have:=mul_pos (sub_pos.2 k') hz;rw[sub_mul]at this;exact lt_irrefl _ (lt_of_lt_of_le (sub_pos.1 this) h)
theorem le_of_mul_neg(hz:z<0)(h:y*z<=x*z):x<=y:=by
 refine le_of_mul_pos (z:=-z) (neg_pos.2 hz) ?_;rw[mul_neg,mul_neg];exact neg_le_neg h
end Re
open Re
theorem apE{v:Dy}:In (rat (rv v)) (atB v):=⟨le_refl _,le_refl _⟩
theorem aoV{b:Bl}(h:In x b):In (-x) (notB b):=by
 unfold In notB;rw[oQ,oQ,rat_neg,rat_neg];exact⟨neg_le_neg h.2,neg_le_neg h.1⟩
theorem akT{a b:Bl}(hP:1<=P)(h:In x a)(k:In y b):In (x+y) (addB a b P):=by
 unfold In addB;have h1:=(jX (addD a.lo b.lo) (-1) hP).1 (by decide);have h2:=(jX (addD a.hi b.hi) 1 hP).2.1 (by decide);rw[aaI]at h1 h2;have h1:=rat_le.2 h1;have h2:=rat_le.2 h2;rw[rat_add]at h1 h2;exact⟨le_trans h1 (add_le_add h.1 k.1),le_trans (add_le_add h.2 k.2) h2⟩
theorem aoW{a b:Bl}(hP:1<=P)(h:In x a)(k:In y b):In (x*y) (mulB a b P):=by
 unfold In mulB;have h1:=(jX (wY a b) (-1) hP).1 (by decide);have h2:=(jX (zA a b) 1 hP).2.1 (by decide);obtain⟨l1,l2,l3,l4,-⟩:=lT (mulD a.hi b.hi) (mulD a.hi b.lo) (mulD a.lo b.hi) (mulD a.lo b.lo);obtain⟨m1,m2,m3,m4,-⟩:=lU (mulD a.hi b.hi) (mulD a.hi b.lo) (mulD a.lo b.hi) (mulD a.lo b.lo);have h1:=rat_le.2 h1;have h2:=rat_le.2 h2;have l1:=rat_le.2 l1;have l2:=rat_le.2 l2;have l3:=rat_le.2 l3;have l4:=rat_le.2 l4;have m1:=rat_le.2 m1;have m2:=rat_le.2 m2;have m3:=rat_le.2 m3;have m4:=rat_le.2 m4;rw[gX,rat_mul]at l1 l2 l3 l4 m1 m2 m3 m4;refine⟨le_trans h1 (lin_ge h.1 h.2 (lin_ge' k.1 k.2 l4 l3) (lin_ge' k.1 k.2 l2 l1)),le_trans (lin_le h.1 h.2 (lin_le' k.1 k.2 m4 m3) (lin_le' k.1 k.2 m2 m1)) h2⟩
theorem gZ{b:Bl}(h:b.lo.man.sign=b.hi.man.sign/\b.lo.man.sign≠0):(0<b.lo.man/\0<b.hi.man)\/(b.lo.man<0/\b.hi.man<0):=by
 obtain⟨h1,h2⟩:=h;rcases Int.lt_trichotomy b.lo.man 0 with g|g|g
 . right;refine⟨g,?_⟩
   rw[bfP.2 g]at h1;exact bfP.1 h1.symm
 . rw[g]at h2;exact absurd rfl h2
 . left;refine⟨g,?_⟩
   rw[bfR.2 g]at h1;exact bfR.1 h1.symm
theorem kV(x y:Rat)(h:y≠0):∃t:Rat,t*y=x:=⟨x/y,by grind⟩
theorem aoX{a b r:Bl}(hP:1<=P)(h:In x a)(k:In y b)(hz:z*y=x)(hr:quoB a b P=some r):In z r:=by
 unfold quoB at hr
 split at hr
 . rename_i hs
   injection hr with hr;subst hr;obtain⟨l1,l2,l3,l4,-⟩:=lT (quoD a.hi b.hi P (-1)) (quoD a.hi b.lo P (-1)) (quoD a.lo b.hi P (-1)) (quoD a.lo b.lo P (-1));obtain⟨m1,m2,m3,m4,-⟩:=lU (quoD a.hi b.hi P 1) (quoD a.hi b.lo P 1) (quoD a.lo b.hi P 1) (quoD a.lo b.lo P 1);have n1:b.lo.man≠0:=by rcases gZ hs with g|g<;>omega
   have n2:b.hi.man≠0:=by rcases gZ hs with g|g<;>omega
   have v1:rv b.lo≠0:=fun g=>n1 ((bH _).2.2.1 g);have v2:rv b.hi≠0:=fun g=>n2 ((bH _).2.2.1 g);obtain⟨t1,e1⟩:=kV (rv a.hi) (rv b.hi) v2;obtain⟨t2,e2⟩:=kV (rv a.hi) (rv b.lo) v1;obtain⟨t3,e3⟩:=kV (rv a.lo) (rv b.hi) v2;obtain⟨t4,e4⟩:=kV (rv a.lo) (rv b.lo) v1;have d1:=(gY a.hi b.hi (-1) hP n2 e1).1 (by decide);have d2:=(gY a.hi b.lo (-1) hP n1 e2).1 (by decide);have d3:=(gY a.lo b.hi (-1) hP n2 e3).1 (by decide);have d4:=(gY a.lo b.lo (-1) hP n1 e4).1 (by decide);have u1:=(gY a.hi b.hi 1 hP n2 e1).2.1 (by decide);have u2:=(gY a.hi b.lo 1 hP n1 e2).2.1 (by decide);have u3:=(gY a.lo b.hi 1 hP n2 e3).2.1 (by decide);have u4:=(gY a.lo b.lo 1 hP n1 e4).2.1 (by decide);show rat (rv (jP a b P))<=z/\z<=rat (rv (jQ a b P));have hL:rv (jP a b P)<=t1/\rv (jP a b P)<=t2/\rv (jP a b P)<=t3/\rv (jP a b P)<=t4:=
    ⟨bfO l1 d1,bfO l2 d2,bfO l3 d3,bfO l4 d4⟩
   have hH:t1<=rv (jQ a b P)/\t2<=rv (jQ a b P)/\t3<=rv (jQ a b P)/\t4<=rv (jQ a b P):=
    ⟨bfO u1 m1,bfO u2 m2,bfO u3 m3,bfO u4 m4⟩
   generalize rv (jP a b P)=L at*;generalize rv (jQ a b P)=H at*;have key:∀u v:Rat,∀c:Rat,u<=v->(0<=c->u*c<=v*c)/\(c<=0->v*c<=u*c):=fun u v c huv=>by
    constructor
    . intro hc;have:=bfS (a:=v-u) (b:=c) (by grind) hc;grind
    . intro hc;have:=bfS (a:=v-u) (b:=-c) (by grind) (by grind);grind
   rcases gZ hs with ⟨g1,g2⟩|⟨g1,g2⟩
   . have p1:0<rv b.lo:=(bH _).1.2 g1
     have p2':0<rv b.hi:=(bH _).1.2 g2;have hy:0<y:=lt_of_lt_of_le (by rw[zero_rat,rat_lt];exact p1) k.1;constructor
     . refine le_of_mul_pos hy ?_
       rw[hz];refine le_trans ?_ h.1;refine lin_le' k.1 k.2 ?_ ?_<;>rw[<-rat_mul,rat_le]
       . rw[<-e4];exact(key _ _ _ hL.2.2.2).1 (by grind)
       . rw[<-e3];exact(key _ _ _ hL.2.2.1).1 (by grind)
     . refine le_of_mul_pos hy ?_
       rw[hz];refine le_trans h.2 ?_;refine lin_ge' k.1 k.2 ?_ ?_<;>rw[<-rat_mul,rat_le]
       . rw[<-e2];exact(key _ _ _ hH.2.1).1 (by grind)
       . rw[<-e1];exact(key _ _ _ hH.1).1 (by grind)
   . have p1:rv b.lo<0:=(bH _).2.1.2 g1
     have p2':rv b.hi<0:=(bH _).2.1.2 g2;have hy:y<0:=lt_of_le_of_lt k.2 (by rw[zero_rat,rat_lt];exact p2');constructor
     . refine le_of_mul_neg hy ?_
       rw[hz];refine le_trans h.2 ?_;refine lin_ge' k.1 k.2 ?_ ?_<;>rw[<-rat_mul,rat_le]
       . rw[<-e2];exact(key _ _ _ hL.2.1).2 (by grind)
       . rw[<-e1];exact(key _ _ _ hL.1).2 (by grind)
     . refine le_of_mul_neg hy ?_
       rw[hz];refine le_trans ?_ h.1;refine lin_le' k.1 k.2 ?_ ?_<;>rw[<-rat_mul,rat_le]
       . rw[<-e4];exact(key _ _ _ hH.2.2.2).2 (by grind)
       . rw[<-e3];exact(key _ _ _ hH.2.2.1).2 (by grind)
 . cases hr
theorem oV(a:Bl):0<=(bJ a).man/\rv a.lo<=rv (bJ a)/\(rv (bJ a)=rv a.lo\/rv (bJ a)=0):=by
 unfold bJ
 split
 . rename_i h
   refine⟨Int.le_refl _,?_,Or.inr (mQ 0)⟩;have:=(bH a.lo).2.1.2 h;rw[mQ];grind
 . rename_i h;exact⟨by omega,bfQ,Or.inl rfl⟩
theorem amW{s:Re}{a:Bl}(hP:1<=P)(h:In x a)(hs:0<=s)(hx:s*s=x):∃r,tY a P=some r/\In s r:=by
 have hx0:0<=x:=by rw[<-hx];exact sq_nonneg s
 have hhi:0<=rv a.hi:=by have:=le_trans hx0 h.2;rw[zero_rat,rat_le]at this;exact this
 have hm:0<=a.hi.man:=by
  rcases Int.lt_or_le a.hi.man 0 with g|g
  . have:=(bH a.hi).2.1.2 g;grind
  . exact g
 unfold tY;rw[if_neg (by omega)];refine⟨_,rfl,?_,?_⟩
 . obtain⟨k1,k2,k3⟩:=oV a
   obtain⟨q,q',q1,q2,q3,q4,q5,q6,-⟩:=acJ (bJ a) (-1) hP k1;show rat (rv (aX (bJ a) P (-1)))<=s;refine le_trans (rat_le.2 (q6 (by decide))) (le_of_sq hs ?_);rw[hx,<-rat_mul];refine le_trans (rat_le.2 q3) ?_;rcases k3 with k3|k3<;>rw[k3]
   . exact h.1
   . exact hx0
 . obtain⟨q,q',q1,q2,q3,q4,q5,-,q7,-⟩:=acJ a.hi 1 hP hm
   show s<=rat (rv (aX a.hi P 1));refine le_trans (le_of_sq (y:=rat q') ?_ ?_) (rat_le.2 (q7 (by decide)))
   . rw[zero_rat,rat_le];grind
   . rw[hx,<-rat_mul];exact le_trans h.2 (rat_le.2 q4)
end Go.Proofs.YtjaafolhfihegaaGreatDoor
namespace Go.Proofs.YtjaafolhfihegaaGreatDoor
variable{d x y:Dy}{B C E F P:Int}
def Sz(B E:Int)(d:Dy):Prop:=Canon d/\(bits d.man.natAbs:Int)<=B/\(d.man≠0->-E<=d.exp/\topD d<=E)
def SzB(B E:Int)(b:Bl):Prop:=Sz B E b.lo/\Sz B E b.hi
theorem Sz.mono (h:Sz B E d)(hB:B<=C)(hE:E<=F):Sz C F d:=
 ⟨h.1,by have:=h.2.1;omega,fun hn=>by have:=h.2.2 hn;omega⟩
theorem SzB.mono {b:Bl}(h:SzB B E b)(hB:B<=C)(hE:E<=F):SzB C F b:=⟨h.1.mono hB hE,h.2.mono hB hE⟩
theorem Sz.zero (hB:0<=B):Sz B E ⟨0,0⟩:=⟨bF 0,by show((bits 0:Nat):Int)<=B;have:bits 0=0:=rfl;omega,fun h=>absurd rfl h⟩
theorem mU(h:d.man≠0):d.exp+1<=topD d:=by
 unfold topD;rw[if_neg h];have:bits d.man.natAbs≠0:=fun h'=>h (by have:=(cB _).1 h';omega);omega
theorem Sz.lt (h:Sz B E d):-p2 E<rv d/\rv d<p2 E:=by
 by_cases hn:d.man=0
 . have e0:rv d=0:=(bH d).2.2.2 hn
   have:=bU E;rw[e0];constructor<;>grind
 . have h1:=akQ d
   have h2:=lQ (h.2.2 hn).2;constructor<;>grind
theorem sI(hn:d.man≠0)(h1:-p2 E<rv d)(h2:rv d<p2 E):topD d<=E:=by
 have h3:p2 (topD d-1)<p2 E:=by rcases sG d hn with h|h<;>grind
 have:=ag0.1 h3;omega
theorem nS{x e:Int}(h:(mkDy x e).man≠0):e<=(mkDy x e).exp:=by
 rcases jF x e with ⟨h1,h2⟩|⟨h1,h2,h3,h4⟩
 . rw[h1]at h;exact absurd rfl h
 . exact h3
theorem xB{a:Dy}(dir:Int)(hP:1<=P)(h:(mkDy a.man a.exp).man≠0->-E<=(mkDy a.man a.exp).exp/\topD (mkDy a.man a.exp)<=E):Sz P (E+1) (aY a P dir):=by
 obtain⟨k1,k2,k3⟩:=wW (a:=a) dir hP;refine⟨k1,k2,fun hn=> ?_⟩;obtain⟨j1,j2⟩:=k3 hn;by_cases h0:(mkDy a.man a.exp).man=0
 . exfalso;apply hn
   have h1:a.man=0:=by
    rcases jF a.man a.exp with ⟨g1,g2⟩|⟨g1,g2,-⟩
    . exact g2
    . exact absurd h0 g2
   unfold aY;rw[h1,bF,if_pos (by show((bits 0:Nat):Int)<=P;have:bits 0=0:=rfl;omega)]
 . have:=h h0
   omega
theorem ad5(x y:Dy):Canon (addD x y):=by
 unfold addD;split
 . exact Canon.mk _ _
 . split<;>exact Canon.mk _ _
theorem akU(dir:Int)(hP:1<=P)(h:Sz B E x)(k:Sz C F y):Sz P (max E F+2) (aY (addD x y) P dir):=by
 refine Sz.mono (xB (E:=max E F+1) dir hP ?_) (Int.le_refl _) (by omega);rw[show mkDy (addD x y).man (addD x y).exp=addD x y from ad5 x y];intro hn;constructor
 . by_cases hx:x.man=0
   . have e:addD x y=mkDy y.man y.exp:=by unfold addD;rw[if_pos hx]
     rw[e]at hn|-;have h1:=nS hn;have hy:y.man≠0:=fun hy=>hn (by rw[hy,bF]);have:=(k.2.2 hy).1;omega
   . by_cases hy:y.man=0
     . have e:addD x y=mkDy x.man x.exp:=by unfold addD;rw[if_neg hx,if_pos hy]
       rw[e]at hn|-;have h1:=nS hn;have:=(h.2.2 hx).1;omega
     . have e:addD x y=mkDy (dW x y+dX x y) (min x.exp y.exp):=by unfold addD;rw[if_neg hx,if_neg hy]
       rw[e]at hn|-;have h1:=nS hn;have:=(h.2.2 hx).1;have:=(k.2.2 hy).1;omega
 . have h1:=h.lt;have h2:=k.lt
   have h3:=lQ (show E<=max E F by omega);have h4:=lQ (show F<=max E F by omega);have h5:=jG (max E F);refine sI hn ?_ ?_<;>rw[aaI]<;>grind
theorem mul_lt{x y X Y:Rat}(h1:-X<x)(h2:x<X)(h3:-Y<y)(h4:y<Y):-(X*Y)<x*y/\x*y<X*Y:=zO h1 h2 h3 h4
theorem uX(h:Sz B E x)(k:Sz C F y)(hn:(mulD x y).man≠0):-(E+F)<=(mulD x y).exp/\topD (mulD x y)<=E+F:=by
 have hx:x.man≠0:=fun hx=>hn (by unfold mulD;rw[hx,Int.zero_mul,bF]);have hy:y.man≠0:=fun hy=>hn (by unfold mulD;rw[hy,Int.mul_zero,bF]);constructor
 . have h1:x.exp+y.exp<=(mulD x y).exp:=nS hn
   have:=(h.2.2 hx).1;have:=(k.2.2 hy).1;omega
 . have h1:=h.lt;have h2:=k.lt
   have:=mul_lt h1.1 h1.2 h2.1 h2.2;rw[<-dE]at this;exact sI hn (by rw[gX];exact this.1) (by rw[gX];exact this.2)
theorem aoY{a b:Bl}(hP:1<=P)(h:SzB B E a)(k:SzB C F b):SzB P (E+F+1) (mulB a b P):=by
 have key:∀m:Dy,(m=mulD a.hi b.hi\/m=mulD a.hi b.lo\/m=mulD a.lo b.hi\/m=mulD a.lo b.lo)->(mkDy m.man m.exp).man≠0->-(E+F)<=(mkDy m.man m.exp).exp/\topD (mkDy m.man m.exp)<=E+F:=by
  intro m hm hn;have hc:mkDy m.man m.exp=m:=by rcases hm with hm|hm|hm|hm<;>rw[hm]<;>exact Canon.mk _ _
  rw[hc]at hn|-;rcases hm with hm|hm|hm|hm<;>rw[hm]at hn|-
  . exact uX h.2 k.2 hn
  . exact uX h.2 k.1 hn
  . exact uX h.1 k.2 hn
  . exact uX h.1 k.1 hn
 exact⟨xB (-1) hP (key _ (lT _ _ _ _).2.2.2.2),xB 1 hP (key _ (lU _ _ _ _).2.2.2.2)⟩
theorem uY(dir:Int)(hP:1<=P)(h:Sz B E x)(k:Sz C F y)(hy:y.man≠0):Sz P (E+F+P+4) (quoD x y P dir):=by
 obtain⟨k1,k2,k3⟩:=acI x y dir hP hy;refine⟨k1,k2,fun hn=> ?_⟩;have hx:x.man≠0:=fun hx=>hn (by unfold quoD;rw[if_pos hx]);obtain⟨j1,j2⟩:=k3 hn;have:=h.2.2 hx;have:=k.2.2 hy;have:=mU hx;have:=mU hy;omega
theorem aoZ{a b r:Bl}(hP:1<=P)(h:SzB B E a)(k:SzB C F b)(hr:quoB a b P=some r):SzB P (E+F+P+4) r:=by
 unfold quoB at hr
 split at hr
 . rename_i hs
   injection hr with hr;subst hr;have n1:b.lo.man≠0:=by rcases gZ hs with g|g<;>omega
   have n2:b.hi.man≠0:=by rcases gZ hs with g|g<;>omega
   have key:∀(m:Dy) (dir:Int),(m=quoD a.hi b.hi P dir\/m=quoD a.hi b.lo P dir\/m=quoD a.lo b.hi P dir\/m=quoD a.lo b.lo P dir)->Sz P (E+F+P+4) m:=by
    intro m dir hm;rcases hm with hm|hm|hm|hm<;>rw[hm]
    . exact uY dir hP h.2 k.2 n2
    . exact uY dir hP h.2 k.1 n1
    . exact uY dir hP h.1 k.2 n2
    . exact uY dir hP h.1 k.1 n1
   exact⟨key _ (-1) (lT _ _ _ _).2.2.2.2,key _ 1 (lU _ _ _ _).2.2.2.2⟩
 . cases hr
theorem acK(dir:Int)(hP:1<=P)(h:Sz B E x)(hE:0<=E)(hx:0<=x.man):Sz P (E+P+5) (aX x P dir):=by
 obtain⟨k1,k2,k3⟩:=ag1 x dir hP hx;refine⟨k1,k2,fun hn=> ?_⟩;have hx0:x.man≠0:=fun hx=>hn (by unfold aX;rw[if_pos hx]);obtain⟨j1,j2⟩:=k3 hn;have:=h.2.2 hx0;have:=mU hx0;omega
theorem amX{a r:Bl}(hP:1<=P)(h:SzB B E a)(hE:0<=E)(hB:0<=B)(hr:tY a P=some r):SzB P (E+P+5) r:=by
 unfold tY at hr
 split at hr
 . cases hr
 . rename_i hs
   injection hr with hr;subst hr;refine⟨acK (-1) hP (x:=bJ a) (B:=B) (E:=E) ?_ hE (oV a).1,acK 1 hP h.2 hE (by omega)⟩;unfold bJ;split
   . exact Sz.zero hB
   . exact h.1
theorem afD{a b:Bl}(hP:1<=P)(h:SzB B E a)(k:SzB C F b):SzB P (max E F+2) (addB a b P):=⟨akU (-1) hP h.1 k.1,akU 1 hP h.2 k.2⟩
theorem afE(h:Sz B E d):Sz B E (notD d):=by
 have hm:(notD d).man=-d.man/\(notD d).exp=d.exp:=by
  have hc:=h.1;unfold Canon at hc;have h1:=ae9 d.man d.exp;rw[hc]at h1;by_cases h0:d.man=0
  . have:d.exp=0:=by rw[<-hc,h0,bF]
    unfold notD;rw[h0,this];exact⟨rfl,rfl⟩
  . unfold notD
    unfold mkDy at hc|-;rw[if_neg h0]at hc;rw[if_neg (by omega)];have e1:(-d.man).natAbs=d.man.natAbs:=by omega
    rw[e1];have hc1:sg (decide (d.man<0)) (d.man.natAbs/2^ctz d.man.natAbs)=d.man:=congrArg Dy.man hc;have hc2:d.exp+ctz d.man.natAbs=d.exp:=congrArg Dy.exp hc;refine⟨?_,hc2⟩;have:decide (-d.man<0)= !decide (d.man<0):=by
     by_cases g:d.man<0
     . rw[decide_eq_true g,decide_eq_false (by omega)];rfl
     . rw[decide_eq_false g,decide_eq_true (by omega)];rfl
    rw[this]
    conv=>rhs;rw[<-hc1]
    cases decide (d.man<0)<;>simp[sg]
 refine⟨Canon.mk _ _,by rw[hm.1,show(-d.man).natAbs=d.man.natAbs from by omega];exact h.2.1,fun hn=> ?_⟩;rw[hm.1]at hn;have hn':d.man≠0:=by omega
 have h2:=h.2.2 hn';refine⟨by rw[hm.2];exact h2.1,?_⟩;unfold topD at h2|-;rw[if_neg hn']at h2;rw[if_neg (by rw[hm.1];omega),hm.1,hm.2,show(-d.man).natAbs=d.man.natAbs from by omega];exact h2.2
theorem amY{b:Bl}(h:SzB B E b):SzB B E (notB b):=⟨afE h.2,afE h.1⟩
end Go.Proofs.YtjaafolhfihegaaGreatDoor
