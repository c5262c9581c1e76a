/- A part of the proof: contracts of functions and plain laws (DyS, DyT, DyU, BlR). -/
import Derived.Test.YtkpodipoegbclaaGreatDoorK20
set_option linter.unusedVariables false
set_option linter.unusedSimpArgs false
set_option maxHeartbeats 25600000
set_option maxRecDepth 100000
namespace Go.Proofs.YtkpodipoegbclaaGreatDoor
section
open Bool renaming false_eq_true->bb7,toNat->bcR,and_eq_true->bcS,or_eq_true->bcT
open Classical renaming byContradiction->bcB
open Int renaming toNat_natCast->bcA,sign_eq_neg_one_iff_neg->bcE,lt_or_le->bcG
open Nat renaming two_pow_pos->bbV,pow_add->bbW,le_trans->bbX,mul_le_mul_left->bb4,lt_of_lt_of_le->bb5,pow_le_pow_right->bb6,div_lt_iff_lt_mul->bb8,le_of_eq->bb9,le_div_iff_mul_le->bcC,mul_assoc->bcD,div_add_mod->bcH,mul_comm->bcI,pow_succ->bcJ,le_of_lt->bcK,mul_le_mul_right->bcL,mul_lt_mul_right->bcM,eq_zero_or_pos->bcP,mul_le_mul->bcV,succ_mul->bcW,lt_or_ge->bcX,mul_pos->bcY,mod_lt->bcZ
open Rat renaming mul_nonneg->bbS,natCast_le_natCast->bbT,natCast_mul->bbU,le_refl->bbY,natCast_add->bbZ,mul_eq_zero->bcF,intCast_natCast->bcN,mul_pos->bcO,natCast_nonneg->bcQ,natCast_pos->bcU
variable{a:Dy}{P e x:Int}{m:Nat}{t z:Rat}
def outw(neg:Bool)(dir:Int):Bool:=if 0<=dir then !neg else neg
def aM(a:Dy)(P dir:Int):Dy:=
 if (bits (mkDy a.man a.exp).man.natAbs:Int)<=P then mkDy a.man a.exp else
  mkDy (sg (decide ((mkDy a.man a.exp).man<0)) ((mkDy a.man a.exp).man.natAbs/2^((bits (mkDy a.man a.exp).man.natAbs:Int)-P).toNat+(outw (decide ((mkDy a.man a.exp).man<0)) dir).toNat))
   ((mkDy a.man a.exp).exp+((bits (mkDy a.man a.exp).man.natAbs:Int)-P))
def aQ(neg:Bool)(m:Nat)(exp:Int)(more:Bool)(P dir:Int):Dy:=
 aM (mkDy (sg neg (if more then 2*m+1 else m)) (if more then exp-1 else exp)) P dir
def sgq(neg:Bool)(z:Rat):Rat:=if neg then-z else z
theorem zP(neg:Bool)(n:Nat):((sg neg n:Int):Rat)=sgq neg n:=by
 unfold sg sgq;cases neg
 . simp only[bb7,if_false];exact bcN n
 . simp only[if_true];rw[Rat.intCast_neg,bcN]
theorem aeH{q:Nat}{p:Rat}(hp:0<p)(h1:(q:Rat)*p<=z)(h2:z<=((q:Rat)+1)*p)(neg:Bool)(dir:Int):
 (dir<0->sgq neg (q+(outw neg dir).toNat:Nat)*p<=sgq neg z)/\(0<=dir->sgq neg z<=sgq neg (q+(outw neg dir).toNat:Nat)*p)/\
 sgq neg (q+(outw neg dir).toNat:Nat)*p-sgq neg z<=p/\sgq neg z-sgq neg (q+(outw neg dir).toNat:Nat)*p<=p:=by
 have e1:((q+1:Nat):Rat)=(q:Rat)+1:=by rw[bbZ];rfl
 have e2:((q+0:Nat):Rat)=(q:Rat):=rfl;rcases bcG dir 0 with h|h
 . cases neg
   . have ho:outw false dir=false:=by unfold outw;rw[if_neg (by omega)]
     rw[ho];unfold sgq;simp only[bcR,cond_false,e2,bb7,if_false];refine⟨fun _=>h1,fun h'=>by omega,?_,?_⟩<;>grind
   . have ho:outw true dir=true:=by unfold outw;rw[if_neg (by omega)]
     rw[ho];unfold sgq;simp only[bcR,cond_true,e1,if_true];refine⟨fun _=> ?_,fun h'=>by omega,?_,?_⟩<;>grind
 . cases neg
   . have ho:outw false dir=true:=by unfold outw;rw[if_pos h];rfl
     rw[ho];unfold sgq;simp only[bcR,cond_true,e1,bb7,if_false];refine⟨fun h'=>by omega,fun _=>h2,?_,?_⟩<;>grind
   . have ho:outw true dir=false:=by unfold outw;rw[if_pos h];rfl
     rw[ho];unfold sgq;simp only[bcR,cond_false,e2,if_true];refine⟨fun h'=>by omega,fun _=> ?_,?_,?_⟩<;>grind
theorem zQ(hx:x≠0)(e:Int):topD (mkDy x e)=bits x.natAbs+e:=by
 rcases iD x e with ⟨h1,h2⟩|⟨h1,h2,h3,h4⟩
 . exact absurd h2 hx
 . unfold topD
   rw[if_neg h2];generalize mkDy x e=d at*;have:x.natAbs=d.man.natAbs*2^(d.exp-e).toNat:=by
    conv=>lhs;rw[h4]
    rw[Int.natAbs_mul,Int.natAbs_natCast]
   rw[this,jR (by omega)];omega
theorem abM{P:Nat}(e:Int)(hP:1<=P)(hx:x.natAbs<=2^P):bits (mkDy x e).man.natAbs<=P:=by
 rcases Nat.lt_or_eq_of_le hx with h|h
 . exact bbX (pJ x e) ((aD _ _).2 h)
 . unfold mkDy
   have h0:x≠0:=by have:=bbV P;omega
   rw[if_neg h0,h];have:ctz (2^P)=P:=by have:=yJ P 0;simpa using this
   rw[this,Nat.div_self (bbV P),bG];have:bits 1<=P:=(aD 1 P).2 (bb5 (by decide) (bb6 (n:=2) (by omega) hP));exact this
theorem nX(m n:Nat):(m/2^n)*2^n<=m/\m<(m/2^n+1)*2^n:=by
 have h1:=bcH m (2^n);have h2:=bcZ m (bbV n);rw[bcI]at h1;rw[bcW];omega
theorem ajS{n P:Nat}(h:bits m=n+P):m/2^n<2^P:=by
 rw[bb8 (bbV n),<-bbW];refine(aD m _).1 (by omega)
theorem vP(dir:Int)(hP:1<=P):Canon (aM a P dir)/\(bits (aM a P dir).man.natAbs:Int)<=P/\
 ((aM a P dir).man≠0->(mkDy a.man a.exp).exp<=(aM a P dir).exp/\topD (aM a P dir)<=topD (mkDy a.man a.exp)+1):=by
 unfold aM
 split
 . rename_i h
   exact⟨Canon.mk _ _,h,fun _=>⟨Int.le_refl _,by omega⟩⟩
 . rename_i h
   generalize hd:mkDy a.man a.exp=d at*;have hm0:d.man≠0:=by
    intro h0;rw[h0]at h;apply h;show((bits 0:Nat):Int)<=P;have:bits 0=0:=rfl;omega
   obtain⟨n,hn⟩:∃n:Nat,(bits d.man.natAbs:Int)-P=n:=⟨((bits d.man.natAbs:Int)-P).toNat,by omega⟩;obtain⟨Q,hQ⟩:∃Q:Nat,P=Q:=⟨P.toNat,by omega⟩;subst hQ;rw[hn,bcA];have hb:bits d.man.natAbs=n+Q:=by omega
   have hq:=ajS hb;generalize hx:sg (decide (d.man<0)) (d.man.natAbs/2^n+(outw (decide (d.man<0)) dir).toNat)=x;have hxn:x.natAbs<=2^Q:=by
    rw[<-hx,bG];have:=Bool.toNat_le (outw (decide (d.man<0)) dir);omega
   refine⟨Canon.mk _ _,by have:=abM (e:=d.exp+(n:Int)) (by omega) hxn;omega,fun hne=> ?_⟩;rcases iD x (d.exp+n)with ⟨h1,h2⟩|⟨h1,h2,h3,h4⟩
   . rw[h1]at hne;exact absurd rfl hne
   . refine⟨by omega,?_⟩
     rw[zQ h1];have h5:topD d=bits d.man.natAbs+d.exp:=by unfold topD;rw[if_neg hm0]
     rw[h5,hb];have:bits x.natAbs<=Q+1:=(aD _ _).2 (by rw[bcJ];have:=bbV Q;omega);omega
theorem jA(a:Dy)(dir:Int)(hP:1<=P):(dir<0->rv (aM a P dir)<=rv a)/\(0<=dir->rv a<=rv (aM a P dir))/\
 rv (aM a P dir)-rv a<=p2 (topD (mkDy a.man a.exp)-P)/\rv a-rv (aM a P dir)<=p2 (topD (mkDy a.man a.exp)-P):=by
 have hv:rv (mkDy a.man a.exp)=rv a:=kL _ _;rw[<-hv];unfold aM
 split
 . have:=bD (topD (mkDy a.man a.exp)-P)
   exact⟨fun _=>bbY,fun _=>bbY,by grind,by grind⟩
 . rename_i h
   generalize mkDy a.man a.exp=d at*;clear hv;have hm0:d.man≠0:=by
    intro h0;rw[h0]at h;apply h;show((bits 0:Nat):Int)<=P;have:bits 0=0:=rfl;omega
   obtain⟨n,hn⟩:∃n:Nat,(bits d.man.natAbs:Int)-P=n:=⟨((bits d.man.natAbs:Int)-P).toNat,by omega⟩;rw[hn,bcA,kL,zP];have hb:=nX d.man.natAbs n;have hp:=bD (d.exp+n);have hz:rv d=sgq (decide (d.man<0)) ((d.man.natAbs:Rat)*p2 d.exp):=by
    unfold rv sgq;rcases iM d.man with ⟨h4,h5⟩|⟨h4,h5⟩<;>rw[h4]
    . rw[if_neg (by simp;omega)]
    . rw[if_pos (by simpa using h5)];grind
   have e1:p2 (d.exp+n)=((2^n:Nat):Rat)*p2 d.exp:=by rw[bY,fA];grind
   have c1:=bbT.2 hb.1;have c2:=bbT.2 (bcK hb.2);rw[bbU]at c1 c2;have hpe:=bD d.exp;have k:=aeH (q:=d.man.natAbs/2^n) (p:=p2 (d.exp+n)) (z:=(d.man.natAbs:Rat)*p2 d.exp) hp (by
    rw[e1];have:=bbS (a:=(d.man.natAbs:Rat)-((d.man.natAbs/2^n:Nat):Rat)*((2^n:Nat):Rat)) (b:=p2 d.exp) (by grind) (by grind);grind) (by
    rw[e1];rw[bbZ]at c2;have:=bbS (a:=(((d.man.natAbs/2^n:Nat):Rat)+((1:Nat):Rat))*((2^n:Nat):Rat)-(d.man.natAbs:Rat)) (b:=p2 d.exp) (by grind) (by grind);have e2:((1:Nat):Rat)=1:=rfl;grind) (decide (d.man<0)) dir
   rw[<-hz]at k;have e3:topD d-P=d.exp+n:=by unfold topD;rw[if_neg hm0];omega
   rw[e3];exact k
theorem abN(h:m≠0):bits (2*m+1)=bits m+1:=by
 have h1:=wX (2*m+1) (by omega);rw[h1,show(2*m+1)/2=m from by omega];omega
theorem abO(neg:Bool)(m:Nat)(e:Int):mkDy (sg neg (2*m+1)) e=⟨sg neg (2*m+1),e⟩:=by
 unfold mkDy;have h0:sg neg (2*m+1)≠0:=by cases neg<;>simp[sg]<;>omega
 have hc:ctz (sg neg (2*m+1)).natAbs=0:=by
  rw[bG];have:=yJ 0 m;simpa using this
 have hn:decide (sg neg (2*m+1)<0)=neg:=by
  rw[uG];cases neg<;>simp
 rw[if_neg h0,hc,hn,bG];simp
theorem mD{neg:Bool}{more:Bool}(dir:Int)(hP:1<=P)(h1:(m:Rat)*p2 e<=z)(h2:z<=((m:Rat)+1)*p2 e)(h3:more=false->z=(m:Rat)*p2 e)(h4:more=true->P+2<=bits m):
 (dir<0->rv (aQ neg m e more P dir)<=sgq neg z)/\(0<=dir->sgq neg z<=rv (aQ neg m e more P dir))/\
 rv (aQ neg m e more P dir)-sgq neg z<=p2 (bits m+e-P)/\sgq neg z-rv (aQ neg m e more P dir)<=p2 (bits m+e-P):=by
 unfold aQ
 cases more
 . simp only[bb7,if_false]
   have hz:=h3 rfl;have hr:rv (mkDy (sg neg m) e)=sgq neg z:=by rw[kL,zP,hz];unfold sgq;cases neg<;>grind
   have k:=jA (mkDy (sg neg m) e) (P:=P) dir hP;rw[hr,nE]at k;by_cases hm:m=0
   . subst hm
     have e0:mkDy (sg neg 0) e=⟨0,0⟩:=by cases neg<;>exact aU e
     have e1:aM (mkDy (sg neg 0) e) P dir=⟨0,0⟩:=by
      rw[e0];unfold aM;rw[aU,if_pos (by show((bits 0:Nat):Int)<=P;have:bits 0=0:=rfl;omega)]
     rw[e1,lF]at k|-;have hz0:z=0:=by rw[hz];simp
     have:=bD ((bits 0:Int)+e-P);rw[hz0]at k|-;have:sgq neg 0=0:=by unfold sgq;cases neg<;>simp
     rw[this]at k|-;exact⟨k.1,k.2.1,by grind,by grind⟩
   . have ht:topD (mkDy (sg neg m) e)=bits m+e:=by
      rw[zQ (by cases neg<;>simp[sg]<;>omega),bG]
     rw[ht]at k;exact k
 . simp only[if_true]
   have hb:=h4 rfl;have hm:m≠0:=by intro h;rw[h]at hb;have:bits 0=0:=rfl;omega
   unfold aM;rw[abO,abO,bG,abN hm];simp only;obtain⟨n,hn⟩:∃n:Nat,((bits m+1:Nat):Int)-P=n:=⟨(((bits m+1:Nat):Int)-P).toNat,by omega⟩;have hng:decide (sg neg (2*m+1)<0)=neg:=by
    rw[uG];cases neg<;>simp
   rw[if_neg (by omega),hn,bcA,hng,kL,zP];obtain⟨j,hj⟩:∃j,n=j+1:=⟨n-1,by omega⟩;have hd:=nX (2*m+1) n;rw[hj,bcJ]at hd;have hd1:((2*m+1)/(2^j*2))*2^j<=m:=by
    have:=hd.1;rw[<-bcD]at this;omega
   have hd2:m+1<=((2*m+1)/(2^j*2)+1)*2^j:=by
    have:=hd.2;rw[<-bcD]at this;omega
   rw[hj,bcJ];have c1:=bbT.2 hd1;have c2:=bbT.2 hd2;rw[bbU]at c1 c2;rw[bbZ,bbZ]at c2;have e5:((1:Nat):Rat)=1:=rfl;rw[e5]at c2;have e1:p2 (e-1+((j+1:Nat):Int))=((2^j:Nat):Rat)*p2 e:=by
    rw[show e-1+((j+1:Nat):Int)=(j:Int)+e from by omega,bY,fA]
   have hpe:=bD e;have k:=aeH (q:=(2*m+1)/(2^j*2)) (p:=p2 (e-1+((j+1:Nat):Int))) (z:=z) (bD _) (by
    rw[e1];have:=bbS (a:=(m:Rat)-((((2*m+1)/(2^j*2)):Nat):Rat)*((2^j:Nat):Rat)) (b:=p2 e) (by grind) (by grind);grind) (by
    rw[e1];have:=bbS (a:=(((((2*m+1)/(2^j*2)):Nat):Rat)+1)*((2^j:Nat):Rat)-((m:Rat)+1)) (b:=p2 e) (by grind) (by grind);grind) neg dir
   have e3:(bits m:Int)+e-P=e-1+((j+1:Nat):Int):=by omega
   rw[e3];exact k
theorem pQ{neg:Bool}{more:Bool}(dir:Int)(hP:1<=P):Canon (aQ neg m e more P dir)/\(bits (aQ neg m e more P dir).man.natAbs:Int)<=P/\
 ((aQ neg m e more P dir).man≠0->e-1<=(aQ neg m e more P dir).exp/\topD (aQ neg m e more P dir)<=bits m+e+1):=by
 unfold aQ;obtain⟨k1,k2,k3⟩:=vP (a:=mkDy (sg neg (if more then 2*m+1 else m)) (if more then e-1 else e)) (P:=P) dir hP;refine⟨k1,k2,fun h=> ?_⟩;obtain⟨j1,j2⟩:=k3 h;rw[nE]at j1 j2;rcases iD (sg neg (if more then 2*m+1 else m)) (if more then e-1 else e)with ⟨h1,h2⟩|⟨h1,h2,h3,h4⟩
 . exfalso;apply h
   rw[h1];unfold aM;rw[aU,if_pos (by show((bits 0:Nat):Int)<=P;have:bits 0=0:=rfl;omega)]
 . have ht:=zQ h1 (if more then e-1 else e)
   rw[ht,bG]at j2
   cases more
   . simp only[bb7,if_false]at*
     exact⟨by omega,by omega⟩
   . simp only[if_true]at*
     by_cases hm:m=0
     . subst hm
       have:bits (2*0+1)=1:=by decide
       have:bits 0=0:=rfl;exact⟨by omega,by omega⟩
     . rw[abN hm]at j2
       exact⟨by omega,by omega⟩
def quoA(a b:Nat)(P:Int):Int:=P+2-bits a+bits b
def quoX(a b:Nat)(P:Int):Nat:=if 0<=quoA a b P then a*2^(quoA a b P).toNat else a/2^(-quoA a b P).toNat
def quoM(a b:Nat)(P:Int):Bool:=(decide (quoA a b P<0)&&decide ((ctz a:Int)< -quoA a b P))||decide (0<bits (quoX a b P%b))
def quoD(x y:Dy)(P dir:Int):Dy:=if x.man=0 then⟨0,0⟩else
 aQ (decide (x.man<0) != decide (y.man<0)) (quoX x.man.natAbs y.man.natAbs P/y.man.natAbs) (x.exp-y.exp-quoA x.man.natAbs y.man.natAbs P) (quoM x.man.natAbs y.man.natAbs P) P dir
theorem alO{A B:Nat}(hB:0<B):((A/B:Nat):Rat)*(B:Rat)<=A/\(A:Rat)<=(((A/B:Nat):Rat)+1)*(B:Rat)/\(A%B=0->(A:Rat)=((A/B:Nat):Rat)*(B:Rat)):=by
 have h1:=bcH A B;have h2:=bcZ A hB;have e5:((1:Nat):Rat)=1:=rfl;refine⟨?_,?_,fun h=> ?_⟩
 . rw[<-bbU];exact bbT.2 (by rw[bcI]at h1;omega)
 . rw[<-e5,<-bbZ,<-bbU];exact bbT.2 (by rw[bcI]at h1;rw[bcW];omega)
 . rw[<-bbU];congr 1;rw[bcI]at h1;omega
theorem aeI{a k:Nat}(h0:a≠0):k<=ctz a↔a%2^k=0:=by
 obtain⟨j,m,e,hj⟩:=qQ a h0;rw[hj];constructor
 . intro h
   obtain⟨d,rfl⟩:∃d,j=k+d:=⟨j-k,by omega⟩;rw[e,bbW,bcD];exact Nat.mul_mod_right _ _
 . intro h
   rcases bcX j k with h1|h1
   . exfalso
     obtain⟨d,rfl⟩:∃d,k=j+1+d:=⟨k-j-1,by omega⟩;obtain⟨c,hc⟩:=Nat.dvd_of_mod_eq_zero h;rw[e,bbW,bcJ,bcD,bcD]at hc;have:=Nat.eq_of_mul_eq_mul_left (bbV j) hc;omega
   . exact h1
theorem abP{a b:Nat}(ha:a≠0)(hb:b≠0)(hP:1<=P):∃A B:Nat,0<B/\quoX a b P/b=A/B/\(quoM a b P=true↔A%B≠0)/\(A:Rat)*(b:Rat)=(a:Rat)*(B:Rat)*p2 (quoA a b P)/\P+2<=bits (A/B)/\(bits (A/B):Int)<=P+3:=by
 have hba:=(not_congr (bN a)).2 ha;have hbb:=(not_congr (bN b)).2 hb;have a1:=(aD a (bits a)).1 nlr;have a2:2^(bits a-1)<=a:=by
  have:¬bits a<=bits a-1:=by omega
  rw[aD]at this;omega
 have b1:=(aD b (bits b)).1 nlr;have b2:2^(bits b-1)<=b:=by
  have:¬bits b<=bits b-1:=by omega
  rw[aD]at this;omega
 obtain⟨Q,hQ⟩:∃Q:Nat,P=Q:=⟨P.toNat,by omega⟩;subst hQ;have hn:quoA a b Q=(Q:Int)+2-bits a+bits b:=rfl;unfold quoX quoM;unfold quoX;rcases bcG (quoA a b Q) 0 with h|h
 . obtain⟨k,hk⟩:∃k:Nat,quoA a b Q=-(k:Int):=⟨(-quoA a b Q).toNat,by omega⟩
   rw[if_neg (by omega),hk,show(-(-(k:Int))).toNat=k from by omega];have hpb:0<2^k*b:=bcY (bbV k) (by omega);refine⟨a,2^k*b,hpb,Nat.div_div_eq_div_mul _ _ _,?_,?_,?_,?_⟩
   . have e1:=Nat.mod_mul (x:=a) (a:=2^k) (b:=b)
     have e2:=aeI (k:=k) ha;have e3:=bN (a/2^k%b);have hp:=bbV k;rw[e1];simp only[bcT,bcS,decide_eq_true_eq];constructor
     . rintro(⟨g1,g2⟩|g)
       . have:¬k<=ctz a:=by omega
         rw[e2]at this;omega
       . have g3:a/2^k%b≠0:=fun g3=>by have:=e3.2 g3;omega
         have:=bcY hp (show 0<a/2^k%b by omega);omega
     . intro g
       by_cases g1:a%2^k=0
       . right
         rcases bcP (bits (a/2^k%b))with g2|g2
         . rw[e3.1 g2,g1]at g;simp at g
         . exact g2
       . left
         have:¬k<=ctz a:=by rw[e2];exact g1
         omega
   . have e1:=pM (-(k:Int)) k (by omega)
     rw[show(-(k:Int)+(k:Int)).toNat=0 from by omega]at e1;rw[bbU];have e4:((2^0:Nat):Rat)=1:=rfl;rw[e4]at e1;have:(a:Rat)*(((2^k:Nat):Rat)*(b:Rat))*p2 (-(k:Int))=(a:Rat)*(b:Rat)*(p2 (-(k:Int))*((2^k:Nat):Rat)):=by grind
     rw[this,e1];grind
   . have:2^(Q+1)<=a/(2^k*b):=by
      rw[bcC hpb];refine bbX (bb4 _ (bb4 _ (bcK b1))) (bbX (bb9 ?_) a2);rw[<-bbW,<-bbW];congr 1;omega
     have h5:¬bits (a/(2^k*b))<=Q+1:=by rw[aD];omega
     omega
   . have:a/(2^k*b)<2^(Q+3):=by
      rw[bb8 hpb];refine bb5 a1 (bbX (bb9 ?_) (bb4 _ (bb4 _ b2)));rw[<-bbW,<-bbW];congr 1;omega
     have h5:=(aD _ _).2 this;omega
 . obtain⟨k,hk⟩:∃k:Nat,quoA a b Q=(k:Int):=⟨(quoA a b Q).toNat,by omega⟩
   rw[if_pos h,hk,bcA];refine⟨a*2^k,b,by omega,rfl,?_,?_,?_,?_⟩
   . have e3:=bN (a*2^k%b)
     simp only[bcT,bcS,decide_eq_true_eq];constructor
     . rintro(⟨g1,g2⟩|g)
       . omega
       . intro g3;have:=e3.2 g3;omega
     . intro g;right
       rcases bcP (bits (a*2^k%b))with g2|g2
       . exact absurd (e3.1 g2) g
       . exact g2
   . rw[fA,bbU];grind
   . have:2^(Q+1)<=a*2^k/b:=by
      rw[bcC (by omega)];refine bbX (bb4 _ (bcK b1)) (bbX (bb9 ?_) (bcL _ a2));rw[<-bbW,<-bbW];congr 1;omega
     have h5:¬bits (a*2^k/b)<=Q+1:=by rw[aD];omega
     omega
   . have:a*2^k/b<2^(Q+3):=by
      rw[bb8 (by omega)];refine bb5 ((bcM (bbV k)).2 a1) (bbX (bb9 ?_) (bb4 _ b2));rw[<-bbW,<-bbW];congr 1;omega
     have h5:=(aD _ _).2 this;omega
def Err(P:Int)(r t:Rat):Prop:=∀b:Rat,-b<=t->t<=b->r-t<=2*b*p2 (-P)/\t-r<=2*b*p2 (-P)
theorem qV{T:Int}{r:Rat}(h1:r-t<=p2 (T-P))(h2:t-r<=p2 (T-P))(hz:p2 (T-1)<=z)(ht:t=z\/t=-z):Err P r t:=by
 intro b hb1 hb2;have h3:z<=b:=by rcases ht with h|h<;>grind
 have e:p2 (T-P)=2*p2 (T-1)*p2 (-P):=by
  rw[show T-P=(T-1+1)+-P from by omega,bY,gH]
 have hp:=bD (-P);have:=bbS (a:=2*(b-p2 (T-1))) (b:=p2 (-P)) (by grind) (by grind);constructor<;>grind
theorem pR:Err P 0 0:=by
 intro b h1 h2;have:=bbS (a:=2*b) (b:=p2 (-P)) (by grind) (by have:=bD (-P);grind);constructor<;>grind
theorem x9(a:Dy)(dir:Int)(hP:1<=P):Err P (rv (aM a P dir)) (rv a):=by
 obtain⟨-,-,h1,h2⟩:=jA a dir hP;by_cases h0:a.man=0
 . have e0:rv a=0:=(aX a).2.2.2 h0
   have e1:aM a P dir=⟨0,0⟩:=by
    unfold aM;rw[h0,aU,if_pos (by show((bits 0:Nat):Int)<=P;have:bits 0=0:=rfl;omega)]
   rw[e0,e1,lF];exact pR
 . have hv:rv (mkDy a.man a.exp)=rv a:=kL _ _
   rcases qU (mkDy a.man a.exp) (by rcases iD a.man a.exp with ⟨g1,g2⟩|⟨g1,g2,-⟩<;>first|exact absurd g2 h0|exact g2)with h3|h3<;>rw[hv]at h3
   . exact qV h1 h2 h3 (Or.inl rfl)
   . exact qV h1 h2 (z:=-rv a) (by grind) (Or.inr (by grind))
theorem vQ(e:Int)(h:0<=x):0<=(mkDy x e).man:=by
 rcases bcG (mkDy x e).man 0 with g|g
 . have h1:=alL x e
   rw[bcE.2 g]at h1;have:=bcE.1 h1.symm;omega
 . exact g
theorem zR(dir:Int)(h:0<=a.man):0<=rv (aM a P dir):=by
 have hm:=vQ a.exp h;unfold aM
 split
 . unfold rv
   exact bbS (Rat.intCast_nonneg.2 hm) (by have:=bD (mkDy a.man a.exp).exp;grind)
 . rw[kL,show decide ((mkDy a.man a.exp).man<0)=false from by simpa using hm]
   refine bbS ?_ (by have:=bD ((mkDy a.man a.exp).exp+((bits (mkDy a.man a.exp).man.natAbs:Int)-P));grind);rw[zP];exact bcQ
theorem ajT(d:Dy):rv d=sgq (decide (d.man<0)) ((d.man.natAbs:Rat)*p2 d.exp):=by
 unfold rv sgq;rcases iM d.man with ⟨h4,h5⟩|⟨h4,h5⟩<;>rw[h4]
 . rw[if_neg (by simp;omega)]
 . rw[if_pos (by simpa using h5)];grind
theorem alP(b c:Bool)(x y:Rat):sgq (b != c) x*sgq c y=sgq b (x*y):=by cases b<;>cases c<;>simp[sgq]<;>grind
theorem jS(x y:Dy)(dir:Int)(hP:1<=P)(hy:y.man≠0)(ht:t*rv y=rv x):
 (dir<0->rv (quoD x y P dir)<=t)/\(0<=dir->t<=rv (quoD x y P dir))/\Err P (rv (quoD x y P dir)) t:=by
 have hy0:rv y≠0:=fun h=>hy ((aX y).2.2.1 h);unfold quoD;by_cases hx:x.man=0
 . rw[if_pos hx,lF]
   have e0:rv x=0:=(aX x).2.2.2 hx;rw[e0]at ht;have:t=0:=by rcases bcF.1 ht with h|h<;>first|exact absurd h hy0|exact h
   rw[this];exact⟨fun _=>bbY,fun _=>bbY,pR⟩
 . rw[if_neg hx]
   obtain⟨A,B,hB,e1,e2,e3,e4,e5⟩:=abP (a:=x.man.natAbs) (b:=y.man.natAbs) (P:=P) (by omega) (by omega) hP;rw[e1];obtain⟨q1,q2,q3⟩:=alO (A:=A) hB;have hBr:(0:Rat)<(B:Rat):=bcU.2 hB;have hbr:(0:Rat)<(y.man.natAbs:Rat):=bcU.2 (by omega);obtain⟨e,he⟩:∃e,e=x.exp-y.exp-quoA x.man.natAbs y.man.natAbs P:=⟨_,rfl⟩;rw[<-he];have hpe:=bD e;generalize hneg:(decide (x.man<0) != decide (y.man<0))=neg at*;generalize quoM x.man.natAbs y.man.natAbs P=more at*
   -- the amount of the quotient
   obtain⟨z,hz⟩:∃z:Rat,z=(A:Rat)/B*p2 e:=⟨_,rfl⟩;have hAB:(A:Rat)/B*B=A:=by grind
   have htz:t=sgq neg z:=by
    have k1:z*((y.man.natAbs:Rat)*p2 y.exp)=(x.man.natAbs:Rat)*p2 x.exp:=by
     rw[hz];have k2:p2 x.exp=p2 (quoA x.man.natAbs y.man.natAbs P)*p2 e*p2 y.exp:=by rw[<-bY,<-bY];congr 1;omega
     rw[k2];generalize p2 (quoA x.man.natAbs y.man.natAbs P)=u at*;generalize p2 e=v at*;generalize p2 y.exp=w at*;have k3:(A:Rat)/B*(y.man.natAbs:Rat)=(x.man.natAbs:Rat)*u:=by
      have:((A:Rat)/B*(y.man.natAbs:Rat)-(x.man.natAbs:Rat)*u)*B=0:=by grind
      rcases bcF.1 this with h|h<;>grind
     grind
    have k4:sgq neg z*rv y=rv x:=by
     rw[ajT x,ajT y,<-hneg,alP,k1]
    have k5:(t-sgq neg z)*rv y=0:=by grind
    rcases bcF.1 k5 with h|h
    . grind
    . exact absurd h hy0
   have l1:((A/B:Nat):Rat)*p2 e<=z:=by
    rw[hz];have:((A/B:Nat):Rat)<=(A:Rat)/B:=by
     apply bcB;intro hc;have:=bcO (a:=((A/B:Nat):Rat)-(A:Rat)/B) (b:=(B:Rat)) (by grind) hBr;grind
    have:=bbS (a:=(A:Rat)/B-((A/B:Nat):Rat)) (b:=p2 e) (by grind) (by grind);grind
   have l2:z<=(((A/B:Nat):Rat)+1)*p2 e:=by
    rw[hz];have:(A:Rat)/B<=((A/B:Nat):Rat)+1:=by
     apply bcB;intro hc;have:=bcO (a:=(A:Rat)/B-(((A/B:Nat):Rat)+1)) (b:=(B:Rat)) (by grind) hBr;grind
    have:=bbS (a:=((A/B:Nat):Rat)+1-(A:Rat)/B) (b:=p2 e) (by grind) (by grind);grind
   have l3:more=false->z=((A/B:Nat):Rat)*p2 e:=by
    intro h;have h6:A%B=0:=by
     apply bcB;intro hc;have:=e2.2 hc;rw[h]at this;cases this
    have h7:=q3 h6;rw[hz];have:(A:Rat)/B=((A/B:Nat):Rat):=by
     have:((A:Rat)/B-((A/B:Nat):Rat))*B=0:=by grind
     rcases bcF.1 this with h|h<;>grind
    rw[this]
   obtain⟨r1,r2,r3,r4⟩:=mD (neg:=neg) (P:=P) dir hP l1 l2 l3 (fun _=>e4);rw[htz];refine⟨r1,r2,?_⟩;have hbm:=(pO (m:=A/B) (by intro h;rw[h]at e4;have:bits 0=0:=rfl;omega)).1;refine qV r3 r4 (z:=z) ?_ (by unfold sgq;cases neg<;>simp);rw[show(bits (A/B):Int)+e-1=((bits (A/B):Int)-1)+e from by omega,bY];have:=bbS (a:=((A/B:Nat):Rat)-p2 ((bits (A/B):Int)-1)) (b:=p2 e) (by grind) (by grind);grind
theorem abQ(x y:Dy)(dir:Int)(hP:1<=P)(hy:y.man≠0):Canon (quoD x y P dir)/\(bits (quoD x y P dir).man.natAbs:Int)<=P/\
 ((quoD x y P dir).man≠0->topD x-topD y-P-4<=(quoD x y P dir).exp/\topD (quoD x y P dir)<=topD x-topD y+2):=by
 unfold quoD;by_cases hx:x.man=0
 . rw[if_pos hx]
   exact⟨aU 0,by show((bits 0:Nat):Int)<=P;have:bits 0=0:=rfl;omega,fun h=>absurd rfl h⟩
 . rw[if_neg hx]
   obtain⟨A,B,hB,e1,e2,e3,e4,e5⟩:=abP (a:=x.man.natAbs) (b:=y.man.natAbs) (P:=P) (by omega) (by omega) hP;rw[e1];obtain⟨k1,k2,k3⟩:=pQ (neg:=(decide (x.man<0) != decide (y.man<0))) (m:=A/B) (e:=x.exp-y.exp-quoA x.man.natAbs y.man.natAbs P) (more:=quoM x.man.natAbs y.man.natAbs P) (P:=P) dir hP;refine⟨k1,k2,fun h=> ?_⟩;obtain⟨k4,k5⟩:=k3 h;have t1:topD x=bits x.man.natAbs+x.exp:=by unfold topD;rw[if_neg hx]
   have t2:topD y=bits y.man.natAbs+y.exp:=by unfold topD;rw[if_neg hy]
   have t3:quoA x.man.natAbs y.man.natAbs P=P+2-bits x.man.natAbs+bits y.man.natAbs:=rfl;omega
def sqM(x:Dy):Nat:=if x.exp%2=0 then x.man.natAbs else x.man.natAbs*2
def sqE(x:Dy):Int:=if x.exp%2=0 then x.exp else x.exp-1
def sqN(x:Dy)(P:Int):Int:=(2*(P+2)-bits (sqM x))+(2*(P+2)-bits (sqM x))%2
def sqX(x:Dy)(P:Int):Nat:=if 0<=sqN x P then sqM x*2^(sqN x P).toNat else sqM x/2^(-sqN x P).toNat
def sqR(x:Dy)(P:Int):Bool:=(decide (sqN x P<0)&&decide ((ctz (sqM x):Int)< -sqN x P))||decide (0<bits (sqX x P-bQ (sqX x P)*bQ (sqX x P)))
def aL(x:Dy)(P dir:Int):Dy:=if x.man=0 then⟨0,0⟩else aQ false (bQ (sqX x P)) ((sqE x-sqN x P)/2) (sqR x P) P dir
theorem aeJ{x:Dy}(hx:0<x.man)(hP:1<=P):∃(m:Nat) (f:Int),bQ (sqX x P)=m/\(sqE x-sqN x P)/2=f/\
 ((m:Rat)*p2 f)*((m:Rat)*p2 f)<=rv x/\rv x<=(((m:Rat)+1)*p2 f)*(((m:Rat)+1)*p2 f)/\(sqR x P=false->rv x=((m:Rat)*p2 f)*((m:Rat)*p2 f))/\
 P+2<=bits m/\(bits m:Int)<=P+3/\topD x-2*P-8<=2*f/\2*f<=topD x-2*P-3:=by
 have hM0:sqM x≠0:=by unfold sqM;split<;>omega
 have hv:rv x=(sqM x:Rat)*p2 (sqE x):=by
  unfold rv sqM sqE;rcases iM x.man with ⟨h4,h5⟩|⟨h4,h5⟩
  . split
    . rw[h4]
    . rw[bbU,h4,show p2 x.exp=p2 (x.exp-1+1) from by congr 1;omega,gH]
      have:((2:Nat):Rat)=2:=rfl;grind
  . omega
 have hE:sqE x%2=0:=by unfold sqE;split<;>omega
 have hT:topD x=bits (sqM x)+sqE x:=by
  unfold topD sqM sqE;rw[if_neg (by omega)]
  split
  . rfl
  . have:=jR (n:=x.man.natAbs) (by omega) 1
    rw[Nat.pow_one]at this;omega
 have hN:sqN x P=(2*(P+2)-bits (sqM x))+(2*(P+2)-bits (sqM x))%2:=rfl;have hr:=dR (sqX x P);unfold sqR;generalize hX:sqX x P=X at*;unfold sqX at hX;generalize sqM x=a at*;generalize sqE x=E at*;generalize hn:sqN x P=n at*;obtain⟨f,hf⟩:∃f,(E-n)/2=f:=⟨_,rfl⟩;have hfE:E=n+2*f:=by omega
 obtain⟨h1,h2⟩:=hr;generalize hm:bQ X=m at*;have a1:=(aD a (bits a)).1 nlr;have hba:=(not_congr (bN a)).2 hM0;have a2:2^(bits a-1)<=a:=by
  have:¬bits a<=bits a-1:=by omega
  rw[aD]at this;omega
 obtain⟨Q,hQ⟩:∃Q:Nat,P=Q:=⟨P.toNat,by omega⟩;subst hQ
 -- v = y * p2 (2 f), X <= y < X + 1
 obtain⟨y,hy1,hy2,hy3,hy4,hy5,hy6⟩:∃y:Rat,rv x=y*p2 (2*f)/\(X:Rat)<=y/\y<=(X:Rat)+1/\((decide (n<0)&&decide ((ctz a:Int)< -n))=false->y=X)/\2^(2*Q+2)<=X/\X<2^(2*Q+6):=by
  rcases bcG n 0 with h|h
  . obtain⟨k,hk⟩:∃k:Nat,n=-(k:Int):=⟨(-n).toNat,by omega⟩
    rw[if_neg (by omega),hk,show(-(-(k:Int))).toNat=k from by omega]at hX;have e1:=pM (-(k:Int)) k (by omega);rw[show(-(k:Int)+(k:Int)).toNat=0 from by omega]at e1;have e4:((2^0:Nat):Rat)=1:=rfl;rw[e4]at e1;obtain⟨d1,d2⟩:=nX a k;rw[hX]at d1 d2;have c1:=bbT.2 d1;have c2:=bbT.2 (bcK d2);rw[bbU]at c1 c2;rw[bbZ]at c2;have e5:((1:Nat):Rat)=1:=rfl;rw[e5]at c2;have hpk:=bD (-(k:Int));refine⟨(a:Rat)*p2 (-(k:Int)),?_,?_,?_,?_,?_,?_⟩
    . rw[hv,hfE,hk,bY];grind
    . have:=bbS (a:=(a:Rat)-(X:Rat)*((2^k:Nat):Rat)) (b:=p2 (-(k:Int))) (by grind) (by grind)
      have:(X:Rat)*((2^k:Nat):Rat)*p2 (-(k:Int))=X:=by
       have:(X:Rat)*((2^k:Nat):Rat)*p2 (-(k:Int))=X*(p2 (-(k:Int))*((2^k:Nat):Rat)):=by grind
       rw[this,e1];grind
      grind
    . have:=bbS (a:=((X:Rat)+1)*((2^k:Nat):Rat)-(a:Rat)) (b:=p2 (-(k:Int))) (by grind) (by grind)
      have:((X:Rat)+1)*((2^k:Nat):Rat)*p2 (-(k:Int))=X+1:=by
       have:((X:Rat)+1)*((2^k:Nat):Rat)*p2 (-(k:Int))=(X+1)*(p2 (-(k:Int))*((2^k:Nat):Rat)):=by grind
       rw[this,e1];grind
      grind
    . intro hh
      rw[hk]at hh;have hc:k<=ctz a:=by
       simp only[Bool.and_eq_false_iff,decide_eq_false_iff_not]at hh;omega
      have h7:=(aeI hM0).1 hc;have h8:=bcH a (2^k);rw[h7,hX,Nat.add_zero]at h8;rw[<-h8,bbU];have:((2^k:Nat):Rat)*(X:Rat)*p2 (-(k:Int))=X*(p2 (-(k:Int))*((2^k:Nat):Rat)):=by grind
      rw[this,e1];grind
    . rw[<-hX,bcC (bbV k)]
      refine bbX (bb9 ?_) (bbX (bb6 (by omega) (show 2*Q+2+k<=bits a-1 by omega)) a2);rw[<-bbW]
    . rw[<-hX,bb8 (bbV k)]
      refine bb5 a1 (bbX (bb6 (by omega) (show bits a<=2*Q+6+k by omega)) (bb9 ?_));rw[<-bbW]
  . obtain⟨k,hk⟩:∃k:Nat,n=(k:Int):=⟨n.toNat,by omega⟩
    rw[if_pos h,hk,bcA]at hX;refine⟨(X:Rat),?_,bbY,by grind,fun _=>rfl,?_,?_⟩
    . rw[hv,hfE,hk,bY,fA,<-hX,bbU];grind
    . rw[<-hX]
      refine bbX (bbX (bb6 (by omega) (show 2*Q+2<=bits a-1+k by omega)) (bb9 (bbW 2 (bits a-1) k))) (bcL _ a2)
    . rw[<-hX]
      refine bb5 ((bcM (bbV k)).2 a1) (bbX (bb9 (bbW 2 (bits a) k).symm) (bb6 (by omega) (by omega)))
 have c1:=bbT.2 h1;have c2:=bbT.2 (show X+1<=(m+1)*(m+1) from h2);rw[bbU]at c1 c2;rw[bbZ,bbZ]at c2;have e5:((1:Nat):Rat)=1:=rfl;rw[e5]at c2;have e6:p2 (2*f)=p2 f*p2 f:=by rw[<-bY];congr 1;omega
 rw[e6]at hy1;have hpf:=bD f;have hpp:=bcO hpf hpf;refine⟨m,f,rfl,hf,?_,?_,?_,?_,?_,?_,?_⟩
 . rw[hy1]
   have:=bbS (a:=y-(m:Rat)*m) (b:=p2 f*p2 f) (by grind) (by grind);grind
 . rw[hy1]
   have:=bbS (a:=((m:Rat)+1)*((m:Rat)+1)-y) (b:=p2 f*p2 f) (by grind) (by grind);grind
 . intro hh
   simp only[Bool.or_eq_false_iff]at hh;have h8:=hy4 hh.1;have h9:X=m*m:=by
    have:=hh.2;simp only[decide_eq_false_iff_not]at this;have:=(bN (X-m*m)).1 (by omega);omega
   rw[hy1,h8,h9,bbU];grind
 . have h8:¬bits m<=Q+1:=by
    rw[aD];intro h9;have h10:(m+1)*(m+1)<=2^(Q+1)*2^(Q+1):=bcV h9 h9;rw[<-bbW]at h10;have h11:X<2^(Q+1+(Q+1)):=bb5 h2 h10;rw[show Q+1+(Q+1)=2*Q+2 from by omega]at h11;omega
   omega
 . have h8:bits m<=Q+3:=by
    rw[aD];rcases bcX m (2^(Q+3))with h9|h9
    . exact h9
    . exfalso
      have h10:2^(Q+3)*2^(Q+3)<=m*m:=bcV h9 h9;rw[<-bbW,show Q+3+(Q+3)=2*Q+6 from by omega]at h10;omega
   omega
 . omega
 . omega
theorem pW(x:Dy)(dir:Int)(hP:1<=P)(hx:0<=x.man):∃q q':Rat,0<=q/\q<=q'/\q*q<=rv x/\rv x<=q'*q'/\
 0<=rv (aL x P dir)/\(dir<0->rv (aL x P dir)<=q)/\(0<=dir->q'<=rv (aL x P dir))/\q'-q<=q*p2 (-P)/\Err P (rv (aL x P dir)) q/\Err P (rv (aL x P dir)) q':=by
 unfold aL;by_cases h0:x.man=0
 . rw[if_pos h0,lF]
   have e0:rv x=0:=(aX x).2.2.2 h0;rw[e0];exact⟨0,0,bbY,bbY,by grind,by grind,bbY,fun _=>bbY,fun _=>bbY,by grind,pR,pR⟩
 . rw[if_neg h0]
   obtain⟨m,f,e1,e2,h1,h2,h3,h4,h5,-,-⟩:=aeJ (x:=x) (P:=P) (by omega) hP;rw[e1,e2];have hpf:=bD f;have hm0:(0:Rat)<=(m:Rat):=bcQ;have hq0:=bbS hm0 (show 0<=p2 f by grind);have hbm:=(pO (m:=m) (by intro h;rw[h]at h4;have:bits 0=0:=rfl;omega)).1;have hnn:0<=rv (aQ false m f (sqR x P) P dir):=by
    unfold aQ;refine zR dir ?_;exact vQ _ (by show(0:Int)<=((_:Nat):Int);omega)
   have hE:p2 ((bits m:Int)+f-1)<=(m:Rat)*p2 f:=by
    rw[show(bits m:Int)+f-1=((bits m:Int)-1)+f from by omega,bY];have:=bbS (a:=(m:Rat)-p2 ((bits m:Int)-1)) (b:=p2 f) (by grind) (by grind);grind
   have b1:=mD (neg:=false) (more:=sqR x P) (P:=P) (z:=(m:Rat)*p2 f) (m:=m) (e:=f) dir hP bbY (by grind) (fun _=>rfl) (fun _=>h4);have sf:∀z,sgq false z=z:=fun z=>by unfold sgq;simp
   rw[sf]at b1
   cases hr:sqR x P
   . rw[hr]at b1 hnn
     have h6:=h3 hr;have hz0:0<=(m:Rat)*p2 f*p2 (-P):=bbS hq0 (by have:=bD (-P);grind);have er:=qV b1.2.2.1 b1.2.2.2 hE (Or.inl rfl);exact⟨(m:Rat)*p2 f,(m:Rat)*p2 f,hq0,bbY,h1,by rw[h6];exact bbY,hnn,b1.1,b1.2.1,by grind,er,er⟩
   . rw[hr]at b1 hnn
     have b2:=mD (neg:=false) (more:=true) (P:=P) (z:=((m:Rat)+1)*p2 f) (m:=m) (e:=f) dir hP (by grind) bbY (fun h=>by cases h) (fun _=>h4);rw[sf]at b2;refine⟨(m:Rat)*p2 f,((m:Rat)+1)*p2 f,hq0,by grind,h1,h2,hnn,b1.1,b2.2.1,?_,qV b1.2.2.1 b1.2.2.2 hE (Or.inl rfl),qV b2.2.2.1 b2.2.2.2 (z:=((m:Rat)+1)*p2 f) (by grind) (Or.inl rfl)⟩
     -- p2 f <= m * p2 f * p2 (-P)
     have h7:p2 P<=(m:Rat):=by
      have:=iL (show P<=(bits m:Int)-1 by omega);grind
     have h8:p2 P*p2 (-P)=1:=by rw[<-bY,show P+-P=0 from by omega,lD]
     have h9:=bbS (a:=(m:Rat)-p2 P) (b:=p2 f*p2 (-P)) (by grind) (by have:=bcO hpf (bD (-P));grind);have h10:p2 P*(p2 f*p2 (-P))=p2 f:=by
      have:p2 P*(p2 f*p2 (-P))=p2 P*p2 (-P)*p2 f:=by grind
      rw[this,h8];grind
     have h11:((m:Rat)-p2 P)*(p2 f*p2 (-P))=(m:Rat)*p2 f*p2 (-P)-p2 P*(p2 f*p2 (-P)):=by grind
     rw[h11,h10]at h9;have h12:((m:Rat)+1)*p2 f=(m:Rat)*p2 f+p2 f:=by grind
     rw[h12];generalize (m:Rat)*p2 f*p2 (-P)=u at*;generalize (m:Rat)*p2 f=v at*;grind
theorem agG(x:Dy)(dir:Int)(hP:1<=P)(hx:0<=x.man):Canon (aL x P dir)/\(bits (aL x P dir).man.natAbs:Int)<=P/\
 ((aL x P dir).man≠0->topD x-2*P-10<=2*(aL x P dir).exp/\2*topD (aL x P dir)<=topD x+5):=by
 unfold aL;by_cases h0:x.man=0
 . rw[if_pos h0]
   exact⟨aU 0,by show((bits 0:Nat):Int)<=P;have:bits 0=0:=rfl;omega,fun h=>absurd rfl h⟩
 . rw[if_neg h0]
   obtain⟨m,f,e1,e2,-,-,-,h4,h5,h6,h7⟩:=aeJ (x:=x) (P:=P) (by omega) hP;rw[e1,e2];obtain⟨k1,k2,k3⟩:=pQ (neg:=false) (m:=m) (e:=f) (more:=sqR x P) (P:=P) dir hP;refine⟨k1,k2,fun h=> ?_⟩;obtain⟨k4,k5⟩:=k3 h;omega
end
section
open Re (rat)
open Int renaming sign_eq_neg_one_iff_neg->bc5,sign_eq_one_iff_pos->bc7
open Rat renaming le_trans->bc4,le_refl->bc6,mul_nonneg->bc8
variable{P:Int}{L p q x y z:Re}
structure Bl where
 lo:Dy
 hi:Dy
def In(x:Re)(b:Bl):Prop:=rat (rv b.lo)<=x/\x<=rat (rv b.hi)
def atB(v:Dy):Bl:=⟨v,v⟩
def notB(b:Bl):Bl:=⟨notD b.hi,notD b.lo⟩
def addB(a b:Bl)(P:Int):Bl:=⟨aM (addD a.lo b.lo) P (-1),aM (addD a.hi b.hi) P 1⟩
def minD(x lo:Dy):Dy:=if cmpD x lo<0 then x else lo
def maxD(x hi:Dy):Dy:=if 0<cmpD x hi then x else hi
def amD(a b:Bl):Dy:=minD (mulD a.hi b.hi) (minD (mulD a.hi b.lo) (minD (mulD a.lo b.hi) (mulD a.lo b.lo)))
def amE(a b:Bl):Dy:=maxD (mulD a.hi b.hi) (maxD (mulD a.hi b.lo) (maxD (mulD a.lo b.hi) (mulD a.lo b.lo)))
def mulB(a b:Bl)(P:Int):Bl:=⟨aM (amD a b) P (-1),aM (amE a b) P 1⟩
def jT(a b:Bl)(P:Int):Dy:=minD (quoD a.hi b.hi P (-1)) (minD (quoD a.hi b.lo P (-1)) (minD (quoD a.lo b.hi P (-1)) (quoD a.lo b.lo P (-1))))
def jU(a b:Bl)(P:Int):Dy:=maxD (quoD a.hi b.hi P 1) (maxD (quoD a.hi b.lo P 1) (maxD (quoD a.lo b.hi P 1) (quoD a.lo b.lo P 1)))
def quoB(a b:Bl)(P:Int):Option Bl:=if b.lo.man.sign=b.hi.man.sign/\b.lo.man.sign≠0 then some ⟨jT a b P,jU a b P⟩else none
def aS(a:Bl):Dy:=if a.lo.man<0 then⟨0,0⟩else a.lo
def nO(a:Bl)(P:Int):Option Bl:=if a.hi.man<0 then none else some ⟨aL (aS a) P (-1),aL a.hi P 1⟩
theorem vR(x y:Dy):rv (minD x y)<=rv x/\rv (minD x y)<=rv y/\(minD x y=x\/minD x y=y):=by
 unfold minD;have:=(ajQ x y).1
 split
 . rename_i h;have:=this.1 h;exact⟨bc6,by grind,Or.inl rfl⟩
 . rename_i h
   have:¬rv x<rv y:=fun h'=>h (this.2 h');exact⟨by grind,bc6,Or.inr rfl⟩
theorem vS(x y:Dy):rv x<=rv (maxD x y)/\rv y<=rv (maxD x y)/\(maxD x y=x\/maxD x y=y):=by
 unfold maxD;have:=(ajQ x y).2
 split
 . rename_i h;have:=this.1 h;exact⟨bc6,by grind,Or.inl rfl⟩
 . rename_i h
   have:¬rv y<rv x:=fun h'=>h (this.2 h');exact⟨by grind,bc6,Or.inr rfl⟩
theorem pX(a b c d:Dy):let m:=minD a (minD b (minD c d));rv m<=rv a/\rv m<=rv b/\rv m<=rv c/\rv m<=rv d/\(m=a\/m=b\/m=c\/m=d):=by
 obtain⟨h1,h2,h3⟩:=vR c d;obtain⟨k1,k2,k3⟩:=vR b (minD c d);obtain⟨j1,j2,j3⟩:=vR a (minD b (minD c d));refine⟨j1,by grind,by grind,by grind,?_⟩;rcases j3 with j3|j3<;>rw[j3]
 . exact Or.inl rfl
 . rcases k3 with k3|k3<;>rw[k3]
   . exact Or.inr (Or.inl rfl)
   . rcases h3 with h3|h3<;>rw[h3]
     . exact Or.inr (Or.inr (Or.inl rfl))
     . exact Or.inr (Or.inr (Or.inr rfl))
theorem pY(a b c d:Dy):let m:=maxD a (maxD b (maxD c d));rv a<=rv m/\rv b<=rv m/\rv c<=rv m/\rv d<=rv m/\(m=a\/m=b\/m=c\/m=d):=by
 obtain⟨h1,h2,h3⟩:=vS c d;obtain⟨k1,k2,k3⟩:=vS b (maxD c d);obtain⟨j1,j2,j3⟩:=vS a (maxD b (maxD c d));refine⟨j1,by grind,by grind,by grind,?_⟩;rcases j3 with j3|j3<;>rw[j3]
 . exact Or.inl rfl
 . rcases k3 with k3|k3<;>rw[k3]
   . exact Or.inr (Or.inl rfl)
   . rcases h3 with h3|h3<;>rw[h3]
     . exact Or.inr (Or.inr (Or.inl rfl))
     . exact Or.inr (Or.inr (Or.inr rfl))
namespace Re
theorem lin_ge(h1:p<=x)(h2:x<=q)(k1:L<=p*y)(k2:L<=q*y):L<=x*y:=by
 rcases le_total 0 y with h|h
 . exact le_trans k1 (mul_le_mul_right h h1)
 . refine le_trans k2 ?_
   have:=mul_le_mul_right (neg_nonneg.2 h) h2;rw[mul_neg,mul_neg]at this;have:=neg_le_neg this;rwa[neg_neg,neg_neg]at this
theorem lin_le(h1:p<=x)(h2:x<=q)(k1:p*y<=L)(k2:q*y<=L):x*y<=L:=by
 rcases le_total 0 y with h|h
 . exact le_trans (mul_le_mul_right h h2) k2
 . refine le_trans ?_ k1
   have:=mul_le_mul_right (neg_nonneg.2 h) h1;rw[mul_neg,mul_neg]at this;have:=neg_le_neg this;rwa[neg_neg,neg_neg]at this
theorem lin_ge'(h1:p<=x)(h2:x<=q)(k1:L<=y*p)(k2:L<=y*q):L<=y*x:=by
 rw[mul_comm y]at*;exact lin_ge h1 h2 k1 k2
theorem lin_le'(h1:p<=x)(h2:x<=q)(k1:y*p<=L)(k2:y*q<=L):y*x<=L:=by
 rw[mul_comm y]at*;exact lin_le h1 h2 k1 k2
theorem le_of_mul_pos(hz:0<z)(h:x*z<=y*z):x<=y:=by
 intro k;have k':y<x:=k;have:=mul_pos (sub_pos.2 k') hz;rw[sub_mul]at this;exact lt_irrefl _ (lt_of_lt_of_le (sub_pos.1 this) h)
theorem le_of_mul_neg(hz:z<0)(h:y*z<=x*z):x<=y:=by
 refine le_of_mul_pos (z:=-z) (neg_pos.2 hz) ?_;rw[mul_neg,mul_neg];exact neg_le_neg h
end Re
open Re
theorem anV{v:Dy}:In (rat (rv v)) (atB v):=⟨le_refl _,le_refl _⟩
theorem anC{b:Bl}(h:In x b):In (-x) (notB b):=by
 unfold In notB;rw[nG,nG,rat_neg,rat_neg];exact⟨neg_le_neg h.2,neg_le_neg h.1⟩
theorem ajU{a b:Bl}(hP:1<=P)(h:In x a)(k:In y b):In (x+y) (addB a b P):=by
 unfold In addB;have h1:=(jA (addD a.lo b.lo) (-1) hP).1 (by decide);have h2:=(jA (addD a.hi b.hi) 1 hP).2.1 (by decide);rw[zN]at h1 h2;have h1:=rat_le.2 h1;have h2:=rat_le.2 h2;rw[rat_add]at h1 h2;exact⟨le_trans h1 (add_le_add h.1 k.1),le_trans (add_le_add h.2 k.2) h2⟩
theorem anD{a b:Bl}(hP:1<=P)(h:In x a)(k:In y b):In (x*y) (mulB a b P):=by
 unfold In mulB;have h1:=(jA (amD a b) (-1) hP).1 (by decide);have h2:=(jA (amE a b) 1 hP).2.1 (by decide);obtain⟨l1,l2,l3,l4,-⟩:=pX (mulD a.hi b.hi) (mulD a.hi b.lo) (mulD a.lo b.hi) (mulD a.lo b.lo);obtain⟨m1,m2,m3,m4,-⟩:=pY (mulD a.hi b.hi) (mulD a.hi b.lo) (mulD a.lo b.hi) (mulD a.lo b.lo);have h1:=rat_le.2 h1;have h2:=rat_le.2 h2;have l1:=rat_le.2 l1;have l2:=rat_le.2 l2;have l3:=rat_le.2 l3;have l4:=rat_le.2 l4;have m1:=rat_le.2 m1;have m2:=rat_le.2 m2;have m3:=rat_le.2 m3;have m4:=rat_le.2 m4;rw[zO,rat_mul]at l1 l2 l3 l4 m1 m2 m3 m4;refine⟨le_trans h1 (lin_ge h.1 h.2 (lin_ge' k.1 k.2 l4 l3) (lin_ge' k.1 k.2 l2 l1)),le_trans (lin_le h.1 h.2 (lin_le' k.1 k.2 m4 m3) (lin_le' k.1 k.2 m2 m1)) h2⟩
theorem jG{b:Bl}(h:b.lo.man.sign=b.hi.man.sign/\b.lo.man.sign≠0):(0<b.lo.man/\0<b.hi.man)\/(b.lo.man<0/\b.hi.man<0):=by
 obtain⟨h1,h2⟩:=h;rcases Int.lt_trichotomy b.lo.man 0 with g|g|g
 . right;refine⟨g,?_⟩
   rw[bc5.2 g]at h1;exact bc5.1 h1.symm
 . rw[g]at h2;exact absurd rfl h2
 . left;refine⟨g,?_⟩
   rw[bc7.2 g]at h1;exact bc7.1 h1.symm
theorem sU(x y:Rat)(h:y≠0):∃t:Rat,t*y=x:=⟨x/y,by grind⟩
theorem anE{a b r:Bl}(hP:1<=P)(h:In x a)(k:In y b)(hz:z*y=x)(hr:quoB a b P=some r):In z r:=by
 unfold quoB at hr
 split at hr
 . rename_i hs
   injection hr with hr;subst hr;obtain⟨l1,l2,l3,l4,-⟩:=pX (quoD a.hi b.hi P (-1)) (quoD a.hi b.lo P (-1)) (quoD a.lo b.hi P (-1)) (quoD a.lo b.lo P (-1));obtain⟨m1,m2,m3,m4,-⟩:=pY (quoD a.hi b.hi P 1) (quoD a.hi b.lo P 1) (quoD a.lo b.hi P 1) (quoD a.lo b.lo P 1);have n1:b.lo.man≠0:=by rcases jG hs with g|g<;>omega
   have n2:b.hi.man≠0:=by rcases jG hs with g|g<;>omega
   have v1:rv b.lo≠0:=fun g=>n1 ((aX _).2.2.1 g);have v2:rv b.hi≠0:=fun g=>n2 ((aX _).2.2.1 g);obtain⟨t1,e1⟩:=sU (rv a.hi) (rv b.hi) v2;obtain⟨t2,e2⟩:=sU (rv a.hi) (rv b.lo) v1;obtain⟨t3,e3⟩:=sU (rv a.lo) (rv b.hi) v2;obtain⟨t4,e4⟩:=sU (rv a.lo) (rv b.lo) v1;have d1:=(jS a.hi b.hi (-1) hP n2 e1).1 (by decide);have d2:=(jS a.hi b.lo (-1) hP n1 e2).1 (by decide);have d3:=(jS a.lo b.hi (-1) hP n2 e3).1 (by decide);have d4:=(jS a.lo b.lo (-1) hP n1 e4).1 (by decide);have u1:=(jS a.hi b.hi 1 hP n2 e1).2.1 (by decide);have u2:=(jS a.hi b.lo 1 hP n1 e2).2.1 (by decide);have u3:=(jS a.lo b.hi 1 hP n2 e3).2.1 (by decide);have u4:=(jS a.lo b.lo 1 hP n1 e4).2.1 (by decide);show rat (rv (jT a b P))<=z/\z<=rat (rv (jU a b P));have hL:rv (jT a b P)<=t1/\rv (jT a b P)<=t2/\rv (jT a b P)<=t3/\rv (jT a b P)<=t4:=
    ⟨bc4 l1 d1,bc4 l2 d2,bc4 l3 d3,bc4 l4 d4⟩
   have hH:t1<=rv (jU a b P)/\t2<=rv (jU a b P)/\t3<=rv (jU a b P)/\t4<=rv (jU a b P):=
    ⟨bc4 u1 m1,bc4 u2 m2,bc4 u3 m3,bc4 u4 m4⟩
   generalize rv (jT a b P)=L at*;generalize rv (jU a b P)=H at*;have key:∀u v:Rat,∀c:Rat,u<=v->(0<=c->u*c<=v*c)/\(c<=0->v*c<=u*c):=fun u v c huv=>by
    constructor
    . intro hc;have:=bc8 (a:=v-u) (b:=c) (by grind) hc;grind
    . intro hc;have:=bc8 (a:=v-u) (b:=-c) (by grind) (by grind);grind
   rcases jG hs with ⟨g1,g2⟩|⟨g1,g2⟩
   . have p1:0<rv b.lo:=(aX _).1.2 g1
     have p2':0<rv b.hi:=(aX _).1.2 g2;have hy:0<y:=lt_of_lt_of_le (by rw[zero_rat,rat_lt];exact p1) k.1;constructor
     . refine le_of_mul_pos hy ?_
       rw[hz];refine le_trans ?_ h.1;refine lin_le' k.1 k.2 ?_ ?_<;>rw[<-rat_mul,rat_le]
       . rw[<-e4];exact(key _ _ _ hL.2.2.2).1 (by grind)
       . rw[<-e3];exact(key _ _ _ hL.2.2.1).1 (by grind)
     . refine le_of_mul_pos hy ?_
       rw[hz];refine le_trans h.2 ?_;refine lin_ge' k.1 k.2 ?_ ?_<;>rw[<-rat_mul,rat_le]
       . rw[<-e2];exact(key _ _ _ hH.2.1).1 (by grind)
       . rw[<-e1];exact(key _ _ _ hH.1).1 (by grind)
   . have p1:rv b.lo<0:=(aX _).2.1.2 g1
     have p2':rv b.hi<0:=(aX _).2.1.2 g2;have hy:y<0:=lt_of_le_of_lt k.2 (by rw[zero_rat,rat_lt];exact p2');constructor
     . refine le_of_mul_neg hy ?_
       rw[hz];refine le_trans h.2 ?_;refine lin_ge' k.1 k.2 ?_ ?_<;>rw[<-rat_mul,rat_le]
       . rw[<-e2];exact(key _ _ _ hL.2.1).2 (by grind)
       . rw[<-e1];exact(key _ _ _ hL.1).2 (by grind)
     . refine le_of_mul_neg hy ?_
       rw[hz];refine le_trans ?_ h.1;refine lin_le' k.1 k.2 ?_ ?_<;>rw[<-rat_mul,rat_le]
       . rw[<-e4];exact(key _ _ _ hH.2.2.2).2 (by grind)
       . rw[<-e3];exact(key _ _ _ hH.2.2.1).2 (by grind)
 . cases hr
theorem kM(a:Bl):0<=(aS a).man/\rv a.lo<=rv (aS a)/\(rv (aS a)=rv a.lo\/rv (aS a)=0):=by
 unfold aS
 split
 . rename_i h
   refine⟨Int.le_refl _,?_,Or.inr (lF 0)⟩;have:=(aX a.lo).2.1.2 h;rw[lF];grind
 . rename_i h;exact⟨by omega,bc6,Or.inl rfl⟩
theorem aeK{s:Re}{a:Bl}(hP:1<=P)(h:In x a)(hs:0<=s)(hx:s*s=x):∃r,nO a P=some r/\In s r:=by
 have hx0:0<=x:=by rw[<-hx];exact sq_nonneg s
 have hhi:0<=rv a.hi:=by have:=le_trans hx0 h.2;rw[zero_rat,rat_le]at this;exact this
 have hm:0<=a.hi.man:=by
  rcases Int.lt_or_le a.hi.man 0 with g|g
  . have:=(aX a.hi).2.1.2 g;grind
  . exact g
 unfold nO;rw[if_neg (by omega)];refine⟨_,rfl,?_,?_⟩
 . obtain⟨k1,k2,k3⟩:=kM a
   obtain⟨q,q',q1,q2,q3,q4,q5,q6,-⟩:=pW (aS a) (-1) hP k1;show rat (rv (aL (aS a) P (-1)))<=s;refine le_trans (rat_le.2 (q6 (by decide))) (le_of_sq hs ?_);rw[hx,<-rat_mul];refine le_trans (rat_le.2 q3) ?_;rcases k3 with k3|k3<;>rw[k3]
   . exact h.1
   . exact hx0
 . obtain⟨q,q',q1,q2,q3,q4,q5,-,q7,-⟩:=pW a.hi 1 hP hm
   show s<=rat (rv (aL a.hi P 1));refine le_trans (le_of_sq (y:=rat q') ?_ ?_) (rat_le.2 (q7 (by decide)))
   . rw[zero_rat,rat_le];grind
   . rw[hx,<-rat_mul];exact le_trans h.2 (rat_le.2 q4)
end
end Go.Proofs.YtkpodipoegbclaaGreatDoor
