/- A part of the proof: contracts of functions and plain laws (DyS, DyT, DyU, BlR). -/
import Derived.Test.YtjdgaogkioabeaaGreatDoorM21
set_option linter.unusedVariables false
set_option linter.unusedSimpArgs false
set_option maxHeartbeats 25600000
set_option maxRecDepth 100000
namespace Go.Proofs.YtjdgaogkioabeaaGreatDoor
open Bool renaming false_eq_true->bgP,toNat->bg9,and_eq_true->bhA,or_eq_true->bhB
open Classical renaming byContradiction->bgT
open Int renaming toNat_natCast->bgS,sign_eq_neg_one_iff_neg->bgW,lt_or_le->bgY
open Nat renaming two_pow_pos->bgH,pow_add->bgI,le_trans->bgJ,mul_le_mul_left->bgM,lt_of_lt_of_le->bgN,pow_le_pow_right->bgO,div_lt_iff_lt_mul->bgQ,le_of_eq->bgR,le_div_iff_mul_le->bgU,mul_assoc->bgV,div_add_mod->bgZ,mul_comm->bg0,pow_succ->bg1,le_of_lt->bg2,mul_le_mul_right->bg3,mul_lt_mul_right->bg4,eq_zero_or_pos->bg7,mul_le_mul->bhD,succ_mul->bhE,lt_or_ge->bhF,mul_pos->bhG,mod_lt->bhH
open Rat renaming mul_nonneg->bgE,natCast_le_natCast->bgF,natCast_mul->bgG,le_refl->bgK,natCast_add->bgL,mul_eq_zero->bgX,intCast_natCast->bg5,mul_pos->bg6,natCast_nonneg->bg8,natCast_pos->bhC
variable{a:Dy}{P e x:Int}{m:Nat}{t z:Rat}
def outw(neg:Bool)(dir:Int):Bool:=if 0<=dir then !neg else neg
def aU(a:Dy)(P dir:Int):Dy:=
 if (bits (mkDy a.man a.exp).man.natAbs:Int)<=P then mkDy a.man a.exp else
  mkDy (sg (decide ((mkDy a.man a.exp).man<0)) ((mkDy a.man a.exp).man.natAbs/2^((bits (mkDy a.man a.exp).man.natAbs:Int)-P).toNat+(outw (decide ((mkDy a.man a.exp).man<0)) dir).toNat))
   ((mkDy a.man a.exp).exp+((bits (mkDy a.man a.exp).man.natAbs:Int)-P))
def aZ(neg:Bool)(m:Nat)(exp:Int)(more:Bool)(P dir:Int):Dy:=
 aU (mkDy (sg neg (if more then 2*m+1 else m)) (if more then exp-1 else exp)) P dir
def sgq(neg:Bool)(z:Rat):Rat:=if neg then-z else z
theorem aa9(neg:Bool)(n:Nat):((sg neg n:Int):Rat)=sgq neg n:=by
 unfold sg sgq;cases neg
 . simp only[bgP,if_false];exact bg5 n
 . simp only[if_true];rw[Rat.intCast_neg,bg5]
theorem agP{q:Nat}{p:Rat}(hp:0<p)(h1:(q:Rat)*p<=z)(h2:z<=((q:Rat)+1)*p)(neg:Bool)(dir:Int):
 (dir<0->sgq neg (q+(outw neg dir).toNat:Nat)*p<=sgq neg z)/\(0<=dir->sgq neg z<=sgq neg (q+(outw neg dir).toNat:Nat)*p)/\
 sgq neg (q+(outw neg dir).toNat:Nat)*p-sgq neg z<=p/\sgq neg z-sgq neg (q+(outw neg dir).toNat:Nat)*p<=p:=by
 have e1:((q+1:Nat):Rat)=(q:Rat)+1:=by rw[bgL];rfl
 have e2:((q+0:Nat):Rat)=(q:Rat):=rfl;rcases bgY dir 0 with h|h
 . cases neg
   . have ho:outw false dir=false:=by unfold outw;rw[if_neg (by omega)]
     rw[ho];unfold sgq;simp only[bg9,cond_false,e2,bgP,if_false];refine⟨fun _=>h1,fun h'=>by omega,?_,?_⟩<;>grind
   . have ho:outw true dir=true:=by unfold outw;rw[if_neg (by omega)]
     rw[ho];unfold sgq;simp only[bg9,cond_true,e1,if_true];refine⟨fun _=> ?_,fun h'=>by omega,?_,?_⟩<;>grind
 . cases neg
   . have ho:outw false dir=true:=by unfold outw;rw[if_pos h];rfl
     rw[ho];unfold sgq;simp only[bg9,cond_true,e1,bgP,if_false];refine⟨fun h'=>by omega,fun _=>h2,?_,?_⟩<;>grind
   . have ho:outw true dir=false:=by unfold outw;rw[if_pos h];rfl
     rw[ho];unfold sgq;simp only[bg9,cond_false,e2,if_true];refine⟨fun h'=>by omega,fun _=> ?_,?_,?_⟩<;>grind
theorem abA(hx:x≠0)(e:Int):topD (mkDy x e)=bits x.natAbs+e:=by
 rcases jE x e with ⟨h1,h2⟩|⟨h1,h2,h3,h4⟩
 . exact absurd h2 hx
 . unfold topD
   rw[if_neg h2];generalize mkDy x e=d at*;have:x.natAbs=d.man.natAbs*2^(d.exp-e).toNat:=by
    conv=>lhs;rw[h4]
    rw[Int.natAbs_mul,Int.natAbs_natCast]
   rw[this,kR (by omega)];omega
theorem ac8{P:Nat}(e:Int)(hP:1<=P)(hx:x.natAbs<=2^P):bits (mkDy x e).man.natAbs<=P:=by
 rcases Nat.lt_or_eq_of_le hx with h|h
 . exact bgJ (qX x e) ((aJ _ _).2 h)
 . unfold mkDy
   have h0:x≠0:=by have:=bgH P;omega
   rw[if_neg h0,h];have:ctz (2^P)=P:=by have:=aaI P 0;simpa using this
   rw[this,Nat.div_self (bgH P),bR];have:bits 1<=P:=(aJ 1 P).2 (bgN (by decide) (bgO (n:=2) (by omega) hP));exact this
theorem pO(m n:Nat):(m/2^n)*2^n<=m/\m<(m/2^n+1)*2^n:=by
 have h1:=bgZ m (2^n);have h2:=bhH m (bgH n);rw[bg0]at h1;rw[bhE];omega
theorem amI{n P:Nat}(h:bits m=n+P):m/2^n<2^P:=by
 rw[bgQ (bgH n),<-bgI];refine(aJ m _).1 (by omega)
theorem xG(dir:Int)(hP:1<=P):Canon (aU a P dir)/\(bits (aU a P dir).man.natAbs:Int)<=P/\
 ((aU a P dir).man≠0->(mkDy a.man a.exp).exp<=(aU a P dir).exp/\topD (aU a P dir)<=topD (mkDy a.man a.exp)+1):=by
 unfold aU
 split
 . rename_i h
   exact⟨Canon.mk _ _,h,fun _=>⟨Int.le_refl _,by omega⟩⟩
 . rename_i h
   generalize hd:mkDy a.man a.exp=d at*;have hm0:d.man≠0:=by
    intro h0;rw[h0]at h;apply h;show((bits 0:Nat):Int)<=P;have:bits 0=0:=rfl;omega
   obtain⟨n,hn⟩:∃n:Nat,(bits d.man.natAbs:Int)-P=n:=⟨((bits d.man.natAbs:Int)-P).toNat,by omega⟩;obtain⟨Q,hQ⟩:∃Q:Nat,P=Q:=⟨P.toNat,by omega⟩;subst hQ;rw[hn,bgS];have hb:bits d.man.natAbs=n+Q:=by omega
   have hq:=amI hb;generalize hx:sg (decide (d.man<0)) (d.man.natAbs/2^n+(outw (decide (d.man<0)) dir).toNat)=x;have hxn:x.natAbs<=2^Q:=by
    rw[<-hx,bR];have:=Bool.toNat_le (outw (decide (d.man<0)) dir);omega
   refine⟨Canon.mk _ _,by have:=ac8 (e:=d.exp+(n:Int)) (by omega) hxn;omega,fun hne=> ?_⟩;rcases jE x (d.exp+n)with ⟨h1,h2⟩|⟨h1,h2,h3,h4⟩
   . rw[h1]at hne;exact absurd rfl hne
   . refine⟨by omega,?_⟩
     rw[abA h1];have h5:topD d=bits d.man.natAbs+d.exp:=by unfold topD;rw[if_neg hm0]
     rw[h5,hb];have:bits x.natAbs<=Q+1:=(aJ _ _).2 (by rw[bg1];have:=bgH Q;omega);omega
theorem jT(a:Dy)(dir:Int)(hP:1<=P):(dir<0->rv (aU a P dir)<=rv a)/\(0<=dir->rv a<=rv (aU a P dir))/\
 rv (aU a P dir)-rv a<=p2 (topD (mkDy a.man a.exp)-P)/\rv a-rv (aU a P dir)<=p2 (topD (mkDy a.man a.exp)-P):=by
 have hv:rv (mkDy a.man a.exp)=rv a:=lS _ _;rw[<-hv];unfold aU
 split
 . have:=bX (topD (mkDy a.man a.exp)-P)
   exact⟨fun _=>bgK,fun _=>bgK,by grind,by grind⟩
 . rename_i h
   generalize mkDy a.man a.exp=d at*;clear hv;have hm0:d.man≠0:=by
    intro h0;rw[h0]at h;apply h;show((bits 0:Nat):Int)<=P;have:bits 0=0:=rfl;omega
   obtain⟨n,hn⟩:∃n:Nat,(bits d.man.natAbs:Int)-P=n:=⟨((bits d.man.natAbs:Int)-P).toNat,by omega⟩;rw[hn,bgS,lS,aa9];have hb:=pO d.man.natAbs n;have hp:=bX (d.exp+n);have hz:rv d=sgq (decide (d.man<0)) ((d.man.natAbs:Rat)*p2 d.exp):=by
    unfold rv sgq;rcases jK d.man with ⟨h4,h5⟩|⟨h4,h5⟩<;>rw[h4]
    . rw[if_neg (by simp;omega)]
    . rw[if_pos (by simpa using h5)];grind
   have e1:p2 (d.exp+n)=((2^n:Nat):Rat)*p2 d.exp:=by rw[dH,gB];grind
   have c1:=bgF.2 hb.1;have c2:=bgF.2 (bg2 hb.2);rw[bgG]at c1 c2;have hpe:=bX d.exp;have k:=agP (q:=d.man.natAbs/2^n) (p:=p2 (d.exp+n)) (z:=(d.man.natAbs:Rat)*p2 d.exp) hp (by
    rw[e1];have:=bgE (a:=(d.man.natAbs:Rat)-((d.man.natAbs/2^n:Nat):Rat)*((2^n:Nat):Rat)) (b:=p2 d.exp) (by grind) (by grind);grind) (by
    rw[e1];rw[bgL]at c2;have:=bgE (a:=(((d.man.natAbs/2^n:Nat):Rat)+((1:Nat):Rat))*((2^n:Nat):Rat)-(d.man.natAbs:Rat)) (b:=p2 d.exp) (by grind) (by grind);have e2:((1:Nat):Rat)=1:=rfl;grind) (decide (d.man<0)) dir
   rw[<-hz]at k;have e3:topD d-P=d.exp+n:=by unfold topD;rw[if_neg hm0];omega
   rw[e3];exact k
theorem ac9(h:m≠0):bits (2*m+1)=bits m+1:=by
 have h1:=yS (2*m+1) (by omega);rw[h1,show(2*m+1)/2=m from by omega];omega
theorem adA(neg:Bool)(m:Nat)(e:Int):mkDy (sg neg (2*m+1)) e=⟨sg neg (2*m+1),e⟩:=by
 unfold mkDy;have h0:sg neg (2*m+1)≠0:=by cases neg<;>simp[sg]<;>omega
 have hc:ctz (sg neg (2*m+1)).natAbs=0:=by
  rw[bR];have:=aaI 0 m;simpa using this
 have hn:decide (sg neg (2*m+1)<0)=neg:=by
  rw[vV];cases neg<;>simp
 rw[if_neg h0,hc,hn,bR];simp
theorem nN{neg:Bool}{more:Bool}(dir:Int)(hP:1<=P)(h1:(m:Rat)*p2 e<=z)(h2:z<=((m:Rat)+1)*p2 e)(h3:more=false->z=(m:Rat)*p2 e)(h4:more=true->P+2<=bits m):
 (dir<0->rv (aZ neg m e more P dir)<=sgq neg z)/\(0<=dir->sgq neg z<=rv (aZ neg m e more P dir))/\
 rv (aZ neg m e more P dir)-sgq neg z<=p2 (bits m+e-P)/\sgq neg z-rv (aZ neg m e more P dir)<=p2 (bits m+e-P):=by
 unfold aZ
 cases more
 . simp only[bgP,if_false]
   have hz:=h3 rfl;have hr:rv (mkDy (sg neg m) e)=sgq neg z:=by rw[lS,aa9,hz];unfold sgq;cases neg<;>grind
   have k:=jT (mkDy (sg neg m) e) (P:=P) dir hP;rw[hr,oL]at k;by_cases hm:m=0
   . subst hm
     have e0:mkDy (sg neg 0) e=⟨0,0⟩:=by cases neg<;>exact bD e
     have e1:aU (mkDy (sg neg 0) e) P dir=⟨0,0⟩:=by
      rw[e0];unfold aU;rw[bD,if_pos (by show((bits 0:Nat):Int)<=P;have:bits 0=0:=rfl;omega)]
     rw[e1,mO]at k|-;have hz0:z=0:=by rw[hz];simp
     have:=bX ((bits 0:Int)+e-P);rw[hz0]at k|-;have:sgq neg 0=0:=by unfold sgq;cases neg<;>simp
     rw[this]at k|-;exact⟨k.1,k.2.1,by grind,by grind⟩
   . have ht:topD (mkDy (sg neg m) e)=bits m+e:=by
      rw[abA (by cases neg<;>simp[sg]<;>omega),bR]
     rw[ht]at k;exact k
 . simp only[if_true]
   have hb:=h4 rfl;have hm:m≠0:=by intro h;rw[h]at hb;have:bits 0=0:=rfl;omega
   unfold aU;rw[adA,adA,bR,ac9 hm];simp only;obtain⟨n,hn⟩:∃n:Nat,((bits m+1:Nat):Int)-P=n:=⟨(((bits m+1:Nat):Int)-P).toNat,by omega⟩;have hng:decide (sg neg (2*m+1)<0)=neg:=by
    rw[vV];cases neg<;>simp
   rw[if_neg (by omega),hn,bgS,hng,lS,aa9];obtain⟨j,hj⟩:∃j,n=j+1:=⟨n-1,by omega⟩;have hd:=pO (2*m+1) n;rw[hj,bg1]at hd;have hd1:((2*m+1)/(2^j*2))*2^j<=m:=by
    have:=hd.1;rw[<-bgV]at this;omega
   have hd2:m+1<=((2*m+1)/(2^j*2)+1)*2^j:=by
    have:=hd.2;rw[<-bgV]at this;omega
   rw[hj,bg1];have c1:=bgF.2 hd1;have c2:=bgF.2 hd2;rw[bgG]at c1 c2;rw[bgL,bgL]at c2;have e5:((1:Nat):Rat)=1:=rfl;rw[e5]at c2;have e1:p2 (e-1+((j+1:Nat):Int))=((2^j:Nat):Rat)*p2 e:=by
    rw[show e-1+((j+1:Nat):Int)=(j:Int)+e from by omega,dH,gB]
   have hpe:=bX e;have k:=agP (q:=(2*m+1)/(2^j*2)) (p:=p2 (e-1+((j+1:Nat):Int))) (z:=z) (bX _) (by
    rw[e1];have:=bgE (a:=(m:Rat)-((((2*m+1)/(2^j*2)):Nat):Rat)*((2^j:Nat):Rat)) (b:=p2 e) (by grind) (by grind);grind) (by
    rw[e1];have:=bgE (a:=(((((2*m+1)/(2^j*2)):Nat):Rat)+1)*((2^j:Nat):Rat)-((m:Rat)+1)) (b:=p2 e) (by grind) (by grind);grind) neg dir
   have e3:(bits m:Int)+e-P=e-1+((j+1:Nat):Int):=by omega
   rw[e3];exact k
theorem rC{neg:Bool}{more:Bool}(dir:Int)(hP:1<=P):Canon (aZ neg m e more P dir)/\(bits (aZ neg m e more P dir).man.natAbs:Int)<=P/\
 ((aZ neg m e more P dir).man≠0->e-1<=(aZ neg m e more P dir).exp/\topD (aZ neg m e more P dir)<=bits m+e+1):=by
 unfold aZ;obtain⟨k1,k2,k3⟩:=xG (a:=mkDy (sg neg (if more then 2*m+1 else m)) (if more then e-1 else e)) (P:=P) dir hP;refine⟨k1,k2,fun h=> ?_⟩;obtain⟨j1,j2⟩:=k3 h;rw[oL]at j1 j2;rcases jE (sg neg (if more then 2*m+1 else m)) (if more then e-1 else e)with ⟨h1,h2⟩|⟨h1,h2,h3,h4⟩
 . exfalso;apply h
   rw[h1];unfold aU;rw[bD,if_pos (by show((bits 0:Nat):Int)<=P;have:bits 0=0:=rfl;omega)]
 . have ht:=abA h1 (if more then e-1 else e)
   rw[ht,bR]at j2
   cases more
   . simp only[bgP,if_false]at*
     exact⟨by omega,by omega⟩
   . simp only[if_true]at*
     by_cases hm:m=0
     . subst hm
       have:bits (2*0+1)=1:=by decide
       have:bits 0=0:=rfl;exact⟨by omega,by omega⟩
     . rw[ac9 hm]at j2
       exact⟨by omega,by omega⟩
def quoA(a b:Nat)(P:Int):Int:=P+2-bits a+bits b
def quoX(a b:Nat)(P:Int):Nat:=if 0<=quoA a b P then a*2^(quoA a b P).toNat else a/2^(-quoA a b P).toNat
def quoM(a b:Nat)(P:Int):Bool:=(decide (quoA a b P<0)&&decide ((ctz a:Int)< -quoA a b P))||decide (0<bits (quoX a b P%b))
def quoD(x y:Dy)(P dir:Int):Dy:=if x.man=0 then⟨0,0⟩else
 aZ (decide (x.man<0) != decide (y.man<0)) (quoX x.man.natAbs y.man.natAbs P/y.man.natAbs) (x.exp-y.exp-quoA x.man.natAbs y.man.natAbs P) (quoM x.man.natAbs y.man.natAbs P) P dir
theorem aoO{A B:Nat}(hB:0<B):((A/B:Nat):Rat)*(B:Rat)<=A/\(A:Rat)<=(((A/B:Nat):Rat)+1)*(B:Rat)/\(A%B=0->(A:Rat)=((A/B:Nat):Rat)*(B:Rat)):=by
 have h1:=bgZ A B;have h2:=bhH A hB;have e5:((1:Nat):Rat)=1:=rfl;refine⟨?_,?_,fun h=> ?_⟩
 . rw[<-bgG];exact bgF.2 (by rw[bg0]at h1;omega)
 . rw[<-e5,<-bgL,<-bgG];exact bgF.2 (by rw[bg0]at h1;rw[bhE];omega)
 . rw[<-bgG];congr 1;rw[bg0]at h1;omega
theorem agQ{a k:Nat}(h0:a≠0):k<=ctz a↔a%2^k=0:=by
 obtain⟨j,m,e,hj⟩:=rZ a h0;rw[hj];constructor
 . intro h
   obtain⟨d,rfl⟩:∃d,j=k+d:=⟨j-k,by omega⟩;rw[e,bgI,bgV];exact Nat.mul_mod_right _ _
 . intro h
   rcases bhF j k with h1|h1
   . exfalso
     obtain⟨d,rfl⟩:∃d,k=j+1+d:=⟨k-j-1,by omega⟩;obtain⟨c,hc⟩:=Nat.dvd_of_mod_eq_zero h;rw[e,bgI,bg1,bgV,bgV]at hc;have:=Nat.eq_of_mul_eq_mul_left (bgH j) hc;omega
   . exact h1
theorem adB{a b:Nat}(ha:a≠0)(hb:b≠0)(hP:1<=P):∃A B:Nat,0<B/\quoX a b P/b=A/B/\(quoM a b P=true↔A%B≠0)/\(A:Rat)*(b:Rat)=(a:Rat)*(B:Rat)*p2 (quoA a b P)/\P+2<=bits (A/B)/\(bits (A/B):Int)<=P+3:=by
 have hba:=(not_congr (bW a)).2 ha;have hbb:=(not_congr (bW b)).2 hb;have a1:=(aJ a (bits a)).1 nlr;have a2:2^(bits a-1)<=a:=by
  have:¬bits a<=bits a-1:=by omega
  rw[aJ]at this;omega
 have b1:=(aJ b (bits b)).1 nlr;have b2:2^(bits b-1)<=b:=by
  have:¬bits b<=bits b-1:=by omega
  rw[aJ]at this;omega
 obtain⟨Q,hQ⟩:∃Q:Nat,P=Q:=⟨P.toNat,by omega⟩;subst hQ;have hn:quoA a b Q=(Q:Int)+2-bits a+bits b:=rfl;unfold quoX quoM;unfold quoX;rcases bgY (quoA a b Q) 0 with h|h
 . obtain⟨k,hk⟩:∃k:Nat,quoA a b Q=-(k:Int):=⟨(-quoA a b Q).toNat,by omega⟩
   rw[if_neg (by omega),hk,show(-(-(k:Int))).toNat=k from by omega];have hpb:0<2^k*b:=bhG (bgH k) (by omega);refine⟨a,2^k*b,hpb,Nat.div_div_eq_div_mul _ _ _,?_,?_,?_,?_⟩
   . have e1:=Nat.mod_mul (x:=a) (a:=2^k) (b:=b)
     have e2:=agQ (k:=k) ha;have e3:=bW (a/2^k%b);have hp:=bgH k;rw[e1];simp only[bhB,bhA,decide_eq_true_eq];constructor
     . rintro(⟨g1,g2⟩|g)
       . have:¬k<=ctz a:=by omega
         rw[e2]at this;omega
       . have g3:a/2^k%b≠0:=fun g3=>by have:=e3.2 g3;omega
         have:=bhG hp (show 0<a/2^k%b by omega);omega
     . intro g
       by_cases g1:a%2^k=0
       . right
         rcases bg7 (bits (a/2^k%b))with g2|g2
         . rw[e3.1 g2,g1]at g;simp at g
         . exact g2
       . left
         have:¬k<=ctz a:=by rw[e2];exact g1
         omega
   . have e1:=qZ (-(k:Int)) k (by omega)
     rw[show(-(k:Int)+(k:Int)).toNat=0 from by omega]at e1;rw[bgG];have e4:((2^0:Nat):Rat)=1:=rfl;rw[e4]at e1;have:(a:Rat)*(((2^k:Nat):Rat)*(b:Rat))*p2 (-(k:Int))=(a:Rat)*(b:Rat)*(p2 (-(k:Int))*((2^k:Nat):Rat)):=by grind
     rw[this,e1];grind
   . have:2^(Q+1)<=a/(2^k*b):=by
      rw[bgU hpb];refine bgJ (bgM _ (bgM _ (bg2 b1))) (bgJ (bgR ?_) a2);rw[<-bgI,<-bgI];congr 1;omega
     have h5:¬bits (a/(2^k*b))<=Q+1:=by rw[aJ];omega
     omega
   . have:a/(2^k*b)<2^(Q+3):=by
      rw[bgQ hpb];refine bgN a1 (bgJ (bgR ?_) (bgM _ (bgM _ b2)));rw[<-bgI,<-bgI];congr 1;omega
     have h5:=(aJ _ _).2 this;omega
 . obtain⟨k,hk⟩:∃k:Nat,quoA a b Q=(k:Int):=⟨(quoA a b Q).toNat,by omega⟩
   rw[if_pos h,hk,bgS];refine⟨a*2^k,b,by omega,rfl,?_,?_,?_,?_⟩
   . have e3:=bW (a*2^k%b)
     simp only[bhB,bhA,decide_eq_true_eq];constructor
     . rintro(⟨g1,g2⟩|g)
       . omega
       . intro g3;have:=e3.2 g3;omega
     . intro g;right
       rcases bg7 (bits (a*2^k%b))with g2|g2
       . exact absurd (e3.1 g2) g
       . exact g2
   . rw[gB,bgG];grind
   . have:2^(Q+1)<=a*2^k/b:=by
      rw[bgU (by omega)];refine bgJ (bgM _ (bg2 b1)) (bgJ (bgR ?_) (bg3 _ a2));rw[<-bgI,<-bgI];congr 1;omega
     have h5:¬bits (a*2^k/b)<=Q+1:=by rw[aJ];omega
     omega
   . have:a*2^k/b<2^(Q+3):=by
      rw[bgQ (by omega)];refine bgN ((bg4 (bgH k)).2 a1) (bgJ (bgR ?_) (bgM _ b2));rw[<-bgI,<-bgI];congr 1;omega
     have h5:=(aJ _ _).2 this;omega
def Err(P:Int)(r t:Rat):Prop:=∀b:Rat,-b<=t->t<=b->r-t<=2*b*p2 (-P)/\t-r<=2*b*p2 (-P)
theorem sF{T:Int}{r:Rat}(h1:r-t<=p2 (T-P))(h2:t-r<=p2 (T-P))(hz:p2 (T-1)<=z)(ht:t=z\/t=-z):Err P r t:=by
 intro b hb1 hb2;have h3:z<=b:=by rcases ht with h|h<;>grind
 have e:p2 (T-P)=2*p2 (T-1)*p2 (-P):=by
  rw[show T-P=(T-1+1)+-P from by omega,dH,jF]
 have hp:=bX (-P);have:=bgE (a:=2*(b-p2 (T-1))) (b:=p2 (-P)) (by grind) (by grind);constructor<;>grind
theorem rD:Err P 0 0:=by
 intro b h1 h2;have:=bgE (a:=2*b) (b:=p2 (-P)) (by grind) (by have:=bX (-P);grind);constructor<;>grind
theorem oO(a:Dy)(dir:Int)(hP:1<=P):Err P (rv (aU a P dir)) (rv a):=by
 obtain⟨-,-,h1,h2⟩:=jT a dir hP;by_cases h0:a.man=0
 . have e0:rv a=0:=(bH a).2.2.2 h0
   have e1:aU a P dir=⟨0,0⟩:=by
    unfold aU;rw[h0,bD,if_pos (by show((bits 0:Nat):Int)<=P;have:bits 0=0:=rfl;omega)]
   rw[e0,e1,mO];exact rD
 . have hv:rv (mkDy a.man a.exp)=rv a:=lS _ _
   rcases sD (mkDy a.man a.exp) (by rcases jE a.man a.exp with ⟨g1,g2⟩|⟨g1,g2,-⟩<;>first|exact absurd g2 h0|exact g2)with h3|h3<;>rw[hv]at h3
   . exact sF h1 h2 h3 (Or.inl rfl)
   . exact sF h1 h2 (z:=-rv a) (by grind) (Or.inr (by grind))
theorem xH(e:Int)(h:0<=x):0<=(mkDy x e).man:=by
 rcases bgY (mkDy x e).man 0 with g|g
 . have h1:=aoL x e
   rw[bgW.2 g]at h1;have:=bgW.1 h1.symm;omega
 . exact g
theorem abB(dir:Int)(h:0<=a.man):0<=rv (aU a P dir):=by
 have hm:=xH a.exp h;unfold aU
 split
 . unfold rv
   exact bgE (Rat.intCast_nonneg.2 hm) (by have:=bX (mkDy a.man a.exp).exp;grind)
 . rw[lS,show decide ((mkDy a.man a.exp).man<0)=false from by simpa using hm]
   refine bgE ?_ (by have:=bX ((mkDy a.man a.exp).exp+((bits (mkDy a.man a.exp).man.natAbs:Int)-P));grind);rw[aa9];exact bg8
theorem amJ(d:Dy):rv d=sgq (decide (d.man<0)) ((d.man.natAbs:Rat)*p2 d.exp):=by
 unfold rv sgq;rcases jK d.man with ⟨h4,h5⟩|⟨h4,h5⟩<;>rw[h4]
 . rw[if_neg (by simp;omega)]
 . rw[if_pos (by simpa using h5)];grind
theorem aoP(b c:Bool)(x y:Rat):sgq (b != c) x*sgq c y=sgq b (x*y):=by cases b<;>cases c<;>simp[sgq]<;>grind
theorem kS(x y:Dy)(dir:Int)(hP:1<=P)(hy:y.man≠0)(ht:t*rv y=rv x):
 (dir<0->rv (quoD x y P dir)<=t)/\(0<=dir->t<=rv (quoD x y P dir))/\Err P (rv (quoD x y P dir)) t:=by
 have hy0:rv y≠0:=fun h=>hy ((bH y).2.2.1 h);unfold quoD;by_cases hx:x.man=0
 . rw[if_pos hx,mO]
   have e0:rv x=0:=(bH x).2.2.2 hx;rw[e0]at ht;have:t=0:=by rcases bgX.1 ht with h|h<;>first|exact absurd h hy0|exact h
   rw[this];exact⟨fun _=>bgK,fun _=>bgK,rD⟩
 . rw[if_neg hx]
   obtain⟨A,B,hB,e1,e2,e3,e4,e5⟩:=adB (a:=x.man.natAbs) (b:=y.man.natAbs) (P:=P) (by omega) (by omega) hP;rw[e1];obtain⟨q1,q2,q3⟩:=aoO (A:=A) hB;have hBr:(0:Rat)<(B:Rat):=bhC.2 hB;have hbr:(0:Rat)<(y.man.natAbs:Rat):=bhC.2 (by omega);obtain⟨e,he⟩:∃e,e=x.exp-y.exp-quoA x.man.natAbs y.man.natAbs P:=⟨_,rfl⟩;rw[<-he];have hpe:=bX e;generalize hneg:(decide (x.man<0) != decide (y.man<0))=neg at*;generalize quoM x.man.natAbs y.man.natAbs P=more at*
   -- the amount of the quotient
   obtain⟨z,hz⟩:∃z:Rat,z=(A:Rat)/B*p2 e:=⟨_,rfl⟩;have hAB:(A:Rat)/B*B=A:=by grind
   have htz:t=sgq neg z:=by
    have k1:z*((y.man.natAbs:Rat)*p2 y.exp)=(x.man.natAbs:Rat)*p2 x.exp:=by
     rw[hz];have k2:p2 x.exp=p2 (quoA x.man.natAbs y.man.natAbs P)*p2 e*p2 y.exp:=by rw[<-dH,<-dH];congr 1;omega
     rw[k2];generalize p2 (quoA x.man.natAbs y.man.natAbs P)=u at*;generalize p2 e=v at*;generalize p2 y.exp=w at*;have k3:(A:Rat)/B*(y.man.natAbs:Rat)=(x.man.natAbs:Rat)*u:=by
      have:((A:Rat)/B*(y.man.natAbs:Rat)-(x.man.natAbs:Rat)*u)*B=0:=by grind
      rcases bgX.1 this with h|h<;>grind
     grind
    have k4:sgq neg z*rv y=rv x:=by
     rw[amJ x,amJ y,<-hneg,aoP,k1]
    have k5:(t-sgq neg z)*rv y=0:=by grind
    rcases bgX.1 k5 with h|h
    . grind
    . exact absurd h hy0
   have l1:((A/B:Nat):Rat)*p2 e<=z:=by
    rw[hz];have:((A/B:Nat):Rat)<=(A:Rat)/B:=by
     apply bgT;intro hc;have:=bg6 (a:=((A/B:Nat):Rat)-(A:Rat)/B) (b:=(B:Rat)) (by grind) hBr;grind
    have:=bgE (a:=(A:Rat)/B-((A/B:Nat):Rat)) (b:=p2 e) (by grind) (by grind);grind
   have l2:z<=(((A/B:Nat):Rat)+1)*p2 e:=by
    rw[hz];have:(A:Rat)/B<=((A/B:Nat):Rat)+1:=by
     apply bgT;intro hc;have:=bg6 (a:=(A:Rat)/B-(((A/B:Nat):Rat)+1)) (b:=(B:Rat)) (by grind) hBr;grind
    have:=bgE (a:=((A/B:Nat):Rat)+1-(A:Rat)/B) (b:=p2 e) (by grind) (by grind);grind
   have l3:more=false->z=((A/B:Nat):Rat)*p2 e:=by
    intro h;have h6:A%B=0:=by
     apply bgT;intro hc;have:=e2.2 hc;rw[h]at this;cases this
    have h7:=q3 h6;rw[hz];have:(A:Rat)/B=((A/B:Nat):Rat):=by
     have:((A:Rat)/B-((A/B:Nat):Rat))*B=0:=by grind
     rcases bgX.1 this with h|h<;>grind
    rw[this]
   obtain⟨r1,r2,r3,r4⟩:=nN (neg:=neg) (P:=P) dir hP l1 l2 l3 (fun _=>e4);rw[htz];refine⟨r1,r2,?_⟩;have hbm:=(rA (m:=A/B) (by intro h;rw[h]at e4;have:bits 0=0:=rfl;omega)).1;refine sF r3 r4 (z:=z) ?_ (by unfold sgq;cases neg<;>simp);rw[show(bits (A/B):Int)+e-1=((bits (A/B):Int)-1)+e from by omega,dH];have:=bgE (a:=((A/B:Nat):Rat)-p2 ((bits (A/B):Int)-1)) (b:=p2 e) (by grind) (by grind);grind
theorem adC(x y:Dy)(dir:Int)(hP:1<=P)(hy:y.man≠0):Canon (quoD x y P dir)/\(bits (quoD x y P dir).man.natAbs:Int)<=P/\
 ((quoD x y P dir).man≠0->topD x-topD y-P-4<=(quoD x y P dir).exp/\topD (quoD x y P dir)<=topD x-topD y+2):=by
 unfold quoD;by_cases hx:x.man=0
 . rw[if_pos hx]
   exact⟨bD 0,by show((bits 0:Nat):Int)<=P;have:bits 0=0:=rfl;omega,fun h=>absurd rfl h⟩
 . rw[if_neg hx]
   obtain⟨A,B,hB,e1,e2,e3,e4,e5⟩:=adB (a:=x.man.natAbs) (b:=y.man.natAbs) (P:=P) (by omega) (by omega) hP;rw[e1];obtain⟨k1,k2,k3⟩:=rC (neg:=(decide (x.man<0) != decide (y.man<0))) (m:=A/B) (e:=x.exp-y.exp-quoA x.man.natAbs y.man.natAbs P) (more:=quoM x.man.natAbs y.man.natAbs P) (P:=P) dir hP;refine⟨k1,k2,fun h=> ?_⟩;obtain⟨k4,k5⟩:=k3 h;have t1:topD x=bits x.man.natAbs+x.exp:=by unfold topD;rw[if_neg hx]
   have t2:topD y=bits y.man.natAbs+y.exp:=by unfold topD;rw[if_neg hy]
   have t3:quoA x.man.natAbs y.man.natAbs P=P+2-bits x.man.natAbs+bits y.man.natAbs:=rfl;omega
def sqM(x:Dy):Nat:=if x.exp%2=0 then x.man.natAbs else x.man.natAbs*2
def sqE(x:Dy):Int:=if x.exp%2=0 then x.exp else x.exp-1
def sqN(x:Dy)(P:Int):Int:=(2*(P+2)-bits (sqM x))+(2*(P+2)-bits (sqM x))%2
def sqX(x:Dy)(P:Int):Nat:=if 0<=sqN x P then sqM x*2^(sqN x P).toNat else sqM x/2^(-sqN x P).toNat
def sqR(x:Dy)(P:Int):Bool:=(decide (sqN x P<0)&&decide ((ctz (sqM x):Int)< -sqN x P))||decide (0<bits (sqX x P-bZ (sqX x P)*bZ (sqX x P)))
def aT(x:Dy)(P dir:Int):Dy:=if x.man=0 then⟨0,0⟩else aZ false (bZ (sqX x P)) ((sqE x-sqN x P)/2) (sqR x P) P dir
theorem agR{x:Dy}(hx:0<x.man)(hP:1<=P):∃(m:Nat) (f:Int),bZ (sqX x P)=m/\(sqE x-sqN x P)/2=f/\
 ((m:Rat)*p2 f)*((m:Rat)*p2 f)<=rv x/\rv x<=(((m:Rat)+1)*p2 f)*(((m:Rat)+1)*p2 f)/\(sqR x P=false->rv x=((m:Rat)*p2 f)*((m:Rat)*p2 f))/\
 P+2<=bits m/\(bits m:Int)<=P+3/\topD x-2*P-8<=2*f/\2*f<=topD x-2*P-3:=by
 have hM0:sqM x≠0:=by unfold sqM;split<;>omega
 have hv:rv x=(sqM x:Rat)*p2 (sqE x):=by
  unfold rv sqM sqE;rcases jK x.man with ⟨h4,h5⟩|⟨h4,h5⟩
  . split
    . rw[h4]
    . rw[bgG,h4,show p2 x.exp=p2 (x.exp-1+1) from by congr 1;omega,jF]
      have:((2:Nat):Rat)=2:=rfl;grind
  . omega
 have hE:sqE x%2=0:=by unfold sqE;split<;>omega
 have hT:topD x=bits (sqM x)+sqE x:=by
  unfold topD sqM sqE;rw[if_neg (by omega)]
  split
  . rfl
  . have:=kR (n:=x.man.natAbs) (by omega) 1
    rw[Nat.pow_one]at this;omega
 have hN:sqN x P=(2*(P+2)-bits (sqM x))+(2*(P+2)-bits (sqM x))%2:=rfl;have hr:=eQ (sqX x P);unfold sqR;generalize hX:sqX x P=X at*;unfold sqX at hX;generalize sqM x=a at*;generalize sqE x=E at*;generalize hn:sqN x P=n at*;obtain⟨f,hf⟩:∃f,(E-n)/2=f:=⟨_,rfl⟩;have hfE:E=n+2*f:=by omega
 obtain⟨h1,h2⟩:=hr;generalize hm:bZ X=m at*;have a1:=(aJ a (bits a)).1 nlr;have hba:=(not_congr (bW a)).2 hM0;have a2:2^(bits a-1)<=a:=by
  have:¬bits a<=bits a-1:=by omega
  rw[aJ]at this;omega
 obtain⟨Q,hQ⟩:∃Q:Nat,P=Q:=⟨P.toNat,by omega⟩;subst hQ
 -- v = y * p2 (2 f), X <= y < X + 1
 obtain⟨y,hy1,hy2,hy3,hy4,hy5,hy6⟩:∃y:Rat,rv x=y*p2 (2*f)/\(X:Rat)<=y/\y<=(X:Rat)+1/\((decide (n<0)&&decide ((ctz a:Int)< -n))=false->y=X)/\2^(2*Q+2)<=X/\X<2^(2*Q+6):=by
  rcases bgY n 0 with h|h
  . obtain⟨k,hk⟩:∃k:Nat,n=-(k:Int):=⟨(-n).toNat,by omega⟩
    rw[if_neg (by omega),hk,show(-(-(k:Int))).toNat=k from by omega]at hX;have e1:=qZ (-(k:Int)) k (by omega);rw[show(-(k:Int)+(k:Int)).toNat=0 from by omega]at e1;have e4:((2^0:Nat):Rat)=1:=rfl;rw[e4]at e1;obtain⟨d1,d2⟩:=pO a k;rw[hX]at d1 d2;have c1:=bgF.2 d1;have c2:=bgF.2 (bg2 d2);rw[bgG]at c1 c2;rw[bgL]at c2;have e5:((1:Nat):Rat)=1:=rfl;rw[e5]at c2;have hpk:=bX (-(k:Int));refine⟨(a:Rat)*p2 (-(k:Int)),?_,?_,?_,?_,?_,?_⟩
    . rw[hv,hfE,hk,dH];grind
    . have:=bgE (a:=(a:Rat)-(X:Rat)*((2^k:Nat):Rat)) (b:=p2 (-(k:Int))) (by grind) (by grind)
      have:(X:Rat)*((2^k:Nat):Rat)*p2 (-(k:Int))=X:=by
       have:(X:Rat)*((2^k:Nat):Rat)*p2 (-(k:Int))=X*(p2 (-(k:Int))*((2^k:Nat):Rat)):=by grind
       rw[this,e1];grind
      grind
    . have:=bgE (a:=((X:Rat)+1)*((2^k:Nat):Rat)-(a:Rat)) (b:=p2 (-(k:Int))) (by grind) (by grind)
      have:((X:Rat)+1)*((2^k:Nat):Rat)*p2 (-(k:Int))=X+1:=by
       have:((X:Rat)+1)*((2^k:Nat):Rat)*p2 (-(k:Int))=(X+1)*(p2 (-(k:Int))*((2^k:Nat):Rat)):=by grind
       rw[this,e1];grind
      grind
    . intro hh
      rw[hk]at hh;have hc:k<=ctz a:=by
       simp only[Bool.and_eq_false_iff,decide_eq_false_iff_not]at hh;omega
      have h7:=(agQ hM0).1 hc;have h8:=bgZ a (2^k);rw[h7,hX,Nat.add_zero]at h8;rw[<-h8,bgG];have:((2^k:Nat):Rat)*(X:Rat)*p2 (-(k:Int))=X*(p2 (-(k:Int))*((2^k:Nat):Rat)):=by grind
      rw[this,e1];grind
    . rw[<-hX,bgU (bgH k)]
      refine bgJ (bgR ?_) (bgJ (bgO (by omega) (show 2*Q+2+k<=bits a-1 by omega)) a2);rw[<-bgI]
    . rw[<-hX,bgQ (bgH k)]
      refine bgN a1 (bgJ (bgO (by omega) (show bits a<=2*Q+6+k by omega)) (bgR ?_));rw[<-bgI]
  . obtain⟨k,hk⟩:∃k:Nat,n=(k:Int):=⟨n.toNat,by omega⟩
    rw[if_pos h,hk,bgS]at hX;refine⟨(X:Rat),?_,bgK,by grind,fun _=>rfl,?_,?_⟩
    . rw[hv,hfE,hk,dH,gB,<-hX,bgG];grind
    . rw[<-hX]
      refine bgJ (bgJ (bgO (by omega) (show 2*Q+2<=bits a-1+k by omega)) (bgR (bgI 2 (bits a-1) k))) (bg3 _ a2)
    . rw[<-hX]
      refine bgN ((bg4 (bgH k)).2 a1) (bgJ (bgR (bgI 2 (bits a) k).symm) (bgO (by omega) (by omega)))
 have c1:=bgF.2 h1;have c2:=bgF.2 (show X+1<=(m+1)*(m+1) from h2);rw[bgG]at c1 c2;rw[bgL,bgL]at c2;have e5:((1:Nat):Rat)=1:=rfl;rw[e5]at c2;have e6:p2 (2*f)=p2 f*p2 f:=by rw[<-dH];congr 1;omega
 rw[e6]at hy1;have hpf:=bX f;have hpp:=bg6 hpf hpf;refine⟨m,f,rfl,hf,?_,?_,?_,?_,?_,?_,?_⟩
 . rw[hy1]
   have:=bgE (a:=y-(m:Rat)*m) (b:=p2 f*p2 f) (by grind) (by grind);grind
 . rw[hy1]
   have:=bgE (a:=((m:Rat)+1)*((m:Rat)+1)-y) (b:=p2 f*p2 f) (by grind) (by grind);grind
 . intro hh
   simp only[Bool.or_eq_false_iff]at hh;have h8:=hy4 hh.1;have h9:X=m*m:=by
    have:=hh.2;simp only[decide_eq_false_iff_not]at this;have:=(bW (X-m*m)).1 (by omega);omega
   rw[hy1,h8,h9,bgG];grind
 . have h8:¬bits m<=Q+1:=by
    rw[aJ];intro h9;have h10:(m+1)*(m+1)<=2^(Q+1)*2^(Q+1):=bhD h9 h9;rw[<-bgI]at h10;have h11:X<2^(Q+1+(Q+1)):=bgN h2 h10;rw[show Q+1+(Q+1)=2*Q+2 from by omega]at h11;omega
   omega
 . have h8:bits m<=Q+3:=by
    rw[aJ];rcases bhF m (2^(Q+3))with h9|h9
    . exact h9
    . exfalso
      have h10:2^(Q+3)*2^(Q+3)<=m*m:=bhD h9 h9;rw[<-bgI,show Q+3+(Q+3)=2*Q+6 from by omega]at h10;omega
   omega
 . omega
 . omega
theorem adD(x:Dy)(dir:Int)(hP:1<=P)(hx:0<=x.man):∃q q':Rat,0<=q/\q<=q'/\q*q<=rv x/\rv x<=q'*q'/\
 0<=rv (aT x P dir)/\(dir<0->rv (aT x P dir)<=q)/\(0<=dir->q'<=rv (aT x P dir))/\q'-q<=q*p2 (-P)/\Err P (rv (aT x P dir)) q/\Err P (rv (aT x P dir)) q':=by
 unfold aT;by_cases h0:x.man=0
 . rw[if_pos h0,mO]
   have e0:rv x=0:=(bH x).2.2.2 h0;rw[e0];exact⟨0,0,bgK,bgK,by grind,by grind,bgK,fun _=>bgK,fun _=>bgK,by grind,rD,rD⟩
 . rw[if_neg h0]
   obtain⟨m,f,e1,e2,h1,h2,h3,h4,h5,-,-⟩:=agR (x:=x) (P:=P) (by omega) hP;rw[e1,e2];have hpf:=bX f;have hm0:(0:Rat)<=(m:Rat):=bg8;have hq0:=bgE hm0 (show 0<=p2 f by grind);have hbm:=(rA (m:=m) (by intro h;rw[h]at h4;have:bits 0=0:=rfl;omega)).1;have hnn:0<=rv (aZ false m f (sqR x P) P dir):=by
    unfold aZ;refine abB dir ?_;exact xH _ (by show(0:Int)<=((_:Nat):Int);omega)
   have hE:p2 ((bits m:Int)+f-1)<=(m:Rat)*p2 f:=by
    rw[show(bits m:Int)+f-1=((bits m:Int)-1)+f from by omega,dH];have:=bgE (a:=(m:Rat)-p2 ((bits m:Int)-1)) (b:=p2 f) (by grind) (by grind);grind
   have b1:=nN (neg:=false) (more:=sqR x P) (P:=P) (z:=(m:Rat)*p2 f) (m:=m) (e:=f) dir hP bgK (by grind) (fun _=>rfl) (fun _=>h4);have sf:∀z,sgq false z=z:=fun z=>by unfold sgq;simp
   rw[sf]at b1
   cases hr:sqR x P
   . rw[hr]at b1 hnn
     have h6:=h3 hr;have hz0:0<=(m:Rat)*p2 f*p2 (-P):=bgE hq0 (by have:=bX (-P);grind);have er:=sF b1.2.2.1 b1.2.2.2 hE (Or.inl rfl);exact⟨(m:Rat)*p2 f,(m:Rat)*p2 f,hq0,bgK,h1,by rw[h6];exact bgK,hnn,b1.1,b1.2.1,by grind,er,er⟩
   . rw[hr]at b1 hnn
     have b2:=nN (neg:=false) (more:=true) (P:=P) (z:=((m:Rat)+1)*p2 f) (m:=m) (e:=f) dir hP (by grind) bgK (fun h=>by cases h) (fun _=>h4);rw[sf]at b2;refine⟨(m:Rat)*p2 f,((m:Rat)+1)*p2 f,hq0,by grind,h1,h2,hnn,b1.1,b2.2.1,?_,sF b1.2.2.1 b1.2.2.2 hE (Or.inl rfl),sF b2.2.2.1 b2.2.2.2 (z:=((m:Rat)+1)*p2 f) (by grind) (Or.inl rfl)⟩
     -- p2 f <= m * p2 f * p2 (-P)
     have h7:p2 P<=(m:Rat):=by
      have:=mR (show P<=(bits m:Int)-1 by omega);grind
     have h8:p2 P*p2 (-P)=1:=by rw[<-dH,show P+-P=0 from by omega,oM]
     have h9:=bgE (a:=(m:Rat)-p2 P) (b:=p2 f*p2 (-P)) (by grind) (by have:=bg6 hpf (bX (-P));grind);have h10:p2 P*(p2 f*p2 (-P))=p2 f:=by
      have:p2 P*(p2 f*p2 (-P))=p2 P*p2 (-P)*p2 f:=by grind
      rw[this,h8];grind
     have h11:((m:Rat)-p2 P)*(p2 f*p2 (-P))=(m:Rat)*p2 f*p2 (-P)-p2 P*(p2 f*p2 (-P)):=by grind
     rw[h11,h10]at h9;have h12:((m:Rat)+1)*p2 f=(m:Rat)*p2 f+p2 f:=by grind
     rw[h12];generalize (m:Rat)*p2 f*p2 (-P)=u at*;generalize (m:Rat)*p2 f=v at*;grind
theorem aiO(x:Dy)(dir:Int)(hP:1<=P)(hx:0<=x.man):Canon (aT x P dir)/\(bits (aT x P dir).man.natAbs:Int)<=P/\
 ((aT x P dir).man≠0->topD x-2*P-10<=2*(aT x P dir).exp/\2*topD (aT x P dir)<=topD x+5):=by
 unfold aT;by_cases h0:x.man=0
 . rw[if_pos h0]
   exact⟨bD 0,by show((bits 0:Nat):Int)<=P;have:bits 0=0:=rfl;omega,fun h=>absurd rfl h⟩
 . rw[if_neg h0]
   obtain⟨m,f,e1,e2,-,-,-,h4,h5,h6,h7⟩:=agR (x:=x) (P:=P) (by omega) hP;rw[e1,e2];obtain⟨k1,k2,k3⟩:=rC (neg:=false) (m:=m) (e:=f) (more:=sqR x P) (P:=P) dir hP;refine⟨k1,k2,fun h=> ?_⟩;obtain⟨k4,k5⟩:=k3 h;omega
end Go.Proofs.YtjdgaogkioabeaaGreatDoor
namespace Go.Proofs.YtjdgaogkioabeaaGreatDoor
open Re (rat)
open Int renaming sign_eq_neg_one_iff_neg->bhJ,sign_eq_one_iff_pos->bhL
open Rat renaming le_trans->bhI,le_refl->bhK,mul_nonneg->bhM
variable{P:Int}{L p q x y z:Re}
structure Bl where
 lo:Dy
 hi:Dy
def In(x:Re)(b:Bl):Prop:=rat (rv b.lo)<=x/\x<=rat (rv b.hi)
def atB(v:Dy):Bl:=⟨v,v⟩
def notB(b:Bl):Bl:=⟨notD b.hi,notD b.lo⟩
def addB(a b:Bl)(P:Int):Bl:=⟨aU (addD a.lo b.lo) P (-1),aU (addD a.hi b.hi) P 1⟩
def minD(x lo:Dy):Dy:=if cmpD x lo<0 then x else lo
def maxD(x hi:Dy):Dy:=if 0<cmpD x hi then x else hi
def xI(a b:Bl):Dy:=minD (mulD a.hi b.hi) (minD (mulD a.hi b.lo) (minD (mulD a.lo b.hi) (mulD a.lo b.lo)))
def zZ(a b:Bl):Dy:=maxD (mulD a.hi b.hi) (maxD (mulD a.hi b.lo) (maxD (mulD a.lo b.hi) (mulD a.lo b.lo)))
def mulB(a b:Bl)(P:Int):Bl:=⟨aU (xI a b) P (-1),aU (zZ a b) P 1⟩
def kT(a b:Bl)(P:Int):Dy:=minD (quoD a.hi b.hi P (-1)) (minD (quoD a.hi b.lo P (-1)) (minD (quoD a.lo b.hi P (-1)) (quoD a.lo b.lo P (-1))))
def kU(a b:Bl)(P:Int):Dy:=maxD (quoD a.hi b.hi P 1) (maxD (quoD a.hi b.lo P 1) (maxD (quoD a.lo b.hi P 1) (quoD a.lo b.lo P 1)))
def quoB(a b:Bl)(P:Int):Option Bl:=if b.lo.man.sign=b.hi.man.sign/\b.lo.man.sign≠0 then some ⟨kT a b P,kU a b P⟩else none
def bI(a:Bl):Dy:=if a.lo.man<0 then⟨0,0⟩else a.lo
def tZ(a:Bl)(P:Int):Option Bl:=if a.hi.man<0 then none else some ⟨aT (bI a) P (-1),aT a.hi P 1⟩
theorem xJ(x y:Dy):rv (minD x y)<=rv x/\rv (minD x y)<=rv y/\(minD x y=x\/minD x y=y):=by
 unfold minD;have:=(amG x y).1
 split
 . rename_i h;have:=this.1 h;exact⟨bhK,by grind,Or.inl rfl⟩
 . rename_i h
   have:¬rv x<rv y:=fun h'=>h (this.2 h');exact⟨by grind,bhK,Or.inr rfl⟩
theorem xK(x y:Dy):rv x<=rv (maxD x y)/\rv y<=rv (maxD x y)/\(maxD x y=x\/maxD x y=y):=by
 unfold maxD;have:=(amG x y).2
 split
 . rename_i h;have:=this.1 h;exact⟨bhK,by grind,Or.inl rfl⟩
 . rename_i h
   have:¬rv y<rv x:=fun h'=>h (this.2 h');exact⟨by grind,bhK,Or.inr rfl⟩
theorem nO(a b c d:Dy):let m:=minD a (minD b (minD c d));rv m<=rv a/\rv m<=rv b/\rv m<=rv c/\rv m<=rv d/\(m=a\/m=b\/m=c\/m=d):=by
 obtain⟨h1,h2,h3⟩:=xJ c d;obtain⟨k1,k2,k3⟩:=xJ b (minD c d);obtain⟨j1,j2,j3⟩:=xJ a (minD b (minD c d));refine⟨j1,by grind,by grind,by grind,?_⟩;rcases j3 with j3|j3<;>rw[j3]
 . exact Or.inl rfl
 . rcases k3 with k3|k3<;>rw[k3]
   . exact Or.inr (Or.inl rfl)
   . rcases h3 with h3|h3<;>rw[h3]
     . exact Or.inr (Or.inr (Or.inl rfl))
     . exact Or.inr (Or.inr (Or.inr rfl))
theorem nP(a b c d:Dy):let m:=maxD a (maxD b (maxD c d));rv a<=rv m/\rv b<=rv m/\rv c<=rv m/\rv d<=rv m/\(m=a\/m=b\/m=c\/m=d):=by
 obtain⟨h1,h2,h3⟩:=xK c d;obtain⟨k1,k2,k3⟩:=xK b (maxD c d);obtain⟨j1,j2,j3⟩:=xK a (maxD b (maxD c d));refine⟨j1,by grind,by grind,by grind,?_⟩;rcases j3 with j3|j3<;>rw[j3]
 . exact Or.inl rfl
 . rcases k3 with k3|k3<;>rw[k3]
   . exact Or.inr (Or.inl rfl)
   . rcases h3 with h3|h3<;>rw[h3]
     . exact Or.inr (Or.inr (Or.inl rfl))
     . exact Or.inr (Or.inr (Or.inr rfl))
namespace Re
theorem lin_ge(h1:p<=x)(h2:x<=q)(k1:L<=p*y)(k2:L<=q*y):L<=x*y:=by
 rcases le_total 0 y with h|h
 . exact le_trans k1 (mul_le_mul_right h h1)
 . refine le_trans k2 ?_
   have:=mul_le_mul_right (neg_nonneg.2 h) h2;rw[mul_neg,mul_neg]at this;have:=neg_le_neg this;rwa[neg_neg,neg_neg]at this
theorem lin_le(h1:p<=x)(h2:x<=q)(k1:p*y<=L)(k2:q*y<=L):x*y<=L:=by
 rcases le_total 0 y with h|h
 . exact le_trans (mul_le_mul_right h h2) k2
 . refine le_trans ?_ k1
   have:=mul_le_mul_right (neg_nonneg.2 h) h1;rw[mul_neg,mul_neg]at this;have:=neg_le_neg this;rwa[neg_neg,neg_neg]at this
theorem lin_ge'(h1:p<=x)(h2:x<=q)(k1:L<=y*p)(k2:L<=y*q):L<=y*x:=by
 rw[mul_comm y]at*;exact lin_ge h1 h2 k1 k2
theorem lin_le'(h1:p<=x)(h2:x<=q)(k1:y*p<=L)(k2:y*q<=L):y*x<=L:=by
 rw[mul_comm y]at*;exact lin_le h1 h2 k1 k2
theorem le_of_mul_pos(hz:0<z)(h:x*z<=y*z):x<=y:=by
 intro k;have k':y<x:=k;have:=mul_pos (sub_pos.2 k') hz;rw[sub_mul]at this;exact lt_irrefl _ (lt_of_lt_of_le (sub_pos.1 this) h)
theorem le_of_mul_neg(hz:z<0)(h:y*z<=x*z):x<=y:=by
 refine le_of_mul_pos (z:=-z) (neg_pos.2 hz) ?_;rw[mul_neg,mul_neg];exact neg_le_neg h
end Re
open Re
theorem arD{v:Dy}:In (rat (rv v)) (atB v):=⟨le_refl _,le_refl _⟩
theorem aqO{b:Bl}(h:In x b):In (-x) (notB b):=by
 unfold In notB;rw[oN,oN,rat_neg,rat_neg];exact⟨neg_le_neg h.2,neg_le_neg h.1⟩
theorem amK{a b:Bl}(hP:1<=P)(h:In x a)(k:In y b):In (x+y) (addB a b P):=by
 unfold In addB;have h1:=(jT (addD a.lo b.lo) (-1) hP).1 (by decide);have h2:=(jT (addD a.hi b.hi) 1 hP).2.1 (by decide);rw[aa8]at h1 h2;have h1:=rat_le.2 h1;have h2:=rat_le.2 h2;rw[rat_add]at h1 h2;exact⟨le_trans h1 (add_le_add h.1 k.1),le_trans (add_le_add h.2 k.2) h2⟩
theorem aqP{a b:Bl}(hP:1<=P)(h:In x a)(k:In y b):In (x*y) (mulB a b P):=by
 unfold In mulB;have h1:=(jT (xI a b) (-1) hP).1 (by decide);have h2:=(jT (zZ a b) 1 hP).2.1 (by decide);obtain⟨l1,l2,l3,l4,-⟩:=nO (mulD a.hi b.hi) (mulD a.hi b.lo) (mulD a.lo b.hi) (mulD a.lo b.lo);obtain⟨m1,m2,m3,m4,-⟩:=nP (mulD a.hi b.hi) (mulD a.hi b.lo) (mulD a.lo b.hi) (mulD a.lo b.lo);have h1:=rat_le.2 h1;have h2:=rat_le.2 h2;have l1:=rat_le.2 l1;have l2:=rat_le.2 l2;have l3:=rat_le.2 l3;have l4:=rat_le.2 l4;have m1:=rat_le.2 m1;have m2:=rat_le.2 m2;have m3:=rat_le.2 m3;have m4:=rat_le.2 m4;rw[gY,rat_mul]at l1 l2 l3 l4 m1 m2 m3 m4;refine⟨le_trans h1 (lin_ge h.1 h.2 (lin_ge' k.1 k.2 l4 l3) (lin_ge' k.1 k.2 l2 l1)),le_trans (lin_le h.1 h.2 (lin_le' k.1 k.2 m4 m3) (lin_le' k.1 k.2 m2 m1)) h2⟩
theorem kC{b:Bl}(h:b.lo.man.sign=b.hi.man.sign/\b.lo.man.sign≠0):(0<b.lo.man/\0<b.hi.man)\/(b.lo.man<0/\b.hi.man<0):=by
 obtain⟨h1,h2⟩:=h;rcases Int.lt_trichotomy b.lo.man 0 with g|g|g
 . right;refine⟨g,?_⟩
   rw[bhJ.2 g]at h1;exact bhJ.1 h1.symm
 . rw[g]at h2;exact absurd rfl h2
 . left;refine⟨g,?_⟩
   rw[bhL.2 g]at h1;exact bhL.1 h1.symm
theorem uZ(x y:Rat)(h:y≠0):∃t:Rat,t*y=x:=⟨x/y,by grind⟩
theorem aqQ{a b r:Bl}(hP:1<=P)(h:In x a)(k:In y b)(hz:z*y=x)(hr:quoB a b P=some r):In z r:=by
 unfold quoB at hr
 split at hr
 . rename_i hs
   injection hr with hr;subst hr;obtain⟨l1,l2,l3,l4,-⟩:=nO (quoD a.hi b.hi P (-1)) (quoD a.hi b.lo P (-1)) (quoD a.lo b.hi P (-1)) (quoD a.lo b.lo P (-1));obtain⟨m1,m2,m3,m4,-⟩:=nP (quoD a.hi b.hi P 1) (quoD a.hi b.lo P 1) (quoD a.lo b.hi P 1) (quoD a.lo b.lo P 1);have n1:b.lo.man≠0:=by rcases kC hs with g|g<;>omega
   have n2:b.hi.man≠0:=by rcases kC hs with g|g<;>omega
   have v1:rv b.lo≠0:=fun g=>n1 ((bH _).2.2.1 g);have v2:rv b.hi≠0:=fun g=>n2 ((bH _).2.2.1 g);obtain⟨t1,e1⟩:=uZ (rv a.hi) (rv b.hi) v2;obtain⟨t2,e2⟩:=uZ (rv a.hi) (rv b.lo) v1;obtain⟨t3,e3⟩:=uZ (rv a.lo) (rv b.hi) v2;obtain⟨t4,e4⟩:=uZ (rv a.lo) (rv b.lo) v1;have d1:=(kS a.hi b.hi (-1) hP n2 e1).1 (by decide);have d2:=(kS a.hi b.lo (-1) hP n1 e2).1 (by decide);have d3:=(kS a.lo b.hi (-1) hP n2 e3).1 (by decide);have d4:=(kS a.lo b.lo (-1) hP n1 e4).1 (by decide);have u1:=(kS a.hi b.hi 1 hP n2 e1).2.1 (by decide);have u2:=(kS a.hi b.lo 1 hP n1 e2).2.1 (by decide);have u3:=(kS a.lo b.hi 1 hP n2 e3).2.1 (by decide);have u4:=(kS a.lo b.lo 1 hP n1 e4).2.1 (by decide);show rat (rv (kT a b P))<=z/\z<=rat (rv (kU a b P));have hL:rv (kT a b P)<=t1/\rv (kT a b P)<=t2/\rv (kT a b P)<=t3/\rv (kT a b P)<=t4:=
    ⟨bhI l1 d1,bhI l2 d2,bhI l3 d3,bhI l4 d4⟩
   have hH:t1<=rv (kU a b P)/\t2<=rv (kU a b P)/\t3<=rv (kU a b P)/\t4<=rv (kU a b P):=
    ⟨bhI u1 m1,bhI u2 m2,bhI u3 m3,bhI u4 m4⟩
   generalize rv (kT a b P)=L at*;generalize rv (kU a b P)=H at*;have key:∀u v:Rat,∀c:Rat,u<=v->(0<=c->u*c<=v*c)/\(c<=0->v*c<=u*c):=fun u v c huv=>by
    constructor
    . intro hc;have:=bhM (a:=v-u) (b:=c) (by grind) hc;grind
    . intro hc;have:=bhM (a:=v-u) (b:=-c) (by grind) (by grind);grind
   rcases kC hs with ⟨g1,g2⟩|⟨g1,g2⟩
   . have p1:0<rv b.lo:=(bH _).1.2 g1
     have p2':0<rv b.hi:=(bH _).1.2 g2;have hy:0<y:=lt_of_lt_of_le (by rw[zero_rat,rat_lt];exact p1) k.1;constructor
     . refine le_of_mul_pos hy ?_
       rw[hz];refine le_trans ?_ h.1;refine lin_le' k.1 k.2 ?_ ?_<;>rw[<-rat_mul,rat_le]
       . rw[<-e4];exact(key _ _ _ hL.2.2.2).1 (by grind)
       . rw[<-e3];exact(key _ _ _ hL.2.2.1).1 (by grind)
     . refine le_of_mul_pos hy ?_
       rw[hz];refine le_trans h.2 ?_;refine lin_ge' k.1 k.2 ?_ ?_<;>rw[<-rat_mul,rat_le]
       . rw[<-e2];exact(key _ _ _ hH.2.1).1 (by grind)
       . rw[<-e1];exact(key _ _ _ hH.1).1 (by grind)
   . have p1:rv b.lo<0:=(bH _).2.1.2 g1
     have p2':rv b.hi<0:=(bH _).2.1.2 g2;have hy:y<0:=lt_of_le_of_lt k.2 (by rw[zero_rat,rat_lt];exact p2');constructor
     . refine le_of_mul_neg hy ?_
       rw[hz];refine le_trans h.2 ?_;refine lin_ge' k.1 k.2 ?_ ?_<;>rw[<-rat_mul,rat_le]
       . rw[<-e2];exact(key _ _ _ hL.2.1).2 (by grind)
       . rw[<-e1];exact(key _ _ _ hL.1).2 (by grind)
     . refine le_of_mul_neg hy ?_
       rw[hz];refine le_trans ?_ h.1;refine lin_le' k.1 k.2 ?_ ?_<;>rw[<-rat_mul,rat_le]
       . rw[<-e4];exact(key _ _ _ hH.2.2.2).2 (by grind)
       . rw[<-e3];exact(key _ _ _ hH.2.2.1).2 (by grind)
 . cases hr
theorem oP(a:Bl):0<=(bI a).man/\rv a.lo<=rv (bI a)/\(rv (bI a)=rv a.lo\/rv (bI a)=0):=by
 unfold bI
 split
 . rename_i h
   refine⟨Int.le_refl _,?_,Or.inr (mO 0)⟩;have:=(bH a.lo).2.1.2 h;rw[mO];grind
 . rename_i h;exact⟨by omega,bhK,Or.inl rfl⟩
theorem aoQ{s:Re}{a:Bl}(hP:1<=P)(h:In x a)(hs:0<=s)(hx:s*s=x):∃r,tZ a P=some r/\In s r:=by
 have hx0:0<=x:=by rw[<-hx];exact sq_nonneg s
 have hhi:0<=rv a.hi:=by have:=le_trans hx0 h.2;rw[zero_rat,rat_le]at this;exact this
 have hm:0<=a.hi.man:=by
  rcases Int.lt_or_le a.hi.man 0 with g|g
  . have:=(bH a.hi).2.1.2 g;grind
  . exact g
 unfold tZ;rw[if_neg (by omega)];refine⟨_,rfl,?_,?_⟩
 . obtain⟨k1,k2,k3⟩:=oP a
   obtain⟨q,q',q1,q2,q3,q4,q5,q6,-⟩:=adD (bI a) (-1) hP k1;show rat (rv (aT (bI a) P (-1)))<=s;refine le_trans (rat_le.2 (q6 (by decide))) (le_of_sq hs ?_);rw[hx,<-rat_mul];refine le_trans (rat_le.2 q3) ?_;rcases k3 with k3|k3<;>rw[k3]
   . exact h.1
   . exact hx0
 . obtain⟨q,q',q1,q2,q3,q4,q5,-,q7,-⟩:=adD a.hi 1 hP hm
   show s<=rat (rv (aT a.hi P 1));refine le_trans (le_of_sq (y:=rat q') ?_ ?_) (rat_le.2 (q7 (by decide)))
   . rw[zero_rat,rat_le];grind
   . rw[hx,<-rat_mul];exact le_trans h.2 (rat_le.2 q4)
end Go.Proofs.YtjdgaogkioabeaaGreatDoor
