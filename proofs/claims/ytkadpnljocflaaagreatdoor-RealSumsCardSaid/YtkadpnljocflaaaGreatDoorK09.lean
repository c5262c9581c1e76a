/- A part of the proof: contracts of functions and plain laws (Flt, FltA, Real, RealB). -/
import Derived.Laws.FloatArith
set_option linter.unusedVariables false
set_option linter.unusedSimpArgs false
set_option linter.unnecessarySimpa false
set_option maxHeartbeats 25600000
set_option maxRecDepth 100000
namespace Go.Proofs.YtkadpnljocflaaaGreatDoor
section
open Ieee
open Bool renaming false_eq_true->aq9
open Int renaming lt_or_le->arD,neg_mul->arF,natCast_mul->arK,mul_lt_mul_right->arL,lt_or_eq_of_le->arO,natAbs_natCast->arP,neg_le_neg_iff->arQ,compare_eq_lt->arS,compare_eq_gt->arT,natCast_pos->arV,natAbs_neg->arX,le_total->ar0
open Nat renaming two_pow_pos->aq1,le_of_mul_le_mul_right->aq2,pow_add->aq3,pow_le_pow_right->aq4,le_trans->aq5,mul_lt_mul_of_pos_right->aq6,lt_or_ge->aq7,mul_assoc->aq8,eq_zero_or_pos->arA,add_sub_cancel->arB,le_of_eq->arC,mul_le_mul_left->arE,lt_log2_self->arG,shiftLeft_eq->arH,pow_succ->arI,pow_zero->arJ,mul_one->arM,lt_of_lt_of_le->arN,one_shiftLeft->arR,min_eq_left->arU,mul_le_mul->arW,le_total->arY,mul_comm->arZ,le_of_lt->ar1,zero_le->ar2,mul_pos->ar3
variable{a:Int}{b x y:Nat}
def mg(r:Nat):Nat:=if r<2^52 then r else(2^52+r%2^52)*2^(r/2^52-1)
theorem ajD(neg:Bool)(n d k:Nat)(h:k*2^d<=n):k<=Toward.even.cut neg n d:=by
 unfold Toward.cut;simp only[arR];rcases arY d (n.log2+2)with hd|hd
 . rw[arU hd]
   have:k<=n/2^d:=(Nat.le_div_iff_mul_le (aq1 d)).2 h;omega
 . have hn:n<2^d:=arN (arG (n:=n)) (aq4 (by omega) (by omega))
   rcases arA k with rfl|hk
   . exact ar2 _
   . have:2^d<=k*2^d:=Nat.le_mul_of_pos_left _ hk
     omega
theorem ajE(neg:Bool)(n d k:Nat)(h:n<=k*2^d):Toward.even.cut neg n d<=k:=by
 unfold Toward.cut;simp only[arR];have base:∀g low rest:Nat,n=g*low+rest->rest<g->n<=k*g->low+(decide (g<2*rest)||(g==2*rest&&low%2==1)).toNat<=k:=by
  intro g low rest h1 h2 h3;have hlow:low<=k:=by
   refine Nat.le_of_mul_le_mul_left (c:=g) ?_ (by omega);rw[arZ g k];omega
  rcases aq7 low k with hlt|hge
  . have:(decide (g<2*rest)||(g==2*rest&&low%2==1)).toNat<=1:=Bool.toNat_le _
    omega
  . have hk:low=k:=by omega
    subst hk;have hr:rest=0:=by rw[arZ low g]at h3;omega
    subst hr;have h0:0<g:=h2;have e1:decide (g<2*0)=false:=by simp
    have e2:(g==2*0)=false:=by simp;omega
    rw[e1,e2];simp
 rcases arY d (n.log2+2)with hd|hd
 . rw[arU hd]
   exact base (2^d) (n/2^d) (n%2^d) (Nat.div_add_mod n _).symm (Nat.mod_lt _ (aq1 d)) h
 . rw[Nat.min_eq_right hd]
   have hn:n<2^(n.log2+1):=arG (n:=n);have hp:2^(n.log2+2)=2*2^(n.log2+1):=by rw[arI];omega
   have e0:n/2^(n.log2+2)=0:=Nat.div_eq_of_lt (by omega);have e1:n%2^(n.log2+2)=n:=Nat.mod_eq_of_lt (by omega);rw[e0,e1];have f1:decide (2^(n.log2+2)<2*n)=false:=by simp;omega
   have f2:(2^(n.log2+2)==2*n)=false:=by simp;omega
   rw[f1,f2];simp
def rg(mag:Nat)(place:Int):Nat:=if mag=0 then 0 else min ((max (place+mag.log2-52) (-1074)+1074).toNat*2^52+Toward.even.cut false (mag <<< (place-max (place+mag.log2-52) (-1074)).toNat) (max (place+mag.log2-52) (-1074)-place).toNat) (2047*2^52)
theorem kG:double.leastPlace=-1074:=by decide
theorem jL:double.binade=2^52:=by decide
theorem mW:double.infRung=2047*2^52:=by decide
theorem oZ:double.signWeight=2^63:=by decide
theorem kH(neg:Bool)(mag:Nat)(place:Int):double.nearest neg mag place=double.word neg (rg mag place):=by
 unfold Format.nearest rg
 split
 . rfl
 . simp only[kG,jL,mW]
   rfl
theorem lY(k:Nat){a:Nat}(h:a=b):k*2^a=k*2^b:=by rw[h]
theorem abO(mag:Nat)(place:Int)(h0:mag≠0)(t:Nat)(ht:0<=place+t)(ht2:1074<=t):∃E K:Nat,
 rg mag place=min (E*2^52+K) (2047*2^52)/\
 (∀k,k*2^E*2^(t-1074)<=mag*2^(place+t).toNat->k<=K)/\
 (∀k,mag*2^(place+t).toNat<=k*2^E*2^(t-1074)->K<=k)/\
 mag*2^(place+t).toNat<2^53*2^E*2^(t-1074)/\
 (0<E->2^52*2^E*2^(t-1074)<=mag*2^(place+t).toNat):=by
 unfold rg;rw[if_neg h0];generalize hl:max (place+mag.log2-52) (-1074)=last;have hl1:-1074<=last:=by omega
 have hl2:place+mag.log2-52<=last:=by omega
 have hlog1:2^mag.log2<=mag:=Nat.log2_self_le h0;have hlog2:mag<2^(mag.log2+1):=arG;generalize mag.log2=L at*;refine⟨(last+1074).toNat,_,rfl,?_,?_,?_,?_⟩
 all_goals
  obtain⟨E,hE⟩:∃E:Nat,(last+1074).toNat=E:=⟨_,rfl⟩;rw[hE];obtain⟨A,hA⟩:∃A:Nat,(place+t).toNat=A:=⟨_,rfl⟩;rw[hA]
 . intro k hk
   refine ajD _ _ _ _ ?_;rw[arH];rcases ar0 place last with hp|hp
   . have e1:(place-last).toNat=0:=by omega
     rw[e1,arJ,arM];refine aq2 (c:=2^A) ?_ (aq1 A);refine aq5 (arC ?_) hk;rw[aq8,aq8,<-aq3,<-aq3];exact lY _ (by omega)
   . have e1:(last-place).toNat=0:=by omega
     rw[e1,arJ,arM];refine aq2 (c:=2^(E+(t-1074))) ?_ (aq1 _);refine aq5 (arC ?_) (aq5 hk (arC ?_))
     . rw[aq8,<-aq3]
     . rw[aq8,<-aq3];exact lY _ (by omega)
 . intro k hk
   refine ajE _ _ _ _ ?_;rw[arH];rcases ar0 place last with hp|hp
   . have e1:(place-last).toNat=0:=by omega
     rw[e1,arJ,arM];refine aq2 (c:=2^A) ?_ (aq1 A);refine aq5 hk (arC ?_);rw[aq8,aq8,<-aq3,<-aq3];exact lY _ (by omega)
   . have e1:(last-place).toNat=0:=by omega
     rw[e1,arJ,arM];refine aq2 (c:=2^(E+(t-1074))) ?_ (aq1 _);refine aq5 (arC ?_) (aq5 hk (arC ?_))
     . rw[aq8,<-aq3];exact lY _ (by omega)
     . rw[aq8,<-aq3]
 . refine arN (aq6 hlog2 (aq1 A)) ?_
   rw[<-aq3,<-aq3,<-aq3];exact aq4 (by omega) (by omega)
 . intro hpos
   refine aq5 ?_ (Nat.mul_le_mul_right _ hlog1);rw[<-aq3,<-aq3,<-aq3];exact aq4 (by omega) (by omega)
theorem jM(r:Nat)(h:r<2^53):mg r=r:=by
 unfold mg
 split
 . rfl
 . have:r/2^52=1:=by omega
   rw[this];simp;omega
theorem iI(r:Nat)(h:2^52<=r):mg r=(2^52+r%2^52)*2^(r/2^52-1):=by
 unfold mg;rw[if_neg (by omega)]
theorem aiW(mag:Nat)(place:Int)(t:Nat)(ht:0<=place+t)(ht2:1074<=t)(c:Nat)(hc:c<=2047*2^52)(h:mg c*2^(t-1074)<=mag*2^(place+t).toNat):c<=rg mag place:=by
 by_cases h0:mag=0
 . have:mg c=0:=by
    subst h0;rcases arA (mg c)with h1|h1
    . exact h1
    . have:=ar3 h1 (aq1 (t-1074));omega
   have hc0:c=0:=by
    rcases aq7 c (2^53)with h1|h1
    . rwa[jM c h1]at this
    . rw[iI c (by omega)]at this
      have h9:0<2^52+c%2^52:=by omega
      have:=ar3 h9 (aq1 (c/2^52-1));omega
   omega
 obtain⟨E,K,e,h1,h2,h3,h4⟩:=abO mag place h0 t ht ht2;rw[e];refine Nat.le_min.2 ⟨?_,hc⟩;rcases aq7 c (E*2^52)with hlt|hge
 . omega
 have hT:=aq1 (t-1074);have hmg:mg c<2^53*2^E:=Nat.lt_of_mul_lt_mul_right (Nat.lt_of_le_of_lt h h3);rcases aq7 c (2^52)with hs|hs
 . -- subnormal
   have hE:E=0:=by omega
   subst hE;have hck:=h1 c (by rw[jM c (by omega)]at h;simpa using h);exact aq5 hck (Nat.le_add_left _ _)
 . rw[iI c hs]at hmg h
   obtain⟨q,hq⟩:∃q,c/2^52=q+1:=⟨c/2^52-1,by omega⟩;rw[hq,arB]at hmg h;have hqE:q<=E:=by
    rcases aq7 E q with hlt|hge
    . exfalso
      have:2^(E+1)<=2^q:=aq4 (by omega) hlt;rw[arI]at this;have h5:(2^52)*(2^E*2)<=(2^52+c%2^52)*2^q:=arW (by omega) this;omega
    . exact hge
   rcases aq7 q E with hlt|hge'
   . have:=h1 (2^52) (h4 (by omega))
     omega
   . have hqe:q=E:=by omega
     subst hqe;have:=h1 _ h;omega
theorem aeZ(mag:Nat)(place:Int)(t:Nat)(ht:0<=place+t)(ht2:1074<=t)(c:Nat)(h:mag*2^(place+t).toNat<=mg c*2^(t-1074)):rg mag place<=c:=by
 by_cases h0:mag=0
 . subst h0;unfold rg;simp
 obtain⟨E,K,e,h1,h2,h3,h4⟩:=abO mag place h0 t ht ht2;rw[e];refine aq5 (Nat.min_le_left _ _) ?_;have hT:=aq1 (t-1074);have hK:=h2 (2^53) (ar1 h3);rcases aq7 c (2^52)with hs|hs
 . rcases arA E with rfl|hE
   . have:=h2 c (by rw[jM c (by omega)]at h;simpa using h)
     omega
   . exfalso
     have h5:=aq2 (aq5 (h4 hE) h) hT;rw[jM c (by omega)]at h5;have:1<=2^E:=aq1 E;have:=arE (2^52) this;omega
 . rw[iI c hs]at h
   obtain⟨q,hq⟩:∃q,c/2^52=q+1:=⟨c/2^52-1,by omega⟩;rw[hq,arB]at h;rcases Nat.lt_trichotomy q E with hlt|heq|hgt
   . exfalso
     have h5:=aq2 (aq5 (h4 (by omega)) h) hT;have:2^(q+1)<=2^E:=aq4 (by omega) hlt;rw[arI]at this;have h6:(2^52+c%2^52)*2^q<(2^52*2)*2^q:=aq6 (by omega) (aq1 q);have h7:2^52*(2^q*2)<=2^52*2^E:=arE _ this;omega
   . subst heq
     have:=h2 _ h;omega
   . have:(E+2)*2^52<=c:=by omega
     omega
def infR:Nat:=2047*2^52
def fneg(b:Nat):Bool:=b/2^63%2==1
def rung(b:Nat):Nat:=b%2^63
def sr(b:Nat):Int:=if fneg b then-(rung b:Int)else(rung b:Int)
def fvr(s:Int):Int:=if s<0 then-(mg s.natAbs:Int)else(mg s.natAbs:Int)
def fv(b:Nat):Int:=fvr (sr b)
def fin(b:Nat):Prop:=rung b<infR
def num(b:Nat):Prop:=rung b<=infR
theorem fin.num (h:fin b):num b:=ar1 h
instance(b:Nat):Decidable (fin b):=inferInstanceAs (Decidable (_<_))
instance(b:Nat):Decidable (num b):=inferInstanceAs (Decidable (_<=_))
theorem ae0{a:Nat}(h:a<b):mg a<mg b:=by
 rcases aq7 b (2^53)with hb|hb
 . rw[jM a (by omega),jM b hb];exact h
 . rw[iI b (by omega)]
   obtain⟨q,hq⟩:∃q,b/2^52=q+1:=⟨b/2^52-1,by omega⟩;rw[hq,arB];have hp:=aq1 q;rcases aq7 a (2^52)with ha|ha
   . rw[jM a (by omega)]
     have:(2^52+b%2^52)*1<=(2^52+b%2^52)*2^q:=arE _ hp;omega
   . rw[iI a ha]
     obtain⟨r,hr⟩:∃r,a/2^52=r+1:=⟨a/2^52-1,by omega⟩;rw[hr,arB];rcases aq7 r q with hrq|hrq
     . have h1:2^(r+1)<=2^q:=aq4 (by omega) hrq
       rw[arI]at h1;have h2:(2^52+a%2^52)*2^r<(2^52*2)*2^r:=aq6 (by omega) (aq1 r);have h3:2^52*(2^r*2)<=(2^52+b%2^52)*2^q:=arW (by omega) h1;omega
     . have:r=q:=by omega
       subst this;exact aq6 (by omega) hp
theorem nR:mg 0=0:=by decide
theorem ajF{a:Nat}(h:0<a):0<mg a:=by have:=ae0 h;rwa[nR]at this
theorem jN{b:Int}(h:a<b):fvr a<fvr b:=by
 unfold fvr
 split<;>split
 . have:=ae0 (a:=b.natAbs) (b:=a.natAbs) (by omega);omega
 . have:=ajF (a:=a.natAbs) (by omega);omega
 . omega
 . have:=ae0 (a:=a.natAbs) (b:=b.natAbs) (by omega);omega
theorem kV{b:Int}(h:a<=b):fvr a<=fvr b:=by
 rcases arO h with h|rfl
 . exact Int.le_of_lt (jN h)
 . exact Int.le_refl _
theorem dK:fvr 0=0:=by decide
theorem rW{b:Int}:fvr a<fvr b↔a<b:=⟨fun h=>by
 rcases arD a b with h1|h1
 . exact h1
 . have:=kV h1;omega,jN⟩
theorem aaO{b:Int}:fvr a<=fvr b↔a<=b:=⟨fun h=>by
 rcases arD b a with h1|h1
 . have:=jN h1;omega
 . exact h1,kV⟩
theorem wH(a:Int):fvr (-a)=-fvr a:=by
 unfold fvr;rw[arX];rcases Int.lt_trichotomy a 0 with h|h|h
 . rw[if_neg (by omega),if_pos h];omega
 . subst h;simp[nR]
 . rw[if_pos (by omega),if_neg (by omega)]
theorem cmp_eq{b c d:Int}(h1:a<b↔c<d)(h2:b<a↔d<c):compare a b=compare c d:=by
 simp only[compare,compareOfLessAndEq];by_cases h:a<b
 . rw[if_pos h,if_pos (h1.1 h)]
 . rw[if_neg h,if_neg (fun h'=>h (h1.2 h'))]
   by_cases e:a=b
   . have:c=d:=by
      have a1:¬c<d:=fun h'=>by have:=h1.2 h';omega
      have a2:¬d<c:=fun h'=>by have:=h2.2 h';omega
      omega
     rw[if_pos e,if_pos this]
   . have:¬c=d:=by
      have:b<a:=by omega
      have:=h2.1 this;omega
     rw[if_neg e,if_neg this]
theorem fI(h:fin b):∃m p,double.read b=.number (fneg b) m p/\-1074<=p/\m*2^(p+1074).toNat=mg (rung b):=by
 have h':b%2^63<2047*2^52:=h;unfold Format.read;simp only[oZ,jL,mW,kG]
 split
 . rename_i hs
   refine⟨_,_,rfl,by omega,?_⟩;have:rung b=b%2^63:=rfl;rw[this,jM _ (by omega)];simp
 . rename_i hs
   refine⟨_,_,rfl,by omega,?_⟩;have:rung b=b%2^63:=rfl;rw[this,iI _ (by omega)]
   congr 2;omega
theorem rX(h:rung b=infR):double.read b=.infinity (fneg b):=by
 have h':b%2^63=2047*2^52:=h;unfold Format.read;simp only[oZ,jL,mW,kG];rw[if_neg (by omega),if_neg (by omega),if_pos h'];rfl
theorem iP(s:Bool)(m k:Nat):signed s m k=(if s then-((m*2^k:Nat):Int)else((m*2^k:Nat):Int)):=by
 unfold signed;rw[arH]
theorem iJ{m:Nat}{p:Int}(h:m*2^(p+1074).toNat=mg (rung b)):fv b=(if fneg b then-((m*2^(p+1074).toNat:Nat):Int)else((m*2^(p+1074).toNat:Nat):Int)):=by
 rw[h];unfold fv sr fvr
 cases fneg b
 . simp only[aq9,if_false]
   rw[if_neg (by omega),arP]
 . simp only[if_true]
   rw[arX,arP];rcases arA (rung b)with h0|h0
   . rw[h0,nR];simp
   . rw[if_pos (by omega)]
theorem iK(s:Bool)(m k j:Nat):signed s m k*(2^j:Nat)=signed s m (k+j):=by
 rw[iP,iP,aq3]
 cases s<;>simp[Int.mul_assoc,arF]
theorem acW(hx:num x)(hy:num y):double.order x y=some (compare (sr x) (sr y)):=by
 have srx:-(infR:Int)<=sr x/\sr x<=infR:=by unfold num at hx;unfold sr;split<;>omega
 have sry:-(infR:Int)<=sr y/\sr y<=infR:=by unfold num at hy;unfold sr;split<;>omega
 unfold Format.order;by_cases fx:fin x
 . obtain⟨m,p,e1,p1,v1⟩:=fI fx
   have x1:-(infR:Int)<sr x/\sr x<infR:=by unfold fin at fx;unfold sr;split<;>omega
   by_cases fy:fin y
   . obtain⟨n,q,e2,q1,v2⟩:=fI fy
     rw[e1,e2];simp only[Datum.order,Option.some.injEq];have hp:=iJ v1;have hq:=iJ v2;have s1:signed (fneg x) m (p-min p q).toNat*(2^(min p q+1074).toNat:Nat)=fv x:=by
      rw[iK,iP,hp];have:(p-min p q).toNat+(min p q+1074).toNat=(p+1074).toNat:=by omega
      rw[this]
     have s2:signed (fneg y) n (q-min p q).toNat*(2^(min p q+1074).toNat:Nat)=fv y:=by
      rw[iK,iP,hq];have:(q-min p q).toNat+(min p q+1074).toNat=(q+1074).toNat:=by omega
      rw[this]
     have hpos:(0:Int)<(2^(min p q+1074).toNat:Nat):=arV.2 (aq1 _);refine cmp_eq ?_ ?_
     . exact((arL hpos).symm).trans (by rw[s1,s2];exact rW)
     . exact((arL hpos).symm).trans (by rw[s1,s2];exact rW)
   . have ry:rung y=infR:=by unfold num fin at*;omega
     rw[e1,rX ry];simp only[Datum.order];unfold sr at*;rw[ry]at*
     cases fneg y
     . simp only[aq9,if_false]at*
       rw[show compare (if fneg x=true then-(rung x:Int)else(rung x:Int)) (infR:Int)=.lt from by rw[arS];exact x1.2]
     . simp only[if_true]at*
       rw[show compare (if fneg x=true then-(rung x:Int)else(rung x:Int)) (-(infR:Int))=.gt from by rw[arT];exact x1.1]
 . have rx:rung x=infR:=by unfold num fin at*;omega
   rw[rX rx];by_cases fy:fin y
   . obtain⟨n,q,e2,q1,v2⟩:=fI fy
     have y1:-(infR:Int)<sr y/\sr y<infR:=by unfold fin at fy;unfold sr;split<;>omega
     rw[e2];simp only[Datum.order];unfold sr at*;rw[rx]at*
     cases fneg x
     . simp only[aq9,if_false]at*
       rw[show compare (infR:Int) (if fneg y=true then-(rung y:Int)else(rung y:Int))=.gt from by rw[arT];exact y1.2]
     . simp only[if_true]at*
       rw[show compare (-(infR:Int)) (if fneg y=true then-(rung y:Int)else(rung y:Int))=.lt from by rw[arS];exact y1.1]
   . have ry:rung y=infR:=by unfold num fin at*;omega
     rw[rX ry];simp only[Datum.order];unfold sr;rw[rx,ry]
     cases fneg x<;>cases fneg y<;>decide
def Near(r:Nat)(N:Int)(t:Nat):Prop:=num r/\
 (∀c:Int,-(infR:Int)<=c->c<=infR->fvr c*(2^(t-1074):Nat)<=N->c<=sr r)/\
 (∀c:Int,-(infR:Int)<=c->c<=infR->N<=fvr c*(2^(t-1074):Nat)->sr r<=c)
theorem qQ{neg:Bool}{r:Nat}(h:r<=infR):sr (double.word neg r)=(if neg then-(r:Int)else(r:Int))/\rung (double.word neg r)=r:=by
 have h':r<=2047*2^52:=h;unfold sr fneg rung Format.word;simp only[oZ]
 cases neg
 . simp only[aq9,if_false]
   have e1:r/2^63%2=0:=by omega
   have e2:r%2^63=r:=by omega
   rw[e1,e2];simp
 . simp only[if_true]
   have e1:(2^63+r)/2^63%2=1:=by omega
   have e2:(2^63+r)%2^63=r:=by omega
   rw[e1,e2];simp
theorem o6(mag:Nat)(place:Int):rg mag place<=infR:=by
 unfold rg;split
 . unfold infR;omega
 . exact Nat.min_le_right _ _
theorem fU(neg:Bool)(mag:Nat)(place:Int)(t:Nat)(ht:0<=place+t)(ht2:1074<=t)(N:Int)(hN:N=(if neg then-((mag*2^(place+t).toNat:Nat):Int)else((mag*2^(place+t).toNat:Nat):Int))):
 Near (double.nearest neg mag place) N t:=by
 rw[kH];obtain⟨e1,e2⟩:=qQ (neg:=neg) (o6 mag place);have hpos:(0:Int)<(2^(t-1074):Nat):=arV.2 (aq1 _);refine⟨by unfold num;rw[e2];exact o6 _ _,fun c c1 c2 h=> ?_,fun c c1 c2 h=> ?_⟩
 . rw[e1]
   cases neg
   . simp only[aq9,if_false]at hN|-
     rcases arD c 0 with hc|hc
     . omega
     . have:c.toNat<=rg mag place:=by
        refine aiW mag place t ht ht2 _ (by unfold infR at c2;omega) ?_;unfold fvr at h;rw[if_neg (by omega),hN]at h;have:c.natAbs=c.toNat:=by omega
        rw[this]at h
        exact_mod_cast h
       omega
   . simp only[if_true]at hN|-
     rcases arD c 0 with hc|hc
     . have:rg mag place<=c.natAbs:=by
        refine aeZ mag place t ht ht2 _ ?_;unfold fvr at h;rw[if_pos hc,hN,arF]at h;have h2:=arQ.1 h
        exact_mod_cast h2
       omega
     . have h1:0<=fvr c:=by have:=kV hc;rwa[dK]at this
       have h2:0<=fvr c*(2^(t-1074):Nat):=Int.mul_nonneg h1 (by omega);have h3:mag*2^(place+t).toNat=0:=by omega
       have h5:rg mag place=0:=by
        have:=aeZ mag place t ht ht2 0 (by rw[h3];exact ar2 _);omega
       have h6:fvr c=0:=by
        rcases arO h1 with h7|h7
        . have:=Int.mul_pos h7 hpos;omega
        . exact h7.symm
       have h8:c<=0:=by rw[<-aaO,h6,dK];omega
       omega
 . rw[e1]
   cases neg
   . simp only[aq9,if_false]at hN|-
     rcases arD c 0 with hc|hc
     . have h1:fvr c<0:=by have:=jN hc;rwa[dK]at this
       have h2:fvr c*(2^(t-1074):Nat)<0:=Int.mul_neg_of_neg_of_pos h1 hpos;omega
     . have:rg mag place<=c.natAbs:=by
        refine aeZ mag place t ht ht2 _ ?_;unfold fvr at h;rw[if_neg (by omega),hN]at h
        exact_mod_cast h
       omega
   . simp only[if_true]at hN|-
     rcases arD c 0 with hc|hc
     . have:c.natAbs<=rg mag place:=by
        refine aiW mag place t ht ht2 _ (by unfold infR at c1;omega) ?_;unfold fvr at h;rw[if_pos hc,hN,arF]at h;have h2:=arQ.1 h
        exact_mod_cast h2
       omega
     . omega
theorem x8(hx:fin x)(hy:fin y):∃r,double.add x y=some r/\r<2^64/\Near r (fv x+fv y) 1074:=by
 obtain⟨m,p,e1,p1,v1⟩:=fI hx;obtain⟨n,q,e2,q1,v2⟩:=fI hy;have hp:=iJ v1;have hq:=iJ v2;have h:double.add x y=some (double.nearest (if signed (fneg x) m (p-min p q).toNat+signed (fneg y) n (q-min p q).toNat=0 then fneg x&&fneg y else signed (fneg x) m (p-min p q).toNat+signed (fneg y) n (q-min p q).toNat<0) (signed (fneg x) m (p-min p q).toNat+signed (fneg y) n (q-min p q).toNat).natAbs (min p q)):=by
  unfold Format.add;rw[e1,e2];rfl
 refine⟨_,h,double.add_lt h,?_⟩;refine fU _ _ _ 1074 (by omega) (by omega) _ ?_;have s1:signed (fneg x) m (p-min p q).toNat*(2^(min p q+1074).toNat:Nat)=fv x:=by
  rw[iK,iP,hp];have:(p-min p q).toNat+(min p q+1074).toNat=(p+1074).toNat:=by omega
  rw[this]
 have s2:signed (fneg y) n (q-min p q).toNat*(2^(min p q+1074).toNat:Nat)=fv y:=by
  rw[iK,iP,hq];have:(q-min p q).toNat+(min p q+1074).toNat=(q+1074).toNat:=by omega
  rw[this]
 rw[<-s1,<-s2,<-Int.add_mul];generalize signed (fneg x) m (p-min p q).toNat+signed (fneg y) n (q-min p q).toNat=T;have e:(min p q+(1074:Nat):Int).toNat=(min p q+1074).toNat:=rfl;rw[e];generalize (2^(min p q+1074).toNat:Nat)=M;by_cases h0:T=0
 . subst h0;simp
 . rw[if_neg h0]
   by_cases h1:T<0
   . rw[if_pos (by simpa using h1)]
     rw[arK,<-arF];congr 1;omega
   . rw[if_neg (by simpa using h1)]
     rw[arK];congr 1;omega
theorem nS(hx:fin x)(hy:fin y):∃r,double.mul x y=some r/\r<2^64/\Near r (fv x*fv y) 2148:=by
 obtain⟨m,p,e1,p1,v1⟩:=fI hx;obtain⟨n,q,e2,q1,v2⟩:=fI hy;have hp:=iJ v1;have hq:=iJ v2;have h:double.mul x y=some (double.nearest (fneg x^^fneg y) (m*n) (p+q)):=by
  unfold Format.mul;rw[e1,e2];rfl
 refine⟨_,h,double.mul_lt h,?_⟩;refine fU _ _ _ 2148 (by omega) (by omega) _ ?_;rw[hp,hq];have e:m*n*2^(p+q+(2148:Nat):Int).toNat=(m*2^(p+1074).toNat)*(n*2^(q+1074).toNat):=by
  have:(p+q+(2148:Nat):Int).toNat=(p+1074).toNat+(q+1074).toNat:=by omega
  rw[this,aq3];simp only[aq8,Nat.mul_left_comm]
 rw[e]
 cases fneg x<;>cases fneg y<;>simp[arK,arF,Int.mul_neg]
end
section
open Classical renaming byContradiction->ar5
open Nat renaming le_refl->ar7,zero_le->ar9
open Rat renaming mul_nonneg->ar4,mul_pos->ar6,inv_pos->ar8
variable{a:Nat->Rat}{e q:Rat}
def Cau(f:Nat->Rat):Prop:=∀e:Rat,0<e->∃N:Nat,∀m n,N<=m->N<=n->f m-f n<e
def Nul(f:Nat->Rat):Prop:=∀e:Rat,0<e->∃N:Nat,∀n,N<=n->-e<f n/\f n<e
theorem wI{x y A d:Rat}(h1:-A<x)(h2:x<A)(h3:-d<y)(h4:y<d):-(A*d)<x*y/\x*y<A*d:=by
 have a1:0<(A-x)*(d+y):=ar6 (by grind) (by grind);have a2:0<(A+x)*(d-y):=ar6 (by grind) (by grind);have a3:0<(A-x)*(d-y):=ar6 (by grind) (by grind);have a4:0<(A+x)*(d+y):=ar6 (by grind) (by grind);constructor<;>grind
theorem dA{a b:Rat}(ha:0<a)(hb:0<b):0<a/b:=by
 rw[Rat.div_def];exact ar6 ha (ar8.2 hb)
section
variable{f g:Nat->Rat}
theorem Cau.bd (h:Cau f):∃(M:Rat) (N:Nat),0<M/\∀n,N<=n->-M<f n/\f n<M:=by
 obtain⟨N,hN⟩:=h 1 (by decide);refine⟨(if 0<=f N then f N else-f N)+1,N,by split<;>grind,fun n hn=> ?_⟩;have h1:=hN n N hn (ar7 _);have h2:=hN N n (ar7 _) hn
 split<;>constructor<;>grind
theorem Cau.add (h:Cau f)(k:Cau g):Cau (fun n=>f n+g n):=by
 intro e he;obtain⟨N,hN⟩:=h (e/2) (dA he (by decide));obtain⟨M,hM⟩:=k (e/2) (dA he (by decide));refine⟨max N M,fun m n hm hn=> ?_⟩;have h1:=hN m n (by omega) (by omega);have h2:=hM m n (by omega) (by omega);grind
theorem Cau.neg (h:Cau f):Cau (fun n=>-f n):=by
 intro e he;obtain⟨N,hN⟩:=h e he;refine⟨N,fun m n hm hn=> ?_⟩;have h1:=hN n m hn hm;grind
theorem Cau.mul (h:Cau f)(k:Cau g):Cau (fun n=>f n*g n):=by
 intro e he;obtain⟨A,N1,hA,h1⟩:=h.bd;obtain⟨B,N2,hB,h2⟩:=k.bd;obtain⟨N3,h3⟩:=h (e/(2*B)) (dA he (by grind));obtain⟨N4,h4⟩:=k (e/(2*A)) (dA he (by grind));refine⟨max (max N1 N2) (max N3 N4),fun m n hm hn=> ?_⟩;have a1:=h1 m (by omega);have a2:=h2 n (by omega);have b1:=h3 m n (by omega) (by omega);have b2:=h3 n m (by omega) (by omega);have b3:=h4 m n (by omega) (by omega);have b4:=h4 n m (by omega) (by omega);have c1:=(wI a1.1 a1.2 (y:=g m-g n) (d:=e/(2*A)) (by grind) b3).2;have c2:=(wI a2.1 a2.2 (y:=f m-f n) (d:=e/(2*B)) (by grind) b1).2;have d1:A*(e/(2*A))=e/2:=by grind
 have d2:B*(e/(2*B))=e/2:=by grind
 rw[d1]at c1;rw[d2]at c2;grind
theorem Cau.const (q:Rat):Cau (fun _=>q):=fun e he=>⟨0,fun m n _ _=>by grind⟩
theorem Nul.add (h:Nul f)(k:Nul g):Nul (fun n=>f n+g n):=by
 intro e he;obtain⟨N,hN⟩:=h (e/2) (dA he (by decide));obtain⟨M,hM⟩:=k (e/2) (dA he (by decide));refine⟨max N M,fun n hn=> ?_⟩;have h1:=hN n (by omega);have h2:=hM n (by omega);constructor<;>grind
theorem Nul.neg (h:Nul f):Nul (fun n=>-f n):=by
 intro e he;obtain⟨N,hN⟩:=h e he;exact⟨N,fun n hn=>by have:=hN n hn;constructor<;>grind⟩
theorem Nul.mul (h:Nul f)(k:Cau g):Nul (fun n=>f n*g n):=by
 intro e he;obtain⟨B,N2,hB,h2⟩:=k.bd;obtain⟨N3,h3⟩:=h (e/B) (dA he hB);refine⟨max N2 N3,fun n hn=> ?_⟩;have a:=h2 n (by omega);have b:=h3 n (by omega);have:=wI b.1 b.2 a.1 a.2;have d:e/B*B=e:=by grind
 rw[d]at this;exact this
theorem Cau.apart (h:Cau f)(hn:¬Nul f):∃(d:Rat) (N:Nat),0<d/\((∀n,N<=n->d<f n)\/(∀n,N<=n->f n< -d)):=by
 have:∃e:Rat,0<e/\∀N:Nat,∃n,N<=n/\(f n<=-e\/e<=f n):=by
  apply ar5;intro hc;refine hn fun e he=> ?_;apply ar5;intro hd;refine hc ⟨e,he,fun N=> ?_⟩;apply ar5;intro hf;refine hd ⟨N,fun n hnn=> ?_⟩;have:¬(f n<=-e\/e<=f n):=fun hh=>hf ⟨n,hnn,hh⟩;constructor<;>grind
 obtain⟨e,he,hN⟩:=this;obtain⟨N,hc⟩:=h (e/2) (dA he (by decide));obtain⟨n,hn1,hn2⟩:=hN N;refine⟨e/2,N,dA he (by decide),?_⟩;rcases hn2 with hn2|hn2
 . right;intro m hm
   have:=hc m n hm hn1;grind
 . left;intro m hm
   have:=hc n m hn1 hm;grind
end
structure Cs where
 f:Nat->Rat
 c:Cau f
def Cs.eqv (a b:Cs):Prop:=Nul (fun n=>a.f n-b.f n)
instance x9:Setoid Cs where
 r:=Cs.eqv
 iseqv:={
  refl:=fun a e he=>⟨0,fun n _=>by constructor<;>grind⟩
  symm:=fun{a b} h=>by
   have:=Nul.neg h;intro e he;obtain⟨N,hN⟩:=this e he;exact⟨N,fun n hn=>by have:=hN n hn;constructor<;>grind⟩
  trans:=fun{a b c} h k=>by
   have:=Nul.add h k;intro e he;obtain⟨N,hN⟩:=this e he;exact⟨N,fun n hn=>by have:=hN n hn;constructor<;>grind⟩}
theorem Nul.congr {f g:Nat->Rat}(h:Nul f)(e:∀n,f n=g n):Nul g:=by
 have:f=g:=funext e;rw[<-this];exact h
def Re:Type:=Quotient x9
namespace Re
def mk(a:Cs):Re:=Quotient.mk x9 a
theorem ind{p:Re->Prop}(h:∀a,p (mk a))(x:Re):p x:=Quotient.ind h x
theorem eqv{a b:Cs}(h:Nul (fun n=>a.f n-b.f n)):mk a=mk b:=Quotient.sound h
theorem eqv_iff{a b:Cs}:mk a=mk b↔Nul (fun n=>a.f n-b.f n):=⟨fun h=>Quotient.exact h,eqv⟩
theorem same{a b:Cs}(h:∀n,a.f n=b.f n):mk a=mk b:=eqv fun e he=>⟨0,fun n _=>by have:=h n;constructor<;>grind⟩
def addC(a b:Cs):Cs:=⟨fun n=>a.f n+b.f n,a.c.add b.c⟩
def mulC(a b:Cs):Cs:=⟨fun n=>a.f n*b.f n,a.c.mul b.c⟩
def negC(a:Cs):Cs:=⟨fun n=>-a.f n,a.c.neg⟩
def ratC(q:Rat):Cs:=⟨fun _=>q,Cau.const q⟩
instance:Add Re:=⟨Quotient.lift₂ (fun a b=>mk (addC a b)) fun a b c d h k=>eqv ((Nul.add h k).congr fun n=>by simp only[addC];grind)⟩
instance:Mul Re:=⟨Quotient.lift₂ (fun a b=>mk (mulC a b)) fun a b c d h k=>eqv ((Nul.add (Nul.mul h b.c) (Nul.mul k c.c)).congr fun n=>by simp only[mulC];grind)⟩
instance:Neg Re:=⟨Quotient.lift (fun a=>mk (negC a)) fun a b h=>eqv ((Nul.neg h).congr fun n=>by simp only[negC];grind)⟩
instance:Sub Re:=⟨fun x y=>x+-y⟩
def rat(q:Rat):Re:=mk (ratC q)
instance{n:Nat}:OfNat Re n:=⟨rat (n:Nat)⟩
theorem add_mk(a b:Cs):mk a+mk b=mk (addC a b):=rfl
theorem mul_mk(a b:Cs):mk a*mk b=mk (mulC a b):=rfl
theorem neg_mk(a:Cs):-mk a=mk (negC a):=rfl
theorem sub_mk(a b:Cs):mk a-mk b=mk (addC a (negC b)):=rfl
theorem num_mk(n:Nat):(OfNat.ofNat n:Re)=mk (ratC (n:Rat)):=rfl
theorem rat_mk(q:Rat):rat q=mk (ratC q):=rfl
theorem addC_f(a b:Cs)(n:Nat):(addC a b).f n=a.f n+b.f n:=rfl
theorem mulC_f(a b:Cs)(n:Nat):(mulC a b).f n=a.f n*b.f n:=rfl
theorem negC_f(a:Cs)(n:Nat):(negC a).f n=-a.f n:=rfl
theorem ratC_f(q:Rat)(n:Nat):(ratC q).f n=q:=rfl
def Pos(x:Re):Prop:=∃a:Cs,mk a=x/\∃(d:Rat) (N:Nat),0<d/\∀n,N<=n->d<a.f n
theorem pos_mk{a:Cs}:Pos (mk a)↔∃(d:Rat) (N:Nat),0<d/\∀n,N<=n->d<a.f n:=by
 constructor
 . rintro⟨b,hb,d,N,hd,h⟩
   obtain⟨M,hM⟩:=(eqv_iff.1 hb) (d/2) (dA hd (by decide));refine⟨d/2,max N M,dA hd (by decide),fun n hn=> ?_⟩;have h1:=h n (by omega);have h2:=hM n (by omega);grind
 . exact fun h=>⟨a,rfl,h⟩
theorem pos_add{x y:Re}(h:Pos x)(k:Pos y):Pos (x+y):=by
 induction x using ind with|_ a
 induction y using ind with|_ b
 obtain⟨d,N,hd,h⟩:=pos_mk.1 h;obtain⟨d',N',hd',h'⟩:=pos_mk.1 k;rw[add_mk,pos_mk];exact⟨d+d',max N N',by grind,fun n hn=>by have:=h n (by omega);have:=h' n (by omega);simp only[addC_f];grind⟩
theorem pos_mul{x y:Re}(h:Pos x)(k:Pos y):Pos (x*y):=by
 induction x using ind with|_ a
 induction y using ind with|_ b
 obtain⟨d,N,hd,h⟩:=pos_mk.1 h;obtain⟨d',N',hd',h'⟩:=pos_mk.1 k;rw[mul_mk,pos_mk];refine⟨d*d',max N N',ar6 hd hd',fun n hn=> ?_⟩;have h1:=h n (by omega);have h2:=h' n (by omega);simp only[mulC_f];have a1:0<(a.f n-d)*(b.f n-d'):=ar6 (by grind) (by grind);have a2:0<d*(b.f n-d'):=ar6 hd (by grind);have a3:0<d'*(a.f n-d):=ar6 hd' (by grind);grind
theorem pos_tri(x:Re):Pos x\/x=0\/Pos (-x):=by
 induction x using ind with|_ a
 by_cases h:Nul a.f
 . right;left
   exact eqv (h.congr fun n=>by show a.f n=a.f n-((0:Nat):Rat);grind)
 . obtain⟨d,N,hd,h|h⟩:=a.c.apart h
   . left;exact pos_mk.2 ⟨d,N,hd,h⟩
   . right;right;rw[neg_mk];exact pos_mk.2 ⟨d,N,hd,fun n hn=>by have:=h n hn;simp only[negC_f];grind⟩
theorem pos_zero:¬Pos 0:=by
 rw[num_mk,pos_mk];rintro⟨d,N,hd,h⟩;have:=h N (ar7 _);simp only[ratC_f]at this;grind
theorem pos_rat:Pos (rat q)↔0<q:=by
 rw[rat_mk,pos_mk];constructor
 . rintro⟨d,N,hd,h⟩
   have:=h N (ar7 _);simp only[ratC_f]at this;grind
 . intro h
   exact⟨q/2,0,dA h (by decide),fun n _=>by simp only[ratC_f];grind⟩
instance:LT Re:=⟨fun x y=>Pos (y-x)⟩
instance:LE Re:=⟨fun x y=>¬Pos (x-y)⟩
theorem lt_def{x y:Re}:x<y↔Pos (y-x):=Iff.rfl
theorem zero_add(x:Re):0+x=x:=by
 induction x using ind with|_ a
 rw[num_mk,add_mk];exact same fun n=>by simp only[addC_f,ratC_f];grind
theorem mul_comm(x y:Re):x*y=y*x:=by
 induction x using ind with|_ a
 induction y using ind with|_ b
 rw[mul_mk,mul_mk];exact same fun n=>by simp only[mulC_f];grind
theorem mul_assoc(x y z:Re):x*y*z=x*(y*z):=by
 induction x using ind with|_ a
 induction y using ind with|_ b
 induction z using ind with|_ c
 simp only[mul_mk];exact same fun n=>by simp only[mulC_f];grind
theorem one_mul(x:Re):1*x=x:=by
 induction x using ind with|_ a
 rw[num_mk,mul_mk];exact same fun n=>by simp only[mulC_f,ratC_f];grind
theorem add_mul(x y z:Re):(x+y)*z=x*z+y*z:=by
 induction x using ind with|_ a
 induction y using ind with|_ b
 induction z using ind with|_ c
 simp only[mul_mk,add_mk];exact same fun n=>by simp only[mulC_f,addC_f];grind
theorem sub_def(x y:Re):x-y=x+-y:=rfl
theorem rat_add(p q:Rat):rat (p+q)=rat p+rat q:=by
 simp only[rat_mk,add_mk];exact same fun n=>by simp only[addC_f,ratC_f]
theorem rat_mul(p q:Rat):rat (p*q)=rat p*rat q:=by
 simp only[rat_mk,mul_mk];exact same fun n=>by simp only[mulC_f,ratC_f]
theorem rat_neg(p:Rat):rat (-p)=-rat p:=by
 simp only[rat_mk,neg_mk];exact same fun n=>by simp only[negC_f,ratC_f]
end Re
theorem ahJ{P:Nat->Prop}(h0:P 0){K:Nat}(hK:¬P K):∃k,P k/\¬P (k+1):=by
 induction K with
 |zero=>exact absurd h0 hK
 |succ K ih=>
  by_cases h:P K
  . exact⟨K,h,hK⟩
  . exact ih h
theorem abP(r:Rat):∃K:Nat,r<=(K:Rat):=by
 refine⟨r.ceil.toNat,Rat.le_trans Rat.le_ceil ?_⟩;have:(r.ceil:Int)<=((r.ceil.toNat:Nat):Int):=Int.self_le_toNat _;have h2:=Rat.intCast_le_intCast.2 this;rwa[Rat.intCast_natCast]at h2
theorem aj7{u v:Rat}(hu:0<=u)(hv:0<=v)(he:0<e)(h:u*u-v*v<e*e):u-v<e:=by
 apply ar5;intro hc;have h1:0<=(u-v-e)*(u+v+e):=ar4 (by grind) (by grind);have h2:0<=v*e:=ar4 hv (by grind);grind
theorem ae1(hq:0<=q)(he:0<e):∃u:Rat,0<=u/\u*u<=q/\q<u*u+e:=by
 obtain⟨d,hd,h1,h2⟩:∃d:Rat,0<d/\d<=1/\d*(2*q+3)<=e:=by
  have hp:(0:Rat)<2*q+3:=by grind
  have hc:e/(2*q+3)*(2*q+3)=e:=by grind
  rcases(Rat.le_total:e/(2*q+3)<=1\/_)with h|h
  . exact⟨e/(2*q+3),dA he hp,h,by grind⟩
  . refine⟨1,by decide,by grind,?_⟩
    have:=ar4 (a:=e/(2*q+3)-1) (b:=2*q+3) (by grind) (by grind);grind
 obtain⟨K,hK⟩:=abP ((q+1)/d);have hKd:q+1<=(K:Rat)*d:=by
  have h3:(q+1)/d*d=q+1:=by grind
  have:=ar4 (a:=(K:Rat)-(q+1)/d) (b:=d) (by grind) (by grind);grind
 obtain⟨k,k1,k2⟩:=ahJ (P:=fun k=>(k:Rat)*d*((k:Rat)*d)<=q) (by simpa using hq) (K:=K) (by
  have:=ar4 (a:=(K:Rat)*d-(q+1)) (b:=(K:Rat)*d+(q+1)) (by grind) (by grind);have:=ar4 hq hq;grind)
 have hk0:0<=(k:Rat)*d:=ar4 (by exact_mod_cast ar9 k) (by grind);refine⟨(k:Rat)*d,hk0,k1,?_⟩;have e1:((k+1:Nat):Rat)*d=(k:Rat)*d+d:=by
  rw[Rat.natCast_add];grind
 simp only[e1]at k2;generalize (k:Rat)*d=u at*;have hu:u<=q+1:=by
  apply ar5;intro hc;have:=ar4 (a:=u-(q+1)) (b:=u+(q+1)) (by grind) (by grind);have:=ar4 hq hq;grind
 have h3:=ar4 (a:=d) (b:=2*q+3-(2*u+d)) (by grind) (by grind);grind
theorem uQ(he:0<e):∃N:Nat,∀n,N<=n->1/((n:Rat)+1)<e:=by
 obtain⟨K,hK⟩:=abP (1/e);refine⟨K,fun n hn=> ?_⟩;have h1:(K:Rat)<=(n:Rat):=by exact_mod_cast hn
 have h2:(0:Rat)<(n:Rat)+1:=by
  have:(0:Rat)<=(n:Rat):=by exact_mod_cast ar9 n
  grind
 rw[Rat.div_lt_iff h2];have h3:1/e*e=1:=by grind
 have:=ar4 (a:=(n:Rat)-1/e) (b:=e) (by grind) (by grind);grind
theorem ae2(n:Nat):(0:Rat)<1/((n:Rat)+1):=by
 have:(0:Rat)<=(n:Rat):=by exact_mod_cast ar9 n
 exact dA (by decide) (by grind)
theorem ae3(ha:Cau a)(h0:∀e:Rat,0<e->∃N:Nat,∀n,N<=n->-e<a n):
 ∃f:Nat->Rat,Cau f/\(∀n,0<=f n)/\Nul (fun n=>f n*f n-a n):=by
 have hb:∀n,∃u:Rat,0<=u/\u*u<=(if 0<=a n then a n else 0)/\(if 0<=a n then a n else 0)<u*u+1/((n:Rat)+1):=fun n=>
  ae1 (by split<;>grind) (ae2 n)
 refine⟨fun n=>(hb n).choose,?_,fun n=>(hb n).choose_spec.1,?_⟩
 . intro e he
   have hee:0<e*e:=ar6 he he;obtain⟨N,hN⟩:=ha (e*e/2) (dA hee (by decide));obtain⟨M,hM⟩:=uQ (e:=e*e/2) (dA hee (by decide));refine⟨max N M,fun m n hm hn=> ?_⟩;have h1:=hN m n (by omega) (by omega);have h2:=hM n (by omega);obtain⟨a1,a2,a3⟩:=(hb m).choose_spec;obtain⟨b1,b2,b3⟩:=(hb n).choose_spec;refine aj7 a1 b1 he ?_;generalize (hb m).choose=u at*;generalize (hb n).choose=v at*;by_cases c1:0<=a m<;>by_cases c2:0<=a n<;>simp only[c1,c2,if_true,if_false]at a2 a3 b2 b3<;>grind
 . intro e he
   obtain⟨N,hN⟩:=h0 e he;obtain⟨M,hM⟩:=uQ he;refine⟨max N M,fun n hn=> ?_⟩;have h1:=hN n (by omega);have h2:=hM n (by omega);obtain⟨b1,b2,b3⟩:=(hb n).choose_spec;show-e<(hb n).choose*(hb n).choose-a n/\(hb n).choose*(hb n).choose-a n<e;generalize (hb n).choose=v at*;by_cases c2:0<=a n<;>simp only[c2,if_true,if_false]at b2 b3<;>constructor<;>grind
theorem ahK(ha:Cau a)(h0:¬Nul a):∃f:Nat->Rat,Cau f/\Nul (fun n=>a n*f n-1):=by
 obtain⟨d,N,hd,h⟩:=ha.apart h0;have hne:∀n,N<=n->a n≠0:=fun n hn=>by rcases h with h|h<;>have:=h n hn<;>grind
 have hi:∀n,N<=n->a n*(a n)⁻¹=1:=fun n hn=>Rat.mul_inv_cancel _ (hne n hn);refine⟨fun n=>(a n)⁻¹,?_,?_⟩
 . intro e he
   obtain⟨M,hM⟩:=ha (e*(d*d)) (ar6 he (ar6 hd hd));refine⟨max N M,fun m n hm hn=> ?_⟩;have h1:=hM m n (by omega) (by omega);have h2:=hM n m (by omega) (by omega);have i1:=hi m (by omega);have i2:=hi n (by omega);generalize ha1:(a m)⁻¹=u at*;generalize hb1:(a n)⁻¹=v at*
   -- u - v = (a n - a m) * (u * v), and 1 - d*d*u*v >= 0
   have key:0<u*v/\d*d*(u*v)<=1:=by
    rcases h with h|h
    . have g1:=h m (by omega);have g2:=h n (by omega)
      have p1:0<u:=by
       rw[<-ha1];exact ar8.2 (by grind)
      have p2:0<v:=by
       rw[<-hb1];exact ar8.2 (by grind)
      refine⟨ar6 p1 p2,?_⟩;have q1:d*u<=1:=by
       have:=ar4 (a:=a m-d) (b:=u) (by grind) (by grind);grind
      have q2:d*v<=1:=by
       have:=ar4 (a:=a n-d) (b:=v) (by grind) (by grind);grind
      have:=ar4 (a:=1-d*u) (b:=d*v) (by grind) (by have:=ar6 hd p2;grind);grind
    . have g1:=h m (by omega);have g2:=h n (by omega)
      have p1:u<0:=by
       apply ar5;intro hc;have:=ar4 (a:=-a m) (b:=u) (by grind) (by grind);grind
      have p2:v<0:=by
       apply ar5;intro hc;have:=ar4 (a:=-a n) (b:=v) (by grind) (by grind);grind
      refine⟨by have:=ar6 (a:=-u) (b:=-v) (by grind) (by grind);grind,?_⟩;have q1:d*(-u)<=1:=by
       have:=ar4 (a:=-a m-d) (b:=-u) (by grind) (by grind);grind
      have q2:d*(-v)<=1:=by
       have:=ar4 (a:=-a n-d) (b:=-v) (by grind) (by grind);grind
      have:=ar4 (a:=1-d*(-u)) (b:=d*(-v)) (by grind) (by have:=ar6 (a:=d) (b:=-v) hd (by grind);grind);grind
   have r1:u-v=(a n-a m)*(u*v):=by grind
   show(a m)⁻¹-(a n)⁻¹<e;rw[ha1,hb1,r1];have s1:=ar6 (a:=e*(d*d)-(a n-a m)) (b:=u*v) (by grind) key.1;have s2:=ar4 (a:=e) (b:=1-d*d*(u*v)) (by grind) (by grind);grind
 . intro e he
   exact⟨N,fun n hn=>by have:=hi n hn;constructor<;>grind⟩
namespace Re
theorem exists_inv{x:Re}(h:x≠0):∃y,x*y=1:=by
 induction x using ind with|_ a
 have hn:¬Nul a.f:=fun hn=>h (eqv (hn.congr fun n=>by show a.f n=a.f n-((0:Nat):Rat);grind));obtain⟨f,hf,h1⟩:=ahK a.c hn;refine⟨mk ⟨f,hf⟩,?_⟩;rw[num_mk,mul_mk];exact eqv (h1.congr fun n=>by simp only[mulC_f,ratC_f];grind)
theorem nonneg_seq{a:Cs}(h:0<=mk a)(e:Rat)(he:0<e):∃N:Nat,∀n,N<=n->-e<a.f n:=by
 rcases pos_tri (mk a)with h1|h1|h1
 . obtain⟨d,N,hd,h2⟩:=pos_mk.1 h1
   exact⟨N,fun n hn=>by have:=h2 n hn;grind⟩
 . rw[num_mk]at h1
   obtain⟨N,hN⟩:=(eqv_iff.1 h1) e he;exact⟨N,fun n hn=>by have:=hN n hn;simp only[ratC_f]at this;grind⟩
 . exfalso
   refine h ?_;have e1:(0:Re)-mk a=-mk a:=by
    rw[num_mk,neg_mk,sub_mk];exact same fun n=>by simp only[addC_f,negC_f,ratC_f];grind
   rw[e1];exact h1
theorem exists_sqrt{x:Re}(h:0<=x):∃y,0<=y/\y*y=x:=by
 induction x using ind with|_ a
 obtain⟨f,hf,h0,h1⟩:=ae3 a.c (nonneg_seq h);refine⟨mk ⟨f,hf⟩,?_,?_⟩
 . show¬Pos (0-mk ⟨f,hf⟩)
   rw[num_mk,sub_mk,pos_mk];rintro⟨d,N,hd,h2⟩;have:=h2 N (ar7 _);have:=h0 N;simp only[addC_f,negC_f,ratC_f]at*;grind
 . rw[mul_mk];exact eqv h1
end Re
end
end Go.Proofs.YtkadpnljocflaaaGreatDoor
