/- A part of the proof: contracts of functions and plain laws (FltA, Real, RealB). -/
import Derived.Test.YtjaafolhfihegaaGreatDoorU08
set_option linter.unusedVariables false
set_option linter.unusedSimpArgs false
set_option maxHeartbeats 25600000
set_option maxRecDepth 100000
namespace Go.Proofs.YtjaafolhfihegaaGreatDoor
open Ieee
open Bool renaming false_eq_true->axL
open Int renaming lt_or_le->axM,neg_mul->axP,natCast_mul->axQ,mul_lt_mul_right->axR,lt_or_eq_of_le->axT,natAbs_natCast->axU,neg_le_neg_iff->axV,compare_eq_lt->axW,compare_eq_gt->axX,natCast_pos->axZ,natAbs_neg->ax0
open Nat renaming two_pow_pos->axN,mul_lt_mul_of_pos_right->axO,add_sub_cancel->axS,lt_or_ge->axY,pow_add->ax1
variable{a:Int}{b x y:Nat}
def infR:Nat:=2047*2^52
def fneg(b:Nat):Bool:=b/2^63%2==1
def rung(b:Nat):Nat:=b%2^63
def sr(b:Nat):Int:=if fneg b then-(rung b:Int)else(rung b:Int)
def fvr(s:Int):Int:=if s<0 then-(mg s.natAbs:Int)else(mg s.natAbs:Int)
def fv(b:Nat):Int:=fvr (sr b)
def fin(b:Nat):Prop:=rung b<infR
def num(b:Nat):Prop:=rung b<=infR
theorem fin.num (h:fin b):num b:=Nat.le_of_lt h
instance(b:Nat):Decidable (fin b):=inferInstanceAs (Decidable (_<_))
instance(b:Nat):Decidable (num b):=inferInstanceAs (Decidable (_<=_))
theorem ai7{a:Nat}(h:a<b):mg a<mg b:=by
 rcases axY b (2^53)with hb|hb
 . rw[lC a (by omega),lC b hb];exact h
 . rw[jQ b (by omega)]
   obtain⟨q,hq⟩:∃q,b/2^52=q+1:=⟨b/2^52-1,by omega⟩;rw[hq,axS];have hp:=axN q;rcases axY a (2^52)with ha|ha
   . rw[lC a (by omega)]
     have:(2^52+b%2^52)*1<=(2^52+b%2^52)*2^q:=Nat.mul_le_mul_left _ hp;omega
   . rw[jQ a ha]
     obtain⟨r,hr⟩:∃r,a/2^52=r+1:=⟨a/2^52-1,by omega⟩;rw[hr,axS];rcases axY r q with hrq|hrq
     . have h1:2^(r+1)<=2^q:=Nat.pow_le_pow_right (by omega) hrq
       rw[Nat.pow_succ]at h1;have h2:(2^52+a%2^52)*2^r<(2^52*2)*2^r:=axO (by omega) (axN r);have h3:2^52*(2^r*2)<=(2^52+b%2^52)*2^q:=Nat.mul_le_mul (by omega) h1;omega
     . have:r=q:=by omega
       subst this;exact axO (by omega) hp
theorem qL:mg 0=0:=by decide
theorem aoV{a:Nat}(h:0<a):0<mg a:=by have:=ai7 h;rwa[qL]at this
theorem lD{b:Int}(h:a<b):fvr a<fvr b:=by
 unfold fvr
 split<;>split
 . have:=ai7 (a:=b.natAbs) (b:=a.natAbs) (by omega);omega
 . have:=aoV (a:=a.natAbs) (by omega);omega
 . omega
 . have:=ai7 (a:=a.natAbs) (b:=b.natAbs) (by omega);omega
theorem mX{b:Int}(h:a<=b):fvr a<=fvr b:=by
 rcases axT h with h|rfl
 . exact Int.le_of_lt (lD h)
 . exact Int.le_refl _
theorem dQ:fvr 0=0:=by decide
theorem vR{b:Int}:fvr a<fvr b↔a<b:=⟨fun h=>by
 rcases axM a b with h1|h1
 . exact h1
 . have:=mX h1;omega,lD⟩
theorem lX{b:Int}:fvr a<=fvr b↔a<=b:=⟨fun h=>by
 rcases axM b a with h1|h1
 . have:=lD h1;omega
 . exact h1,mX⟩
theorem uJ(a:Int):fvr (-a)=-fvr a:=by
 unfold fvr;rw[ax0];rcases Int.lt_trichotomy a 0 with h|h|h
 . rw[if_neg (by omega),if_pos h];omega
 . subst h;simp[qL]
 . rw[if_pos (by omega),if_neg (by omega)]
theorem cmp_eq{b c d:Int}(h1:a<b↔c<d)(h2:b<a↔d<c):compare a b=compare c d:=by
 simp only[compare,compareOfLessAndEq];by_cases h:a<b
 . rw[if_pos h,if_pos (h1.1 h)]
 . rw[if_neg h,if_neg (fun h'=>h (h1.2 h'))]
   by_cases e:a=b
   . have:c=d:=by
      have a1:¬c<d:=fun h'=>by have:=h1.2 h';omega
      have a2:¬d<c:=fun h'=>by have:=h2.2 h';omega
      omega
     rw[if_pos e,if_pos this]
   . have:¬c=d:=by
      have:b<a:=by omega
      have:=h2.1 this;omega
     rw[if_neg e,if_neg this]
theorem fC(h:fin b):∃m p,double.read b=.number (fneg b) m p/\-1074<=p/\m*2^(p+1074).toNat=mg (rung b):=by
 have h':b%2^63<2047*2^52:=h;unfold Format.read;simp only[rU,kZ,pW,lV]
 split
 . rename_i hs
   refine⟨_,_,rfl,by omega,?_⟩;have:rung b=b%2^63:=rfl;rw[this,lC _ (by omega)];simp
 . rename_i hs
   refine⟨_,_,rfl,by omega,?_⟩;have:rung b=b%2^63:=rfl;rw[this,jQ _ (by omega)]
   congr 2;omega
theorem vS(h:rung b=infR):double.read b=.infinity (fneg b):=by
 have h':b%2^63=2047*2^52:=h;unfold Format.read;simp only[rU,kZ,pW,lV];rw[if_neg (by omega),if_neg (by omega),if_pos h'];rfl
theorem fI(s:Bool)(m k:Nat):signed s m k=(if s then-((m*2^k:Nat):Int)else((m*2^k:Nat):Int)):=by
 unfold signed;rw[Nat.shiftLeft_eq]
theorem iH{m:Nat}{p:Int}(h:m*2^(p+1074).toNat=mg (rung b)):fv b=(if fneg b then-((m*2^(p+1074).toNat:Nat):Int)else((m*2^(p+1074).toNat:Nat):Int)):=by
 rw[h];unfold fv sr fvr
 cases fneg b
 . simp only[axL,if_false]
   rw[if_neg (by omega),axU]
 . simp only[if_true]
   rw[ax0,axU];rcases Nat.eq_zero_or_pos (rung b)with h0|h0
   . rw[h0,qL];simp
   . rw[if_pos (by omega)]
theorem gD(s:Bool)(m k j:Nat):signed s m k*(2^j:Nat)=signed s m (k+j):=by
 rw[fI,fI,ax1]
 cases s<;>simp[Int.mul_assoc,axP]
theorem agV(hx:num x)(hy:num y):double.order x y=some (compare (sr x) (sr y)):=by
 have srx:-(infR:Int)<=sr x/\sr x<=infR:=by unfold num at hx;unfold sr;split<;>omega
 have sry:-(infR:Int)<=sr y/\sr y<=infR:=by unfold num at hy;unfold sr;split<;>omega
 unfold Format.order;by_cases fx:fin x
 . obtain⟨m,p,e1,p1,v1⟩:=fC fx
   have x1:-(infR:Int)<sr x/\sr x<infR:=by unfold fin at fx;unfold sr;split<;>omega
   by_cases fy:fin y
   . obtain⟨n,q,e2,q1,v2⟩:=fC fy
     rw[e1,e2];simp only[Datum.order,Option.some.injEq];have hp:=iH v1;have hq:=iH v2;have s1:signed (fneg x) m (p-min p q).toNat*(2^(min p q+1074).toNat:Nat)=fv x:=by
      rw[gD,fI,hp];have:(p-min p q).toNat+(min p q+1074).toNat=(p+1074).toNat:=by omega
      rw[this]
     have s2:signed (fneg y) n (q-min p q).toNat*(2^(min p q+1074).toNat:Nat)=fv y:=by
      rw[gD,fI,hq];have:(q-min p q).toNat+(min p q+1074).toNat=(q+1074).toNat:=by omega
      rw[this]
     have hpos:(0:Int)<(2^(min p q+1074).toNat:Nat):=axZ.2 (axN _);refine cmp_eq ?_ ?_
     . exact((axR hpos).symm).trans (by rw[s1,s2];exact vR)
     . exact((axR hpos).symm).trans (by rw[s1,s2];exact vR)
   . have ry:rung y=infR:=by unfold num fin at*;omega
     rw[e1,vS ry];simp only[Datum.order];unfold sr at*;rw[ry]at*
     cases fneg y
     . simp only[axL,if_false]at*
       rw[show compare (if fneg x=true then-(rung x:Int)else(rung x:Int)) (infR:Int)=.lt from by rw[axW];exact x1.2]
     . simp only[if_true]at*
       rw[show compare (if fneg x=true then-(rung x:Int)else(rung x:Int)) (-(infR:Int))=.gt from by rw[axX];exact x1.1]
 . have rx:rung x=infR:=by unfold num fin at*;omega
   rw[vS rx];by_cases fy:fin y
   . obtain⟨n,q,e2,q1,v2⟩:=fC fy
     have y1:-(infR:Int)<sr y/\sr y<infR:=by unfold fin at fy;unfold sr;split<;>omega
     rw[e2];simp only[Datum.order];unfold sr at*;rw[rx]at*
     cases fneg x
     . simp only[axL,if_false]at*
       rw[show compare (infR:Int) (if fneg y=true then-(rung y:Int)else(rung y:Int))=.gt from by rw[axX];exact y1.2]
     . simp only[if_true]at*
       rw[show compare (-(infR:Int)) (if fneg y=true then-(rung y:Int)else(rung y:Int))=.lt from by rw[axW];exact y1.1]
   . have ry:rung y=infR:=by unfold num fin at*;omega
     rw[vS ry];simp only[Datum.order];unfold sr;rw[rx,ry]
     cases fneg x<;>cases fneg y<;>decide
def Near(r:Nat)(N:Int)(t:Nat):Prop:=num r/\
 (∀c:Int,-(infR:Int)<=c->c<=infR->fvr c*(2^(t-1074):Nat)<=N->c<=sr r)/\
 (∀c:Int,-(infR:Int)<=c->c<=infR->N<=fvr c*(2^(t-1074):Nat)->sr r<=c)
theorem uK{neg:Bool}{r:Nat}(h:r<=infR):sr (double.word neg r)=(if neg then-(r:Int)else(r:Int))/\rung (double.word neg r)=r:=by
 have h':r<=2047*2^52:=h;unfold sr fneg rung Format.word;simp only[rU]
 cases neg
 . simp only[axL,if_false]
   have e1:r/2^63%2=0:=by omega
   have e2:r%2^63=r:=by omega
   rw[e1,e2];simp
 . simp only[if_true]
   have e1:(2^63+r)/2^63%2=1:=by omega
   have e2:(2^63+r)%2^63=r:=by omega
   rw[e1,e2];simp
theorem rV(mag:Nat)(place:Int):rg mag place<=infR:=by
 unfold rg;split
 . unfold infR;omega
 . exact Nat.min_le_right _ _
theorem gF(neg:Bool)(mag:Nat)(place:Int)(t:Nat)(ht:0<=place+t)(ht2:1074<=t)(N:Int)(hN:N=(if neg then-((mag*2^(place+t).toNat:Nat):Int)else((mag*2^(place+t).toNat:Nat):Int))):
 Near (double.nearest neg mag place) N t:=by
 rw[lW];obtain⟨e1,e2⟩:=uK (neg:=neg) (rV mag place);have hpos:(0:Int)<(2^(t-1074):Nat):=axZ.2 (axN _);refine⟨by unfold num;rw[e2];exact rV _ _,fun c c1 c2 h=> ?_,fun c c1 c2 h=> ?_⟩
 . rw[e1]
   cases neg
   . simp only[axL,if_false]at hN|-
     rcases axM c 0 with hc|hc
     . omega
     . have:c.toNat<=rg mag place:=by
        refine aoB mag place t ht ht2 _ (by unfold infR at c2;omega) ?_;unfold fvr at h;rw[if_neg (by omega),hN]at h;have:c.natAbs=c.toNat:=by omega
        rw[this]at h
        exact_mod_cast h
       omega
   . simp only[if_true]at hN|-
     rcases axM c 0 with hc|hc
     . have:rg mag place<=c.natAbs:=by
        refine ai6 mag place t ht ht2 _ ?_;unfold fvr at h;rw[if_pos hc,hN,axP]at h;have h2:=axV.1 h
        exact_mod_cast h2
       omega
     . have h1:0<=fvr c:=by have:=mX hc;rwa[dQ]at this
       have h2:0<=fvr c*(2^(t-1074):Nat):=Int.mul_nonneg h1 (by omega);have h3:mag*2^(place+t).toNat=0:=by omega
       have h5:rg mag place=0:=by
        have:=ai6 mag place t ht ht2 0 (by rw[h3];exact Nat.zero_le _);omega
       have h6:fvr c=0:=by
        rcases axT h1 with h7|h7
        . have:=Int.mul_pos h7 hpos;omega
        . exact h7.symm
       have h8:c<=0:=by rw[<-lX,h6,dQ];omega
       omega
 . rw[e1]
   cases neg
   . simp only[axL,if_false]at hN|-
     rcases axM c 0 with hc|hc
     . have h1:fvr c<0:=by have:=lD hc;rwa[dQ]at this
       have h2:fvr c*(2^(t-1074):Nat)<0:=Int.mul_neg_of_neg_of_pos h1 hpos;omega
     . have:rg mag place<=c.natAbs:=by
        refine ai6 mag place t ht ht2 _ ?_;unfold fvr at h;rw[if_neg (by omega),hN]at h
        exact_mod_cast h
       omega
   . simp only[if_true]at hN|-
     rcases axM c 0 with hc|hc
     . have:c.natAbs<=rg mag place:=by
        refine aoB mag place t ht ht2 _ (by unfold infR at c1;omega) ?_;unfold fvr at h;rw[if_pos hc,hN,axP]at h;have h2:=axV.1 h
        exact_mod_cast h2
       omega
     . omega
theorem vT(hx:fin x)(hy:fin y):∃r,double.add x y=some r/\r<2^64/\Near r (fv x+fv y) 1074:=by
 obtain⟨m,p,e1,p1,v1⟩:=fC hx;obtain⟨n,q,e2,q1,v2⟩:=fC hy;have hp:=iH v1;have hq:=iH v2;have h:double.add x y=some (double.nearest (if signed (fneg x) m (p-min p q).toNat+signed (fneg y) n (q-min p q).toNat=0 then fneg x&&fneg y else signed (fneg x) m (p-min p q).toNat+signed (fneg y) n (q-min p q).toNat<0) (signed (fneg x) m (p-min p q).toNat+signed (fneg y) n (q-min p q).toNat).natAbs (min p q)):=by
  unfold Format.add;rw[e1,e2];rfl
 refine⟨_,h,double.add_lt h,?_⟩;refine gF _ _ _ 1074 (by omega) (by omega) _ ?_;have s1:signed (fneg x) m (p-min p q).toNat*(2^(min p q+1074).toNat:Nat)=fv x:=by
  rw[gD,fI,hp];have:(p-min p q).toNat+(min p q+1074).toNat=(p+1074).toNat:=by omega
  rw[this]
 have s2:signed (fneg y) n (q-min p q).toNat*(2^(min p q+1074).toNat:Nat)=fv y:=by
  rw[gD,fI,hq];have:(q-min p q).toNat+(min p q+1074).toNat=(q+1074).toNat:=by omega
  rw[this]
 rw[<-s1,<-s2,<-Int.add_mul];generalize signed (fneg x) m (p-min p q).toNat+signed (fneg y) n (q-min p q).toNat=T;have e:(min p q+(1074:Nat):Int).toNat=(min p q+1074).toNat:=rfl;rw[e];generalize (2^(min p q+1074).toNat:Nat)=M;by_cases h0:T=0
 . subst h0;simp
 . rw[if_neg h0]
   by_cases h1:T<0
   . rw[if_pos (by simpa using h1)]
     rw[axQ,<-axP];congr 1;omega
   . rw[if_neg (by simpa using h1)]
     rw[axQ];congr 1;omega
theorem mY(hx:fin x)(hy:fin y):∃r,double.mul x y=some r/\r<2^64/\Near r (fv x*fv y) 2148:=by
 obtain⟨m,p,e1,p1,v1⟩:=fC hx;obtain⟨n,q,e2,q1,v2⟩:=fC hy;have hp:=iH v1;have hq:=iH v2;have h:double.mul x y=some (double.nearest (fneg x^^fneg y) (m*n) (p+q)):=by
  unfold Format.mul;rw[e1,e2];rfl
 refine⟨_,h,double.mul_lt h,?_⟩;refine gF _ _ _ 2148 (by omega) (by omega) _ ?_;rw[hp,hq];have e:m*n*2^(p+q+(2148:Nat):Int).toNat=(m*2^(p+1074).toNat)*(n*2^(q+1074).toNat):=by
  have:(p+q+(2148:Nat):Int).toNat=(p+1074).toNat+(q+1074).toNat:=by omega
  rw[this,ax1];simp only[Nat.mul_assoc,Nat.mul_left_comm]
 rw[e]
 cases fneg x<;>cases fneg y<;>simp[axQ,axP,Int.mul_neg]
end Go.Proofs.YtjaafolhfihegaaGreatDoor
namespace Go.Proofs.YtjaafolhfihegaaGreatDoor
open Classical renaming byContradiction->ax3
open Nat renaming le_refl->ax5,zero_le->ax7
open Rat renaming mul_nonneg->ax2,mul_pos->ax4,inv_pos->ax6
variable{a:Nat->Rat}{e q:Rat}
def Cau(f:Nat->Rat):Prop:=∀e:Rat,0<e->∃N:Nat,∀m n,N<=m->N<=n->f m-f n<e
def Nul(f:Nat->Rat):Prop:=∀e:Rat,0<e->∃N:Nat,∀n,N<=n->-e<f n/\f n<e
theorem aaC{x y A d:Rat}(h1:-A<x)(h2:x<A)(h3:-d<y)(h4:y<d):-(A*d)<x*y/\x*y<A*d:=by
 have a1:0<(A-x)*(d+y):=ax4 (by grind) (by grind);have a2:0<(A+x)*(d-y):=ax4 (by grind) (by grind);have a3:0<(A-x)*(d-y):=ax4 (by grind) (by grind);have a4:0<(A+x)*(d+y):=ax4 (by grind) (by grind);constructor<;>grind
theorem dM{a b:Rat}(ha:0<a)(hb:0<b):0<a/b:=by
 rw[Rat.div_def];exact ax4 ha (ax6.2 hb)
section
variable{f g:Nat->Rat}
theorem Cau.bd (h:Cau f):∃(M:Rat) (N:Nat),0<M/\∀n,N<=n->-M<f n/\f n<M:=by
 obtain⟨N,hN⟩:=h 1 (by decide);refine⟨(if 0<=f N then f N else-f N)+1,N,by split<;>grind,fun n hn=> ?_⟩;have h1:=hN n N hn (ax5 _);have h2:=hN N n (ax5 _) hn
 split<;>constructor<;>grind
theorem Cau.add (h:Cau f)(k:Cau g):Cau (fun n=>f n+g n):=by
 intro e he;obtain⟨N,hN⟩:=h (e/2) (dM he (by decide));obtain⟨M,hM⟩:=k (e/2) (dM he (by decide));refine⟨max N M,fun m n hm hn=> ?_⟩;have h1:=hN m n (by omega) (by omega);have h2:=hM m n (by omega) (by omega);grind
theorem Cau.neg (h:Cau f):Cau (fun n=>-f n):=by
 intro e he;obtain⟨N,hN⟩:=h e he;refine⟨N,fun m n hm hn=> ?_⟩;have h1:=hN n m hn hm;grind
theorem Cau.mul (h:Cau f)(k:Cau g):Cau (fun n=>f n*g n):=by
 intro e he;obtain⟨A,N1,hA,h1⟩:=h.bd;obtain⟨B,N2,hB,h2⟩:=k.bd;obtain⟨N3,h3⟩:=h (e/(2*B)) (dM he (by grind));obtain⟨N4,h4⟩:=k (e/(2*A)) (dM he (by grind));refine⟨max (max N1 N2) (max N3 N4),fun m n hm hn=> ?_⟩;have a1:=h1 m (by omega);have a2:=h2 n (by omega);have b1:=h3 m n (by omega) (by omega);have b2:=h3 n m (by omega) (by omega);have b3:=h4 m n (by omega) (by omega);have b4:=h4 n m (by omega) (by omega);have c1:=(aaC a1.1 a1.2 (y:=g m-g n) (d:=e/(2*A)) (by grind) b3).2;have c2:=(aaC a2.1 a2.2 (y:=f m-f n) (d:=e/(2*B)) (by grind) b1).2;have d1:A*(e/(2*A))=e/2:=by grind
 have d2:B*(e/(2*B))=e/2:=by grind
 rw[d1]at c1;rw[d2]at c2;grind
theorem Cau.const (q:Rat):Cau (fun _=>q):=fun e he=>⟨0,fun m n _ _=>by grind⟩
theorem Nul.add (h:Nul f)(k:Nul g):Nul (fun n=>f n+g n):=by
 intro e he;obtain⟨N,hN⟩:=h (e/2) (dM he (by decide));obtain⟨M,hM⟩:=k (e/2) (dM he (by decide));refine⟨max N M,fun n hn=> ?_⟩;have h1:=hN n (by omega);have h2:=hM n (by omega);constructor<;>grind
theorem Nul.neg (h:Nul f):Nul (fun n=>-f n):=by
 intro e he;obtain⟨N,hN⟩:=h e he;exact⟨N,fun n hn=>by have:=hN n hn;constructor<;>grind⟩
theorem Nul.mul (h:Nul f)(k:Cau g):Nul (fun n=>f n*g n):=by
 intro e he;obtain⟨B,N2,hB,h2⟩:=k.bd;obtain⟨N3,h3⟩:=h (e/B) (dM he hB);refine⟨max N2 N3,fun n hn=> ?_⟩;have a:=h2 n (by omega);have b:=h3 n (by omega);have:=aaC b.1 b.2 a.1 a.2;have d:e/B*B=e:=by grind
 rw[d]at this;exact this
theorem Cau.apart (h:Cau f)(hn:¬Nul f):∃(d:Rat) (N:Nat),0<d/\((∀n,N<=n->d<f n)\/(∀n,N<=n->f n< -d)):=by
 have:∃e:Rat,0<e/\∀N:Nat,∃n,N<=n/\(f n<=-e\/e<=f n):=by
  apply ax3;intro hc;refine hn fun e he=> ?_;apply ax3;intro hd;refine hc ⟨e,he,fun N=> ?_⟩;apply ax3;intro hf;refine hd ⟨N,fun n hnn=> ?_⟩;have:¬(f n<=-e\/e<=f n):=fun hh=>hf ⟨n,hnn,hh⟩;constructor<;>grind
 obtain⟨e,he,hN⟩:=this;obtain⟨N,hc⟩:=h (e/2) (dM he (by decide));obtain⟨n,hn1,hn2⟩:=hN N;refine⟨e/2,N,dM he (by decide),?_⟩;rcases hn2 with hn2|hn2
 . right;intro m hm
   have:=hc m n hm hn1;grind
 . left;intro m hm
   have:=hc n m hn1 hm;grind
end
structure Cs where
 f:Nat->Rat
 c:Cau f
def Cs.eqv (a b:Cs):Prop:=Nul (fun n=>a.f n-b.f n)
instance abN:Setoid Cs where
 r:=Cs.eqv
 iseqv:={
  refl:=fun a e he=>⟨0,fun n _=>by constructor<;>grind⟩
  symm:=fun{a b} h=>by
   have:=Nul.neg h;intro e he;obtain⟨N,hN⟩:=this e he;exact⟨N,fun n hn=>by have:=hN n hn;constructor<;>grind⟩
  trans:=fun{a b c} h k=>by
   have:=Nul.add h k;intro e he;obtain⟨N,hN⟩:=this e he;exact⟨N,fun n hn=>by have:=hN n hn;constructor<;>grind⟩}
theorem Nul.congr {f g:Nat->Rat}(h:Nul f)(e:∀n,f n=g n):Nul g:=by
 have:f=g:=funext e;rw[<-this];exact h
def Re:Type:=Quotient abN
namespace Re
def mk(a:Cs):Re:=Quotient.mk abN a
theorem ind{p:Re->Prop}(h:∀a,p (mk a))(x:Re):p x:=Quotient.ind h x
theorem eqv{a b:Cs}(h:Nul (fun n=>a.f n-b.f n)):mk a=mk b:=Quotient.sound h
theorem eqv_iff{a b:Cs}:mk a=mk b↔Nul (fun n=>a.f n-b.f n):=⟨fun h=>Quotient.exact h,eqv⟩
theorem same{a b:Cs}(h:∀n,a.f n=b.f n):mk a=mk b:=eqv fun e he=>⟨0,fun n _=>by have:=h n;constructor<;>grind⟩
def addC(a b:Cs):Cs:=⟨fun n=>a.f n+b.f n,a.c.add b.c⟩
def mulC(a b:Cs):Cs:=⟨fun n=>a.f n*b.f n,a.c.mul b.c⟩
def negC(a:Cs):Cs:=⟨fun n=>-a.f n,a.c.neg⟩
def ratC(q:Rat):Cs:=⟨fun _=>q,Cau.const q⟩
instance:Add Re:=⟨Quotient.lift₂ (fun a b=>mk (addC a b)) fun a b c d h k=>eqv ((Nul.add h k).congr fun n=>by simp only[addC];grind)⟩
instance:Mul Re:=⟨Quotient.lift₂ (fun a b=>mk (mulC a b)) fun a b c d h k=>eqv ((Nul.add (Nul.mul h b.c) (Nul.mul k c.c)).congr fun n=>by simp only[mulC];grind)⟩
instance:Neg Re:=⟨Quotient.lift (fun a=>mk (negC a)) fun a b h=>eqv ((Nul.neg h).congr fun n=>by simp only[negC];grind)⟩
instance:Sub Re:=⟨fun x y=>x+-y⟩
def rat(q:Rat):Re:=mk (ratC q)
instance{n:Nat}:OfNat Re n:=⟨rat (n:Nat)⟩
theorem add_mk(a b:Cs):mk a+mk b=mk (addC a b):=rfl
theorem mul_mk(a b:Cs):mk a*mk b=mk (mulC a b):=rfl
theorem neg_mk(a:Cs):-mk a=mk (negC a):=rfl
theorem sub_mk(a b:Cs):mk a-mk b=mk (addC a (negC b)):=rfl
theorem num_mk(n:Nat):(OfNat.ofNat n:Re)=mk (ratC (n:Rat)):=rfl
theorem rat_mk(q:Rat):rat q=mk (ratC q):=rfl
theorem addC_f(a b:Cs)(n:Nat):(addC a b).f n=a.f n+b.f n:=rfl
theorem mulC_f(a b:Cs)(n:Nat):(mulC a b).f n=a.f n*b.f n:=rfl
theorem negC_f(a:Cs)(n:Nat):(negC a).f n=-a.f n:=rfl
theorem ratC_f(q:Rat)(n:Nat):(ratC q).f n=q:=rfl
def Pos(x:Re):Prop:=∃a:Cs,mk a=x/\∃(d:Rat) (N:Nat),0<d/\∀n,N<=n->d<a.f n
theorem pos_mk{a:Cs}:Pos (mk a)↔∃(d:Rat) (N:Nat),0<d/\∀n,N<=n->d<a.f n:=by
 constructor
 . rintro⟨b,hb,d,N,hd,h⟩
   obtain⟨M,hM⟩:=(eqv_iff.1 hb) (d/2) (dM hd (by decide));refine⟨d/2,max N M,dM hd (by decide),fun n hn=> ?_⟩;have h1:=h n (by omega);have h2:=hM n (by omega);grind
 . exact fun h=>⟨a,rfl,h⟩
theorem pos_add{x y:Re}(h:Pos x)(k:Pos y):Pos (x+y):=by
 induction x using ind with|_ a
 induction y using ind with|_ b
 obtain⟨d,N,hd,h⟩:=pos_mk.1 h;obtain⟨d',N',hd',h'⟩:=pos_mk.1 k;rw[add_mk,pos_mk];exact⟨d+d',max N N',by grind,fun n hn=>by have:=h n (by omega);have:=h' n (by omega);simp only[addC_f];grind⟩
theorem pos_mul{x y:Re}(h:Pos x)(k:Pos y):Pos (x*y):=by
 induction x using ind with|_ a
 induction y using ind with|_ b
 obtain⟨d,N,hd,h⟩:=pos_mk.1 h;obtain⟨d',N',hd',h'⟩:=pos_mk.1 k;rw[mul_mk,pos_mk];refine⟨d*d',max N N',ax4 hd hd',fun n hn=> ?_⟩;have h1:=h n (by omega);have h2:=h' n (by omega);simp only[mulC_f];have a1:0<(a.f n-d)*(b.f n-d'):=ax4 (by grind) (by grind);have a2:0<d*(b.f n-d'):=ax4 hd (by grind);have a3:0<d'*(a.f n-d):=ax4 hd' (by grind);grind
theorem pos_tri(x:Re):Pos x\/x=0\/Pos (-x):=by
 induction x using ind with|_ a
 by_cases h:Nul a.f
 . right;left
   exact eqv (h.congr fun n=>by show a.f n=a.f n-((0:Nat):Rat);grind)
 . obtain⟨d,N,hd,h|h⟩:=a.c.apart h
   . left;exact pos_mk.2 ⟨d,N,hd,h⟩
   . right;right;rw[neg_mk];exact pos_mk.2 ⟨d,N,hd,fun n hn=>by have:=h n hn;simp only[negC_f];grind⟩
theorem pos_zero:¬Pos 0:=by
 rw[num_mk,pos_mk];rintro⟨d,N,hd,h⟩;have:=h N (ax5 _);simp only[ratC_f]at this;grind
theorem pos_rat:Pos (rat q)↔0<q:=by
 rw[rat_mk,pos_mk];constructor
 . rintro⟨d,N,hd,h⟩
   have:=h N (ax5 _);simp only[ratC_f]at this;grind
 . intro h
   exact⟨q/2,0,dM h (by decide),fun n _=>by simp only[ratC_f];grind⟩
instance:LT Re:=⟨fun x y=>Pos (y-x)⟩
instance:LE Re:=⟨fun x y=>¬Pos (x-y)⟩
theorem lt_def{x y:Re}:x<y↔Pos (y-x):=Iff.rfl
theorem zero_add(x:Re):0+x=x:=by
 induction x using ind with|_ a
 rw[num_mk,add_mk];exact same fun n=>by simp only[addC_f,ratC_f];grind
theorem mul_comm(x y:Re):x*y=y*x:=by
 induction x using ind with|_ a
 induction y using ind with|_ b
 rw[mul_mk,mul_mk];exact same fun n=>by simp only[mulC_f];grind
theorem mul_assoc(x y z:Re):x*y*z=x*(y*z):=by
 induction x using ind with|_ a
 induction y using ind with|_ b
 induction z using ind with|_ c
 simp only[mul_mk];exact same fun n=>by simp only[mulC_f];grind
theorem one_mul(x:Re):1*x=x:=by
 induction x using ind with|_ a
 rw[num_mk,mul_mk];exact same fun n=>by simp only[mulC_f,ratC_f];grind
theorem add_mul(x y z:Re):(x+y)*z=x*z+y*z:=by
 induction x using ind with|_ a
 induction y using ind with|_ b
 induction z using ind with|_ c
 simp only[mul_mk,add_mk];exact same fun n=>by simp only[mulC_f,addC_f];grind
theorem sub_def(x y:Re):x-y=x+-y:=rfl
theorem rat_add(p q:Rat):rat (p+q)=rat p+rat q:=by
 simp only[rat_mk,add_mk];exact same fun n=>by simp only[addC_f,ratC_f]
theorem rat_mul(p q:Rat):rat (p*q)=rat p*rat q:=by
 simp only[rat_mk,mul_mk];exact same fun n=>by simp only[mulC_f,ratC_f]
theorem rat_neg(p:Rat):rat (-p)=-rat p:=by
 simp only[rat_mk,neg_mk];exact same fun n=>by simp only[negC_f,ratC_f]
end Re
theorem amI{P:Nat->Prop}(h0:P 0){K:Nat}(hK:¬P K):∃k,P k/\¬P (k+1):=by
 induction K with
 |zero=>exact absurd h0 hK
 |succ K ih=>
  by_cases h:P K
  . exact⟨K,h,hK⟩
  . exact ih h
theorem ae9(r:Rat):∃K:Nat,r<=(K:Rat):=by
 refine⟨r.ceil.toNat,Rat.le_trans Rat.le_ceil ?_⟩;have:(r.ceil:Int)<=((r.ceil.toNat:Nat):Int):=Int.self_le_toNat _;have h2:=Rat.intCast_le_intCast.2 this;rwa[Rat.intCast_natCast]at h2
theorem apZ{u v:Rat}(hu:0<=u)(hv:0<=v)(he:0<e)(h:u*u-v*v<e*e):u-v<e:=by
 apply ax3;intro hc;have h1:0<=(u-v-e)*(u+v+e):=ax2 (by grind) (by grind);have h2:0<=v*e:=ax2 hv (by grind);grind
theorem ai8(hq:0<=q)(he:0<e):∃u:Rat,0<=u/\u*u<=q/\q<u*u+e:=by
 obtain⟨d,hd,h1,h2⟩:∃d:Rat,0<d/\d<=1/\d*(2*q+3)<=e:=by
  have hp:(0:Rat)<2*q+3:=by grind
  have hc:e/(2*q+3)*(2*q+3)=e:=by grind
  rcases(Rat.le_total:e/(2*q+3)<=1\/_)with h|h
  . exact⟨e/(2*q+3),dM he hp,h,by grind⟩
  . refine⟨1,by decide,by grind,?_⟩
    have:=ax2 (a:=e/(2*q+3)-1) (b:=2*q+3) (by grind) (by grind);grind
 obtain⟨K,hK⟩:=ae9 ((q+1)/d);have hKd:q+1<=(K:Rat)*d:=by
  have h3:(q+1)/d*d=q+1:=by grind
  have:=ax2 (a:=(K:Rat)-(q+1)/d) (b:=d) (by grind) (by grind);grind
 obtain⟨k,k1,k2⟩:=amI (P:=fun k=>(k:Rat)*d*((k:Rat)*d)<=q) (by simpa using hq) (K:=K) (by
  have:=ax2 (a:=(K:Rat)*d-(q+1)) (b:=(K:Rat)*d+(q+1)) (by grind) (by grind);have:=ax2 hq hq;grind)
 have hk0:0<=(k:Rat)*d:=ax2 (by exact_mod_cast ax7 k) (by grind);refine⟨(k:Rat)*d,hk0,k1,?_⟩;have e1:((k+1:Nat):Rat)*d=(k:Rat)*d+d:=by
  rw[Rat.natCast_add];grind
 simp only[e1]at k2;generalize (k:Rat)*d=u at*;have hu:u<=q+1:=by
  apply ax3;intro hc;have:=ax2 (a:=u-(q+1)) (b:=u+(q+1)) (by grind) (by grind);have:=ax2 hq hq;grind
 have h3:=ax2 (a:=d) (b:=2*q+3-(2*u+d)) (by grind) (by grind);grind
theorem yO(he:0<e):∃N:Nat,∀n,N<=n->1/((n:Rat)+1)<e:=by
 obtain⟨K,hK⟩:=ae9 (1/e);refine⟨K,fun n hn=> ?_⟩;have h1:(K:Rat)<=(n:Rat):=by exact_mod_cast hn
 have h2:(0:Rat)<(n:Rat)+1:=by
  have:(0:Rat)<=(n:Rat):=by exact_mod_cast ax7 n
  grind
 rw[Rat.div_lt_iff h2];have h3:1/e*e=1:=by grind
 have:=ax2 (a:=(n:Rat)-1/e) (b:=e) (by grind) (by grind);grind
theorem ai9(n:Nat):(0:Rat)<1/((n:Rat)+1):=by
 have:(0:Rat)<=(n:Rat):=by exact_mod_cast ax7 n
 exact dM (by decide) (by grind)
theorem ajA(ha:Cau a)(h0:∀e:Rat,0<e->∃N:Nat,∀n,N<=n->-e<a n):
 ∃f:Nat->Rat,Cau f/\(∀n,0<=f n)/\Nul (fun n=>f n*f n-a n):=by
 have hb:∀n,∃u:Rat,0<=u/\u*u<=(if 0<=a n then a n else 0)/\(if 0<=a n then a n else 0)<u*u+1/((n:Rat)+1):=fun n=>
  ai8 (by split<;>grind) (ai9 n)
 refine⟨fun n=>(hb n).choose,?_,fun n=>(hb n).choose_spec.1,?_⟩
 . intro e he
   have hee:0<e*e:=ax4 he he;obtain⟨N,hN⟩:=ha (e*e/2) (dM hee (by decide));obtain⟨M,hM⟩:=yO (e:=e*e/2) (dM hee (by decide));refine⟨max N M,fun m n hm hn=> ?_⟩;have h1:=hN m n (by omega) (by omega);have h2:=hM n (by omega);obtain⟨a1,a2,a3⟩:=(hb m).choose_spec;obtain⟨b1,b2,b3⟩:=(hb n).choose_spec;refine apZ a1 b1 he ?_;generalize (hb m).choose=u at*;generalize (hb n).choose=v at*;by_cases c1:0<=a m<;>by_cases c2:0<=a n<;>simp only[c1,c2,if_true,if_false]at a2 a3 b2 b3<;>grind
 . intro e he
   obtain⟨N,hN⟩:=h0 e he;obtain⟨M,hM⟩:=yO he;refine⟨max N M,fun n hn=> ?_⟩;have h1:=hN n (by omega);have h2:=hM n (by omega);obtain⟨b1,b2,b3⟩:=(hb n).choose_spec;show-e<(hb n).choose*(hb n).choose-a n/\(hb n).choose*(hb n).choose-a n<e;generalize (hb n).choose=v at*;by_cases c2:0<=a n<;>simp only[c2,if_true,if_false]at b2 b3<;>constructor<;>grind
theorem amJ(ha:Cau a)(h0:¬Nul a):∃f:Nat->Rat,Cau f/\Nul (fun n=>a n*f n-1):=by
 obtain⟨d,N,hd,h⟩:=ha.apart h0;have hne:∀n,N<=n->a n≠0:=fun n hn=>by rcases h with h|h<;>have:=h n hn<;>grind
 have hi:∀n,N<=n->a n*(a n)⁻¹=1:=fun n hn=>Rat.mul_inv_cancel _ (hne n hn);refine⟨fun n=>(a n)⁻¹,?_,?_⟩
 . intro e he
   obtain⟨M,hM⟩:=ha (e*(d*d)) (ax4 he (ax4 hd hd));refine⟨max N M,fun m n hm hn=> ?_⟩;have h1:=hM m n (by omega) (by omega);have h2:=hM n m (by omega) (by omega);have i1:=hi m (by omega);have i2:=hi n (by omega);generalize ha1:(a m)⁻¹=u at*;generalize hb1:(a n)⁻¹=v at*
   -- u - v = (a n - a m) * (u * v), and 1 - d*d*u*v >= 0
   have key:0<u*v/\d*d*(u*v)<=1:=by
    rcases h with h|h
    . have g1:=h m (by omega);have g2:=h n (by omega)
      have p1:0<u:=by
       rw[<-ha1];exact ax6.2 (by grind)
      have p2:0<v:=by
       rw[<-hb1];exact ax6.2 (by grind)
      refine⟨ax4 p1 p2,?_⟩;have q1:d*u<=1:=by
       have:=ax2 (a:=a m-d) (b:=u) (by grind) (by grind);grind
      have q2:d*v<=1:=by
       have:=ax2 (a:=a n-d) (b:=v) (by grind) (by grind);grind
      have:=ax2 (a:=1-d*u) (b:=d*v) (by grind) (by have:=ax4 hd p2;grind);grind
    . have g1:=h m (by omega);have g2:=h n (by omega)
      have p1:u<0:=by
       apply ax3;intro hc;have:=ax2 (a:=-a m) (b:=u) (by grind) (by grind);grind
      have p2:v<0:=by
       apply ax3;intro hc;have:=ax2 (a:=-a n) (b:=v) (by grind) (by grind);grind
      refine⟨by have:=ax4 (a:=-u) (b:=-v) (by grind) (by grind);grind,?_⟩;have q1:d*(-u)<=1:=by
       have:=ax2 (a:=-a m-d) (b:=-u) (by grind) (by grind);grind
      have q2:d*(-v)<=1:=by
       have:=ax2 (a:=-a n-d) (b:=-v) (by grind) (by grind);grind
      have:=ax2 (a:=1-d*(-u)) (b:=d*(-v)) (by grind) (by have:=ax4 (a:=d) (b:=-v) hd (by grind);grind);grind
   have r1:u-v=(a n-a m)*(u*v):=by grind
   show(a m)⁻¹-(a n)⁻¹<e;rw[ha1,hb1,r1];have s1:=ax4 (a:=e*(d*d)-(a n-a m)) (b:=u*v) (by grind) key.1;have s2:=ax2 (a:=e) (b:=1-d*d*(u*v)) (by grind) (by grind);grind
 . intro e he
   exact⟨N,fun n hn=>by have:=hi n hn;constructor<;>grind⟩
namespace Re
theorem exists_inv{x:Re}(h:x≠0):∃y,x*y=1:=by
 induction x using ind with|_ a
 have hn:¬Nul a.f:=fun hn=>h (eqv (hn.congr fun n=>by show a.f n=a.f n-((0:Nat):Rat);grind));obtain⟨f,hf,h1⟩:=amJ a.c hn;refine⟨mk ⟨f,hf⟩,?_⟩;rw[num_mk,mul_mk];exact eqv (h1.congr fun n=>by simp only[mulC_f,ratC_f];grind)
theorem nonneg_seq{a:Cs}(h:0<=mk a)(e:Rat)(he:0<e):∃N:Nat,∀n,N<=n->-e<a.f n:=by
 rcases pos_tri (mk a)with h1|h1|h1
 . obtain⟨d,N,hd,h2⟩:=pos_mk.1 h1
   exact⟨N,fun n hn=>by have:=h2 n hn;grind⟩
 . rw[num_mk]at h1
   obtain⟨N,hN⟩:=(eqv_iff.1 h1) e he;exact⟨N,fun n hn=>by have:=hN n hn;simp only[ratC_f]at this;grind⟩
 . exfalso
   refine h ?_;have e1:(0:Re)-mk a=-mk a:=by
    rw[num_mk,neg_mk,sub_mk];exact same fun n=>by simp only[addC_f,negC_f,ratC_f];grind
   rw[e1];exact h1
theorem exists_sqrt{x:Re}(h:0<=x):∃y,0<=y/\y*y=x:=by
 induction x using ind with|_ a
 obtain⟨f,hf,h0,h1⟩:=ajA a.c (nonneg_seq h);refine⟨mk ⟨f,hf⟩,?_,?_⟩
 . show¬Pos (0-mk ⟨f,hf⟩)
   rw[num_mk,sub_mk,pos_mk];rintro⟨d,N,hd,h2⟩;have:=h2 N (ax5 _);have:=h0 N;simp only[addC_f,negC_f,ratC_f]at*;grind
 . rw[mul_mk];exact eqv h1
end Re
end Go.Proofs.YtjaafolhfihegaaGreatDoor
