/- A part of the proof: contracts of functions and plain laws (FltR, FltQ, FltB, GapA, GapB). -/
import Derived.Test.YtigoiiekebccnaaGreatDoorK08
import Derived.Test.YtigoiiekebccnaaGreatDoorK09
import Derived.Test.YtigoiiekebccnaaGreatDoorK01
import Derived.Test.YtigoiiekebccnaaGreatDoorK07
set_option linter.unusedVariables false
set_option linter.unusedSimpArgs false
set_option linter.unnecessarySimpa false
set_option maxHeartbeats 25600000
set_option maxRecDepth 100000
namespace Go.Proofs.YtigoiiekebccnaaGreatDoor
section
open Ieee
open Re (ofI ofN)
open Bool renaming false_eq_true->axN
open Nat renaming two_pow_pos->axJ,pow_add->axK,mul_le_mul_right->axL,mul_assoc->axM,pos_of_ne_zero->axO,mul_lt_mul_of_pos_right->axP,mul_left_comm->axQ,pow_le_pow_right->axR,mul_comm->axS,mul_le_mul_left->axT,lt_of_mul_lt_mul_right->axU,le_of_mul_le_mul_right->axV,shiftLeft_eq->axW,lt_or_ge->axX,pow_zero->axY,zero_mul->axZ,le_trans->ax0,log2_self_le->ax1,mul_pos->ax2,pow_one->ax3
variable{i p:Int}{U a b c d m n q r s t v w:Nat}{V V1 V2 V3 V4 W x y z:Re}{D X Y Z:Re->Prop}
theorem eO(hz:0<z):x*z<=y*z↔x<=y:=by
 refine⟨fun h=> ?_,fun h=>Re.mul_le_mul_right (Re.le_of_lt hz) h⟩;rcases Re.lt_or_ge y x with k|k
 . have:=Re.mul_pos (Re.sub_pos.2 k) hz
   rw[Re.sub_mul]at this;exact absurd (Re.sub_pos.1 this) h
 . exact k
theorem qR(hz:0<z):x*z<y*z↔x<y:=by
 rw[<-Re.not_le,<-Re.not_le,eO hz]
theorem kD(hz:z≠0)(h:x*z=y*z):x=y:=by
 apply Re.eq_of_sub;apply Classical.byContradiction;intro hn;apply Re.mul_ne_zero hn hz;rw[Re.sub_mul,h,Re.sub_self]
theorem kU(h:0<n):(0:Re)<ofN n:=by
 rw[<-Re.ofI_zero];exact Re.ofI_lt.2 (by omega)
theorem y8:ofN a<ofN b↔a<b:=by unfold ofN;rw[Re.ofI_lt];omega
theorem amA{a b:Int}(h:ofI a=ofI b):a=b:=by
 have h1:ofI a<=ofI b:=by rw[h];exact Re.le_refl _
 have h2:ofI b<=ofI a:=by rw[h];exact Re.le_refl _
 have:=Re.ofI_le.1 h1;have:=Re.ofI_le.1 h2;omega
def NearR(r:Nat)(V:Re):Prop:=num r/\
 (∀c:Int,-(infR:Int)<=c->c<=infR->ofI (fvr c)<=V->c<=sr r)/\
 (∀c:Int,-(infR:Int)<=c->c<=infR->V<=ofI (fvr c)->sr r<=c)
theorem Near.re {N:Int}(h:Near r N t)(hV:V*ofN (2^(t-1074))=ofI N):NearR r V:=by
 obtain⟨h0,h1,h2⟩:=h;have hp:=kU (axJ (t-1074));have e:∀c,ofI (fvr c)*ofN (2^(t-1074))=ofI (fvr c*(2^(t-1074):Nat)):=fun c=>(Re.ofI_mul _ _).symm;refine⟨h0,fun c c1 c2 k=>h1 c c1 c2 ?_,fun c c1 c2 k=>h2 c c1 c2 ?_⟩
 . rw[<-eO hp,hV,e,Re.ofI_le]at k;exact k
 . rw[<-eO hp,hV,e,Re.ofI_le]at k;exact k
theorem NearR.neg {r':Nat}(h:NearR r V)(h':num r')(hs:sr r'=-sr r):NearR r' (-V):=by
 obtain⟨h0,h1,h2⟩:=h;refine⟨h',fun c c1 c2 k=> ?_,fun c c1 c2 k=> ?_⟩
 . have:=h2 (-c) (by omega) (by omega) (by rw[yZ,Re.ofI_neg,<-Re.neg_neg V];exact Re.neg_le_neg k)
   omega
 . have:=h1 (-c) (by omega) (by omega) (by rw[yZ,Re.ofI_neg,<-Re.neg_neg V];exact Re.neg_le_neg k)
   omega
theorem NearR.below (h:NearR r V)(hr:-(infR:Int)<sr r):ofI (fvr (sr r-1))<V:=by
 obtain⟨h0,h1,h2⟩:=h;have:sr r<=infR:=by unfold num at h0;unfold sr;split<;>omega
 rcases Re.lt_or_ge (ofI (fvr (sr r-1))) V with h|h
 . exact h
 . have:=h2 (sr r-1) (by omega) (by omega) h;omega
theorem NearR.above (h:NearR r V)(hr:sr r<(infR:Int)):V<ofI (fvr (sr r+1)):=by
 obtain⟨h0,h1,h2⟩:=h;have:-(infR:Int)<=sr r:=by unfold num at h0;unfold sr;split<;>omega
 rcases Re.lt_or_ge V (ofI (fvr (sr r+1)))with h|h
 . exact h
 . have:=h1 (sr r+1) (by omega) (by omega) h;omega
theorem aoE{e:Nat}(h:2^53*2^e<=mg c):2^e∣mg c:=by
 have hp:=axJ e;rcases axX c (2^52)with hc|hc
 . have e1:mg c=c:=by unfold mg;rw[if_pos hc]
   rw[e1]at h;have:2^53*1<=2^53*2^e:=axT _ hp;omega
 . rw[iT c hc]at h|-
   generalize c/2^52-1=E at*;rcases axX E e with hE|hE
   . exfalso
     have h1:2^E<=2^e:=axR (by omega) (by omega);have h2:(2^52+c%2^52)*2^E<=(2^52+c%2^52)*2^e:=axT _ h1;have h3:(2^52+c%2^52)*2^e<2^53*2^e:=axP (by omega) hp;omega
   . exact Nat.dvd_trans (Nat.pow_dvd_pow 2 hE) (Nat.dvd_mul_left _ _)
theorem anV(hq:2^53<=q)(ht:t=max 1074 (-p).toNat)(c:Nat):
 (mg c*2^(t-1074)<(2*q+2)*2^(p+t).toNat->mg c*2^(t-1074)<=(2*q+1)*2^(p+t).toNat)/\
 (2*q*2^(p+t).toNat<mg c*2^(t-1074)->(2*q+1)*2^(p+t).toNat<=mg c*2^(t-1074)):=by
 by_cases hp:1074<=(-p).toNat
 . have:(p+t).toNat=0:=by omega
   rw[this,axY];generalize mg c*2^(t-1074)=g;omega
 . have ht':t-1074=0:=by omega
   rw[ht',axY,Nat.mul_one];generalize (p+t).toNat=e;have hM:=axJ e;rcases axX (mg c) (2^53*2^e)with h|h
   . have h1:2^53*2^e<=2*q*2^e:=axL _ (by omega)
     have h2:2*q*2^e<=(2*q+1)*2^e:=axL _ (by omega);omega
   . obtain⟨k,hk⟩:=aoE h
     rw[hk,axS (2^e) k];refine⟨fun h=>axL _ ?_,fun h=>axL _ ?_⟩
     . have:=axU h;omega
     . have:=axU h;omega
theorem aa2(neg:Bool)(mag:Nat)(p:Int):num (double.nearest neg mag p)/\sr (double.nearest true mag p)=-sr (double.nearest false mag p):=by
 rw[kT,kT,kT];have h1:=tC (neg:=neg) (qQ mag p);have h2:=tC (neg:=true) (qQ mag p);have h3:=tC (neg:=false) (qQ mag p);refine⟨by unfold num;rw[h1.2];exact qQ _ _,?_⟩;rw[h2.1,h3.1];simp
theorem aa3{neg:Bool}{mag:Nat}(h:NearR (double.nearest false mag p) V):NearR (double.nearest neg mag p) (if neg then-V else V):=by
 cases neg
 . exact h
 . simp only[if_true];exact h.neg (aa2 true mag p).1 (aa2 true mag p).2
theorem rU{b:Bool}(hq:2^53<=q)(ht:t=max 1074 (-p).toNat)
 (h0:b=false->V*ofN (2^(t-1074))=ofN (2*q*2^(p+t).toNat)) (h1:b=true->ofN (2*q*2^(p+t).toNat)<V*ofN (2^(t-1074))/\V*ofN (2^(t-1074))<ofN ((2*q+2)*2^(p+t).toNat)):
 NearR (double.nearest false (2*q+b.toNat) p) V:=by
 have hn:=gG false (2*q+b.toNat) p t (by omega) (by omega) _ rfl;simp only[axN,if_false]at hn
 cases b
 . exact hn.re (h0 rfl)
 . obtain⟨k1,k2⟩:=h1 rfl
   simp only[Bool.toNat_true]at hn|-;obtain⟨n0,n1,n2⟩:=hn;have hp:=kU (axJ (t-1074));have hm:∀c:Nat,ofI (mg c:Int)*ofN (2^(t-1074))=ofN (mg c*2^(t-1074)):=fun c=>(Re.ofN_mul _ _).symm;refine⟨n0,fun c c1 c2 k=>n1 c c1 c2 ?_,fun c c1 c2 k=>n2 c c1 c2 ?_⟩
   . rcases Int.lt_or_le c 0 with hc|hc
     . have h1:fvr c<0:=by have:=kC hc;rwa[dL]at this
       have h2:fvr c*(2^(t-1074):Nat)<0:=Int.mul_neg_of_neg_of_pos h1 (Int.natCast_pos.2 (axJ _));omega
     . have e:fvr c=(mg c.natAbs:Int):=by unfold fvr;rw[if_neg (by omega)]
       rw[e]at k|-;rw[<-eO hp,hm]at k;have:=(anV hq ht c.natAbs).1 (y8.1 (Re.lt_of_le_of_lt k k2))
       exact_mod_cast this
   . rcases Int.lt_or_le c 0 with hc|hc
     . exfalso
       have h1:fvr c<0:=by have:=kC hc;rwa[dL]at this
       have h2:ofI (fvr c)<0:=by rw[<-Re.ofI_zero];exact Re.ofI_lt.2 h1
       have h3:V<0:=Re.lt_of_le_of_lt k h2;rw[<-qR hp,Re.zero_mul]at h3;have h4:=Re.lt_trans k1 h3;rw[<-Re.ofI_zero]at h4;have:=Re.ofI_lt.1 h4;omega
     . have e:fvr c=(mg c.natAbs:Int):=by unfold fvr;rw[if_neg (by omega)]
       rw[e]at k|-;rw[<-eO hp,hm]at k;have:=(anV hq ht c.natAbs).2 (y8.1 (Re.lt_of_lt_of_le k1 k))
       exact_mod_cast this
theorem ai4(W k n b:Re):W*k*n*b=W*(n*b)*k:=by
 revert W k n b;exact Re.all4 fun a b c d=>Re.same fun n=>by simp only[Re.mulC_f];grind
theorem xN(neg:Bool)(p:Int):NearR (double.nearest neg 0 p) 0:=by
 have h:=gG false 0 p (max 1074 (-p).toNat) (by omega) (by omega) 0 (by simp);have h1:NearR (double.nearest false 0 p) 0:=h.re (by rw[Re.zero_mul,Re.ofI_zero]);have:=aa3 (neg:=neg) h1
 cases neg
 . exact this
 . simp only[if_true,Re.neg_zero]at this;exact this
theorem amB{j:Int}{more:Nat}(hi:-1074<=i)(hj:-1074<=j)(ht:t=max 1074 (-(i-j-more-1)).toNat)(u:Nat)(hu:u=1074):(i+1074).toNat+u+(t-1074)=more+1+(i-j-more-1+t).toNat+(j+1074).toNat:=by omega
theorem pE{x y:Nat}(hU:∃u,u=1074/\U=2^u)(hx:fin x)(hy:fin y)(h0:fv y≠0)(hV:V*ofI (fv y)=ofI (fv x)*ofN U):∃r,double.div x y=some r/\r<2^64/\NearR r V:=by
 obtain⟨u,hu,hU⟩:=hU;obtain⟨m,i,e1,p1,v1⟩:=fO hx;obtain⟨n,j,e2,q1,v2⟩:=fO hy;have hp:=iU v1;have hq:=iU v2;clear v1 v2;have hn:n≠0:=by
  intro hn;apply h0;rw[hq,hn];simp
 generalize ha:(i+1074).toNat=a at*;generalize hb:(j+1074).toNat=b at*
 -- the magnitude of the quotient
 obtain⟨W,hWV,hW⟩:∃W:Re,V=(if (fneg x^^fneg y)then-W else W)/\W*ofN (n*2^b)=ofN (m*2^a)*ofN U:=by
  refine⟨if (fneg x^^fneg y)then-V else V,?_,?_⟩
  . cases (fneg x^^fneg y)<;>simp[Re.neg_neg]
  . rw[hp,hq]at hV
    cases hsx:fneg x<;>cases hsy:fneg y<;>rw[hsx,hsy]at hV<;>simp only[axN,if_false,if_true,Bool.xor_false,Bool.xor_true,Bool.not_false,Bool.not_true,Bool.false_xor,Bool.true_xor]at hV|-
    . exact hV
    . rw[Re.ofI_neg,Re.mul_neg]at hV;rw[Re.neg_mul];exact hV
    . rw[Re.ofI_neg,Re.neg_mul]at hV;rw[Re.neg_mul]
      show-(V*ofI _)=_;rw[hV,Re.neg_neg];rfl
    . rw[Re.ofI_neg,Re.ofI_neg,Re.mul_neg,Re.neg_mul]at hV
      have:=congrArg (fun z:Re=>-z) hV;simp only[Re.neg_neg]at this;exact this
 have hdiv:double.div x y=some (double.nearest (fneg x^^fneg y) (2*(m <<< (54+n.log2-m.log2)/n)+(m <<< (54+n.log2-m.log2)%n != 0).toNat) (i-j-(54+n.log2-m.log2:Nat)-1)):=by
  unfold Format.div;rw[e1,e2];show Option.map double.write (Datum.quotient 54 _ _)=_;simp only[Datum.quotient,hn,if_false];rfl
 refine⟨_,hdiv,double.div_lt hdiv,?_⟩;rw[hWV];refine aa3 ?_;clear hdiv hWV hV hp hq e1 e2 h0 hx hy;generalize hmore:54+n.log2-m.log2=more;rw[axW];by_cases hm:m=0
 . subst hm
   have hz:W=0:=by
    refine kD (z:=ofN (n*2^b)) (Re.ne_of_gt (kU (ax2 (axO hn) (axJ b)))) ?_;rw[hW,Re.zero_mul,axZ];show ofI ((0:Nat):Int)*ofN U=0;rw[show((0:Nat):Int)=0 from rfl,Re.ofI_zero,Re.zero_mul]
   rw[hz];simp only[axZ,Nat.zero_div,Nat.zero_mod,Nat.mul_zero,bne_self_eq_false,Bool.toNat_false,Nat.add_zero];exact xN false _
 . obtain⟨D,hD⟩:∃D,m*2^more=D:=⟨_,rfl⟩
   rw[hD];have hq:2^53<=D/n:=by
    rw[Nat.le_div_iff_mul_le (axO hn),<-hD];have h1:=ax1 hm;have h2:=@Nat.lt_log2_self n;have h3:2^m.log2*2^more<=m*2^more:=axL _ h1;rw[<-axK]at h3;have h4:2^(53+(n.log2+1))<=2^(m.log2+more):=axR (by omega) (by omega);have h5:2^53*n<=2^53*2^(n.log2+1):=axT _ (Nat.le_of_lt h2);rw[<-axK]at h5;exact ax0 h5 (ax0 h4 h3)
   obtain⟨t,ht⟩:∃t,t=max 1074 (-(i-j-more-1)).toNat:=⟨_,rfl⟩;have hex:=amB p1 q1 ht u hu;rw[ha,hb]at hex
   -- W K n = 2 D M
   have key:W*ofN (2^(t-1074))*ofN n=ofN (2*D*2^(i-j-more-1+t).toNat):=by
    refine kD (z:=ofN (2^b)) (Re.ne_of_gt (kU (axJ b))) ?_;have e1:W*ofN (2^(t-1074))*ofN n*ofN (2^b)=W*ofN (n*2^b)*ofN (2^(t-1074)):=by
     rw[Re.ofN_mul];exact ai4 _ _ _ _
    rw[e1,hW,<-Re.ofN_mul,<-Re.ofN_mul,<-Re.ofN_mul];refine congrArg ofN ?_;rw[<-hD,hU];have:m*2^a*2^u*2^(t-1074)=m*2^(a+u+(t-1074)):=by rw[axK,axK];simp only[axM]
    rw[this,hex,axK,axK,axK,ax3];simp only[axM,axS,axQ]
   have hn0:=kU (axO hn);obtain⟨e,he⟩:∃e,(i-j-more-1+t).toNat=e:=⟨_,rfl⟩;rw[he]at key;have hM:=axJ e;have hdm:=Nat.div_add_mod D n;have hml:=Nat.mod_lt D (axO hn);generalize D/n=q at*;refine rU hq ht (fun hb0=> ?_) (fun hb1=> ?_)<;>rw[he]
   . have h0:D%n=0:=by simpa using hb0
     refine kD (z:=ofN n) (Re.ne_of_gt hn0) ?_;rw[key,<-Re.ofN_mul];refine congrArg ofN ?_;have:D=n*q:=by omega
     rw[this];simp only[axM,axS,axQ]
   . have h0:D%n≠0:=by simpa using hb1
     rw[<-qR hn0,<-qR (x:=W*_) hn0,key,<-Re.ofN_mul,<-Re.ofN_mul,y8,y8];have e1:2*q*2^e*n=2*(n*q)*2^e:=by simp only[axM,axS,axQ]
     have e2:(2*q+2)*2^e*n=2*(n*q+n)*2^e:=by
      rw[show 2*(n*q+n)=(2*q+2)*n from by rw[Nat.add_mul,Nat.mul_add,axS n q,axM]];simp only[axM,axS,axQ]
     rw[e1,e2];exact⟨axP (by omega) hM,axP (by omega) hM⟩
theorem kE(n:Nat):∀(todo r:Nat),r*r<=n->n<(r+2^todo)*(r+2^todo)->Datum.rootFrom n todo r*Datum.rootFrom n todo r<=n/\n<(Datum.rootFrom n todo r+1)*(Datum.rootFrom n todo r+1)
 |0,r,h1,h2=>⟨h1,h2⟩
 |todo+1,r,h1,h2=>by
  have e:2^(todo+1)=2^todo+2^todo:=by rw[Nat.pow_succ];omega
  have e1:1 <<< todo=2^todo:=by rw[axW,Nat.one_mul]
  unfold Datum.rootFrom;simp only[e1];by_cases h:(r+2^todo)*(r+2^todo)<=n
  . rw[if_pos h]
    refine kE n todo _ h ?_;rw[e,<-Nat.add_assoc]at h2;exact h2
  . rw[if_neg h]
    exact kE n todo r h1 (by omega)
theorem ai5{more0 more:Nat}(hi:-1074<=i)(hm:more=more0+((i-more0)%2).toNat)(ha:(i+1074).toNat=a)(ht:t=max 1074 (-((i-more)/2-1)).toNat)(u:Nat)(hu:u=1074):a+u+((t-1074)+(t-1074))=more+(1+((i-more)/2-1+t).toNat+(1+((i-more)/2-1+t).toNat)):=by omega
theorem aoF(V k:Re):V*k*(V*k)=V*V*(k*k):=by
 revert V k;exact Re.all2 fun a b=>Re.same fun n=>by simp only[Re.mulC_f];grind
theorem xO{x:Nat}(hU:∃u,u=1074/\U=2^u)(hx:fin x)(h0:0<=fv x)(hV0:0<=V)(hV:V*V=ofI (fv x)*ofN U):∃r,double.sqrt x=some r/\r<2^64/\NearR r V:=by
 obtain⟨u,hu,hU⟩:=hU;obtain⟨m,i,e1,p1,v1⟩:=fO hx;have hp:=iU v1;clear v1;generalize ha:(i+1074).toNat=a at*;by_cases hm:m=0
 . subst hm
   have hz:V=0:=by
    refine Re.sq_inj hV0 (Re.le_refl _) ?_;rw[hV,hp,axZ,Re.zero_mul];simp[Re.ofI_zero,Re.zero_mul]
   have hsq:double.sqrt x=some (double.nearest (fneg x) 0 i):=by
    unfold Format.sqrt;rw[e1];simp[Datum.root,Format.write]
   refine⟨_,hsq,?_,by rw[hz];exact xN _ _⟩;exact double.sqrt_lt hsq
 . have hneg:fneg x=false:=by
    cases h:fneg x
    . rfl
    . rw[hp,h]at h0
      simp only[if_true]at h0;have:=ax2 (axO hm) (axJ a);omega
   rw[hneg]at e1 hp;simp only[axN,if_false]at hp;obtain⟨more,hmore⟩:∃more,(2*54-m.log2)+((i-(2*54-m.log2:Nat))%2).toNat=more:=⟨_,rfl⟩;obtain⟨n,hn⟩:∃n,m*2^more=n:=⟨_,rfl⟩;obtain⟨q,hq⟩:∃q,Datum.rootFrom n (n.log2/2+1) 0=q:=⟨_,rfl⟩;have hsq:double.sqrt x=some (double.nearest false (2*q+(q*q != n).toNat) ((i-more)/2-1)):=by
    unfold Format.sqrt;rw[e1];show Option.map double.write (Datum.root 54 _)=_;simp only[Datum.root,hm,if_false,axN,axW,hmore,hn,hq];rfl
   refine⟨_,hsq,double.sqrt_lt hsq,?_⟩;clear hsq e1 hneg h0;have hnl:2^108<=n:=by
    have h1:=ax1 hm;have h3:2^m.log2*2^more<=m*2^more:=axL _ h1;rw[<-axK,hn]at h3;exact ax0 (axR (by omega) (by omega)) h3
   have hspec:=kE n (n.log2/2+1) 0 (Nat.zero_le _) (by
    rw[Nat.zero_add,<-axK];exact Nat.lt_of_lt_of_le (@Nat.lt_log2_self n) (axR (by omega) (by omega)))
   rw[hq]at hspec;obtain⟨s1,s2⟩:=hspec;have hq53:2^53<=q:=by
    rcases axX q (2^53)with h|h
    . exfalso
      have:(q+1)*(q+1)<=2^53*2^53:=Nat.mul_le_mul h h;have h3:(2:Nat)^53*2^53<=2^108:=by decide
      omega
    . exact h
   obtain⟨t,ht⟩:∃t,t=max 1074 (-((i-more)/2-1)).toNat:=⟨_,rfl⟩;have hex:=ai5 p1 hmore.symm ha ht u hu;obtain⟨e,he⟩:∃e,((i-more)/2-1+t).toNat=e:=⟨_,rfl⟩;rw[he]at hex;have hM:=axJ e;have hK:=Re.le_of_lt (kU (axJ (t-1074)));obtain⟨V',hV'⟩:∃V',V*ofN (2^(t-1074))=V':=⟨_,rfl⟩;have hV0':0<=V':=by rw[<-hV'];exact Re.mul_nonneg hV0 hK
   have key:V'*V'=ofN (n*(2*2^e*(2*2^e))):=by
    rw[<-hV',aoF,hV,hp];show ofN (m*2^a)*ofN U*_=_;rw[<-Re.ofN_mul,<-Re.ofN_mul,<-Re.ofN_mul];refine congrArg ofN ?_;rw[<-hn,hU];have e1:m*2^a*2^u*(2^(t-1074)*2^(t-1074))=m*2^(a+u+((t-1074)+(t-1074))):=by
     rw[axK,axK,axK];simp only[axM]
    rw[e1,hex,axK,axK,axK,ax3];simp only[axM]
   clear hV hp hex;have nn:∀c:Nat,(0:Re)<=ofN c:=fun c=>by rw[<-Re.ofI_zero];exact Re.ofI_le.2 (by omega)
   have sqc:∀c:Nat,2*c*2^e*(2*c*2^e)=c*c*(2*2^e*(2*2^e)):=fun c=>by simp only[axM,axS,axQ]
   have hP:0<2*2^e*(2*2^e):=ax2 (by omega) (by omega);refine rU hq53 (t:=t) ht (fun hb0=> ?_) (fun hb1=> ?_)<;>rw[he,hV']
   . have h0:q*q=n:=by simpa using hb0
     refine Re.sq_inj hV0' (nn _) ?_;rw[key,<-Re.ofN_mul,sqc,h0]
   . have h0:q*q≠n:=by simpa using hb1
     constructor
     . rw[<-Re.not_le]
       intro hc;have:=Re.mul_le_mul hV0' hc hV0' hc;rw[key,<-Re.ofN_mul,sqc]at this;have:=axV (Re.ofN_le.1 this) hP;omega
     . rw[<-Re.not_le]
       intro hc;have:=Re.mul_le_mul (nn _) hc (nn _) hc;rw[key,<-Re.ofN_mul,show 2*q+2=2*(q+1) from rfl,sqc]at this;have:=axV (Re.ofN_le.1 this) hP;omega
def stepW(v:Nat)(up:Bool):Nat:=
 if sr v=0 then(if up then 1 else 2^63+1)
 else if (sr v=infR/\up=true)\/(sr v=-infR/\up=false)then v
 else if decide (0<sr v)==up then v+1 else v-1
theorem nE(h:num v):-(infR:Int)<=sr v/\sr v<=infR:=by unfold num at h;unfold sr;split<;>omega
theorem aeQ:fin v↔-(infR:Int)<sr v/\sr v<infR:=by
 unfold fin sr;split<;>omega
theorem amC(hv:v<2^64)(h:rung v+1<2^63):fneg (v+1)=fneg v/\rung (v+1)=rung v+1:=by
 unfold fneg rung at*;have e1:(v+1)/2^63=v/2^63:=by omega
 rw[e1];exact⟨rfl,by omega⟩
theorem amD(hv:v<2^64)(h:0<rung v):fneg (v-1)=fneg v/\rung (v-1)=rung v-1:=by
 unfold fneg rung at*;have e1:(v-1)/2^63=v/2^63:=by omega
 rw[e1];exact⟨rfl,by omega⟩
theorem xP(hv:v<2^64)(h:num v)(up:Bool):stepW v up<2^64/\num (stepW v up)/\
 ((sr v=infR/\up=true)\/(sr v=-infR/\up=false)/\stepW v up=v\/sr (stepW v up)=sr v+(if up then 1 else-1)):=by
 have hb:=nE h;have hi:infR=2047*2^52:=rfl;unfold stepW
 split
 . rename_i h0
   cases up
   . refine⟨by decide,by decide,Or.inr ?_⟩
     rw[h0];right;decide
   . refine⟨by decide,by decide,Or.inr ?_⟩
     rw[h0];right;decide
 . rename_i h0
   split
   . rename_i h1
     refine⟨hv,h,?_⟩;rcases h1 with h1|h1
     . exact Or.inl h1
     . exact Or.inr (Or.inl ⟨h1,rfl⟩)
   . rename_i h1
     split
     . rename_i h2
       have hr:rung v<infR:=by
        unfold num at h;rcases Nat.lt_or_eq_of_le h with h3|h3
        . exact h3
        . exfalso
          apply h1;unfold sr at h2|-;rw[h3]at h2|-
          cases hn:fneg v<;>rw[hn]at h2<;>cases up<;>simp_all
       obtain⟨e1,e2⟩:=amC hv (by omega);refine⟨by unfold rung at hr;omega,by unfold num;rw[e2];omega,Or.inr (Or.inr ?_)⟩;unfold sr at h0 h2|-;rw[e1,e2]
       cases hn:fneg v<;>rw[hn]at h2 h0<;>cases up<;>simp_all<;>omega
     . rename_i h2
       have hr:0<rung v:=by
        rcases Nat.eq_zero_or_pos (rung v)with h3|h3
        . exfalso;apply h0;unfold sr;rw[h3];split<;>rfl
        . exact h3
       obtain⟨e1,e2⟩:=amD hv hr;refine⟨by omega,by unfold num at*;rw[e2];omega,Or.inr (Or.inr ?_)⟩;unfold sr at h0 h2|-;rw[e1,e2]
       cases hn:fneg v<;>rw[hn]at h2 h0<;>cases up<;>simp_all<;>omega
def bW(lo hi:Nat):Prop:=fin lo/\fin hi/\sr lo<=sr hi
instance(a b:Nat):Decidable (bW a b):=inferInstanceAs (Decidable (_/\_))
def GapS(lo hi:Nat)(D:Re->Prop):Prop:=lo<2^64/\hi<2^64/\(bW lo hi->∀x,D x->ofI (fv lo)<=x/\x<=ofI (fv hi))
def iJ(lo hi:Nat)(D:Re->Prop):Prop:=lo<2^64/\hi<2^64/\num lo/\num hi/\∀x,D x->(-(infR:Int)<sr lo->ofI (fvr (sr lo-1))<x)/\(sr hi<infR->x<ofI (fvr (sr hi+1)))
theorem af6{lo hi:Nat}(h:iJ lo hi D):GapS (stepW lo false) (stepW hi true) D:=by
 obtain⟨b1,b2,n1,n2,h12⟩:=h;obtain⟨s1,s2,s3⟩:=xP b1 n1 false;obtain⟨t1,t2,t3⟩:=xP b2 n2 true;refine⟨s1,t1,fun⟨k1,k2,k3⟩ x hx=>⟨?_,?_⟩⟩
 . have k:=aeQ.1 k1
   rcases s3 with s3|s3|s3
   . exact absurd s3.2 (by simp)
   . exfalso;rw[s3.2,s3.1.1]at k;omega
   . unfold fv;rw[s3]
     simp only[axN,if_false]at s3|-;have:-(infR:Int)<sr lo:=by omega
     exact Re.le_of_lt ((h12 x hx).1 this)
 . have k:=aeQ.1 k2
   have hb:=nE n2;rcases t3 with t3|t3|t3
   . exfalso
     have:stepW hi true=hi:=by
      unfold stepW;rw[if_neg (by have h00:(0:Nat)<infR:=(by decide);have:=t3.1;omega),if_pos (Or.inl t3)]
     rw[this,t3.1]at k;omega
   . exact absurd t3.1.2 (by simp)
   . unfold fv;rw[t3]
     simp only[if_true]at t3|-;have:sr hi<(infR:Int):=by omega
     exact Re.le_of_lt ((h12 x hx).2 this)
def pow2(n:Nat):Nat:=2^n
theorem ai6(n:Nat):0<pow2 n:=axJ n
theorem amE(h:t-1074=s):(2^(t-1074):Nat)=pow2 s:=by rw[h];rfl
def U74:Nat:=pow2 1074
theorem aoG(n:Nat):∃u,u=n/\pow2 n=2^u:=⟨n,rfl,rfl⟩
theorem iW:∃u,u=1074/\U74=2^u:=aoG 1074
theorem lQ:(0:Re)<ofN U74:=kU (ai6 1074)
def AddD(X Y Z:Re->Prop):Prop:=∀z,Z z->∃x y,X x/\Y y/\z=x+y
def SubD(X Y Z:Re->Prop):Prop:=∀z,Z z->∃x y,X x/\Y y/\z=x-y
def MulD(X Y Z:Re->Prop):Prop:=∀z,Z z->∃x y,X x/\Y y/\z*ofN U74=x*y
def QuoD(X Y Z:Re->Prop):Prop:=∀z,Z z->∃x y,X x/\Y y/\y≠0/\z*y=x*ofN U74
def ai7(X Z:Re->Prop):Prop:=∀z,Z z->∃x,X x/\0<=z/\z*z=x*ofN U74
theorem xQ(hr:r<2^64)(hs:s<2^64)(n1:NearR r V)(n2:NearR s W)(h:∀x,D x->V<=x/\x<=W):iJ r s D:=
 ⟨hr,hs,n1.1,n2.1,fun x hx=>⟨fun hh=>Re.lt_of_lt_of_le (n1.below hh) (h x hx).1,fun hh=>Re.lt_of_le_of_lt (h x hx).2 (n2.above hh)⟩⟩
theorem adJ(h:∀x,X x->ofI (fv a)<=x/\x<=ofI (fv b))(k:∀x,Y x->ofI (fv c)<=x/\x<=ofI (fv d))(hr:r<2^64)(hs:s<2^64)(n1:Near r (fv a+fv c) 1074)(n2:Near s (fv b+fv d) 1074)(hZ:AddD X Y Z):iJ r s Z:=by
 have one:∀V:Re,V*ofN (2^(1074-1074))=V:=fun V=>by rw[Nat.sub_self,axY];exact Re.mul_one V
 refine xQ hr hs (n1.re (one _)) (n2.re (one _)) fun z hz=> ?_;obtain⟨x,y,hx,hy,rfl⟩:=hZ z hz;rw[Re.ofI_add,Re.ofI_add];exact⟨Re.add_le_add (h x hx).1 (k y hy).1,Re.add_le_add (h x hx).2 (k y hy).2⟩
theorem xR(h:x<=0)(k:y<=z):x*z<=x*y:=by
 have:=Re.mul_le_mul_left (Re.neg_nonneg.2 h) k;rw[Re.neg_mul,Re.neg_mul]at this;have h2:=Re.neg_le_neg this;rwa[Re.neg_neg,Re.neg_neg]at h2
theorem uT(h:x<=0)(k:y<=z):z*x<=y*x:=by
 rw[Re.mul_comm z,Re.mul_comm y];exact xR h k
theorem xS{a b c d:Re}(hx:a<=x/\x<=b)(hy:c<=y/\y<=d):
 (a*c<=x*y\/a*d<=x*y\/b*c<=x*y\/b*d<=x*y)/\(x*y<=a*c\/x*y<=a*d\/x*y<=b*c\/x*y<=b*d):=by
 have low:∀a b c d x y:Re,a<=x->x<=b->c<=y->y<=d->(a*c<=x*y\/a*d<=x*y\/b*c<=x*y\/b*d<=x*y):=by
  intro a b c d x y h1 h2 h3 h4;rcases Re.le_total 0 x with hx|hx
  . have e1:x*c<=x*y:=Re.mul_le_mul_left hx h3
    rcases Re.le_total 0 c with hc|hc
    . exact Or.inl (Re.le_trans (Re.mul_le_mul_right hc h1) e1)
    . exact Or.inr (Or.inr (Or.inl (Re.le_trans (uT hc h2) e1)))
  . have e1:x*d<=x*y:=xR hx h4
    rcases Re.le_total 0 d with hd|hd
    . exact Or.inr (Or.inl (Re.le_trans (Re.mul_le_mul_right hd h1) e1))
    . exact Or.inr (Or.inr (Or.inr (Re.le_trans (uT hd h2) e1)))
 refine⟨low a b c d x y hx.1 hx.2 hy.1 hy.2,?_⟩;have h:=low a b (-d) (-c) x (-y) hx.1 hx.2 (Re.neg_le_neg hy.2) (Re.neg_le_neg hy.1);simp only[Re.mul_neg]at h;have n:∀{u v:Re},-u<=-v->v<=u:=fun{u v} h=>by have:=Re.neg_le_neg h;rwa[Re.neg_neg,Re.neg_neg]at this
 rcases h with h|h|h|h
 . exact Or.inr (Or.inl (n h))
 . exact Or.inl (n h)
 . exact Or.inr (Or.inr (Or.inr (n h)))
 . exact Or.inr (Or.inr (Or.inl (n h)))
def y9(m w x y z:Nat):Prop:=sr m<=sr w/\sr m<=sr x/\sr m<=sr y/\sr m<=sr z/\(m=w\/m=x\/m=y\/m=z)
def zA(m w x y z:Nat):Prop:=sr w<=sr m/\sr x<=sr m/\sr y<=sr m/\sr z<=sr m/\(m=w\/m=x\/m=y\/m=z)
theorem aeR{x y z:Nat}
 (hw:w<2^64) (hx:x<2^64) (hy:y<2^64) (hz:z<2^64) (n1:NearR w V1) (n2:NearR x V2) (n3:NearR y V3) (n4:NearR z V4)
 (hm:y9 m w x y z) (hn:zA n w x y z) (hD:∀t,D t->(V1<=t\/V2<=t\/V3<=t\/V4<=t)/\(t<=V1\/t<=V2\/t<=V3\/t<=V4)):iJ m n D:=by
 obtain⟨m1,m2,m3,m4,m5⟩:=hm;obtain⟨g1,g2,g3,g4,g5⟩:=hn;have bm:m<2^64:=by rcases m5 with rfl|rfl|rfl|rfl<;>assumption
 have bn:n<2^64:=by rcases g5 with rfl|rfl|rfl|rfl<;>assumption
 have nm:num m:=by rcases m5 with rfl|rfl|rfl|rfl<;>first|exact n1.1|exact n2.1|exact n3.1|exact n4.1
 have nn:num n:=by rcases g5 with rfl|rfl|rfl|rfl<;>first|exact n1.1|exact n2.1|exact n3.1|exact n4.1
 have lo:∀(v:Nat) (V t:Re),NearR v V->sr m<=sr v->-(infR:Int)<sr m->V<=t->ofI (fvr (sr m-1))<t:=by
  intro v V t hv h1 h2 h3;have e1:=hv.below (by omega);have e2:fvr (sr m-1)<=fvr (sr v-1):=lN (by omega);exact Re.lt_of_le_of_lt (Re.ofI_le.2 e2) (Re.lt_of_lt_of_le e1 h3)
 have hi:∀(v:Nat) (V t:Re),NearR v V->sr v<=sr n->sr n<infR->t<=V->t<ofI (fvr (sr n+1)):=by
  intro v V t hv h1 h2 h3;have e1:=hv.above (by omega);have e2:fvr (sr v+1)<=fvr (sr n+1):=lN (by omega);exact Re.lt_of_lt_of_le (Re.lt_of_le_of_lt h3 e1) (Re.ofI_le.2 e2)
 refine⟨bm,bn,nm,nn,fun t ht=>⟨fun hh=> ?_,fun hh=> ?_⟩⟩
 . rcases(hD t ht).1 with c|c|c|c
   . exact lo w _ t n1 m1 hh c
   . exact lo x _ t n2 m2 hh c
   . exact lo y _ t n3 m3 hh c
   . exact lo z _ t n4 m4 hh c
 . rcases(hD t ht).2 with c|c|c|c
   . exact hi w _ t n1 g1 hh c
   . exact hi x _ t n2 g2 hh c
   . exact hi y _ t n3 g3 hh c
   . exact hi z _ t n4 g4 hh c
theorem zB(N:Int){d:Re}(h:d≠0):∃V:Re,V*d=ofI N:=by
 obtain⟨i,hi⟩:=Re.exists_inv h;exact⟨ofI N*i,by rw[Re.mul_assoc,Re.mul_comm i,hi,Re.mul_one]⟩
theorem tF(x:Re){d:Re}(h:d≠0):∃V:Re,V*d=x:=by
 obtain⟨i,hi⟩:=Re.exists_inv h;exact⟨x*i,by rw[Re.mul_assoc,Re.mul_comm i,hi,Re.mul_one]⟩
theorem adK{x y z:Nat}(h:∀x,X x->ofI (fv a)<=x/\x<=ofI (fv b))(k:∀x,Y x->ofI (fv c)<=x/\x<=ofI (fv d))
 (hw:w<2^64) (hx:x<2^64) (hy:y<2^64) (hz:z<2^64) (n1:Near w (fv a*fv c) 2148) (n2:Near x (fv a*fv d) 2148) (n3:Near y (fv b*fv c) 2148) (n4:Near z (fv b*fv d) 2148)
 (hm:y9 m w x y z) (hn:zA n w x y z) (hZ:MulD X Y Z):iJ m n Z:=by
 have hU:=lQ;have hU0:=Re.ne_of_gt hU;have e:ofN (2^(2148-1074))=ofN U74:=congrArg ofN (amE (t:=2148) (s:=1074) rfl);obtain⟨V1,h1⟩:=zB (fv a*fv c) hU0;obtain⟨V2,h2⟩:=zB (fv a*fv d) hU0;obtain⟨V3,h3⟩:=zB (fv b*fv c) hU0;obtain⟨V4,h4⟩:=zB (fv b*fv d) hU0;refine aeR hw hx hy hz (n1.re (by rw[e];exact h1)) (n2.re (by rw[e];exact h2)) (n3.re (by rw[e];exact h3)) (n4.re (by rw[e];exact h4)) hm hn fun t ht=> ?_;obtain⟨u,v,hu,hv,ht⟩:=hZ t ht;have:=xS (h u hu) (k v hv);rw[<-Re.ofI_mul,<-Re.ofI_mul,<-Re.ofI_mul,<-Re.ofI_mul,<-h1,<-h2,<-h3,<-h4,<-ht]at this;simp only[eO hU]at this;exact this
theorem ai8(i c y:Re):i*(c*y)=c*(y*i):=by
 revert i c y;exact Re.all3 fun a b c=>Re.same fun n=>by simp only[Re.mulC_f];grind
theorem ai9(i c y:Re):i*(c*y)=y*(c*i):=by
 revert i c y;exact Re.all3 fun a b c=>Re.same fun n=>by simp only[Re.mulC_f];grind
theorem ajA{c ic iy:Re}(hcy:0<c*y)(h:c<=y)(hc:c*ic=1)(hy:y*iy=1):iy<=ic:=by
 rw[<-eO hcy];have e1:iy*(c*y)=c:=by
  rw[ai8,hy,Re.mul_one]
 have e2:ic*(c*y)=y:=by
  rw[ai9,hc,Re.mul_one]
 rw[e1,e2];exact h
theorem adL{x y z:Nat}(h:∀x,X x->ofI (fv a)<=x/\x<=ofI (fv b))(k:∀x,Y x->ofI (fv c)<=x/\x<=ofI (fv d))(hs:0<fv c\/fv d<0)
 (hw:w<2^64) (hx:x<2^64) (hy:y<2^64) (hz:z<2^64) (n1:NearR w V1) (n2:NearR x V2) (n3:NearR y V3) (n4:NearR z V4)
 (e1:V1*ofI (fv c)=ofI (fv a)*ofN U74) (e2:V2*ofI (fv d)=ofI (fv a)*ofN U74) (e3:V3*ofI (fv c)=ofI (fv b)*ofN U74) (e4:V4*ofI (fv d)=ofI (fv b)*ofN U74)
 (hm:y9 m w x y z) (hn:zA n w x y z) (hZ:QuoD X Y Z):iJ m n Z:=by
 refine aeR hw hx hy hz n1 n2 n3 n4 hm hn fun t ht=> ?_;obtain⟨u,v,hu,hv,hv0,ht⟩:=hZ t ht;obtain⟨hv1,hv2⟩:=k v hv;have hu2:=h u hu;generalize ofI (fv a)=A at*;generalize ofI (fv b)=B at*;obtain⟨C,hC⟩:∃C,ofI (fv c)=C:=⟨_,rfl⟩;obtain⟨E,hE⟩:∃E,ofI (fv d)=E:=⟨_,rfl⟩;have hs':0<C\/E<0:=by
  rcases hs with hs|hs
  . left;rw[<-hC,<-Re.ofI_zero];exact Re.ofI_lt.2 hs
  . right;rw[<-hE,<-Re.ofI_zero];exact Re.ofI_lt.2 hs
 rw[hC]at e1 e3 hv1;rw[hE]at e2 e4 hv2;have hpos:0<C*v/\0<v*E/\C≠0/\E≠0:=by
  rcases hs' with hs|hs
  . have h1:=Re.lt_of_lt_of_le hs hv1
    have h2:=Re.lt_of_lt_of_le h1 hv2;exact⟨Re.mul_pos hs h1,Re.mul_pos h1 h2,Re.ne_of_gt hs,Re.ne_of_gt h2⟩
  . have h1:=Re.lt_of_le_of_lt hv2 hs
    have h2:=Re.lt_of_le_of_lt hv1 h1;refine⟨?_,?_,Re.ne_of_lt h2,Re.ne_of_lt hs⟩
    . have:=Re.mul_pos (Re.neg_pos.2 h2) (Re.neg_pos.2 h1);rwa[Re.neg_mul_neg]at this
    . have:=Re.mul_pos (Re.neg_pos.2 h1) (Re.neg_pos.2 hs);rwa[Re.neg_mul_neg]at this
 obtain⟨p1,p2,c0,d0⟩:=hpos;obtain⟨ic,hic⟩:=Re.exists_inv c0;obtain⟨id,hid⟩:=Re.exists_inv d0;obtain⟨iv,hiv⟩:=Re.exists_inv hv0;have l1:iv<=ic:=ajA p1 hv1 hic hiv;have l2:id<=iv:=ajA p2 hv2 hiv hid;have hU:=lQ;have fwd:∀{V N D I:Re},V*D=N*ofN U74->D*I=1->V=N*I*ofN U74:=by
  intro V N D I h1 h2;have:=congrArg (fun z:Re=>z*I) h1;simp only[Re.mul_assoc,h2,Re.mul_one]at this;rw[this,Re.mul_assoc,Re.mul_comm I]
 have:=xS hu2 ⟨l2,l1⟩;rw[fwd e1 hic,fwd e2 hid,fwd e3 hic,fwd e4 hid,fwd ht hiv];simp only[eO hU];obtain⟨q1,q2⟩:=this;constructor
 . rcases q1 with q|q|q|q
   . exact Or.inr (Or.inl q)
   . exact Or.inl q
   . exact Or.inr (Or.inr (Or.inr q))
   . exact Or.inr (Or.inr (Or.inl q))
 . rcases q2 with q|q|q|q
   . exact Or.inr (Or.inl q)
   . exact Or.inl q
   . exact Or.inr (Or.inr (Or.inr q))
   . exact Or.inr (Or.inr (Or.inl q))
theorem aa4(h:∀x,X x->ofI (fv a)<=x/\x<=ofI (fv b))(hr:r<2^64)(hs:s<2^64)(n1:NearR r V)(n2:NearR s W)
 (h1:0<=W) (e1:V*V=ofI (fv a)*ofN U74) (e2:W*W=ofI (fv b)*ofN U74) (hZ:ai7 X Z):iJ r s Z:=by
 refine xQ hr hs n1 n2 fun z hz=> ?_;obtain⟨x,hx,h0,hzz⟩:=hZ z hz;obtain⟨k1,k2⟩:=h x hx;exact⟨Re.le_of_sq h0 (by rw[e1,hzz];exact(eO lQ).2 k1),Re.le_of_sq h1 (by rw[hzz,e2];exact(eO lQ).2 k2)⟩
theorem amF(X:Re->Prop):GapS (2^63+2047*2^52) (2047*2^52) X:=⟨by decide,by decide,fun h=>absurd h.1 (by decide)⟩
theorem aoH(h:v<2^64):GapS v v (fun x=>x=ofI (fv v)):=⟨h,h,fun _ x hx=>by rw[hx];exact⟨Re.le_refl _,Re.le_refl _⟩⟩
end
section
open Go.RowKit
open Bool renaming false_eq_true->ax4
open Int renaming lt_trichotomy->ax5,compare_eq_lt->ax6,compare_eq_eq->ax7,compare_eq_gt->ax8
variable{b c hi lo:Nat}{w:World}
def RetB(w:World)(b:Bool)(e:Ending)(w':World):Prop:=e=.returned (.bool b)/\w=w'
def RetF(w:World)(b:Nat)(e:Ending)(w':World):Prop:=e=.returned (.float .f64 b)/\w=w'
theorem eB(b:Nat)(w:World):
 (callFunc 277 #[.float .f64 b]).run Tryz.prog w=.ok (.value (.int .u64 (b:Int))) w:=by
 rw[run_callFunc_extern Tryz.func277 (by kernel_rfl) (by kernel_rfl) (by kernel_rfl) (e:=Extern.MathFloatBits.float64bits) (by kernel_rfl)];rfl
theorem dS(n:Int)(w:World):
 (callFunc 306 #[.int .u64 n]).run Tryz.prog w=.ok (.value (.float .f64 n.toNat)) w:=by
 rw[run_callFunc_extern Tryz.func306 (by kernel_rfl) (by kernel_rfl) (by kernel_rfl) (e:=Extern.MathFloatBits.float64frombits) (by kernel_rfl)];rfl
theorem pF(hb:num b)(hc:num c):FloatKind.f64.format.order b c=some (compare (sr b) (sr c)):=af5 hb hc
theorem uU(hb:num b)(hc:num c):(FloatKind.f64.format.order b c==some Ordering.gt)=decide (sr c<sr b):=by
 rw[pF hb hc];rcases ax5 (sr b) (sr c)with h|h|h
 . rw[ax6.2 h,decide_eq_false (by omega)];rfl
 . rw[ax7.2 h,decide_eq_false (by omega)];rfl
 . rw[ax8.2 h,decide_eq_true h];rfl
theorem adM(hb:num b)(hc:num c):(FloatKind.f64.format.order b c==some Ordering.lt)=decide (sr b<sr c):=by
 rw[pF hb hc];rcases ax5 (sr b) (sr c)with h|h|h
 . rw[ax6.2 h,decide_eq_true h];rfl
 . rw[ax7.2 h,decide_eq_false (by omega)];rfl
 . rw[ax8.2 h,decide_eq_false (by omega)];rfl
theorem qU(hb:num b)(hc:num c):(FloatKind.f64.format.order b c==some Ordering.eq)=decide (sr b=sr c):=by
 rw[pF hb hc];rcases ax5 (sr b) (sr c)with h|h|h
 . rw[ax6.2 h,decide_eq_false (by omega)];rfl
 . rw[ax7.2 h,decide_eq_true h];rfl
 . rw[ax8.2 h,decide_eq_false (by omega)];rfl
theorem ajB(hb:num b)(hc:num c):(FloatKind.f64.format.order b c==some Ordering.lt||FloatKind.f64.format.order b c==some Ordering.eq)=decide (sr b<=sr c):=by
 rw[adM hb hc,qU hb hc,<-Bool.decide_or];exact decide_eq_decide.2 (by omega)
theorem zC(x k:Nat)(hx:x<18446744073709551616)(hk:k<64):Go.bits BinOp.and IntKind.u64 (x:Int) (((2^k-1:Nat)):Int)=((x%2^k:Nat):Int):=by
 have h1:2^k<=2^63:=Nat.pow_le_pow_right (by omega) (by omega);rw[u64_and_nat x _ hx (by omega),Nat.and_two_pow_sub_one_eq_mod]
theorem pG(hb:b<2^64):b ^^^ 2^63<2^64/\rung (b ^^^ 2^63)=rung b/\sr (b ^^^ 2^63)=-sr b:=by
 have h1:b ^^^ 2^63<2^64:=Nat.xor_lt_two_pow hb (by decide);have h2:rung (b ^^^ 2^63)=rung b:=by
  unfold rung;rw[Nat.xor_mod_two_pow];simp
 have h3:(b ^^^ 2^63)/2^63=b/2^63 ^^^ 1:=by rw[Nat.xor_div_two_pow]
 refine⟨h1,h2,?_⟩;unfold sr fneg;rw[h2,h3];have:b/2^63=0\/b/2^63=1:=by omega
 rcases this with h|h<;>rw[h]<;>simp
theorem jG(hb:b<18446744073709551616):
 Calls Tryz.prog 229 #[.float .f64 b] w (RetB w (decide (fin b))):=by
 have hbits:=eB b;have HF:Hid (RetB w (decide (fin b)) (.returned (.bool (Go.bits BinOp.and IntKind.u64 ((b:Int)/4503599627370496) 2047 != 2047))) w):=by
  refine hdd ⟨?_,rfl⟩;have e1:((b:Int)/4503599627370496)=((b/4503599627370496:Nat):Int):=by omega
  have e2:=zC (b/4503599627370496) 11 (by omega) (by omega);rw[e1,show(2047:Int)=(((2^11-1:Nat)):Int) from rfl,e2]
  congr 2
  by_cases h:fin b
  . rw[decide_eq_true h]
    have h:b%2^63<2047*2^52:=h;exact bne_iff_ne.2 (by omega)
  . rw[decide_eq_false h]
    have h:¬b%2^63<2047*2^52:=h;have:((b/4503599627370496%2^11:Nat):Int)=((2^11-1:Nat):Int):=by omega
    rw[this];simp
 clear hb;go_enter Tryz.func229,Tryz.ntmps229
 go_wp2;go_ret;exact HF.out
theorem wrap_u64{x:Int}(h:0<=x/\x<18446744073709551616):IntKind.u64.wrap x=x:=by
 have hb64:(2:Int)^IntKind.u64.bits=18446744073709551616:=rfl;simp only[IntKind.wrap,show IntKind.u64.signed=false from rfl,Bool.false_and,ax4,if_false,hb64];omega
theorem aa5(b:Nat)(w:World):(Op.unary UnOp.neg (Value.float FloatKind.f64 b)).run Tryz.prog w=.ok (.float .f64 (Op.negFloat FloatKind.f64 b)) w:=rfl
theorem af7(hn:num b):Calls Tryz.prog 370 #[.float .f64 b] w (RetB w false):=by
 have h:(FloatKind.f64.format.order b b != some Ordering.eq)=false:=by
  rw[bne,qU hn hn];simp
 have HF:Hid (RetB w false (.returned (.bool false)) w):=hdd ⟨rfl,rfl⟩;clear hn;go_enter Tryz.func370,Tryz.ntmps370
 go_wp2;go_ret;exact HF.out
def gN(up:Bool):Int:=if up then infR else-infR
def kI(up:Bool):Int:=if up then 1 else-1
theorem xU(hb:b<18446744073709551616)(hn:num b)(up:Bool):Calls Tryz.prog 371 #[.float .f64 b,.int .i64 (kI up)] w (RetB w (decide (sr b=gN up))):=by
 have nb:=nE hn;have e0:sr 9218868437227405311=infR-1:=by decide
 have nm:num 9218868437227405311:=by decide
 cases up
 . have hx:=pG (b:=b) hb
   have nx:num (b ^^^ 2^63):=by unfold num;rw[hx.2.1];exact hn
   have h:(FloatKind.f64.format.order (Op.negFloat FloatKind.f64 b) 9218868437227405311==some Ordering.gt)=decide (sr b=gN false):=by
    show(FloatKind.f64.format.order (b ^^^ 2^63) 9218868437227405311==some Ordering.gt)=_;rw[uU nx nm,hx.2.2,e0];exact decide_eq_decide.2 (by simp only[gN,ax4,if_false];omega)
   have HF:Hid (RetB w (decide (sr b=gN false)) (.returned (.bool (decide (sr b=gN false)))) w):=hdd ⟨rfl,rfl⟩;simp only[kI,ax4,if_false];generalize decide (sr b=gN false)=r at*;clear hx nx e0 nb nm hn hb;have hneg:=aa5 b;go_enter Tryz.func371,Tryz.ntmps371
   go_wp2;go_ret;exact HF.out
 . have h:(FloatKind.f64.format.order b 9218868437227405311==some Ordering.gt)=decide (sr b=gN true):=by
    rw[uU hn nm,e0];exact decide_eq_decide.2 (by simp only[gN,if_true];omega)
   have HF:Hid (RetB w (decide (sr b=gN true)) (.returned (.bool (decide (sr b=gN true)))) w):=hdd ⟨rfl,rfl⟩;simp only[kI,if_true];generalize decide (sr b=gN true)=r at*;clear e0 nb nm hn hb;go_enter Tryz.func371,Tryz.ntmps371
   go_wp2;go_ret;exact HF.out
theorem aa6(hb:b<18446744073709551616)(hn:num b)(up:Bool):Calls Tryz.prog 364 #[.float .f64 b,.int .i64 (kI up)] w (RetF w (stepW b up)):=by
 have nb:=nE hn;have n0:num 0:=by decide
 have s0:sr 0=0:=by decide
 have hN:=hdd (af7 (w:=w) hn);have hI1:=hdd (xU (w:=w) hb hn true);have hI2:=hdd (xU (w:=w) hb hn false);have f64:=eB b;have ffb:=dS;have hE:=qU hn n0;have hG:=uU hn n0;rw[s0]at hE hG;by_cases hz:sr b=0
 . have HF:Hid (RetF w (stepW b up) (.returned (.float .f64 (if up then 1 else 9223372036854775809))) w):=hdd ⟨by unfold stepW;rw[if_pos hz],rfl⟩
   rw[decide_eq_true hz]at hE;clear hG hz nb n0 s0 hI1 hI2 f64 ffb hn hb
   cases up
   all_goals
    simp only[kI,ax4,if_false,if_true]at*;go_enter Tryz.func364,Tryz.ntmps364
    go_wp2_with fail
    refine hN.out.mono ?_;rintro e w1⟨rfl,hw⟩;obtain rfl:=hw;go_wp2;go_ret;exact HF.out
 . rw[decide_eq_false hz]at hE
   by_cases h1:sr b=infR/\up=true
   . obtain⟨h1,rfl⟩:=h1
     have HF:Hid (RetF w (stepW b true) (.returned (.float .f64 b)) w):=hdd ⟨by unfold stepW;rw[if_neg hz,if_pos (Or.inl ⟨h1,rfl⟩)],rfl⟩;rw[show gN true=infR from rfl,decide_eq_true h1]at hI1;clear hG hz nb n0 s0 hI2 f64 ffb hn hb h1;simp only[kI,ax4,if_false,if_true]at*;go_enter Tryz.func364,Tryz.ntmps364
     go_wp2_with fail
     refine hN.out.mono ?_;rintro e w1⟨rfl,hw⟩;obtain rfl:=hw;go_wp2_with fail
     refine hI1.out.mono ?_;rintro e w1⟨rfl,hw⟩;obtain rfl:=hw;go_wp2;go_ret;exact HF.out
   by_cases h2:sr b=-infR/\up=false
   . obtain⟨h2,rfl⟩:=h2
     have HF:Hid (RetF w (stepW b false) (.returned (.float .f64 b)) w):=hdd ⟨by unfold stepW;rw[if_neg hz,if_pos (Or.inr ⟨h2,rfl⟩)],rfl⟩;rw[show gN false=-(infR:Int) from rfl,decide_eq_true h2]at hI2;clear hG hz nb n0 s0 f64 ffb hn hb h2 h1;generalize decide (sr b=gN true)=r1 at*;simp only[kI,ax4,if_false,if_true]at*;go_enter Tryz.func364,Tryz.ntmps364
     go_wp2_with fail
     refine hN.out.mono ?_;rintro e w1⟨rfl,hw⟩;obtain rfl:=hw;go_wp2_with fail
     refine hI1.out.mono ?_;rintro e w1⟨rfl,hw⟩;obtain rfl:=hw
     cases r1
     all_goals
      go_wp2_with fail
      refine hI2.out.mono ?_;rintro e w1⟨rfl,hw⟩;obtain rfl:=hw;go_wp2;go_ret;exact HF.out
   . have HS:Hid (stepW b up=if decide (0<sr b)==up then b+1 else b-1):=hdd (by unfold stepW;rw[if_neg hz,if_neg (fun h=>h.elim h1 h2)])
     have hup:b≠18446744073709551615:=by
      rintro rfl;revert hn;decide
     have hb0:b≠0:=by
      rintro rfl;exact hz rfl
     obtain⟨c,hc⟩:∃c,c=b+1:=⟨_,rfl⟩;obtain⟨d,hd⟩:∃d,d=b-1:=⟨_,rfl⟩;have e1:IntKind.u64.wrap ((b:Int)+1)=(c:Int):=by rw[wrap_u64 (by omega)];omega
     have e2:IntKind.u64.wrap ((b:Int)-1)=(d:Int):=by rw[wrap_u64 (by omega)];omega
     rw[<-hc,<-hd]at HS;have ff1:=dS (c:Int);have ff2:=dS (d:Int);rw[Int.toNat_natCast]at ff1 ff2;have hr1:up=true->decide (sr b=gN true)=false:=fun h=>decide_eq_false fun h'=>h1 ⟨h',h⟩;have hr2:up=false->decide (sr b=gN false)=false:=fun h=>decide_eq_false fun h'=>h2 ⟨h',h⟩;clear ffb hup hb0 hz nb n0 s0 hn hb h1 h2 hc hd;generalize decide (sr b=gN true)=r1 at*;generalize decide (sr b=gN false)=r2 at*;generalize decide (0<sr b)=q at*;have hcases:(up=true/\r1=false)\/(up=false/\r2=false):=by
      cases up
      . exact Or.inr ⟨rfl,hr2 rfl⟩
      . exact Or.inl ⟨rfl,hr1 rfl⟩
     clear hr1 hr2;rcases hcases with ⟨rfl,rfl⟩|⟨rfl,rfl⟩
     . cases r2<;>cases q
       all_goals
        have HF:=HS.out;simp at HF;simp only[kI,ax4,if_false,if_true]at hI1 hI2|-;rw[HF];clear HF HS;go_enter Tryz.func364,Tryz.ntmps364
        go_wp2_with fail
        refine hN.out.mono ?_;rintro e w1⟨rfl,hw⟩;obtain rfl:=hw;go_wp2_with fail
        refine hI1.out.mono ?_;rintro e w1⟨rfl,hw⟩;obtain rfl:=hw;go_wp2_with fail
        refine hI2.out.mono ?_;rintro e w1⟨rfl,hw⟩;obtain rfl:=hw;go_wp2;go_ret;exact⟨rfl,rfl⟩
     . cases r1<;>cases q
       all_goals
        have HF:=HS.out;simp at HF;simp only[kI,ax4,if_false,if_true]at hI1 hI2|-;rw[HF];clear HF HS;go_enter Tryz.func364,Tryz.ntmps364
        go_wp2_with fail
        refine hN.out.mono ?_;rintro e w1⟨rfl,hw⟩;obtain rfl:=hw;go_wp2_with fail
        refine hI1.out.mono ?_;rintro e w1⟨rfl,hw⟩;obtain rfl:=hw;go_wp2_with fail
        refine hI2.out.mono ?_;rintro e w1⟨rfl,hw⟩;obtain rfl:=hw;go_wp2;go_ret;exact⟨rfl,rfl⟩
def gv(lo hi:Nat):Value:=.agg #[.float .f64 lo,.float .f64 hi]
def RetG(w:World)(X:Re->Prop)(e:Ending)(w':World):Prop:=Below w.heap.size w w'/\∃lo hi,e=.returned (gv lo hi)/\GapS lo hi X
def RetW(w:World)(b:Bool)(e:Ending)(w':World):Prop:=e=.returned (.bool b)/\Below w.heap.size w w'
theorem kJ(h1:lo<18446744073709551616)(h2:hi<18446744073709551616):
 Calls Tryz.prog 261 #[gv lo hi] w (RetW w (decide (bW lo hi))):=by
 unfold gv;obtain⟨w1,hw1,hb1,hs1,b1⟩:=pro1 w (.cells #[.float .f64 lo,.float .f64 hi] 270);have HB:=hdd hb1;obtain⟨c0,c1,-,-⟩:=aB b1;have F1:=hdd (jG (b:=lo) (w:=w1) h1);have F2:=hdd (jG (b:=hi) (w:=w1) h2);clear hb1 b1 hs1;by_cases k1:fin lo
 . by_cases k2:fin hi
   . have hle:=ajB k1.num k2.num
     rw[decide_eq_true k1]at F1;rw[decide_eq_true k2]at F2;have HF:Hid (RetW w (decide (bW lo hi)) (.returned (.bool (decide (sr lo<=sr hi)))) w1):=hdd ⟨by
      have:decide (bW lo hi)=decide (sr lo<=sr hi):=decide_eq_decide.2 ⟨fun h=>h.2.2,fun h=>⟨k1,k2,h⟩⟩;rw[this],HB.out⟩
     clear h1 h2 k1 k2;generalize decide (sr lo<=sr hi)=r at*;go_enter Tryz.func261,Tryz.ntmps261
     go_wp2_with fail
     refine F1.out.mono ?_;rintro e w2⟨rfl,hw⟩;obtain rfl:=hw;go_wp2_with fail
     refine F2.out.mono ?_;rintro e w2⟨rfl,hw⟩;obtain rfl:=hw;go_wp2;go_ret;exact HF.out
   . rw[decide_eq_true k1]at F1;rw[decide_eq_false k2]at F2
     have HF:Hid (RetW w (decide (bW lo hi)) (.returned (.bool false)) w1):=hdd ⟨by rw[decide_eq_false (fun h=>k2 h.2.1)],HB.out⟩;clear h1 h2 k1 k2;go_enter Tryz.func261,Tryz.ntmps261
     go_wp2_with fail
     refine F1.out.mono ?_;rintro e w2⟨rfl,hw⟩;obtain rfl:=hw;go_wp2_with fail
     refine F2.out.mono ?_;rintro e w2⟨rfl,hw⟩;obtain rfl:=hw;go_wp2;go_ret;exact HF.out
 . rw[decide_eq_false k1]at F1
   have HF:Hid (RetW w (decide (bW lo hi)) (.returned (.bool false)) w1):=hdd ⟨by rw[decide_eq_false (fun h=>k1 h.1)],HB.out⟩;clear h1 h2 k1;go_enter Tryz.func261,Tryz.ntmps261
   go_wp2_with fail
   refine F1.out.mono ?_;rintro e w2⟨rfl,hw⟩;obtain rfl:=hw;go_wp2;go_ret;exact HF.out
def dU(lo hi:Nat):Int×Bool:=
 if bW lo hi then(if 0<sr lo then(1,true)else if sr hi<0 then(-1,true)else(0,decide (sr lo=0)&&decide (sr hi=0)))else(0,false)
def rV(w:World)(n:Int)(b:Bool)(e:Ending)(w':World):Prop:=e=.returned (.tuple #[.int .i64 n,.bool b])/\Below w.heap.size w w'
theorem adN{X:Re->Prop}{x:Re}(h:GapS lo hi X)(hx:X x)(hk:(dU lo hi).2=true):(dU lo hi).1=Re.sgn x:=by
 unfold dU at*;by_cases k:bW lo hi
 . obtain⟨x1,x2⟩:=h.2.2 k x hx
   rw[if_pos k]at*;unfold fv at x1 x2;by_cases h1:0<sr lo
   . rw[if_pos h1]
     have:=kC h1;rw[dL]at this;exact(Re.sgn_pos (Re.lt_of_lt_of_le (Re.ofI_lt.2 this) x1)).symm
   . rw[if_neg h1]at*
     by_cases h2:sr hi<0
     . rw[if_pos h2]
       have:=kC h2;rw[dL]at this;exact(Re.sgn_neg (Re.lt_of_le_of_lt x2 (Re.ofI_lt.2 this))).symm
     . rw[if_neg h2]at*
       simp only[Bool.and_eq_true,decide_eq_true_eq]at hk;rw[hk.1,dL]at x1;rw[hk.2,dL]at x2;have:x=0:=Re.le_antisymm x2 x1;rw[this,Re.sgn_zero]
 . rw[if_neg k]at hk;cases hk
end
end Go.Proofs.YtigoiiekebccnaaGreatDoor
