/- A part of the proof: contracts of functions and plain laws (FltB, GapA, GapB, GapC, GapD). -/
import Derived.Test.YtkadpnljocflaaaGreatDoorK10
import Derived.Test.YtkadpnljocflaaaGreatDoorK01
import Derived.Test.YtkadpnljocflaaaGreatDoorK07
set_option linter.unusedVariables false
set_option linter.unusedSimpArgs false
set_option linter.unnecessarySimpa false
set_option maxHeartbeats 25600000
set_option maxRecDepth 100000
namespace Go.Proofs.YtkadpnljocflaaaGreatDoor
section
open Ieee
open Re (ofI ofN)
variable{a b c d m n r s v w z:Nat}{V V1 V2 V3 V4 W x y:Re}{D X Y Z:Re->Prop}
def stepW(v:Nat)(up:Bool):Nat:=
 if sr v=0 then(if up then 1 else 2^63+1)
 else if (sr v=infR/\up=true)\/(sr v=-infR/\up=false)then v
 else if decide (0<sr v)==up then v+1 else v-1
theorem lZ(h:num v):-(infR:Int)<=sr v/\sr v<=infR:=by unfold num at h;unfold sr;split<;>omega
theorem abQ:fin v↔-(infR:Int)<sr v/\sr v<infR:=by
 unfold fin sr;split<;>omega
theorem ahP(hv:v<2^64)(h:rung v+1<2^63):fneg (v+1)=fneg v/\rung (v+1)=rung v+1:=by
 unfold fneg rung at*;have e1:(v+1)/2^63=v/2^63:=by omega
 rw[e1];exact⟨rfl,by omega⟩
theorem ahQ(hv:v<2^64)(h:0<rung v):fneg (v-1)=fneg v/\rung (v-1)=rung v-1:=by
 unfold fneg rung at*;have e1:(v-1)/2^63=v/2^63:=by omega
 rw[e1];exact⟨rfl,by omega⟩
theorem uU(hv:v<2^64)(h:num v)(up:Bool):stepW v up<2^64/\num (stepW v up)/\
 ((sr v=infR/\up=true)\/(sr v=-infR/\up=false)/\stepW v up=v\/sr (stepW v up)=sr v+(if up then 1 else-1)):=by
 have hb:=lZ h;have hi:infR=2047*2^52:=rfl;unfold stepW
 split
 . rename_i h0
   cases up
   . refine⟨by decide,by decide,Or.inr ?_⟩
     rw[h0];right;decide
   . refine⟨by decide,by decide,Or.inr ?_⟩
     rw[h0];right;decide
 . rename_i h0
   split
   . rename_i h1
     refine⟨hv,h,?_⟩;rcases h1 with h1|h1
     . exact Or.inl h1
     . exact Or.inr (Or.inl ⟨h1,rfl⟩)
   . rename_i h1
     split
     . rename_i h2
       have hr:rung v<infR:=by
        unfold num at h;rcases Nat.lt_or_eq_of_le h with h3|h3
        . exact h3
        . exfalso
          apply h1;unfold sr at h2|-;rw[h3]at h2|-
          cases hn:fneg v<;>rw[hn]at h2<;>cases up<;>simp_all
       obtain⟨e1,e2⟩:=ahP hv (by omega);refine⟨by unfold rung at hr;omega,by unfold num;rw[e2];omega,Or.inr (Or.inr ?_)⟩;unfold sr at h0 h2|-;rw[e1,e2]
       cases hn:fneg v<;>rw[hn]at h2 h0<;>cases up<;>simp_all<;>omega
     . rename_i h2
       have hr:0<rung v:=by
        rcases Nat.eq_zero_or_pos (rung v)with h3|h3
        . exfalso;apply h0;unfold sr;rw[h3];split<;>rfl
        . exact h3
       obtain⟨e1,e2⟩:=ahQ hv hr;refine⟨by omega,by unfold num at*;rw[e2];omega,Or.inr (Or.inr ?_)⟩;unfold sr at h0 h2|-;rw[e1,e2]
       cases hn:fneg v<;>rw[hn]at h2 h0<;>cases up<;>simp_all<;>omega
def bV(lo hi:Nat):Prop:=fin lo/\fin hi/\sr lo<=sr hi
instance(a b:Nat):Decidable (bV a b):=inferInstanceAs (Decidable (_/\_))
def GapS(lo hi:Nat)(D:Re->Prop):Prop:=lo<2^64/\hi<2^64/\(bV lo hi->∀x,D x->ofI (fv lo)<=x/\x<=ofI (fv hi))
def gZ(lo hi:Nat)(D:Re->Prop):Prop:=lo<2^64/\hi<2^64/\num lo/\num hi/\∀x,D x->(-(infR:Int)<sr lo->ofI (fvr (sr lo-1))<x)/\(sr hi<infR->x<ofI (fvr (sr hi+1)))
theorem acX{lo hi:Nat}(h:gZ lo hi D):GapS (stepW lo false) (stepW hi true) D:=by
 obtain⟨b1,b2,n1,n2,h12⟩:=h;obtain⟨s1,s2,s3⟩:=uU b1 n1 false;obtain⟨t1,t2,t3⟩:=uU b2 n2 true;refine⟨s1,t1,fun⟨k1,k2,k3⟩ x hx=>⟨?_,?_⟩⟩
 . have k:=abQ.1 k1
   rcases s3 with s3|s3|s3
   . exact absurd s3.2 (by simp)
   . exfalso;rw[s3.2,s3.1.1]at k;omega
   . unfold fv;rw[s3]
     simp only[Bool.false_eq_true,if_false]at s3|-;have:-(infR:Int)<sr lo:=by omega
     exact Re.le_of_lt ((h12 x hx).1 this)
 . have k:=abQ.1 k2
   have hb:=lZ n2;rcases t3 with t3|t3|t3
   . exfalso
     have:stepW hi true=hi:=by
      unfold stepW;rw[if_neg (by have h00:(0:Nat)<infR:=(by decide);have:=t3.1;omega),if_pos (Or.inl t3)]
     rw[this,t3.1]at k;omega
   . exact absurd t3.1.2 (by simp)
   . unfold fv;rw[t3]
     simp only[if_true]at t3|-;have:sr hi<(infR:Int):=by omega
     exact Re.le_of_lt ((h12 x hx).2 this)
def pow2(n:Nat):Nat:=2^n
theorem afB(n:Nat):0<pow2 n:=Nat.two_pow_pos n
theorem ahR{t:Nat}(h:t-1074=s):(2^(t-1074):Nat)=pow2 s:=by rw[h];rfl
def U74:Nat:=pow2 1074
theorem ajL(n:Nat):∃u,u=n/\pow2 n=2^u:=⟨n,rfl,rfl⟩
theorem iL:∃u,u=1074/\U74=2^u:=ajL 1074
theorem kW:(0:Re)<ofN U74:=kI (afB 1074)
def AddD(X Y Z:Re->Prop):Prop:=∀z,Z z->∃x y,X x/\Y y/\z=x+y
def SubD(X Y Z:Re->Prop):Prop:=∀z,Z z->∃x y,X x/\Y y/\z=x-y
def MulD(X Y Z:Re->Prop):Prop:=∀z,Z z->∃x y,X x/\Y y/\z*ofN U74=x*y
def QuoD(X Y Z:Re->Prop):Prop:=∀z,Z z->∃x y,X x/\Y y/\y≠0/\z*y=x*ofN U74
def afC(X Z:Re->Prop):Prop:=∀z,Z z->∃x,X x/\0<=z/\z*z=x*ofN U74
theorem uV(hr:r<2^64)(hs:s<2^64)(n1:NearR r V)(n2:NearR s W)(h:∀x,D x->V<=x/\x<=W):gZ r s D:=
 ⟨hr,hs,n1.1,n2.1,fun x hx=>⟨fun hh=>Re.lt_of_lt_of_le (n1.below hh) (h x hx).1,fun hh=>Re.lt_of_le_of_lt (h x hx).2 (n2.above hh)⟩⟩
theorem aaP(h:∀x,X x->ofI (fv a)<=x/\x<=ofI (fv b))(k:∀x,Y x->ofI (fv c)<=x/\x<=ofI (fv d))(hr:r<2^64)(hs:s<2^64)(n1:Near r (fv a+fv c) 1074)(n2:Near s (fv b+fv d) 1074)(hZ:AddD X Y Z):gZ r s Z:=by
 have one:∀V:Re,V*ofN (2^(1074-1074))=V:=fun V=>by rw[Nat.sub_self,Nat.pow_zero];exact Re.mul_one V
 refine uV hr hs (n1.re (one _)) (n2.re (one _)) fun z hz=> ?_;obtain⟨x,y,hx,hy,rfl⟩:=hZ z hz;rw[Re.ofI_add,Re.ofI_add];exact⟨Re.add_le_add (h x hx).1 (k y hy).1,Re.add_le_add (h x hx).2 (k y hy).2⟩
theorem uW{z:Re}(h:x<=0)(k:y<=z):x*z<=x*y:=by
 have:=Re.mul_le_mul_left (Re.neg_nonneg.2 h) k;rw[Re.neg_mul,Re.neg_mul]at this;have h2:=Re.neg_le_neg this;rwa[Re.neg_neg,Re.neg_neg]at h2
theorem rY{z:Re}(h:x<=0)(k:y<=z):z*x<=y*x:=by
 rw[Re.mul_comm z,Re.mul_comm y];exact uW h k
theorem uX{a b c d:Re}(hx:a<=x/\x<=b)(hy:c<=y/\y<=d):
 (a*c<=x*y\/a*d<=x*y\/b*c<=x*y\/b*d<=x*y)/\(x*y<=a*c\/x*y<=a*d\/x*y<=b*c\/x*y<=b*d):=by
 have low:∀a b c d x y:Re,a<=x->x<=b->c<=y->y<=d->(a*c<=x*y\/a*d<=x*y\/b*c<=x*y\/b*d<=x*y):=by
  intro a b c d x y h1 h2 h3 h4;rcases Re.le_total 0 x with hx|hx
  . have e1:x*c<=x*y:=Re.mul_le_mul_left hx h3
    rcases Re.le_total 0 c with hc|hc
    . exact Or.inl (Re.le_trans (Re.mul_le_mul_right hc h1) e1)
    . exact Or.inr (Or.inr (Or.inl (Re.le_trans (rY hc h2) e1)))
  . have e1:x*d<=x*y:=uW hx h4
    rcases Re.le_total 0 d with hd|hd
    . exact Or.inr (Or.inl (Re.le_trans (Re.mul_le_mul_right hd h1) e1))
    . exact Or.inr (Or.inr (Or.inr (Re.le_trans (rY hd h2) e1)))
 refine⟨low a b c d x y hx.1 hx.2 hy.1 hy.2,?_⟩;have h:=low a b (-d) (-c) x (-y) hx.1 hx.2 (Re.neg_le_neg hy.2) (Re.neg_le_neg hy.1);simp only[Re.mul_neg]at h;have n:∀{u v:Re},-u<=-v->v<=u:=fun{u v} h=>by have:=Re.neg_le_neg h;rwa[Re.neg_neg,Re.neg_neg]at this
 rcases h with h|h|h|h
 . exact Or.inr (Or.inl (n h))
 . exact Or.inl (n h)
 . exact Or.inr (Or.inr (Or.inr (n h)))
 . exact Or.inr (Or.inr (Or.inl (n h)))
def wK(m w x y z:Nat):Prop:=sr m<=sr w/\sr m<=sr x/\sr m<=sr y/\sr m<=sr z/\(m=w\/m=x\/m=y\/m=z)
def wL(m w x y z:Nat):Prop:=sr w<=sr m/\sr x<=sr m/\sr y<=sr m/\sr z<=sr m/\(m=w\/m=x\/m=y\/m=z)
theorem abR{x y:Nat}
 (hw:w<2^64) (hx:x<2^64) (hy:y<2^64) (hz:z<2^64) (n1:NearR w V1) (n2:NearR x V2) (n3:NearR y V3) (n4:NearR z V4)
 (hm:wK m w x y z) (hn:wL n w x y z) (hD:∀t,D t->(V1<=t\/V2<=t\/V3<=t\/V4<=t)/\(t<=V1\/t<=V2\/t<=V3\/t<=V4)):gZ m n D:=by
 obtain⟨m1,m2,m3,m4,m5⟩:=hm;obtain⟨g1,g2,g3,g4,g5⟩:=hn;have bm:m<2^64:=by rcases m5 with rfl|rfl|rfl|rfl<;>assumption
 have bn:n<2^64:=by rcases g5 with rfl|rfl|rfl|rfl<;>assumption
 have nm:num m:=by rcases m5 with rfl|rfl|rfl|rfl<;>first|exact n1.1|exact n2.1|exact n3.1|exact n4.1
 have nn:num n:=by rcases g5 with rfl|rfl|rfl|rfl<;>first|exact n1.1|exact n2.1|exact n3.1|exact n4.1
 have lo:∀(v:Nat) (V t:Re),NearR v V->sr m<=sr v->-(infR:Int)<sr m->V<=t->ofI (fvr (sr m-1))<t:=by
  intro v V t hv h1 h2 h3;have e1:=hv.below (by omega);have e2:fvr (sr m-1)<=fvr (sr v-1):=kV (by omega);exact Re.lt_of_le_of_lt (Re.ofI_le.2 e2) (Re.lt_of_lt_of_le e1 h3)
 have hi:∀(v:Nat) (V t:Re),NearR v V->sr v<=sr n->sr n<infR->t<=V->t<ofI (fvr (sr n+1)):=by
  intro v V t hv h1 h2 h3;have e1:=hv.above (by omega);have e2:fvr (sr v+1)<=fvr (sr n+1):=kV (by omega);exact Re.lt_of_lt_of_le (Re.lt_of_le_of_lt h3 e1) (Re.ofI_le.2 e2)
 refine⟨bm,bn,nm,nn,fun t ht=>⟨fun hh=> ?_,fun hh=> ?_⟩⟩
 . rcases(hD t ht).1 with c|c|c|c
   . exact lo w _ t n1 m1 hh c
   . exact lo x _ t n2 m2 hh c
   . exact lo y _ t n3 m3 hh c
   . exact lo z _ t n4 m4 hh c
 . rcases(hD t ht).2 with c|c|c|c
   . exact hi w _ t n1 g1 hh c
   . exact hi x _ t n2 g2 hh c
   . exact hi y _ t n3 g3 hh c
   . exact hi z _ t n4 g4 hh c
theorem wM(N:Int){d:Re}(h:d≠0):∃V:Re,V*d=ofI N:=by
 obtain⟨i,hi⟩:=Re.exists_inv h;exact⟨ofI N*i,by rw[Re.mul_assoc,Re.mul_comm i,hi,Re.mul_one]⟩
theorem qR(x:Re){d:Re}(h:d≠0):∃V:Re,V*d=x:=by
 obtain⟨i,hi⟩:=Re.exists_inv h;exact⟨x*i,by rw[Re.mul_assoc,Re.mul_comm i,hi,Re.mul_one]⟩
theorem aaQ{x y:Nat}(h:∀x,X x->ofI (fv a)<=x/\x<=ofI (fv b))(k:∀x,Y x->ofI (fv c)<=x/\x<=ofI (fv d))
 (hw:w<2^64) (hx:x<2^64) (hy:y<2^64) (hz:z<2^64) (n1:Near w (fv a*fv c) 2148) (n2:Near x (fv a*fv d) 2148) (n3:Near y (fv b*fv c) 2148) (n4:Near z (fv b*fv d) 2148)
 (hm:wK m w x y z) (hn:wL n w x y z) (hZ:MulD X Y Z):gZ m n Z:=by
 have hU:=kW;have hU0:=Re.ne_of_gt hU;have e:ofN (2^(2148-1074))=ofN U74:=congrArg ofN (ahR (t:=2148) (s:=1074) rfl);obtain⟨V1,h1⟩:=wM (fv a*fv c) hU0;obtain⟨V2,h2⟩:=wM (fv a*fv d) hU0;obtain⟨V3,h3⟩:=wM (fv b*fv c) hU0;obtain⟨V4,h4⟩:=wM (fv b*fv d) hU0;refine abR hw hx hy hz (n1.re (by rw[e];exact h1)) (n2.re (by rw[e];exact h2)) (n3.re (by rw[e];exact h3)) (n4.re (by rw[e];exact h4)) hm hn fun t ht=> ?_;obtain⟨u,v,hu,hv,ht⟩:=hZ t ht;have:=uX (h u hu) (k v hv);rw[<-Re.ofI_mul,<-Re.ofI_mul,<-Re.ofI_mul,<-Re.ofI_mul,<-h1,<-h2,<-h3,<-h4,<-ht]at this;simp only[eG hU]at this;exact this
theorem afD(i c y:Re):i*(c*y)=c*(y*i):=by
 revert i c y;exact Re.all3 fun a b c=>Re.same fun n=>by simp only[Re.mulC_f];grind
theorem afE(i c y:Re):i*(c*y)=y*(c*i):=by
 revert i c y;exact Re.all3 fun a b c=>Re.same fun n=>by simp only[Re.mulC_f];grind
theorem afF{c ic iy:Re}(hcy:0<c*y)(h:c<=y)(hc:c*ic=1)(hy:y*iy=1):iy<=ic:=by
 rw[<-eG hcy];have e1:iy*(c*y)=c:=by
  rw[afD,hy,Re.mul_one]
 have e2:ic*(c*y)=y:=by
  rw[afE,hc,Re.mul_one]
 rw[e1,e2];exact h
theorem aaR{x y:Nat}(h:∀x,X x->ofI (fv a)<=x/\x<=ofI (fv b))(k:∀x,Y x->ofI (fv c)<=x/\x<=ofI (fv d))(hs:0<fv c\/fv d<0)
 (hw:w<2^64) (hx:x<2^64) (hy:y<2^64) (hz:z<2^64) (n1:NearR w V1) (n2:NearR x V2) (n3:NearR y V3) (n4:NearR z V4)
 (e1:V1*ofI (fv c)=ofI (fv a)*ofN U74) (e2:V2*ofI (fv d)=ofI (fv a)*ofN U74) (e3:V3*ofI (fv c)=ofI (fv b)*ofN U74) (e4:V4*ofI (fv d)=ofI (fv b)*ofN U74)
 (hm:wK m w x y z) (hn:wL n w x y z) (hZ:QuoD X Y Z):gZ m n Z:=by
 refine abR hw hx hy hz n1 n2 n3 n4 hm hn fun t ht=> ?_;obtain⟨u,v,hu,hv,hv0,ht⟩:=hZ t ht;obtain⟨hv1,hv2⟩:=k v hv;have hu2:=h u hu;generalize ofI (fv a)=A at*;generalize ofI (fv b)=B at*;obtain⟨C,hC⟩:∃C,ofI (fv c)=C:=⟨_,rfl⟩;obtain⟨E,hE⟩:∃E,ofI (fv d)=E:=⟨_,rfl⟩;have hs':0<C\/E<0:=by
  rcases hs with hs|hs
  . left;rw[<-hC,<-Re.ofI_zero];exact Re.ofI_lt.2 hs
  . right;rw[<-hE,<-Re.ofI_zero];exact Re.ofI_lt.2 hs
 rw[hC]at e1 e3 hv1;rw[hE]at e2 e4 hv2;have hpos:0<C*v/\0<v*E/\C≠0/\E≠0:=by
  rcases hs' with hs|hs
  . have h1:=Re.lt_of_lt_of_le hs hv1
    have h2:=Re.lt_of_lt_of_le h1 hv2;exact⟨Re.mul_pos hs h1,Re.mul_pos h1 h2,Re.ne_of_gt hs,Re.ne_of_gt h2⟩
  . have h1:=Re.lt_of_le_of_lt hv2 hs
    have h2:=Re.lt_of_le_of_lt hv1 h1;refine⟨?_,?_,Re.ne_of_lt h2,Re.ne_of_lt hs⟩
    . have:=Re.mul_pos (Re.neg_pos.2 h2) (Re.neg_pos.2 h1);rwa[Re.neg_mul_neg]at this
    . have:=Re.mul_pos (Re.neg_pos.2 h1) (Re.neg_pos.2 hs);rwa[Re.neg_mul_neg]at this
 obtain⟨p1,p2,c0,d0⟩:=hpos;obtain⟨ic,hic⟩:=Re.exists_inv c0;obtain⟨id,hid⟩:=Re.exists_inv d0;obtain⟨iv,hiv⟩:=Re.exists_inv hv0;have l1:iv<=ic:=afF p1 hv1 hic hiv;have l2:id<=iv:=afF p2 hv2 hiv hid;have hU:=kW;have fwd:∀{V N D I:Re},V*D=N*ofN U74->D*I=1->V=N*I*ofN U74:=by
  intro V N D I h1 h2;have:=congrArg (fun z:Re=>z*I) h1;simp only[Re.mul_assoc,h2,Re.mul_one]at this;rw[this,Re.mul_assoc,Re.mul_comm I]
 have:=uX hu2 ⟨l2,l1⟩;rw[fwd e1 hic,fwd e2 hid,fwd e3 hic,fwd e4 hid,fwd ht hiv];simp only[eG hU];obtain⟨q1,q2⟩:=this;constructor
 . rcases q1 with q|q|q|q
   . exact Or.inr (Or.inl q)
   . exact Or.inl q
   . exact Or.inr (Or.inr (Or.inr q))
   . exact Or.inr (Or.inr (Or.inl q))
 . rcases q2 with q|q|q|q
   . exact Or.inr (Or.inl q)
   . exact Or.inl q
   . exact Or.inr (Or.inr (Or.inr q))
   . exact Or.inr (Or.inr (Or.inl q))
theorem yE(h:∀x,X x->ofI (fv a)<=x/\x<=ofI (fv b))(hr:r<2^64)(hs:s<2^64)(n1:NearR r V)(n2:NearR s W)
 (h1:0<=W) (e1:V*V=ofI (fv a)*ofN U74) (e2:W*W=ofI (fv b)*ofN U74) (hZ:afC X Z):gZ r s Z:=by
 refine uV hr hs n1 n2 fun z hz=> ?_;obtain⟨x,hx,h0,hzz⟩:=hZ z hz;obtain⟨k1,k2⟩:=h x hx;exact⟨Re.le_of_sq h0 (by rw[e1,hzz];exact(eG kW).2 k1),Re.le_of_sq h1 (by rw[hzz,e2];exact(eG kW).2 k2)⟩
theorem ahS(X:Re->Prop):GapS (2^63+2047*2^52) (2047*2^52) X:=⟨by decide,by decide,fun h=>absurd h.1 (by decide)⟩
theorem ajM(h:v<2^64):GapS v v (fun x=>x=ofI (fv v)):=⟨h,h,fun _ x hx=>by rw[hx];exact⟨Re.le_refl _,Re.le_refl _⟩⟩
end
section
open Go.RowKit
open Bool renaming false_eq_true->as3
open Int renaming lt_trichotomy->as4,compare_eq_lt->as5,compare_eq_eq->as6,compare_eq_gt->as7
variable{b c hi lo x y z:Nat}{X:Re->Prop}{w:World}
def RetB(w:World)(b:Bool)(e:Ending)(w':World):Prop:=e=.returned (.bool b)/\w=w'
def RetF(w:World)(b:Nat)(e:Ending)(w':World):Prop:=e=.returned (.float .f64 b)/\w=w'
theorem dY(b:Nat)(w:World):
 (callFunc 196 #[.float .f64 b]).run Tryz.prog w=.ok (.value (.int .u64 (b:Int))) w:=by
 rw[run_callFunc_extern Tryz.func196 (by kernel_rfl) (by kernel_rfl) (by kernel_rfl) (e:=Extern.MathFloatBits.float64bits) (by kernel_rfl)];rfl
theorem dQ(n:Int)(w:World):
 (callFunc 177 #[.int .u64 n]).run Tryz.prog w=.ok (.value (.float .f64 n.toNat)) w:=by
 rw[run_callFunc_extern Tryz.func177 (by kernel_rfl) (by kernel_rfl) (by kernel_rfl) (e:=Extern.MathFloatBits.float64frombits) (by kernel_rfl)];rfl
theorem nU(hb:num b)(hc:num c):FloatKind.f64.format.order b c=some (compare (sr b) (sr c)):=acW hb hc
theorem rZ(hb:num b)(hc:num c):(FloatKind.f64.format.order b c==some Ordering.gt)=decide (sr c<sr b):=by
 rw[nU hb hc];rcases as4 (sr b) (sr c)with h|h|h
 . rw[as5.2 h,decide_eq_false (by omega)];rfl
 . rw[as6.2 h,decide_eq_false (by omega)];rfl
 . rw[as7.2 h,decide_eq_true h];rfl
theorem aaS(hb:num b)(hc:num c):(FloatKind.f64.format.order b c==some Ordering.lt)=decide (sr b<sr c):=by
 rw[nU hb hc];rcases as4 (sr b) (sr c)with h|h|h
 . rw[as5.2 h,decide_eq_true h];rfl
 . rw[as6.2 h,decide_eq_false (by omega)];rfl
 . rw[as7.2 h,decide_eq_false (by omega)];rfl
theorem o8(hb:num b)(hc:num c):(FloatKind.f64.format.order b c==some Ordering.eq)=decide (sr b=sr c):=by
 rw[nU hb hc];rcases as4 (sr b) (sr c)with h|h|h
 . rw[as5.2 h,decide_eq_false (by omega)];rfl
 . rw[as6.2 h,decide_eq_true h];rfl
 . rw[as7.2 h,decide_eq_false (by omega)];rfl
theorem afG(hb:num b)(hc:num c):(FloatKind.f64.format.order b c==some Ordering.lt||FloatKind.f64.format.order b c==some Ordering.eq)=decide (sr b<=sr c):=by
 rw[aaS hb hc,o8 hb hc,<-Bool.decide_or];exact decide_eq_decide.2 (by omega)
theorem wN(x k:Nat)(hx:x<18446744073709551616)(hk:k<64):Go.bits BinOp.and IntKind.u64 (x:Int) (((2^k-1:Nat)):Int)=((x%2^k:Nat):Int):=by
 have h1:2^k<=2^63:=Nat.pow_le_pow_right (by omega) (by omega);rw[u64_and_nat x _ hx (by omega),Nat.and_two_pow_sub_one_eq_mod]
theorem nV(hb:b<2^64):b ^^^ 2^63<2^64/\rung (b ^^^ 2^63)=rung b/\sr (b ^^^ 2^63)=-sr b:=by
 have h1:b ^^^ 2^63<2^64:=Nat.xor_lt_two_pow hb (by decide);have h2:rung (b ^^^ 2^63)=rung b:=by
  unfold rung;rw[Nat.xor_mod_two_pow];simp
 have h3:(b ^^^ 2^63)/2^63=b/2^63 ^^^ 1:=by rw[Nat.xor_div_two_pow]
 refine⟨h1,h2,?_⟩;unfold sr fneg;rw[h2,h3];have:b/2^63=0\/b/2^63=1:=by omega
 rcases this with h|h<;>rw[h]<;>simp
theorem iY(hb:b<18446744073709551616):
 Calls Tryz.prog 172 #[.float .f64 b] w (RetB w (decide (fin b))):=by
 have hbits:=dY b;have HF:Hid (RetB w (decide (fin b)) (.returned (.bool (Go.bits BinOp.and IntKind.u64 ((b:Int)/4503599627370496) 2047 != 2047))) w):=by
  refine hdd ⟨?_,rfl⟩;have e1:((b:Int)/4503599627370496)=((b/4503599627370496:Nat):Int):=by omega
  have e2:=wN (b/4503599627370496) 11 (by omega) (by omega);rw[e1,show(2047:Int)=(((2^11-1:Nat)):Int) from rfl,e2]
  congr 2
  by_cases h:fin b
  . rw[decide_eq_true h]
    have h:b%2^63<2047*2^52:=h;exact bne_iff_ne.2 (by omega)
  . rw[decide_eq_false h]
    have h:¬b%2^63<2047*2^52:=h;have:((b/4503599627370496%2^11:Nat):Int)=((2^11-1:Nat):Int):=by omega
    rw[this];simp
 clear hb;go_enter Tryz.func172,Tryz.ntmps172
 go_wp2;go_ret;exact HF.out
theorem wrap_u64{x:Int}(h:0<=x/\x<18446744073709551616):IntKind.u64.wrap x=x:=by
 have hb64:(2:Int)^IntKind.u64.bits=18446744073709551616:=rfl;simp only[IntKind.wrap,show IntKind.u64.signed=false from rfl,Bool.false_and,as3,if_false,hb64];omega
theorem yF(b:Nat)(w:World):(Op.unary UnOp.neg (Value.float FloatKind.f64 b)).run Tryz.prog w=.ok (.float .f64 (Op.negFloat FloatKind.f64 b)) w:=rfl
theorem acY(hn:num b):Calls Tryz.prog 269 #[.float .f64 b] w (RetB w false):=by
 have h:(FloatKind.f64.format.order b b != some Ordering.eq)=false:=by
  rw[bne,o8 hn hn];simp
 have HF:Hid (RetB w false (.returned (.bool false)) w):=hdd ⟨rfl,rfl⟩;clear hn;go_enter Tryz.func269,Tryz.ntmps269
 go_wp2;go_ret;exact HF.out
def gI(up:Bool):Int:=if up then infR else-infR
def jT(up:Bool):Int:=if up then 1 else-1
theorem uY(hb:b<18446744073709551616)(hn:num b)(up:Bool):Calls Tryz.prog 270 #[.float .f64 b,.int .i64 (jT up)] w (RetB w (decide (sr b=gI up))):=by
 have nb:=lZ hn;have e0:sr 9218868437227405311=infR-1:=by decide
 have nm:num 9218868437227405311:=by decide
 cases up
 . have hx:=nV (b:=b) hb
   have nx:num (b ^^^ 2^63):=by unfold num;rw[hx.2.1];exact hn
   have h:(FloatKind.f64.format.order (Op.negFloat FloatKind.f64 b) 9218868437227405311==some Ordering.gt)=decide (sr b=gI false):=by
    show(FloatKind.f64.format.order (b ^^^ 2^63) 9218868437227405311==some Ordering.gt)=_;rw[rZ nx nm,hx.2.2,e0];exact decide_eq_decide.2 (by simp only[gI,as3,if_false];omega)
   have HF:Hid (RetB w (decide (sr b=gI false)) (.returned (.bool (decide (sr b=gI false)))) w):=hdd ⟨rfl,rfl⟩;simp only[jT,as3,if_false];generalize decide (sr b=gI false)=r at*;clear hx nx e0 nb nm hn hb;have hneg:=yF b;go_enter Tryz.func270,Tryz.ntmps270
   go_wp2;go_ret;exact HF.out
 . have h:(FloatKind.f64.format.order b 9218868437227405311==some Ordering.gt)=decide (sr b=gI true):=by
    rw[rZ hn nm,e0];exact decide_eq_decide.2 (by simp only[gI,if_true];omega)
   have HF:Hid (RetB w (decide (sr b=gI true)) (.returned (.bool (decide (sr b=gI true)))) w):=hdd ⟨rfl,rfl⟩;simp only[jT,if_true];generalize decide (sr b=gI true)=r at*;clear e0 nb nm hn hb;go_enter Tryz.func270,Tryz.ntmps270
   go_wp2;go_ret;exact HF.out
theorem yG(hb:b<18446744073709551616)(hn:num b)(up:Bool):Calls Tryz.prog 262 #[.float .f64 b,.int .i64 (jT up)] w (RetF w (stepW b up)):=by
 have nb:=lZ hn;have n0:num 0:=by decide
 have s0:sr 0=0:=by decide
 have hN:=hdd (acY (w:=w) hn);have hI1:=hdd (uY (w:=w) hb hn true);have hI2:=hdd (uY (w:=w) hb hn false);have f64:=dY b;have ffb:=dQ;have hE:=o8 hn n0;have hG:=rZ hn n0;rw[s0]at hE hG;by_cases hz:sr b=0
 . have HF:Hid (RetF w (stepW b up) (.returned (.float .f64 (if up then 1 else 9223372036854775809))) w):=hdd ⟨by unfold stepW;rw[if_pos hz],rfl⟩
   rw[decide_eq_true hz]at hE;clear hG hz nb n0 s0 hI1 hI2 f64 ffb hn hb
   cases up
   all_goals
    simp only[jT,as3,if_false,if_true]at*;go_enter Tryz.func262,Tryz.ntmps262
    go_wp2_with fail
    refine hN.out.mono ?_;rintro e w1⟨rfl,hw⟩;obtain rfl:=hw;go_wp2;go_ret;exact HF.out
 . rw[decide_eq_false hz]at hE
   by_cases h1:sr b=infR/\up=true
   . obtain⟨h1,rfl⟩:=h1
     have HF:Hid (RetF w (stepW b true) (.returned (.float .f64 b)) w):=hdd ⟨by unfold stepW;rw[if_neg hz,if_pos (Or.inl ⟨h1,rfl⟩)],rfl⟩;rw[show gI true=infR from rfl,decide_eq_true h1]at hI1;clear hG hz nb n0 s0 hI2 f64 ffb hn hb h1;simp only[jT,as3,if_false,if_true]at*;go_enter Tryz.func262,Tryz.ntmps262
     go_wp2_with fail
     refine hN.out.mono ?_;rintro e w1⟨rfl,hw⟩;obtain rfl:=hw;go_wp2_with fail
     refine hI1.out.mono ?_;rintro e w1⟨rfl,hw⟩;obtain rfl:=hw;go_wp2;go_ret;exact HF.out
   by_cases h2:sr b=-infR/\up=false
   . obtain⟨h2,rfl⟩:=h2
     have HF:Hid (RetF w (stepW b false) (.returned (.float .f64 b)) w):=hdd ⟨by unfold stepW;rw[if_neg hz,if_pos (Or.inr ⟨h2,rfl⟩)],rfl⟩;rw[show gI false=-(infR:Int) from rfl,decide_eq_true h2]at hI2;clear hG hz nb n0 s0 f64 ffb hn hb h2 h1;generalize decide (sr b=gI true)=r1 at*;simp only[jT,as3,if_false,if_true]at*;go_enter Tryz.func262,Tryz.ntmps262
     go_wp2_with fail
     refine hN.out.mono ?_;rintro e w1⟨rfl,hw⟩;obtain rfl:=hw;go_wp2_with fail
     refine hI1.out.mono ?_;rintro e w1⟨rfl,hw⟩;obtain rfl:=hw
     cases r1
     all_goals
      go_wp2_with fail
      refine hI2.out.mono ?_;rintro e w1⟨rfl,hw⟩;obtain rfl:=hw;go_wp2;go_ret;exact HF.out
   . have HS:Hid (stepW b up=if decide (0<sr b)==up then b+1 else b-1):=hdd (by unfold stepW;rw[if_neg hz,if_neg (fun h=>h.elim h1 h2)])
     have hup:b≠18446744073709551615:=by
      rintro rfl;revert hn;decide
     have hb0:b≠0:=by
      rintro rfl;exact hz rfl
     obtain⟨c,hc⟩:∃c,c=b+1:=⟨_,rfl⟩;obtain⟨d,hd⟩:∃d,d=b-1:=⟨_,rfl⟩;have e1:IntKind.u64.wrap ((b:Int)+1)=(c:Int):=by rw[wrap_u64 (by omega)];omega
     have e2:IntKind.u64.wrap ((b:Int)-1)=(d:Int):=by rw[wrap_u64 (by omega)];omega
     rw[<-hc,<-hd]at HS;have ff1:=dQ (c:Int);have ff2:=dQ (d:Int);rw[Int.toNat_natCast]at ff1 ff2;have hr1:up=true->decide (sr b=gI true)=false:=fun h=>decide_eq_false fun h'=>h1 ⟨h',h⟩;have hr2:up=false->decide (sr b=gI false)=false:=fun h=>decide_eq_false fun h'=>h2 ⟨h',h⟩;clear ffb hup hb0 hz nb n0 s0 hn hb h1 h2 hc hd;generalize decide (sr b=gI true)=r1 at*;generalize decide (sr b=gI false)=r2 at*;generalize decide (0<sr b)=q at*;have hcases:(up=true/\r1=false)\/(up=false/\r2=false):=by
      cases up
      . exact Or.inr ⟨rfl,hr2 rfl⟩
      . exact Or.inl ⟨rfl,hr1 rfl⟩
     clear hr1 hr2;rcases hcases with ⟨rfl,rfl⟩|⟨rfl,rfl⟩
     . cases r2<;>cases q
       all_goals
        have HF:=HS.out;simp at HF;simp only[jT,as3,if_false,if_true]at hI1 hI2|-;rw[HF];clear HF HS;go_enter Tryz.func262,Tryz.ntmps262
        go_wp2_with fail
        refine hN.out.mono ?_;rintro e w1⟨rfl,hw⟩;obtain rfl:=hw;go_wp2_with fail
        refine hI1.out.mono ?_;rintro e w1⟨rfl,hw⟩;obtain rfl:=hw;go_wp2_with fail
        refine hI2.out.mono ?_;rintro e w1⟨rfl,hw⟩;obtain rfl:=hw;go_wp2;go_ret;exact⟨rfl,rfl⟩
     . cases r1<;>cases q
       all_goals
        have HF:=HS.out;simp at HF;simp only[jT,as3,if_false,if_true]at hI1 hI2|-;rw[HF];clear HF HS;go_enter Tryz.func262,Tryz.ntmps262
        go_wp2_with fail
        refine hN.out.mono ?_;rintro e w1⟨rfl,hw⟩;obtain rfl:=hw;go_wp2_with fail
        refine hI1.out.mono ?_;rintro e w1⟨rfl,hw⟩;obtain rfl:=hw;go_wp2_with fail
        refine hI2.out.mono ?_;rintro e w1⟨rfl,hw⟩;obtain rfl:=hw;go_wp2;go_ret;exact⟨rfl,rfl⟩
def gv(lo hi:Nat):Value:=.agg #[.float .f64 lo,.float .f64 hi]
def RetG(w:World)(X:Re->Prop)(e:Ending)(w':World):Prop:=Below w.heap.size w w'/\∃lo hi,e=.returned (gv lo hi)/\GapS lo hi X
def RetW(w:World)(b:Bool)(e:Ending)(w':World):Prop:=e=.returned (.bool b)/\Below w.heap.size w w'
theorem jU(h1:lo<18446744073709551616)(h2:hi<18446744073709551616):
 Calls Tryz.prog 127 #[gv lo hi] w (RetW w (decide (bV lo hi))):=by
 unfold gv;obtain⟨w1,hw1,hb1,hs1,b1⟩:=pro1 w (.cells #[.float .f64 lo,.float .f64 hi] 136);have HB:=hdd hb1;obtain⟨c0,c1,-,-⟩:=aB b1;have F1:=hdd (iY (b:=lo) (w:=w1) h1);have F2:=hdd (iY (b:=hi) (w:=w1) h2);clear hb1 b1 hs1;by_cases k1:fin lo
 . by_cases k2:fin hi
   . have hle:=afG k1.num k2.num
     rw[decide_eq_true k1]at F1;rw[decide_eq_true k2]at F2;have HF:Hid (RetW w (decide (bV lo hi)) (.returned (.bool (decide (sr lo<=sr hi)))) w1):=hdd ⟨by
      have:decide (bV lo hi)=decide (sr lo<=sr hi):=decide_eq_decide.2 ⟨fun h=>h.2.2,fun h=>⟨k1,k2,h⟩⟩;rw[this],HB.out⟩
     clear h1 h2 k1 k2;generalize decide (sr lo<=sr hi)=r at*;go_enter Tryz.func127,Tryz.ntmps127
     go_wp2_with fail
     refine F1.out.mono ?_;rintro e w2⟨rfl,hw⟩;obtain rfl:=hw;go_wp2_with fail
     refine F2.out.mono ?_;rintro e w2⟨rfl,hw⟩;obtain rfl:=hw;go_wp2;go_ret;exact HF.out
   . rw[decide_eq_true k1]at F1;rw[decide_eq_false k2]at F2
     have HF:Hid (RetW w (decide (bV lo hi)) (.returned (.bool false)) w1):=hdd ⟨by rw[decide_eq_false (fun h=>k2 h.2.1)],HB.out⟩;clear h1 h2 k1 k2;go_enter Tryz.func127,Tryz.ntmps127
     go_wp2_with fail
     refine F1.out.mono ?_;rintro e w2⟨rfl,hw⟩;obtain rfl:=hw;go_wp2_with fail
     refine F2.out.mono ?_;rintro e w2⟨rfl,hw⟩;obtain rfl:=hw;go_wp2;go_ret;exact HF.out
 . rw[decide_eq_false k1]at F1
   have HF:Hid (RetW w (decide (bV lo hi)) (.returned (.bool false)) w1):=hdd ⟨by rw[decide_eq_false (fun h=>k1 h.1)],HB.out⟩;clear h1 h2 k1;go_enter Tryz.func127,Tryz.ntmps127
   go_wp2_with fail
   refine F1.out.mono ?_;rintro e w2⟨rfl,hw⟩;obtain rfl:=hw;go_wp2;go_ret;exact HF.out
def dR(lo hi:Nat):Int×Bool:=
 if bV lo hi then(if 0<sr lo then(1,true)else if sr hi<0 then(-1,true)else(0,decide (sr lo=0)&&decide (sr hi=0)))else(0,false)
def qA(w:World)(n:Int)(b:Bool)(e:Ending)(w':World):Prop:=e=.returned (.tuple #[.int .i64 n,.bool b])/\Below w.heap.size w w'
theorem aaT{x:Re}(h:GapS lo hi X)(hx:X x)(hk:(dR lo hi).2=true):(dR lo hi).1=Re.sgn x:=by
 unfold dR at*;by_cases k:bV lo hi
 . obtain⟨x1,x2⟩:=h.2.2 k x hx
   rw[if_pos k]at*;unfold fv at x1 x2;by_cases h1:0<sr lo
   . rw[if_pos h1]
     have:=jN h1;rw[dK]at this;exact(Re.sgn_pos (Re.lt_of_lt_of_le (Re.ofI_lt.2 this) x1)).symm
   . rw[if_neg h1]at*
     by_cases h2:sr hi<0
     . rw[if_pos h2]
       have:=jN h2;rw[dK]at this;exact(Re.sgn_neg (Re.lt_of_le_of_lt x2 (Re.ofI_lt.2 this))).symm
     . rw[if_neg h2]at*
       simp only[Bool.and_eq_true,decide_eq_true_eq]at hk;rw[hk.1,dK]at x1;rw[hk.2,dK]at x2;have:x=0:=Re.le_antisymm x2 x1;rw[this,Re.sgn_zero]
 . rw[if_neg k]at hk;cases hk
theorem aT(a:Addr)(b:Nat)(m:Mode)(w:World):(store a (.float .f64 b) m).run Tryz.prog w=stored Tryz.prog w a (.float .f64 b) m:=run_store Tryz.prog w a _ m rfl
theorem num0:num 0:=by decide
theorem sr0:sr 0=0:=by decide
theorem acZ(h1:lo<18446744073709551616)(h2:hi<18446744073709551616):
 Calls Tryz.prog 106 #[gv lo hi] w (qA w (dR lo hi).1 (dR lo hi).2):=by
 obtain⟨w1,hw1,hb1,hs1,b1⟩:=pro1 w (.cells #[.float .f64 lo,.float .f64 hi] 136);have HB:=hdd hb1;obtain⟨c0,c1,-,-⟩:=aB b1;have F1:=hdd (jU (w:=w1) h1 h2);clear hb1 b1 hs1 h1 h2;unfold gv at*;by_cases k:bV lo hi
 . rw[decide_eq_true k]at F1
   have hg:=rZ k.1.num num0;have hl:=aaS k.2.1.num num0;have he:=o8 k.1.num num0;have he2:=o8 k.2.1.num num0;rw[sr0]at hg hl he he2;by_cases q1:0<sr lo
   . rw[decide_eq_true q1]at hg
     have hG:dR lo hi=(1,true):=by unfold dR;rw[if_pos k,if_pos q1]
     rw[hG];clear k q1 hl he he2 hG;go_enter Tryz.func106,Tryz.ntmps106
     go_wp2_with fail
     refine F1.out.mono ?_;rintro e w2⟨rfl,hb⟩;replace c0:=cbl c0 hb;replace c1:=cbl c1 hb;have HF:Hid (qA w 1 true (.returned (.tuple #[.int .i64 1,.bool true])) w2):=hdd ⟨rfl,HB.out.trans (hb.mono HB.out.size)⟩;clear hb hw1;go_wp2
     go_ret2
     exact HF.out
   . rw[decide_eq_false q1]at hg
     by_cases q2:sr hi<0
     . rw[decide_eq_true q2]at hl
       have hG:dR lo hi=(-1,true):=by unfold dR;rw[if_pos k,if_neg q1,if_pos q2]
       rw[hG];clear k q1 q2 he he2 hG;go_enter Tryz.func106,Tryz.ntmps106
       go_wp2_with fail
       refine F1.out.mono ?_;rintro e w2⟨rfl,hb⟩;replace c0:=cbl c0 hb;replace c1:=cbl c1 hb;have HF:Hid (qA w (-1) true (.returned (.tuple #[.int .i64 (-1),.bool true])) w2):=hdd ⟨rfl,HB.out.trans (hb.mono HB.out.size)⟩;clear hb hw1;go_wp2
       go_ret2
       exact HF.out
     . rw[decide_eq_false q2]at hl
       have hG:dR lo hi=(0,decide (sr lo=0)&&decide (sr hi=0)):=by unfold dR;rw[if_pos k,if_neg q1,if_neg q2]
       rw[hG];clear k q1 q2 hG;generalize decide (sr lo=0)=r1 at*;generalize decide (sr hi=0)=r2 at*
       cases r1
       all_goals
        go_enter Tryz.func106,Tryz.ntmps106
        go_wp2_with fail
        refine F1.out.mono ?_;rintro e w2⟨rfl,hb⟩;replace c0:=cbl c0 hb;replace c1:=cbl c1 hb;have HB2:Hid (Below w.heap.size w w2):=hdd (HB.out.trans (hb.mono HB.out.size));clear hb hw1;go_wp2_with fail
        go_quiet (fail)
        go_wp2
        go_ret2
        exact⟨rfl,HB2.out.trans ((below_drewN _ _).mono HB2.out.size)⟩
 . rw[decide_eq_false k]at F1
   have hG:dR lo hi=(0,false):=by unfold dR;rw[if_neg k]
   rw[hG];clear k hG;go_enter Tryz.func106,Tryz.ntmps106
   go_wp2_with fail
   refine F1.out.mono ?_;rintro e w2⟨rfl,hb⟩;have HF:Hid (qA w 0 false (.returned (.tuple #[.int .i64 0,.bool false])) w2):=hdd ⟨rfl,HB.out.trans (hb.mono HB.out.size)⟩;clear hb hw1;go_wp2
   go_ret2
   exact HF.out
def afH:Nat:=18442240474082181120
def afI:Nat:=9218868437227405312
theorem abS(up:Bool):Calls Tryz.prog 174 #[.int .i64 (jT up)] w (RetF w (if up then afI else afH)):=by
 have ffb:=dQ
 cases up
 all_goals
  simp only[jT,as3,if_false,if_true];go_enter Tryz.func174,Tryz.ntmps174
  go_wp2;go_ret;exact⟨rfl,rfl⟩
theorem bH{g:Nat}{w0 w1:World}{T:TypeId}{a b:Value}(hb:Below w0.heap.size w0 w1)(hg:w0.heap.size<=g)(hw:w1.heap[g]? =some (.cells #[a,b] T (0,0)))(h:GapS lo hi X):
 Hid (RetG w0 X (.returned (.agg #[.float .f64 lo,.float .f64 hi])) ((w1.setCell ⟨g,0,none⟩ (.float .f64 lo)).setCell ⟨g,1,none⟩ (.float .f64 hi)))/\
 ((w1.setCell ⟨g,0,none⟩ (.float .f64 lo)).setCell ⟨g,1,none⟩ (.float .f64 hi)).heap[g]? =some (.cells #[.float .f64 lo,.float .f64 hi] T (0,0)):=
 ⟨hdd ⟨(hb.setCell hg _).setCell hg _,lo,hi,rfl,h⟩,set2 hw _ _⟩
theorem gall(X:Re->Prop):GapS afH afI X:=ahS X
theorem all_any:Calls Tryz.prog 129 #[] w (fun e w'=>e=.returned (.agg #[.float .f64 afH,.float .f64 afI])/\Below w.heap.size w w'):=by
 obtain⟨w1,hw1,hb1,hs1,b1⟩:=pro1 w (.cells #[.float .f64 0,.float .f64 0] 136);have HB:=hdd hb1;have B1:=hdd b1;obtain⟨c0,c1,c2,c3⟩:=aB b1;have I1:=hdd (abS (w:=w1) true);have I2:=hdd (abS (w:=w1) false);have HS:=bH (X:=fun _=>True) hb1 nlr b1 (gall _);have HFF:=HS.1;have hFF:=hdd HS.2;clear hb1 b1 HS;simp only[jT,as3,if_false,if_true]at I1 I2;have hst:=aT;go_enter Tryz.func129,Tryz.ntmps129
 go_wp2_with fail
 refine I2.out.mono ?_;rintro e w2⟨rfl,hw⟩;obtain rfl:=hw;go_wp2_with fail
 refine I1.out.mono ?_;rintro e w2⟨rfl,hw⟩;obtain rfl:=hw;go_wp2;obtain⟨f0,f1,-,-⟩:=aB hFF.out;refine bodyPost_ret (v:=.agg #[_,_]) (by simp[results,Tryz.results129,go_sem,f0,f1];first|exact⟨rfl,rfl⟩|rfl) rfl ?_;exact⟨rfl,HFF.out.1⟩
def minW(x y:Nat):Nat:=if sr x<sr y then x else if sr y<sr x then y else if (FloatKind.f64.decode x).neg then x else y
def maxW(x y:Nat):Nat:=if sr y<sr x then x else if sr x<sr y then y else if (FloatKind.f64.decode x).neg then y else x
theorem mD(x y:Nat):sr (minW x y)<=sr x/\sr (minW x y)<=sr y/\(minW x y=x\/minW x y=y):=by
 unfold minW
 split
 . exact⟨by omega,by omega,Or.inl rfl⟩
 . split
   . exact⟨by omega,by omega,Or.inr rfl⟩
   . split
     . exact⟨by omega,by omega,Or.inl rfl⟩
     . exact⟨by omega,by omega,Or.inr rfl⟩
theorem mE(x y:Nat):sr x<=sr (maxW x y)/\sr y<=sr (maxW x y)/\(maxW x y=x\/maxW x y=y):=by
 unfold maxW
 split
 . exact⟨by omega,by omega,Or.inl rfl⟩
 . split
   . exact⟨by omega,by omega,Or.inr rfl⟩
   . split
     . exact⟨by omega,by omega,Or.inr rfl⟩
     . exact⟨by omega,by omega,Or.inl rfl⟩
theorem r9{P:Program}(hx:num x)(hy:num y)(w:World):(Builtin.min2 (.float .f64 x) (.float .f64 y)).run P w=.ok (.float .f64 (minW x y)) w:=by
 unfold Builtin.min2;simp only[nU hx hy];unfold minW;rcases as4 (sr x) (sr y)with h|h|h
 . rw[as5.2 h,if_pos h];rfl
 . rw[as6.2 h,if_neg (show¬sr x<sr y by omega),if_neg (show¬sr y<sr x by omega)];rfl
 . rw[as7.2 h,if_neg (show¬sr x<sr y by omega),if_pos h];rfl
theorem sD{P:Program}(hx:num x)(hy:num y)(w:World):(Builtin.max2 (.float .f64 x) (.float .f64 y)).run P w=.ok (.float .f64 (maxW x y)) w:=by
 unfold Builtin.max2;simp only[nU hx hy];unfold maxW;rcases as4 (sr x) (sr y)with h|h|h
 . rw[as5.2 h,if_neg (show¬sr y<sr x by omega),if_pos h];rfl
 . rw[as6.2 h,if_neg (show¬sr y<sr x by omega),if_neg (show¬sr x<sr y by omega)];rfl
 . rw[as7.2 h,if_pos h];rfl
theorem sF(hx:num x)(hy:num y):num (minW x y):=by rcases(mD x y).2.2 with h|h<;>rw[h]<;>assumption
theorem sG(hx:num x)(hy:num y):num (maxW x y):=by rcases(mE x y).2.2 with h|h<;>rw[h]<;>assumption
theorem yH{P:Program}{w:Nat}(hw:num w)(hx:num x)(hy:num y)(hz:num z)(ts:Array TypeId)(t:TypeId)(W:World):
 (Builtin.min_ ts t #[.float .f64 w,.float .f64 x,.float .f64 y,.float .f64 z]).run P W=.ok (.float .f64 (minW (minW (minW w x) y) z)) W:=by
 unfold Builtin.min_;simp only[List.foldlM_cons,List.foldlM_nil,Sem.run_bind,r9 hw hx,Result.andThen_ok,r9 (sF hw hx) hy,r9 (sF (sF hw hx) hy) hz,Sem.run_pure]
theorem yI{P:Program}{w:Nat}(hw:num w)(hx:num x)(hy:num y)(hz:num z)(ts:Array TypeId)(t:TypeId)(W:World):
 (Builtin.max_ ts t #[.float .f64 w,.float .f64 x,.float .f64 y,.float .f64 z]).run P W=.ok (.float .f64 (maxW (maxW (maxW w x) y) z)) W:=by
 unfold Builtin.max_;simp only[List.foldlM_cons,List.foldlM_nil,Sem.run_bind,sD hw hx,Result.andThen_ok,sD (sG hw hx) hy,sD (sG (sG hw hx) hy) hz,Sem.run_pure]
theorem sH(w x y z:Nat):wK (minW (minW (minW w x) y) z) w x y z:=by
 obtain⟨a1,a2,a3⟩:=mD w x;obtain⟨b1,b2,b3⟩:=mD (minW w x) y;obtain⟨c1,c2,c3⟩:=mD (minW (minW w x) y) z;refine⟨by omega,by omega,by omega,by omega,?_⟩;rcases c3 with h|h<;>rw[h]
 . rcases b3 with h|h<;>rw[h]
   . rcases a3 with h|h<;>rw[h]<;>simp
   . simp
 . simp
theorem sI(w x y z:Nat):wL (maxW (maxW (maxW w x) y) z) w x y z:=by
 obtain⟨a1,a2,a3⟩:=mE w x;obtain⟨b1,b2,b3⟩:=mE (maxW w x) y;obtain⟨c1,c2,c3⟩:=mE (maxW (maxW w x) y) z;refine⟨by omega,by omega,by omega,by omega,?_⟩;rcases c3 with h|h<;>rw[h]
 . rcases b3 with h|h<;>rw[h]
   . rcases a3 with h|h<;>rw[h]<;>simp
   . simp
 . simp
theorem ac0{v:Nat}(hv:v<18446744073709551616):Calls Tryz.prog 208 #[.float .f64 v] w (RetG w (fun x=>x=Re.ofI (fv v))):=by
 obtain⟨w1,hw1,hb1,hs1,b1⟩:=pro1 w (.cells #[.float .f64 0,.float .f64 0] 136);have HB:=hdd hb1;have B1:=hdd b1;obtain⟨c0,c1,c2,c3⟩:=aB b1;have F1:=hdd (iY (b:=v) (w:=w1) hv);have hst:=aT;by_cases k:fin v
 . rw[decide_eq_true k]at F1
   obtain⟨HFF,hFF⟩:=bH hb1 nlr b1 (ajM hv);replace hFF:=hdd hFF;clear hb1 b1 k hv;go_enter Tryz.func208,Tryz.ntmps208
   go_wp2_with fail
   refine F1.out.mono ?_;rintro e w2⟨rfl,hw⟩;obtain rfl:=hw;go_wp2;obtain⟨f0,f1,-,-⟩:=aB hFF.out;refine bodyPost_ret (v:=.agg #[_,_]) (by simp[results,Tryz.results208,go_sem,f0,f1];first|exact⟨rfl,rfl⟩|rfl) rfl ?_;exact HFF.out
 . rw[decide_eq_false k]at F1
   clear hb1 b1 k hv;go_enter Tryz.func208,Tryz.ntmps208
   go_wp2_with fail
   refine F1.out.mono ?_;rintro e w2⟨rfl,hw⟩;obtain rfl:=hw;go_wp2_with fail
   refine all_any.mono ?_;rintro e w2⟨rfl,hb⟩;have hb2:=HB.out.trans (hb.mono HB.out.size);have b12:=hbl B1.out hb;have g1:=cbl c1 hb;obtain⟨g0,g1,g2,g3⟩:=aB b12;obtain⟨HFF,hFF⟩:=bH hb2 nlr b12 (gall (fun x=>x=Re.ofI (fv v)));replace hFF:=hdd hFF;clear hb hb2 b12 c0 c1 c2 c3 hw1;go_wp2;obtain⟨f0,f1,-,-⟩:=aB hFF.out;refine bodyPost_ret (v:=.agg #[_,_]) (by simp[results,Tryz.results208,go_sem,f0,f1];first|exact⟨rfl,rfl⟩|rfl) rfl ?_;exact HFF.out
theorem kJ(h:gZ lo hi X):Calls Tryz.prog 249 #[.float .f64 lo,.float .f64 hi] w (RetG w X):=by
 have hg:=acX h;obtain⟨h1,h2,n1,n2,-⟩:=h;obtain⟨w1,hw1,hb1,hs1,b1⟩:=pro1 w (.cells #[.float .f64 0,.float .f64 0] 136);obtain⟨w2,hw2,hb2,hs2,b2⟩:=pro1 w1 (.cells #[.float .f64 0,.float .f64 0] 136);rw[hs1]at b2;have S1:=hdd (yG (w:=w1) h1 n1 false);have S2:=hdd (yG (w:=w1) h2 n2 true);simp only[jT,as3,if_false,if_true]at S1 S2;have hst:=aT;have HG:=hdd hg;generalize stepW lo false=lo' at*;generalize stepW hi true=hi' at*;clear h1 h2 n1 n2;obtain⟨c0,c1,c2,c3⟩:=aB b2;have b3:=set2 b2 (.float .f64 lo') (.float .f64 hi');have e1:((w2.setCell ⟨w.heap.size+1,0,none⟩ (.float .f64 lo')).setCell ⟨w.heap.size+1,1,none⟩ (.float .f64 hi')).heap[w.heap.size]? =some (.cells #[.float .f64 0,.float .f64 0] 136 (0,0)):=by
  rw[Below.heap_setCell _ _ _ _ (by simp),Below.heap_setCell _ _ _ _ (by simp)];exact aD b1 hb2 (by omega)
 have HBS:Hid (Below w.heap.size w ((w2.setCell ⟨w.heap.size+1,0,none⟩ (.float .f64 lo')).setCell ⟨w.heap.size+1,1,none⟩ (.float .f64 hi'))):=hdd (((hb1.trans (hb2.mono hb1.size)).setCell (by simp) _).setCell (by simp) _);have HE1:=hdd e1;have HB3:=hdd b3;clear b3 e1 hb1 hb2 b1 b2 hg;go_enter Tryz.func249,Tryz.ntmps249
 go_wp2_with fail
 refine S1.out.mono ?_;rintro e w3⟨rfl,hw⟩;obtain rfl:=hw;go_wp2_with fail
 refine S2.out.mono ?_;rintro e w3⟨rfl,hw⟩;obtain rfl:=hw;go_wp2_with fail
 refine(jU HG.out.1 HG.out.2.1).mono ?_;rintro e w3⟨rfl,hb⟩;have HB5:=hdd (HBS.out.trans (hb.mono HBS.out.size));have HE5:=hdd (hbl HE1.out hb);have HB6:=hdd (hbl HB3.out hb);clear hb HE1 HB3 HBS c0 c1 c2 c3 hw1 hw2;by_cases k:bV lo' hi'
 . rw[decide_eq_true k]
   obtain⟨c0,c1,-,-⟩:=aB HB6.out;obtain⟨d0,d1,d2,d3⟩:=aB HE5.out;obtain⟨HFF,hFF⟩:=bH HB5.out nlr HE5.out HG.out;replace hFF:=hdd hFF;clear k;go_wp2;obtain⟨f0,f1,-,-⟩:=aB hFF.out;refine bodyPost_ret (v:=.agg #[_,_]) (by simp[results,Tryz.results249,go_sem,f0,f1];first|exact⟨rfl,rfl⟩|rfl) rfl ?_;exact HFF.out
 . rw[decide_eq_false k]
   clear k;go_wp2_with fail
   refine all_any.mono ?_;rintro e w4⟨rfl,hb⟩;have b12:=hbl HE5.out hb;obtain⟨d0,d1,d2,d3⟩:=aB b12;obtain⟨HFF,hFF⟩:=bH (HB5.out.trans (hb.mono HB5.out.size)) nlr b12 (gall X);replace hFF:=hdd hFF;clear hb b12;go_wp2;obtain⟨f0,f1,-,-⟩:=aB hFF.out;refine bodyPost_ret (v:=.agg #[_,_]) (by simp[results,Tryz.results249,go_sem,f0,f1];first|exact⟨rfl,rfl⟩|rfl) rfl ?_;exact HFF.out
theorem kX{a d:Nat}(h1:a<18446744073709551616)(h2:b<18446744073709551616)(h3:c<18446744073709551616)(h4:d<18446744073709551616):
 Calls Tryz.prog 248 #[gv a b,gv c d] w (RetW w (!(decide (bV a b)&&decide (bV c d)))):=by
 obtain⟨w2,hw2,hb2,hs2,b1,b2⟩:=pro2 w (.cells #[.float .f64 a,.float .f64 b] 136) (.cells #[.float .f64 c,.float .f64 d] 136);obtain⟨c0,c1,-,-⟩:=aB b1;obtain⟨d0,d1,-,-⟩:=aB b2;have HB:=hdd hb2;have K1:=hdd (jU (w:=w2) h1 h2);have K2:Hid (∀w3,Calls Tryz.prog 127 #[gv c d] w3 (RetW w3 (decide (bV c d)))):=hdd fun w3=>jU h3 h4;clear hb2 b1 b2 hs2 h1 h2 h3 h4;unfold gv at*;generalize decide (bV a b)=r1 at*;generalize decide (bV c d)=r2 at*
 cases r1
 . go_enter Tryz.func248,Tryz.ntmps248
   go_wp2_with fail
   refine K1.out.mono ?_;rintro e w3⟨rfl,hb⟩;have HF:Hid (RetW w true (.returned (.bool true)) w3):=hdd ⟨rfl,HB.out.trans (hb.mono HB.out.size)⟩;clear hb hw2;go_wp2;go_ret;exact HF.out
 . go_enter Tryz.func248,Tryz.ntmps248
   go_wp2_with fail
   refine K1.out.mono ?_;rintro e w3⟨rfl,hb⟩;replace HB:=hdd (HB.out.trans (hb.mono HB.out.size));replace d0:=cbl d0 hb;replace d1:=cbl d1 hb;clear hb hw2 c0 c1;go_wp2_with fail
   refine(K2.out w3).mono ?_;rintro e w4⟨rfl,hb⟩
   cases r2
   . have HF:Hid (RetW w true (.returned (.bool true)) w4):=hdd ⟨rfl,HB.out.trans (hb.mono HB.out.size)⟩
     clear hb;go_wp2;go_ret;exact HF.out
   . have HF:Hid (RetW w false (.returned (.bool false)) w4):=hdd ⟨rfl,HB.out.trans (hb.mono HB.out.size)⟩
     clear hb;go_wp2;go_ret;exact HF.out
end
end Go.Proofs.YtkadpnljocflaaaGreatDoor
