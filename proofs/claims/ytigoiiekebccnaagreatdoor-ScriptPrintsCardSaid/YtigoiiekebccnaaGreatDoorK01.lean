/- A part of the proof: contracts of functions and plain laws (Num, Base, NatA, NatB, NatC). -/
import Derived.Test.YtigoiiekebccnaaGreatDoorProg
import Derived.WalkKit
import Derived.WalkSpells
import Derived.WalkLawsBesides
import Derived.Handy
import Derived.Lib.Hide
import Derived.Laws.CopyOwn
import Derived.Deep.OwnRows
import Derived.Maps.AppendAt
import Derived.Deep.AppendLies
import Derived.Laws.Externs
import Derived.Shelf.Spec.BitsCarry
import Derived.Deep.QuietTactic
import Derived.BigQuiet
import Derived.StillTailTactics
import Derived.Deep.RegionHeld3
import Derived.Deep.RegionWith
import Derived.Deep.RegionLaw
import Derived.Deep.DeepFit
import Derived.Deep.DeepMust
set_option linter.unusedVariables false
set_option linter.unusedSimpArgs false
set_option linter.unnecessarySimpa false
set_option maxHeartbeats 25600000
set_option maxRecDepth 100000
namespace Go.Proofs.YtigoiiekebccnaaGreatDoor
section
open List renaming dropLast_concat_getLast->ap4,length_take->ap8,length_cons->aqI,replicate->aqN
open Nat renaming two_pow_pos->apT,mul_le_mul_left->apU,pow_add->apV,pow_succ->apW,sub_add_cancel->apX,mul_add->apY,mul_le_mul->apZ,le_div_iff_mul_le->ap0,div_lt_iff_lt_mul->ap1,pow_le_pow_right->ap2,mul_le_mul_right->ap3,testBit_two_pow_sub_one->ap5,mul_comm->ap6,add_mul->ap7,le_of_not_lt->ap9,min_eq_left->aqA,mul_mod_mul_right->aqB,add_sub_cancel'->aqC,mul_assoc->aqD,lt_of_le_of_lt->aqE,lt_div_mul_add->aqF,lt_of_lt_of_le->aqG,le_of_lt_succ->aqH,lt_of_not_le->aqJ,testBit_succ->aqK,le_antisymm->aqL,div_add_mod->aqM,log2_lt->aqO
variable{xs:List Nat}{n r s:Nat}
def B64:Nat:=18446744073709551616
theorem bF:0<B64:=by unfold B64;omega
def val:List Nat->Nat
 |[]=>0
 |x::xs=>x+B64*val xs
def OkL(xs:List Nat):Prop:=∀x∈xs,x<B64
theorem val_append(xs ys:List Nat):val (xs++ys)=val xs+B64^xs.length*val ys:=by
 induction xs with
 |nil=>simp[val]
 |cons x xs ih=>
  simp only[List.cons_append,val,ih,aqI,apW];rw[apY,<-aqD,ap6 B64 (B64^xs.length)];omega
theorem bH(xs:List Nat)(h:OkL xs):val xs<B64^xs.length:=by
 induction xs with
 |nil=>simp[val]
 |cons x xs ih=>
  have h1:x<B64:=h x (by simp);have h2:=ih (fun y hy=>h y (by simp[hy]));simp only[val,aqI,apW];have:B64*(val xs+1)<=B64*B64^xs.length:=apU _ h2;rw[ap6 (B64^xs.length)];rw[apY]at this;omega
theorem aR(n:Nat):val (aqN n 0)=0:=by
 induction n with
 |zero=>rfl
 |succ n ih=>simp[List.replicate_succ,val,ih]
theorem bA(xs:List Nat)(k:Nat)(h:k<=xs.length):val xs=val (xs.take k)+B64^k*val (xs.drop k):=by
 have:=val_append (xs.take k) (xs.drop k);rw[List.take_append_drop,ap8,aqA h]at this;exact this
theorem fC(xs:List Nat)(i:Nat)(x:Nat)(h:i<xs.length):val (xs.set i x)+xs[i]*B64^i=val xs+x*B64^i:=by
 induction xs generalizing i with
 |nil=>simp at h
 |cons y ys ih=>
  cases i with
  |zero=>simp[val];omega
  |succ i=>
   have h':i<ys.length:=by simpa using h
   have:=ih i h';simp only[List.set_cons_succ,val,List.getElem_cons_succ,apW];have e:B64*val (ys.set i x)+B64*(ys[i]*B64^i)=B64*val ys+B64*(x*B64^i):=by
    rw[<-apY,<-apY,this]
   have e1:ys[i]*(B64^i*B64)=B64*(ys[i]*B64^i):=by
    rw[<-aqD,ap6 (ys[i]*B64^i)]
   have e2:x*(B64^i*B64)=B64*(x*B64^i):=by
    rw[<-aqD,ap6 (x*B64^i)]
   omega
theorem OkL.set (h:OkL xs)(i:Nat){x:Nat}(hx:x<B64):OkL (xs.set i x):=by
 intro y hy;rcases List.mem_or_eq_of_mem_set hy with h1|h1
 . exact h y h1
 . omega
theorem OkL.take (h:OkL xs)(k:Nat):OkL (xs.take k):=fun y hy=>h y (List.mem_of_mem_take hy)
theorem OkL.drop (h:OkL xs)(k:Nat):OkL (xs.drop k):=fun y hy=>h y (List.mem_of_mem_drop hy)
theorem OkL.get (h:OkL xs)(i:Nat)(hi:i<xs.length):xs[i]<B64:=h _ (List.getElem_mem hi)
theorem OkL.append {ys:List Nat}(h:OkL xs)(h':OkL ys):OkL (xs++ys):=by
 intro y hy;rcases List.mem_append.1 hy with h1|h1
 . exact h y h1
 . exact h' y h1
theorem OkL.zeros (n:Nat):OkL (aqN n 0):=by
 intro y hy;rw[(List.mem_replicate.1 hy).2];exact bF
theorem bQ(xs:List Nat)(k:Nat)(h:k<xs.length):val (xs.take (k+1))=val (xs.take k)+xs[k]*B64^k:=by
 have e:xs.take (k+1)=xs.take k++[xs[k]]:=by simp
 rw[e,val_append,ap8,aqA (by omega)];simp[val,ap6]
def Tr(xs:List Nat):Prop:=∀h:xs≠[],xs.getLast h≠0
theorem Tr.nil:Tr []:=fun h=>absurd rfl h
theorem jX(xs:List Nat)(ht:Tr xs)(hn:xs≠[]):B64^(xs.length-1)<=val xs:=by
 have e:=ap4 hn;have h1:val xs=val xs.dropLast+B64^(xs.length-1)*xs.getLast hn:=by
  conv=>lhs;rw[<-e]
  rw[val_append];simp[val]
 rw[h1];have:=ht hn;have:B64^(xs.length-1)*1<=B64^(xs.length-1)*xs.getLast hn:=apU _ (by omega);omega
theorem dF(xs:List Nat)(ht:Tr xs):val xs=0↔xs=[]:=by
 constructor
 . intro h
   rcases xs with _|⟨x,xs⟩
   . rfl
   . exfalso
     have:=jX _ ht (by simp);have:=Nat.pow_pos (n:=(x::xs).length-1) bF;omega
 . rintro rfl;rfl
theorem nU(xs ys:List Nat)(hx:OkL xs)(hy:Tr ys)(h:xs.length<ys.length):val xs<val ys:=by
 have h1:=bH xs hx;have hn:ys≠[]:=by rintro rfl;simp at h
 have h2:=jX ys hy hn;have:B64^xs.length<=B64^(ys.length-1):=ap2 bF (by omega);omega
theorem uB(xs ys:List Nat)(i:Nat)(hx:OkL xs)(hl:xs.length=ys.length)(hi:i<xs.length)(htop:xs.drop (i+1)=ys.drop (i+1))(h:xs[i]<ys[i]):val xs<val ys:=by
 rw[bA xs (i+1) (by omega),bA ys (i+1) (by omega),htop,bQ xs i hi,bQ ys i (by omega)];have h1:=bH (xs.take i) (hx.take i);rw[ap8,aqA (by omega)]at h1;have h2:(xs[i]+1)*B64^i<=ys[i]*B64^i:=ap3 _ h;rw[ap7]at h2;omega
def bits(n:Nat):Nat:=if n=0 then 0 else n.log2+1
theorem bN(n:Nat):n<2^bits n:=by
 unfold bits
 split
 . subst_vars;decide
 . exact Nat.lt_log2_self
theorem dZ(n:Nat)(h:n≠0):2^(bits n-1)<=n:=by
 unfold bits;rw[if_neg h];simpa using Nat.log2_self_le h
theorem aF(n k:Nat):bits n<=k↔n<2^k:=by
 unfold bits
 split
 . rename_i h;subst h;simp[apT]
 . rename_i h
   rw[<-aqO h];omega
theorem bZ{m:Nat}(h:m<=n):bits m<=bits n:=by
 rw[aF];exact aqE h (bN n)
theorem dY:B64=2^64:=by unfold B64;rfl
theorem jO(xs:List Nat)(hx:OkL xs)(ht:Tr xs)(hn:xs≠[]):bits (val xs)=64*(xs.length-1)+bits (xs.getLast hn):=by
 have hne:val xs≠0:=fun h=>hn ((dF xs ht).1 h);have e:=ap4 hn;have h1:val xs=val xs.dropLast+B64^(xs.length-1)*xs.getLast hn:=by
  conv=>lhs;rw[<-e]
  rw[val_append];simp[val]
 have hd:val xs.dropLast<B64^(xs.length-1):=by
  have:=bH xs.dropLast (fun y hy=>hx y ((List.dropLast_sublist _).subset hy));rwa[List.length_dropLast]at this
 generalize hg:xs.getLast hn=g at*;have hg0:g≠0:=by rw[<-hg];exact ht hn
 generalize xs.length-1=m at*;rw[dY,<-Nat.pow_mul]at*;apply aqL
 . rw[aF,h1,apV]
   have:=bN g;have h2:2^(64*m)*(g+1)<=2^(64*m)*2^bits g:=apU _ this;rw[apY]at h2;omega
 . have h2:=dZ g hg0
   have h3:2^(64*m+(bits g-1))<=val xs:=by
    rw[h1,apV];have:=apU (2^(64*m)) h2;omega
   have h4:¬bits (val xs)<=64*m+(bits g-1):=by
    rw[aF];omega
   have:1<=bits g:=by unfold bits;rw[if_neg hg0];omega
   omega
theorem aaN(U V U3 V2 L q Uh Vh:Nat)(hU:U=Uh+L*U3)(hUh:Uh<L)(hV:V=Vh+L*V2)(hq:q*V<=U):q*V2<=U3:=by
 have h1:q*(L*V2)<=q*V:=apU _ (by omega);have h2:L*(q*V2)<L*(U3+1):=by
  have:q*(L*V2)=L*(q*V2):=by grind
  rw[apY];omega
 have:=Nat.lt_of_mul_lt_mul_left h2;omega
theorem afO(u2 u1 v1 q v0 u0:Nat)(hu0:u0<B64)(hv:0<v1)(hq:q*(v1*B64+v0)<=u2*B64*B64+u1*B64+u0):q<=(u2*B64+u1)/v1:=by
 rw[ap0 hv];have h:q*v1*B64<(u2*B64+u1+1)*B64:=by
  generalize B64=B at*;grind
 have:=Nat.lt_of_mul_lt_mul_right h;omega
theorem uC(d u2 u1 u0 v1 v0 rest q:Nat)(hr:rest+d*v1=u2*B64+u1)(hgt:rest*B64+u0<d*v0)(hq:q*(v1*B64+v0)<=u2*B64*B64+u1*B64+u0):q<d:=by
 apply aqJ;intro hle;have h1:d*(v1*B64+v0)<=q*(v1*B64+v0):=ap3 _ hle;have h2:d*(v1*B64+v0)=(d*v1)*B64+d*v0:=by grind
 have h3:(rest+d*v1)*B64=(u2*B64+u1)*B64:=by rw[hr]
 generalize B64=B at*;grind
theorem qM(a r s:Nat)(hr:0<r)(hs:s*s<=a):s<=(r+a/r)/2:=by
 have h0:a<(a/r+1)*r:=by
  have:=aqF (a:=a) hr;rw[ap7];omega
 generalize a/r=q at*;apply aqH;apply aqJ;intro h;have h1:r+q+1<=2*s:=by omega
 have h2:s*s<(q+1)*r:=by omega
 have h3:4*(s*s)<4*((q+1)*r):=by omega
 have h4:(r+(q+1))*(r+(q+1))<=(2*s)*(2*s):=apZ (by omega) (by omega);have h5:4*((q+1)*r)<=(r+(q+1))*(r+(q+1)):=by
  rcases Nat.le_total r (q+1)with h|h
  . obtain⟨k,hk⟩:=Nat.le.dest h
    rw[<-hk];grind
  . obtain⟨k,hk⟩:=Nat.le.dest h
    rw[<-hk];grind
 grind
theorem nZ(a r:Nat)(hr:0<r)(h:r<=a/r):r*r<=a:=(ap0 hr).1 h
theorem ac2(a k s:Nat)(_hs:s*s<=a/2^(2*k))(hs':a/2^(2*k)<(s+1)*(s+1))(t:Nat)(ht:t*t<=a):t<=(s+1)*2^k:=by
 apply ap9;intro h;have h1:a<(a/2^(2*k)+1)*2^(2*k):=by
  have:=aqF (a:=a) (apT (2*k));rw[ap7];omega
 have h2:(a/2^(2*k)+1)*2^(2*k)<=((s+1)*(s+1))*2^(2*k):=ap3 _ hs';have h3:((s+1)*(s+1))*2^(2*k)=((s+1)*2^k)*((s+1)*2^k):=by
  rw[Nat.two_mul,apV];grind
 have h4:((s+1)*2^k)*((s+1)*2^k)<=t*t:=apZ (by omega) (by omega);omega
theorem ac3(u v r:Nat)(hu:u<2^r)(hr:r<=64):u ||| (v*2^r)%18446744073709551616=u+(v*2^r)%18446744073709551616:=by
 have e:(v*2^r)%18446744073709551616=(v%2^(64-r))*2^r:=by
  have:(18446744073709551616:Nat)=2^(64-r)*2^r:=by rw[<-apV,apX hr]
  rw[this,aqB]
 rw[e,<-Nat.shiftLeft_eq,Nat.or_comm,<-Nat.shiftLeft_add_eq_or_of_lt hu];omega
theorem rP(v r:Nat)(hr:r<=64):v*2^r=(v*2^r)%B64+B64*(v/2^(64-r)):=by
 have h1:=aqM (v*2^r) B64;have e:B64=2^(64-r)*2^r:=by rw[<-apV,apX hr,dY]
 have:v*2^r/B64=v/2^(64-r):=by rw[e,Nat.mul_div_mul_right _ _ (apT r)]
 rw[this]at h1;omega
theorem left_step(ys:List Nat)(i v r:Nat)(hi:i+1<ys.length)(hr:r<=64)(hu:ys[i]<2^r)(hz:ys[i+1]=0):
 val ((ys.set i (ys[i] ||| (v*2^r)%B64)).set (i+1) (v/2^(64-r)))=val ys+v*2^r*B64^i:=by
 have e0:ys[i] ||| (v*2^r)%B64=ys[i]+(v*2^r)%B64:=ac3 _ v r hu hr;rw[e0];have h1:=fC ys i (ys[i]+(v*2^r)%B64) (by omega);have h2:=fC (ys.set i (ys[i]+(v*2^r)%B64)) (i+1) (v/2^(64-r)) (by rw[List.length_set];exact hi);rw[List.getElem_set_ne (by omega),hz,apW]at h2;have h3:=rP v r hr;generalize (v*2^r)%B64=m at*;generalize v/2^(64-r)=d at*;generalize v*2^r=S at*;generalize B64^i=P at*;generalize val (ys.set i (ys[i]+m))=y at*;generalize val ((ys.set i (ys[i]+m)).set (i+1) d)=t at*;generalize val ys=a at*;generalize ys[i]=u0 at*;grind
theorem uD(v r:Nat)(hv:v<B64)(hr:r<=64):v/2^(64-r)<2^r:=by
 rw[ap1 (apT _),<-apV,aqC hr,<-dY];exact hv
theorem xD(u v:Nat)(hu:u<B64)(hv:v<B64):u ||| v<B64:=by
 rw[dY]at*;exact Nat.or_lt_two_pow hu hv
def rQ(x x' r:Nat):Nat:=x/2^r ||| (x'*2^(64-r))%B64
theorem ah2(x x' r:Nat)(hx:x<B64)(hr:r<=64):rQ x x' r*2^r+x%2^r=x+(x'%2^r)*B64:=by
 unfold rQ;have h1:x/2^r<2^(64-r):=by
  rw[ap1 (apT _),<-apV,apX hr,<-dY];exact hx
 have e0:x/2^r ||| (x'*2^(64-r))%B64=x/2^r+(x'*2^(64-r))%B64:=ac3 _ x' (64-r) h1 (by omega);have e:(x'*2^(64-r))%B64=(x'%2^r)*2^(64-r):=by
  have:B64=2^r*2^(64-r):=by rw[<-apV,aqC hr,dY]
  rw[this,aqB]
 rw[e0,e];have h2:=aqM x (2^r);have h3:B64=2^(64-r)*2^r:=by rw[<-apV,apX hr,dY]
 rw[h3];generalize 2^r=R at*;generalize 2^(64-r)=Q at*;generalize x/R=d at*;generalize x%R=m at*;generalize x'%R=m' at*;grind
theorem ah3(x x' r:Nat)(hx:x<B64):rQ x x' r<B64:=xD _ _ (aqE (Nat.div_le_self _ _) hx) (Nat.mod_lt _ bF)
theorem afP(z zk c P R t x x' y B m:Nat)(h:z*R+c=t+m*P)(hk:zk*R+m=x+x'*B):(z+zk*P)*R+c=(t+x*P)+x'*(P*B):=by
 have:zk*R*P+m*P=x*P+x'*B*P:=by rw[<-ap7,hk,ap7]
 grind
theorem an4(k m:Nat):((2^k*(2*m+1)) ^^^ (2^k*(2*m+1)-1)).log2=k:=by
 have e:(2^k*(2*m+1)) ^^^ (2^k*(2*m+1)-1)=2^(k+1)-1:=by
  have hp:=apT k;have e1:2^k*(2*m+1)-1=2^k*(2*m)+(2^k-1):=by rw[apY];omega
  rw[e1];apply Nat.eq_of_testBit_eq;intro i;rw[Nat.testBit_xor,ap5,Nat.testBit_two_pow_mul,Nat.testBit_two_pow_mul_add _ (Nat.sub_lt hp Nat.one_pos),ap5];by_cases h:i<k
  . have h':¬k<=i:=by omega
    have h'':i<k+1:=by omega
    simp[h,h',h'']
  . rw[if_neg h]
    by_cases h2:i=k
    . subst h2;simp[Nat.testBit_zero]
    . obtain⟨j,rfl⟩:∃j,i=k+(j+1):=⟨i-k-1,by omega⟩
      have e3:k+(j+1)-k=j+1:=by omega
      rw[e3,aqK,aqK];have d1:(2*m+1)/2=m:=by omega
      have d2:(2*m)/2=m:=by omega
      rw[d1,d2];simp
 rw[e];have h1:(2^(k+1)-1)≠0:=by have:=apT k;rw[apW];omega
 have h2:(2^(k+1)-1).log2<k+1:=(aqO h1).2 (by have:=apT (k+1);omega);have h3:k<=(2^(k+1)-1).log2:=(Nat.le_log2 h1).2 (by have:=apT k;rw[apW];omega);omega
def ctz(n:Nat):Nat:=if n=0 then 0 else(n ^^^ (n-1)).log2
theorem yQ(k m:Nat):ctz (2^k*(2*m+1))=k:=by
 unfold ctz;have:2^k*(2*m+1)≠0:=Nat.ne_of_gt (Nat.mul_pos (apT k) (by omega));rw[if_neg this,an4]
def iQ(s n:Nat):Prop:=s*s<=n/\n<(s+1)*(s+1)
theorem xE(n:Nat):∃s,iQ s n:=by
 induction n with
 |zero=>exact⟨0,by simp[iQ]⟩
 |succ n ih=>
  obtain⟨s,h1,h2⟩:=ih;by_cases h:(s+1)*(s+1)<=n+1
  . refine⟨s+1,h,?_⟩
    have:(s+1)*(s+1)<(s+1+1)*(s+1+1):=Nat.mul_lt_mul_of_lt_of_le (by omega) (by omega) (by omega);omega
  . exact⟨s,by omega,by omega⟩
theorem qN(hs:iQ s n)(hr:n<(r+1)*(r+1)):s<=r:=by
 apply ap9;intro h;have:(r+1)*(r+1)<=s*s:=apZ h h;have:=hs.1;omega
theorem wW(hs:iQ s n)(hr:iQ r n):s=r:=aqL (qN hs hr.2) (qN hr hs.2)
def uF(n:Nat):Nat->Nat->Nat
 |0,r=>r
 |f+1,r=>if r<=n/r then r else uF n f ((r+n/r)/2)
def bS(n:Nat):Nat:=if n=0 then 0 else uF n (bits n+2) (2^((bits n+1)/2))
theorem afQ(n s r:Nat)(hs:iQ s n)(h:s<r):n/r<=s:=by
 apply aqH;rw[ap1 (by omega)];have h1:(s+1)*(s+1)<=(s+1)*r:=apU _ h;exact aqG hs.2 h1
theorem aaO(n s:Nat)(hs:iQ s n)(hs0:0<s):∀f r,0<r->s<=r->r-s<2^f->uF n f r=s:=by
 intro f
 induction f with
 |zero=>intro r h0 h1 h2;simp only[Nat.pow_zero]at h2;simp only[uF];omega
 |succ f ih=>
  intro r h0 h1 h2;simp only[uF]
  split
  . rename_i h
    have h3:=nZ n r h0 h;have:r<=s:=by
     apply ap9;intro h4;have:(s+1)*(s+1)<=r*r:=apZ h4 h4;have:=hs.2;omega
    omega
  . rename_i h
    have h3:=qM n r s h0 hs.1;rcases Nat.eq_or_lt_of_le h1 with h4|h4
    . exfalso
      apply h;rw[ap0 h0,<-h4];exact hs.1
    . have h5:=afQ n s r hs h4
      rw[apW]at h2;have h6:0<(r+n/r)/2:=aqG hs0 h3;refine ih _ h6 h3 ?_;generalize n/r=q at*;omega
theorem uG(n s:Nat)(hs:iQ s n):s<=2^((bits n+1)/2):=by
 refine qN hs ?_;have h1:=bN n;have h2:2^bits n<=2^((bits n+1)/2)*2^((bits n+1)/2):=by rw[<-apV];exact ap2 (by omega) (by omega)
 have h3:2^((bits n+1)/2)*2^((bits n+1)/2)<=(2^((bits n+1)/2)+1)*(2^((bits n+1)/2)+1):=apZ (by omega) (by omega);omega
theorem dQ(n:Nat):iQ (bS n) n:=by
 obtain⟨s,hs⟩:=xE n;unfold bS
 split
 . rename_i h;subst h;simp[iQ]
 . have h1:2^((bits n+1)/2)<=2^(bits n+1):=ap2 (by omega) (by omega)
   have h2:2^(bits n+2)=2^(bits n+1)*2:=apW ..;have hp:=apT (bits n+1);rename_i hn;have hs0:0<s:=by
    rcases Nat.eq_zero_or_pos s with h|h
    . subst h;have:=hs.2;simp at this;omega
    . exact h
   rw[aaO n s hs hs0 _ _ (apT _) (uG n s hs) (by omega)];exact hs
theorem ah4(h:iQ s n):bS n=s:=wW (dQ n) h
end
section
open Go.RowKit
open Int renaming eq_ofNat_of_zero_le->aqS
open List renaming getD_eq_getElem?_getD->aqP,replicate->aqQ,getElem?_eq_getElem->aqR,length_take->aqT,getElem?_eq_none->aqV,length_replicate->aqW,length_append->aqX,length_set->aq0
open Nat renaming lt_or_ge->aqU,pow_succ->aqY,le_refl->aqZ
variable{a:Act}{b x y:Int}{ys:List Nat}{B c i k m n:Nat}{A:Option Addr}{va vb:Value}
def lim(xs:List Nat)(k:Nat):Int:=((xs.getD k 0:Nat):Int)
theorem fI{xs:List Nat}(h:OkL xs)(k:Nat):0<=lim xs k/\lim xs k<18446744073709551616:=by
 unfold lim;rcases aqU k xs.length with hk|hk
 . have:=h.get k hk
   unfold B64 at this;rw[aqP,aqR hk];simp only[Option.getD_some];omega
 . rw[aqP,aqV hk];simp
theorem cK{xs:List Nat}(hk:k<xs.length):lim xs k=(xs[k]:Int):=by
 unfold lim;rw[aqP,aqR hk];rfl
def anS(n c:Nat):Prop:=n<=1099511627776/\c<=9223372036854775807
def NatP(p:Nat->Prop)(w:World)(v:Value)(xs:List Nat):Prop:=
 ∃A c,v=.slice A xs.length c/\xs.length<=c/\anS xs.length c/\OkL xs/\
  (0<xs.length->∃b off,A=some ⟨b,off,none⟩/\p b/\b<w.heap.size/\∀k,k<xs.length->w.cell? ⟨b,off+k,none⟩=some (.int .u64 (lim xs k)))
def AnyB(_:Nat):Prop:=True
abbrev NatV(w:World)(v:Value)(xs:List Nat):Prop:=NatP AnyB w v xs
section
variable{p q:Nat->Prop}{w w':World}{v:Value}{xs:List Nat}
theorem NatP.keep (h:NatP p w v xs)(hs:w.heap.size<=w'.heap.size)(hb:∀b,p b->b<w.heap.size->w'.heap[b]? =w.heap[b]?):NatP p w' v xs:=by
 obtain⟨A,c,h1,h2,h3,h4,h5⟩:=h;refine⟨A,c,h1,h2,h3,h4,fun hl=> ?_⟩;obtain⟨b,off,e,hp,hlt,hc⟩:=h5 hl;exact⟨b,off,e,hp,Nat.lt_of_lt_of_le hlt hs,fun k hk=>(World.cell?_of_block (hb b hp hlt)).trans (hc k hk)⟩
theorem NatP.below (h:NatP p w v xs)(hb:Below w.heap.size w w'):NatP p w' v xs:=h.keep hb.size fun b _ hlt=>hb.block b hlt
theorem NatP.grown {row:Option Nat}(h:NatP p w v xs)(hg:w.grownBy w' row)(hr:∀b,p b->some b≠row):NatP p w' v xs:=
 h.keep hg.size fun b hp hlt=>hg.block b hlt (hr b hp)
theorem NatP.weak (h:NatP p w v xs)(hq:∀b,p b->b<w.heap.size->q b):NatP q w v xs:=by
 obtain⟨A,c,h1,h2,h3,h4,h5⟩:=h;refine⟨A,c,h1,h2,h3,h4,fun hl=> ?_⟩;obtain⟨b,off,e,hp,hlt,hc⟩:=h5 hl;exact⟨b,off,e,hq b hp hlt,hlt,hc⟩
theorem NatP.any (h:NatP p w v xs):NatV w v xs:=h.weak fun _ _ _=>trivial
theorem NatP.nil (w:World):NatP p w (.slice none 0 0) []:=⟨none,0,rfl,aqZ _,by simp[anS],fun x hx=>by simp at hx,fun h=>by simp at h⟩
theorem NatP.ok (h:NatP p w v xs):OkL xs:=by obtain⟨A,c,h1,h2,h3,h4,h5⟩:=h;exact h4
theorem NatP.len (h:NatP p w v xs):xs.length<=1099511627776:=by obtain⟨A,c,h1,h2,h3,h4,h5⟩:=h;exact h3.1
end
def uH(zs:List Nat):Array Value:=(zs.map fun(x:Nat)=>Value.int .u64 (x:Int)).toArray
def OwnN(w:World)(g:Nat)(zs:List Nat):Prop:=w.heap[g]? =some (.cells (uH zs) 198 (0,0))/\OkL zs
section
variable{w w':World}{g:Nat}{zs:List Nat}
theorem OwnN.lt (h:OwnN w g zs):g<w.heap.size:=(Array.getElem?_eq_some_iff.1 h.1).1
theorem OwnN.cell (h:OwnN w g zs)(hi:i<zs.length):w.cell? ⟨g,i,none⟩=some (.int .u64 (lim zs i)):=by
 rw[cell_of_row w g i _ _ _ h.1,cK hi];simp[uH,hi]
theorem OwnN.frozen (h:OwnN w g zs)(i:Nat):w.frozen? ⟨g,i,none⟩=false:=by
 have:=h.1;simp[World.frozen?,this]
theorem OwnN.set_ (h:OwnN w g zs)(i:Nat)(h0:0<=x)(h1:x<18446744073709551616):OwnN (w.setCell ⟨g,i,none⟩ (.int .u64 x)) g (zs.set i x.toNat):=by
 refine⟨?_,h.2.set i (by unfold B64;omega)⟩;have:=h.1;simp only[World.setCell,Array.getElem?_modify,if_true,this,Option.map_some];simp only[uH,Option.isSome_none,Bool.false_eq_true,if_false,List.map_set,List.setIfInBounds_toArray,Int.toNat_of_nonneg h0]
theorem OwnN.keep (h:OwnN w g zs)(hb:w'.heap[g]? =w.heap[g]?):OwnN w' g zs:=⟨hb.trans h.1,h.2⟩
theorem OwnN.below (h:OwnN w g zs)(hb:Below w.heap.size w w'):OwnN w' g zs:=h.keep (hb.block g h.lt)
theorem OwnN.natP (h:OwnN w g zs)(hn:zs.length=n)(h1:n<=c)(h2:c<=1099511627776){p:Nat->Prop}(hp:p g):NatP p w (.slice (some ⟨g,0,none⟩) n c) zs:=by
 subst hn;exact⟨_,c,rfl,h1,⟨by omega,by omega⟩,h.2,fun _=>⟨g,0,rfl,hp,h.lt,fun k hk=>by rw[Nat.zero_add];exact h.cell hk⟩⟩
end
theorem grownBy_set{w w1:World}{g:Nat}(h:w.grownBy w1 (some g))(u:Value):w.grownBy (w1.setCell ⟨g,i,none⟩ u) (some g):=
 ⟨h.os,h.tape,h.output,by simpa[World.setCell]using h.size,fun k hk hne=>(Below.heap_setCell w1 ⟨g,i,none⟩ u k (fun e=>hne (by rw[e]))).trans (h.block k hk hne)⟩
theorem Below.of_grown {w w':World}{g:Nat}(h:w.grownBy w' (some g))(hB:B<=w.heap.size)(hg:B<=g):Below B w w':=
 ⟨h.os,h.tape,h.output,h.size,fun k hk=>h.block k (by omega) (fun e=>by injection e with e;omega)⟩
theorem aH{w w':World}{row:Option Nat}(h:Below w.heap.size w w'):w.grownBy w' row:=
 ⟨h.os,h.tape,h.output,h.size,fun k hk _=>h.block k hk⟩
theorem aaP:(Tryz.prog.info? 198).map (fun i=>(i.zero,i.size,i.bytes))=some (some (.int .u64 0),1,8):=by kernel_rfl
theorem ah5:(Tryz.prog.info? 198).map (·.size)=some 1:=by kernel_rfl
theorem sP:Tryz.prog.underlying 184=some (.slice 198):=by kernel_rfl
theorem ac4(n:Nat):madeCells #[Value.int .u64 0] n=uH (aqQ n 0):=by
 unfold madeCells uH;apply Array.ext
 . simp
 . intro i h1 h2
   simp[Nat.mod_one]
theorem bV(w:World){ops:Array Oper}{rest:List Oper}{o:Oper}{Q:Exit->Act->World->Prop}
 (hg:o.guard=none) (l c:Operand) (hop:o.op=Op.makeSlice 184 l c) (kl kc:IntKind) (L:Int) (n:Nat) (hl:a.eval l=.int kl L) (hc:a.eval c=.int kc L) (hL:L=(n:Int))
 (hn:n<=17592186044416) (B:Nat) (w0:World) (hb:Below B w0 w) (hB:B<=w.heap.size)
 (hK:∀w',Hid (OwnN w' w.heap.size (aqQ n 0))->Below B w0 w'->Below w.heap.size w w'->w.heap.size<w'.heap.size->wpList Tryz.prog ops Q rest (a.put o.dst (.slice (some ⟨w.heap.size,0,none⟩) n n)) w'):
 wpList Tryz.prog ops Q (o::rest) a w:=by
 subst hL;obtain⟨i0,hi,hz0,hz1,hz2⟩:=info_parts aaP;refine wpList_make_row w hg l c _ hop 198 i0 _ sP hi hz0 hz1 rfl kl kc n hl hc (by rw[hz2];omega) (by omega) ?_;refine hK _ (Lib.hid ⟨?_,OkL.zeros n⟩) (hb.alloc hB _) ((Below.refl _ _).alloc (aqZ _) _) (by simp);rw[ac4];exact heap_alloc_new w _
theorem wX(zs xs:List Nat):splice (zs.map fun(x:Nat)=>Value.int .u64 (x:Int)) 0 (xs.map fun(x:Nat)=>Value.int .u64 (x:Int))=(xs++zs.drop xs.length).map fun(x:Nat)=>Value.int .u64 (x:Int):=by
 simp[splice]
theorem gB{p:Nat->Prop}{w:World}{ops:Array Oper}{rest:List Oper}{o:Oper}{Q:Exit->Act->World->Prop}(hgd:o.guard=none)(d s:Operand)
 (ho:o.op=.call {callee:=.builtin .copy,args:=#[d,s],argTypes:=#[184,184]})
 (g n dCap:Nat) (v:Value) (zs xs:List Nat) (hd:a.eval d=.slice (some ⟨g,0,none⟩) n dCap) (hs:a.eval s=v) (hz:OwnN w g zs) (hn:n=zs.length) (hx:NatP p w v xs) (hl:xs.length<=zs.length)
 (B:Nat) (w0:World) (hb:Below B w0 w) (hBg:B<=g)
 (h:∀w',Hid (OwnN w' g (xs++zs.drop xs.length))->Below B w0 w'->wpList Tryz.prog ops Q rest (a.put o.dst (goInt xs.length)) w'):
 wpList Tryz.prog ops Q (o::rest) a w:=by
 obtain⟨A,c,rfl,h2,h3,h4,h5⟩:=hx;subst hn;refine wpList_copy_splice hgd d s _ _ ho 198 sP ah5 _ _ _ _ _ _ hd hs g 0 (zs.map fun(x:Nat)=>Value.int .u64 (x:Int)) 198 hz.1 (xs.map fun(x:Nat)=>Value.int .u64 (x:Int)) (by rw[List.length_map];exact(Nat.min_eq_left hl).symm) ?_ (by simp;omega) ?_ B w0 hb hBg ?_
 . intro hp
   obtain⟨b,off,rfl,_,hlt,hc⟩:=h5 (by simpa using hp);refine⟨rfl,_,rfl,fun j u hu=> ?_⟩;have hj:j<xs.length:=by
    rcases aqU j xs.length with h|h
    . exact h
    . rw[aqV (by simpa using h)]at hu;cases hu
   rw[Addr.add_lit,hc j hj];rw[List.getElem?_map,aqR hj]at hu;rw[cK hj];simpa using hu
 . intro u hu
   obtain⟨x,_,rfl⟩:=List.mem_map.1 hu;rfl
 . intro w' h1 h2'
   have:=h w' (Lib.hid ⟨by have:=h1.out;rw[wX]at this;exact this,h4.append (hz.2.drop _)⟩) h2';simpa using this
def addS(x y c:Int):Int:=(x+y+c)%18446744073709551616
def addC(x y c:Int):Int:=(x+y+c)/18446744073709551616
def subD(x y b:Int):Int:=(x-y-b)%18446744073709551616
def subB(x y b:Int):Int:=if x<y+b then 1 else 0
theorem iF(x y c:Int):addS x y c+18446744073709551616*addC x y c=x+y+c:=by unfold addS addC;omega
theorem gD(x y c:Int):0<=addS x y c/\addS x y c<18446744073709551616:=by unfold addS;omega
theorem gF{c:Int}(hx:0<=x/\x<18446744073709551616)(hy:0<=y/\y<18446744073709551616)(hc:0<=c/\c<=1):0<=addC x y c/\addC x y c<=1:=by unfold addC;omega
theorem oN(x y c:Int):0<=subD x y c/\subD x y c<18446744073709551616:=by unfold subD;omega
theorem oO(x y b:Int):0<=subB x y b/\subB x y b<=1:=by unfold subB;split<;>omega
theorem sQ(hx:0<=x/\x<18446744073709551616)(hy:0<=y/\y<18446744073709551616)(hb:0<=b/\b<=1):subD x y b+y+b=x+18446744073709551616*subB x y b:=by
 unfold subD subB;split<;>omega
theorem eF{c:Int}(hx:0<=x)(hy:0<=y)(hc:0<=c/\c<=1)(w:World):
 (callFunc 355 #[.int .u64 x,.int .u64 y,.int .u64 c]).run Tryz.prog w=.ok (.value (.tuple #[.int .u64 (addS x y c),.int .u64 (addC x y c)])) w:=by
 rw[run_callFunc_extern Tryz.func355 (by kernel_rfl) (by kernel_rfl) (by kernel_rfl) (e:=add64Entry) (by kernel_rfl),run_add64 x y c hx hy hc.1 hc.2];rfl
theorem mX(hx:0<=x/\x<18446744073709551616)(hy:0<=y/\y<18446744073709551616)(hb:0<=b/\b<=1)(w:World):
 (callFunc 347 #[.int .u64 x,.int .u64 y,.int .u64 b]).run Tryz.prog w=.ok (.value (.tuple #[.int .u64 (subD x y b),.int .u64 (subB x y b)])) w:=by
 obtain⟨X,rfl⟩:=aqS hx.1;obtain⟨Y,rfl⟩:=aqS hy.1;obtain⟨Z,rfl⟩:=aqS hb.1;rw[run_callFunc_extern Tryz.func347 (by kernel_rfl) (by kernel_rfl) (by kernel_rfl) (e:=sub64Entry) (by kernel_rfl),run_sub64 X Y Z (by omega)];have e1:(((X+18446744073709551616-Y-Z)%18446744073709551616:Nat):Int)=subD X Y Z:=by unfold subD;omega
 have e2:((if X<Y+Z then 1 else 0:Nat):Int)=subB X Y Z:=by unfold subB;split<;>split<;>omega
 rw[e1,e2];rfl
theorem ah6{xs:List Nat}(h:k<m):lim (xs.take m) k=lim xs k:=by
 unfold lim;rw[aqP,aqP,List.getElem?_take_of_lt h]
theorem NatP.take {p:Nat->Prop}{w:World}{xs:List Nat}(h:NatP p w (.slice A n c) xs)(hm:m<=xs.length):NatP p w (.slice A m c) (xs.take m):=by
 obtain⟨A',c',h1,h2,h3,h4,h5⟩:=h;injection h1 with h1 h1n h1c;subst h1 h1n h1c;have hl:(xs.take m).length=m:=by rw[aqT];omega
 refine⟨A,c,by rw[hl],by omega,⟨by have:=h3.1;omega,h3.2⟩,h4.take m,fun hp=> ?_⟩;obtain⟨b,off,e,hp,hb,hc⟩:=h5 (by omega);exact⟨b,off,e,hp,hb,fun k hk=>by rw[hl]at hk;rw[ah6 hk];exact hc k (by omega)⟩
def aaQ(p:Nat->Prop)(w:World)(xs:List Nat)(e:Ending)(w':World):Prop:=
 w=w'/\∃v' xs',e=.returned v'/\NatP p w v' xs'/\Tr xs'/\val xs'=val xs/\xs'.length<=xs.length
theorem lJ(xs:List Nat)(m:Nat)(hm:m<=xs.length)(hz:∀j,m<=j->j<xs.length->lim xs j=0):val (xs.take m)=val xs:=by
 have e:=bA xs m hm;have:∀ys:List Nat,(∀y∈ys,y=0)->val ys=0:=by
  intro ys
  induction ys with
  |nil=>intro _;rfl
  |cons y ys ih=>intro h;simp only[val];rw[h y (by simp),ih (fun z hz=>h z (by simp[hz]))];simp
 rw[this (xs.drop m)]at e
 . omega
 . intro y hy
   obtain⟨j,hj,rfl⟩:=List.getElem_of_mem hy;rw[List.length_drop]at hj;have:=hz (m+j) (by omega) (by omega);rw[cK (by omega)]at this;rw[List.getElem_drop];omega
theorem aaR{p:Nat->Prop}{w:World}{xs:List Nat}(h:NatP p w (.slice A n c) xs)(hm:m<=xs.length)(hz:∀j,m<=j->j<xs.length->lim xs j=0)(ht:0<m->lim xs (m-1)≠0):
 aaQ p w xs (.returned (.slice A m c)) w:=by
 refine⟨rfl,_,xs.take m,rfl,h.take hm,?_,lJ xs m hm hz,by rw[aqT];omega⟩;intro hne;have hl:(xs.take m).length=m:=by rw[aqT];omega
 have h0:0<m:=by rw[<-hl];exact List.length_pos_iff.2 hne
 have:=ht h0;rw[cK (by omega)]at this;rw[List.getLast_eq_getElem];simp only[hl,List.getElem_take];omega
theorem hdd{p:Prop}(h:p):Hid p:=Lib.hid h
theorem nlr:n<=n:=aqZ n
theorem aI{p:Nat->Prop}{v:Value}{xs:List Nat}{w:World}(hv:NatP p w v xs):
 Calls Tryz.prog 219 #[v] w (aaQ p w xs):=by
 have hv':=hdd hv;obtain⟨A,c,rfl,h2,h3,h4,h5⟩:=hv;obtain⟨h3,h3b⟩:=h3;go_enter Tryz.func219,Tryz.ntmps219
 go_wp2
 go_loop [3] (fun n=>∃k:Nat,k<=xs.length/\n=.int .i64 k/\Hid (∀j,k<=j->j<xs.length->lim xs j=0)) (fun n=>(intOf n).toNat)
 case atStart=>exact⟨xs.length,by omega,rfl,hdd fun j _ _=>by omega⟩
 case round=>
  obtain⟨k,hk,rfl,hz⟩:=hrel;by_cases hk0:0<k
  . obtain⟨b,off,rfl,hp,hb,hc⟩:=h5 (by omega)
    have hc':=hc (k-1) (by omega);clear hc hp;go_wp2
    . rename_i hx
      refine⟨⟨k-1,by omega,by go_num,hdd fun j h1 h2=> ?_⟩,by simp[intOf];omega⟩;rcases Nat.eq_or_lt_of_le h1 with h|h
      . subst h;exact eq_of_beq hx
      . exact hz.out j (by omega) h2
    . rename_i hx _
      go_ret;exact aaR hv'.out hk hz.out (fun _=>by simpa using hx)
  . go_wp2
    go_ret;have:k=0:=by omega
    subst this;exact aaR hv'.out hk hz.out (fun h=>absurd h (by omega))
theorem alg1(a1 a2 a3 a4 a5 a6 a7 a8 a9 P Q B:Nat)(h1:a1+a5*P=a2+a7*P)(h:a2+a9*P=a3+a4*Q)(e:a7+B*a8=a5+a6+a9):a1+a8*(P*B)=a3+(a4*Q+a6*P):=by grind
theorem ac5(ys zs xs:List Nat)(at_ k:Nat)(c c':Int)(s:Int)(hi:at_+k<ys.length)(hk:k<xs.length)(hx:OkL xs)(h0:0<=c)(hs0:0<=s)(hc':0<=c')
 (hs:s+18446744073709551616*c'=lim ys (at_+k)+lim xs k+c) (h:val ys+c.toNat*B64^(at_+k)=val zs+val (xs.take k)*B64^at_):
 val (ys.set (at_+k) s.toNat)+c'.toNat*B64^(at_+(k+1))=val zs+val (xs.take (k+1))*B64^at_:=by
 have h1:=fC ys (at_+k) s.toNat hi;rw[bQ xs k hk];rw[cK hi,cK hk]at hs;have e:s.toNat+B64*c'.toNat=ys[at_+k]+xs[k]+c.toNat:=by unfold B64;omega
 have e2:B64^(at_+(k+1))=B64^(at_+k)*B64:=by rw[<-Nat.add_assoc,aqY]
 have e3:xs[k]*B64^k*B64^at_=xs[k]*B64^(at_+k):=by rw[Nat.pow_add];grind
 rw[e2,Nat.add_mul,e3];exact alg1 _ _ _ _ _ _ _ _ _ _ _ _ h1 h e
theorem ac6(ys zs xs:List Nat)(at_ j:Nat)(hi:j<ys.length)(hy:OkL ys)(h:val ys+(1:Int).toNat*B64^j=val zs+val xs*B64^at_):
 val (ys.set j (addS (lim ys j) 0 1).toNat)+(addC (lim ys j) 0 1).toNat*B64^(j+1)=val zs+val xs*B64^at_:=by
 have h1:=fC ys j (addS (lim ys j) 0 1).toNat hi;have bs:=gD (lim ys j) 0 1;have bc:=gF (fI hy j) (y:=0) (c:=1) (by omega) (by omega);have hs:=iF (lim ys j) 0 1;have hl:=cK hi;have e:(addS (lim ys j) 0 1).toNat+B64*(addC (lim ys j) 0 1).toNat=ys[j]+0+(1:Int).toNat:=by unfold B64;omega
 rw[aqY];have:=alg1 _ _ _ _ _ 0 _ _ _ _ _ _ h1 h e;omega
theorem eG{p:Nat->Prop}{vx:Value}{g at_:Nat}{zs xs:List Nat}{w:World}(hn:zs.length=n)(hz:OwnN w g zs)(hx:NatP p w vx xs)(hp:∀b,p b->b≠g)
 (hat:at_+xs.length<=zs.length) (hzl:zs.length<=17592186044416) (hfit:val zs+val xs*B64^at_<B64^zs.length):
 Calls Tryz.prog 333 #[.slice (some ⟨g,0,none⟩) n c,vx,.int .i64 at_] w fun e w'=>
  e=.returned (.tuple #[])/\w.grownBy w' (some g)/\∃ys,OwnN w' g ys/\ys.length=zs.length/\val ys=val zs+val xs*B64^at_:=by
 subst hn;have hx':=hdd hx;have hok:=hx.ok;obtain⟨A,cx,rfl,h2,h3,h4,h5⟩:=hx;obtain⟨h3,h3b⟩:=h3;go_enter Tryz.func333,Tryz.ntmps333
 go_wp2_with fail
 have hfit':=hdd hfit;clear hfit;have h5':=hdd h5;clear h5;have hp':=hdd hp;clear hp
 go_loopw [6,7,13] (fun c i k wr=>∃(kk:Nat) (cy:Int) (ys:List Nat),kk<=xs.length/\k=.int .i64 kk/\i=.int .i64 ((at_:Int)+kk)/\c=.int .u64 cy/\0<=cy/\cy<=1/\Hid (OwnN wr g ys)/\Hid (ys.length=zs.length)/\Hid (w.grownBy wr (some g))/\
  Hid (val ys+cy.toNat*B64^(at_+kk)=val zs+val (xs.take kk)*B64^at_)) (fun _ _ k _=>xs.length-(intOf k).toNat)
 case atStart=>exact⟨0,0,zs,Nat.zero_le _,rfl,by simp,rfl,by omega,by omega,hdd hz,hdd rfl,hdd (World.grownBy.refl _ _),hdd (by simp[val])⟩
 case round=>
  obtain⟨kk,cy,ys,hkk,rfl,rfl,rfl,hc0,hc1,hO,hL,hG,hV⟩:=hrel;by_cases hlt:kk<xs.length
  . obtain⟨b,off,rfl,hpb,hb,hcell⟩:=h5'.out (by omega)
    have hbg:=hp'.out b hpb;have hcx:wr.cell? ⟨b,off+kk,none⟩=some (.int .u64 (lim xs kk)):=(World.cell?_of_block (hG.out.block b hb (fun e=>hbg (by injection e)))).trans (hcell kk hlt);have hLL:=hL.out;have hcz:wr.cell? ⟨g,at_+kk,none⟩=some (.int .u64 (lim ys (at_+kk))):=hO.out.cell (by omega);have hfz:wr.frozen? ⟨g,at_+kk,none⟩=false:=hO.out.frozen _;have bx:=fI hok kk;have bz:=fI hO.out.2 (at_+kk);have hadd:=fun w=>eF bz.1 bx.1 ⟨hc0,hc1⟩ w;have HLL:=hdd hLL;clear hLL;clear hcell hpb;have hl1:at_+kk<zs.length:=by omega
    have bs:=gD (lim ys (at_+kk)) (lim xs kk) cy;have bc:=gF bz bx ⟨hc0,hc1⟩;have al:=iF (lim ys (at_+kk)) (lim xs kk) cy;have R:=ac5 ys zs xs at_ kk cy _ _ (by rw[HLL.out];omega) hlt hok hc0 bs.1 bc.1 al hV.out;have HR:=hdd R;clear R al;have HO:=hdd (hO.out.set_ (at_+kk) bs.1 bs.2);have HG:=hdd (grownBy_set (i:=at_+kk) hG.out (.int .u64 (addS (lim ys (at_+kk)) (lim xs kk) cy)));go_wp2
    go_roundw
    case rel=>exact⟨kk+1,_,_,by omega,by go_num,by go_num,rfl,bc.1,bc.2,HO,hdd (by rw[aq0];exact HLL.out),HG,HR⟩
    case measure=>simp[intOf];omega
  . have:kk=xs.length:=by omega
    subst this;clear h5' hx';go_wp2_with fail
    go_loopw [6,7] (fun c i wr=>∃(jj:Nat) (cy:Int) (ys:List Nat),i=.int .i64 jj/\jj<=zs.length/\c=.int .u64 cy/\0<=cy/\cy<=1/\Hid (OwnN wr g ys)/\Hid (ys.length=zs.length)/\Hid (w.grownBy wr (some g))/\
     Hid (val ys+cy.toNat*B64^jj=val zs+val xs*B64^at_)) (fun _ i _=>zs.length-(intOf i).toNat)
    case atStart=>exact⟨at_+xs.length,cy,ys,by go_num,hat,rfl,hc0,hc1,hO,hL,hG,hdd (by have:=hV.out;rwa[List.take_length]at this)⟩
    case round=>
     clear hO hL hG hV hc0 hc1;obtain⟨jj,cy,ys,rfl,hjj,rfl,hc0,hc1,hO,hL,hG,hV⟩:=hrel;have hcy:cy=0\/cy=1:=by omega
     rcases hcy with rfl|rfl
     . go_wp2
       go_end0
       exact⟨rfl,hG.out,ys,hO.out,hL.out,by have:=hV.out;simpa using this⟩
     . have hlt:jj<zs.length:=by
        rcases aqU jj zs.length with h|h
        . exact h
        . exfalso
          have e1:jj=zs.length:=by omega
          have e2:=hV.out;have e3:=hfit'.out;rw[e1]at e2;simp only[Int.toNat_one,Nat.one_mul]at e2;omega
       have hcz:wr.cell? ⟨g,jj,none⟩=some (.int .u64 (lim ys jj)):=hO.out.cell (by rw[hL.out];exact hlt);have hfz:wr.frozen? ⟨g,jj,none⟩=false:=hO.out.frozen _;have bz:=fI hO.out.2 jj;have hadd:=fun w=>eF (y:=0) bz.1 (by omega) ⟨hc0,hc1⟩ w;have bs:=gD (lim ys jj) 0 1;have bc:=gF (y:=0) bz (by omega) ⟨hc0,hc1⟩;have R:=ac6 ys zs xs at_ jj (by rw[hL.out];exact hlt) hO.out.2 hV.out;have HR:=hdd R;clear R;have HO:=hdd (hO.out.set_ jj bs.1 bs.2);have HG:=hdd (grownBy_set (i:=jj) hG.out (.int .u64 (addS (lim ys jj) 0 1)));go_wp2
       go_roundw
       case rel=>exact⟨jj+1,_,_,by go_num,by omega,rfl,bc.1,bc.2,HO,hdd (by rw[aq0];exact hL.out),HG,HR⟩
       case measure=>simp[intOf];omega
def RetN(B:Nat)(w0:World)(n:Nat)(e:Ending)(w':World):Prop:=
 Below B w0 w'/\∃v ys,e=.returned v/\NatP (fun b=>B<=b) w' v ys/\Tr ys/\val ys=n
theorem RetN.of {w0 w':World}{v:Value}(hb:Below B w0 w')(h:NatP (fun b=>B<=b) w' v ys)(ht:Tr ys)(hv:val ys=n):RetN B w0 n (.returned v) w':=⟨hb,v,ys,rfl,h,ht,hv⟩
theorem fJ(xs:List Nat)(n:Nat):val (xs++aqQ n 0)=val xs:=by rw[val_append,aR];simp
theorem jE(n m:Nat):(aqQ n 0).drop m=aqQ (n-m) 0:=by simp
theorem aaS(xs ys:List Nat)(hx:OkL xs)(hy:OkL ys)(hl:ys.length<=xs.length):val xs+val ys*B64^0<B64^(xs.length+1):=by
 have h1:=bH xs hx;have h2:=bH ys hy;have h3:B64^ys.length<=B64^xs.length:=Nat.pow_le_pow_right bF hl;have h4:B64^xs.length*2<=B64^xs.length*B64:=Nat.mul_le_mul_left _ (by unfold B64;omega);rw[aqY,Nat.pow_zero,Nat.mul_one];omega
theorem ah7{p q:Nat->Prop}{xs:List Nat}{w:World}(hx:NatP p w va xs)(hy:NatP q w vb ys)(hl:ys.length<=xs.length)(hL:xs.length<1099511627776):
 Calls Tryz.prog 301 #[va,vb] w (RetN w.heap.size w (val xs+val ys)):=by
 have hx':=hdd hx;have hy':=hdd hy;have hox:=hx.ok;have hoy:=hy.ok;have hfit:=hdd (aaS xs ys hox hoy hl);obtain⟨A,c,rfl,h2,h3,-,-⟩:=hx;obtain⟨A',c',rfl,h2',h3',-,-⟩:=hy;obtain⟨h3,h3b⟩:=h3;obtain⟨h3',h3b'⟩:=h3';go_enter Tryz.func301,Tryz.ntmps301
 go_wp2_with (first
  |(at_make;refine bV _ rfl (.tmp 15) (.tmp 15) rfl .i64 .i64 _ (xs.length+1) rfl rfl (by omega) (by omega) w.heap.size w (Below.refl _ _) nlr ?_;intro w1 hO1 hb1 hbb1 hs1)
  |(with_reducible refine gB (w:=w1) rfl (.tmp 17) (.tmp 18) rfl w.heap.size _ _ _ _ xs rfl rfl hO1.out (by simp) (hx'.out.below hb1) (by simp) w.heap.size w hb1 nlr ?_;intro w2 hO2 hb2)
  |fail)
 have hyB:=(hy'.out.weak (q:=fun b=>b<w.heap.size) fun _ _ h=>h).below hb2;have hO2':OwnN w2 w.heap.size (xs++aqQ 1 0):=by have:=hO2.out;rwa[jE,show xs.length+1-xs.length=1 by omega]at this
 refine(eG (at_:=0) (by simp) hO2' hyB (fun b h=>by omega) (by simp;omega) (by simp;omega) ?_).mono ?_
 . have:=hfit.out;rw[fJ,aqX,aqW];exact this
 rintro e w3⟨rfl,hg3,zs,hO3,hl3,hv3⟩;have hb3:Below w.heap.size w w3:=hb2.trans (Below.of_grown hg3 hb2.size nlr);have HL:=hdd hl3;have HV:=hdd hv3;clear hl3 hv3 hO2' hyB hg3;go_wp2_with fail
 refine(aI (hO3.natP (p:=fun b=>w.heap.size<=b) (by rw[HL.out];simp) nlr (by omega) nlr)).mono ?_;rintro e w4⟨rfl,v,ys',rfl,hv4,ht4,hval,-⟩;go_wp2;go_ret;exact RetN.of hb3 hv4 ht4 (by rw[hval,HV.out,fJ];simp)
theorem ah8{p q:Nat->Prop}{xs:List Nat}{w:World}(hx:NatP p w va xs)(hy:NatP q w vb ys)(hl:ys.length<xs.length)(hL:xs.length<1099511627776):
 Calls Tryz.prog 301 #[vb,va] w (RetN w.heap.size w (val xs+val ys)):=by
 have hx':=hdd hx;have hy':=hdd hy;have hox:=hx.ok;have hoy:=hy.ok;have hfit:=hdd (aaS xs ys hox hoy (by omega));obtain⟨A,c,rfl,h2,h3,-,-⟩:=hx;obtain⟨A',c',rfl,h2',h3',-,-⟩:=hy;obtain⟨h3,h3b⟩:=h3;obtain⟨h3',h3b'⟩:=h3';go_enter Tryz.func301,Tryz.ntmps301
 go_wp2_with (first
  |(at_make;refine bV _ rfl (.tmp 15) (.tmp 15) rfl .i64 .i64 _ (xs.length+1) rfl rfl (by omega) (by omega) w.heap.size w (Below.refl _ _) nlr ?_;intro w1 hO1 hb1 hbb1 hs1)
  |(with_reducible refine gB (w:=w1) rfl (.tmp 17) (.tmp 18) rfl w.heap.size _ _ _ _ xs rfl rfl hO1.out (by simp) (hx'.out.below hb1) (by simp) w.heap.size w hb1 nlr ?_;intro w2 hO2 hb2)
  |fail)
 have hyB:=(hy'.out.weak (q:=fun b=>b<w.heap.size) fun _ _ h=>h).below hb2;have hO2':OwnN w2 w.heap.size (xs++aqQ 1 0):=by have:=hO2.out;rwa[jE,show xs.length+1-xs.length=1 by omega]at this
 refine(eG (at_:=0) (by simp) hO2' hyB (fun b h=>by omega) (by simp;omega) (by simp;omega) ?_).mono ?_
 . have:=hfit.out;rw[fJ,aqX,aqW];exact this
 rintro e w3⟨rfl,hg3,zs,hO3,hl3,hv3⟩;have hb3:Below w.heap.size w w3:=hb2.trans (Below.of_grown hg3 hb2.size nlr);have HL:=hdd hl3;have HV:=hdd hv3;clear hl3 hv3 hO2' hyB hg3;go_wp2_with fail
 refine(aI (hO3.natP (p:=fun b=>w.heap.size<=b) (by rw[HL.out];simp) nlr (by omega) nlr)).mono ?_;rintro e w4⟨rfl,v,ys',rfl,hv4,ht4,hval,-⟩;go_wp2;go_ret;exact RetN.of hb3 hv4 ht4 (by rw[hval,HV.out,fJ];simp)
theorem jP{p q:Nat->Prop}{xs:List Nat}{w:World}(hx:NatP p w va xs)(hy:NatP q w vb ys)(hL:xs.length<1099511627776)(hL':ys.length<1099511627776):
 Calls Tryz.prog 301 #[va,vb] w (RetN w.heap.size w (val xs+val ys)):=by
 rcases aqU xs.length ys.length with h|h
 . rw[Nat.add_comm];exact ah8 hy hx h hL'
 . exact ah7 hx hy h hL
end
end Go.Proofs.YtigoiiekebccnaaGreatDoor
