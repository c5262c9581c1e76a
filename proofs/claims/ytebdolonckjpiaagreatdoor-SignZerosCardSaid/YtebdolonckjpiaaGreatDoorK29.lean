/- A part of the proof: contracts of functions and plain laws (BlT, TrA, NrA). -/
import Derived.Test.YtebdolonckjpiaaGreatDoorK23
import Derived.Test.YtebdolonckjpiaaGreatDoorK09
import Derived.Test.YtebdolonckjpiaaGreatDoorK15
import Derived.Test.YtebdolonckjpiaaGreatDoorK25
import Derived.Test.YtebdolonckjpiaaGreatDoorK28
import Derived.Test.YtebdolonckjpiaaGreatDoorK11
set_option linter.unusedVariables false
set_option linter.unusedSimpArgs false
set_option maxHeartbeats 25600000
set_option maxRecDepth 100000
namespace Go.Proofs.YtebdolonckjpiaaGreatDoor
open Rat renaming mul_nonneg->bdQ
variable{b:Bl}{M Ma Mb N P V W Wa Wb a:Int}{r t x y:Rat}
def Am(M:Int)(x:Rat):Prop:=-p2 M<=x/\x<=p2 M
def Acc(M W:Int)(b:Bl):Prop:=Am M (rv b.lo)/\Am M (rv b.hi)/\rv b.hi-rv b.lo<=p2 (-W)
theorem Am.mono (h:Am M x)(k:M<=N):Am N x:=by
 have:=jZ k;exact⟨by have:=h.1;grind,by have:=h.2;grind⟩
theorem Acc.mono (h:Acc M W b)(k:M<=N)(j:V<=W):Acc N V b:=by
 refine⟨h.1.mono k,h.2.1.mono k,?_⟩;have:=jZ (show-W<=-V by omega);have:=h.2.2;grind
theorem Am.mul (h:Am M x)(k:Am N y):Am (M+N) (x*y):=by
 obtain⟨h1,h2⟩:=h;obtain⟨k1,k2⟩:=k;unfold Am;rw[dD];have a1:=bdQ (a:=p2 M-x) (b:=p2 N+y) (by grind) (by grind);have a2:=bdQ (a:=p2 M+x) (b:=p2 N-y) (by grind) (by grind);have a3:=bdQ (a:=p2 M-x) (b:=p2 N-y) (by grind) (by grind);have a4:=bdQ (a:=p2 M+x) (b:=p2 N+y) (by grind) (by grind);constructor<;>grind
theorem Am.add (h:Am M x)(k:Am M y):Am (M+1) (x+y):=by
 obtain⟨h1,h2⟩:=h;obtain⟨k1,k2⟩:=k;unfold Am;rw[iT];constructor<;>grind
theorem Err.bd (h:Err P r t)(k:Am M t):r-t<=p2 (M+1-P)/\t-r<=p2 (M+1-P):=by
 have:=h (p2 M) k.1 k.2;have e:p2 (M+1-P)=2*p2 M*p2 (-P):=by rw[show M+1-P=(M+1)+-P from by omega,dD,iT]
 rw[e];exact this
theorem Err.am (hP:1<=P)(h:Err P r t)(k:Am M t):Am (M+1) r:=by
 have h1:=h.bd k;have h2:=jZ (show M+1-P<=M by omega);obtain⟨k1,k2⟩:=k;unfold Am;rw[iT];constructor<;>grind
theorem half{b:Int}(h:a<=b-1):2*p2 a<=p2 b:=by
 have:=jZ h;have h2:=iT (b-1);rw[show b-1+1=b from by omega]at h2;grind
theorem quarter{b:Int}(h:a<=b-2):4*p2 a<=p2 b:=by
 have h1:=half (a:=a) (b:=b-1) (by omega);have h2:=half (a:=b-1) (b:=b) (by omega);grind
theorem akZ(h:Acc M W b):Acc M W (notB b):=by
 obtain⟨h1,h2,h3⟩:=h;unfold Acc notB Am at*;rw[nG,nG];refine⟨⟨by grind,by grind⟩,⟨by grind,by grind⟩,by grind⟩
theorem adS{a:Bl}(hP:1<=P)(h:Acc Ma Wa a)(k:Acc Mb Wb b)(h1:Ma<=M)(h2:Mb<=M)(w1:W<=Wa-2)(w2:W<=Wb-2)(w3:W<=P-M-4):Acc (M+2) W (addB a b P):=by
 have m1:=(h.1.mono h1).add (k.1.mono h2);have m2:=(h.2.1.mono h1).add (k.2.1.mono h2);have e1:=nH (addD a.lo b.lo) (-1) hP;have e2:=nH (addD a.hi b.hi) 1 hP;rw[yH]at e1 e2;refine⟨?_,?_,?_⟩
 . have:=e1.am hP m1;rw[show M+1+1=M+2 from by omega]at this;exact this
 . have:=e2.am hP m2;rw[show M+1+1=M+2 from by omega]at this;exact this
 . have b1:=(e1.bd m1).2
   have b2:=(e2.bd m2).1;show rv (aP (addD a.hi b.hi) P 1)-rv (aP (addD a.lo b.lo) P (-1))<=p2 (-W);have q1:=quarter (a:=-Wa) (b:=-W) (by omega);have q2:=quarter (a:=-Wb) (b:=-W) (by omega);have q3:=quarter (a:=M+1+1-P) (b:=-W) (by omega);have g1:=h.2.2;have g2:=k.2.2;grind
theorem adT{p:Rat->Prop}{m a b c d:Dy}(h:m=a\/m=b\/m=c\/m=d)(pa:p (rv a))(pb:p (rv b))(pc:p (rv c))(pd:p (rv d)):p (rv m):=by
 rcases h with h|h|h|h<;>rw[h]<;>assumption
theorem afG{x' y':Rat}(hx:Am M x)(hy:Am N y')(h1:-p2 (-W)<=x-x')(h2:x-x'<=p2 (-W))(k1:-p2 (-V)<=y-y')(k2:y-y'<=p2 (-V)):x*y-x'*y'<=p2 (M-V)+p2 (N-W):=by
 have a:=(Am.mul hx (N:=-V) (y:=y-y') ⟨k1,k2⟩).2;have b:=(Am.mul hy (N:=-W) (y:=x-x') ⟨h1,h2⟩).2;rw[show M+-V=M-V from by omega]at a;rw[show N+-W=N-W from by omega]at b;have:x*y-x'*y'=x*(y-y')+y'*(x-x'):=by grind
 rw[this];grind
theorem vH(h:Acc M W b)(hle:rv b.lo<=rv b.hi):∀x y:Rat,(x=rv b.lo\/x=rv b.hi)->(y=rv b.lo\/y=rv b.hi)->-p2 (-W)<=x-y/\x-y<=p2 (-W):=by
 have:=h.2.2;have:=bU (-W);intro x y hx hy;rcases hx with hx|hx<;>rcases hy with hy|hy<;>rw[hx,hy]<;>constructor<;>grind
theorem ak0{a:Bl}(hP:1<=P)(h:Acc Ma Wa a)(k:Acc Mb Wb b)(ha:rv a.lo<=rv a.hi)(hb:rv b.lo<=rv b.hi)(w1:W<=Wa-Mb-2)(w2:W<=Wb-Ma-2)(w3:W<=P-Ma-Mb-3):Acc (Ma+Mb+1) W (mulB a b P):=by
 have m1:=h.1.mul k.1;have m2:=h.1.mul k.2.1;have m3:=h.2.1.mul k.1;have m4:=h.2.1.mul k.2.1;have hl:=(mF (mulD a.hi b.hi) (mulD a.hi b.lo) (mulD a.lo b.hi) (mulD a.lo b.lo)).2.2.2.2;have hh:=(mG (mulD a.hi b.hi) (mulD a.hi b.lo) (mulD a.lo b.hi) (mulD a.lo b.lo)).2.2.2.2;have ml:Am (Ma+Mb) (rv (u6 a b)):=adT (p:=Am (Ma+Mb)) hl (by rw[gJ];exact m4) (by rw[gJ];exact m3) (by rw[gJ];exact m2) (by rw[gJ];exact m1);have mh:Am (Ma+Mb) (rv (xC a b)):=adT (p:=Am (Ma+Mb)) hh (by rw[gJ];exact m4) (by rw[gJ];exact m3) (by rw[gJ];exact m2) (by rw[gJ];exact m1);have e1:=nH (u6 a b) (-1) hP;have e2:=nH (xC a b) 1 hP;refine⟨e1.am hP ml,e2.am hP mh,?_⟩;have b1:=(e1.bd ml).2;have b2:=(e2.bd mh).1;show rv (aP (xC a b) P 1)-rv (aP (u6 a b) P (-1))<=p2 (-W);have hd:rv (xC a b)-rv (u6 a b)<=p2 (Ma-Wb)+p2 (Mb-Wa):=by
  have wa:=vH h ha;have wb:=vH k hb;have key:∀x x' y y':Rat,(x=rv a.lo\/x=rv a.hi)->(x'=rv a.lo\/x'=rv a.hi)->(y=rv b.lo\/y=rv b.hi)->(y'=rv b.lo\/y'=rv b.hi)->x*y-x'*y'<=p2 (Ma-Wb)+p2 (Mb-Wa):=by
   intro x x' y y' hx hx' hy hy';have ax:Am Ma x:=by rcases hx with g|g<;>rw[g]<;>first|exact h.1|exact h.2.1
   have ay:Am Mb y':=by rcases hy' with g|g<;>rw[g]<;>first|exact k.1|exact k.2.1
   exact afG ax ay (wa x x' hx hx').1 (wa x x' hx hx').2 (wb y y' hy hy').1 (wb y y' hy hy').2
  refine adT (p:=fun v=>v-rv (u6 a b)<=_) hh ?_ ?_ ?_ ?_<;>refine adT (p:=fun v=>_-v<=_) hl ?_ ?_ ?_ ?_<;>simp only[gJ]<;>
   exact key _ _ _ _ (by first|exact Or.inl rfl|exact Or.inr rfl) (by first|exact Or.inl rfl|exact Or.inr rfl) (by first|exact Or.inl rfl|exact Or.inr rfl) (by first|exact Or.inl rfl|exact Or.inr rfl)
 have q1:=quarter (a:=Ma-Wb) (b:=-W) (by omega);have q2:=quarter (a:=Mb-Wa) (b:=-W) (by omega);have q3:=quarter (a:=Ma+Mb+1-P) (b:=-W) (by omega);grind
end Go.Proofs.YtebdolonckjpiaaGreatDoor
namespace Go.Proofs.YtebdolonckjpiaaGreatDoor
open Re (rat)
open Int renaming le_refl->bdR
open List renaming mem_cons_of_mem->bdS,length_cons->bdT,mem_cons->bdU
variable{r:Bl}{e:Ex}{P:Int}{o:Option Bl}{v:Re}
def aY(v:Nat):Dy:=mkDy (fv v) (-1074)
inductive DenR:Ex->Re->Prop
 |leaf (v:Nat):DenR (.leaf v) (rat (rv (aY v)))
 |add {a b:Ex} {x y:Re} (ha:DenR a x) (hb:DenR b y):DenR (.add a b) (x+y)
 |sub {a b:Ex} {x y:Re} (ha:DenR a x) (hb:DenR b y):DenR (.sub a b) (x-y)
 |mul {a b:Ex} {x y:Re} (ha:DenR a x) (hb:DenR b y):DenR (.mul a b) (x*y)
 |div {a b:Ex} {x y z:Re} (ha:DenR a x) (hb:DenR b y) (h0:y≠0) (hz:z*y=x):DenR (.div a b) z
 |root {a:Ex} {x s:Re} (ha:DenR a x) (h0:0<=s) (hs:s*s=x):DenR (.root a) s
theorem ai8{x y z t:Re}(h0:y≠0)(h:z*y=x)(k:t*y=x):z=t:=by
 apply Re.eq_of_sub;apply Classical.byContradiction;intro hn;apply Re.mul_ne_zero hn h0;rw[Re.sub_mul,h,k,Re.sub_self]
theorem DenR.uniq (h:DenR e v):∀{w:Re},DenR e w->v=w:=by
 induction h with
 |leaf v=>intro w k;cases k;rfl
 |add ha hb iha ihb=>intro w k;cases k with|add ka kb=>rw[iha ka,ihb kb]
 |sub ha hb iha ihb=>intro w k;cases k with|sub ka kb=>rw[iha ka,ihb kb]
 |mul ha hb iha ihb=>intro w k;cases k with|mul ka kb=>rw[iha ka,ihb kb]
 |div ha hb h0 hz iha ihb=>intro w k;cases k with|div ka kb k0 kz=>rw[<-iha ka,<-ihb kb]at kz;exact ai8 h0 hz kz
 |root ha h0 hs iha=>intro w k;cases k with|root ka k0 ks=>rw[<-iha ka]at ks;exact Re.sq_inj h0 k0 (hs.trans ks.symm)
def gH:Ex->Int->Option Bl
 | .leaf v,_=>some (atB (aY v))
 | .add a b,P=>(gH a P).bind fun x=>(gH b P).bind fun y=>some (addB x y P)
 | .sub a b,P=>(gH a P).bind fun x=>(gH b P).bind fun y=>some (addB x (notB y) P)
 | .mul a b,P=>(gH a P).bind fun x=>(gH b P).bind fun y=>some (mulB x y P)
 | .div a b,P=>(gH a P).bind fun x=>(gH b P).bind fun y=>quoB x y P
 | .root a,P=>(gH a P).bind fun x=>rG x P
theorem rH{f:Bl->Bl->Option Bl}{p:Option Bl}(h:(o.bind fun x=>p.bind fun y=>f x y)=some r):∃x y,o=some x/\p=some y/\f x y=some r:=by
 cases o with
 |none=>cases h
 |some x=>cases p with
  |none=>cases h
  |some y=>exact⟨x,y,rfl,rfl,h⟩
theorem alO{f:Bl->Option Bl}(h:(o.bind fun x=>f x)=some r):∃x,o=some x/\f x=some r:=by
 cases o with
 |none=>cases h
 |some x=>exact⟨x,rfl,h⟩
theorem mI(hP:1<=P)(h:DenR e v):∀{b:Bl},gH e P=some b->In v b:=by
 induction h with
 |leaf v=>intro b hb;injection hb with hb;subst hb;exact am6
 |add ha hb iha ihb=>intro b h;obtain⟨x,y,h1,h2,h3⟩:=rH h;injection h3 with h3;subst h3;exact ai4 hP (iha h1) (ihb h2)
 |sub ha hb iha ihb=>intro b h;obtain⟨x,y,h1,h2,h3⟩:=rH h;injection h3 with h3;subst h3;exact ai4 hP (iha h1) (amM (ihb h2))
 |mul ha hb iha ihb=>intro b h;obtain⟨x,y,h1,h2,h3⟩:=rH h;injection h3 with h3;subst h3;exact amN hP (iha h1) (ihb h2)
 |div ha hb h0 hz iha ihb=>intro b h;obtain⟨x,y,h1,h2,h3⟩:=rH h;exact amO hP (iha h1) (ihb h2) hz h3
 |root ha h0 hs iha=>
  intro b h;obtain⟨x,h1,h3⟩:=alO h;obtain⟨r,k1,k2⟩:=akW hP (iha h1) h0 hs;rw[h3]at k1;injection k1 with k1;subst k1;exact k2
def cK(P:Int):Ex->Int
 | .leaf _=>1100
 | .add a b=>max (cK P a) (cK P b)+2
 | .sub a b=>max (cK P a) (cK P b)+2
 | .mul a b=>cK P a+cK P b+1
 | .div a b=>cK P a+cK P b+P+4
 | .root a=>cK P a+P+5
theorem iA(hP:1<=P)(e:Ex):1100<=cK P e:=by
 induction e with
 |leaf v=>exact bdR _
 |add a b iha ihb=>simp only[cK];omega
 |sub a b iha ihb=>simp only[cK];omega
 |mul a b iha ihb=>simp only[cK];omega
 |div a b iha ihb=>simp only[cK];omega
 |root a iha=>simp only[cK];omega
theorem xF{Q:Int}(hP:1<=P)(h:P<=Q)(e:Ex):cK P e<=cK Q e:=by
 induction e with
 |leaf v=>exact bdR _
 |add a b iha ihb=>simp only[cK];omega
 |sub a b iha ihb=>simp only[cK];omega
 |mul a b iha ihb=>simp only[cK];omega
 |div a b iha ihb=>simp only[cK];omega
 |root a iha=>simp only[cK];omega
def FinE:Ex->Prop
 | .leaf v=>fin v/\v<18446744073709551616/\Sz 53 1100 (aY v)
 | .add a b=>FinE a/\FinE b
 | .sub a b=>FinE a/\FinE b
 | .mul a b=>FinE a/\FinE b
 | .div a b=>FinE a/\FinE b
 | .root a=>FinE a
theorem vI(hP:1<=P):∀{e:Ex},FinE e->∀{b:Bl},gH e P=some b->SzB (max P 53) (cK P e) b:=by
 intro e
 induction e with
 |leaf v=>intro hf b hb;injection hb with hb;subst hb;exact⟨hf.2.2.mono (by omega) (bdR _),hf.2.2.mono (by omega) (bdR _)⟩
 |add a b iha ihb=>intro hf r h;obtain⟨x,y,h1,h2,h3⟩:=rH h;injection h3 with h3;subst h3;exact(adQ hP (iha hf.1 h1) (ihb hf.2 h2)).mono (by omega) (bdR _)
 |sub a b iha ihb=>intro hf r h;obtain⟨x,y,h1,h2,h3⟩:=rH h;injection h3 with h3;subst h3;exact(adQ hP (iha hf.1 h1) (akY (ihb hf.2 h2))).mono (by omega) (bdR _)
 |mul a b iha ihb=>intro hf r h;obtain⟨x,y,h1,h2,h3⟩:=rH h;injection h3 with h3;subst h3;exact(amP hP (iha hf.1 h1) (ihb hf.2 h2)).mono (by omega) (bdR _)
 |div a b iha ihb=>intro hf r h;obtain⟨x,y,h1,h2,h3⟩:=rH h;exact(amQ hP (iha hf.1 h1) (ihb hf.2 h2) h3).mono (by omega) (bdR _)
 |root a iha=>intro hf r h;obtain⟨x,h1,h3⟩:=alO h;exact(akX hP (iha hf h1) (by have:=iA hP a;omega) (by omega) h3).mono (by omega) (bdR _)
def iB(v:Nat):Nat:=if (aY v).man=0 then 0 else bits (aY v).man.natAbs+(aY v).exp.toNat
def iC(v:Nat):Nat:=if (aY v).man=0 then 0 else(-(aY v).exp).toNat
def uE:Ex->Nat×Nat
 | .leaf v=>(iB v,iC v)
 | .add a b=>(1+max ((uE a).1+(uE b).2) ((uE a).2+(uE b).1),(uE a).2+(uE b).2)
 | .sub a b=>(1+max ((uE a).1+(uE b).2) ((uE a).2+(uE b).1),(uE a).2+(uE b).2)
 | .mul a b=>((uE a).1+(uE b).1,(uE a).2+(uE b).2)
 | .div a b=>((uE a).1+(uE b).2,(uE a).2+(uE b).1)
 | .root a=>if (uE a).1>=(uE a).2 then(((uE a).1+(uE a).2+1)/2,(uE a).2)else((uE a).1,((uE a).1+(uE a).2+1)/2)
def RootsIn(L:List Ex):Ex->Prop
 | .leaf _=>True
 | .add a b=>RootsIn L a/\RootsIn L b
 | .sub a b=>RootsIn L a/\RootsIn L b
 | .mul a b=>RootsIn L a/\RootsIn L b
 | .div a b=>RootsIn L a/\RootsIn L b
 | .root a=>.root a∈L/\RootsIn L a
theorem RootsIn.weak {L M:List Ex}(h:∀x∈L,x∈M):∀{e:Ex},RootsIn L e->RootsIn M e:=by
 intro e
 induction e with
 |leaf v=>exact id
 |add a b iha ihb=>exact fun k=>⟨iha k.1,ihb k.2⟩
 |sub a b iha ihb=>exact fun k=>⟨iha k.1,ihb k.2⟩
 |mul a b iha ihb=>exact fun k=>⟨iha k.1,ihb k.2⟩
 |div a b iha ihb=>exact fun k=>⟨iha k.1,ihb k.2⟩
 |root a iha=>exact fun k=>⟨h _ k.1,iha k.2⟩
def RootsL:List Ex->Prop
 |[]=>True
 |r::L=>RootsL L/\∃a,r=.root a/\RootsIn L a
theorem RootsL.mem:∀{L:List Ex},RootsL L->∀{c:Ex},.root c∈L->RootsIn L c
 |r::L,⟨h1,a,e,h2⟩,c,hc=>by
  rcases bdU.1 hc with h|h
  . rw[e]at h;injection h with h;subst h
    exact h2.weak fun x hx=>bdS _ hx
  . exact(h1.mem h).weak fun x hx=>bdS _ hx
theorem aa0(T:Tw)(v:Nat):RepV T (iB v) (iC v) (rat (rv (aY v))):=by
 unfold iB iC;by_cases h:(aY v).man=0
 . rw[if_pos h,if_pos h,(bC _).2.2.2 h];exact RepV.zero T 0 0
 . rw[if_neg h,if_neg h]
   generalize aY v=d at*;refine RepV.dyad T (n:=d.man*(2^d.exp.toNat:Nat)) (d:=2^(-d.exp).toNat) ?_ nlr (by have:=Nat.two_pow_pos (-d.exp).toNat;omega) ?_
   . rw[Int.natAbs_mul,Int.natAbs_natCast,Nat.pow_add]
     exact Nat.mul_le_mul_right _ (Nat.le_of_lt ((aG _ _).1 nlr))
   . unfold Re.ofN Re.ofI
     rw[<-Re.rat_mul,Re.rat_inj,Rat.intCast_natCast,Rat.intCast_mul,Rat.intCast_natCast,<-fC,<-fC];unfold rv;have:p2 d.exp*p2 ((-d.exp).toNat:Nat)=p2 (d.exp.toNat:Nat):=by rw[<-dD];congr 1;omega
     rw[<-this];grind
theorem tower:∀{L:List Ex},RootsL L->(∀r∈L,∃v,DenR r v)->∃T:Tw,Tow T/\T.length=L.length/\∀(e:Ex) (v:Re),DenR e v->RootsIn L e->RepV T (uE e).1 (uE e).2 v
 |[],_,_=>by
  refine⟨[],trivial,rfl,fun e v h=> ?_⟩
  induction h with
  |leaf v=>exact fun _=>aa0 [] v
  |add ha hb iha ihb=>exact fun k=>RepV.add (T:=[]) trivial (iha k.1) (ihb k.2)
  |sub ha hb iha ihb=>exact fun k=>RepV.sub (T:=[]) trivial (iha k.1) (ihb k.2)
  |mul ha hb iha ihb=>exact fun k=>RepV.mul (T:=[]) trivial (iha k.1) (ihb k.2)
  |div ha hb h0 hz iha ihb=>exact fun k=>RepV.div (T:=[]) trivial (iha k.1) (ihb k.2) h0 hz
  |root ha h0 hs iha=>intro k;have:=k.1;cases this
 |r::L,⟨h1,a,e,h2⟩,hd=>by
  obtain⟨T,t1,t2,t3⟩:=tower h1 fun x hx=>hd x (bdS _ hx);subst e;obtain⟨s,hs⟩:=hd (.root a) List.mem_cons_self
  cases hs with
  |root ha h0 hss=>
   rename_i x;obtain⟨t,u1,u2⟩:=(t3 a x ha h2).root t1 hss;have u2':RepV (t::T) (uE (.root a)).1 (uE (.root a)).2 s:=by
    unfold uE;by_cases hc:(uE a).1>=(uE a).2
    . rw[if_pos hc]at u2|-;rw[if_pos hc]at u2;exact u2
    . rw[if_neg hc]at u2|-;rw[if_neg hc]at u2;exact u2
   refine⟨t::T,u1,by rw[bdT,bdT,t2],fun e v h=> ?_⟩
   induction h with
   |leaf v=>exact fun _=>aa0 _ v
   |add ha hb iha ihb=>exact fun k=>(iha k.1).add u1 (ihb k.2)
   |sub ha hb iha ihb=>exact fun k=>(iha k.1).sub u1 (ihb k.2)
   |mul ha hb iha ihb=>exact fun k=>(iha k.1).mul u1 (ihb k.2)
   |div ha hb h0 hz iha ihb=>exact fun k=>(iha k.1).div u1 (ihb k.2) h0 hz
   |root hc g0 gs ihc=>
    rename_i c y w;intro k;by_cases he:(Ex.root c)=.root a
    . injection he with he;subst he
      have:w=s:=(DenR.root hc g0 gs).uniq (DenR.root ha h0 hss);rw[this];exact u2'
    . have hm:Ex.root c∈L:=by
       rcases bdU.1 k.1 with h|h
       . exact absurd h he
       . exact h
      exact(t3 (.root c) w (.root hc g0 gs) ⟨hm,h1.mem hm⟩).lift t
end Go.Proofs.YtebdolonckjpiaaGreatDoor
namespace Go.Proofs.YtebdolonckjpiaaGreatDoor
open Go.RowKit
open Nat renaming le_trans->bdV
variable{x y:Dy}{P na nb:Int}{p q:Nat->Prop}{va vb:Value}{w:World}
theorem yM(hx:SmQ x)(hy:SmQ y):bits (dO x y).natAbs<=20400000/\bits (dP x y).natAbs<=20400000:=by
 obtain⟨h1,h2,h3⟩:=hx;obtain⟨k1,k2,k3⟩:=hy;rw[iL,iM,Int.natAbs_mul,Int.natAbs_natCast,Int.natAbs_mul,Int.natAbs_natCast];exact⟨bdV (dV _ _) (by omega),bdV (dV _ _) (by omega)⟩
theorem yN{x e:Int}(hb:bits x.natAbs<=45000000)(he:-20000000<=e/\e<=20000000):SmD (mkDy x e):=by
 have hbm:=nE x e;by_cases hx:x=0
 . rw[hx,aV];exact⟨by show bits 0<=134217728;have:bits 0=0:=rfl;omega,by decide,by decide⟩
 . obtain⟨k,k1,k2,k3,k4⟩:=iK x e hx
   exact⟨by omega,by omega,by omega⟩
theorem afH(x y:Int):bits (x+y).natAbs<=bits x.natAbs+bits y.natAbs+1:=bdV (dA (show(x+y).natAbs<=x.natAbs+y.natAbs by omega)) (rD _ _)
theorem sM(hx:SmQ x)(hy:SmQ y):SmD (addD x y):=by
 have ha:=yM hx hy;obtain⟨h1,h2,h3⟩:=hx;obtain⟨k1,k2,k3⟩:=hy;unfold addD;split
 . exact yN (by omega) (by omega)
 . split
   . exact yN (by omega) (by omega)
   . exact yN (bdV (afH _ _) (by omega)) (by omega)
theorem sN(hx:SmQ x)(hy:SmQ y):SmD (mulD x y):=by
 obtain⟨h1,h2,h3⟩:=hx;obtain⟨k1,k2,k3⟩:=hy;unfold mulD;refine yN ?_ (by omega);rw[Int.natAbs_mul];exact bdV (rC _ _) (by omega)
theorem sO(hx:SmQ x)(hy:SmQ y)(hP:1<=P/\P<=65536)(h0:y.man≠0)(dir:Int):SmD (quoD x y P dir):=by
 obtain⟨k1,k2,k3⟩:=aaV x y dir hP.1 h0;refine⟨by omega,?_⟩;by_cases hn:(quoD x y P dir).man=0
 . have:(quoD x y P dir).exp=0:=by
    have:mkDy (quoD x y P dir).man (quoD x y P dir).exp=quoD x y P dir:=k1;rw[hn,aV]at this;exact(congrArg Dy.exp this).symm
   rw[this];decide
 . have hx0:x.man≠0:=fun h=>hn (by unfold quoD;rw[if_pos h])
   obtain⟨j1,j2⟩:=k3 hn;have t1:topD x=bits x.man.natAbs+x.exp:=by unfold topD;rw[if_neg hx0]
   have t2:topD y=bits y.man.natAbs+y.exp:=by unfold topD;rw[if_neg h0]
   have t3:=lK hn;obtain⟨h1,h2,h3⟩:=hx;obtain⟨q1,q2,q3⟩:=hy;omega
theorem SmQ.smD (h:SmQ x):SmD x:=⟨by have:=h.1;omega,by have:=h.2.1;omega,by have:=h.2.2;omega⟩
theorem SmQB.smB {x:Bl}(h:SmQB x):SmB x:=⟨h.1.smD,h.2.smD⟩
theorem pM(hc:Canon x)(h:SmQ x):SmQ (notD x):=by
 have hk:Sz 400000 20000000 x:=⟨hc,by have:=h.1;omega,fun hn=>by
  have h1:=h.2;have t1:topD x=bits x.man.natAbs+x.exp:=by unfold topD;rw[if_neg hn]
  have:=h.1;omega⟩
 have hm:(notD x).man=-x.man/\(notD x).exp=x.exp:=by
  have hc':=hc;unfold Canon at hc';have h1:=adM x.man x.exp;rw[hc']at h1;by_cases h0:x.man=0
  . have:x.exp=0:=by rw[<-hc',h0,aV]
    unfold notD;rw[h0,this];exact⟨rfl,rfl⟩
  . unfold notD
    unfold mkDy at hc'|-;rw[if_neg h0]at hc';rw[if_neg (by omega)];have e1:(-x.man).natAbs=x.man.natAbs:=by omega
    rw[e1];have hc1:sg (decide (x.man<0)) (x.man.natAbs/2^ctz x.man.natAbs)=x.man:=congrArg Dy.man hc';have hc2:x.exp+ctz x.man.natAbs=x.exp:=congrArg Dy.exp hc';refine⟨?_,hc2⟩;have:decide (-x.man<0)= !decide (x.man<0):=by
     by_cases g:x.man<0
     . rw[decide_eq_true g,decide_eq_false (by omega)];rfl
     . rw[decide_eq_false g,decide_eq_true (by omega)];rfl
    rw[this]
    conv=>rhs;rw[<-hc1]
    cases decide (x.man<0)<;>simp[sg]
 exact⟨by rw[hm.1,show(-x.man).natAbs=x.man.natAbs from by omega];exact h.1,by rw[hm.2];exact h.2⟩
def SixB(v:Value):Prop:=∃a b c d e f,v=.agg #[a,b,c,d,e,f]
theorem BlP.six {v:Value}{d:Bl}(h:BlP p w v d):SixB v:=by
 obtain⟨b,A,n,c,b',A',n',c',e,-,-⟩:=h;exact⟨_,_,_,_,_,_,e⟩
def nN(n:Nd)(x y:Bl)(P:Int):Option Bl:=
 if n.kind=0 then some (atB (aY n.val))else if n.kind=1 then some (addB x y P)else if n.kind=2 then some (addB x (notB y) P)else if n.kind=3 then some (mulB x y P)else if n.kind=4 then quoB x y P else rG x P
def Okb(x:Bl):Prop:=SmQB x/\Canon x.lo/\Canon x.hi
theorem afI{p q:Nat->Prop}{val:Nat}{x y:Bl}(s1:SixB va)(s2:SixB vb)(hv:val<18446744073709551616)(hf:fin val)(hsD:SmD (aY val))(hT:Tab w)(hP:1<=P/\P<=65536):
 Calls Tryz.prog 236 #[.agg #[.int .i64 0,.float .f64 val,.int .i64 na,.int .i64 nb],va,vb,.int .i64 P] w (gP w.heap.size w (atB (aY val)) true):=by
 obtain⟨a0,a1,a2,a3,a4,a5,rfl⟩:=s1;obtain⟨z0,z1,z2,z3,z4,z5,rfl⟩:=s2;obtain⟨w4,hw4,hb4,hs4,b1,b2,b3,b4⟩:=pro4 w (.cells #[.int .i64 0,.float .f64 val,.int .i64 na,.int .i64 nb] 144) (.cells #[a0,a1,a2,a3,a4,a5] 163) (.cells #[z0,z1,z2,z3,z4,z5] 163) (.cells #[Value.bool false,Value.slice none 0 0,.int .i64 0,Value.bool false,Value.slice none 0 0,.int .i64 0] 163);have HB:=hdd hb4;have B2:=hdd b2;have B3:=hdd b3;have B4:=hdd b4;have HS:=hdd hs4;have HT:=hdd (hT.below hb4);have HTAB0:=hdd hT;obtain⟨k0,k1,k2,k3⟩:=aU b1;have FIN:Hid (∀(Z:Bl) (t:Bool) (w5:World),Below w4.heap.size w4 w5->∀(v:Value),BlP (fun b=>w4.heap.size<=b) w5 v Z->∃u0 u1 u2 u3 u4 u5,v=.agg #[u0,u1,u2,u3,u4,u5]/\(∃b1 A1 n1 c1 b2 A2 n2 c2,u0=.bool b1/\u1=.slice A1 n1 c1/\u2=.int .i64 Z.lo.exp/\u3=.bool b2/\u4=.slice A2 n2 c2/\u5=.int .i64 Z.hi.exp)/\
  gP w.heap.size w Z t (.returned (.tuple #[.agg #[u0,u1,u2,u3,u4,u5],.bool t])) (put6 w5 (w.heap.size+3) u0 u1 u2 u3 u4 u5)/\(put6 w5 (w.heap.size+3) u0 u1 u2 u3 u4 u5).heap[w.heap.size+3]? =some (.cells #[u0,u1,u2,u3,u4,u5] 163 (0,0))):=hdd (by
  intro Z t w5 h5 v hv;obtain⟨b,A,n,c,b',A',n',c',rfl,g1,g2⟩:=hv;obtain⟨r1,r2⟩:=bQ (x:=Z) (HB.out.trans (h5.mono HB.out.size)) (g:=w.heap.size+3) (by omega) (hbl B4.out h5) g1 g2 (fun b hb=>by have:=HS.out;omega);exact⟨_,_,_,_,_,_,rfl,⟨_,_,_,_,_,_,_,_,rfl,rfl,rfl,rfl,rfl,rfl⟩,fJ r1.out,r2⟩)
 have HD:=hdd (rF hv hf HT.out);replace HD:Hid (Calls Tryz.prog 282 #[.float .f64 val] w4 (rE w4.heap.size w4 (aY val) true)):=HD;have HAT:Hid (∀(w':World) (v:Value),Below w4.heap.size w4 w'->DyP AnyB w' v (aY val)->Calls Tryz.prog 283 #[v] w' (mH w'.heap.size w' (atB (aY val)))):=hdd fun w' v h hv=>ai6 hv (HT.out.below h) hsD (nD _ _);clear hP hsD hb4 b1 b2 b3 b4 hs4 hT hv hf;go_enter Tryz.func236,Tryz.ntmps236
 go_wp2_with fail
 refine HD.out.mono ?_;rintro e w5⟨hb5,v5,rfl,hz⟩;obtain⟨b5,A5,n5,c5,rfl,hz⟩:=hz;obtain⟨w6,hw6,hb6,hs6,q1⟩:=pro1 w5 (.cells #[Value.bool false,Value.slice none 0 0,.int .i64 0] 161);obtain⟨e0,e1,e2,e3,e4,e5⟩:=cells3 q1;have S1:=set3 q1 (.bool b5) (.slice A5 n5 c5) (.int .i64 (aY val).exp);have g1:=hb6.setCell (p:=⟨w5.heap.size,0,none⟩) nlr (.bool b5);have g2:=g1.setCell (p:=⟨w5.heap.size,1,none⟩) nlr (.slice A5 n5 c5);have g3:=g2.setCell (p:=⟨w5.heap.size,2,none⟩) nlr (.int .i64 (aY val).exp);have F:=And.intro S1 g3;clear S1 g1 g2 g3 hb6 hs6 q1;generalize hW:((w6.setCell ⟨w5.heap.size,0,none⟩ (.bool b5)).setCell ⟨w5.heap.size,1,none⟩ (.slice A5 n5 c5)).setCell ⟨w5.heap.size,2,none⟩ (.int .i64 (aY val).exp)=w7 at F;obtain⟨S1,g3⟩:=F;obtain⟨x0,x1,x2,-,-,-⟩:=cells3 S1;have HBL:=hdd (HAT.out w7 _ (aB hb5 g3) ⟨b5,A5,n5,c5,rfl,((hz.any).below g3)⟩);have HB7:=hdd (aB hb5 g3);clear S1 g3 hb5 hz k0 k1 k2 k3 hw4;go_wp2_with fail
 refine HBL.out.mono ?_;rintro e w8⟨hb8,v8,rfl,hz⟩;have hb48:=aB HB7.out hb8;have B48:=hbl B4.out hb48;obtain⟨r0,r1,r2,r3,r4,r5⟩:=aI B48;obtain⟨t0,t1,t2,t3,t4,t5⟩:=gN B48;obtain⟨u0,u1,u2,u3,u4,u5,rfl,⟨_,_,_,_,_,_,_,_,rfl,rfl,rfl,rfl,rfl,rfl⟩,hR,hF⟩:=FIN.out (atB (aY val)) true w8 hb48 _ (hz.weak fun b h _=>bdV HB7.out.size h);have HR:=hdd hR;have hFF:=hdd hF;clear hb8 hz hb48 B48 hR hF;go_wp2;obtain⟨f0,f1,f2,f3,f4,f5⟩:=aI hFF.out;unfold put6 at f0 f1 f2 f3 f4 f5;refine bodyPost_ret (v:=.tuple #[.agg #[_,_,_,_,_,_],_]) (by simp[results,Tryz.results236,go_sem,f0,f1,f2,f3,f4,f5];first|exact⟨⟨rfl,rfl,rfl,rfl,rfl,rfl⟩,rfl⟩|rfl) rfl ?_;exact HR.out
theorem afJ{val:Nat}{x y:Bl}(s1:SixB va)(s2:SixB vb)(hx:BlP p w va x)(hy:BlP q w vb y)(ox:Okb x)(oy:Okb y)(hp:∀b,p b->b<w.heap.size)(hq:∀b,q b->b<w.heap.size)(hT:Tab w)(hP:1<=P/\P<=65536):
 Calls Tryz.prog 236 #[.agg #[.int .i64 1,.float .f64 val,.int .i64 na,.int .i64 nb],va,vb,.int .i64 P] w (gP w.heap.size w (addB x y P) true):=by
 obtain⟨a0,a1,a2,a3,a4,a5,rfl⟩:=s1;obtain⟨z0,z1,z2,z3,z4,z5,rfl⟩:=s2;obtain⟨w4,hw4,hb4,hs4,b1,b2,b3,b4⟩:=pro4 w (.cells #[.int .i64 1,.float .f64 val,.int .i64 na,.int .i64 nb] 144) (.cells #[a0,a1,a2,a3,a4,a5] 163) (.cells #[z0,z1,z2,z3,z4,z5] 163) (.cells #[Value.bool false,Value.slice none 0 0,.int .i64 0,Value.bool false,Value.slice none 0 0,.int .i64 0] 163);have HB:=hdd hb4;have B2:=hdd b2;have B3:=hdd b3;have B4:=hdd b4;have HS:=hdd hs4;have HT:=hdd (hT.below hb4);have HTAB0:=hdd hT;obtain⟨k0,k1,k2,k3⟩:=aU b1;have FIN:Hid (∀(Z:Bl) (t:Bool) (w5:World),Below w4.heap.size w4 w5->∀(v:Value),BlP (fun b=>w4.heap.size<=b) w5 v Z->∃u0 u1 u2 u3 u4 u5,v=.agg #[u0,u1,u2,u3,u4,u5]/\(∃b1 A1 n1 c1 b2 A2 n2 c2,u0=.bool b1/\u1=.slice A1 n1 c1/\u2=.int .i64 Z.lo.exp/\u3=.bool b2/\u4=.slice A2 n2 c2/\u5=.int .i64 Z.hi.exp)/\
  gP w.heap.size w Z t (.returned (.tuple #[.agg #[u0,u1,u2,u3,u4,u5],.bool t])) (put6 w5 (w.heap.size+3) u0 u1 u2 u3 u4 u5)/\(put6 w5 (w.heap.size+3) u0 u1 u2 u3 u4 u5).heap[w.heap.size+3]? =some (.cells #[u0,u1,u2,u3,u4,u5] 163 (0,0))):=hdd (by
  intro Z t w5 h5 v hv;obtain⟨b,A,n,c,b',A',n',c',rfl,g1,g2⟩:=hv;obtain⟨r1,r2⟩:=bQ (x:=Z) (HB.out.trans (h5.mono HB.out.size)) (g:=w.heap.size+3) (by omega) (hbl B4.out h5) g1 g2 (fun b hb=>by have:=HS.out;omega);exact⟨_,_,_,_,_,_,rfl,⟨_,_,_,_,_,_,_,_,rfl,rfl,rfl,rfl,rfl,rfl⟩,fJ r1.out,r2⟩)
 have hpw:∀b,p b->b<w4.heap.size:=fun b h=>by have:=hp b h;omega
 have hqw:∀b,q b->b<w4.heap.size:=fun b h=>by have:=hq b h;omega
 have HA:Hid (Calls Tryz.prog 285 #[.agg #[a0,a1,a2,a3,a4,a5],.agg #[z0,z1,z2,z3,z4,z5],.int .i64 P] w4 (mH w4.heap.size w4 (addB x y P))):=hdd (xE (w:=w4) (hx.below hb4) (hy.below hb4) hpw hqw HT.out ox.1.smB oy.1.smB (sM ox.1.1 oy.1.1) (sM ox.1.2 oy.1.2) hP);obtain⟨c0,c1,c2,c3,c4,c5⟩:=aI b2;obtain⟨d0,d1,d2,d3,d4,d5⟩:=aI b3;clear hx hy hp hq hpw hqw hP hb4 b1 b2 b3 b4 hs4 hT ox oy;go_enter Tryz.func236,Tryz.ntmps236
 go_wp2_with fail
 refine HA.out.mono ?_;rintro e w8⟨hb8,v8,rfl,hz⟩;have hb48:=hb8;have B48:=hbl B4.out hb48;clear c0 c1 c2 c3 c4 c5 d0 d1 d2 d3 d4 d5 k0 k1 k2 k3 hw4;obtain⟨r0,r1,r2,r3,r4,r5⟩:=aI B48;obtain⟨t0,t1,t2,t3,t4,t5⟩:=gN B48;obtain⟨u0,u1,u2,u3,u4,u5,rfl,⟨_,_,_,_,_,_,_,_,rfl,rfl,rfl,rfl,rfl,rfl⟩,hR,hF⟩:=FIN.out (addB x y P) true w8 hb48 _ hz;have HR:=hdd hR;have hFF:=hdd hF;clear hb8 hz hb48 B48 hR hF;go_wp2;obtain⟨f0,f1,f2,f3,f4,f5⟩:=aI hFF.out;unfold put6 at f0 f1 f2 f3 f4 f5;refine bodyPost_ret (v:=.tuple #[.agg #[_,_,_,_,_,_],_]) (by simp[results,Tryz.results236,go_sem,f0,f1,f2,f3,f4,f5];first|exact⟨⟨rfl,rfl,rfl,rfl,rfl,rfl⟩,rfl⟩|rfl) rfl ?_;exact HR.out
theorem afK{val:Nat}{x y:Bl}(s1:SixB va)(s2:SixB vb)(hx:BlP p w va x)(hy:BlP q w vb y)(ox:Okb x)(oy:Okb y)(hp:∀b,p b->b<w.heap.size)(hq:∀b,q b->b<w.heap.size)(hT:Tab w)(hP:1<=P/\P<=65536):
 Calls Tryz.prog 236 #[.agg #[.int .i64 3,.float .f64 val,.int .i64 na,.int .i64 nb],va,vb,.int .i64 P] w (gP w.heap.size w (mulB x y P) true):=by
 obtain⟨a0,a1,a2,a3,a4,a5,rfl⟩:=s1;obtain⟨z0,z1,z2,z3,z4,z5,rfl⟩:=s2;obtain⟨w4,hw4,hb4,hs4,b1,b2,b3,b4⟩:=pro4 w (.cells #[.int .i64 3,.float .f64 val,.int .i64 na,.int .i64 nb] 144) (.cells #[a0,a1,a2,a3,a4,a5] 163) (.cells #[z0,z1,z2,z3,z4,z5] 163) (.cells #[Value.bool false,Value.slice none 0 0,.int .i64 0,Value.bool false,Value.slice none 0 0,.int .i64 0] 163);have HB:=hdd hb4;have B2:=hdd b2;have B3:=hdd b3;have B4:=hdd b4;have HS:=hdd hs4;have HT:=hdd (hT.below hb4);have HTAB0:=hdd hT;obtain⟨k0,k1,k2,k3⟩:=aU b1;have FIN:Hid (∀(Z:Bl) (t:Bool) (w5:World),Below w4.heap.size w4 w5->∀(v:Value),BlP (fun b=>w4.heap.size<=b) w5 v Z->∃u0 u1 u2 u3 u4 u5,v=.agg #[u0,u1,u2,u3,u4,u5]/\(∃b1 A1 n1 c1 b2 A2 n2 c2,u0=.bool b1/\u1=.slice A1 n1 c1/\u2=.int .i64 Z.lo.exp/\u3=.bool b2/\u4=.slice A2 n2 c2/\u5=.int .i64 Z.hi.exp)/\
  gP w.heap.size w Z t (.returned (.tuple #[.agg #[u0,u1,u2,u3,u4,u5],.bool t])) (put6 w5 (w.heap.size+3) u0 u1 u2 u3 u4 u5)/\(put6 w5 (w.heap.size+3) u0 u1 u2 u3 u4 u5).heap[w.heap.size+3]? =some (.cells #[u0,u1,u2,u3,u4,u5] 163 (0,0))):=hdd (by
  intro Z t w5 h5 v hv;obtain⟨b,A,n,c,b',A',n',c',rfl,g1,g2⟩:=hv;obtain⟨r1,r2⟩:=bQ (x:=Z) (HB.out.trans (h5.mono HB.out.size)) (g:=w.heap.size+3) (by omega) (hbl B4.out h5) g1 g2 (fun b hb=>by have:=HS.out;omega);exact⟨_,_,_,_,_,_,rfl,⟨_,_,_,_,_,_,_,_,rfl,rfl,rfl,rfl,rfl,rfl⟩,fJ r1.out,r2⟩)
 have hpw:∀b,p b->b<w4.heap.size:=fun b h=>by have:=hp b h;omega
 have hqw:∀b,q b->b<w4.heap.size:=fun b h=>by have:=hq b h;omega
 have HA:Hid (Calls Tryz.prog 286 #[.agg #[a0,a1,a2,a3,a4,a5],.agg #[z0,z1,z2,z3,z4,z5],.int .i64 P] w4 (mH w4.heap.size w4 (mulB x y P))):=hdd (afD (w:=w4) (hx.below hb4) (hy.below hb4) HT.out ox.1.smB oy.1.smB (sN ox.1.1 oy.1.1) (sN ox.1.1 oy.1.2) (sN ox.1.2 oy.1.1) (sN ox.1.2 oy.1.2) hP);obtain⟨c0,c1,c2,c3,c4,c5⟩:=aI b2;obtain⟨d0,d1,d2,d3,d4,d5⟩:=aI b3;clear hx hy hp hq hpw hqw hP hb4 b1 b2 b3 b4 hs4 hT ox oy;go_enter Tryz.func236,Tryz.ntmps236
 go_wp2_with fail
 refine HA.out.mono ?_;rintro e w8⟨hb8,v8,rfl,hz⟩;have hb48:=hb8;have B48:=hbl B4.out hb48;clear c0 c1 c2 c3 c4 c5 d0 d1 d2 d3 d4 d5 k0 k1 k2 k3 hw4;obtain⟨r0,r1,r2,r3,r4,r5⟩:=aI B48;obtain⟨t0,t1,t2,t3,t4,t5⟩:=gN B48;obtain⟨u0,u1,u2,u3,u4,u5,rfl,⟨_,_,_,_,_,_,_,_,rfl,rfl,rfl,rfl,rfl,rfl⟩,hR,hF⟩:=FIN.out (mulB x y P) true w8 hb48 _ hz;have HR:=hdd hR;have hFF:=hdd hF;clear hb8 hz hb48 B48 hR hF;go_wp2;obtain⟨f0,f1,f2,f3,f4,f5⟩:=aI hFF.out;unfold put6 at f0 f1 f2 f3 f4 f5;refine bodyPost_ret (v:=.tuple #[.agg #[_,_,_,_,_,_],_]) (by simp[results,Tryz.results236,go_sem,f0,f1,f2,f3,f4,f5];first|exact⟨⟨rfl,rfl,rfl,rfl,rfl,rfl⟩,rfl⟩|rfl) rfl ?_;exact HR.out
theorem afL{val:Nat}{x y:Bl}(s1:SixB va)(s2:SixB vb)(hx:BlP p w va x)(hy:BlP q w vb y)(ox:Okb x)(oy:Okb y)(hp:∀b,p b->b<w.heap.size)(hq:∀b,q b->b<w.heap.size)(hT:Tab w)(hP:1<=P/\P<=65536):
 Calls Tryz.prog 236 #[.agg #[.int .i64 2,.float .f64 val,.int .i64 na,.int .i64 nb],va,vb,.int .i64 P] w (gP w.heap.size w (addB x (notB y) P) true):=by
 obtain⟨a0,a1,a2,a3,a4,a5,rfl⟩:=s1;obtain⟨z0,z1,z2,z3,z4,z5,rfl⟩:=s2;obtain⟨w4,hw4,hb4,hs4,b1,b2,b3,b4⟩:=pro4 w (.cells #[.int .i64 2,.float .f64 val,.int .i64 na,.int .i64 nb] 144) (.cells #[a0,a1,a2,a3,a4,a5] 163) (.cells #[z0,z1,z2,z3,z4,z5] 163) (.cells #[Value.bool false,Value.slice none 0 0,.int .i64 0,Value.bool false,Value.slice none 0 0,.int .i64 0] 163);have HB:=hdd hb4;have B2:=hdd b2;have B3:=hdd b3;have B4:=hdd b4;have HS:=hdd hs4;have HT:=hdd (hT.below hb4);have HTAB0:=hdd hT;obtain⟨k0,k1,k2,k3⟩:=aU b1;have FIN:Hid (∀(Z:Bl) (t:Bool) (w5:World),Below w4.heap.size w4 w5->∀(v:Value),BlP (fun b=>w4.heap.size<=b) w5 v Z->∃u0 u1 u2 u3 u4 u5,v=.agg #[u0,u1,u2,u3,u4,u5]/\(∃b1 A1 n1 c1 b2 A2 n2 c2,u0=.bool b1/\u1=.slice A1 n1 c1/\u2=.int .i64 Z.lo.exp/\u3=.bool b2/\u4=.slice A2 n2 c2/\u5=.int .i64 Z.hi.exp)/\
  gP w.heap.size w Z t (.returned (.tuple #[.agg #[u0,u1,u2,u3,u4,u5],.bool t])) (put6 w5 (w.heap.size+3) u0 u1 u2 u3 u4 u5)/\(put6 w5 (w.heap.size+3) u0 u1 u2 u3 u4 u5).heap[w.heap.size+3]? =some (.cells #[u0,u1,u2,u3,u4,u5] 163 (0,0))):=hdd (by
  intro Z t w5 h5 v hv;obtain⟨b,A,n,c,b',A',n',c',rfl,g1,g2⟩:=hv;obtain⟨r1,r2⟩:=bQ (x:=Z) (HB.out.trans (h5.mono HB.out.size)) (g:=w.heap.size+3) (by omega) (hbl B4.out h5) g1 g2 (fun b hb=>by have:=HS.out;omega);exact⟨_,_,_,_,_,_,rfl,⟨_,_,_,_,_,_,_,_,rfl,rfl,rfl,rfl,rfl,rfl⟩,fJ r1.out,r2⟩)
 have HN:Hid (Calls Tryz.prog 284 #[.agg #[z0,z1,z2,z3,z4,z5]] w4 (mH w4.heap.size w4 (notB y))):=hdd (afB (hy.below hb4) HT.out oy.1.smB);have HA:Hid (∀(w':World) (v:Value),BlP p w' (.agg #[a0,a1,a2,a3,a4,a5]) x->BlP (fun b=>b<w'.heap.size) w' v (notB y)->Tab w'->w4.heap.size<=w'.heap.size->Calls Tryz.prog 285 #[.agg #[a0,a1,a2,a3,a4,a5],v,.int .i64 P] w' (mH w'.heap.size w' (addB x (notB y) P))):=hdd fun w' v h1 h2 h3 h4=>
  xE (P:=P) h1 h2 (fun b hb=>by have:=hp b hb;omega) (fun b hb=>hb) h3 ox.1.smB ⟨(pM oy.2.2 oy.1.2).smD,(pM oy.2.1 oy.1.1).smD⟩ (sM ox.1.1 (pM oy.2.2 oy.1.2)) (sM ox.1.2 (pM oy.2.1 oy.1.1)) hP
 have HXp:=hdd (hx.below hb4);have HPW:=hdd hp;obtain⟨c0,c1,c2,c3,c4,c5⟩:=aI b2;obtain⟨d0,d1,d2,d3,d4,d5⟩:=aI b3;obtain⟨dd0,dd1,dd2,dd3,dd4,dd5⟩:=gN b3;clear hx hy hp hq hP hb4 b1 b2 b3 b4 hs4 hT ox oy;go_enter Tryz.func236,Tryz.ntmps236
 go_wp2_with fail
 refine HN.out.mono ?_;rintro e w5⟨hb5,v5,rfl,hz⟩;obtain⟨b5,A5,n5,m5,b6,A6,n6,m6,rfl,hz1,hz2⟩:=hz;have B35:=hbl B3.out hb5;have B25:=hbl B2.out hb5;have B45:=hbl B4.out hb5;obtain⟨e0,e1,e2,e3,e4,e5⟩:=aI B35;obtain⟨g0,g1,g2,g3,g4,g5⟩:=gN B35;clear c0 c1 c2 c3 c4 c5 d0 d1 d2 d3 d4 d5 dd0 dd1 dd2 dd3 dd4 dd5 k0 k1 k2 k3 hw4;have hS:=HS.out;have F:(put6 w5 (w.heap.size+2) (.bool b5) (.slice A5 n5 m5) (.int .i64 (notB y).lo.exp) (.bool b6) (.slice A6 n6 m6) (.int .i64 (notB y).hi.exp)).heap[w.heap.size+1]? =some (.cells #[a0,a1,a2,a3,a4,a5] 163 (0,0))/\
  (put6 w5 (w.heap.size+2) (.bool b5) (.slice A5 n5 m5) (.int .i64 (notB y).lo.exp) (.bool b6) (.slice A6 n6 m6) (.int .i64 (notB y).hi.exp)).heap[w.heap.size+2]? =some (.cells #[.bool b5,.slice A5 n5 m5,.int .i64 (notB y).lo.exp,.bool b6,.slice A6 n6 m6,.int .i64 (notB y).hi.exp] 163 (0,0))/\
  (put6 w5 (w.heap.size+2) (.bool b5) (.slice A5 n5 m5) (.int .i64 (notB y).lo.exp) (.bool b6) (.slice A6 n6 m6) (.int .i64 (notB y).hi.exp)).heap[w.heap.size+3]? =some (.cells #[Value.bool false,Value.slice none 0 0,.int .i64 0,Value.bool false,Value.slice none 0 0,.int .i64 0] 163 (0,0))/\
  Below w.heap.size w (put6 w5 (w.heap.size+2) (.bool b5) (.slice A5 n5 m5) (.int .i64 (notB y).lo.exp) (.bool b6) (.slice A6 n6 m6) (.int .i64 (notB y).hi.exp))/\
  BlP p (put6 w5 (w.heap.size+2) (.bool b5) (.slice A5 n5 m5) (.int .i64 (notB y).lo.exp) (.bool b6) (.slice A6 n6 m6) (.int .i64 (notB y).hi.exp)) (.agg #[a0,a1,a2,a3,a4,a5]) x/\
  BlP (fun b=>w4.heap.size<=b) (put6 w5 (w.heap.size+2) (.bool b5) (.slice A5 n5 m5) (.int .i64 (notB y).lo.exp) (.bool b6) (.slice A6 n6 m6) (.int .i64 (notB y).hi.exp)) (.agg #[.bool b5,.slice A5 n5 m5,.int .i64 (notB y).lo.exp,.bool b6,.slice A6 n6 m6,.int .i64 (notB y).hi.exp]) (notB y)/\
  w4.heap.size<=(put6 w5 (w.heap.size+2) (.bool b5) (.slice A5 n5 m5) (.int .i64 (notB y).lo.exp) (.bool b6) (.slice A6 n6 m6) (.int .i64 (notB y).hi.exp)).heap.size:=by
  refine⟨(uW (by omega) _ _ _ _ _ _).trans B25,iN B35 _ _ _ _ _ _,(uW (by omega) _ _ _ _ _ _).trans B45,fI (HB.out.trans (hb5.mono HB.out.size)) (by omega) _ _ _ _ _ _,?_,?_,?_⟩
  . obtain⟨j1,j2,j3,j4,j5,j6,j7,j8,je,h1,h2⟩:=HXp.out.below hb5
    exact⟨j1,j2,j3,j4,j5,j6,j7,j8,je,iX h1 (fun b hb=>by have:=HPW.out b hb;omega) _ _ _ _ _ _,iX h2 (fun b hb=>by have:=HPW.out b hb;omega) _ _ _ _ _ _⟩
  . exact⟨_,_,_,_,_,_,_,_,rfl,iX hz1 (fun b hb=>by omega) _ _ _ _ _ _,iX hz2 (fun b hb=>by omega) _ _ _ _ _ _⟩
  . have:=(fI (g:=w.heap.size+2) (HB.out.trans (hb5.mono HB.out.size)) (by omega) (.bool b5) (.slice A5 n5 m5) (.int .i64 (notB y).lo.exp) (.bool b6) (.slice A6 n6 m6) (.int .i64 (notB y).hi.exp)).size
    have e1:(put6 w5 (w.heap.size+2) (.bool b5) (.slice A5 n5 m5) (.int .i64 (notB y).lo.exp) (.bool b6) (.slice A6 n6 m6) (.int .i64 (notB y).hi.exp)).heap.size=w5.heap.size:=by simp[put6,World.setCell]
    rw[e1];exact hb5.size
 have HTT:=HTAB0.out;clear B25 B35 B45 hz1 hz2 hb5;unfold put6 at F;generalize hW:(((((w5.setCell ⟨w.heap.size+2,0,none⟩ (.bool b5)).setCell ⟨w.heap.size+2,1,none⟩ (.slice A5 n5 m5)).setCell ⟨w.heap.size+2,2,none⟩ (.int .i64 (notB y).lo.exp)).setCell ⟨w.heap.size+2,3,none⟩ (.bool b6)).setCell ⟨w.heap.size+2,4,none⟩ (.slice A6 n6 m6)).setCell ⟨w.heap.size+2,5,none⟩ (.int .i64 (notB y).hi.exp)=w7 at F;obtain⟨F1,F2,F3,F4,F5,F6,F7⟩:=F;obtain⟨c0,c1,c2,c3,c4,c5⟩:=aI F1;obtain⟨d0,d1,d2,d3,d4,d5⟩:=aI F2;have HA7:=hdd (HA.out w7 _ F5 (F6.weak fun b _ h=>h) (HTT.below F4) F7);have HF3:=hdd F3;have HF4:=hdd F4;have HF7:=hdd F7;clear F1 F2 F3 F4 F5 F6 F7 HTT;go_wp2_with fail
 refine HA7.out.mono ?_;rintro e w8⟨hb8,v8,rfl,hz⟩;have B48:=hbl HF3.out hb8;obtain⟨b,A,n,c,b',A',n',c',rfl,y1,y2⟩:=hz;obtain⟨r1,r2⟩:=bQ (x:=addB x (notB y) P) (HF4.out.trans (hb8.mono HF4.out.size)) (g:=w.heap.size+3) (by omega) B48 y1 y2 (fun b hb=>by have:=HF7.out;omega);obtain⟨q0,q1,q2,q3,q4,q5⟩:=aI B48;obtain⟨t0,t1,t2,t3,t4,t5⟩:=gN B48;have HR:=hdd (fJ (t:=true) r1.out);have hFF:=hdd r2;clear hb8 B48 r1 r2 y1 y2 c0 c1 c2 c3 c4 c5 d0 d1 d2 d3 d4 d5 hS;go_wp2;obtain⟨f0,f1,f2,f3,f4,f5⟩:=aI hFF.out;unfold put6 at f0 f1 f2 f3 f4 f5;refine bodyPost_ret (v:=.tuple #[.agg #[_,_,_,_,_,_],_]) (by simp[results,Tryz.results236,go_sem,f0,f1,f2,f3,f4,f5];first|exact⟨⟨rfl,rfl,rfl,rfl,rfl,rfl⟩,rfl⟩|rfl) rfl ?_;exact HR.out
end Go.Proofs.YtebdolonckjpiaaGreatDoor
