/- A part of the proof: contracts of functions and plain laws (TrA, NrA, NrB). -/
import Derived.Test.YtigoiiekebccnaaGreatDoorK27
import Derived.Test.YtigoiiekebccnaaGreatDoorK09
import Derived.Test.YtigoiiekebccnaaGreatDoorK15
import Derived.Test.YtigoiiekebccnaaGreatDoorK25
import Derived.Test.YtigoiiekebccnaaGreatDoorK11
set_option linter.unusedVariables false
set_option linter.unusedSimpArgs false
set_option linter.unnecessarySimpa false
set_option maxHeartbeats 25600000
set_option maxRecDepth 100000
namespace Go.Proofs.YtigoiiekebccnaaGreatDoor
section
open Re (rat)
open Int renaming le_refl->bgP
open List renaming mem_cons_of_mem->bgQ,length_cons->bgR,mem_cons->bgS
variable{r:Bl}{e:Ex}{P:Int}{o:Option Bl}{v:Re}
def aX(v:Nat):Dy:=mkDy (fv v) (-1074)
inductive DenR:Ex->Re->Prop
 |leaf (v:Nat):DenR (.leaf v) (rat (rv (aX v)))
 |add {a b:Ex} {x y:Re} (ha:DenR a x) (hb:DenR b y):DenR (.add a b) (x+y)
 |sub {a b:Ex} {x y:Re} (ha:DenR a x) (hb:DenR b y):DenR (.sub a b) (x-y)
 |mul {a b:Ex} {x y:Re} (ha:DenR a x) (hb:DenR b y):DenR (.mul a b) (x*y)
 |div {a b:Ex} {x y z:Re} (ha:DenR a x) (hb:DenR b y) (h0:y≠0) (hz:z*y=x):DenR (.div a b) z
 |root {a:Ex} {x s:Re} (ha:DenR a x) (h0:0<=s) (hs:s*s=x):DenR (.root a) s
theorem ak8{x y z t:Re}(h0:y≠0)(h:z*y=x)(k:t*y=x):z=t:=by
 apply Re.eq_of_sub;apply Classical.byContradiction;intro hn;apply Re.mul_ne_zero hn h0;rw[Re.sub_mul,h,k,Re.sub_self]
theorem DenR.uniq (h:DenR e v):∀{w:Re},DenR e w->v=w:=by
 induction h with
 |leaf v=>intro w k;cases k;rfl
 |add ha hb iha ihb=>intro w k;cases k with|add ka kb=>rw[iha ka,ihb kb]
 |sub ha hb iha ihb=>intro w k;cases k with|sub ka kb=>rw[iha ka,ihb kb]
 |mul ha hb iha ihb=>intro w k;cases k with|mul ka kb=>rw[iha ka,ihb kb]
 |div ha hb h0 hz iha ihb=>intro w k;cases k with|div ka kb k0 kz=>rw[<-iha ka,<-ihb kb]at kz;exact ak8 h0 hz kz
 |root ha h0 hs iha=>intro w k;cases k with|root ka k0 ks=>rw[<-iha ka]at ks;exact Re.sq_inj h0 k0 (hs.trans ks.symm)
def fH:Ex->Int->Option Bl
 | .leaf v,_=>some (atB (aX v))
 | .add a b,P=>(fH a P).bind fun x=>(fH b P).bind fun y=>some (addB x y P)
 | .sub a b,P=>(fH a P).bind fun x=>(fH b P).bind fun y=>some (addB x (notB y) P)
 | .mul a b,P=>(fH a P).bind fun x=>(fH b P).bind fun y=>some (mulB x y P)
 | .div a b,P=>(fH a P).bind fun x=>(fH b P).bind fun y=>quoB x y P
 | .root a,P=>(fH a P).bind fun x=>nW x P
theorem sH{f:Bl->Bl->Option Bl}{p:Option Bl}(h:(o.bind fun x=>p.bind fun y=>f x y)=some r):∃x y,o=some x/\p=some y/\f x y=some r:=by
 cases o with
 |none=>cases h
 |some x=>cases p with
  |none=>cases h
  |some y=>exact⟨x,y,rfl,rfl,h⟩
theorem an0{f:Bl->Option Bl}(h:(o.bind fun x=>f x)=some r):∃x,o=some x/\f x=some r:=by
 cases o with
 |none=>cases h
 |some x=>exact⟨x,rfl,h⟩
theorem mJ(hP:1<=P)(h:DenR e v):∀{b:Bl},fH e P=some b->In v b:=by
 induction h with
 |leaf v=>intro b hb;injection hb with hb;subst hb;exact apB
 |add ha hb iha ihb=>intro b h;obtain⟨x,y,h1,h2,h3⟩:=sH h;injection h3 with h3;subst h3;exact ak3 hP (iha h1) (ihb h2)
 |sub ha hb iha ihb=>intro b h;obtain⟨x,y,h1,h2,h3⟩:=sH h;injection h3 with h3;subst h3;exact ak3 hP (iha h1) (aoR (ihb h2))
 |mul ha hb iha ihb=>intro b h;obtain⟨x,y,h1,h2,h3⟩:=sH h;injection h3 with h3;subst h3;exact aoS hP (iha h1) (ihb h2)
 |div ha hb h0 hz iha ihb=>intro b h;obtain⟨x,y,h1,h2,h3⟩:=sH h;exact aoT hP (iha h1) (ihb h2) hz h3
 |root ha h0 hs iha=>
  intro b h;obtain⟨x,h1,h3⟩:=an0 h;obtain⟨r,k1,k2⟩:=afA hP (iha h1) h0 hs;rw[h3]at k1;injection k1 with k1;subst k1;exact k2
def bR(P:Int):Ex->Int
 | .leaf _=>1100
 | .add a b=>max (bR P a) (bR P b)+2
 | .sub a b=>max (bR P a) (bR P b)+2
 | .mul a b=>bR P a+bR P b+1
 | .div a b=>bR P a+bR P b+P+4
 | .root a=>bR P a+P+5
theorem gJ(hP:1<=P)(e:Ex):1100<=bR P e:=by
 induction e with
 |leaf v=>exact bgP _
 |add a b iha ihb=>simp only[bR];omega
 |sub a b iha ihb=>simp only[bR];omega
 |mul a b iha ihb=>simp only[bR];omega
 |div a b iha ihb=>simp only[bR];omega
 |root a iha=>simp only[bR];omega
theorem yL{Q:Int}(hP:1<=P)(h:P<=Q)(e:Ex):bR P e<=bR Q e:=by
 induction e with
 |leaf v=>exact bgP _
 |add a b iha ihb=>simp only[bR];omega
 |sub a b iha ihb=>simp only[bR];omega
 |mul a b iha ihb=>simp only[bR];omega
 |div a b iha ihb=>simp only[bR];omega
 |root a iha=>simp only[bR];omega
def FinE:Ex->Prop
 | .leaf v=>fin v/\v<18446744073709551616/\Sz 53 1100 (aX v)
 | .add a b=>FinE a/\FinE b
 | .sub a b=>FinE a/\FinE b
 | .mul a b=>FinE a/\FinE b
 | .div a b=>FinE a/\FinE b
 | .root a=>FinE a
theorem wM(hP:1<=P):∀{e:Ex},FinE e->∀{b:Bl},fH e P=some b->SzB (max P 53) (bR P e) b:=by
 intro e
 induction e with
 |leaf v=>intro hf b hb;injection hb with hb;subst hb;exact⟨hf.2.2.mono (by omega) (bgP _),hf.2.2.mono (by omega) (bgP _)⟩
 |add a b iha ihb=>intro hf r h;obtain⟨x,y,h1,h2,h3⟩:=sH h;injection h3 with h3;subst h3;exact(afB hP (iha hf.1 h1) (ihb hf.2 h2)).mono (by omega) (bgP _)
 |sub a b iha ihb=>intro hf r h;obtain⟨x,y,h1,h2,h3⟩:=sH h;injection h3 with h3;subst h3;exact(afB hP (iha hf.1 h1) (am7 (ihb hf.2 h2))).mono (by omega) (bgP _)
 |mul a b iha ihb=>intro hf r h;obtain⟨x,y,h1,h2,h3⟩:=sH h;injection h3 with h3;subst h3;exact(aoU hP (iha hf.1 h1) (ihb hf.2 h2)).mono (by omega) (bgP _)
 |div a b iha ihb=>intro hf r h;obtain⟨x,y,h1,h2,h3⟩:=sH h;exact(aoV hP (iha hf.1 h1) (ihb hf.2 h2) h3).mono (by omega) (bgP _)
 |root a iha=>intro hf r h;obtain⟨x,h1,h3⟩:=an0 h;exact(am6 hP (iha hf h1) (by have:=gJ hP a;omega) (by omega) h3).mono (by omega) (bgP _)
def jL(v:Nat):Nat:=if (aX v).man=0 then 0 else bits (aX v).man.natAbs+(aX v).exp.toNat
def jM(v:Nat):Nat:=if (aX v).man=0 then 0 else(-(aX v).exp).toNat
def uE:Ex->Nat×Nat
 | .leaf v=>(jL v,jM v)
 | .add a b=>(1+max ((uE a).1+(uE b).2) ((uE a).2+(uE b).1),(uE a).2+(uE b).2)
 | .sub a b=>(1+max ((uE a).1+(uE b).2) ((uE a).2+(uE b).1),(uE a).2+(uE b).2)
 | .mul a b=>((uE a).1+(uE b).1,(uE a).2+(uE b).2)
 | .div a b=>((uE a).1+(uE b).2,(uE a).2+(uE b).1)
 | .root a=>if (uE a).1>=(uE a).2 then(((uE a).1+(uE a).2+1)/2,(uE a).2)else((uE a).1,((uE a).1+(uE a).2+1)/2)
def RootsIn(L:List Ex):Ex->Prop
 | .leaf _=>True
 | .add a b=>RootsIn L a/\RootsIn L b
 | .sub a b=>RootsIn L a/\RootsIn L b
 | .mul a b=>RootsIn L a/\RootsIn L b
 | .div a b=>RootsIn L a/\RootsIn L b
 | .root a=>.root a∈L/\RootsIn L a
theorem RootsIn.weak {L M:List Ex}(h:∀x∈L,x∈M):∀{e:Ex},RootsIn L e->RootsIn M e:=by
 intro e
 induction e with
 |leaf v=>exact id
 |add a b iha ihb=>exact fun k=>⟨iha k.1,ihb k.2⟩
 |sub a b iha ihb=>exact fun k=>⟨iha k.1,ihb k.2⟩
 |mul a b iha ihb=>exact fun k=>⟨iha k.1,ihb k.2⟩
 |div a b iha ihb=>exact fun k=>⟨iha k.1,ihb k.2⟩
 |root a iha=>exact fun k=>⟨h _ k.1,iha k.2⟩
def RootsL:List Ex->Prop
 |[]=>True
 |r::L=>RootsL L/\∃a,r=.root a/\RootsIn L a
theorem RootsL.mem:∀{L:List Ex},RootsL L->∀{c:Ex},.root c∈L->RootsIn L c
 |r::L,⟨h1,a,e,h2⟩,c,hc=>by
  rcases bgS.1 hc with h|h
  . rw[e]at h;injection h with h;subst h
    exact h2.weak fun x hx=>bgQ _ hx
  . exact(h1.mem h).weak fun x hx=>bgQ _ hx
theorem acB(T:Tw)(v:Nat):RepV T (jL v) (jM v) (rat (rv (aX v))):=by
 unfold jL jM;by_cases h:(aX v).man=0
 . rw[if_pos h,if_pos h,(aY _).2.2.2 h];exact RepV.zero T 0 0
 . rw[if_neg h,if_neg h]
   generalize aX v=d at*;refine RepV.dyad T (n:=d.man*(2^d.exp.toNat:Nat)) (d:=2^(-d.exp).toNat) ?_ nlr (by have:=Nat.two_pow_pos (-d.exp).toNat;omega) ?_
   . rw[Int.natAbs_mul,Int.natAbs_natCast,Nat.pow_add]
     exact Nat.mul_le_mul_right _ (Nat.le_of_lt ((aF _ _).1 nlr))
   . unfold Re.ofN Re.ofI
     rw[<-Re.rat_mul,Re.rat_inj,Rat.intCast_natCast,Rat.intCast_mul,Rat.intCast_natCast,<-fA,<-fA];unfold rv;have:p2 d.exp*p2 ((-d.exp).toNat:Nat)=p2 (d.exp.toNat:Nat):=by rw[<-bY];congr 1;omega
     rw[<-this];grind
theorem tower:∀{L:List Ex},RootsL L->(∀r∈L,∃v,DenR r v)->∃T:Tw,Tow T/\T.length=L.length/\∀(e:Ex) (v:Re),DenR e v->RootsIn L e->RepV T (uE e).1 (uE e).2 v
 |[],_,_=>by
  refine⟨[],trivial,rfl,fun e v h=> ?_⟩
  induction h with
  |leaf v=>exact fun _=>acB [] v
  |add ha hb iha ihb=>exact fun k=>RepV.add (T:=[]) trivial (iha k.1) (ihb k.2)
  |sub ha hb iha ihb=>exact fun k=>RepV.sub (T:=[]) trivial (iha k.1) (ihb k.2)
  |mul ha hb iha ihb=>exact fun k=>RepV.mul (T:=[]) trivial (iha k.1) (ihb k.2)
  |div ha hb h0 hz iha ihb=>exact fun k=>RepV.div (T:=[]) trivial (iha k.1) (ihb k.2) h0 hz
  |root ha h0 hs iha=>intro k;have:=k.1;cases this
 |r::L,⟨h1,a,e,h2⟩,hd=>by
  obtain⟨T,t1,t2,t3⟩:=tower h1 fun x hx=>hd x (bgQ _ hx);subst e;obtain⟨s,hs⟩:=hd (.root a) List.mem_cons_self
  cases hs with
  |root ha h0 hss=>
   rename_i x;obtain⟨t,u1,u2⟩:=(t3 a x ha h2).root t1 hss;have u2':RepV (t::T) (uE (.root a)).1 (uE (.root a)).2 s:=by
    unfold uE;by_cases hc:(uE a).1>=(uE a).2
    . rw[if_pos hc]at u2|-;rw[if_pos hc]at u2;exact u2
    . rw[if_neg hc]at u2|-;rw[if_neg hc]at u2;exact u2
   refine⟨t::T,u1,by rw[bgR,bgR,t2],fun e v h=> ?_⟩
   induction h with
   |leaf v=>exact fun _=>acB _ v
   |add ha hb iha ihb=>exact fun k=>(iha k.1).add u1 (ihb k.2)
   |sub ha hb iha ihb=>exact fun k=>(iha k.1).sub u1 (ihb k.2)
   |mul ha hb iha ihb=>exact fun k=>(iha k.1).mul u1 (ihb k.2)
   |div ha hb h0 hz iha ihb=>exact fun k=>(iha k.1).div u1 (ihb k.2) h0 hz
   |root hc g0 gs ihc=>
    rename_i c y w;intro k;by_cases he:(Ex.root c)=.root a
    . injection he with he;subst he
      have:w=s:=(DenR.root hc g0 gs).uniq (DenR.root ha h0 hss);rw[this];exact u2'
    . have hm:Ex.root c∈L:=by
       rcases bgS.1 k.1 with h|h
       . exact absurd h he
       . exact h
      exact(t3 (.root c) w (.root hc g0 gs) ⟨hm,h1.mem hm⟩).lift t
end
section
open Go.RowKit
open Nat renaming le_trans->bgT
variable{x y:Bl}{P na nb:Int}{p q:Nat->Prop}{va vb:Value}{w:World}
theorem zX{x y:Dy}(hx:SmQ x)(hy:SmQ y):bits (dG x y).natAbs<=20400000/\bits (dH x y).natAbs<=20400000:=by
 obtain⟨h1,h2,h3⟩:=hx;obtain⟨k1,k2,k3⟩:=hy;rw[iB,iC,Int.natAbs_mul,Int.natAbs_natCast,Int.natAbs_mul,Int.natAbs_natCast];exact⟨bgT (dN _ _) (by omega),bgT (dN _ _) (by omega)⟩
theorem zY{x e:Int}(hb:bits x.natAbs<=45000000)(he:-20000000<=e/\e<=20000000):SmD (mkDy x e):=by
 have hbm:=qC x e;by_cases hx:x=0
 . rw[hx,aT];exact⟨by show bits 0<=134217728;have:bits 0=0:=rfl;omega,by decide,by decide⟩
 . obtain⟨k,k1,k2,k3,k4⟩:=gZ x e hx
   exact⟨by omega,by omega,by omega⟩
theorem ahD(x y:Int):bits (x+y).natAbs<=bits x.natAbs+bits y.natAbs+1:=bgT (bZ (show(x+y).natAbs<=x.natAbs+y.natAbs by omega)) (sD _ _)
theorem tX{x y:Dy}(hx:SmQ x)(hy:SmQ y):SmD (addD x y):=by
 have ha:=zX hx hy;obtain⟨h1,h2,h3⟩:=hx;obtain⟨k1,k2,k3⟩:=hy;unfold addD;split
 . exact zY (by omega) (by omega)
 . split
   . exact zY (by omega) (by omega)
   . exact zY (bgT (ahD _ _) (by omega)) (by omega)
theorem tY{x y:Dy}(hx:SmQ x)(hy:SmQ y):SmD (mulD x y):=by
 obtain⟨h1,h2,h3⟩:=hx;obtain⟨k1,k2,k3⟩:=hy;unfold mulD;refine zY ?_ (by omega);rw[Int.natAbs_mul];exact bgT (r9 _ _) (by omega)
theorem tZ{x y:Dy}(hx:SmQ x)(hy:SmQ y)(hP:1<=P/\P<=65536)(h0:y.man≠0)(dir:Int):SmD (quoD x y P dir):=by
 obtain⟨k1,k2,k3⟩:=ab6 x y dir hP.1 h0;refine⟨by omega,?_⟩;by_cases hn:(quoD x y P dir).man=0
 . have:(quoD x y P dir).exp=0:=by
    have:mkDy (quoD x y P dir).man (quoD x y P dir).exp=quoD x y P dir:=k1;rw[hn,aT]at this;exact(congrArg Dy.exp this).symm
   rw[this];decide
 . have hx0:x.man≠0:=fun h=>hn (by unfold quoD;rw[if_pos h])
   obtain⟨j1,j2⟩:=k3 hn;have t1:topD x=bits x.man.natAbs+x.exp:=by unfold topD;rw[if_neg hx0]
   have t2:topD y=bits y.man.natAbs+y.exp:=by unfold topD;rw[if_neg h0]
   have t3:=lF hn;obtain⟨h1,h2,h3⟩:=hx;obtain⟨q1,q2,q3⟩:=hy;omega
theorem SmQ.smD {x:Dy}(h:SmQ x):SmD x:=⟨by have:=h.1;omega,by have:=h.2.1;omega,by have:=h.2.2;omega⟩
theorem SmQB.smB (h:SmQB x):SmB x:=⟨h.1.smD,h.2.smD⟩
theorem qJ{x:Dy}(hc:Canon x)(h:SmQ x):SmQ (notD x):=by
 have hk:Sz 400000 20000000 x:=⟨hc,by have:=h.1;omega,fun hn=>by
  have h1:=h.2;have t1:topD x=bits x.man.natAbs+x.exp:=by unfold topD;rw[if_neg hn]
  have:=h.1;omega⟩
 have hm:(notD x).man=-x.man/\(notD x).exp=x.exp:=by
  have hc':=hc;unfold Canon at hc';have h1:=ae6 x.man x.exp;rw[hc']at h1;by_cases h0:x.man=0
  . have:x.exp=0:=by rw[<-hc',h0,aT]
    unfold notD;rw[h0,this];exact⟨rfl,rfl⟩
  . unfold notD
    unfold mkDy at hc'|-;rw[if_neg h0]at hc';rw[if_neg (by omega)];have e1:(-x.man).natAbs=x.man.natAbs:=by omega
    rw[e1];have hc1:sg (decide (x.man<0)) (x.man.natAbs/2^ctz x.man.natAbs)=x.man:=congrArg Dy.man hc';have hc2:x.exp+ctz x.man.natAbs=x.exp:=congrArg Dy.exp hc';refine⟨?_,hc2⟩;have:decide (-x.man<0)= !decide (x.man<0):=by
     by_cases g:x.man<0
     . rw[decide_eq_true g,decide_eq_false (by omega)];rfl
     . rw[decide_eq_false g,decide_eq_true (by omega)];rfl
    rw[this]
    conv=>rhs;rw[<-hc1]
    cases decide (x.man<0)<;>simp[sg]
 exact⟨by rw[hm.1,show(-x.man).natAbs=x.man.natAbs from by omega];exact h.1,by rw[hm.2];exact h.2⟩
def SixB(v:Value):Prop:=∃a b c d e f,v=.agg #[a,b,c,d,e,f]
theorem BlP.six {v:Value}{d:Bl}(h:BlP p w v d):SixB v:=by
 obtain⟨b,A,n,c,b',A',n',c',e,-,-⟩:=h;exact⟨_,_,_,_,_,_,e⟩
def nX(n:Nd)(x y:Bl)(P:Int):Option Bl:=
 if n.kind=0 then some (atB (aX n.val))else if n.kind=1 then some (addB x y P)else if n.kind=2 then some (addB x (notB y) P)else if n.kind=3 then some (mulB x y P)else if n.kind=4 then quoB x y P else nW x P
def Okb(x:Bl):Prop:=SmQB x/\Canon x.lo/\Canon x.hi
theorem ahE{p q:Nat->Prop}{val:Nat}{x y:Bl}(s1:SixB va)(s2:SixB vb)(hv:val<18446744073709551616)(hf:fin val)(hsD:SmD (aX val))(hT:Tab w)(hP:1<=P/\P<=65536):
 Calls Tryz.prog 309 #[.agg #[.int .i64 0,.float .f64 val,.int .i64 na,.int .i64 nb],va,vb,.int .i64 P] w (fZ w.heap.size w (atB (aX val)) true):=by
 obtain⟨a0,a1,a2,a3,a4,a5,rfl⟩:=s1;obtain⟨z0,z1,z2,z3,z4,z5,rfl⟩:=s2;obtain⟨w4,hw4,hb4,hs4,b1,b2,b3,b4⟩:=pro4 w (.cells #[.int .i64 0,.float .f64 val,.int .i64 na,.int .i64 nb] 206) (.cells #[a0,a1,a2,a3,a4,a5] 235) (.cells #[z0,z1,z2,z3,z4,z5] 235) (.cells #[Value.bool false,Value.slice none 0 0,.int .i64 0,Value.bool false,Value.slice none 0 0,.int .i64 0] 235);have HB:=hdd hb4;have B2:=hdd b2;have B3:=hdd b3;have B4:=hdd b4;have HS:=hdd hs4;have HT:=hdd (hT.below hb4);have HTAB0:=hdd hT;obtain⟨k0,k1,k2,k3⟩:=bP b1;have FIN:Hid (∀(Z:Bl) (t:Bool) (w5:World),Below w4.heap.size w4 w5->∀(v:Value),BlP (fun b=>w4.heap.size<=b) w5 v Z->∃u0 u1 u2 u3 u4 u5,v=.agg #[u0,u1,u2,u3,u4,u5]/\(∃b1 A1 n1 c1 b2 A2 n2 c2,u0=.bool b1/\u1=.slice A1 n1 c1/\u2=.int .i64 Z.lo.exp/\u3=.bool b2/\u4=.slice A2 n2 c2/\u5=.int .i64 Z.hi.exp)/\
  fZ w.heap.size w Z t (.returned (.tuple #[.agg #[u0,u1,u2,u3,u4,u5],.bool t])) (put6 w5 (w.heap.size+3) u0 u1 u2 u3 u4 u5)/\(put6 w5 (w.heap.size+3) u0 u1 u2 u3 u4 u5).heap[w.heap.size+3]? =some (.cells #[u0,u1,u2,u3,u4,u5] 235 (0,0))):=hdd (by
  intro Z t w5 h5 v hv;obtain⟨b,A,n,c,b',A',n',c',rfl,g1,g2⟩:=hv;obtain⟨r1,r2⟩:=bK (x:=Z) (HB.out.trans (h5.mono HB.out.size)) (g:=w.heap.size+3) (by omega) (hbl B4.out h5) g1 g2 (fun b hb=>by have:=HS.out;omega);exact⟨_,_,_,_,_,_,rfl,⟨_,_,_,_,_,_,_,_,rfl,rfl,rfl,rfl,rfl,rfl⟩,fB r1.out,r2⟩)
 have HD:=hdd (sG hv hf HT.out);replace HD:Hid (Calls Tryz.prog 340 #[.float .f64 val] w4 (sF w4.heap.size w4 (aX val) true)):=HD;have HAT:Hid (∀(w':World) (v:Value),Below w4.heap.size w4 w'->DyP AnyB w' v (aX val)->Calls Tryz.prog 341 #[v] w' (mH w'.heap.size w' (atB (aX val)))):=hdd fun w' v h hv=>ak5 hv (HT.out.below h) hsD (nP _ _);clear hP hsD hb4 b1 b2 b3 b4 hs4 hT hv hf;go_enter Tryz.func309,Tryz.ntmps309
 go_wp2_with fail
 refine HD.out.mono ?_;rintro e w5⟨hb5,v5,rfl,hz⟩;obtain⟨b5,A5,n5,c5,rfl,hz⟩:=hz;obtain⟨w6,hw6,hb6,hs6,q1⟩:=pro1 w5 (.cells #[Value.bool false,Value.slice none 0 0,.int .i64 0] 233);obtain⟨e0,e1,e2,e3,e4,e5⟩:=cells3 q1;have S1:=set3 q1 (.bool b5) (.slice A5 n5 c5) (.int .i64 (aX val).exp);have g1:=hb6.setCell (p:=⟨w5.heap.size,0,none⟩) nlr (.bool b5);have g2:=g1.setCell (p:=⟨w5.heap.size,1,none⟩) nlr (.slice A5 n5 c5);have g3:=g2.setCell (p:=⟨w5.heap.size,2,none⟩) nlr (.int .i64 (aX val).exp);have F:=And.intro S1 g3;clear S1 g1 g2 g3 hb6 hs6 q1;generalize hW:((w6.setCell ⟨w5.heap.size,0,none⟩ (.bool b5)).setCell ⟨w5.heap.size,1,none⟩ (.slice A5 n5 c5)).setCell ⟨w5.heap.size,2,none⟩ (.int .i64 (aX val).exp)=w7 at F;obtain⟨S1,g3⟩:=F;obtain⟨x0,x1,x2,-,-,-⟩:=cells3 S1;have HBL:=hdd (HAT.out w7 _ (aA hb5 g3) ⟨b5,A5,n5,c5,rfl,((hz.any).below g3)⟩);have HB7:=hdd (aA hb5 g3);clear S1 g3 hb5 hz k0 k1 k2 k3 hw4;go_wp2_with fail
 refine HBL.out.mono ?_;rintro e w8⟨hb8,v8,rfl,hz⟩;have hb48:=aA HB7.out hb8;have B48:=hbl B4.out hb48;obtain⟨r0,r1,r2,r3,r4,r5⟩:=aG B48;obtain⟨t0,t1,t2,t3,t4,t5⟩:=fV B48;obtain⟨u0,u1,u2,u3,u4,u5,rfl,⟨_,_,_,_,_,_,_,_,rfl,rfl,rfl,rfl,rfl,rfl⟩,hR,hF⟩:=FIN.out (atB (aX val)) true w8 hb48 _ (hz.weak fun b h _=>bgT HB7.out.size h);have HR:=hdd hR;have hFF:=hdd hF;clear hb8 hz hb48 B48 hR hF;go_wp2;obtain⟨f0,f1,f2,f3,f4,f5⟩:=aG hFF.out;unfold put6 at f0 f1 f2 f3 f4 f5;refine bodyPost_ret (v:=.tuple #[.agg #[_,_,_,_,_,_],_]) (by simp[results,Tryz.results309,go_sem,f0,f1,f2,f3,f4,f5];first|exact⟨⟨rfl,rfl,rfl,rfl,rfl,rfl⟩,rfl⟩|rfl) rfl ?_;exact HR.out
theorem ahF{val:Nat}(s1:SixB va)(s2:SixB vb)(hx:BlP p w va x)(hy:BlP q w vb y)(ox:Okb x)(oy:Okb y)(hp:∀b,p b->b<w.heap.size)(hq:∀b,q b->b<w.heap.size)(hT:Tab w)(hP:1<=P/\P<=65536):
 Calls Tryz.prog 309 #[.agg #[.int .i64 1,.float .f64 val,.int .i64 na,.int .i64 nb],va,vb,.int .i64 P] w (fZ w.heap.size w (addB x y P) true):=by
 obtain⟨a0,a1,a2,a3,a4,a5,rfl⟩:=s1;obtain⟨z0,z1,z2,z3,z4,z5,rfl⟩:=s2;obtain⟨w4,hw4,hb4,hs4,b1,b2,b3,b4⟩:=pro4 w (.cells #[.int .i64 1,.float .f64 val,.int .i64 na,.int .i64 nb] 206) (.cells #[a0,a1,a2,a3,a4,a5] 235) (.cells #[z0,z1,z2,z3,z4,z5] 235) (.cells #[Value.bool false,Value.slice none 0 0,.int .i64 0,Value.bool false,Value.slice none 0 0,.int .i64 0] 235);have HB:=hdd hb4;have B2:=hdd b2;have B3:=hdd b3;have B4:=hdd b4;have HS:=hdd hs4;have HT:=hdd (hT.below hb4);have HTAB0:=hdd hT;obtain⟨k0,k1,k2,k3⟩:=bP b1;have FIN:Hid (∀(Z:Bl) (t:Bool) (w5:World),Below w4.heap.size w4 w5->∀(v:Value),BlP (fun b=>w4.heap.size<=b) w5 v Z->∃u0 u1 u2 u3 u4 u5,v=.agg #[u0,u1,u2,u3,u4,u5]/\(∃b1 A1 n1 c1 b2 A2 n2 c2,u0=.bool b1/\u1=.slice A1 n1 c1/\u2=.int .i64 Z.lo.exp/\u3=.bool b2/\u4=.slice A2 n2 c2/\u5=.int .i64 Z.hi.exp)/\
  fZ w.heap.size w Z t (.returned (.tuple #[.agg #[u0,u1,u2,u3,u4,u5],.bool t])) (put6 w5 (w.heap.size+3) u0 u1 u2 u3 u4 u5)/\(put6 w5 (w.heap.size+3) u0 u1 u2 u3 u4 u5).heap[w.heap.size+3]? =some (.cells #[u0,u1,u2,u3,u4,u5] 235 (0,0))):=hdd (by
  intro Z t w5 h5 v hv;obtain⟨b,A,n,c,b',A',n',c',rfl,g1,g2⟩:=hv;obtain⟨r1,r2⟩:=bK (x:=Z) (HB.out.trans (h5.mono HB.out.size)) (g:=w.heap.size+3) (by omega) (hbl B4.out h5) g1 g2 (fun b hb=>by have:=HS.out;omega);exact⟨_,_,_,_,_,_,rfl,⟨_,_,_,_,_,_,_,_,rfl,rfl,rfl,rfl,rfl,rfl⟩,fB r1.out,r2⟩)
 have hpw:∀b,p b->b<w4.heap.size:=fun b h=>by have:=hp b h;omega
 have hqw:∀b,q b->b<w4.heap.size:=fun b h=>by have:=hq b h;omega
 have HA:Hid (Calls Tryz.prog 343 #[.agg #[a0,a1,a2,a3,a4,a5],.agg #[z0,z1,z2,z3,z4,z5],.int .i64 P] w4 (mH w4.heap.size w4 (addB x y P))):=hdd (yK (w:=w4) (hx.below hb4) (hy.below hb4) hpw hqw HT.out ox.1.smB oy.1.smB (tX ox.1.1 oy.1.1) (tX ox.1.2 oy.1.2) hP);obtain⟨c0,c1,c2,c3,c4,c5⟩:=aG b2;obtain⟨d0,d1,d2,d3,d4,d5⟩:=aG b3;clear hx hy hp hq hpw hqw hP hb4 b1 b2 b3 b4 hs4 hT ox oy;go_enter Tryz.func309,Tryz.ntmps309
 go_wp2_with fail
 refine HA.out.mono ?_;rintro e w8⟨hb8,v8,rfl,hz⟩;have hb48:=hb8;have B48:=hbl B4.out hb48;clear c0 c1 c2 c3 c4 c5 d0 d1 d2 d3 d4 d5 k0 k1 k2 k3 hw4;obtain⟨r0,r1,r2,r3,r4,r5⟩:=aG B48;obtain⟨t0,t1,t2,t3,t4,t5⟩:=fV B48;obtain⟨u0,u1,u2,u3,u4,u5,rfl,⟨_,_,_,_,_,_,_,_,rfl,rfl,rfl,rfl,rfl,rfl⟩,hR,hF⟩:=FIN.out (addB x y P) true w8 hb48 _ hz;have HR:=hdd hR;have hFF:=hdd hF;clear hb8 hz hb48 B48 hR hF;go_wp2;obtain⟨f0,f1,f2,f3,f4,f5⟩:=aG hFF.out;unfold put6 at f0 f1 f2 f3 f4 f5;refine bodyPost_ret (v:=.tuple #[.agg #[_,_,_,_,_,_],_]) (by simp[results,Tryz.results309,go_sem,f0,f1,f2,f3,f4,f5];first|exact⟨⟨rfl,rfl,rfl,rfl,rfl,rfl⟩,rfl⟩|rfl) rfl ?_;exact HR.out
theorem ahG{val:Nat}(s1:SixB va)(s2:SixB vb)(hx:BlP p w va x)(hy:BlP q w vb y)(ox:Okb x)(oy:Okb y)(hp:∀b,p b->b<w.heap.size)(hq:∀b,q b->b<w.heap.size)(hT:Tab w)(hP:1<=P/\P<=65536):
 Calls Tryz.prog 309 #[.agg #[.int .i64 3,.float .f64 val,.int .i64 na,.int .i64 nb],va,vb,.int .i64 P] w (fZ w.heap.size w (mulB x y P) true):=by
 obtain⟨a0,a1,a2,a3,a4,a5,rfl⟩:=s1;obtain⟨z0,z1,z2,z3,z4,z5,rfl⟩:=s2;obtain⟨w4,hw4,hb4,hs4,b1,b2,b3,b4⟩:=pro4 w (.cells #[.int .i64 3,.float .f64 val,.int .i64 na,.int .i64 nb] 206) (.cells #[a0,a1,a2,a3,a4,a5] 235) (.cells #[z0,z1,z2,z3,z4,z5] 235) (.cells #[Value.bool false,Value.slice none 0 0,.int .i64 0,Value.bool false,Value.slice none 0 0,.int .i64 0] 235);have HB:=hdd hb4;have B2:=hdd b2;have B3:=hdd b3;have B4:=hdd b4;have HS:=hdd hs4;have HT:=hdd (hT.below hb4);have HTAB0:=hdd hT;obtain⟨k0,k1,k2,k3⟩:=bP b1;have FIN:Hid (∀(Z:Bl) (t:Bool) (w5:World),Below w4.heap.size w4 w5->∀(v:Value),BlP (fun b=>w4.heap.size<=b) w5 v Z->∃u0 u1 u2 u3 u4 u5,v=.agg #[u0,u1,u2,u3,u4,u5]/\(∃b1 A1 n1 c1 b2 A2 n2 c2,u0=.bool b1/\u1=.slice A1 n1 c1/\u2=.int .i64 Z.lo.exp/\u3=.bool b2/\u4=.slice A2 n2 c2/\u5=.int .i64 Z.hi.exp)/\
  fZ w.heap.size w Z t (.returned (.tuple #[.agg #[u0,u1,u2,u3,u4,u5],.bool t])) (put6 w5 (w.heap.size+3) u0 u1 u2 u3 u4 u5)/\(put6 w5 (w.heap.size+3) u0 u1 u2 u3 u4 u5).heap[w.heap.size+3]? =some (.cells #[u0,u1,u2,u3,u4,u5] 235 (0,0))):=hdd (by
  intro Z t w5 h5 v hv;obtain⟨b,A,n,c,b',A',n',c',rfl,g1,g2⟩:=hv;obtain⟨r1,r2⟩:=bK (x:=Z) (HB.out.trans (h5.mono HB.out.size)) (g:=w.heap.size+3) (by omega) (hbl B4.out h5) g1 g2 (fun b hb=>by have:=HS.out;omega);exact⟨_,_,_,_,_,_,rfl,⟨_,_,_,_,_,_,_,_,rfl,rfl,rfl,rfl,rfl,rfl⟩,fB r1.out,r2⟩)
 have hpw:∀b,p b->b<w4.heap.size:=fun b h=>by have:=hp b h;omega
 have hqw:∀b,q b->b<w4.heap.size:=fun b h=>by have:=hq b h;omega
 have HA:Hid (Calls Tryz.prog 344 #[.agg #[a0,a1,a2,a3,a4,a5],.agg #[z0,z1,z2,z3,z4,z5],.int .i64 P] w4 (mH w4.heap.size w4 (mulB x y P))):=hdd (ag9 (w:=w4) (hx.below hb4) (hy.below hb4) HT.out ox.1.smB oy.1.smB (tY ox.1.1 oy.1.1) (tY ox.1.1 oy.1.2) (tY ox.1.2 oy.1.1) (tY ox.1.2 oy.1.2) hP);obtain⟨c0,c1,c2,c3,c4,c5⟩:=aG b2;obtain⟨d0,d1,d2,d3,d4,d5⟩:=aG b3;clear hx hy hp hq hpw hqw hP hb4 b1 b2 b3 b4 hs4 hT ox oy;go_enter Tryz.func309,Tryz.ntmps309
 go_wp2_with fail
 refine HA.out.mono ?_;rintro e w8⟨hb8,v8,rfl,hz⟩;have hb48:=hb8;have B48:=hbl B4.out hb48;clear c0 c1 c2 c3 c4 c5 d0 d1 d2 d3 d4 d5 k0 k1 k2 k3 hw4;obtain⟨r0,r1,r2,r3,r4,r5⟩:=aG B48;obtain⟨t0,t1,t2,t3,t4,t5⟩:=fV B48;obtain⟨u0,u1,u2,u3,u4,u5,rfl,⟨_,_,_,_,_,_,_,_,rfl,rfl,rfl,rfl,rfl,rfl⟩,hR,hF⟩:=FIN.out (mulB x y P) true w8 hb48 _ hz;have HR:=hdd hR;have hFF:=hdd hF;clear hb8 hz hb48 B48 hR hF;go_wp2;obtain⟨f0,f1,f2,f3,f4,f5⟩:=aG hFF.out;unfold put6 at f0 f1 f2 f3 f4 f5;refine bodyPost_ret (v:=.tuple #[.agg #[_,_,_,_,_,_],_]) (by simp[results,Tryz.results309,go_sem,f0,f1,f2,f3,f4,f5];first|exact⟨⟨rfl,rfl,rfl,rfl,rfl,rfl⟩,rfl⟩|rfl) rfl ?_;exact HR.out
theorem ahH{val:Nat}(s1:SixB va)(s2:SixB vb)(hx:BlP p w va x)(hy:BlP q w vb y)(ox:Okb x)(oy:Okb y)(hp:∀b,p b->b<w.heap.size)(hq:∀b,q b->b<w.heap.size)(hT:Tab w)(hP:1<=P/\P<=65536):
 Calls Tryz.prog 309 #[.agg #[.int .i64 2,.float .f64 val,.int .i64 na,.int .i64 nb],va,vb,.int .i64 P] w (fZ w.heap.size w (addB x (notB y) P) true):=by
 obtain⟨a0,a1,a2,a3,a4,a5,rfl⟩:=s1;obtain⟨z0,z1,z2,z3,z4,z5,rfl⟩:=s2;obtain⟨w4,hw4,hb4,hs4,b1,b2,b3,b4⟩:=pro4 w (.cells #[.int .i64 2,.float .f64 val,.int .i64 na,.int .i64 nb] 206) (.cells #[a0,a1,a2,a3,a4,a5] 235) (.cells #[z0,z1,z2,z3,z4,z5] 235) (.cells #[Value.bool false,Value.slice none 0 0,.int .i64 0,Value.bool false,Value.slice none 0 0,.int .i64 0] 235);have HB:=hdd hb4;have B2:=hdd b2;have B3:=hdd b3;have B4:=hdd b4;have HS:=hdd hs4;have HT:=hdd (hT.below hb4);have HTAB0:=hdd hT;obtain⟨k0,k1,k2,k3⟩:=bP b1;have FIN:Hid (∀(Z:Bl) (t:Bool) (w5:World),Below w4.heap.size w4 w5->∀(v:Value),BlP (fun b=>w4.heap.size<=b) w5 v Z->∃u0 u1 u2 u3 u4 u5,v=.agg #[u0,u1,u2,u3,u4,u5]/\(∃b1 A1 n1 c1 b2 A2 n2 c2,u0=.bool b1/\u1=.slice A1 n1 c1/\u2=.int .i64 Z.lo.exp/\u3=.bool b2/\u4=.slice A2 n2 c2/\u5=.int .i64 Z.hi.exp)/\
  fZ w.heap.size w Z t (.returned (.tuple #[.agg #[u0,u1,u2,u3,u4,u5],.bool t])) (put6 w5 (w.heap.size+3) u0 u1 u2 u3 u4 u5)/\(put6 w5 (w.heap.size+3) u0 u1 u2 u3 u4 u5).heap[w.heap.size+3]? =some (.cells #[u0,u1,u2,u3,u4,u5] 235 (0,0))):=hdd (by
  intro Z t w5 h5 v hv;obtain⟨b,A,n,c,b',A',n',c',rfl,g1,g2⟩:=hv;obtain⟨r1,r2⟩:=bK (x:=Z) (HB.out.trans (h5.mono HB.out.size)) (g:=w.heap.size+3) (by omega) (hbl B4.out h5) g1 g2 (fun b hb=>by have:=HS.out;omega);exact⟨_,_,_,_,_,_,rfl,⟨_,_,_,_,_,_,_,_,rfl,rfl,rfl,rfl,rfl,rfl⟩,fB r1.out,r2⟩)
 have HN:Hid (Calls Tryz.prog 342 #[.agg #[z0,z1,z2,z3,z4,z5]] w4 (mH w4.heap.size w4 (notB y))):=hdd (ag7 (hy.below hb4) HT.out oy.1.smB);have HA:Hid (∀(w':World) (v:Value),BlP p w' (.agg #[a0,a1,a2,a3,a4,a5]) x->BlP (fun b=>b<w'.heap.size) w' v (notB y)->Tab w'->w4.heap.size<=w'.heap.size->Calls Tryz.prog 343 #[.agg #[a0,a1,a2,a3,a4,a5],v,.int .i64 P] w' (mH w'.heap.size w' (addB x (notB y) P))):=hdd fun w' v h1 h2 h3 h4=>
  yK (P:=P) h1 h2 (fun b hb=>by have:=hp b hb;omega) (fun b hb=>hb) h3 ox.1.smB ⟨(qJ oy.2.2 oy.1.2).smD,(qJ oy.2.1 oy.1.1).smD⟩ (tX ox.1.1 (qJ oy.2.2 oy.1.2)) (tX ox.1.2 (qJ oy.2.1 oy.1.1)) hP
 have HXp:=hdd (hx.below hb4);have HPW:=hdd hp;obtain⟨c0,c1,c2,c3,c4,c5⟩:=aG b2;obtain⟨d0,d1,d2,d3,d4,d5⟩:=aG b3;obtain⟨dd0,dd1,dd2,dd3,dd4,dd5⟩:=fV b3;clear hx hy hp hq hP hb4 b1 b2 b3 b4 hs4 hT ox oy;go_enter Tryz.func309,Tryz.ntmps309
 go_wp2_with fail
 refine HN.out.mono ?_;rintro e w5⟨hb5,v5,rfl,hz⟩;obtain⟨b5,A5,n5,m5,b6,A6,n6,m6,rfl,hz1,hz2⟩:=hz;have B35:=hbl B3.out hb5;have B25:=hbl B2.out hb5;have B45:=hbl B4.out hb5;obtain⟨e0,e1,e2,e3,e4,e5⟩:=aG B35;obtain⟨g0,g1,g2,g3,g4,g5⟩:=fV B35;clear c0 c1 c2 c3 c4 c5 d0 d1 d2 d3 d4 d5 dd0 dd1 dd2 dd3 dd4 dd5 k0 k1 k2 k3 hw4;have hS:=HS.out;have F:(put6 w5 (w.heap.size+2) (.bool b5) (.slice A5 n5 m5) (.int .i64 (notB y).lo.exp) (.bool b6) (.slice A6 n6 m6) (.int .i64 (notB y).hi.exp)).heap[w.heap.size+1]? =some (.cells #[a0,a1,a2,a3,a4,a5] 235 (0,0))/\
  (put6 w5 (w.heap.size+2) (.bool b5) (.slice A5 n5 m5) (.int .i64 (notB y).lo.exp) (.bool b6) (.slice A6 n6 m6) (.int .i64 (notB y).hi.exp)).heap[w.heap.size+2]? =some (.cells #[.bool b5,.slice A5 n5 m5,.int .i64 (notB y).lo.exp,.bool b6,.slice A6 n6 m6,.int .i64 (notB y).hi.exp] 235 (0,0))/\
  (put6 w5 (w.heap.size+2) (.bool b5) (.slice A5 n5 m5) (.int .i64 (notB y).lo.exp) (.bool b6) (.slice A6 n6 m6) (.int .i64 (notB y).hi.exp)).heap[w.heap.size+3]? =some (.cells #[Value.bool false,Value.slice none 0 0,.int .i64 0,Value.bool false,Value.slice none 0 0,.int .i64 0] 235 (0,0))/\
  Below w.heap.size w (put6 w5 (w.heap.size+2) (.bool b5) (.slice A5 n5 m5) (.int .i64 (notB y).lo.exp) (.bool b6) (.slice A6 n6 m6) (.int .i64 (notB y).hi.exp))/\
  BlP p (put6 w5 (w.heap.size+2) (.bool b5) (.slice A5 n5 m5) (.int .i64 (notB y).lo.exp) (.bool b6) (.slice A6 n6 m6) (.int .i64 (notB y).hi.exp)) (.agg #[a0,a1,a2,a3,a4,a5]) x/\
  BlP (fun b=>w4.heap.size<=b) (put6 w5 (w.heap.size+2) (.bool b5) (.slice A5 n5 m5) (.int .i64 (notB y).lo.exp) (.bool b6) (.slice A6 n6 m6) (.int .i64 (notB y).hi.exp)) (.agg #[.bool b5,.slice A5 n5 m5,.int .i64 (notB y).lo.exp,.bool b6,.slice A6 n6 m6,.int .i64 (notB y).hi.exp]) (notB y)/\
  w4.heap.size<=(put6 w5 (w.heap.size+2) (.bool b5) (.slice A5 n5 m5) (.int .i64 (notB y).lo.exp) (.bool b6) (.slice A6 n6 m6) (.int .i64 (notB y).hi.exp)).heap.size:=by
  refine⟨(vV (by omega) _ _ _ _ _ _).trans B25,iD B35 _ _ _ _ _ _,(vV (by omega) _ _ _ _ _ _).trans B45,eZ (HB.out.trans (hb5.mono HB.out.size)) (by omega) _ _ _ _ _ _,?_,?_,?_⟩
  . obtain⟨j1,j2,j3,j4,j5,j6,j7,j8,je,h1,h2⟩:=HXp.out.below hb5
    exact⟨j1,j2,j3,j4,j5,j6,j7,j8,je,iN h1 (fun b hb=>by have:=HPW.out b hb;omega) _ _ _ _ _ _,iN h2 (fun b hb=>by have:=HPW.out b hb;omega) _ _ _ _ _ _⟩
  . exact⟨_,_,_,_,_,_,_,_,rfl,iN hz1 (fun b hb=>by omega) _ _ _ _ _ _,iN hz2 (fun b hb=>by omega) _ _ _ _ _ _⟩
  . have:=(eZ (g:=w.heap.size+2) (HB.out.trans (hb5.mono HB.out.size)) (by omega) (.bool b5) (.slice A5 n5 m5) (.int .i64 (notB y).lo.exp) (.bool b6) (.slice A6 n6 m6) (.int .i64 (notB y).hi.exp)).size
    have e1:(put6 w5 (w.heap.size+2) (.bool b5) (.slice A5 n5 m5) (.int .i64 (notB y).lo.exp) (.bool b6) (.slice A6 n6 m6) (.int .i64 (notB y).hi.exp)).heap.size=w5.heap.size:=by simp[put6,World.setCell]
    rw[e1];exact hb5.size
 have HTT:=HTAB0.out;clear B25 B35 B45 hz1 hz2 hb5;unfold put6 at F;generalize hW:(((((w5.setCell ⟨w.heap.size+2,0,none⟩ (.bool b5)).setCell ⟨w.heap.size+2,1,none⟩ (.slice A5 n5 m5)).setCell ⟨w.heap.size+2,2,none⟩ (.int .i64 (notB y).lo.exp)).setCell ⟨w.heap.size+2,3,none⟩ (.bool b6)).setCell ⟨w.heap.size+2,4,none⟩ (.slice A6 n6 m6)).setCell ⟨w.heap.size+2,5,none⟩ (.int .i64 (notB y).hi.exp)=w7 at F;obtain⟨F1,F2,F3,F4,F5,F6,F7⟩:=F;obtain⟨c0,c1,c2,c3,c4,c5⟩:=aG F1;obtain⟨d0,d1,d2,d3,d4,d5⟩:=aG F2;have HA7:=hdd (HA.out w7 _ F5 (F6.weak fun b _ h=>h) (HTT.below F4) F7);have HF3:=hdd F3;have HF4:=hdd F4;have HF7:=hdd F7;clear F1 F2 F3 F4 F5 F6 F7 HTT;go_wp2_with fail
 refine HA7.out.mono ?_;rintro e w8⟨hb8,v8,rfl,hz⟩;have B48:=hbl HF3.out hb8;obtain⟨b,A,n,c,b',A',n',c',rfl,y1,y2⟩:=hz;obtain⟨r1,r2⟩:=bK (x:=addB x (notB y) P) (HF4.out.trans (hb8.mono HF4.out.size)) (g:=w.heap.size+3) (by omega) B48 y1 y2 (fun b hb=>by have:=HF7.out;omega);obtain⟨q0,q1,q2,q3,q4,q5⟩:=aG B48;obtain⟨t0,t1,t2,t3,t4,t5⟩:=fV B48;have HR:=hdd (fB (t:=true) r1.out);have hFF:=hdd r2;clear hb8 B48 r1 r2 y1 y2 c0 c1 c2 c3 c4 c5 d0 d1 d2 d3 d4 d5 hS;go_wp2;obtain⟨f0,f1,f2,f3,f4,f5⟩:=aG hFF.out;unfold put6 at f0 f1 f2 f3 f4 f5;refine bodyPost_ret (v:=.tuple #[.agg #[_,_,_,_,_,_],_]) (by simp[results,Tryz.results309,go_sem,f0,f1,f2,f3,f4,f5];first|exact⟨⟨rfl,rfl,rfl,rfl,rfl,rfl⟩,rfl⟩|rfl) rfl ?_;exact HR.out
def afF(w:World)(o:Option Bl)(e:Ending)(w':World):Prop:=match o with
 |some b=>fZ w.heap.size w b true e w'
 |none=>Below w.heap.size w w'/\∃(b1:Bool) (A1:Option Addr) (n1 c1:Nat) (e1:Int) (b2:Bool) (A2:Option Addr) (n2 c2:Nat) (e2:Int),e=.returned (.tuple #[.agg #[.bool b1,.slice A1 n1 c1,.int .i64 e1,.bool b2,.slice A2 n2 c2,.int .i64 e2],.bool false])
theorem ahI{val:Nat}(s1:SixB va)(s2:SixB vb)(hx:BlP p w va x)(hy:BlP q w vb y)(ox:Okb x)(oy:Okb y)(hs:y.lo.man.sign=y.hi.man.sign/\y.lo.man.sign≠0)(hT:Tab w)(hP:1<=P/\P<=65536):
 Calls Tryz.prog 309 #[.agg #[.int .i64 4,.float .f64 val,.int .i64 na,.int .i64 nb],va,vb,.int .i64 P] w (fZ w.heap.size w ⟨jU x y P,jV x y P⟩ true):=by
 obtain⟨a0,a1,a2,a3,a4,a5,rfl⟩:=s1;obtain⟨z0,z1,z2,z3,z4,z5,rfl⟩:=s2;obtain⟨w4,hw4,hb4,hs4,b1,b2,b3,b4⟩:=pro4 w (.cells #[.int .i64 4,.float .f64 val,.int .i64 na,.int .i64 nb] 206) (.cells #[a0,a1,a2,a3,a4,a5] 235) (.cells #[z0,z1,z2,z3,z4,z5] 235) (.cells #[Value.bool false,Value.slice none 0 0,.int .i64 0,Value.bool false,Value.slice none 0 0,.int .i64 0] 235);have HB:=hdd hb4;have B2:=hdd b2;have B3:=hdd b3;have B4:=hdd b4;have HS:=hdd hs4;have HT:=hdd (hT.below hb4);have HTAB0:=hdd hT;obtain⟨k0,k1,k2,k3⟩:=bP b1;have FIN:Hid (∀(Z:Bl) (t:Bool) (w5:World),Below w4.heap.size w4 w5->∀(v:Value),BlP (fun b=>w4.heap.size<=b) w5 v Z->∃u0 u1 u2 u3 u4 u5,v=.agg #[u0,u1,u2,u3,u4,u5]/\(∃b1 A1 n1 c1 b2 A2 n2 c2,u0=.bool b1/\u1=.slice A1 n1 c1/\u2=.int .i64 Z.lo.exp/\u3=.bool b2/\u4=.slice A2 n2 c2/\u5=.int .i64 Z.hi.exp)/\
  fZ w.heap.size w Z t (.returned (.tuple #[.agg #[u0,u1,u2,u3,u4,u5],.bool t])) (put6 w5 (w.heap.size+3) u0 u1 u2 u3 u4 u5)/\(put6 w5 (w.heap.size+3) u0 u1 u2 u3 u4 u5).heap[w.heap.size+3]? =some (.cells #[u0,u1,u2,u3,u4,u5] 235 (0,0))):=hdd (by
  intro Z t w5 h5 v hv;obtain⟨b,A,n,c,b',A',n',c',rfl,g1,g2⟩:=hv;obtain⟨r1,r2⟩:=bK (x:=Z) (HB.out.trans (h5.mono HB.out.size)) (g:=w.heap.size+3) (by omega) (hbl B4.out h5) g1 g2 (fun b hb=>by have:=HS.out;omega);exact⟨_,_,_,_,_,_,rfl,⟨_,_,_,_,_,_,_,_,rfl,rfl,rfl,rfl,rfl,rfl⟩,fB r1.out,r2⟩)
 have n1:y.lo.man≠0:=fun h=>hs.2 (by rw[h];rfl);have n2:y.hi.man≠0:=fun h=>hs.2 (by rw[hs.1,h];rfl);have HA:Hid (Calls Tryz.prog 345 #[.agg #[a0,a1,a2,a3,a4,a5],.agg #[z0,z1,z2,z3,z4,z5],.int .i64 P] w4 (fZ w4.heap.size w4 ⟨jU x y P,jV x y P⟩ true)):=hdd (ahB (w:=w4) (hx.below hb4) (hy.below hb4) HT.out ox.1 oy.1 hP hs (fun dir=>⟨tZ ox.1.1 oy.1.1 hP n1 dir,tZ ox.1.1 oy.1.2 hP n2 dir,tZ ox.1.2 oy.1.1 hP n1 dir,tZ ox.1.2 oy.1.2 hP n2 dir⟩));obtain⟨c0,c1,c2,c3,c4,c5⟩:=aG b2;obtain⟨d0,d1,d2,d3,d4,d5⟩:=aG b3;clear hx hy hP hb4 b1 b2 b3 b4 hs4 hT ox oy hs n1 n2;go_enter Tryz.func309,Tryz.ntmps309
 go_wp2_with fail
 refine HA.out.mono ?_;rintro e w8⟨hb8,v8,rfl,hz⟩;have hb48:=hb8;have B48:=hbl B4.out hb48;clear c0 c1 c2 c3 c4 c5 d0 d1 d2 d3 d4 d5 k0 k1 k2 k3 hw4;obtain⟨r0,r1,r2,r3,r4,r5⟩:=aG B48;obtain⟨t0,t1,t2,t3,t4,t5⟩:=fV B48;obtain⟨u0,u1,u2,u3,u4,u5,rfl,⟨_,_,_,_,_,_,_,_,rfl,rfl,rfl,rfl,rfl,rfl⟩,hR,hF⟩:=FIN.out ⟨jU x y P,jV x y P⟩ true w8 hb48 _ hz;have HR:=hdd hR;have hFF:=hdd hF;clear hb8 hz hb48 B48 hR hF;go_wp2;obtain⟨f0,f1,f2,f3,f4,f5⟩:=aG hFF.out;unfold put6 at f0 f1 f2 f3 f4 f5;refine bodyPost_ret (v:=.tuple #[.agg #[_,_,_,_,_,_],_]) (by simp[results,Tryz.results309,go_sem,f0,f1,f2,f3,f4,f5];first|exact⟨⟨rfl,rfl,rfl,rfl,rfl,rfl⟩,rfl⟩|rfl) rfl ?_;exact HR.out
theorem acC{val:Nat}(s1:SixB va)(s2:SixB vb)(hx:BlP p w va x)(hy:BlP q w vb y)(hs:¬(y.lo.man.sign=y.hi.man.sign/\y.lo.man.sign≠0))(hT:Tab w)(hP:1<=P/\P<=65536):
 Calls Tryz.prog 309 #[.agg #[.int .i64 4,.float .f64 val,.int .i64 na,.int .i64 nb],va,vb,.int .i64 P] w (afF w none):=by
 obtain⟨a0,a1,a2,a3,a4,a5,rfl⟩:=s1;obtain⟨z0,z1,z2,z3,z4,z5,rfl⟩:=s2;obtain⟨w4,hw4,hb4,hs4,b1,b2,b3,b4⟩:=pro4 w (.cells #[.int .i64 4,.float .f64 val,.int .i64 na,.int .i64 nb] 206) (.cells #[a0,a1,a2,a3,a4,a5] 235) (.cells #[z0,z1,z2,z3,z4,z5] 235) (.cells #[Value.bool false,Value.slice none 0 0,.int .i64 0,Value.bool false,Value.slice none 0 0,.int .i64 0] 235);have HB:=hdd hb4;have B2:=hdd b2;have B3:=hdd b3;have B4:=hdd b4;have HS:=hdd hs4;have HT:=hdd (hT.below hb4);have HTAB0:=hdd hT;obtain⟨k0,k1,k2,k3⟩:=bP b1;have FIN:Hid (∀(Z:Bl) (t:Bool) (w5:World),Below w4.heap.size w4 w5->∀(v:Value),BlP (fun b=>w4.heap.size<=b) w5 v Z->∃u0 u1 u2 u3 u4 u5,v=.agg #[u0,u1,u2,u3,u4,u5]/\(∃b1 A1 n1 c1 b2 A2 n2 c2,u0=.bool b1/\u1=.slice A1 n1 c1/\u2=.int .i64 Z.lo.exp/\u3=.bool b2/\u4=.slice A2 n2 c2/\u5=.int .i64 Z.hi.exp)/\
  fZ w.heap.size w Z t (.returned (.tuple #[.agg #[u0,u1,u2,u3,u4,u5],.bool t])) (put6 w5 (w.heap.size+3) u0 u1 u2 u3 u4 u5)/\(put6 w5 (w.heap.size+3) u0 u1 u2 u3 u4 u5).heap[w.heap.size+3]? =some (.cells #[u0,u1,u2,u3,u4,u5] 235 (0,0))):=hdd (by
  intro Z t w5 h5 v hv;obtain⟨b,A,n,c,b',A',n',c',rfl,g1,g2⟩:=hv;obtain⟨r1,r2⟩:=bK (x:=Z) (HB.out.trans (h5.mono HB.out.size)) (g:=w.heap.size+3) (by omega) (hbl B4.out h5) g1 g2 (fun b hb=>by have:=HS.out;omega);exact⟨_,_,_,_,_,_,rfl,⟨_,_,_,_,_,_,_,_,rfl,rfl,rfl,rfl,rfl,rfl⟩,fB r1.out,r2⟩)
 have HA:Hid (Calls Tryz.prog 345 #[.agg #[a0,a1,a2,a3,a4,a5],.agg #[z0,z1,z2,z3,z4,z5],.int .i64 P] w4 (anY w4.heap.size w4)):=hdd (ak6 (w:=w4) (hx.below hb4) (hy.below hb4) hs);obtain⟨c0,c1,c2,c3,c4,c5⟩:=aG b2;obtain⟨d0,d1,d2,d3,d4,d5⟩:=aG b3;clear hx hy hP hb4 b1 b2 b3 b4 hs4 hT hs;go_enter Tryz.func309,Tryz.ntmps309
 go_wp2_with fail
 refine HA.out.mono ?_;rintro e w8⟨hb8,b5,A5,n5,c5',e5,b6,A6,n6,c6',e6,rfl⟩;have B48:=hbl B4.out hb8;clear c0 c1 c2 c3 c4 c5 d0 d1 d2 d3 d4 d5 k0 k1 k2 k3 hw4;obtain⟨r0,r1,r2,r3,r4,r5⟩:=aG B48;obtain⟨t0,t1,t2,t3,t4,t5⟩:=fV B48;have HR:Hid (afF w none (.returned (.tuple #[.agg #[.bool b5,.slice A5 n5 c5',.int .i64 e5,.bool b6,.slice A6 n6 c6',.int .i64 e6],.bool false])) (put6 w8 (w.heap.size+3) (.bool b5) (.slice A5 n5 c5') (.int .i64 e5) (.bool b6) (.slice A6 n6 c6') (.int .i64 e6))):=hdd ⟨eZ (HB.out.trans (hb8.mono HB.out.size)) (by omega) _ _ _ _ _ _,_,_,_,_,_,_,_,_,_,_,rfl⟩;have hFF:=hdd (iD B48 (.bool b5) (.slice A5 n5 c5') (.int .i64 e5) (.bool b6) (.slice A6 n6 c6') (.int .i64 e6));clear hb8 B48;go_wp2;obtain⟨f0,f1,f2,f3,f4,f5⟩:=aG hFF.out;unfold put6 at f0 f1 f2 f3 f4 f5;refine bodyPost_ret (v:=.tuple #[.agg #[_,_,_,_,_,_],_]) (by simp[results,Tryz.results309,go_sem,f0,f1,f2,f3,f4,f5];first|exact⟨⟨rfl,rfl,rfl,rfl,rfl,rfl⟩,rfl⟩|rfl) rfl ?_;exact HR.out
theorem ahJ{q:Nat->Prop}{val:Nat}{y:Bl}(s1:SixB va)(s2:SixB vb)(hx:BlP p w va x)(ox:Okb x)(h0:0<=x.hi.man)(hT:Tab w)(hP:1<=P/\P<=65536):
 Calls Tryz.prog 309 #[.agg #[.int .i64 5,.float .f64 val,.int .i64 na,.int .i64 nb],va,vb,.int .i64 P] w (fZ w.heap.size w ⟨aL (aS x) P (-1),aL x.hi P 1⟩ true):=by
 obtain⟨a0,a1,a2,a3,a4,a5,rfl⟩:=s1;obtain⟨z0,z1,z2,z3,z4,z5,rfl⟩:=s2;obtain⟨w4,hw4,hb4,hs4,b1,b2,b3,b4⟩:=pro4 w (.cells #[.int .i64 5,.float .f64 val,.int .i64 na,.int .i64 nb] 206) (.cells #[a0,a1,a2,a3,a4,a5] 235) (.cells #[z0,z1,z2,z3,z4,z5] 235) (.cells #[Value.bool false,Value.slice none 0 0,.int .i64 0,Value.bool false,Value.slice none 0 0,.int .i64 0] 235);have HB:=hdd hb4;have B2:=hdd b2;have B3:=hdd b3;have B4:=hdd b4;have HS:=hdd hs4;have HT:=hdd (hT.below hb4);have HTAB0:=hdd hT;obtain⟨k0,k1,k2,k3⟩:=bP b1;have FIN:Hid (∀(Z:Bl) (t:Bool) (w5:World),Below w4.heap.size w4 w5->∀(v:Value),BlP (fun b=>w4.heap.size<=b) w5 v Z->∃u0 u1 u2 u3 u4 u5,v=.agg #[u0,u1,u2,u3,u4,u5]/\(∃b1 A1 n1 c1 b2 A2 n2 c2,u0=.bool b1/\u1=.slice A1 n1 c1/\u2=.int .i64 Z.lo.exp/\u3=.bool b2/\u4=.slice A2 n2 c2/\u5=.int .i64 Z.hi.exp)/\
  fZ w.heap.size w Z t (.returned (.tuple #[.agg #[u0,u1,u2,u3,u4,u5],.bool t])) (put6 w5 (w.heap.size+3) u0 u1 u2 u3 u4 u5)/\(put6 w5 (w.heap.size+3) u0 u1 u2 u3 u4 u5).heap[w.heap.size+3]? =some (.cells #[u0,u1,u2,u3,u4,u5] 235 (0,0))):=hdd (by
  intro Z t w5 h5 v hv;obtain⟨b,A,n,c,b',A',n',c',rfl,g1,g2⟩:=hv;obtain⟨r1,r2⟩:=bK (x:=Z) (HB.out.trans (h5.mono HB.out.size)) (g:=w.heap.size+3) (by omega) (hbl B4.out h5) g1 g2 (fun b hb=>by have:=HS.out;omega);exact⟨_,_,_,_,_,_,rfl,⟨_,_,_,_,_,_,_,_,rfl,rfl,rfl,rfl,rfl,rfl⟩,fB r1.out,r2⟩)
 have HA:Hid (Calls Tryz.prog 346 #[.agg #[a0,a1,a2,a3,a4,a5],.int .i64 P] w4 (fZ w4.heap.size w4 ⟨aL (aS x) P (-1),aL x.hi P 1⟩ true)):=hdd (ad1 (w:=w4) (hx.below hb4) HT.out ox.1 hP h0);obtain⟨c0,c1,c2,c3,c4,c5⟩:=aG b2;clear hx hP hb4 b1 b2 b3 b4 hs4 hT ox h0;go_enter Tryz.func309,Tryz.ntmps309
 go_wp2_with fail
 refine HA.out.mono ?_;rintro e w8⟨hb8,v8,rfl,hz⟩;have hb48:=hb8;have B48:=hbl B4.out hb48;clear c0 c1 c2 c3 c4 c5 k0 k1 k2 k3 hw4;obtain⟨r0,r1,r2,r3,r4,r5⟩:=aG B48;obtain⟨t0,t1,t2,t3,t4,t5⟩:=fV B48;obtain⟨u0,u1,u2,u3,u4,u5,rfl,⟨_,_,_,_,_,_,_,_,rfl,rfl,rfl,rfl,rfl,rfl⟩,hR,hF⟩:=FIN.out ⟨aL (aS x) P (-1),aL x.hi P 1⟩ true w8 hb48 _ hz;have HR:=hdd hR;have hFF:=hdd hF;clear hb8 hz hb48 B48 hR hF;go_wp2;obtain⟨f0,f1,f2,f3,f4,f5⟩:=aG hFF.out;unfold put6 at f0 f1 f2 f3 f4 f5;refine bodyPost_ret (v:=.tuple #[.agg #[_,_,_,_,_,_],_]) (by simp[results,Tryz.results309,go_sem,f0,f1,f2,f3,f4,f5];first|exact⟨⟨rfl,rfl,rfl,rfl,rfl,rfl⟩,rfl⟩|rfl) rfl ?_;exact HR.out
theorem ahK{n:Nd}(s1:SixB va)(s2:SixB vb)(hk:n.kind=0\/n.kind=1\/n.kind=2\/n.kind=3\/n.kind=4\/n.kind=5)
 (h0:n.kind=0->n.val<18446744073709551616/\fin n.val/\SmD (aX n.val)) (hx:n.kind≠0->BlP p w va x/\Okb x) (hy:n.kind≠0->n.kind≠5->BlP q w vb y/\Okb y) (hp:∀b,p b->b<w.heap.size) (hq:∀b,q b->b<w.heap.size)
 (h5:n.kind=5->0<=x.hi.man) (hT:Tab w) (hP:1<=P/\P<=65536):
 Calls Tryz.prog 309 #[iL n,va,vb,.int .i64 P] w (afF w (nX n x y P)):=by
 obtain⟨kind,val,na,nb⟩:=n;simp only at hk h0 hx hy h5;unfold iL nX;rcases hk with rfl|rfl|rfl|rfl|rfl|rfl
 . obtain⟨g1,g2,g3⟩:=h0 rfl
   exact ahE (p:=p) (q:=q) (x:=x) (y:=y) s1 s2 g1 g2 g3 hT hP
 . exact ahF s1 s2 (hx (by decide)).1 (hy (by decide) (by decide)).1 (hx (by decide)).2 (hy (by decide) (by decide)).2 hp hq hT hP
 . exact ahH s1 s2 (hx (by decide)).1 (hy (by decide) (by decide)).1 (hx (by decide)).2 (hy (by decide) (by decide)).2 hp hq hT hP
 . exact ahG s1 s2 (hx (by decide)).1 (hy (by decide) (by decide)).1 (hx (by decide)).2 (hy (by decide) (by decide)).2 hp hq hT hP
 . have hX:=hx (by decide)
   have hY:=hy (by decide) (by decide);by_cases hs:y.lo.man.sign=y.hi.man.sign/\y.lo.man.sign≠0
   . have e:quoB x y P=some ⟨jU x y P,jV x y P⟩:=by unfold quoB;rw[if_pos hs]
     simp only[show¬((4:Int)=0) from by decide,show¬((4:Int)=1) from by decide,show¬((4:Int)=2) from by decide,show¬((4:Int)=3) from by decide,if_false,if_true,e];exact ahI s1 s2 hX.1 hY.1 hX.2 hY.2 hs hT hP
   . have e:quoB x y P=none:=by unfold quoB;rw[if_neg hs]
     simp only[show¬((4:Int)=0) from by decide,show¬((4:Int)=1) from by decide,show¬((4:Int)=2) from by decide,show¬((4:Int)=3) from by decide,if_false,if_true,e];exact acC s1 s2 hX.1 hY.1 hs hT hP
 . have hX:=hx (by decide)
   have e:nW x P=some ⟨aL (aS x) P (-1),aL x.hi P 1⟩:=by unfold nW;rw[if_neg (by have:=h5 rfl;omega)]
   simp only[show¬((5:Int)=0) from by decide,show¬((5:Int)=1) from by decide,show¬((5:Int)=2) from by decide,show¬((5:Int)=3) from by decide,show¬((5:Int)=4) from by decide,if_false,e];exact ahJ (q:=q) (y:=y) s1 s2 hX.1 hX.2 (h5 rfl) hT hP
end
end Go.Proofs.YtigoiiekebccnaaGreatDoor
