/- A part of the proof: contracts of functions and plain laws (Ex, TrA, NrA, FlrB). -/
import Derived.Test.YtkadpnljocflaaaGreatDoorK12
import Derived.Test.YtkadpnljocflaaaGreatDoorK19
import Derived.Test.YtkadpnljocflaaaGreatDoorK10
import Derived.Test.YtkadpnljocflaaaGreatDoorK17
import Derived.Test.YtkadpnljocflaaaGreatDoorK14
set_option linter.unusedVariables false
set_option linter.unusedSimpArgs false
set_option linter.unnecessarySimpa false
set_option maxHeartbeats 25600000
set_option maxRecDepth 100000
namespace Go.Proofs.YtkadpnljocflaaaGreatDoor
section
open List renaming getElem?_eq_some_iff->av2,getElem?_append_left->av3,prefix_rfl->av4
variable{ns ns':List Nd}{i j k:Nat}{n:Nd}
inductive Ex where
 |leaf (v:Nat)
 |add (a b:Ex)
 |sub (a b:Ex)
 |mul (a b:Ex)
 |div (a b:Ex)
 |root (a:Ex)
def Is(ns:List Nd):Ex->Nat->Prop
 | .leaf v,k=>ns[k]? =some ⟨0,v,0,0⟩
 | .add a b,k=>∃i j:Nat,ns[k]? =some ⟨1,0,i,j⟩/\i<k/\j<k/\Is ns a i/\Is ns b j
 | .sub a b,k=>∃i j:Nat,ns[k]? =some ⟨2,0,i,j⟩/\i<k/\j<k/\Is ns a i/\Is ns b j
 | .mul a b,k=>∃i j:Nat,ns[k]? =some ⟨3,0,i,j⟩/\i<k/\j<k/\Is ns a i/\Is ns b j
 | .div a b,k=>∃i j:Nat,ns[k]? =some ⟨4,0,i,j⟩/\i<k/\j<k/\Is ns a i/\Is ns b j
 | .root a,k=>∃i:Nat,ns[k]? =some ⟨5,0,i,0⟩/\i<k/\Is ns a i
theorem Is.lt {e:Ex}(h:Is ns e k):k<ns.length:=by
 cases e<;>simp only[Is]at h
 . exact(av2.1 h).1
 all_goals first
  |(obtain⟨i,j,h,-⟩:=h;exact(av2.1 h).1)
  |(obtain⟨i,h,-⟩:=h;exact(av2.1 h).1)
theorem iR(hp:ns<+:ns')(h:ns[k]? =some n):ns'[k]? =some n:=by
 obtain⟨l,rfl⟩:=hp;rw[av3 (av2.1 h).1];exact h
theorem Is.mono (hp:ns<+:ns'):∀{e:Ex} {k:Nat},Is ns e k->Is ns' e k:=by
 intro e
 induction e with
 |leaf v=>intro k h;exact iR hp h
 |add a b iha ihb=>intro k h;obtain⟨i,j,h1,h2,h3,h4,h5⟩:=h;exact⟨i,j,iR hp h1,h2,h3,iha h4,ihb h5⟩
 |sub a b iha ihb=>intro k h;obtain⟨i,j,h1,h2,h3,h4,h5⟩:=h;exact⟨i,j,iR hp h1,h2,h3,iha h4,ihb h5⟩
 |mul a b iha ihb=>intro k h;obtain⟨i,j,h1,h2,h3,h4,h5⟩:=h;exact⟨i,j,iR hp h1,h2,h3,iha h4,ihb h5⟩
 |div a b iha ihb=>intro k h;obtain⟨i,j,h1,h2,h3,h4,h5⟩:=h;exact⟨i,j,iR hp h1,h2,h3,iha h4,ihb h5⟩
 |root a iha=>intro k h;obtain⟨i,h1,h2,h3⟩:=h;exact⟨i,iR hp h1,h2,iha h3⟩
def AllIs(P:Ex->Prop)(ns:List Nd):Prop:=∀k,k<ns.length->∃e,Is ns e k/\P e
def opE(kind:Int)(a b:Ex):Ex:=if kind=1 then .add a b else if kind=2 then .sub a b else if kind=3 then .mul a b else .div a b
def tJ(kind:Int):Prop:=kind=1\/kind=2\/kind=3\/kind=4
theorem Is.opE {kind:Int}(hk:tJ kind){a b:Ex}(h:ns[k]? =some ⟨kind,0,i,j⟩)(hi:i<k)(hj:j<k)(ha:Is ns a i)(hb:Is ns b j):Is ns (opE kind a b) k:=by
 rcases hk with rfl|rfl|rfl|rfl<;>exact⟨i,j,h,hi,hj,ha,hb⟩
theorem AllIs.before {P:Ex->Prop}(h:AllIs P ns)(hn:ns[k]? =some n):(n.kind=0/\n.a=0/\n.b=0)\/(tJ n.kind/\n.val=0/\∃i j:Nat,n.a=i/\n.b=j/\i<k/\j<k)\/(n.kind=5/\n.val=0/\n.b=0/\∃i:Nat,n.a=i/\i<k):=by
 obtain⟨e,he,-⟩:=h k (av2.1 hn).1
 cases e with
 |leaf v=>simp only[Is,hn]at he;cases he;exact Or.inl ⟨rfl,rfl,rfl⟩
 |root a=>obtain⟨i,h1,h2,h3⟩:=he;rw[hn]at h1;cases h1;exact Or.inr (Or.inr ⟨rfl,rfl,rfl,i,rfl,h2⟩)
 |add a b=>obtain⟨i,j,h1,h2,h3,-⟩:=he;rw[hn]at h1;cases h1;exact Or.inr (Or.inl ⟨Or.inl rfl,rfl,i,j,rfl,rfl,h2,h3⟩)
 |sub a b=>obtain⟨i,j,h1,h2,h3,-⟩:=he;rw[hn]at h1;cases h1;exact Or.inr (Or.inl ⟨Or.inr (Or.inl rfl),rfl,i,j,rfl,rfl,h2,h3⟩)
 |mul a b=>obtain⟨i,j,h1,h2,h3,-⟩:=he;rw[hn]at h1;cases h1;exact Or.inr (Or.inl ⟨Or.inr (Or.inr (Or.inl rfl)),rfl,i,j,rfl,rfl,h2,h3⟩)
 |div a b=>obtain⟨i,j,h1,h2,h3,-⟩:=he;rw[hn]at h1;cases h1;exact Or.inr (Or.inl ⟨Or.inr (Or.inr (Or.inr rfl)),rfl,i,j,rfl,rfl,h2,h3⟩)
theorem AllIs.snoc {P:Ex->Prop}(h:AllIs P ns){e:Ex}(he:Is (ns++[n]) e ns.length)(hP:P e):AllIs P (ns++[n]):=by
 intro k hk;rw[List.length_append]at hk;by_cases hkn:k<ns.length
 . obtain⟨e,h1,h2⟩:=h k hkn
   exact⟨e,h1.mono ⟨[n],rfl⟩,h2⟩
 . have:k=ns.length:=by simp at hk;omega
   subst this;exact⟨e,he,hP⟩
theorem ajU{P:Ex->Prop}{kind:Int}(hk:tJ kind){a b:Ex}(h:AllIs P ns)(ha:Is ns a i)(hb:Is ns b j)(hn:ns'[k]? =some ⟨kind,0,i,j⟩)(hns:ns'=ns\/ns'=ns++[⟨kind,0,i,j⟩])(hP:P (opE kind a b)):
 Is ns' (Go.Proofs.YtkadpnljocflaaaGreatDoor.opE kind a b) k/\AllIs P ns'/\ns<+:ns':=by
 by_cases hkl:k<ns.length
 . have hnk:ns[k]? =some ⟨kind,0,i,j⟩:=by
    rcases hns with rfl|rfl
    . exact hn
    . rwa[av3 hkl]at hn
   have hb4:i<k/\j<k:=by
    rcases h.before hnk with ⟨h0,-⟩|⟨-,-,i',j',e1,e2,h1,h2⟩|⟨h5,-⟩
    . rcases hk with rfl|rfl|rfl|rfl<;>simp at h0
    . simp at e1 e2;omega
    . rcases hk with rfl|rfl|rfl|rfl<;>simp at h5
   have hI:Is ns (Go.Proofs.YtkadpnljocflaaaGreatDoor.opE kind a b) k:=Is.opE hk hnk hb4.1 hb4.2 ha hb;rcases hns with rfl|rfl
   . exact⟨hI,h,av4⟩
   . have hp:ns<+:ns++[⟨kind,0,i,j⟩]:=⟨_,rfl⟩
     exact⟨hI.mono hp,h.snoc (Is.opE hk (by simp) ha.lt hb.lt (ha.mono hp) (hb.mono hp)) hP,hp⟩
 . rcases hns with rfl|rfl
   . exact absurd (av2.1 hn).1 hkl
   . have hp:ns<+:ns++[⟨kind,0,i,j⟩]:=⟨_,rfl⟩
     have:k=ns.length:=by have:=(av2.1 hn).1;simp at this;omega
     subst this;have hI:=Is.opE hk hn ha.lt hb.lt (ha.mono hp) (hb.mono hp);exact⟨hI,h.snoc hI hP,hp⟩
theorem af4{P:Ex->Prop}{v:Nat}(h:AllIs P ns)(hn:ns'[k]? =some ⟨0,v,0,0⟩)(hns:ns'=ns\/ns'=ns++[⟨0,v,0,0⟩])(hP:P (.leaf v)):
 Is ns' (.leaf v) k/\AllIs P ns'/\ns<+:ns':=by
 rcases hns with rfl|rfl
 . exact⟨hn,h,av4⟩
 . exact⟨hn,h.snoc (show Is _ (.leaf v) _ by simp[Is]) hP,⟨_,rfl⟩⟩
theorem af5{P:Ex->Prop}{a:Ex}(h:AllIs P ns)(ha:Is ns a i)(hn:ns'[k]? =some ⟨5,0,i,0⟩)(hns:ns'=ns\/ns'=ns++[⟨5,0,i,0⟩])(hP:P (.root a)):
 Is ns' (.root a) k/\AllIs P ns'/\ns<+:ns':=by
 by_cases hkl:k<ns.length
 . have hnk:ns[k]? =some ⟨5,0,i,0⟩:=by
    rcases hns with rfl|rfl
    . exact hn
    . rwa[av3 hkl]at hn
   have hb4:i<k:=by
    rcases h.before hnk with ⟨h0,-⟩|⟨h0,-⟩|⟨-,-,-,i',e1,h1⟩
    . simp at h0
    . rcases h0 with h0|h0|h0|h0<;>simp at h0
    . simp at e1;omega
   have hI:Is ns (.root a) k:=⟨i,hnk,hb4,ha⟩;rcases hns with rfl|rfl
   . exact⟨hI,h,av4⟩
   . have hp:ns<+:ns++[⟨5,0,i,0⟩]:=⟨_,rfl⟩
     exact⟨hI.mono hp,h.snoc (e:=.root a) ⟨i,by simp,ha.lt,ha.mono hp⟩ hP,hp⟩
 . rcases hns with rfl|rfl
   . exact absurd (av2.1 hn).1 hkl
   . have hp:ns<+:ns++[⟨5,0,i,0⟩]:=⟨_,rfl⟩
     have:k=ns.length:=by have:=(av2.1 hn).1;simp at this;omega
     subst this;have hI:Is (ns++[⟨5,0,i,0⟩]) (.root a) ns.length:=⟨i,hn,ha.lt,ha.mono hp⟩;exact⟨hI,h.snoc hI hP,hp⟩
end
section
open Re (rat)
open Int renaming le_refl->av5
open List renaming mem_cons_of_mem->av6,length_cons->av7,mem_cons->av8
variable{r:Bl}{P:Int}{o:Option Bl}{v:Re}
def leafD(v:Nat):Dy:=mkDy (fv v) (-1074)
inductive DenR:Ex->Re->Prop
 |leaf (v:Nat):DenR (.leaf v) (rat (rv (leafD v)))
 |add {a b:Ex} {x y:Re} (ha:DenR a x) (hb:DenR b y):DenR (.add a b) (x+y)
 |sub {a b:Ex} {x y:Re} (ha:DenR a x) (hb:DenR b y):DenR (.sub a b) (x-y)
 |mul {a b:Ex} {x y:Re} (ha:DenR a x) (hb:DenR b y):DenR (.mul a b) (x*y)
 |div {a b:Ex} {x y z:Re} (ha:DenR a x) (hb:DenR b y) (h0:y≠0) (hz:z*y=x):DenR (.div a b) z
 |root {a:Ex} {x s:Re} (ha:DenR a x) (h0:0<=s) (hs:s*s=x):DenR (.root a) s
theorem af6{x y z t:Re}(h0:y≠0)(h:z*y=x)(k:t*y=x):z=t:=by
 apply Re.eq_of_sub;apply Classical.byContradiction;intro hn;apply Re.mul_ne_zero hn h0;rw[Re.sub_mul,h,k,Re.sub_self]
theorem DenR.uniq {e:Ex}(h:DenR e v):∀{w:Re},DenR e w->v=w:=by
 induction h with
 |leaf v=>intro w k;cases k;rfl
 |add ha hb iha ihb=>intro w k;cases k with|add ka kb=>rw[iha ka,ihb kb]
 |sub ha hb iha ihb=>intro w k;cases k with|sub ka kb=>rw[iha ka,ihb kb]
 |mul ha hb iha ihb=>intro w k;cases k with|mul ka kb=>rw[iha ka,ihb kb]
 |div ha hb h0 hz iha ihb=>intro w k;cases k with|div ka kb k0 kz=>rw[<-iha ka,<-ihb kb]at kz;exact af6 h0 hz kz
 |root ha h0 hs iha=>intro w k;cases k with|root ka k0 ks=>rw[<-iha ka]at ks;exact Re.sq_inj h0 k0 (hs.trans ks.symm)
def dB:Ex->Int->Option Bl
 | .leaf v,_=>some (atB (leafD v))
 | .add a b,P=>(dB a P).bind fun x=>(dB b P).bind fun y=>some (addB x y P)
 | .sub a b,P=>(dB a P).bind fun x=>(dB b P).bind fun y=>some (addB x (notB y) P)
 | .mul a b,P=>(dB a P).bind fun x=>(dB b P).bind fun y=>some (mulB x y P)
 | .div a b,P=>(dB a P).bind fun x=>(dB b P).bind fun y=>quoB x y P
 | .root a,P=>(dB a P).bind fun x=>mP x P
theorem qE{f:Bl->Bl->Option Bl}{p:Option Bl}(h:(o.bind fun x=>p.bind fun y=>f x y)=some r):∃x y,o=some x/\p=some y/\f x y=some r:=by
 cases o with
 |none=>cases h
 |some x=>cases p with
  |none=>cases h
  |some y=>exact⟨x,y,rfl,rfl,h⟩
theorem ai3{f:Bl->Option Bl}(h:(o.bind fun x=>f x)=some r):∃x,o=some x/\f x=some r:=by
 cases o with
 |none=>cases h
 |some x=>exact⟨x,rfl,h⟩
theorem lD(hP:1<=P){e:Ex}(h:DenR e v):∀{b:Bl},dB e P=some b->In v b:=by
 induction h with
 |leaf v=>intro b hb;injection hb with hb;subst hb;exact akA
 |add ha hb iha ihb=>intro b h;obtain⟨x,y,h1,h2,h3⟩:=qE h;injection h3 with h3;subst h3;exact afZ hP (iha h1) (ihb h2)
 |sub ha hb iha ihb=>intro b h;obtain⟨x,y,h1,h2,h3⟩:=qE h;injection h3 with h3;subst h3;exact afZ hP (iha h1) (ajP (ihb h2))
 |mul ha hb iha ihb=>intro b h;obtain⟨x,y,h1,h2,h3⟩:=qE h;injection h3 with h3;subst h3;exact ajQ hP (iha h1) (ihb h2)
 |div ha hb h0 hz iha ihb=>intro b h;obtain⟨x,y,h1,h2,h3⟩:=qE h;exact ajR hP (iha h1) (ihb h2) hz h3
 |root ha h0 hs iha=>
  intro b h;obtain⟨x,h1,h3⟩:=ai3 h;obtain⟨r,k1,k2⟩:=abW hP (iha h1) h0 hs;rw[h3]at k1;injection k1 with k1;subst k1;exact k2
def bN(P:Int):Ex->Int
 | .leaf _=>1100
 | .add a b=>max (bN P a) (bN P b)+2
 | .sub a b=>max (bN P a) (bN P b)+2
 | .mul a b=>bN P a+bN P b+1
 | .div a b=>bN P a+bN P b+P+4
 | .root a=>bN P a+P+5
theorem fZ(hP:1<=P)(e:Ex):1100<=bN P e:=by
 induction e with
 |leaf v=>exact av5 _
 |add a b iha ihb=>simp only[bN];omega
 |sub a b iha ihb=>simp only[bN];omega
 |mul a b iha ihb=>simp only[bN];omega
 |div a b iha ihb=>simp only[bN];omega
 |root a iha=>simp only[bN];omega
theorem jX{Q:Int}(hP:1<=P)(h:P<=Q)(e:Ex):bN P e<=bN Q e:=by
 induction e with
 |leaf v=>exact av5 _
 |add a b iha ihb=>simp only[bN];omega
 |sub a b iha ihb=>simp only[bN];omega
 |mul a b iha ihb=>simp only[bN];omega
 |div a b iha ihb=>simp only[bN];omega
 |root a iha=>simp only[bN];omega
def FinE:Ex->Prop
 | .leaf v=>fin v/\v<18446744073709551616/\Sz 53 1100 (leafD v)
 | .add a b=>FinE a/\FinE b
 | .sub a b=>FinE a/\FinE b
 | .mul a b=>FinE a/\FinE b
 | .div a b=>FinE a/\FinE b
 | .root a=>FinE a
theorem kN(hP:1<=P):∀{e:Ex},FinE e->∀{b:Bl},dB e P=some b->SzB (max P 53) (bN P e) b:=by
 intro e
 induction e with
 |leaf v=>intro hf b hb;injection hb with hb;subst hb;exact⟨hf.2.2.mono (by omega) (av5 _),hf.2.2.mono (by omega) (av5 _)⟩
 |add a b iha ihb=>intro hf r h;obtain⟨x,y,h1,h2,h3⟩:=qE h;injection h3 with h3;subst h3;exact(abX hP (iha hf.1 h1) (ihb hf.2 h2)).mono (by omega) (av5 _)
 |sub a b iha ihb=>intro hf r h;obtain⟨x,y,h1,h2,h3⟩:=qE h;injection h3 with h3;subst h3;exact(abX hP (iha hf.1 h1) (ah0 (ihb hf.2 h2))).mono (by omega) (av5 _)
 |mul a b iha ihb=>intro hf r h;obtain⟨x,y,h1,h2,h3⟩:=qE h;injection h3 with h3;subst h3;exact(ajS hP (iha hf.1 h1) (ihb hf.2 h2)).mono (by omega) (av5 _)
 |div a b iha ihb=>intro hf r h;obtain⟨x,y,h1,h2,h3⟩:=qE h;exact(ajT hP (iha hf.1 h1) (ihb hf.2 h2) h3).mono (by omega) (av5 _)
 |root a iha=>intro hf r h;obtain⟨x,h1,h3⟩:=ai3 h;exact(ahZ hP (iha hf h1) (by have:=fZ hP a;omega) (by omega) h3).mono (by omega) (av5 _)
def jA(v:Nat):Nat:=if (leafD v).man=0 then 0 else bits (leafD v).man.natAbs+(leafD v).exp.toNat
def jB(v:Nat):Nat:=if (leafD v).man=0 then 0 else(-(leafD v).exp).toNat
def uE:Ex->Nat×Nat
 | .leaf v=>(jA v,jB v)
 | .add a b=>(1+max ((uE a).1+(uE b).2) ((uE a).2+(uE b).1),(uE a).2+(uE b).2)
 | .sub a b=>(1+max ((uE a).1+(uE b).2) ((uE a).2+(uE b).1),(uE a).2+(uE b).2)
 | .mul a b=>((uE a).1+(uE b).1,(uE a).2+(uE b).2)
 | .div a b=>((uE a).1+(uE b).2,(uE a).2+(uE b).1)
 | .root a=>if (uE a).1>=(uE a).2 then(((uE a).1+(uE a).2+1)/2,(uE a).2)else((uE a).1,((uE a).1+(uE a).2+1)/2)
def RootsIn(L:List Ex):Ex->Prop
 | .leaf _=>True
 | .add a b=>RootsIn L a/\RootsIn L b
 | .sub a b=>RootsIn L a/\RootsIn L b
 | .mul a b=>RootsIn L a/\RootsIn L b
 | .div a b=>RootsIn L a/\RootsIn L b
 | .root a=>.root a∈L/\RootsIn L a
theorem RootsIn.weak {L M:List Ex}(h:∀x∈L,x∈M):∀{e:Ex},RootsIn L e->RootsIn M e:=by
 intro e
 induction e with
 |leaf v=>exact id
 |add a b iha ihb=>exact fun k=>⟨iha k.1,ihb k.2⟩
 |sub a b iha ihb=>exact fun k=>⟨iha k.1,ihb k.2⟩
 |mul a b iha ihb=>exact fun k=>⟨iha k.1,ihb k.2⟩
 |div a b iha ihb=>exact fun k=>⟨iha k.1,ihb k.2⟩
 |root a iha=>exact fun k=>⟨h _ k.1,iha k.2⟩
def RootsL:List Ex->Prop
 |[]=>True
 |r::L=>RootsL L/\∃a,r=.root a/\RootsIn L a
theorem RootsL.mem:∀{L:List Ex},RootsL L->∀{c:Ex},.root c∈L->RootsIn L c
 |r::L,⟨h1,a,e,h2⟩,c,hc=>by
  rcases av8.1 hc with h|h
  . rw[e]at h;injection h with h;subst h
    exact h2.weak fun x hx=>av6 _ hx
  . exact(h1.mem h).weak fun x hx=>av6 _ hx
theorem yV(T:Tw)(v:Nat):RepV T (jA v) (jB v) (rat (rv (leafD v))):=by
 unfold jA jB;by_cases h:(leafD v).man=0
 . rw[if_pos h,if_pos h,(aW _).2.2.2 h];exact RepV.zero T 0 0
 . rw[if_neg h,if_neg h]
   generalize leafD v=d at*;refine RepV.dyad T (n:=d.man*(2^d.exp.toNat:Nat)) (d:=2^(-d.exp).toNat) ?_ nlr (by have:=Nat.two_pow_pos (-d.exp).toNat;omega) ?_
   . rw[Int.natAbs_mul,Int.natAbs_natCast,Nat.pow_add]
     exact Nat.mul_le_mul_right _ (Nat.le_of_lt ((aF _ _).1 nlr))
   . unfold Re.ofN Re.ofI
     rw[<-Re.rat_mul,Re.rat_inj,Rat.intCast_natCast,Rat.intCast_mul,Rat.intCast_natCast,<-eX,<-eX];unfold rv;have:p2 d.exp*p2 ((-d.exp).toNat:Nat)=p2 (d.exp.toNat:Nat):=by rw[<-bZ];congr 1;omega
     rw[<-this];grind
theorem tower:∀{L:List Ex},RootsL L->(∀r∈L,∃v,DenR r v)->∃T:Tw,Tow T/\T.length=L.length/\∀(e:Ex) (v:Re),DenR e v->RootsIn L e->RepV T (uE e).1 (uE e).2 v
 |[],_,_=>by
  refine⟨[],trivial,rfl,fun e v h=> ?_⟩
  induction h with
  |leaf v=>exact fun _=>yV [] v
  |add ha hb iha ihb=>exact fun k=>RepV.add (T:=[]) trivial (iha k.1) (ihb k.2)
  |sub ha hb iha ihb=>exact fun k=>RepV.sub (T:=[]) trivial (iha k.1) (ihb k.2)
  |mul ha hb iha ihb=>exact fun k=>RepV.mul (T:=[]) trivial (iha k.1) (ihb k.2)
  |div ha hb h0 hz iha ihb=>exact fun k=>RepV.div (T:=[]) trivial (iha k.1) (ihb k.2) h0 hz
  |root ha h0 hs iha=>intro k;have:=k.1;cases this
 |r::L,⟨h1,a,e,h2⟩,hd=>by
  obtain⟨T,t1,t2,t3⟩:=tower h1 fun x hx=>hd x (av6 _ hx);subst e;obtain⟨s,hs⟩:=hd (.root a) List.mem_cons_self
  cases hs with
  |root ha h0 hss=>
   rename_i x;obtain⟨t,u1,u2⟩:=(t3 a x ha h2).root t1 hss;have u2':RepV (t::T) (uE (.root a)).1 (uE (.root a)).2 s:=by
    unfold uE;by_cases hc:(uE a).1>=(uE a).2
    . rw[if_pos hc]at u2|-;rw[if_pos hc]at u2;exact u2
    . rw[if_neg hc]at u2|-;rw[if_neg hc]at u2;exact u2
   refine⟨t::T,u1,by rw[av7,av7,t2],fun e v h=> ?_⟩
   induction h with
   |leaf v=>exact fun _=>yV _ v
   |add ha hb iha ihb=>exact fun k=>(iha k.1).add u1 (ihb k.2)
   |sub ha hb iha ihb=>exact fun k=>(iha k.1).sub u1 (ihb k.2)
   |mul ha hb iha ihb=>exact fun k=>(iha k.1).mul u1 (ihb k.2)
   |div ha hb h0 hz iha ihb=>exact fun k=>(iha k.1).div u1 (ihb k.2) h0 hz
   |root hc g0 gs ihc=>
    rename_i c y w;intro k;by_cases he:(Ex.root c)=.root a
    . injection he with he;subst he
      have:w=s:=(DenR.root hc g0 gs).uniq (DenR.root ha h0 hss);rw[this];exact u2'
    . have hm:Ex.root c∈L:=by
       rcases av8.1 k.1 with h|h
       . exact absurd h he
       . exact h
      exact(t3 (.root c) w (.root hc g0 gs) ⟨hm,h1.mem hm⟩).lift t
end
section
open Go.RowKit
open Nat renaming le_trans->av9
variable{x y:Dy}{P na nb:Int}{p q:Nat->Prop}{v va vb:Value}{w:World}
theorem wX(hx:SmQ x)(hy:SmQ y):bits (dF x y).natAbs<=20400000/\bits (dG x y).natAbs<=20400000:=by
 obtain⟨h1,h2,h3⟩:=hx;obtain⟨k1,k2,k3⟩:=hy;rw[gL,gM,Int.natAbs_mul,Int.natAbs_natCast,Int.natAbs_mul,Int.natAbs_natCast];exact⟨av9 (dL _ _) (by omega),av9 (dL _ _) (by omega)⟩
theorem pJ{x e:Int}(hb:bits x.natAbs<=45000000)(he:-20000000<=e/\e<=20000000):SmD (mkDy x e):=by
 have hbm:=nO x e;by_cases hx:x=0
 . rw[hx,aS];exact⟨by show bits 0<=134217728;have:bits 0=0:=rfl;omega,by decide,by decide⟩
 . obtain⟨k,k1,k2,k3,k4⟩:=gK x e hx
   exact⟨by omega,by omega,by omega⟩
theorem adC(x y:Int):bits (x+y).natAbs<=bits x.natAbs+bits y.natAbs+1:=av9 (bP (show(x+y).natAbs<=x.natAbs+y.natAbs by omega)) (qB _ _)
theorem oI(hx:SmQ x)(hy:SmQ y):SmD (addD x y):=by
 have ha:=wX hx hy;obtain⟨h1,h2,h3⟩:=hx;obtain⟨k1,k2,k3⟩:=hy;unfold addD;split
 . exact pJ (by omega) (by omega)
 . split
   . exact pJ (by omega) (by omega)
   . exact pJ (av9 (adC _ _) (by omega)) (by omega)
theorem qY(hx:SmQ x)(hy:SmQ y):SmD (mulD x y):=by
 obtain⟨h1,h2,h3⟩:=hx;obtain⟨k1,k2,k3⟩:=hy;unfold mulD;refine pJ ?_ (by omega);rw[Int.natAbs_mul];exact av9 (p8 _ _) (by omega)
theorem qZ(hx:SmQ x)(hy:SmQ y)(hP:1<=P/\P<=65536)(h0:y.man≠0)(dir:Int):SmD (quoD x y P dir):=by
 obtain⟨k1,k2,k3⟩:=yQ x y dir hP.1 h0;refine⟨by omega,?_⟩;by_cases hn:(quoD x y P dir).man=0
 . have:(quoD x y P dir).exp=0:=by
    have:mkDy (quoD x y P dir).man (quoD x y P dir).exp=quoD x y P dir:=k1;rw[hn,aS]at this;exact(congrArg Dy.exp this).symm
   rw[this];decide
 . have hx0:x.man≠0:=fun h=>hn (by unfold quoD;rw[if_pos h])
   obtain⟨j1,j2⟩:=k3 hn;have t1:topD x=bits x.man.natAbs+x.exp:=by unfold topD;rw[if_neg hx0]
   have t2:topD y=bits y.man.natAbs+y.exp:=by unfold topD;rw[if_neg h0]
   have t3:=kM hn;obtain⟨h1,h2,h3⟩:=hx;obtain⟨q1,q2,q3⟩:=hy;omega
theorem SmQ.smD (h:SmQ x):SmD x:=⟨by have:=h.1;omega,by have:=h.2.1;omega,by have:=h.2.2;omega⟩
theorem SmQB.smB {x:Bl}(h:SmQB x):SmB x:=⟨h.1.smD,h.2.smD⟩
theorem kP(hc:Canon x)(h:SmQ x):SmQ (notD x):=by
 have hk:Sz 400000 20000000 x:=⟨hc,by have:=h.1;omega,fun hn=>by
  have h1:=h.2;have t1:topD x=bits x.man.natAbs+x.exp:=by unfold topD;rw[if_neg hn]
  have:=h.1;omega⟩
 have hm:(notD x).man=-x.man/\(notD x).exp=x.exp:=by
  have hc':=hc;unfold Canon at hc';have h1:=abN x.man x.exp;rw[hc']at h1;by_cases h0:x.man=0
  . have:x.exp=0:=by rw[<-hc',h0,aS]
    unfold notD;rw[h0,this];exact⟨rfl,rfl⟩
  . unfold notD
    unfold mkDy at hc'|-;rw[if_neg h0]at hc';rw[if_neg (by omega)];have e1:(-x.man).natAbs=x.man.natAbs:=by omega
    rw[e1];have hc1:sg (decide (x.man<0)) (x.man.natAbs/2^ctz x.man.natAbs)=x.man:=congrArg Dy.man hc';have hc2:x.exp+ctz x.man.natAbs=x.exp:=congrArg Dy.exp hc';refine⟨?_,hc2⟩;have:decide (-x.man<0)= !decide (x.man<0):=by
     by_cases g:x.man<0
     . rw[decide_eq_true g,decide_eq_false (by omega)];rfl
     . rw[decide_eq_false g,decide_eq_true (by omega)];rfl
    rw[this]
    conv=>rhs;rw[<-hc1]
    cases decide (x.man<0)<;>simp[sg]
 exact⟨by rw[hm.1,show(-x.man).natAbs=x.man.natAbs from by omega];exact h.1,by rw[hm.2];exact h.2⟩
def SixB(v:Value):Prop:=∃a b c d e f,v=.agg #[a,b,c,d,e,f]
theorem BlP.six {d:Bl}(h:BlP p w v d):SixB v:=by
 obtain⟨b,A,n,c,b',A',n',c',e,-,-⟩:=h;exact⟨_,_,_,_,_,_,e⟩
def mQ(n:Nd)(x y:Bl)(P:Int):Option Bl:=
 if n.kind=0 then some (atB (leafD n.val))else if n.kind=1 then some (addB x y P)else if n.kind=2 then some (addB x (notB y) P)else if n.kind=3 then some (mulB x y P)else if n.kind=4 then quoB x y P else mP x P
def Okb(x:Bl):Prop:=SmQB x/\Canon x.lo/\Canon x.hi
theorem adD{p q:Nat->Prop}{val:Nat}{x y:Bl}(s1:SixB va)(s2:SixB vb)(hv:val<18446744073709551616)(hf:fin val)(hsD:SmD (leafD val))(hT:Tab w)(hP:1<=P/\P<=65536):
 Calls Tryz.prog 180 #[.agg #[.int .i64 0,.float .f64 val,.int .i64 na,.int .i64 nb],va,vb,.int .i64 P] w (fJ w.heap.size w (atB (leafD val)) true):=by
 obtain⟨a0,a1,a2,a3,a4,a5,rfl⟩:=s1;obtain⟨z0,z1,z2,z3,z4,z5,rfl⟩:=s2;obtain⟨w4,hw4,hb4,hs4,b1,b2,b3,b4⟩:=pro4 w (.cells #[.int .i64 0,.float .f64 val,.int .i64 na,.int .i64 nb] 87) (.cells #[a0,a1,a2,a3,a4,a5] 92) (.cells #[z0,z1,z2,z3,z4,z5] 92) (.cells #[Value.bool false,Value.slice none 0 0,.int .i64 0,Value.bool false,Value.slice none 0 0,.int .i64 0] 92);have HB:=hdd hb4;have B2:=hdd b2;have B3:=hdd b3;have B4:=hdd b4;have HS:=hdd hs4;have HT:=hdd (hT.below hb4);have HTAB0:=hdd hT;obtain⟨k0,k1,k2,k3⟩:=bM b1;have FIN:Hid (∀(Z:Bl) (t:Bool) (w5:World),Below w4.heap.size w4 w5->∀(v:Value),BlP (fun b=>w4.heap.size<=b) w5 v Z->∃u0 u1 u2 u3 u4 u5,v=.agg #[u0,u1,u2,u3,u4,u5]/\(∃b1 A1 n1 c1 b2 A2 n2 c2,u0=.bool b1/\u1=.slice A1 n1 c1/\u2=.int .i64 Z.lo.exp/\u3=.bool b2/\u4=.slice A2 n2 c2/\u5=.int .i64 Z.hi.exp)/\
  fJ w.heap.size w Z t (.returned (.tuple #[.agg #[u0,u1,u2,u3,u4,u5],.bool t])) (put6 w5 (w.heap.size+3) u0 u1 u2 u3 u4 u5)/\(put6 w5 (w.heap.size+3) u0 u1 u2 u3 u4 u5).heap[w.heap.size+3]? =some (.cells #[u0,u1,u2,u3,u4,u5] 92 (0,0))):=hdd (by
  intro Z t w5 h5 v hv;obtain⟨b,A,n,c,b',A',n',c',rfl,g1,g2⟩:=hv;obtain⟨r1,r2⟩:=aV (x:=Z) (HB.out.trans (h5.mono HB.out.size)) (g:=w.heap.size+3) (by omega) (hbl B4.out h5) g1 g2 (fun b hb=>by have:=HS.out;omega);exact⟨_,_,_,_,_,_,rfl,⟨_,_,_,_,_,_,_,_,rfl,rfl,rfl,rfl,rfl,rfl⟩,dZ r1.out,r2⟩)
 have HD:=hdd (qD hv hf HT.out);replace HD:Hid (Calls Tryz.prog 214 #[.float .f64 val] w4 (qC w4.heap.size w4 (leafD val) true)):=HD;have HAT:Hid (∀(w':World) (v:Value),Below w4.heap.size w4 w'->DyP AnyB w' v (leafD val)->Calls Tryz.prog 215 #[v] w' (lC w'.heap.size w' (atB (leafD val)))):=hdd fun w' v h hv=>af1 hv (HT.out.below h) hsD (lX _ _);clear hP hsD hb4 b1 b2 b3 b4 hs4 hT hv hf;go_enter Tryz.func180,Tryz.ntmps180
 go_wp2_with fail
 refine HD.out.mono ?_;rintro e w5⟨hb5,v5,rfl,hz⟩;obtain⟨b5,A5,n5,c5,rfl,hz⟩:=hz;obtain⟨w6,hw6,hb6,hs6,q1⟩:=pro1 w5 (.cells #[Value.bool false,Value.slice none 0 0,.int .i64 0] 90);obtain⟨e0,e1,e2,e3,e4,e5⟩:=cells3 q1;have S1:=set3 q1 (.bool b5) (.slice A5 n5 c5) (.int .i64 (leafD val).exp);have g1:=hb6.setCell (p:=⟨w5.heap.size,0,none⟩) nlr (.bool b5);have g2:=g1.setCell (p:=⟨w5.heap.size,1,none⟩) nlr (.slice A5 n5 c5);have g3:=g2.setCell (p:=⟨w5.heap.size,2,none⟩) nlr (.int .i64 (leafD val).exp);have F:=And.intro S1 g3;clear S1 g1 g2 g3 hb6 hs6 q1;generalize hW:((w6.setCell ⟨w5.heap.size,0,none⟩ (.bool b5)).setCell ⟨w5.heap.size,1,none⟩ (.slice A5 n5 c5)).setCell ⟨w5.heap.size,2,none⟩ (.int .i64 (leafD val).exp)=w7 at F;obtain⟨S1,g3⟩:=F;obtain⟨x0,x1,x2,-,-,-⟩:=cells3 S1;have HBL:=hdd (HAT.out w7 _ (aA hb5 g3) ⟨b5,A5,n5,c5,rfl,((hz.any).below g3)⟩);have HB7:=hdd (aA hb5 g3);clear S1 g3 hb5 hz k0 k1 k2 k3 hw4;go_wp2_with fail
 refine HBL.out.mono ?_;rintro e w8⟨hb8,v8,rfl,hz⟩;have hb48:=aA HB7.out hb8;have B48:=hbl B4.out hb48;obtain⟨r0,r1,r2,r3,r4,r5⟩:=aG B48;obtain⟨t0,t1,t2,t3,t4,t5⟩:=fC B48;obtain⟨u0,u1,u2,u3,u4,u5,rfl,⟨_,_,_,_,_,_,_,_,rfl,rfl,rfl,rfl,rfl,rfl⟩,hR,hF⟩:=FIN.out (atB (leafD val)) true w8 hb48 _ (hz.weak fun b h _=>av9 HB7.out.size h);have HR:=hdd hR;have hFF:=hdd hF;clear hb8 hz hb48 B48 hR hF;go_wp2;obtain⟨f0,f1,f2,f3,f4,f5⟩:=aG hFF.out;unfold put6 at f0 f1 f2 f3 f4 f5;refine bodyPost_ret (v:=.tuple #[.agg #[_,_,_,_,_,_],_]) (by simp[results,Tryz.results180,go_sem,f0,f1,f2,f3,f4,f5];first|exact⟨⟨rfl,rfl,rfl,rfl,rfl,rfl⟩,rfl⟩|rfl) rfl ?_;exact HR.out
theorem adE{val:Nat}{x y:Bl}(s1:SixB va)(s2:SixB vb)(hx:BlP p w va x)(hy:BlP q w vb y)(ox:Okb x)(oy:Okb y)(hp:∀b,p b->b<w.heap.size)(hq:∀b,q b->b<w.heap.size)(hT:Tab w)(hP:1<=P/\P<=65536):
 Calls Tryz.prog 180 #[.agg #[.int .i64 1,.float .f64 val,.int .i64 na,.int .i64 nb],va,vb,.int .i64 P] w (fJ w.heap.size w (addB x y P) true):=by
 obtain⟨a0,a1,a2,a3,a4,a5,rfl⟩:=s1;obtain⟨z0,z1,z2,z3,z4,z5,rfl⟩:=s2;obtain⟨w4,hw4,hb4,hs4,b1,b2,b3,b4⟩:=pro4 w (.cells #[.int .i64 1,.float .f64 val,.int .i64 na,.int .i64 nb] 87) (.cells #[a0,a1,a2,a3,a4,a5] 92) (.cells #[z0,z1,z2,z3,z4,z5] 92) (.cells #[Value.bool false,Value.slice none 0 0,.int .i64 0,Value.bool false,Value.slice none 0 0,.int .i64 0] 92);have HB:=hdd hb4;have B2:=hdd b2;have B3:=hdd b3;have B4:=hdd b4;have HS:=hdd hs4;have HT:=hdd (hT.below hb4);have HTAB0:=hdd hT;obtain⟨k0,k1,k2,k3⟩:=bM b1;have FIN:Hid (∀(Z:Bl) (t:Bool) (w5:World),Below w4.heap.size w4 w5->∀(v:Value),BlP (fun b=>w4.heap.size<=b) w5 v Z->∃u0 u1 u2 u3 u4 u5,v=.agg #[u0,u1,u2,u3,u4,u5]/\(∃b1 A1 n1 c1 b2 A2 n2 c2,u0=.bool b1/\u1=.slice A1 n1 c1/\u2=.int .i64 Z.lo.exp/\u3=.bool b2/\u4=.slice A2 n2 c2/\u5=.int .i64 Z.hi.exp)/\
  fJ w.heap.size w Z t (.returned (.tuple #[.agg #[u0,u1,u2,u3,u4,u5],.bool t])) (put6 w5 (w.heap.size+3) u0 u1 u2 u3 u4 u5)/\(put6 w5 (w.heap.size+3) u0 u1 u2 u3 u4 u5).heap[w.heap.size+3]? =some (.cells #[u0,u1,u2,u3,u4,u5] 92 (0,0))):=hdd (by
  intro Z t w5 h5 v hv;obtain⟨b,A,n,c,b',A',n',c',rfl,g1,g2⟩:=hv;obtain⟨r1,r2⟩:=aV (x:=Z) (HB.out.trans (h5.mono HB.out.size)) (g:=w.heap.size+3) (by omega) (hbl B4.out h5) g1 g2 (fun b hb=>by have:=HS.out;omega);exact⟨_,_,_,_,_,_,rfl,⟨_,_,_,_,_,_,_,_,rfl,rfl,rfl,rfl,rfl,rfl⟩,dZ r1.out,r2⟩)
 have hpw:∀b,p b->b<w4.heap.size:=fun b h=>by have:=hp b h;omega
 have hqw:∀b,q b->b<w4.heap.size:=fun b h=>by have:=hq b h;omega
 have HA:Hid (Calls Tryz.prog 217 #[.agg #[a0,a1,a2,a3,a4,a5],.agg #[z0,z1,z2,z3,z4,z5],.int .i64 P] w4 (lC w4.heap.size w4 (addB x y P))):=hdd (vF (w:=w4) (hx.below hb4) (hy.below hb4) hpw hqw HT.out ox.1.smB oy.1.smB (oI ox.1.1 oy.1.1) (oI ox.1.2 oy.1.2) hP);obtain⟨c0,c1,c2,c3,c4,c5⟩:=aG b2;obtain⟨d0,d1,d2,d3,d4,d5⟩:=aG b3;clear hx hy hp hq hpw hqw hP hb4 b1 b2 b3 b4 hs4 hT ox oy;go_enter Tryz.func180,Tryz.ntmps180
 go_wp2_with fail
 refine HA.out.mono ?_;rintro e w8⟨hb8,v8,rfl,hz⟩;have hb48:=hb8;have B48:=hbl B4.out hb48;clear c0 c1 c2 c3 c4 c5 d0 d1 d2 d3 d4 d5 k0 k1 k2 k3 hw4;obtain⟨r0,r1,r2,r3,r4,r5⟩:=aG B48;obtain⟨t0,t1,t2,t3,t4,t5⟩:=fC B48;obtain⟨u0,u1,u2,u3,u4,u5,rfl,⟨_,_,_,_,_,_,_,_,rfl,rfl,rfl,rfl,rfl,rfl⟩,hR,hF⟩:=FIN.out (addB x y P) true w8 hb48 _ hz;have HR:=hdd hR;have hFF:=hdd hF;clear hb8 hz hb48 B48 hR hF;go_wp2;obtain⟨f0,f1,f2,f3,f4,f5⟩:=aG hFF.out;unfold put6 at f0 f1 f2 f3 f4 f5;refine bodyPost_ret (v:=.tuple #[.agg #[_,_,_,_,_,_],_]) (by simp[results,Tryz.results180,go_sem,f0,f1,f2,f3,f4,f5];first|exact⟨⟨rfl,rfl,rfl,rfl,rfl,rfl⟩,rfl⟩|rfl) rfl ?_;exact HR.out
theorem adF{val:Nat}{x y:Bl}(s1:SixB va)(s2:SixB vb)(hx:BlP p w va x)(hy:BlP q w vb y)(ox:Okb x)(oy:Okb y)(hp:∀b,p b->b<w.heap.size)(hq:∀b,q b->b<w.heap.size)(hT:Tab w)(hP:1<=P/\P<=65536):
 Calls Tryz.prog 180 #[.agg #[.int .i64 3,.float .f64 val,.int .i64 na,.int .i64 nb],va,vb,.int .i64 P] w (fJ w.heap.size w (mulB x y P) true):=by
 obtain⟨a0,a1,a2,a3,a4,a5,rfl⟩:=s1;obtain⟨z0,z1,z2,z3,z4,z5,rfl⟩:=s2;obtain⟨w4,hw4,hb4,hs4,b1,b2,b3,b4⟩:=pro4 w (.cells #[.int .i64 3,.float .f64 val,.int .i64 na,.int .i64 nb] 87) (.cells #[a0,a1,a2,a3,a4,a5] 92) (.cells #[z0,z1,z2,z3,z4,z5] 92) (.cells #[Value.bool false,Value.slice none 0 0,.int .i64 0,Value.bool false,Value.slice none 0 0,.int .i64 0] 92);have HB:=hdd hb4;have B2:=hdd b2;have B3:=hdd b3;have B4:=hdd b4;have HS:=hdd hs4;have HT:=hdd (hT.below hb4);have HTAB0:=hdd hT;obtain⟨k0,k1,k2,k3⟩:=bM b1;have FIN:Hid (∀(Z:Bl) (t:Bool) (w5:World),Below w4.heap.size w4 w5->∀(v:Value),BlP (fun b=>w4.heap.size<=b) w5 v Z->∃u0 u1 u2 u3 u4 u5,v=.agg #[u0,u1,u2,u3,u4,u5]/\(∃b1 A1 n1 c1 b2 A2 n2 c2,u0=.bool b1/\u1=.slice A1 n1 c1/\u2=.int .i64 Z.lo.exp/\u3=.bool b2/\u4=.slice A2 n2 c2/\u5=.int .i64 Z.hi.exp)/\
  fJ w.heap.size w Z t (.returned (.tuple #[.agg #[u0,u1,u2,u3,u4,u5],.bool t])) (put6 w5 (w.heap.size+3) u0 u1 u2 u3 u4 u5)/\(put6 w5 (w.heap.size+3) u0 u1 u2 u3 u4 u5).heap[w.heap.size+3]? =some (.cells #[u0,u1,u2,u3,u4,u5] 92 (0,0))):=hdd (by
  intro Z t w5 h5 v hv;obtain⟨b,A,n,c,b',A',n',c',rfl,g1,g2⟩:=hv;obtain⟨r1,r2⟩:=aV (x:=Z) (HB.out.trans (h5.mono HB.out.size)) (g:=w.heap.size+3) (by omega) (hbl B4.out h5) g1 g2 (fun b hb=>by have:=HS.out;omega);exact⟨_,_,_,_,_,_,rfl,⟨_,_,_,_,_,_,_,_,rfl,rfl,rfl,rfl,rfl,rfl⟩,dZ r1.out,r2⟩)
 have hpw:∀b,p b->b<w4.heap.size:=fun b h=>by have:=hp b h;omega
 have hqw:∀b,q b->b<w4.heap.size:=fun b h=>by have:=hq b h;omega
 have HA:Hid (Calls Tryz.prog 218 #[.agg #[a0,a1,a2,a3,a4,a5],.agg #[z0,z1,z2,z3,z4,z5],.int .i64 P] w4 (lC w4.heap.size w4 (mulB x y P))):=hdd (ac9 (w:=w4) (hx.below hb4) (hy.below hb4) HT.out ox.1.smB oy.1.smB (qY ox.1.1 oy.1.1) (qY ox.1.1 oy.1.2) (qY ox.1.2 oy.1.1) (qY ox.1.2 oy.1.2) hP);obtain⟨c0,c1,c2,c3,c4,c5⟩:=aG b2;obtain⟨d0,d1,d2,d3,d4,d5⟩:=aG b3;clear hx hy hp hq hpw hqw hP hb4 b1 b2 b3 b4 hs4 hT ox oy;go_enter Tryz.func180,Tryz.ntmps180
 go_wp2_with fail
 refine HA.out.mono ?_;rintro e w8⟨hb8,v8,rfl,hz⟩;have hb48:=hb8;have B48:=hbl B4.out hb48;clear c0 c1 c2 c3 c4 c5 d0 d1 d2 d3 d4 d5 k0 k1 k2 k3 hw4;obtain⟨r0,r1,r2,r3,r4,r5⟩:=aG B48;obtain⟨t0,t1,t2,t3,t4,t5⟩:=fC B48;obtain⟨u0,u1,u2,u3,u4,u5,rfl,⟨_,_,_,_,_,_,_,_,rfl,rfl,rfl,rfl,rfl,rfl⟩,hR,hF⟩:=FIN.out (mulB x y P) true w8 hb48 _ hz;have HR:=hdd hR;have hFF:=hdd hF;clear hb8 hz hb48 B48 hR hF;go_wp2;obtain⟨f0,f1,f2,f3,f4,f5⟩:=aG hFF.out;unfold put6 at f0 f1 f2 f3 f4 f5;refine bodyPost_ret (v:=.tuple #[.agg #[_,_,_,_,_,_],_]) (by simp[results,Tryz.results180,go_sem,f0,f1,f2,f3,f4,f5];first|exact⟨⟨rfl,rfl,rfl,rfl,rfl,rfl⟩,rfl⟩|rfl) rfl ?_;exact HR.out
theorem adG{val:Nat}{x y:Bl}(s1:SixB va)(s2:SixB vb)(hx:BlP p w va x)(hy:BlP q w vb y)(ox:Okb x)(oy:Okb y)(hp:∀b,p b->b<w.heap.size)(hq:∀b,q b->b<w.heap.size)(hT:Tab w)(hP:1<=P/\P<=65536):
 Calls Tryz.prog 180 #[.agg #[.int .i64 2,.float .f64 val,.int .i64 na,.int .i64 nb],va,vb,.int .i64 P] w (fJ w.heap.size w (addB x (notB y) P) true):=by
 obtain⟨a0,a1,a2,a3,a4,a5,rfl⟩:=s1;obtain⟨z0,z1,z2,z3,z4,z5,rfl⟩:=s2;obtain⟨w4,hw4,hb4,hs4,b1,b2,b3,b4⟩:=pro4 w (.cells #[.int .i64 2,.float .f64 val,.int .i64 na,.int .i64 nb] 87) (.cells #[a0,a1,a2,a3,a4,a5] 92) (.cells #[z0,z1,z2,z3,z4,z5] 92) (.cells #[Value.bool false,Value.slice none 0 0,.int .i64 0,Value.bool false,Value.slice none 0 0,.int .i64 0] 92);have HB:=hdd hb4;have B2:=hdd b2;have B3:=hdd b3;have B4:=hdd b4;have HS:=hdd hs4;have HT:=hdd (hT.below hb4);have HTAB0:=hdd hT;obtain⟨k0,k1,k2,k3⟩:=bM b1;have FIN:Hid (∀(Z:Bl) (t:Bool) (w5:World),Below w4.heap.size w4 w5->∀(v:Value),BlP (fun b=>w4.heap.size<=b) w5 v Z->∃u0 u1 u2 u3 u4 u5,v=.agg #[u0,u1,u2,u3,u4,u5]/\(∃b1 A1 n1 c1 b2 A2 n2 c2,u0=.bool b1/\u1=.slice A1 n1 c1/\u2=.int .i64 Z.lo.exp/\u3=.bool b2/\u4=.slice A2 n2 c2/\u5=.int .i64 Z.hi.exp)/\
  fJ w.heap.size w Z t (.returned (.tuple #[.agg #[u0,u1,u2,u3,u4,u5],.bool t])) (put6 w5 (w.heap.size+3) u0 u1 u2 u3 u4 u5)/\(put6 w5 (w.heap.size+3) u0 u1 u2 u3 u4 u5).heap[w.heap.size+3]? =some (.cells #[u0,u1,u2,u3,u4,u5] 92 (0,0))):=hdd (by
  intro Z t w5 h5 v hv;obtain⟨b,A,n,c,b',A',n',c',rfl,g1,g2⟩:=hv;obtain⟨r1,r2⟩:=aV (x:=Z) (HB.out.trans (h5.mono HB.out.size)) (g:=w.heap.size+3) (by omega) (hbl B4.out h5) g1 g2 (fun b hb=>by have:=HS.out;omega);exact⟨_,_,_,_,_,_,rfl,⟨_,_,_,_,_,_,_,_,rfl,rfl,rfl,rfl,rfl,rfl⟩,dZ r1.out,r2⟩)
 have HN:Hid (Calls Tryz.prog 216 #[.agg #[z0,z1,z2,z3,z4,z5]] w4 (lC w4.heap.size w4 (notB y))):=hdd (ac7 (hy.below hb4) HT.out oy.1.smB);have HA:Hid (∀(w':World) (v:Value),BlP p w' (.agg #[a0,a1,a2,a3,a4,a5]) x->BlP (fun b=>b<w'.heap.size) w' v (notB y)->Tab w'->w4.heap.size<=w'.heap.size->Calls Tryz.prog 217 #[.agg #[a0,a1,a2,a3,a4,a5],v,.int .i64 P] w' (lC w'.heap.size w' (addB x (notB y) P))):=hdd fun w' v h1 h2 h3 h4=>
  vF (P:=P) h1 h2 (fun b hb=>by have:=hp b hb;omega) (fun b hb=>hb) h3 ox.1.smB ⟨(kP oy.2.2 oy.1.2).smD,(kP oy.2.1 oy.1.1).smD⟩ (oI ox.1.1 (kP oy.2.2 oy.1.2)) (oI ox.1.2 (kP oy.2.1 oy.1.1)) hP
 have HXp:=hdd (hx.below hb4);have HPW:=hdd hp;obtain⟨c0,c1,c2,c3,c4,c5⟩:=aG b2;obtain⟨d0,d1,d2,d3,d4,d5⟩:=aG b3;obtain⟨dd0,dd1,dd2,dd3,dd4,dd5⟩:=fC b3;clear hx hy hp hq hP hb4 b1 b2 b3 b4 hs4 hT ox oy;go_enter Tryz.func180,Tryz.ntmps180
 go_wp2_with fail
 refine HN.out.mono ?_;rintro e w5⟨hb5,v5,rfl,hz⟩;obtain⟨b5,A5,n5,m5,b6,A6,n6,m6,rfl,hz1,hz2⟩:=hz;have B35:=hbl B3.out hb5;have B25:=hbl B2.out hb5;have B45:=hbl B4.out hb5;obtain⟨e0,e1,e2,e3,e4,e5⟩:=aG B35;obtain⟨g0,g1,g2,g3,g4,g5⟩:=fC B35;clear c0 c1 c2 c3 c4 c5 d0 d1 d2 d3 d4 d5 dd0 dd1 dd2 dd3 dd4 dd5 k0 k1 k2 k3 hw4;have hS:=HS.out;have F:(put6 w5 (w.heap.size+2) (.bool b5) (.slice A5 n5 m5) (.int .i64 (notB y).lo.exp) (.bool b6) (.slice A6 n6 m6) (.int .i64 (notB y).hi.exp)).heap[w.heap.size+1]? =some (.cells #[a0,a1,a2,a3,a4,a5] 92 (0,0))/\
  (put6 w5 (w.heap.size+2) (.bool b5) (.slice A5 n5 m5) (.int .i64 (notB y).lo.exp) (.bool b6) (.slice A6 n6 m6) (.int .i64 (notB y).hi.exp)).heap[w.heap.size+2]? =some (.cells #[.bool b5,.slice A5 n5 m5,.int .i64 (notB y).lo.exp,.bool b6,.slice A6 n6 m6,.int .i64 (notB y).hi.exp] 92 (0,0))/\
  (put6 w5 (w.heap.size+2) (.bool b5) (.slice A5 n5 m5) (.int .i64 (notB y).lo.exp) (.bool b6) (.slice A6 n6 m6) (.int .i64 (notB y).hi.exp)).heap[w.heap.size+3]? =some (.cells #[Value.bool false,Value.slice none 0 0,.int .i64 0,Value.bool false,Value.slice none 0 0,.int .i64 0] 92 (0,0))/\
  Below w.heap.size w (put6 w5 (w.heap.size+2) (.bool b5) (.slice A5 n5 m5) (.int .i64 (notB y).lo.exp) (.bool b6) (.slice A6 n6 m6) (.int .i64 (notB y).hi.exp))/\
  BlP p (put6 w5 (w.heap.size+2) (.bool b5) (.slice A5 n5 m5) (.int .i64 (notB y).lo.exp) (.bool b6) (.slice A6 n6 m6) (.int .i64 (notB y).hi.exp)) (.agg #[a0,a1,a2,a3,a4,a5]) x/\
  BlP (fun b=>w4.heap.size<=b) (put6 w5 (w.heap.size+2) (.bool b5) (.slice A5 n5 m5) (.int .i64 (notB y).lo.exp) (.bool b6) (.slice A6 n6 m6) (.int .i64 (notB y).hi.exp)) (.agg #[.bool b5,.slice A5 n5 m5,.int .i64 (notB y).lo.exp,.bool b6,.slice A6 n6 m6,.int .i64 (notB y).hi.exp]) (notB y)/\
  w4.heap.size<=(put6 w5 (w.heap.size+2) (.bool b5) (.slice A5 n5 m5) (.int .i64 (notB y).lo.exp) (.bool b6) (.slice A6 n6 m6) (.int .i64 (notB y).hi.exp)).heap.size:=by
  refine⟨(sS (by omega) _ _ _ _ _ _).trans B25,gP B35 _ _ _ _ _ _,(sS (by omega) _ _ _ _ _ _).trans B45,eZ (HB.out.trans (hb5.mono HB.out.size)) (by omega) _ _ _ _ _ _,?_,?_,?_⟩
  . obtain⟨j1,j2,j3,j4,j5,j6,j7,j8,je,h1,h2⟩:=HXp.out.below hb5
    exact⟨j1,j2,j3,j4,j5,j6,j7,j8,je,iE h1 (fun b hb=>by have:=HPW.out b hb;omega) _ _ _ _ _ _,iE h2 (fun b hb=>by have:=HPW.out b hb;omega) _ _ _ _ _ _⟩
  . exact⟨_,_,_,_,_,_,_,_,rfl,iE hz1 (fun b hb=>by omega) _ _ _ _ _ _,iE hz2 (fun b hb=>by omega) _ _ _ _ _ _⟩
  . have:=(eZ (g:=w.heap.size+2) (HB.out.trans (hb5.mono HB.out.size)) (by omega) (.bool b5) (.slice A5 n5 m5) (.int .i64 (notB y).lo.exp) (.bool b6) (.slice A6 n6 m6) (.int .i64 (notB y).hi.exp)).size
    have e1:(put6 w5 (w.heap.size+2) (.bool b5) (.slice A5 n5 m5) (.int .i64 (notB y).lo.exp) (.bool b6) (.slice A6 n6 m6) (.int .i64 (notB y).hi.exp)).heap.size=w5.heap.size:=by simp[put6,World.setCell]
    rw[e1];exact hb5.size
 have HTT:=HTAB0.out;clear B25 B35 B45 hz1 hz2 hb5;unfold put6 at F;generalize hW:(((((w5.setCell ⟨w.heap.size+2,0,none⟩ (.bool b5)).setCell ⟨w.heap.size+2,1,none⟩ (.slice A5 n5 m5)).setCell ⟨w.heap.size+2,2,none⟩ (.int .i64 (notB y).lo.exp)).setCell ⟨w.heap.size+2,3,none⟩ (.bool b6)).setCell ⟨w.heap.size+2,4,none⟩ (.slice A6 n6 m6)).setCell ⟨w.heap.size+2,5,none⟩ (.int .i64 (notB y).hi.exp)=w7 at F;obtain⟨F1,F2,F3,F4,F5,F6,F7⟩:=F;obtain⟨c0,c1,c2,c3,c4,c5⟩:=aG F1;obtain⟨d0,d1,d2,d3,d4,d5⟩:=aG F2;have HA7:=hdd (HA.out w7 _ F5 (F6.weak fun b _ h=>h) (HTT.below F4) F7);have HF3:=hdd F3;have HF4:=hdd F4;have HF7:=hdd F7;clear F1 F2 F3 F4 F5 F6 F7 HTT;go_wp2_with fail
 refine HA7.out.mono ?_;rintro e w8⟨hb8,v8,rfl,hz⟩;have B48:=hbl HF3.out hb8;obtain⟨b,A,n,c,b',A',n',c',rfl,y1,y2⟩:=hz;obtain⟨r1,r2⟩:=aV (x:=addB x (notB y) P) (HF4.out.trans (hb8.mono HF4.out.size)) (g:=w.heap.size+3) (by omega) B48 y1 y2 (fun b hb=>by have:=HF7.out;omega);obtain⟨q0,q1,q2,q3,q4,q5⟩:=aG B48;obtain⟨t0,t1,t2,t3,t4,t5⟩:=fC B48;have HR:=hdd (dZ (t:=true) r1.out);have hFF:=hdd r2;clear hb8 B48 r1 r2 y1 y2 c0 c1 c2 c3 c4 c5 d0 d1 d2 d3 d4 d5 hS;go_wp2;obtain⟨f0,f1,f2,f3,f4,f5⟩:=aG hFF.out;unfold put6 at f0 f1 f2 f3 f4 f5;refine bodyPost_ret (v:=.tuple #[.agg #[_,_,_,_,_,_],_]) (by simp[results,Tryz.results180,go_sem,f0,f1,f2,f3,f4,f5];first|exact⟨⟨rfl,rfl,rfl,rfl,rfl,rfl⟩,rfl⟩|rfl) rfl ?_;exact HR.out
theorem aaZ{d:Dy}(hx:DyP p w v d)(hT:Tab w)(he:d.exp<0)(hs:SmQ d):
 Calls Tryz.prog 52 #[v] w (RetZ w.heap.size w (flrD d)):=by
 obtain⟨R,hR⟩:∃R,flrD d=R:=⟨_,rfl⟩;rw[hR];obtain⟨k,hk⟩:∃k:Nat,-d.exp=(k:Int):=⟨(-d.exp).toNat,by omega⟩;have hk1:k<=16777216:=by have:=hs.2;omega
 have hRR:d.man/((2^k:Nat):Int)=R:=by rw[<-hR];unfold flrD;rw[if_neg (by omega),hk];rfl
 obtain⟨b,A,n,c,rfl,h⟩:=hx;obtain⟨ex,hex⟩:∃ex,d.exp=ex:=⟨_,rfl⟩;rw[hex]at hk he|-;have hwr:IntKind.i64.wrap (-ex)=(k:Int):=by rw[hk];exact wrap_i64 (by omega)
 have hge:¬(0<=ex):=by omega
 obtain⟨w2,hw2,hb2,hs2,b1,b2⟩:=pro2 w (.cells #[.bool b,.slice A n c,.int .i64 ex] 90) (.cells #[Value.bool false,.slice none 0 0] 75);have HB:=hdd hb2;have B2:=hdd b2;have HS:=hdd hs2;have HF:=hdd (aaW (n:=k) (h.below hb2) (hT.below hb2) hk1 (by have:=hs.1;omega));rw[hRR]at HF;obtain⟨c0,c1,c2,-,-,-⟩:=cells3 b1;clear hb2 b1 b2 hs2 h hT hs hR hRR hex;go_enter Tryz.func52,Tryz.ntmps52
 go_wp2_with fail
 refine HF.out.mono ?_;rintro e w9⟨hb9,v9,rfl,h⟩;obtain⟨b',A',n',c',rfl⟩:=h.shape;have B9:=hbl B2.out hb9;obtain⟨HF,hF⟩:=dC (HB.out.trans (hb9.mono HB.out.size)) (by omega) B9 h (g:=w.heap.size+1) (fun b hb=>by have:=HS.out;omega);obtain⟨e0,e1,e2,e3⟩:=aB B9;replace hF:=hdd hF;clear hb9 h B9;go_wp2;obtain⟨f0,f1,-,-⟩:=aB hF.out;refine bodyPost_ret (v:=.agg #[_,_]) (by simp[results,Tryz.results52,go_sem,f0,f1];first|exact⟨rfl,rfl⟩|rfl) rfl ?_;exact HF.out
theorem adH(hx:DyP p w va x)(hy:DyP q w vb y)(hT:Tab w)(sx:SmQ x)(sy:SmQ y)(cy:Canon y):
 Calls Tryz.prog 87 #[va,vb] w (RetD w.heap.size w (vD x y)):=by
 obtain⟨ba,A,n,c,rfl,h⟩:=hx;obtain⟨bb,A',n',c',rfl,h'⟩:=hy;obtain⟨w3,hw3,hb3,hs3,b1,b2,b3⟩:=pro3 w (.cells #[.bool ba,.slice A n c,.int .i64 x.exp] 90) (.cells #[.bool bb,.slice A' n' c',.int .i64 y.exp] 90) (.cells #[Value.bool false,Value.slice none 0 0,.int .i64 0] 90);have HB:=hdd hb3;have B3:=hdd b3;have HS:=hdd hs3;have HT:=hdd (hT.below hb3);have HSM:=hdd (And.intro sx (And.intro sy cy));obtain⟨c0,c1,c2,-,-,-⟩:=cells3 b1;obtain⟨d0,d1,d2,-,-,-⟩:=cells3 b2;have HX:=hdd (h.below hb3);have HN:=hdd (nQ (show DyP q w3.drew (.agg #[.bool bb,.slice A' n' c',.int .i64 y.exp]) y from⟨_,_,_,_,rfl,(h'.below hb3).below ((Below.refl _ _).drew (w:=w3))⟩) (HT.out.below ((Below.refl _ _).drew (w:=w3))) (by have:=sy.1;omega) (by have:=sy.2;omega));clear h h' hb3 b1 b2 b3 hs3 hT sx sy cy;go_enter Tryz.func87,Tryz.ntmps87
 go_wp2_with fail
 have n1:w.heap.size+1≠w.heap.size:=by omega
 have n2:w.heap.size+2≠w.heap.size:=by omega
 have n3:w.heap.size+2≠w.heap.size+1:=by omega
 go_region_held3 (fun w'=>w'.cell? ⟨w.heap.size,0,none⟩=some (.bool ba)/\w'.cell? ⟨w.heap.size,1,none⟩=some (.slice A n c)/\w'.cell? ⟨w.heap.size,2,none⟩=some (.int .i64 x.exp)/\w'.cell? ⟨w.heap.size+1,0,none⟩=some (.bool bb)/\w'.cell? ⟨w.heap.size+1,1,none⟩=some (.slice A' n' c')/\w'.cell? ⟨w.heap.size+1,2,none⟩=some (.int .i64 y.exp)) (go_keep)
  (first
  |(go_at_call 89
    refine HN.out.mono ?_;rintro r w5⟨hb,v5,rfl,hz⟩;have HB5:Hid (Below w3.heap.size w3 w5):=hdd ((Below.refl _ _).drew.trans hb);have c0:=cbl c0 HB5.out;have c1:=cbl c1 HB5.out;have c2:=cbl c2 HB5.out;have d0:=cbl d0 HB5.out;have d1:=cbl d1 HB5.out;have d2:=cbl d2 HB5.out;have HAD:=hdd (sK (w:=w5) ((show DyP p w5 (.agg #[.bool ba,.slice A n c,.int .i64 x.exp]) x from⟨_,_,_,_,rfl,HX.out.below HB5.out⟩).weak (q:=(· <w5.heap.size)) fun b _ h=>h) (hz.weak (q:=(· <w5.heap.size)) fun b _ h=>h) (HT.out.below HB5.out) (fun _ h=>h) (fun _ h=>h) HSM.out.1.smD (kP HSM.out.2.2 HSM.out.2.1).smD);obtain⟨b5,A5,n5,c5,rfl,hz⟩:=hz;clear hb hz)
  |(go_at_call 137
    refine HAD.out.mono ?_;rintro r w6⟨hb,v6,hz⟩;obtain⟨rfl,hz⟩:=hz;obtain⟨b6,A6,n6,c6,rfl,-⟩:=id hz;have c0:=cbl c0 hb;have c1:=cbl c1 hb;have c2:=cbl c2 hb;have d0:=cbl d0 hb;have d1:=cbl d1 hb;have d2:=cbl d2 hb;have HSZ:=hdd HB5.out.size;have HB6:=hdd (HB5.out.trans (hb.mono HB5.out.size));have HF:=hdd hz;have B36:=hdd (hbl B3.out HB6.out);obtain⟨e0,e1,e2,e3,e4,e5⟩:=cells3 B36.out;clear hb hz))
 obtain⟨HFF,hFF⟩:=aJ (HB.out.trans (HB6.out.mono HB.out.size)) (g:=w.heap.size+2) (by omega) B36.out HF.out (fun b hb=>by have:=HS.out;have:=HSZ.out;omega);replace hFF:=hdd hFF;replace HFF:Hid (RetD w.heap.size w (vD x y) _ _):=HFF;go_wp2;obtain⟨f0,f1,f2,-,-,-⟩:=cells3 hFF.out;refine bodyPost_ret (v:=.agg #[_,_,_]) (by simp[results,Tryz.results87,go_sem,f0,f1,f2];first|exact⟨rfl,rfl,rfl⟩|rfl) rfl ?_;exact HFF.out
end
end Go.Proofs.YtkadpnljocflaaaGreatDoor
