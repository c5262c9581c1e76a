/- A part of the proof: contracts of functions and plain laws (BalA, BlR, BlS, DyW). -/
import Derived.Test.YtkadpnljocflaaaGreatDoorK14
set_option linter.unusedVariables false
set_option linter.unusedSimpArgs false
set_option linter.unnecessarySimpa false
set_option maxHeartbeats 25600000
set_option maxRecDepth 100000
namespace Go.Proofs.YtkadpnljocflaaaGreatDoor
section
open Go.RowKit
open Go.RowKit.Below renaming heap_setCell->avJ
variable{g:Nat}{p:Nat->Prop}{T:TypeId}{a b c d e f va:Value}{w:World}
theorem aG(h:w.heap[g]? =some (.cells #[a,b,c,d,e,f] T (0,0))):
 w.cell? ⟨g,0,none⟩=some a/\w.cell? ⟨g,1,none⟩=some b/\w.cell? ⟨g,2,none⟩=some c/\w.cell? ⟨g,3,none⟩=some d/\w.cell? ⟨g,4,none⟩=some e/\w.cell? ⟨g,5,none⟩=some f:=by
 refine⟨?_,?_,?_,?_,?_,?_⟩<;>simp[World.cell?,h]
theorem fC(h:w.heap[g]? =some (.cells #[a,b,c,d,e,f] T (0,0))):
 w.frozen? ⟨g,0,none⟩=false/\w.frozen? ⟨g,1,none⟩=false/\w.frozen? ⟨g,2,none⟩=false/\w.frozen? ⟨g,3,none⟩=false/\w.frozen? ⟨g,4,none⟩=false/\w.frozen? ⟨g,5,none⟩=false:=by
 refine⟨?_,?_,?_,?_,?_,?_⟩<;>simp[World.frozen?,h]
def put6(w:World)(g:Nat)(a b c d e f:Value):World:=
 (((((w.setCell ⟨g,0,none⟩ a).setCell ⟨g,1,none⟩ b).setCell ⟨g,2,none⟩ c).setCell ⟨g,3,none⟩ d).setCell ⟨g,4,none⟩ e).setCell ⟨g,5,none⟩ f
theorem gP(h:w.heap[g]? =some (.cells #[a,b,c,d,e,f] T (0,0)))(u v x y z t:Value):
 (put6 w g u v x y z t).heap[g]? =some (.cells #[u,v,x,y,z,t] T (0,0)):=by
 have hg:g<w.heap.size:=(Array.getElem?_eq_some_iff.1 h).1;have h':w.heap[g]=.cells #[a,b,c,d,e,f] T (0,0):=(Array.getElem?_eq_some_iff.1 h).2;simp[put6,World.setCell,hg,Array.getElem_modify,h']
theorem eZ{B:Nat}{w0:World}(hb:Below B w0 w)(hg:B<=g)(u v x y z t:Value):Below B w0 (put6 w g u v x y z t):=
 (((((hb.setCell hg _).setCell hg _).setCell hg _).setCell hg _).setCell hg _).setCell hg _
theorem sS{i:Nat}(h:g≠i)(u v x y z t:Value):(put6 w g u v x y z t).heap[i]? =w.heap[i]? :=by
 unfold put6;rw[avJ _ _ _ _ (by simp;omega),avJ _ _ _ _ (by simp;omega),avJ _ _ _ _ (by simp;omega),avJ _ _ _ _ (by simp;omega),avJ _ _ _ _ (by simp;omega),avJ _ _ _ _ (by simp;omega)]
theorem iE{z0:Int}(h:IntP p w va z0)(ha:∀b,p b->b≠g)(u v x y z t:Value):IntP p (put6 w g u v x y z t) va z0:=
 (((((h.setCell (a:=⟨g,0,none⟩) ha u).setCell (a:=⟨g,1,none⟩) ha v).setCell (a:=⟨g,2,none⟩) ha x).setCell (a:=⟨g,3,none⟩) ha y).setCell (a:=⟨g,4,none⟩) ha z).setCell (a:=⟨g,5,none⟩) ha t
theorem afY{x:Dy}(hx:DyP p w va x)(hT:Tab w)(sx:SmD x):
 Calls Tryz.prog 251 #[va] w (RetD w.heap.size w (mkDy x.man x.exp)):=by
 obtain⟨ba,A,n,c,rfl,h⟩:=hx;obtain⟨w2,hw2,hb2,hs2,b1,b2⟩:=pro2 w (.cells #[Value.bool ba,.slice A n c,.int .i64 x.exp] 90) (.cells #[Value.bool false,Value.slice none 0 0,.int .i64 0] 90);have HB:=hdd hb2;have HS:=hdd hs2;have B2:=hdd b2;obtain⟨c0,c1,c2,-,-,-⟩:=cells3 b1;have HMK:=hdd (bX (e:=x.exp) (h.below hb2) (hT.below hb2) (by have:=sx.1;omega) (by have:=sx.2;omega));clear h hb2 b1 b2 hs2 hT sx;go_enter Tryz.func251,Tryz.ntmps251
 go_wp2_with fail
 refine HMK.out.mono ?_;rintro r w3⟨hb,v5,rfl,hz⟩;obtain⟨b6,A6,n6,c6,rfl,-⟩:=id hz;have B23:=hbl B2.out hb;obtain⟨e0,e1,e2,e3,e4,e5⟩:=cells3 B23;obtain⟨HFF,hFF⟩:=aJ (HB.out.trans (hb.mono HB.out.size)) (g:=w.heap.size+1) (by omega) B23 hz (fun b hb=>by have:=HS.out;omega);replace hFF:=hdd hFF;clear hz hb B23 c0 c1 c2;go_wp2;obtain⟨f0,f1,f2,-,-,-⟩:=cells3 hFF.out;refine bodyPost_ret (v:=.agg #[_,_,_]) (by simp[results,Tryz.results251,go_sem,f0,f1,f2];first|exact⟨rfl,rfl,rfl⟩|rfl) rfl ?_;exact HFF.out
end
section
open Re (rat)
open Int renaming sign_eq_neg_one_iff_neg->avL,sign_eq_one_iff_pos->avN
open Rat renaming le_trans->avK,le_refl->avM,mul_nonneg->avO
variable{P:Int}{L p q x y z:Re}
structure Bl where
 lo:Dy
 hi:Dy
def In(x:Re)(b:Bl):Prop:=rat (rv b.lo)<=x/\x<=rat (rv b.hi)
def atB(v:Dy):Bl:=⟨v,v⟩
def notB(b:Bl):Bl:=⟨notD b.hi,notD b.lo⟩
def addB(a b:Bl)(P:Int):Bl:=⟨aM (addD a.lo b.lo) P (-1),aM (addD a.hi b.hi) P 1⟩
def minD(x lo:Dy):Dy:=if cmpD x lo<0 then x else lo
def maxD(x hi:Dy):Dy:=if 0<cmpD x hi then x else hi
def aiZ(a b:Bl):Dy:=minD (mulD a.hi b.hi) (minD (mulD a.hi b.lo) (minD (mulD a.lo b.hi) (mulD a.lo b.lo)))
def ai0(a b:Bl):Dy:=maxD (mulD a.hi b.hi) (maxD (mulD a.hi b.lo) (maxD (mulD a.lo b.hi) (mulD a.lo b.lo)))
def mulB(a b:Bl)(P:Int):Bl:=⟨aM (aiZ a b) P (-1),aM (ai0 a b) P 1⟩
def jH(a b:Bl)(P:Int):Dy:=minD (quoD a.hi b.hi P (-1)) (minD (quoD a.hi b.lo P (-1)) (minD (quoD a.lo b.hi P (-1)) (quoD a.lo b.lo P (-1))))
def jI(a b:Bl)(P:Int):Dy:=maxD (quoD a.hi b.hi P 1) (maxD (quoD a.hi b.lo P 1) (maxD (quoD a.lo b.hi P 1) (quoD a.lo b.lo P 1)))
def quoB(a b:Bl)(P:Int):Option Bl:=if b.lo.man.sign=b.hi.man.sign/\b.lo.man.sign≠0 then some ⟨jH a b P,jI a b P⟩else none
def aR(a:Bl):Dy:=if a.lo.man<0 then⟨0,0⟩else a.lo
def mP(a:Bl)(P:Int):Option Bl:=if a.hi.man<0 then none else some ⟨aL (aR a) P (-1),aL a.hi P 1⟩
theorem sU(x y:Dy):rv (minD x y)<=rv x/\rv (minD x y)<=rv y/\(minD x y=x\/minD x y=y):=by
 unfold minD;have:=(afQ x y).1
 split
 . rename_i h;have:=this.1 h;exact⟨avM,by grind,Or.inl rfl⟩
 . rename_i h
   have:¬rv x<rv y:=fun h'=>h (this.2 h');exact⟨by grind,avM,Or.inr rfl⟩
theorem sV(x y:Dy):rv x<=rv (maxD x y)/\rv y<=rv (maxD x y)/\(maxD x y=x\/maxD x y=y):=by
 unfold maxD;have:=(afQ x y).2
 split
 . rename_i h;have:=this.1 h;exact⟨avM,by grind,Or.inl rfl⟩
 . rename_i h
   have:¬rv y<rv x:=fun h'=>h (this.2 h');exact⟨by grind,avM,Or.inr rfl⟩
theorem oG(a b c d:Dy):let m:=minD a (minD b (minD c d));rv m<=rv a/\rv m<=rv b/\rv m<=rv c/\rv m<=rv d/\(m=a\/m=b\/m=c\/m=d):=by
 obtain⟨h1,h2,h3⟩:=sU c d;obtain⟨k1,k2,k3⟩:=sU b (minD c d);obtain⟨j1,j2,j3⟩:=sU a (minD b (minD c d));refine⟨j1,by grind,by grind,by grind,?_⟩;rcases j3 with j3|j3<;>rw[j3]
 . exact Or.inl rfl
 . rcases k3 with k3|k3<;>rw[k3]
   . exact Or.inr (Or.inl rfl)
   . rcases h3 with h3|h3<;>rw[h3]
     . exact Or.inr (Or.inr (Or.inl rfl))
     . exact Or.inr (Or.inr (Or.inr rfl))
theorem oH(a b c d:Dy):let m:=maxD a (maxD b (maxD c d));rv a<=rv m/\rv b<=rv m/\rv c<=rv m/\rv d<=rv m/\(m=a\/m=b\/m=c\/m=d):=by
 obtain⟨h1,h2,h3⟩:=sV c d;obtain⟨k1,k2,k3⟩:=sV b (maxD c d);obtain⟨j1,j2,j3⟩:=sV a (maxD b (maxD c d));refine⟨j1,by grind,by grind,by grind,?_⟩;rcases j3 with j3|j3<;>rw[j3]
 . exact Or.inl rfl
 . rcases k3 with k3|k3<;>rw[k3]
   . exact Or.inr (Or.inl rfl)
   . rcases h3 with h3|h3<;>rw[h3]
     . exact Or.inr (Or.inr (Or.inl rfl))
     . exact Or.inr (Or.inr (Or.inr rfl))
namespace Re
theorem lin_ge(h1:p<=x)(h2:x<=q)(k1:L<=p*y)(k2:L<=q*y):L<=x*y:=by
 rcases le_total 0 y with h|h
 . exact le_trans k1 (mul_le_mul_right h h1)
 . refine le_trans k2 ?_
   have:=mul_le_mul_right (neg_nonneg.2 h) h2;rw[mul_neg,mul_neg]at this;have:=neg_le_neg this;rwa[neg_neg,neg_neg]at this
theorem lin_le(h1:p<=x)(h2:x<=q)(k1:p*y<=L)(k2:q*y<=L):x*y<=L:=by
 rcases le_total 0 y with h|h
 . exact le_trans (mul_le_mul_right h h2) k2
 . refine le_trans ?_ k1
   have:=mul_le_mul_right (neg_nonneg.2 h) h1;rw[mul_neg,mul_neg]at this;have:=neg_le_neg this;rwa[neg_neg,neg_neg]at this
theorem lin_ge'(h1:p<=x)(h2:x<=q)(k1:L<=y*p)(k2:L<=y*q):L<=y*x:=by
 rw[mul_comm y]at*;exact lin_ge h1 h2 k1 k2
theorem lin_le'(h1:p<=x)(h2:x<=q)(k1:y*p<=L)(k2:y*q<=L):y*x<=L:=by
 rw[mul_comm y]at*;exact lin_le h1 h2 k1 k2
theorem le_of_mul_pos(hz:0<z)(h:x*z<=y*z):x<=y:=by
 intro k;have k':y<x:=k;have:=mul_pos (sub_pos.2 k') hz;rw[sub_mul]at this;exact lt_irrefl _ (lt_of_lt_of_le (sub_pos.1 this) h)
theorem le_of_mul_neg(hz:z<0)(h:y*z<=x*z):x<=y:=by
 refine le_of_mul_pos (z:=-z) (neg_pos.2 hz) ?_;rw[mul_neg,mul_neg];exact neg_le_neg h
end Re
open Re
theorem akA{v:Dy}:In (rat (rv v)) (atB v):=⟨le_refl _,le_refl _⟩
theorem ajP{b:Bl}(h:In x b):In (-x) (notB b):=by
 unfold In notB;rw[mF,mF,rat_neg,rat_neg];exact⟨neg_le_neg h.2,neg_le_neg h.1⟩
theorem afZ{a b:Bl}(hP:1<=P)(h:In x a)(k:In y b):In (x+y) (addB a b P):=by
 unfold In addB;have h1:=(iQ (addD a.lo b.lo) (-1) hP).1 (by decide);have h2:=(iQ (addD a.hi b.hi) 1 hP).2.1 (by decide);rw[wP]at h1 h2;have h1:=rat_le.2 h1;have h2:=rat_le.2 h2;rw[rat_add]at h1 h2;exact⟨le_trans h1 (add_le_add h.1 k.1),le_trans (add_le_add h.2 k.2) h2⟩
theorem ajQ{a b:Bl}(hP:1<=P)(h:In x a)(k:In y b):In (x*y) (mulB a b P):=by
 unfold In mulB;have h1:=(iQ (aiZ a b) (-1) hP).1 (by decide);have h2:=(iQ (ai0 a b) 1 hP).2.1 (by decide);obtain⟨l1,l2,l3,l4,-⟩:=oG (mulD a.hi b.hi) (mulD a.hi b.lo) (mulD a.lo b.hi) (mulD a.lo b.lo);obtain⟨m1,m2,m3,m4,-⟩:=oH (mulD a.hi b.hi) (mulD a.hi b.lo) (mulD a.lo b.hi) (mulD a.lo b.lo);have h1:=rat_le.2 h1;have h2:=rat_le.2 h2;have l1:=rat_le.2 l1;have l2:=rat_le.2 l2;have l3:=rat_le.2 l3;have l4:=rat_le.2 l4;have m1:=rat_le.2 m1;have m2:=rat_le.2 m2;have m3:=rat_le.2 m3;have m4:=rat_le.2 m4;rw[wQ,rat_mul]at l1 l2 l3 l4 m1 m2 m3 m4;refine⟨le_trans h1 (lin_ge h.1 h.2 (lin_ge' k.1 k.2 l4 l3) (lin_ge' k.1 k.2 l2 l1)),le_trans (lin_le h.1 h.2 (lin_le' k.1 k.2 m4 m3) (lin_le' k.1 k.2 m2 m1)) h2⟩
theorem iZ{b:Bl}(h:b.lo.man.sign=b.hi.man.sign/\b.lo.man.sign≠0):(0<b.lo.man/\0<b.hi.man)\/(b.lo.man<0/\b.hi.man<0):=by
 obtain⟨h1,h2⟩:=h;rcases Int.lt_trichotomy b.lo.man 0 with g|g|g
 . right;refine⟨g,?_⟩
   rw[avL.2 g]at h1;exact avL.1 h1.symm
 . rw[g]at h2;exact absurd rfl h2
 . left;refine⟨g,?_⟩
   rw[avN.2 g]at h1;exact avN.1 h1.symm
theorem qU(x y:Rat)(h:y≠0):∃t:Rat,t*y=x:=⟨x/y,by grind⟩
theorem ajR{a b r:Bl}(hP:1<=P)(h:In x a)(k:In y b)(hz:z*y=x)(hr:quoB a b P=some r):In z r:=by
 unfold quoB at hr
 split at hr
 . rename_i hs
   injection hr with hr;subst hr;obtain⟨l1,l2,l3,l4,-⟩:=oG (quoD a.hi b.hi P (-1)) (quoD a.hi b.lo P (-1)) (quoD a.lo b.hi P (-1)) (quoD a.lo b.lo P (-1));obtain⟨m1,m2,m3,m4,-⟩:=oH (quoD a.hi b.hi P 1) (quoD a.hi b.lo P 1) (quoD a.lo b.hi P 1) (quoD a.lo b.lo P 1);have n1:b.lo.man≠0:=by rcases iZ hs with g|g<;>omega
   have n2:b.hi.man≠0:=by rcases iZ hs with g|g<;>omega
   have v1:rv b.lo≠0:=fun g=>n1 ((aW _).2.2.1 g);have v2:rv b.hi≠0:=fun g=>n2 ((aW _).2.2.1 g);obtain⟨t1,e1⟩:=qU (rv a.hi) (rv b.hi) v2;obtain⟨t2,e2⟩:=qU (rv a.hi) (rv b.lo) v1;obtain⟨t3,e3⟩:=qU (rv a.lo) (rv b.hi) v2;obtain⟨t4,e4⟩:=qU (rv a.lo) (rv b.lo) v1;have d1:=(jG a.hi b.hi (-1) hP n2 e1).1 (by decide);have d2:=(jG a.hi b.lo (-1) hP n1 e2).1 (by decide);have d3:=(jG a.lo b.hi (-1) hP n2 e3).1 (by decide);have d4:=(jG a.lo b.lo (-1) hP n1 e4).1 (by decide);have u1:=(jG a.hi b.hi 1 hP n2 e1).2.1 (by decide);have u2:=(jG a.hi b.lo 1 hP n1 e2).2.1 (by decide);have u3:=(jG a.lo b.hi 1 hP n2 e3).2.1 (by decide);have u4:=(jG a.lo b.lo 1 hP n1 e4).2.1 (by decide);show rat (rv (jH a b P))<=z/\z<=rat (rv (jI a b P));have hL:rv (jH a b P)<=t1/\rv (jH a b P)<=t2/\rv (jH a b P)<=t3/\rv (jH a b P)<=t4:=
    ⟨avK l1 d1,avK l2 d2,avK l3 d3,avK l4 d4⟩
   have hH:t1<=rv (jI a b P)/\t2<=rv (jI a b P)/\t3<=rv (jI a b P)/\t4<=rv (jI a b P):=
    ⟨avK u1 m1,avK u2 m2,avK u3 m3,avK u4 m4⟩
   generalize rv (jH a b P)=L at*;generalize rv (jI a b P)=H at*;have key:∀u v:Rat,∀c:Rat,u<=v->(0<=c->u*c<=v*c)/\(c<=0->v*c<=u*c):=fun u v c huv=>by
    constructor
    . intro hc;have:=avO (a:=v-u) (b:=c) (by grind) hc;grind
    . intro hc;have:=avO (a:=v-u) (b:=-c) (by grind) (by grind);grind
   rcases iZ hs with ⟨g1,g2⟩|⟨g1,g2⟩
   . have p1:0<rv b.lo:=(aW _).1.2 g1
     have p2':0<rv b.hi:=(aW _).1.2 g2;have hy:0<y:=lt_of_lt_of_le (by rw[zero_rat,rat_lt];exact p1) k.1;constructor
     . refine le_of_mul_pos hy ?_
       rw[hz];refine le_trans ?_ h.1;refine lin_le' k.1 k.2 ?_ ?_<;>rw[<-rat_mul,rat_le]
       . rw[<-e4];exact(key _ _ _ hL.2.2.2).1 (by grind)
       . rw[<-e3];exact(key _ _ _ hL.2.2.1).1 (by grind)
     . refine le_of_mul_pos hy ?_
       rw[hz];refine le_trans h.2 ?_;refine lin_ge' k.1 k.2 ?_ ?_<;>rw[<-rat_mul,rat_le]
       . rw[<-e2];exact(key _ _ _ hH.2.1).1 (by grind)
       . rw[<-e1];exact(key _ _ _ hH.1).1 (by grind)
   . have p1:rv b.lo<0:=(aW _).2.1.2 g1
     have p2':rv b.hi<0:=(aW _).2.1.2 g2;have hy:y<0:=lt_of_le_of_lt k.2 (by rw[zero_rat,rat_lt];exact p2');constructor
     . refine le_of_mul_neg hy ?_
       rw[hz];refine le_trans h.2 ?_;refine lin_ge' k.1 k.2 ?_ ?_<;>rw[<-rat_mul,rat_le]
       . rw[<-e2];exact(key _ _ _ hL.2.1).2 (by grind)
       . rw[<-e1];exact(key _ _ _ hL.1).2 (by grind)
     . refine le_of_mul_neg hy ?_
       rw[hz];refine le_trans ?_ h.1;refine lin_le' k.1 k.2 ?_ ?_<;>rw[<-rat_mul,rat_le]
       . rw[<-e4];exact(key _ _ _ hH.2.2.2).2 (by grind)
       . rw[<-e3];exact(key _ _ _ hH.2.2.1).2 (by grind)
 . cases hr
theorem jW(a:Bl):0<=(aR a).man/\rv a.lo<=rv (aR a)/\(rv (aR a)=rv a.lo\/rv (aR a)=0):=by
 unfold aR
 split
 . rename_i h
   refine⟨Int.le_refl _,?_,Or.inr (kL 0)⟩;have:=(aW a.lo).2.1.2 h;rw[kL];grind
 . rename_i h;exact⟨by omega,avM,Or.inl rfl⟩
theorem abW{s:Re}{a:Bl}(hP:1<=P)(h:In x a)(hs:0<=s)(hx:s*s=x):∃r,mP a P=some r/\In s r:=by
 have hx0:0<=x:=by rw[<-hx];exact sq_nonneg s
 have hhi:0<=rv a.hi:=by have:=le_trans hx0 h.2;rw[zero_rat,rat_le]at this;exact this
 have hm:0<=a.hi.man:=by
  rcases Int.lt_or_le a.hi.man 0 with g|g
  . have:=(aW a.hi).2.1.2 g;grind
  . exact g
 unfold mP;rw[if_neg (by omega)];refine⟨_,rfl,?_,?_⟩
 . obtain⟨k1,k2,k3⟩:=jW a
   obtain⟨q,q',q1,q2,q3,q4,q5,q6,-⟩:=oF (aR a) (-1) hP k1;show rat (rv (aL (aR a) P (-1)))<=s;refine le_trans (rat_le.2 (q6 (by decide))) (le_of_sq hs ?_);rw[hx,<-rat_mul];refine le_trans (rat_le.2 q3) ?_;rcases k3 with k3|k3<;>rw[k3]
   . exact h.1
   . exact hx0
 . obtain⟨q,q',q1,q2,q3,q4,q5,-,q7,-⟩:=oF a.hi 1 hP hm
   show s<=rat (rv (aL a.hi P 1));refine le_trans (le_of_sq (y:=rat q') ?_ ?_) (rat_le.2 (q7 (by decide)))
   . rw[zero_rat,rat_le];grind
   . rw[hx,<-rat_mul];exact le_trans h.2 (rat_le.2 q4)
end
section
variable{d x y:Dy}{B C E F P:Int}
def Sz(B E:Int)(d:Dy):Prop:=Canon d/\(bits d.man.natAbs:Int)<=B/\(d.man≠0->-E<=d.exp/\topD d<=E)
def SzB(B E:Int)(b:Bl):Prop:=Sz B E b.lo/\Sz B E b.hi
theorem Sz.mono (h:Sz B E d)(hB:B<=C)(hE:E<=F):Sz C F d:=
 ⟨h.1,by have:=h.2.1;omega,fun hn=>by have:=h.2.2 hn;omega⟩
theorem SzB.mono {b:Bl}(h:SzB B E b)(hB:B<=C)(hE:E<=F):SzB C F b:=⟨h.1.mono hB hE,h.2.mono hB hE⟩
theorem Sz.zero (hB:0<=B):Sz B E ⟨0,0⟩:=⟨aS 0,by show((bits 0:Nat):Int)<=B;have:bits 0=0:=rfl;omega,fun h=>absurd rfl h⟩
theorem kM(h:d.man≠0):d.exp+1<=topD d:=by
 unfold topD;rw[if_neg h];have:bits d.man.natAbs≠0:=fun h'=>h (by have:=(bK _).1 h';omega);omega
theorem Sz.lt (h:Sz B E d):-p2 E<rv d/\rv d<p2 E:=by
 by_cases hn:d.man=0
 . have e0:rv d=0:=(aW d).2.2.2 hn
   have:=bC E;rw[e0];constructor<;>grind
 . have h1:=afR d
   have h2:=iC (h.2.2 hn).2;constructor<;>grind
theorem pI(hn:d.man≠0)(h1:-p2 E<rv d)(h2:rv d<p2 E):topD d<=E:=by
 have h3:p2 (topD d-1)<p2 E:=by rcases o9 d hn with h|h<;>grind
 have:=ac5.1 h3;omega
theorem kZ{x e:Int}(h:(mkDy x e).man≠0):e<=(mkDy x e).exp:=by
 rcases gW x e with ⟨h1,h2⟩|⟨h1,h2,h3,h4⟩
 . rw[h1]at h;exact absurd rfl h
 . exact h3
theorem sW{a:Dy}(dir:Int)(hP:1<=P)(h:(mkDy a.man a.exp).man≠0->-E<=(mkDy a.man a.exp).exp/\topD (mkDy a.man a.exp)<=E):Sz P (E+1) (aM a P dir):=by
 obtain⟨k1,k2,k3⟩:=sP (a:=a) dir hP;refine⟨k1,k2,fun hn=> ?_⟩;obtain⟨j1,j2⟩:=k3 hn;by_cases h0:(mkDy a.man a.exp).man=0
 . exfalso;apply hn
   have h1:a.man=0:=by
    rcases gW a.man a.exp with ⟨g1,g2⟩|⟨g1,g2,-⟩
    . exact g2
    . exact absurd h0 g2
   unfold aM;rw[h1,aS,if_pos (by show((bits 0:Nat):Int)<=P;have:bits 0=0:=rfl;omega)]
 . have:=h h0
   omega
theorem aaX(x y:Dy):Canon (addD x y):=by
 unfold addD;split
 . exact Canon.mk _ _
 . split<;>exact Canon.mk _ _
theorem af0(dir:Int)(hP:1<=P)(h:Sz B E x)(k:Sz C F y):Sz P (max E F+2) (aM (addD x y) P dir):=by
 refine Sz.mono (sW (E:=max E F+1) dir hP ?_) (Int.le_refl _) (by omega);rw[show mkDy (addD x y).man (addD x y).exp=addD x y from aaX x y];intro hn;constructor
 . by_cases hx:x.man=0
   . have e:addD x y=mkDy y.man y.exp:=by unfold addD;rw[if_pos hx]
     rw[e]at hn|-;have h1:=kZ hn;have hy:y.man≠0:=fun hy=>hn (by rw[hy,aS]);have:=(k.2.2 hy).1;omega
   . by_cases hy:y.man=0
     . have e:addD x y=mkDy x.man x.exp:=by unfold addD;rw[if_neg hx,if_pos hy]
       rw[e]at hn|-;have h1:=kZ hn;have:=(h.2.2 hx).1;omega
     . have e:addD x y=mkDy (dF x y+dG x y) (min x.exp y.exp):=by unfold addD;rw[if_neg hx,if_neg hy]
       rw[e]at hn|-;have h1:=kZ hn;have:=(h.2.2 hx).1;have:=(k.2.2 hy).1;omega
 . have h1:=h.lt;have h2:=k.lt
   have h3:=iC (show E<=max E F by omega);have h4:=iC (show F<=max E F by omega);have h5:=fV (max E F);refine pI hn ?_ ?_<;>rw[wP]<;>grind
theorem mul_lt{x y X Y:Rat}(h1:-X<x)(h2:x<X)(h3:-Y<y)(h4:y<Y):-(X*Y)<x*y/\x*y<X*Y:=wI h1 h2 h3 h4
theorem qV(h:Sz B E x)(k:Sz C F y)(hn:(mulD x y).man≠0):-(E+F)<=(mulD x y).exp/\topD (mulD x y)<=E+F:=by
 have hx:x.man≠0:=fun hx=>hn (by unfold mulD;rw[hx,Int.zero_mul,aS]);have hy:y.man≠0:=fun hy=>hn (by unfold mulD;rw[hy,Int.mul_zero,aS]);constructor
 . have h1:x.exp+y.exp<=(mulD x y).exp:=kZ hn
   have:=(h.2.2 hx).1;have:=(k.2.2 hy).1;omega
 . have h1:=h.lt;have h2:=k.lt
   have:=mul_lt h1.1 h1.2 h2.1 h2.2;rw[<-bZ]at this;exact pI hn (by rw[wQ];exact this.1) (by rw[wQ];exact this.2)
theorem ajS{a b:Bl}(hP:1<=P)(h:SzB B E a)(k:SzB C F b):SzB P (E+F+1) (mulB a b P):=by
 have key:∀m:Dy,(m=mulD a.hi b.hi\/m=mulD a.hi b.lo\/m=mulD a.lo b.hi\/m=mulD a.lo b.lo)->(mkDy m.man m.exp).man≠0->-(E+F)<=(mkDy m.man m.exp).exp/\topD (mkDy m.man m.exp)<=E+F:=by
  intro m hm hn;have hc:mkDy m.man m.exp=m:=by rcases hm with hm|hm|hm|hm<;>rw[hm]<;>exact Canon.mk _ _
  rw[hc]at hn|-;rcases hm with hm|hm|hm|hm<;>rw[hm]at hn|-
  . exact qV h.2 k.2 hn
  . exact qV h.2 k.1 hn
  . exact qV h.1 k.2 hn
  . exact qV h.1 k.1 hn
 exact⟨sW (-1) hP (key _ (oG _ _ _ _).2.2.2.2),sW 1 hP (key _ (oH _ _ _ _).2.2.2.2)⟩
theorem qW(dir:Int)(hP:1<=P)(h:Sz B E x)(k:Sz C F y)(hy:y.man≠0):Sz P (E+F+P+4) (quoD x y P dir):=by
 obtain⟨k1,k2,k3⟩:=yQ x y dir hP hy;refine⟨k1,k2,fun hn=> ?_⟩;have hx:x.man≠0:=fun hx=>hn (by unfold quoD;rw[if_pos hx]);obtain⟨j1,j2⟩:=k3 hn;have:=h.2.2 hx;have:=k.2.2 hy;have:=kM hx;have:=kM hy;omega
theorem ajT{a b r:Bl}(hP:1<=P)(h:SzB B E a)(k:SzB C F b)(hr:quoB a b P=some r):SzB P (E+F+P+4) r:=by
 unfold quoB at hr
 split at hr
 . rename_i hs
   injection hr with hr;subst hr;have n1:b.lo.man≠0:=by rcases iZ hs with g|g<;>omega
   have n2:b.hi.man≠0:=by rcases iZ hs with g|g<;>omega
   have key:∀(m:Dy) (dir:Int),(m=quoD a.hi b.hi P dir\/m=quoD a.hi b.lo P dir\/m=quoD a.lo b.hi P dir\/m=quoD a.lo b.lo P dir)->Sz P (E+F+P+4) m:=by
    intro m dir hm;rcases hm with hm|hm|hm|hm<;>rw[hm]
    . exact qW dir hP h.2 k.2 n2
    . exact qW dir hP h.2 k.1 n1
    . exact qW dir hP h.1 k.2 n2
    . exact qW dir hP h.1 k.1 n1
   exact⟨key _ (-1) (oG _ _ _ _).2.2.2.2,key _ 1 (oH _ _ _ _).2.2.2.2⟩
 . cases hr
theorem yR(dir:Int)(hP:1<=P)(h:Sz B E x)(hE:0<=E)(hx:0<=x.man):Sz P (E+P+5) (aL x P dir):=by
 obtain⟨k1,k2,k3⟩:=ac6 x dir hP hx;refine⟨k1,k2,fun hn=> ?_⟩;have hx0:x.man≠0:=fun hx=>hn (by unfold aL;rw[if_pos hx]);obtain⟨j1,j2⟩:=k3 hn;have:=h.2.2 hx0;have:=kM hx0;omega
theorem ahZ{a r:Bl}(hP:1<=P)(h:SzB B E a)(hE:0<=E)(hB:0<=B)(hr:mP a P=some r):SzB P (E+P+5) r:=by
 unfold mP at hr
 split at hr
 . cases hr
 . rename_i hs
   injection hr with hr;subst hr;refine⟨yR (-1) hP (x:=aR a) (B:=B) (E:=E) ?_ hE (jW a).1,yR 1 hP h.2 hE (by omega)⟩;unfold aR;split
   . exact Sz.zero hB
   . exact h.1
theorem abX{a b:Bl}(hP:1<=P)(h:SzB B E a)(k:SzB C F b):SzB P (max E F+2) (addB a b P):=⟨af0 (-1) hP h.1 k.1,af0 1 hP h.2 k.2⟩
theorem abY(h:Sz B E d):Sz B E (notD d):=by
 have hm:(notD d).man=-d.man/\(notD d).exp=d.exp:=by
  have hc:=h.1;unfold Canon at hc;have h1:=abN d.man d.exp;rw[hc]at h1;by_cases h0:d.man=0
  . have:d.exp=0:=by rw[<-hc,h0,aS]
    unfold notD;rw[h0,this];exact⟨rfl,rfl⟩
  . unfold notD
    unfold mkDy at hc|-;rw[if_neg h0]at hc;rw[if_neg (by omega)];have e1:(-d.man).natAbs=d.man.natAbs:=by omega
    rw[e1];have hc1:sg (decide (d.man<0)) (d.man.natAbs/2^ctz d.man.natAbs)=d.man:=congrArg Dy.man hc;have hc2:d.exp+ctz d.man.natAbs=d.exp:=congrArg Dy.exp hc;refine⟨?_,hc2⟩;have:decide (-d.man<0)= !decide (d.man<0):=by
     by_cases g:d.man<0
     . rw[decide_eq_true g,decide_eq_false (by omega)];rfl
     . rw[decide_eq_false g,decide_eq_true (by omega)];rfl
    rw[this]
    conv=>rhs;rw[<-hc1]
    cases decide (d.man<0)<;>simp[sg]
 refine⟨Canon.mk _ _,by rw[hm.1,show(-d.man).natAbs=d.man.natAbs from by omega];exact h.2.1,fun hn=> ?_⟩;rw[hm.1]at hn;have hn':d.man≠0:=by omega
 have h2:=h.2.2 hn';refine⟨by rw[hm.2];exact h2.1,?_⟩;unfold topD at h2|-;rw[if_neg hn']at h2;rw[if_neg (by rw[hm.1];omega),hm.1,hm.2,show(-d.man).natAbs=d.man.natAbs from by omega];exact h2.2
theorem ah0{b:Bl}(h:SzB B E b):SzB B E (notB b):=⟨abY h.2,abY h.1⟩
end
section
open Go.RowKit
open Nat renaming le_trans->avP
variable{x:Dy}{P:Int}{p:Nat->Prop}{va:Value}{w:World}
theorem sZ{x o T:Nat}(k:Nat)(h:bits x<=T)(ho:o<=1:=by omega):bits (x/2^k+o)<=T+1:=by
 rw[aF]at*;have:=Nat.div_le_self x (2^k);have:=Nat.two_pow_pos T;rw[Nat.pow_succ];omega
theorem wV{dir:Int}(hx:DyP p w va x)(hT:Tab w)(sx:SmD x)(hP:1<=P/\P<=65536)(hb:¬(bits (mkDy x.man x.exp).man.natAbs:Int)<=P):
 Calls Tryz.prog 132 #[va,.int .i64 P,.int .i64 dir] w (RetD w.heap.size w (aM x P dir)):=by
 obtain⟨ba,A,n,c,rfl,h⟩:=hx;obtain⟨w2,hw2,hb2,hs2,b1,b2⟩:=pro2 w (.cells #[Value.bool ba,.slice A n c,.int .i64 x.exp] 90) (.cells #[Value.bool false,Value.slice none 0 0,.int .i64 0] 90);have HB:=hdd hb2;have HS:=hdd hs2;have B1:=hdd b1;have B2:=hdd b2;have HBI:=hdd hb;have HPP:=hdd hP;have HT0:=hdd hT;obtain⟨c0,c1,c2,-,-,-⟩:=cells3 b1;have HMK:=hdd (bX (e:=x.exp) (h.below hb2) (hT.below hb2) (by have:=sx.1;omega) (by have:=sx.2;omega));have hbm:=nO x.man x.exp;have hex:(mkDy x.man x.exp).man≠0->x.exp<=(mkDy x.man x.exp).exp/\(mkDy x.man x.exp).exp<=x.exp+134217728:=by
  intro hne;have hx0:x.man≠0:=fun h0=>hne (by rw[h0,aS]);obtain⟨k,k1,k2,k3,k4⟩:=gK x.man x.exp hx0;have:=sx.1;omega
 have hm0:(mkDy x.man x.exp).man≠0:=by
  intro h0;apply hb;rw[h0];show((bits 0:Nat):Int)<=P;have:bits 0=0:=rfl;omega
 have HM0:=hdd hm0;have HSX:Hid ((bits (mkDy x.man x.exp).man.natAbs<=134217728)/\-67108864<=(mkDy x.man x.exp).exp/\(mkDy x.man x.exp).exp<=67108864+134217728):=hdd (by have:=hex hm0;have:=sx.1;have:=sx.2;omega);have HRD:Hid (aM x P dir=mkDy (sg (decide ((mkDy x.man x.exp).man<0)) ((mkDy x.man x.exp).man.natAbs/2^((bits (mkDy x.man x.exp).man.natAbs:Int)-P).toNat+(outw (decide ((mkDy x.man x.exp).man<0)) dir).toNat))
  ((mkDy x.man x.exp).exp+((bits (mkDy x.man x.exp).man.natAbs:Int)-P))):=hdd (by unfold aM;rw[if_neg hb])
 clear h hb2 b1 b2 hs2 hT sx hb hbm hex hm0;go_enter Tryz.func132,Tryz.ntmps132
 go_wp2_with fail
 refine HMK.out.mono ?_;rintro r w3⟨hb,v5,rfl,hz⟩;obtain⟨b6,A6,n6,c6,rfl,hz2⟩:=id hz;have B13:=hbl B1.out hb;have B23:=hdd (hbl B2.out hb);obtain⟨e0,e1,e2,e3,e4,e5⟩:=cells3 B13;have S1:=set3 B13 (.bool b6) (.slice A6 n6 c6) (.int .i64 (mkDy x.man x.exp).exp);have hI:IntP (fun b=>w2.heap.size<=b) (((w3.setCell ⟨w.heap.size,0,none⟩ (.bool b6)).setCell ⟨w.heap.size,1,none⟩ (.slice A6 n6 c6)).setCell ⟨w.heap.size,2,none⟩ (.int .i64 (mkDy x.man x.exp).exp)) (.agg #[.bool b6,.slice A6 n6 c6]) (mkDy x.man x.exp).man:=
  ((hz2.setCell (fun b hb=>by have:=HS.out;simp;omega) _).setCell (fun b hb=>by have:=HS.out;simp;omega) _).setCell (fun b hb=>by have:=HS.out;simp;omega) _
 have S2:=(bW (w:=w3) (g:=w.heap.size) (i:=w.heap.size+1) (by omega) (.bool b6) (.slice A6 n6 c6) (.int .i64 (mkDy x.man x.exp).exp)).trans B23.out;have hbb:Below w.heap.size w (((w3.setCell ⟨w.heap.size,0,none⟩ (.bool b6)).setCell ⟨w.heap.size,1,none⟩ (.slice A6 n6 c6)).setCell ⟨w.heap.size,2,none⟩ (.int .i64 (mkDy x.man x.exp).exp)):=(((HB.out.trans (hb.mono HB.out.size)).setCell (by simp) _).setCell (by simp) _).setCell (by simp) _;have hT4:Tab (((w3.setCell ⟨w.heap.size,0,none⟩ (.bool b6)).setCell ⟨w.heap.size,1,none⟩ (.slice A6 n6 c6)).setCell ⟨w.heap.size,2,none⟩ (.int .i64 (mkDy x.man x.exp).exp)):=HT0.out.below hbb;generalize hE:(mkDy x.man x.exp).exp=E at*;generalize hW:((w3.setCell ⟨w.heap.size,0,none⟩ (.bool b6)).setCell ⟨w.heap.size,1,none⟩ (.slice A6 n6 c6)).setCell ⟨w.heap.size,2,none⟩ (.int .i64 E)=w4 at*;obtain⟨c0,c1,c2,-,-,-⟩:=cells3 S1;obtain⟨xs,hx1,hx2,hx3,hx4⟩:=hI.get;have HBT:=hdd (cO hx1);have HS1:=hdd S1;have HS2:=hdd S2;have HBB:=hdd hbb;have HX:=hdd hx1;have HX3:=hdd hx3;have HX4:=hdd hx4;have HT4:=hdd hT4
 obtain⟨k,hk⟩:∃k:Nat,(bits (val xs):Int)-P=k:=⟨((bits (val xs):Int)-P).toNat,by have:=HBI.out;rw[hx3];omega⟩;have hle:¬((k:Int)<=0):=by have h1:=HBI.out;rw[hx3]at hk;omega
 have hwr:IntKind.i64.wrap ((bits (val xs):Int)-P)=(k:Int):=(wrap_i64 (by have:=HPP.out;have:=HSX.out;rw[hx3];omega)).trans hk;have HWD:=fun w'=>pF (w:=w') HPP.out;clear hx1 hx2 hx3 hx4 hI S1 S2 hbb hz hz2 hb B13 hP hT4;go_wp2_with fail
 refine HBT.out.mono ?_;rintro r w5⟨rfl,k5,rfl⟩;have hd:=below_drewN w4 k5;replace c0:=cbl c0 hd;replace c1:=cbl c1 hd;replace c2:=cbl c2 hd;replace HX:=hdd (HX.out.below hd);replace HS2:=hdd (hbl HS2.out hd);replace HBB:=hdd (HBB.out.trans (hd.mono HBB.out.size));replace HT4:=hdd (HT4.out.below hd);clear hd HS1 HBT;generalize w4.drewN k5=w5 at*;have HWD5:=hdd (HWD w5);clear HWD;go_wp2_with fail
 refine HWD5.out.mono ?_;rintro r w6⟨rfl,hw⟩;obtain rfl:=hw;have HK:=hdd hk;have HRT:=hdd (iX (n:=k) HX.out (by have h1:=HK.out;rw[HX3.out]at h1;have:=HSX.out;have:=HPP.out;omega));clear HWD5 hk;go_wp2_with fail
 refine HRT.out.mono ?_;rintro r w6⟨hb,v6,ys,rfl,hy,ty,hvy⟩;obtain⟨A8,c8,rfl,-⟩:=id hy;replace c0:=cbl c0 hb;replace c1:=cbl c1 hb;replace c2:=cbl c2 hb;replace HS2:=hdd (hbl HS2.out hb);replace HBB:=hdd (HBB.out.trans (hb.mono HBB.out.size));replace HT4:=hdd (HT4.out.below hb);have HY:=hdd hy;have HVY:=hdd hvy;have HTY:=hdd ty;have HSZ:Hid (w2.heap.size<=w6.heap.size):=hdd (by have:=HBB.out.size;have:=aC HS2.out;have:=HS.out;omega);clear hb hy ty hvy HRT HX;go_wp2_with fail
 refine outward_any.mono ?_;rintro r w7⟨rfl,hw⟩;obtain rfl:=hw
 cases ho:outw b6 dir
 . go_wp2_with fail
   have hwr2:IntKind.i64.wrap (E+(k:Int))=E+(k:Int):=wrap_i64 (by have h1:=HK.out;rw[HX3.out]at h1;have:=HSX.out;have:=HPP.out;omega);have HWM:=hdd (bR (b:=b6) (HY.out.below ((Below.refl _ _).drew (w:=w6))));have hne1:w.heap.size+1≠w.heap.size:=by omega
   have HVL:Hid (bits (sg b6 (val ys)).natAbs<=1073741824):=hdd (by
    rw[bG,show val ys=val xs/2^k+0 from HVY.out];exact avP (sZ k (T:=134217728) (by rw[HX3.out];exact HSX.out.1)) (by omega))
   have HEE:Hid (-1000000000000<=E+(k:Int)/\E+(k:Int)<=1000000000000):=hdd (by have h1:=HK.out;rw[HX3.out]at h1;have:=HSX.out;have:=HPP.out;omega);have M1:True:=trivial
   go_region_held3 (fun w'=>w'.cell? ⟨w.heap.size,0,none⟩=some (.bool b6)/\w'.cell? ⟨w.heap.size,1,none⟩=some (.slice A6 n6 c6)/\w'.cell? ⟨w.heap.size,2,none⟩=some (.int .i64 E)) (go_keep)
    (first
    |(go_at_call 75
      refine HWM.out.mono ?_;rintro r wa⟨hb,va,hz⟩;obtain⟨rfl,hz⟩:=hz;obtain⟨b8,A8,n8,c8,rfl⟩:=hz.shape;have HBA:Hid (Below w6.heap.size w6 wa):=hdd ((Below.refl _ _).drew.trans hb);have c0:=cbl c0 HBA.out;have c1:=cbl c1 HBA.out;have c2:=cbl c2 HBA.out;have HMK2:=hdd (bX (e:=E+(k:Int)) hz (HT4.out.below HBA.out) HVL.out HEE.out);clear hb hz)
    |(go_at_call 53
      refine HMK2.out.mono ?_;rintro r wb⟨hb,vb,hz⟩;obtain⟨rfl,hz⟩:=hz;obtain⟨b9,A9,n9,c9,rfl,-⟩:=id hz;have c0:=cbl c0 hb;have c1:=cbl c1 hb;have c2:=cbl c2 hb;have HSZ9:=hdd HBA.out.size;have HBA:=hdd (HBA.out.trans (hb.mono HBA.out.size));have HF:=hdd hz;have B9:=hdd (hbl HS2.out HBA.out);obtain⟨e0,e1,e2,e3,e4,e5⟩:=cells3 B9.out;clear hb hz))
   obtain⟨HFF,hFF⟩:=aJ (HBB.out.trans (HBA.out.mono HBB.out.size)) (g:=w.heap.size+1) (by omega) B9.out HF.out (fun b hb=>by have:=HSZ.out;have:=HSZ9.out;have:=HS.out;omega);replace hFF:=hdd hFF;have HEQ:Hid (mkDy (sg b6 (val ys)) (E+(k:Int))=aM x P dir):=hdd (by
    have h1:=HK.out;rw[HX3.out]at h1;rw[HRD.out,<-HX4.out,h1,Int.toNat_natCast,ho,<-HX3.out,show val ys=val xs/2^k+0 from HVY.out];rfl)
   go_wp2;obtain⟨f0,f1,f2,-,-,-⟩:=cells3 hFF.out;refine bodyPost_ret (v:=.agg #[_,_,_]) (by simp[results,Tryz.results132,go_sem,f0,f1,f2];first|exact⟨rfl,rfl,rfl⟩|rfl) rfl ?_;rw[<-HEQ.out];exact HFF.out
 . go_wp2_with fail
   have HB1:Hid (Below w6.heap.size w6 (w6.alloc (.cells #[.int .u64 1] 149))):=hdd (aI _ _);have HOF:=hdd (iV (NatP.one (x:=1) (by decide) (heap_alloc_new w6 (.cells #[.int .u64 1] 149)) (p:=AnyB) trivial));refine HOF.out.mono ?_;rintro r w7⟨hb,v7,ys7,rfl,hy7,ty7,hvy7⟩;obtain⟨A7,c7,rfl,-⟩:=id hy7;have HB7:=hdd (HB1.out.trans (hb.mono HB1.out.size));have HY7:=hdd hy7;have HVY7:=hdd hvy7;clear hb hy7 ty7 hvy7 HOF HB1;have HB8:Hid (Below w7.heap.size w7 (w7.alloc (.cells #[.slice A8 ys.length c8,.slice A7 ys7.length c7] 73))):=hdd (aI _ _);obtain⟨g0,g1,-,-⟩:=aB (heap_alloc_new w7 (.cells #[.slice A8 ys.length c8,.slice A7 ys7.length c7] 73));have HB78:=hdd (HB7.out.trans (HB8.out.mono HB7.out.size));have HAD:=hdd (pG (HY.out.below HB78.out) (HY7.out.below HB8.out) (by simp) g0 g1
    (by rw[HVY.out];exact avP (sZ k (o:=0) (T:=134217728) (by rw[HX3.out];exact HSX.out.1)) (by omega)) (by rw[HVY7.out];decide))
   clear g0 g1;go_wp2_with fail
   refine HAD.out.mono ?_;rintro r w9⟨hb,v9,ys9,rfl,hy9,ty9,hvy9⟩;obtain⟨A9',c9',rfl,-⟩:=id hy9;have HB9:=hdd (HB78.out.trans (hb.mono HB78.out.size));replace c0:=cbl c0 HB9.out;replace c1:=cbl c1 HB9.out;replace c2:=cbl c2 HB9.out;have HY9:=hdd hy9;have HVY9:Hid (val ys9=val xs/2^k+1):=hdd (by rw[hvy9,HVY.out,HVY7.out];rfl);have HS9:=hdd (hbl HS2.out HB9.out);have HBB9:=hdd (HBB.out.trans (HB9.out.mono HBB.out.size));have HT9:=hdd (HT4.out.below HB9.out);replace HSZ:Hid (w2.heap.size<=w9.heap.size):=hdd (avP HSZ.out HB9.out.size);clear hb hy9 ty9 hvy9 HAD HB9 HB78 HB8 HB7;go_wp2_with fail
   have hwr2:IntKind.i64.wrap (E+(k:Int))=E+(k:Int):=wrap_i64 (by have h1:=HK.out;rw[HX3.out]at h1;have:=HSX.out;have:=HPP.out;omega);have HWM:=hdd (bR (b:=b6) (HY9.out.below ((Below.refl _ _).drew (w:=w9))));have hne1:w.heap.size+1≠w.heap.size:=by omega
   have HVL:Hid (bits (sg b6 (val ys9)).natAbs<=1073741824):=hdd (by
    rw[bG,HVY9.out];exact avP (sZ k (T:=134217728) (by rw[HX3.out];exact HSX.out.1)) (by omega))
   have HEE:Hid (-1000000000000<=E+(k:Int)/\E+(k:Int)<=1000000000000):=hdd (by have h1:=HK.out;rw[HX3.out]at h1;have:=HSX.out;have:=HPP.out;omega);have M1:True:=trivial
   go_region_held3 (fun w'=>w'.cell? ⟨w.heap.size,0,none⟩=some (.bool b6)/\w'.cell? ⟨w.heap.size,1,none⟩=some (.slice A6 n6 c6)/\w'.cell? ⟨w.heap.size,2,none⟩=some (.int .i64 E)) (go_keep)
    (first
    |(go_at_call 75
      refine HWM.out.mono ?_;rintro r wa⟨hb,va,hz⟩;obtain⟨rfl,hz⟩:=hz;obtain⟨b8,A8,n8,c8,rfl⟩:=hz.shape;have HBA:Hid (Below w9.heap.size w9 wa):=hdd ((Below.refl _ _).drew.trans hb);have c0:=cbl c0 HBA.out;have c1:=cbl c1 HBA.out;have c2:=cbl c2 HBA.out;have HMK2:=hdd (bX (e:=E+(k:Int)) hz (HT9.out.below HBA.out) HVL.out HEE.out);clear hb hz)
    |(go_at_call 53
      refine HMK2.out.mono ?_;rintro r wb⟨hb,vb,hz⟩;obtain⟨rfl,hz⟩:=hz;obtain⟨b9,A9,n9,c9,rfl,-⟩:=id hz;have c0:=cbl c0 hb;have c1:=cbl c1 hb;have c2:=cbl c2 hb;have HSZ9:=hdd HBA.out.size;have HBA:=hdd (HBA.out.trans (hb.mono HBA.out.size));have HF:=hdd hz;have B9:=hdd (hbl HS9.out HBA.out);obtain⟨e0,e1,e2,e3,e4,e5⟩:=cells3 B9.out;clear hb hz))
   obtain⟨HFF,hFF⟩:=aJ (HBB9.out.trans (HBA.out.mono HBB9.out.size)) (g:=w.heap.size+1) (by omega) B9.out HF.out (fun b hb=>by have:=HSZ.out;have:=HSZ9.out;have:=HS.out;omega);replace hFF:=hdd hFF;have HEQ:Hid (mkDy (sg b6 (val ys9)) (E+(k:Int))=aM x P dir):=hdd (by
    have h1:=HK.out;rw[HX3.out]at h1;rw[HRD.out,<-HX4.out,h1,Int.toNat_natCast,ho,<-HX3.out,HVY9.out];rfl)
   go_wp2;obtain⟨f0,f1,f2,-,-,-⟩:=cells3 hFF.out;refine bodyPost_ret (v:=.agg #[_,_,_]) (by simp[results,Tryz.results132,go_sem,f0,f1,f2];first|exact⟨rfl,rfl,rfl⟩|rfl) rfl ?_;rw[<-HEQ.out];exact HFF.out
theorem mG{dir:Int}(hx:DyP p w va x)(hT:Tab w)(sx:SmD x)(hP:1<=P/\P<=65536):
 Calls Tryz.prog 132 #[va,.int .i64 P,.int .i64 dir] w (RetD w.heap.size w (aM x P dir)):=by
 by_cases hb:(bits (mkDy x.man x.exp).man.natAbs:Int)<=P
 . have:=aaU (dir:=dir) hx hT sx hP hb
   unfold aM;rw[if_pos hb];exact this
 . exact wV hx hT sx hP hb
end
end Go.Proofs.YtkadpnljocflaaaGreatDoor
