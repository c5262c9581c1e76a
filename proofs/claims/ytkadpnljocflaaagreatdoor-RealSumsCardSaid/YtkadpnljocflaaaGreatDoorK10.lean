/- A part of the proof: contracts of functions and plain laws (RealC, SepA, FltR, FltQ). -/
import Derived.Test.YtkadpnljocflaaaGreatDoorK09
set_option linter.unusedVariables false
set_option linter.unusedSimpArgs false
set_option linter.unnecessarySimpa false
set_option maxHeartbeats 25600000
set_option maxRecDepth 100000
namespace Go.Proofs.YtkadpnljocflaaaGreatDoor
section
open Nat renaming pow_add->asA,pow_le_pow_right->asB,two_pow_pos->asC,mul_le_mul->asD,mul_le_mul_left->asE,le_trans->asF,pow_succ->asG,pow_mul->asH
variable{a b:Int}{B l l1 l2 u u1 u2:Nat}{p q:Rat}{t v w x y z:Re}
namespace Re
theorem all1{p:Re->Prop}(h:∀a:Cs,p (mk a))(x:Re):p x:=by
 induction x using ind with|_ a
 exact h a
theorem all2{p:Re->Re->Prop}(h:∀a b:Cs,p (mk a) (mk b))(x y:Re):p x y:=by
 induction x using ind with|_ a
 induction y using ind with|_ b
 exact h a b
theorem all3{p:Re->Re->Re->Prop}(h:∀a b c:Cs,p (mk a) (mk b) (mk c))(x y z:Re):p x y z:=by
 induction x using ind with|_ a
 induction y using ind with|_ b
 induction z using ind with|_ c
 exact h a b c
theorem all4{p:Re->Re->Re->Re->Prop}(h:∀a b c d:Cs,p (mk a) (mk b) (mk c) (mk d))(x y z t:Re):p x y z t:=by
 induction x using ind with|_ a
 induction y using ind with|_ b
 induction z using ind with|_ c
 induction t using ind with|_ d
 exact h a b c d
theorem all5{p:Re->Re->Re->Re->Re->Prop}(h:∀a b c d e:Cs,p (mk a) (mk b) (mk c) (mk d) (mk e))(x y z t u:Re):p x y z t u:=by
 induction x using ind with|_ a
 induction y using ind with|_ b
 induction z using ind with|_ c
 induction t using ind with|_ d
 induction u using ind with|_ e
 exact h a b c d e
theorem sub_self(x:Re):x-x=0:=by revert x;exact all1 fun a=>same fun n=>by simp only[addC_f,mulC_f,negC_f,ratC_f];grind
theorem sub_zero(x:Re):x-0=x:=by revert x;exact all1 fun a=>same fun n=>by simp only[addC_f,mulC_f,negC_f,ratC_f];grind
theorem zero_sub(x:Re):0-x=-x:=by revert x;exact all1 fun a=>same fun n=>by simp only[addC_f,mulC_f,negC_f,ratC_f];grind
theorem neg_neg(x:Re):- -x=x:=by revert x;exact all1 fun a=>same fun n=>by simp only[addC_f,mulC_f,negC_f,ratC_f];grind
theorem neg_zero:-(0:Re)=0:=same fun n=>by simp only[addC_f,mulC_f,negC_f,ratC_f];grind
theorem add_zero(x:Re):x+0=x:=by revert x;exact all1 fun a=>same fun n=>by simp only[addC_f,mulC_f,negC_f,ratC_f];grind
theorem mul_zero(x:Re):x*0=0:=by revert x;exact all1 fun a=>same fun n=>by simp only[addC_f,mulC_f,negC_f,ratC_f];grind
theorem zero_mul(x:Re):0*x=0:=by revert x;exact all1 fun a=>same fun n=>by simp only[addC_f,mulC_f,negC_f,ratC_f];grind
theorem mul_one(x:Re):x*1=x:=by revert x;exact all1 fun a=>same fun n=>by simp only[addC_f,mulC_f,negC_f,ratC_f];grind
theorem neg_sub(x y:Re):-(x-y)=y-x:=by revert x y;exact all2 fun a b=>same fun n=>by simp only[addC_f,mulC_f,negC_f,ratC_f];grind
theorem sub_add_sub(x y z:Re):(x-y)+(y-z)=x-z:=by revert x y z;exact all3 fun a b c=>same fun n=>by simp only[addC_f,mulC_f,negC_f,ratC_f];grind
theorem add_sub_add(x y z t:Re):(x+y)-(z+t)=(x-z)+(y-t):=by revert x y z t;exact all4 fun a b c d=>same fun n=>by simp only[addC_f,mulC_f,negC_f,ratC_f];grind
theorem neg_sub_neg(x y:Re):-x- -y=y-x:=by revert x y;exact all2 fun a b=>same fun n=>by simp only[addC_f,mulC_f,negC_f,ratC_f];grind
theorem mul_sub(x y z:Re):x*(y-z)=x*y-x*z:=by revert x y z;exact all3 fun a b c=>same fun n=>by simp only[addC_f,mulC_f,negC_f,ratC_f];grind
theorem sub_mul(x y z:Re):(x-y)*z=x*z-y*z:=by revert x y z;exact all3 fun a b c=>same fun n=>by simp only[addC_f,mulC_f,negC_f,ratC_f];grind
theorem neg_mul(x y:Re):-x*y=-(x*y):=by revert x y;exact all2 fun a b=>same fun n=>by simp only[addC_f,mulC_f,negC_f,ratC_f];grind
theorem mul_neg(x y:Re):x*-y=-(x*y):=by revert x y;exact all2 fun a b=>same fun n=>by simp only[addC_f,mulC_f,negC_f,ratC_f];grind
theorem neg_mul_neg(x y:Re):-x*-y=x*y:=by revert x y;exact all2 fun a b=>same fun n=>by simp only[addC_f,mulC_f,negC_f,ratC_f];grind
theorem neg_add_rev(x y:Re):-(x+y)=-x+-y:=by revert x y;exact all2 fun a b=>same fun n=>by simp only[addC_f,mulC_f,negC_f,ratC_f];grind
theorem add_sub(x y:Re):x+(y-x)=y:=by revert x y;exact all2 fun a b=>same fun n=>by simp only[addC_f,mulC_f,negC_f,ratC_f];grind
theorem eq_of_sub(h:x-y=0):x=y:=by
 have:=add_sub y x;rw[h,add_zero]at this;exact this.symm
theorem pos_iff:Pos x↔0<x:=by rw[lt_def,sub_zero]
theorem sub_pos:0<y-x↔x<y:=by rw[lt_def,sub_zero];exact Iff.rfl
theorem not_lt:¬x<y↔y<=x:=Iff.rfl
theorem not_le:¬x<=y↔y<x:=Classical.not_not
theorem lt_irrefl(x:Re):¬x<x:=by rw[lt_def,sub_self];exact pos_zero
theorem le_refl(x:Re):x<=x:=lt_irrefl x
theorem lt_trans(h:x<y)(k:y<z):x<z:=by
 rw[lt_def]at*;rw[<-sub_add_sub z y x];exact pos_add k h
theorem tri(x y:Re):x<y\/x=y\/y<x:=by
 rcases pos_tri (y-x)with h|h|h
 . exact Or.inl h
 . exact Or.inr (Or.inl (eq_of_sub h).symm)
 . rw[neg_sub]at h;exact Or.inr (Or.inr h)
theorem le_of_lt(h:x<y):x<=y:=fun k=>lt_irrefl x (lt_trans h k)
theorem le_iff:x<=y↔x<y\/x=y:=by
 constructor
 . intro h;rcases tri x y with k|k|k
   . exact Or.inl k
   . exact Or.inr k
   . exact absurd k h
 . rintro(h|h)
   . exact le_of_lt h
   . rw[h];exact le_refl _
theorem le_total(x y:Re):x<=y\/y<=x:=by
 rcases tri x y with k|k|k
 . exact Or.inl (le_of_lt k)
 . rw[k];exact Or.inl (le_refl _)
 . exact Or.inr (le_of_lt k)
theorem lt_or_ge(x y:Re):x<y\/y<=x:=Classical.em _
theorem lt_of_lt_of_le(h:x<y)(k:y<=z):x<z:=by
 rcases le_iff.1 k with k|k
 . exact lt_trans h k
 . rw[<-k];exact h
theorem lt_of_le_of_lt(h:x<=y)(k:y<z):x<z:=by
 rcases le_iff.1 h with h|h
 . exact lt_trans h k
 . rw[h];exact k
theorem le_trans(h:x<=y)(k:y<=z):x<=z:=by
 rcases le_iff.1 h with h|h
 . exact le_of_lt (lt_of_lt_of_le h k)
 . rw[h];exact k
theorem le_antisymm(h:x<=y)(k:y<=x):x=y:=by
 rcases tri x y with j|j|j
 . exact absurd j k
 . exact j
 . exact absurd j h
theorem ne_of_lt(h:x<y):x≠y:=fun e=>lt_irrefl y (by rw[e]at h;exact h)
theorem ne_of_gt(h:y<x):x≠y:=fun e=>lt_irrefl y (by rw[e]at h;exact h)
theorem sub_nonneg:0<=y-x↔x<=y:=by
 rw[<-not_lt,<-not_lt,lt_def,lt_def,zero_sub,neg_sub]
theorem add_lt_add(h:x<y)(k:z<t):x+z<y+t:=by
 rw[lt_def]at*;rw[add_sub_add];exact pos_add h k
theorem add_le_add(h:x<=y)(k:z<=t):x+z<=y+t:=by
 rcases le_iff.1 h with h|h<;>rcases le_iff.1 k with k|k
 . exact le_of_lt (add_lt_add h k)
 . subst k;refine le_of_lt ?_;rw[lt_def,add_sub_add,sub_self,add_zero];exact h
 . subst h;refine le_of_lt ?_;rw[lt_def,add_sub_add,sub_self,zero_add];exact k
 . rw[h,k];exact le_refl _
theorem neg_le_neg(h:x<=y):-y<=-x:=by
 rw[<-sub_nonneg,neg_sub_neg,sub_nonneg];exact h
theorem mul_pos(h:0<x)(k:0<y):0<x*y:=by
 rw[<-pos_iff]at*;exact pos_mul h k
theorem mul_nonneg(h:0<=x)(k:0<=y):0<=x*y:=by
 rcases le_iff.1 h with h|h<;>rcases le_iff.1 k with k|k
 . exact le_of_lt (mul_pos h k)
 . rw[<-k,mul_zero];exact le_refl _
 . rw[<-h,zero_mul];exact le_refl _
 . rw[<-h,zero_mul];exact le_refl _
theorem neg_nonneg:0<=-x↔x<=0:=by rw[<-sub_nonneg (y:=0),zero_sub]
theorem neg_pos:0< -x↔x<0:=by rw[<-sub_pos (y:=0),zero_sub]
theorem sq_nonneg(x:Re):0<=x*x:=by
 rcases le_total 0 x with h|h
 . exact mul_nonneg h h
 . rw[<-neg_mul_neg];exact mul_nonneg (neg_nonneg.2 h) (neg_nonneg.2 h)
theorem mul_le_mul_left(h:0<=z)(k:x<=y):z*x<=z*y:=by
 rw[<-sub_nonneg,<-mul_sub];exact mul_nonneg h (sub_nonneg.2 k)
theorem mul_le_mul_right(h:0<=z)(k:x<=y):x*z<=y*z:=by
 rw[mul_comm x,mul_comm y];exact mul_le_mul_left h k
theorem mul_le_mul(h:0<=x)(k:x<=y)(h':0<=z)(k':z<=t):x*z<=y*t:=
 le_trans (mul_le_mul_right h' k) (mul_le_mul_left (le_trans h k) k')
theorem mul_ne_zero(h:x≠0)(k:y≠0):x*y≠0:=by
 obtain⟨a,ha⟩:=exists_inv h;intro e;apply k;have:y=a*(x*y):=by rw[<-mul_assoc,mul_comm a x,ha,one_mul]
 rw[this,e,mul_zero]
theorem rat_lt:rat p<rat q↔p<q:=by
 have e:rat q-rat p=rat (q-p):=by rw[sub_def,<-rat_neg,<-rat_add];congr 1;grind
 rw[lt_def,e,pos_rat];grind
theorem rat_le:rat p<=rat q↔p<=q:=by
 rw[<-not_lt,rat_lt];grind
theorem rat_inj:rat p=rat q↔p=q:=by
 constructor
 . intro h
   have h1:=rat_le.1 (show rat p<=rat q by rw[h];exact le_refl _);have h2:=rat_le.1 (show rat q<=rat p by rw[h];exact le_refl _);exact Rat.le_antisymm h1 h2
 . rintro rfl;rfl
theorem zero_rat:(0:Re)=rat 0:=rfl
theorem one_rat:(1:Re)=rat 1:=rfl
theorem zero_lt_one:(0:Re)<1:=by rw[zero_rat,one_rat,rat_lt];decide
noncomputable def ab(x:Re):Re:=by classical exact if 0<=x then x else-x
theorem ab_cases(x:Re):(0<=x/\ab x=x)\/(x<0/\ab x=-x):=by
 unfold ab;rcases lt_or_ge x 0 with h|h
 . right;exact⟨h,if_neg (not_le.2 h)⟩
 . left;exact⟨h,if_pos h⟩
theorem ab_nonneg(x:Re):0<=ab x:=by
 rcases ab_cases x with ⟨h,e⟩|⟨h,e⟩<;>rw[e]
 . exact h
 . exact neg_nonneg.2 (le_of_lt h)
theorem ab_of(h:0<=y)(k:x=y\/x=-y):ab x=y:=by
 rcases k with k|k
 . subst k
   rcases ab_cases x with ⟨_,e⟩|⟨h1,e⟩
   . exact e
   . exact absurd h1 h
 . rcases ab_cases x with ⟨h1,e⟩|⟨h1,e⟩
   . rw[e]
     have h2:y<=0:=by rw[k,neg_nonneg]at h1;exact h1
     have h3:=le_antisymm h2 h;rw[k,h3,neg_zero]
   . rw[e,k,neg_neg]
theorem ab_mul(x y:Re):ab (x*y)=ab x*ab y:=by
 refine ab_of (mul_nonneg (ab_nonneg x) (ab_nonneg y)) ?_;rcases ab_cases x with ⟨h1,e1⟩|⟨h1,e1⟩<;>rcases ab_cases y with ⟨h2,e2⟩|⟨h2,e2⟩<;>rw[e1,e2]
 . exact Or.inl rfl
 . right;rw[mul_neg,neg_neg]
 . right;rw[neg_mul,neg_neg]
 . left;rw[neg_mul_neg]
theorem le_ab(x:Re):x<=ab x/\-x<=ab x:=by
 rcases ab_cases x with ⟨h1,e1⟩|⟨h1,e1⟩<;>rw[e1]
 . exact⟨le_refl _,le_trans (by have:=neg_le_neg h1;rw[neg_zero]at this;exact this) h1⟩
 . exact⟨le_trans (le_of_lt h1) (le_of_lt (neg_pos.2 h1)),le_refl _⟩
theorem ab_le:ab x<=y↔x<=y/\-x<=y:=by
 constructor
 . exact fun h=>⟨le_trans (le_ab x).1 h,le_trans (le_ab x).2 h⟩
 . rintro⟨h,k⟩
   rcases ab_cases x with ⟨h1,e1⟩|⟨h1,e1⟩<;>rw[e1]<;>assumption
theorem ab_add(x y:Re):ab (x+y)<=ab x+ab y:=by
 rw[ab_le];refine⟨add_le_add (le_ab x).1 (le_ab y).1,?_⟩;rw[neg_add_rev];exact add_le_add (le_ab x).2 (le_ab y).2
theorem ab_eq_zero:ab x=0↔x=0:=by
 constructor
 . intro h
   have:=le_ab x;rw[h]at this;refine le_antisymm this.1 ?_;have h2:=neg_le_neg this.2;rw[neg_neg,neg_zero]at h2;exact h2
 . rintro rfl;exact ab_of (le_refl 0) (Or.inl rfl)
theorem le_of_sq(hy:0<=y)(h:x*x<=y*y):x<=y:=by
 intro k;have k':y<x:=k;have h1:0<x:=lt_of_le_of_lt hy k';have h2:y*y<=y*x:=mul_le_mul_left hy (le_of_lt k');have h3:y*x<x*x:=by
  rw[<-sub_pos,<-sub_mul];exact mul_pos (sub_pos.2 k') h1
 exact lt_irrefl _ (lt_of_lt_of_le (lt_of_le_of_lt h2 h3) h)
theorem sq_inj(hx:0<=x)(hy:0<=y)(h:x*x=y*y):x=y:=
 le_antisymm (le_of_sq hy (by rw[h];exact le_refl _)) (le_of_sq hx (by rw[h];exact le_refl _))
noncomputable def sgn(x:Re):Int:=by classical exact if 0<x then 1 else if x<0 then-1 else 0
theorem sgn_pos(h:0<x):sgn x=1:=by unfold sgn;exact if_pos h
theorem sgn_neg(h:x<0):sgn x=-1:=by
 unfold sgn;rw[if_neg (fun k=>lt_irrefl _ (lt_trans h k)),if_pos h]
theorem sgn_zero:sgn 0=0:=by unfold sgn;rw[if_neg (lt_irrefl _),if_neg (lt_irrefl _)]
theorem sgn_cases(x:Re):(0<x/\sgn x=1)\/(x=0/\sgn x=0)\/(x<0/\sgn x=-1):=by
 rcases tri x 0 with h|h|h
 . exact Or.inr (Or.inr ⟨h,sgn_neg h⟩)
 . exact Or.inr (Or.inl ⟨h,by rw[h,sgn_zero]⟩)
 . exact Or.inl ⟨h,sgn_pos h⟩
theorem sgn_eq_zero:sgn x=0↔x=0:=by
 rcases sgn_cases x with ⟨h,e⟩|⟨h,e⟩|⟨h,e⟩<;>rw[e]
 . exact⟨fun k=>absurd k (by decide),fun k=>absurd k (ne_of_gt h)⟩
 . exact⟨fun _=>h,fun _=>rfl⟩
 . exact⟨fun k=>absurd k (by decide),fun k=>absurd k (ne_of_lt h)⟩
theorem sgn_mul(x y:Re):sgn (x*y)=sgn x*sgn y:=by
 rcases sgn_cases x with ⟨h,e⟩|⟨h,e⟩|⟨h,e⟩
 . rcases sgn_cases y with ⟨k,f⟩|⟨k,f⟩|⟨k,f⟩<;>rw[e,f]
   . exact sgn_pos (mul_pos h k)
   . rw[k,mul_zero,sgn_zero];rfl
   . have:=mul_pos h (neg_pos.2 k);rw[mul_neg]at this
     exact sgn_neg (neg_pos.1 this)
 . rw[e,h,zero_mul,sgn_zero,Int.zero_mul]
 . rcases sgn_cases y with ⟨k,f⟩|⟨k,f⟩|⟨k,f⟩<;>rw[e,f]
   . have:=mul_pos (neg_pos.2 h) k;rw[neg_mul]at this
     exact sgn_neg (neg_pos.1 this)
   . rw[k,mul_zero,sgn_zero];rfl
   . have:=mul_pos (neg_pos.2 h) (neg_pos.2 k);rw[neg_mul_neg]at this
     exact sgn_pos this
end Re
namespace Re
def ofI(n:Int):Re:=rat n
theorem ofI_add(a b:Int):ofI (a+b)=ofI a+ofI b:=by unfold ofI;rw[<-rat_add,Rat.intCast_add]
theorem ofI_mul(a b:Int):ofI (a*b)=ofI a*ofI b:=by unfold ofI;rw[<-rat_mul,Rat.intCast_mul]
theorem ofI_neg(a:Int):ofI (-a)=-ofI a:=by unfold ofI;rw[<-rat_neg,Rat.intCast_neg]
theorem ofI_zero:ofI 0=0:=rfl
theorem ofI_one:ofI 1=1:=rfl
theorem ofI_le:ofI a<=ofI b↔a<=b:=by unfold ofI;rw[rat_le,Rat.intCast_le_intCast]
theorem ofI_lt:ofI a<ofI b↔a<b:=by unfold ofI;rw[rat_lt,Rat.intCast_lt_intCast]
def ofN(n:Nat):Re:=ofI n
theorem ofN_add(a b:Nat):ofN (a+b)=ofN a+ofN b:=ofI_add a b
theorem ofN_mul(a b:Nat):ofN (a*b)=ofN a*ofN b:=by unfold ofN;rw[<-ofI_mul,Int.natCast_mul]
theorem ofN_le{a b:Nat}:ofN a<=ofN b↔a<=b:=by unfold ofN;rw[ofI_le];omega
theorem ofN_nonneg(a:Nat):0<=ofN a:=by rw[<-ofI_zero];unfold ofN;rw[ofI_le];omega
theorem ofN_one:ofN 1=1:=rfl
theorem ofN_zero:ofN 0=0:=rfl
theorem ab_ofI(n:Int):ab (ofI n)=ofN n.natAbs:=by
 refine ab_of (ofN_nonneg _) ?_;unfold ofN;rcases Int.natAbs_eq n with h|h
 . left;rw[<-h]
 . right;rw[<-ofI_neg,<-h]
end Re
open Re
abbrev Tw:=List (Re×Nat)
def Rep:Tw->Nat->Re->Prop
 |[],B,x=>∃n:Int,x=ofI n/\n.natAbs<=B
 |(s,A)::T,B,x=>∃p q P Q,Rep T P p/\Rep T Q q/\x=p+q*s/\P+Q*A<=B
def Tow:Tw->Prop
 |[]=>True
 |(s,A)::T=>Tow T/\∃M,Rep T M (s*s)/\M<=A*A
theorem Rep.mono:∀{T:Tw} {B C:Nat} {x:Re},Rep T B x->B<=C->Rep T C x
 |[],_,_,_,⟨n,e,h⟩,k=>⟨n,e,asF h k⟩
 |(_,_)::_,_,_,_,⟨p,q,P,Q,h1,h2,e,h⟩,k=>⟨p,q,P,Q,h1,h2,e,asF h k⟩
theorem Rep.int (n:Int):∀T:Tw,Rep T n.natAbs (ofI n)
 |[]=>⟨n,rfl,Nat.le_refl _⟩
 |(s,A)::T=>⟨ofI n,ofI 0,n.natAbs,0,Rep.int n T,Rep.int 0 T,by rw[ofI_zero,zero_mul,add_zero],by simp⟩
theorem Rep.lift {T:Tw}(t:Re×Nat)(h:Rep T B x):Rep (t::T) B x:=
 ⟨x,ofI 0,B,0,h,Rep.int 0 T,by rw[ofI_zero,zero_mul,add_zero],by simp⟩
theorem Rep.neg:∀{T:Tw} {B:Nat} {x:Re},Rep T B x->Rep T B (-x)
 |[],_,_,⟨n,e,h⟩=>⟨-n,by rw[e,ofI_neg],by rw[Int.natAbs_neg];exact h⟩
 |(_,_)::_,_,_,⟨p,q,P,Q,h1,h2,e,h⟩=>⟨-p,-q,P,Q,h1.neg,h2.neg,by rw[e,neg_mul,<-neg_add_rev],h⟩
theorem ajG(p q r t s:Re):p+q*s+(r+t*s)=p+r+(q+t)*s:=by revert p q r t s;exact all5 fun a b c d e=>same fun n=>by simp only[addC_f,mulC_f,negC_f,ratC_f];grind
theorem Rep.add:∀{T:Tw} {B C:Nat} {x y:Re},Rep T B x->Rep T C y->Rep T (B+C) (x+y)
 |[],_,_,_,_,⟨n,e,h⟩,⟨m,f,k⟩=>⟨n+m,by rw[e,f,ofI_add],by omega⟩
 |(s,A)::_,_,_,_,_,⟨p,q,P,Q,h1,h2,e,h⟩,⟨p',q',P',Q',k1,k2,f,k⟩=>
  ⟨p+p',q+q',P+P',Q+Q',h1.add k1,h2.add k2,by rw[e,f,ajG],by rw[Nat.add_mul];omega⟩
theorem Rep.sub {T:Tw}{C:Nat}(h:Rep T B x)(k:Rep T C y):Rep T (B+C) (x-y):=h.add k.neg
theorem ajH(p q r t s:Re):(p+q*s)*(r+t*s)=p*r+q*t*(s*s)+(p*t+q*r)*s:=by revert p q r t s;exact all5 fun a b c d e=>same fun n=>by simp only[addC_f,mulC_f,negC_f,ratC_f];grind
theorem Rep.mul:∀{T:Tw} {B C:Nat} {x y:Re},Tow T->Rep T B x->Rep T C y->Rep T (B*C) (x*y)
 |[],_,_,_,_,_,⟨n,e,h⟩,⟨m,f,k⟩=>⟨n*m,by rw[e,f,ofI_mul],by rw[Int.natAbs_mul];exact asD h k⟩
 |(s,A)::T,B,C,_,_,⟨hT,M,hM,hA⟩,⟨p,q,P,Q,h1,h2,e,h⟩,⟨p',q',P',Q',k1,k2,f,k⟩=>by
  have a1:=(h1.mul hT k1).add ((h2.mul hT k2).mul hT hM);have a2:=(h1.mul hT k2).add (h2.mul hT k1);refine⟨_,_,_,_,a1,a2,by rw[e,f,ajH],?_⟩;have b1:Q*Q'*M<=Q*Q'*(A*A):=asE _ hA;have b2:(P+Q*A)*(P'+Q'*A)<=B*C:=asD h k;have b3:(P+Q*A)*(P'+Q'*A)=P*P'+Q*Q'*(A*A)+(P*Q'+Q*P')*A:=by grind
  omega
theorem Rep.ab:∀{T:Tw} {B:Nat} {x:Re},Tow T->Rep T B x->ab x<=ofN B
 |[],_,_,_,⟨n,e,h⟩=>by rw[e,ab_ofI,ofN_le];exact h
 |(s,A)::T,B,x,⟨hT,M,hM,hA⟩,⟨p,q,P,Q,h1,h2,e,h⟩=>by
  have hs:Re.ab s<=ofN A:=by
   refine le_of_sq (ofN_nonneg _) ?_;rw[<-ab_mul,<-ofN_mul];exact le_trans (hM.ab hT) (ofN_le.2 hA)
  rw[e];refine le_trans (ab_add _ _) (le_trans ?_ (ofN_le.2 h));rw[ofN_add,ofN_mul,ab_mul];exact add_le_add (h1.ab hT) (mul_le_mul (ab_nonneg _) (h2.ab hT) (ab_nonneg _) hs)
theorem ahL(p q s:Re):(p+q*s)*(p-q*s)=p*p-q*q*(s*s):=by revert p q s;exact all3 fun a b c=>same fun n=>by simp only[addC_f,mulC_f,negC_f,ratC_f];grind
theorem ae4(p q:Re):p+q=p+p-(p-q):=by revert p q;exact all2 fun a b=>same fun n=>by simp only[addC_f,mulC_f,negC_f,ratC_f];grind
theorem ae5(k:Nat):2^(k+1)-1=2*(2^k-1)+1:=by have:=asC k;rw[asG];omega
theorem Rep.sep:∀{T:Tw} {B:Nat} {x:Re},Tow T->Rep T B x->x≠0->1<=Re.ab x*ofN (B^(2^T.length-1))
 |[],B,x,_,⟨n,e,h⟩,h0=>by
  have hn:n≠0:=fun k=>h0 (by rw[e,k,ofI_zero]);rw[e,ab_ofI,<-ofN_mul,<-ofN_one,ofN_le];simp;omega
 |(s,A)::T,B,x,⟨hT,M,hM,hA⟩,⟨p,q,P,Q,h1,h2,e,h⟩,h0=>by
  have hB:1<=B:=by
   rcases Nat.eq_zero_or_pos B with h3|h3
   . exfalso
     have:=Rep.ab (T:=(s,A)::T) ⟨hT,M,hM,hA⟩ ⟨p,q,P,Q,h1,h2,e,h⟩;rw[h3,ofN_zero]at this;exact h0 (ab_eq_zero.1 (le_antisymm this (ab_nonneg _)))
   . exact h3
  rw[List.length_cons,ae5];have hz:Rep T (B*B) (x*(p-q*s)):=by
   have a1:=(h1.mul hT h1).sub ((h2.mul hT h2).mul hT hM);rw[e,ahL];refine a1.mono ?_;have b1:Q*Q*M<=Q*Q*(A*A):=asE _ hA;have b2:(P+Q*A)*(P+Q*A)<=B*B:=asD h h;have b3:(P+Q*A)*(P+Q*A)=P*P+Q*Q*(A*A)+2*(P*Q*A):=by grind
   omega
  by_cases hc:p-q*s=0
  . -- the conjugate is 0: x is twice p
    have hx:x=p+p:=by rw[e,ae4,hc,sub_zero]
    have hp:p≠0:=fun k=>h0 (by rw[hx,k,add_zero]);have hs:=h1.sep hT hp;refine le_trans hs ?_;have h5:Re.ab p<=Re.ab x:=by
     rcases ab_cases p with ⟨c1,c2⟩|⟨c1,c2⟩
     . rw[c2,hx]
       refine le_trans ?_ (le_ab _).1;have:=add_le_add c1 (le_refl p);rw[zero_add]at this;exact this
     . rw[c2,hx]
       refine le_trans ?_ (le_ab _).2;rw[neg_add_rev];have:=add_le_add (neg_nonneg.2 (le_of_lt c1)) (le_refl (-p));rw[zero_add]at this;exact this
    refine mul_le_mul (ab_nonneg _) h5 (ofN_nonneg _) (ofN_le.2 ?_);refine asF (Nat.pow_le_pow_left (show P<=B by omega) _) (asB hB ?_);omega
  . have hne:x*(p-q*s)≠0:=mul_ne_zero h0 hc
    have hs:=hz.sep hT hne;have hx':Re.ab (p-q*s)<=ofN B:=by
     have:Rep ((s,A)::T) B (p-q*s):=⟨p,-q,P,Q,h1,h2.neg,by rw[neg_mul,sub_def],h⟩;exact Rep.ab (T:=(s,A)::T) ⟨hT,M,hM,hA⟩ this
    rw[ab_mul]at hs;refine le_trans hs ?_;have e3:ofN (B^(2*(2^T.length-1)+1))=ofN B*ofN ((B*B)^(2^T.length-1)):=by
     rw[<-ofN_mul,asG,Nat.mul_comm _ B,asH,Nat.pow_two]
    rw[e3,<-mul_assoc];exact mul_le_mul_right (ofN_nonneg _) (mul_le_mul_left (ab_nonneg _) hx')
def RepV(T:Tw)(u l:Nat)(v:Re):Prop:=∃n d,Rep T (2^u) n/\Rep T (2^l) d/\d≠0/\v*d=n
theorem RepV.lift {T:Tw}(t:Re×Nat)(h:RepV T u l v):RepV (t::T) u l v:=by
 obtain⟨n,d,h1,h2,h3,h4⟩:=h;exact⟨n,d,h1.lift t,h2.lift t,h3,h4⟩
theorem yB:(1:Re)≠0:=ne_of_gt zero_lt_one
theorem Rep.one (T:Tw)(l:Nat):Rep T (2^l) 1:=by
 have:=Rep.int 1 T;rw[ofI_one]at this;exact this.mono (by have:=asC l;simp;omega)
theorem RepV.zero (T:Tw)(u l:Nat):RepV T u l 0:=by
 refine⟨0,1,?_,Rep.one T l,yB,by rw[mul_one]⟩;have:=Rep.int 0 T;rw[ofI_zero]at this;exact this.mono (Nat.zero_le _)
theorem ahM(v w d e:Re):(v+w)*(d*e)=v*d*e+w*e*d:=by revert v w d e;exact all4 fun a b c d=>same fun n=>by simp only[addC_f,mulC_f,negC_f,ratC_f];grind
theorem ae6(v w d e:Re):(v-w)*(d*e)=v*d*e-w*e*d:=by revert v w d e;exact all4 fun a b c d=>same fun n=>by simp only[addC_f,mulC_f,negC_f,ratC_f];grind
theorem ae7(v w d e:Re):(v*w)*(d*e)=v*d*(w*e):=by revert v w d e;exact all4 fun a b c d=>same fun n=>by simp only[addC_f,mulC_f,negC_f,ratC_f];grind
theorem uR(u1 l1 u2 l2:Nat):2^u1*2^l2+2^u2*2^l1<=2^(1+max (u1+l2) (l1+u2)):=by
 rw[<-asA,<-asA,asA 2 1,Nat.pow_one];have h1:2^(u1+l2)<=2^(max (u1+l2) (l1+u2)):=asB (by omega) (by omega);have h2:2^(u2+l1)<=2^(max (u1+l2) (l1+u2)):=asB (by omega) (by omega);omega
theorem RepV.add {T:Tw}(hT:Tow T)(h:RepV T u1 l1 v)(k:RepV T u2 l2 w):RepV T (1+max (u1+l2) (l1+u2)) (l1+l2) (v+w):=by
 obtain⟨n,d,h1,h2,h3,h4⟩:=h;obtain⟨m,e,k1,k2,k3,k4⟩:=k;refine⟨_,d*e,((h1.mul hT k2).add (k1.mul hT h2)).mono (uR u1 l1 u2 l2),?_,mul_ne_zero h3 k3,?_⟩
 . rw[asA];exact h2.mul hT k2
 . rw[ahM,h4,k4]
theorem RepV.sub {T:Tw}(hT:Tow T)(h:RepV T u1 l1 v)(k:RepV T u2 l2 w):RepV T (1+max (u1+l2) (l1+u2)) (l1+l2) (v-w):=by
 obtain⟨n,d,h1,h2,h3,h4⟩:=h;obtain⟨m,e,k1,k2,k3,k4⟩:=k;refine⟨_,d*e,((h1.mul hT k2).sub (k1.mul hT h2)).mono (uR u1 l1 u2 l2),?_,mul_ne_zero h3 k3,?_⟩
 . rw[asA];exact h2.mul hT k2
 . rw[ae6,h4,k4]
theorem RepV.mul {T:Tw}(hT:Tow T)(h:RepV T u1 l1 v)(k:RepV T u2 l2 w):RepV T (u1+u2) (l1+l2) (v*w):=by
 obtain⟨n,d,h1,h2,h3,h4⟩:=h;obtain⟨m,e,k1,k2,k3,k4⟩:=k;refine⟨n*m,d*e,?_,?_,mul_ne_zero h3 k3,?_⟩
 . rw[asA];exact h1.mul hT k1
 . rw[asA];exact h2.mul hT k2
 . rw[ae7,h4,k4]
theorem ae8(x w d e:Re):x*(d*(w*e))=x*w*d*e:=by revert x w d e;exact all4 fun a b c d=>same fun n=>by simp only[addC_f,mulC_f,negC_f,ratC_f];grind
theorem RepV.div {T:Tw}(hT:Tow T)(h:RepV T u1 l1 v)(k:RepV T u2 l2 w)(hw:w≠0)(hx:x*w=v):RepV T (u1+l2) (l1+u2) x:=by
 obtain⟨n,d,h1,h2,h3,h4⟩:=h;obtain⟨m,e,k1,k2,k3,k4⟩:=k;refine⟨n*e,d*m,?_,?_,mul_ne_zero h3 (by rw[<-k4];exact mul_ne_zero hw k3),?_⟩
 . rw[asA];exact h1.mul hT k2
 . rw[asA];exact h2.mul hT k1
 . rw[<-k4,ae8,hx,h4]
theorem aj8(x d:Re):x*d*(x*d)=x*x*d*d:=by revert x d;exact all2 fun a b=>same fun n=>by simp only[addC_f,mulC_f,negC_f,ratC_f];grind
theorem ajI(x d:Re):x*(x*d)=x*x*d:=by revert x d;exact all2 fun a b=>same fun n=>by simp only[addC_f,mulC_f,negC_f,ratC_f];grind
theorem RepV.root {T:Tw}(hT:Tow T)(h:RepV T u l v)(hx:x*x=v):
 ∃t,Tow (t::T)/\RepV (t::T) (if u>=l then(u+l+1)/2 else u) (if u>=l then l else(u+l+1)/2) x:=by
 obtain⟨n,d,h1,h2,h3,h4⟩:=h;have hA:2^u*2^l<=2^((u+l+1)/2)*2^((u+l+1)/2):=by
  rw[<-asA,<-asA];exact asB (by omega) (by omega)
 have ht:Tow ((x*d,2^((u+l+1)/2))::T):=by
  refine⟨hT,2^u*2^l,?_,hA⟩;rw[aj8,hx,h4];exact h1.mul hT h2
 refine⟨_,ht,?_⟩;have hr:Rep ((x*d,2^((u+l+1)/2))::T) (2^((u+l+1)/2)) (x*d):=by
  refine⟨ofI 0,ofI 1,0,1,Rep.int 0 T,Rep.int 1 T,?_,by simp⟩;rw[ofI_zero,ofI_one,one_mul,Re.zero_add]
 by_cases hc:u>=l
 . rw[if_pos hc,if_pos hc]
   exact⟨x*d,d,hr,h2.lift _,h3,rfl⟩
 . rw[if_neg hc,if_neg hc]
   by_cases h0:x=0
   . rw[h0];exact RepV.zero _ _ _
   . exact⟨n,x*d,h1.lift _,hr,mul_ne_zero h0 h3,by rw[ajI,hx,h4]⟩
theorem RepV.dyad (T:Tw){n:Int}{d:Nat}(h1:n.natAbs<=2^u)(h2:d<=2^l)(h3:d≠0)(h4:v*ofN d=ofI n):RepV T u l v:=by
 refine⟨ofI n,ofN d,(Rep.int n T).mono h1,?_,?_,h4⟩
 . have:=Rep.int (d:Int) T
   exact this.mono (by simpa using h2)
 . intro h
   have:ofI (d:Int)=ofI 0:=h;unfold ofI at this;rw[rat_inj]at this;have:=Rat.intCast_inj.1 this;omega
theorem RepV.sep {T:Tw}(hT:Tow T)(h:RepV T u l v)(h0:v≠0):1<=Re.ab v*ofN (2^(max u l*2^T.length)):=by
 obtain⟨n,d,h1,h2,h3,h4⟩:=h;have hn:n≠0:=by rw[<-h4];exact mul_ne_zero h0 h3
 have hs:=h1.sep hT hn;have hd:=h2.ab hT;rw[<-h4,ab_mul]at hs;refine le_trans hs ?_;rw[mul_assoc];refine mul_le_mul_left (ab_nonneg _) ?_;refine le_trans (mul_le_mul_right (ofN_nonneg _) hd) ?_;rw[<-ofN_mul,ofN_le,<-asH,<-asA];refine asB (by omega) ?_;have hp:=asC T.length;obtain⟨k,hk⟩:∃k,2^T.length=k+1:=⟨2^T.length-1,by omega⟩;rw[hk,Nat.add_sub_cancel,Nat.mul_succ];have:=Nat.mul_le_mul_right k (show u<=max u l by omega);omega
end
section
open Ieee
open Re (ofI ofN)
open Bool renaming false_eq_true->asR
open Nat renaming two_pow_pos->asI,pow_add->asJ,mul_le_mul_right->asK,mul_assoc->asL,pos_of_ne_zero->asM,mul_lt_mul_of_pos_right->asN,mul_left_comm->asO,pow_le_pow_right->asP,mul_comm->asQ,mul_le_mul_left->asS,lt_of_mul_lt_mul_right->asT,le_of_mul_le_mul_right->asU,shiftLeft_eq->asV,lt_or_ge->asW,zero_mul->asX,le_trans->asY,log2_self_le->asZ,mul_pos->as0,pow_zero->as1,pow_one->as2
variable{i p:Int}{U a q r t:Nat}{V x y z:Re}
theorem eG(hz:0<z):x*z<=y*z↔x<=y:=by
 refine⟨fun h=> ?_,fun h=>Re.mul_le_mul_right (Re.le_of_lt hz) h⟩;rcases Re.lt_or_ge y x with k|k
 . have:=Re.mul_pos (Re.sub_pos.2 k) hz
   rw[Re.sub_mul]at this;exact absurd (Re.sub_pos.1 this) h
 . exact k
theorem o7(hz:0<z):x*z<y*z↔x<y:=by
 rw[<-Re.not_le,<-Re.not_le,eG hz]
theorem jO(hz:z≠0)(h:x*z=y*z):x=y:=by
 apply Re.eq_of_sub;apply Classical.byContradiction;intro hn;apply Re.mul_ne_zero hn hz;rw[Re.sub_mul,h,Re.sub_self]
theorem kI{n:Nat}(h:0<n):(0:Re)<ofN n:=by
 rw[<-Re.ofI_zero];exact Re.ofI_lt.2 (by omega)
theorem wJ{b:Nat}:ofN a<ofN b↔a<b:=by unfold ofN;rw[Re.ofI_lt];omega
theorem ahN{a b:Int}(h:ofI a=ofI b):a=b:=by
 have h1:ofI a<=ofI b:=by rw[h];exact Re.le_refl _
 have h2:ofI b<=ofI a:=by rw[h];exact Re.le_refl _
 have:=Re.ofI_le.1 h1;have:=Re.ofI_le.1 h2;omega
def NearR(r:Nat)(V:Re):Prop:=num r/\
 (∀c:Int,-(infR:Int)<=c->c<=infR->ofI (fvr c)<=V->c<=sr r)/\
 (∀c:Int,-(infR:Int)<=c->c<=infR->V<=ofI (fvr c)->sr r<=c)
theorem Near.re {N:Int}(h:Near r N t)(hV:V*ofN (2^(t-1074))=ofI N):NearR r V:=by
 obtain⟨h0,h1,h2⟩:=h;have hp:=kI (asI (t-1074));have e:∀c,ofI (fvr c)*ofN (2^(t-1074))=ofI (fvr c*(2^(t-1074):Nat)):=fun c=>(Re.ofI_mul _ _).symm;refine⟨h0,fun c c1 c2 k=>h1 c c1 c2 ?_,fun c c1 c2 k=>h2 c c1 c2 ?_⟩
 . rw[<-eG hp,hV,e,Re.ofI_le]at k;exact k
 . rw[<-eG hp,hV,e,Re.ofI_le]at k;exact k
theorem NearR.neg {r':Nat}(h:NearR r V)(h':num r')(hs:sr r'=-sr r):NearR r' (-V):=by
 obtain⟨h0,h1,h2⟩:=h;refine⟨h',fun c c1 c2 k=> ?_,fun c c1 c2 k=> ?_⟩
 . have:=h2 (-c) (by omega) (by omega) (by rw[wH,Re.ofI_neg,<-Re.neg_neg V];exact Re.neg_le_neg k)
   omega
 . have:=h1 (-c) (by omega) (by omega) (by rw[wH,Re.ofI_neg,<-Re.neg_neg V];exact Re.neg_le_neg k)
   omega
theorem NearR.below (h:NearR r V)(hr:-(infR:Int)<sr r):ofI (fvr (sr r-1))<V:=by
 obtain⟨h0,h1,h2⟩:=h;have:sr r<=infR:=by unfold num at h0;unfold sr;split<;>omega
 rcases Re.lt_or_ge (ofI (fvr (sr r-1))) V with h|h
 . exact h
 . have:=h2 (sr r-1) (by omega) (by omega) h;omega
theorem NearR.above (h:NearR r V)(hr:sr r<(infR:Int)):V<ofI (fvr (sr r+1)):=by
 obtain⟨h0,h1,h2⟩:=h;have:-(infR:Int)<=sr r:=by unfold num at h0;unfold sr;split<;>omega
 rcases Re.lt_or_ge V (ofI (fvr (sr r+1)))with h|h
 . exact h
 . have:=h1 (sr r+1) (by omega) (by omega) h;omega
theorem ajJ{c e:Nat}(h:2^53*2^e<=mg c):2^e∣mg c:=by
 have hp:=asI e;rcases asW c (2^52)with hc|hc
 . have e1:mg c=c:=by unfold mg;rw[if_pos hc]
   rw[e1]at h;have:2^53*1<=2^53*2^e:=asS _ hp;omega
 . rw[iI c hc]at h|-
   generalize c/2^52-1=E at*;rcases asW E e with hE|hE
   . exfalso
     have h1:2^E<=2^e:=asP (by omega) (by omega);have h2:(2^52+c%2^52)*2^E<=(2^52+c%2^52)*2^e:=asS _ h1;have h3:(2^52+c%2^52)*2^e<2^53*2^e:=asN (by omega) hp;omega
   . exact Nat.dvd_trans (Nat.pow_dvd_pow 2 hE) (Nat.dvd_mul_left _ _)
theorem aiX(hq:2^53<=q)(ht:t=max 1074 (-p).toNat)(c:Nat):
 (mg c*2^(t-1074)<(2*q+2)*2^(p+t).toNat->mg c*2^(t-1074)<=(2*q+1)*2^(p+t).toNat)/\
 (2*q*2^(p+t).toNat<mg c*2^(t-1074)->(2*q+1)*2^(p+t).toNat<=mg c*2^(t-1074)):=by
 by_cases hp:1074<=(-p).toNat
 . have:(p+t).toNat=0:=by omega
   rw[this,as1];generalize mg c*2^(t-1074)=g;omega
 . have ht':t-1074=0:=by omega
   rw[ht',as1,Nat.mul_one];generalize (p+t).toNat=e;have hM:=asI e;rcases asW (mg c) (2^53*2^e)with h|h
   . have h1:2^53*2^e<=2*q*2^e:=asK _ (by omega)
     have h2:2*q*2^e<=(2*q+1)*2^e:=asK _ (by omega);omega
   . obtain⟨k,hk⟩:=ajJ h
     rw[hk,asQ (2^e) k];refine⟨fun h=>asK _ ?_,fun h=>asK _ ?_⟩
     . have:=asT h;omega
     . have:=asT h;omega
theorem yC(neg:Bool)(mag:Nat)(p:Int):num (double.nearest neg mag p)/\sr (double.nearest true mag p)=-sr (double.nearest false mag p):=by
 rw[kH,kH,kH];have h1:=qQ (neg:=neg) (o6 mag p);have h2:=qQ (neg:=true) (o6 mag p);have h3:=qQ (neg:=false) (o6 mag p);refine⟨by unfold num;rw[h1.2];exact o6 _ _,?_⟩;rw[h2.1,h3.1];simp
theorem yD{neg:Bool}{mag:Nat}(h:NearR (double.nearest false mag p) V):NearR (double.nearest neg mag p) (if neg then-V else V):=by
 cases neg
 . exact h
 . simp only[if_true];exact h.neg (yC true mag p).1 (yC true mag p).2
theorem p9{b:Bool}(hq:2^53<=q)(ht:t=max 1074 (-p).toNat)
 (h0:b=false->V*ofN (2^(t-1074))=ofN (2*q*2^(p+t).toNat)) (h1:b=true->ofN (2*q*2^(p+t).toNat)<V*ofN (2^(t-1074))/\V*ofN (2^(t-1074))<ofN ((2*q+2)*2^(p+t).toNat)):
 NearR (double.nearest false (2*q+b.toNat) p) V:=by
 have hn:=fU false (2*q+b.toNat) p t (by omega) (by omega) _ rfl;simp only[asR,if_false]at hn
 cases b
 . exact hn.re (h0 rfl)
 . obtain⟨k1,k2⟩:=h1 rfl
   simp only[Bool.toNat_true]at hn|-;obtain⟨n0,n1,n2⟩:=hn;have hp:=kI (asI (t-1074));have hm:∀c:Nat,ofI (mg c:Int)*ofN (2^(t-1074))=ofN (mg c*2^(t-1074)):=fun c=>(Re.ofN_mul _ _).symm;refine⟨n0,fun c c1 c2 k=>n1 c c1 c2 ?_,fun c c1 c2 k=>n2 c c1 c2 ?_⟩
   . rcases Int.lt_or_le c 0 with hc|hc
     . have h1:fvr c<0:=by have:=jN hc;rwa[dK]at this
       have h2:fvr c*(2^(t-1074):Nat)<0:=Int.mul_neg_of_neg_of_pos h1 (Int.natCast_pos.2 (asI _));omega
     . have e:fvr c=(mg c.natAbs:Int):=by unfold fvr;rw[if_neg (by omega)]
       rw[e]at k|-;rw[<-eG hp,hm]at k;have:=(aiX hq ht c.natAbs).1 (wJ.1 (Re.lt_of_le_of_lt k k2))
       exact_mod_cast this
   . rcases Int.lt_or_le c 0 with hc|hc
     . exfalso
       have h1:fvr c<0:=by have:=jN hc;rwa[dK]at this
       have h2:ofI (fvr c)<0:=by rw[<-Re.ofI_zero];exact Re.ofI_lt.2 h1
       have h3:V<0:=Re.lt_of_le_of_lt k h2;rw[<-o7 hp,Re.zero_mul]at h3;have h4:=Re.lt_trans k1 h3;rw[<-Re.ofI_zero]at h4;have:=Re.ofI_lt.1 h4;omega
     . have e:fvr c=(mg c.natAbs:Int):=by unfold fvr;rw[if_neg (by omega)]
       rw[e]at k|-;rw[<-eG hp,hm]at k;have:=(aiX hq ht c.natAbs).2 (wJ.1 (Re.lt_of_lt_of_le k1 k))
       exact_mod_cast this
theorem ae9(W k n b:Re):W*k*n*b=W*(n*b)*k:=by
 revert W k n b;exact Re.all4 fun a b c d=>Re.same fun n=>by simp only[Re.mulC_f];grind
theorem uS(neg:Bool)(p:Int):NearR (double.nearest neg 0 p) 0:=by
 have h:=fU false 0 p (max 1074 (-p).toNat) (by omega) (by omega) 0 (by simp);have h1:NearR (double.nearest false 0 p) 0:=h.re (by rw[Re.zero_mul,Re.ofI_zero]);have:=yD (neg:=neg) h1
 cases neg
 . exact this
 . simp only[if_true,Re.neg_zero]at this;exact this
theorem ahO{j:Int}{more:Nat}(hi:-1074<=i)(hj:-1074<=j)(ht:t=max 1074 (-(i-j-more-1)).toNat)(u:Nat)(hu:u=1074):(i+1074).toNat+u+(t-1074)=more+1+(i-j-more-1+t).toNat+(j+1074).toNat:=by omega
theorem nT{x y:Nat}(hU:∃u,u=1074/\U=2^u)(hx:fin x)(hy:fin y)(h0:fv y≠0)(hV:V*ofI (fv y)=ofI (fv x)*ofN U):∃r,double.div x y=some r/\r<2^64/\NearR r V:=by
 obtain⟨u,hu,hU⟩:=hU;obtain⟨m,i,e1,p1,v1⟩:=fI hx;obtain⟨n,j,e2,q1,v2⟩:=fI hy;have hp:=iJ v1;have hq:=iJ v2;clear v1 v2;have hn:n≠0:=by
  intro hn;apply h0;rw[hq,hn];simp
 generalize ha:(i+1074).toNat=a at*;generalize hb:(j+1074).toNat=b at*
 -- the magnitude of the quotient
 obtain⟨W,hWV,hW⟩:∃W:Re,V=(if (fneg x^^fneg y)then-W else W)/\W*ofN (n*2^b)=ofN (m*2^a)*ofN U:=by
  refine⟨if (fneg x^^fneg y)then-V else V,?_,?_⟩
  . cases (fneg x^^fneg y)<;>simp[Re.neg_neg]
  . rw[hp,hq]at hV
    cases hsx:fneg x<;>cases hsy:fneg y<;>rw[hsx,hsy]at hV<;>simp only[asR,if_false,if_true,Bool.xor_false,Bool.xor_true,Bool.not_false,Bool.not_true,Bool.false_xor,Bool.true_xor]at hV|-
    . exact hV
    . rw[Re.ofI_neg,Re.mul_neg]at hV;rw[Re.neg_mul];exact hV
    . rw[Re.ofI_neg,Re.neg_mul]at hV;rw[Re.neg_mul]
      show-(V*ofI _)=_;rw[hV,Re.neg_neg];rfl
    . rw[Re.ofI_neg,Re.ofI_neg,Re.mul_neg,Re.neg_mul]at hV
      have:=congrArg (fun z:Re=>-z) hV;simp only[Re.neg_neg]at this;exact this
 have hdiv:double.div x y=some (double.nearest (fneg x^^fneg y) (2*(m <<< (54+n.log2-m.log2)/n)+(m <<< (54+n.log2-m.log2)%n != 0).toNat) (i-j-(54+n.log2-m.log2:Nat)-1)):=by
  unfold Format.div;rw[e1,e2];show Option.map double.write (Datum.quotient 54 _ _)=_;simp only[Datum.quotient,hn,if_false];rfl
 refine⟨_,hdiv,double.div_lt hdiv,?_⟩;rw[hWV];refine yD ?_;clear hdiv hWV hV hp hq e1 e2 h0 hx hy;generalize hmore:54+n.log2-m.log2=more;rw[asV];by_cases hm:m=0
 . subst hm
   have hz:W=0:=by
    refine jO (z:=ofN (n*2^b)) (Re.ne_of_gt (kI (as0 (asM hn) (asI b)))) ?_;rw[hW,Re.zero_mul,asX];show ofI ((0:Nat):Int)*ofN U=0;rw[show((0:Nat):Int)=0 from rfl,Re.ofI_zero,Re.zero_mul]
   rw[hz];simp only[asX,Nat.zero_div,Nat.zero_mod,Nat.mul_zero,bne_self_eq_false,Bool.toNat_false,Nat.add_zero];exact uS false _
 . obtain⟨D,hD⟩:∃D,m*2^more=D:=⟨_,rfl⟩
   rw[hD];have hq:2^53<=D/n:=by
    rw[Nat.le_div_iff_mul_le (asM hn),<-hD];have h1:=asZ hm;have h2:=@Nat.lt_log2_self n;have h3:2^m.log2*2^more<=m*2^more:=asK _ h1;rw[<-asJ]at h3;have h4:2^(53+(n.log2+1))<=2^(m.log2+more):=asP (by omega) (by omega);have h5:2^53*n<=2^53*2^(n.log2+1):=asS _ (Nat.le_of_lt h2);rw[<-asJ]at h5;exact asY h5 (asY h4 h3)
   obtain⟨t,ht⟩:∃t,t=max 1074 (-(i-j-more-1)).toNat:=⟨_,rfl⟩;have hex:=ahO p1 q1 ht u hu;rw[ha,hb]at hex
   -- W K n = 2 D M
   have key:W*ofN (2^(t-1074))*ofN n=ofN (2*D*2^(i-j-more-1+t).toNat):=by
    refine jO (z:=ofN (2^b)) (Re.ne_of_gt (kI (asI b))) ?_;have e1:W*ofN (2^(t-1074))*ofN n*ofN (2^b)=W*ofN (n*2^b)*ofN (2^(t-1074)):=by
     rw[Re.ofN_mul];exact ae9 _ _ _ _
    rw[e1,hW,<-Re.ofN_mul,<-Re.ofN_mul,<-Re.ofN_mul];refine congrArg ofN ?_;rw[<-hD,hU];have:m*2^a*2^u*2^(t-1074)=m*2^(a+u+(t-1074)):=by rw[asJ,asJ];simp only[asL]
    rw[this,hex,asJ,asJ,asJ,as2];simp only[asL,asQ,asO]
   have hn0:=kI (asM hn);obtain⟨e,he⟩:∃e,(i-j-more-1+t).toNat=e:=⟨_,rfl⟩;rw[he]at key;have hM:=asI e;have hdm:=Nat.div_add_mod D n;have hml:=Nat.mod_lt D (asM hn);generalize D/n=q at*;refine p9 hq ht (fun hb0=> ?_) (fun hb1=> ?_)<;>rw[he]
   . have h0:D%n=0:=by simpa using hb0
     refine jO (z:=ofN n) (Re.ne_of_gt hn0) ?_;rw[key,<-Re.ofN_mul];refine congrArg ofN ?_;have:D=n*q:=by omega
     rw[this];simp only[asL,asQ,asO]
   . have h0:D%n≠0:=by simpa using hb1
     rw[<-o7 hn0,<-o7 (x:=W*_) hn0,key,<-Re.ofN_mul,<-Re.ofN_mul,wJ,wJ];have e1:2*q*2^e*n=2*(n*q)*2^e:=by simp only[asL,asQ,asO]
     have e2:(2*q+2)*2^e*n=2*(n*q+n)*2^e:=by
      rw[show 2*(n*q+n)=(2*q+2)*n from by rw[Nat.add_mul,Nat.mul_add,asQ n q,asL]];simp only[asL,asQ,asO]
     rw[e1,e2];exact⟨asN (by omega) hM,asN (by omega) hM⟩
theorem jP(n:Nat):∀(todo r:Nat),r*r<=n->n<(r+2^todo)*(r+2^todo)->Datum.rootFrom n todo r*Datum.rootFrom n todo r<=n/\n<(Datum.rootFrom n todo r+1)*(Datum.rootFrom n todo r+1)
 |0,r,h1,h2=>⟨h1,h2⟩
 |todo+1,r,h1,h2=>by
  have e:2^(todo+1)=2^todo+2^todo:=by rw[Nat.pow_succ];omega
  have e1:1 <<< todo=2^todo:=by rw[asV,Nat.one_mul]
  unfold Datum.rootFrom;simp only[e1];by_cases h:(r+2^todo)*(r+2^todo)<=n
  . rw[if_pos h]
    refine jP n todo _ h ?_;rw[e,<-Nat.add_assoc]at h2;exact h2
  . rw[if_neg h]
    exact jP n todo r h1 (by omega)
theorem afA{more0 more:Nat}(hi:-1074<=i)(hm:more=more0+((i-more0)%2).toNat)(ha:(i+1074).toNat=a)(ht:t=max 1074 (-((i-more)/2-1)).toNat)(u:Nat)(hu:u=1074):a+u+((t-1074)+(t-1074))=more+(1+((i-more)/2-1+t).toNat+(1+((i-more)/2-1+t).toNat)):=by omega
theorem ajK(V k:Re):V*k*(V*k)=V*V*(k*k):=by
 revert V k;exact Re.all2 fun a b=>Re.same fun n=>by simp only[Re.mulC_f];grind
theorem uT{x:Nat}(hU:∃u,u=1074/\U=2^u)(hx:fin x)(h0:0<=fv x)(hV0:0<=V)(hV:V*V=ofI (fv x)*ofN U):∃r,double.sqrt x=some r/\r<2^64/\NearR r V:=by
 obtain⟨u,hu,hU⟩:=hU;obtain⟨m,i,e1,p1,v1⟩:=fI hx;have hp:=iJ v1;clear v1;generalize ha:(i+1074).toNat=a at*;by_cases hm:m=0
 . subst hm
   have hz:V=0:=by
    refine Re.sq_inj hV0 (Re.le_refl _) ?_;rw[hV,hp,asX,Re.zero_mul];simp[Re.ofI_zero,Re.zero_mul]
   have hsq:double.sqrt x=some (double.nearest (fneg x) 0 i):=by
    unfold Format.sqrt;rw[e1];simp[Datum.root,Format.write]
   refine⟨_,hsq,?_,by rw[hz];exact uS _ _⟩;exact double.sqrt_lt hsq
 . have hneg:fneg x=false:=by
    cases h:fneg x
    . rfl
    . rw[hp,h]at h0
      simp only[if_true]at h0;have:=as0 (asM hm) (asI a);omega
   rw[hneg]at e1 hp;simp only[asR,if_false]at hp;obtain⟨more,hmore⟩:∃more,(2*54-m.log2)+((i-(2*54-m.log2:Nat))%2).toNat=more:=⟨_,rfl⟩;obtain⟨n,hn⟩:∃n,m*2^more=n:=⟨_,rfl⟩;obtain⟨q,hq⟩:∃q,Datum.rootFrom n (n.log2/2+1) 0=q:=⟨_,rfl⟩;have hsq:double.sqrt x=some (double.nearest false (2*q+(q*q != n).toNat) ((i-more)/2-1)):=by
    unfold Format.sqrt;rw[e1];show Option.map double.write (Datum.root 54 _)=_;simp only[Datum.root,hm,if_false,asR,asV,hmore,hn,hq];rfl
   refine⟨_,hsq,double.sqrt_lt hsq,?_⟩;clear hsq e1 hneg h0;have hnl:2^108<=n:=by
    have h1:=asZ hm;have h3:2^m.log2*2^more<=m*2^more:=asK _ h1;rw[<-asJ,hn]at h3;exact asY (asP (by omega) (by omega)) h3
   have hspec:=jP n (n.log2/2+1) 0 (Nat.zero_le _) (by
    rw[Nat.zero_add,<-asJ];exact Nat.lt_of_lt_of_le (@Nat.lt_log2_self n) (asP (by omega) (by omega)))
   rw[hq]at hspec;obtain⟨s1,s2⟩:=hspec;have hq53:2^53<=q:=by
    rcases asW q (2^53)with h|h
    . exfalso
      have:(q+1)*(q+1)<=2^53*2^53:=Nat.mul_le_mul h h;have h3:(2:Nat)^53*2^53<=2^108:=by decide
      omega
    . exact h
   obtain⟨t,ht⟩:∃t,t=max 1074 (-((i-more)/2-1)).toNat:=⟨_,rfl⟩;have hex:=afA p1 hmore.symm ha ht u hu;obtain⟨e,he⟩:∃e,((i-more)/2-1+t).toNat=e:=⟨_,rfl⟩;rw[he]at hex;have hM:=asI e;have hK:=Re.le_of_lt (kI (asI (t-1074)));obtain⟨V',hV'⟩:∃V',V*ofN (2^(t-1074))=V':=⟨_,rfl⟩;have hV0':0<=V':=by rw[<-hV'];exact Re.mul_nonneg hV0 hK
   have key:V'*V'=ofN (n*(2*2^e*(2*2^e))):=by
    rw[<-hV',ajK,hV,hp];show ofN (m*2^a)*ofN U*_=_;rw[<-Re.ofN_mul,<-Re.ofN_mul,<-Re.ofN_mul];refine congrArg ofN ?_;rw[<-hn,hU];have e1:m*2^a*2^u*(2^(t-1074)*2^(t-1074))=m*2^(a+u+((t-1074)+(t-1074))):=by
     rw[asJ,asJ,asJ];simp only[asL]
    rw[e1,hex,asJ,asJ,asJ,as2];simp only[asL]
   clear hV hp hex;have nn:∀c:Nat,(0:Re)<=ofN c:=fun c=>by rw[<-Re.ofI_zero];exact Re.ofI_le.2 (by omega)
   have sqc:∀c:Nat,2*c*2^e*(2*c*2^e)=c*c*(2*2^e*(2*2^e)):=fun c=>by simp only[asL,asQ,asO]
   have hP:0<2*2^e*(2*2^e):=as0 (by omega) (by omega);refine p9 hq53 (t:=t) ht (fun hb0=> ?_) (fun hb1=> ?_)<;>rw[he,hV']
   . have h0:q*q=n:=by simpa using hb0
     refine Re.sq_inj hV0' (nn _) ?_;rw[key,<-Re.ofN_mul,sqc,h0]
   . have h0:q*q≠n:=by simpa using hb1
     constructor
     . rw[<-Re.not_le]
       intro hc;have:=Re.mul_le_mul hV0' hc hV0' hc;rw[key,<-Re.ofN_mul,sqc]at this;have:=asU (Re.ofN_le.1 this) hP;omega
     . rw[<-Re.not_le]
       intro hc;have:=Re.mul_le_mul (nn _) hc (nn _) hc;rw[key,<-Re.ofN_mul,show 2*q+2=2*(q+1) from rfl,sqc]at this;have:=asU (Re.ofN_le.1 this) hP;omega
end
end Go.Proofs.YtkadpnljocflaaaGreatDoor
