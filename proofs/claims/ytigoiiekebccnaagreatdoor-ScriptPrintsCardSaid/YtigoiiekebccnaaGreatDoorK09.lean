/- A part of the proof: contracts of functions and plain laws (Real, RealB, RealC, SepA). -/
set_option linter.unusedVariables false
set_option linter.unusedSimpArgs false
set_option linter.unnecessarySimpa false
set_option maxHeartbeats 25600000
set_option maxRecDepth 100000
namespace Go.Proofs.YtigoiiekebccnaaGreatDoor
open Classical renaming byContradiction->aw3,not_not->axH,em->axI
open Nat renaming pow_add->aw5,pow_le_pow_right->aw6,le_refl->aw7,two_pow_pos->aw9,mul_le_mul->axA,zero_le->axB,mul_le_mul_left->axC,le_trans->axD,pow_succ->axF,pow_mul->axG
open Rat renaming mul_nonneg->aw2,mul_pos->aw4,intCast_le_intCast->aw8,inv_pos->axE
variable{b:Int}{B l l1 l2 u u1 u2:Nat}{a:Nat->Rat}{e p q:Rat}
def Cau(f:Nat->Rat):Prop:=∀e:Rat,0<e->∃N:Nat,∀m n,N<=m->N<=n->f m-f n<e
def Nul(f:Nat->Rat):Prop:=∀e:Rat,0<e->∃N:Nat,∀n,N<=n->-e<f n/\f n<e
theorem y7{x y A d:Rat}(h1:-A<x)(h2:x<A)(h3:-d<y)(h4:y<d):-(A*d)<x*y/\x*y<A*d:=by
 have a1:0<(A-x)*(d+y):=aw4 (by grind) (by grind);have a2:0<(A+x)*(d-y):=aw4 (by grind) (by grind);have a3:0<(A-x)*(d-y):=aw4 (by grind) (by grind);have a4:0<(A+x)*(d+y):=aw4 (by grind) (by grind);constructor<;>grind
theorem dB{a b:Rat}(ha:0<a)(hb:0<b):0<a/b:=by
 rw[Rat.div_def];exact aw4 ha (axE.2 hb)
section
variable{f g:Nat->Rat}
theorem Cau.bd (h:Cau f):∃(M:Rat) (N:Nat),0<M/\∀n,N<=n->-M<f n/\f n<M:=by
 obtain⟨N,hN⟩:=h 1 (by decide);refine⟨(if 0<=f N then f N else-f N)+1,N,by split<;>grind,fun n hn=> ?_⟩;have h1:=hN n N hn (aw7 _);have h2:=hN N n (aw7 _) hn
 split<;>constructor<;>grind
theorem Cau.add (h:Cau f)(k:Cau g):Cau (fun n=>f n+g n):=by
 intro e he;obtain⟨N,hN⟩:=h (e/2) (dB he (by decide));obtain⟨M,hM⟩:=k (e/2) (dB he (by decide));refine⟨max N M,fun m n hm hn=> ?_⟩;have h1:=hN m n (by omega) (by omega);have h2:=hM m n (by omega) (by omega);grind
theorem Cau.neg (h:Cau f):Cau (fun n=>-f n):=by
 intro e he;obtain⟨N,hN⟩:=h e he;refine⟨N,fun m n hm hn=> ?_⟩;have h1:=hN n m hn hm;grind
theorem Cau.mul (h:Cau f)(k:Cau g):Cau (fun n=>f n*g n):=by
 intro e he;obtain⟨A,N1,hA,h1⟩:=h.bd;obtain⟨B,N2,hB,h2⟩:=k.bd;obtain⟨N3,h3⟩:=h (e/(2*B)) (dB he (by grind));obtain⟨N4,h4⟩:=k (e/(2*A)) (dB he (by grind));refine⟨max (max N1 N2) (max N3 N4),fun m n hm hn=> ?_⟩;have a1:=h1 m (by omega);have a2:=h2 n (by omega);have b1:=h3 m n (by omega) (by omega);have b2:=h3 n m (by omega) (by omega);have b3:=h4 m n (by omega) (by omega);have b4:=h4 n m (by omega) (by omega);have c1:=(y7 a1.1 a1.2 (y:=g m-g n) (d:=e/(2*A)) (by grind) b3).2;have c2:=(y7 a2.1 a2.2 (y:=f m-f n) (d:=e/(2*B)) (by grind) b1).2;have d1:A*(e/(2*A))=e/2:=by grind
 have d2:B*(e/(2*B))=e/2:=by grind
 rw[d1]at c1;rw[d2]at c2;grind
theorem Cau.const (q:Rat):Cau (fun _=>q):=fun e he=>⟨0,fun m n _ _=>by grind⟩
theorem Nul.add (h:Nul f)(k:Nul g):Nul (fun n=>f n+g n):=by
 intro e he;obtain⟨N,hN⟩:=h (e/2) (dB he (by decide));obtain⟨M,hM⟩:=k (e/2) (dB he (by decide));refine⟨max N M,fun n hn=> ?_⟩;have h1:=hN n (by omega);have h2:=hM n (by omega);constructor<;>grind
theorem Nul.neg (h:Nul f):Nul (fun n=>-f n):=by
 intro e he;obtain⟨N,hN⟩:=h e he;exact⟨N,fun n hn=>by have:=hN n hn;constructor<;>grind⟩
theorem Nul.mul (h:Nul f)(k:Cau g):Nul (fun n=>f n*g n):=by
 intro e he;obtain⟨B,N2,hB,h2⟩:=k.bd;obtain⟨N3,h3⟩:=h (e/B) (dB he hB);refine⟨max N2 N3,fun n hn=> ?_⟩;have a:=h2 n (by omega);have b:=h3 n (by omega);have:=y7 b.1 b.2 a.1 a.2;have d:e/B*B=e:=by grind
 rw[d]at this;exact this
theorem Cau.apart (h:Cau f)(hn:¬Nul f):∃(d:Rat) (N:Nat),0<d/\((∀n,N<=n->d<f n)\/(∀n,N<=n->f n< -d)):=by
 have:∃e:Rat,0<e/\∀N:Nat,∃n,N<=n/\(f n<=-e\/e<=f n):=by
  apply aw3;intro hc;refine hn fun e he=> ?_;apply aw3;intro hd;refine hc ⟨e,he,fun N=> ?_⟩;apply aw3;intro hf;refine hd ⟨N,fun n hnn=> ?_⟩;have:¬(f n<=-e\/e<=f n):=fun hh=>hf ⟨n,hnn,hh⟩;constructor<;>grind
 obtain⟨e,he,hN⟩:=this;obtain⟨N,hc⟩:=h (e/2) (dB he (by decide));obtain⟨n,hn1,hn2⟩:=hN N;refine⟨e/2,N,dB he (by decide),?_⟩;rcases hn2 with hn2|hn2
 . right;intro m hm
   have:=hc m n hm hn1;grind
 . left;intro m hm
   have:=hc n m hn1 hm;grind
end
structure Cs where
 f:Nat->Rat
 c:Cau f
def Cs.eqv (a b:Cs):Prop:=Nul (fun n=>a.f n-b.f n)
instance aa0:Setoid Cs where
 r:=Cs.eqv
 iseqv:={
  refl:=fun a e he=>⟨0,fun n _=>by constructor<;>grind⟩
  symm:=fun{a b} h=>by
   have:=Nul.neg h;intro e he;obtain⟨N,hN⟩:=this e he;exact⟨N,fun n hn=>by have:=hN n hn;constructor<;>grind⟩
  trans:=fun{a b c} h k=>by
   have:=Nul.add h k;intro e he;obtain⟨N,hN⟩:=this e he;exact⟨N,fun n hn=>by have:=hN n hn;constructor<;>grind⟩}
theorem Nul.congr {f g:Nat->Rat}(h:Nul f)(e:∀n,f n=g n):Nul g:=by
 have:f=g:=funext e;rw[<-this];exact h
def Re:Type:=Quotient aa0
namespace Re
def mk(a:Cs):Re:=Quotient.mk aa0 a
theorem ind{p:Re->Prop}(h:∀a,p (mk a))(x:Re):p x:=Quotient.ind h x
theorem eqv{a b:Cs}(h:Nul (fun n=>a.f n-b.f n)):mk a=mk b:=Quotient.sound h
theorem eqv_iff{a b:Cs}:mk a=mk b↔Nul (fun n=>a.f n-b.f n):=⟨fun h=>Quotient.exact h,eqv⟩
theorem same{a b:Cs}(h:∀n,a.f n=b.f n):mk a=mk b:=eqv fun e he=>⟨0,fun n _=>by have:=h n;constructor<;>grind⟩
def addC(a b:Cs):Cs:=⟨fun n=>a.f n+b.f n,a.c.add b.c⟩
def mulC(a b:Cs):Cs:=⟨fun n=>a.f n*b.f n,a.c.mul b.c⟩
def negC(a:Cs):Cs:=⟨fun n=>-a.f n,a.c.neg⟩
def ratC(q:Rat):Cs:=⟨fun _=>q,Cau.const q⟩
instance:Add Re:=⟨Quotient.lift₂ (fun a b=>mk (addC a b)) fun a b c d h k=>eqv ((Nul.add h k).congr fun n=>by simp only[addC];grind)⟩
instance:Mul Re:=⟨Quotient.lift₂ (fun a b=>mk (mulC a b)) fun a b c d h k=>eqv ((Nul.add (Nul.mul h b.c) (Nul.mul k c.c)).congr fun n=>by simp only[mulC];grind)⟩
instance:Neg Re:=⟨Quotient.lift (fun a=>mk (negC a)) fun a b h=>eqv ((Nul.neg h).congr fun n=>by simp only[negC];grind)⟩
instance:Sub Re:=⟨fun x y=>x+-y⟩
def rat(q:Rat):Re:=mk (ratC q)
instance{n:Nat}:OfNat Re n:=⟨rat (n:Nat)⟩
theorem add_mk(a b:Cs):mk a+mk b=mk (addC a b):=rfl
theorem mul_mk(a b:Cs):mk a*mk b=mk (mulC a b):=rfl
theorem neg_mk(a:Cs):-mk a=mk (negC a):=rfl
theorem sub_mk(a b:Cs):mk a-mk b=mk (addC a (negC b)):=rfl
theorem num_mk(n:Nat):(OfNat.ofNat n:Re)=mk (ratC (n:Rat)):=rfl
theorem rat_mk(q:Rat):rat q=mk (ratC q):=rfl
theorem addC_f(a b:Cs)(n:Nat):(addC a b).f n=a.f n+b.f n:=rfl
theorem mulC_f(a b:Cs)(n:Nat):(mulC a b).f n=a.f n*b.f n:=rfl
theorem negC_f(a:Cs)(n:Nat):(negC a).f n=-a.f n:=rfl
theorem ratC_f(q:Rat)(n:Nat):(ratC q).f n=q:=rfl
def Pos(x:Re):Prop:=∃a:Cs,mk a=x/\∃(d:Rat) (N:Nat),0<d/\∀n,N<=n->d<a.f n
theorem pos_mk{a:Cs}:Pos (mk a)↔∃(d:Rat) (N:Nat),0<d/\∀n,N<=n->d<a.f n:=by
 constructor
 . rintro⟨b,hb,d,N,hd,h⟩
   obtain⟨M,hM⟩:=(eqv_iff.1 hb) (d/2) (dB hd (by decide));refine⟨d/2,max N M,dB hd (by decide),fun n hn=> ?_⟩;have h1:=h n (by omega);have h2:=hM n (by omega);grind
 . exact fun h=>⟨a,rfl,h⟩
theorem pos_add{x y:Re}(h:Pos x)(k:Pos y):Pos (x+y):=by
 induction x using ind with|_ a
 induction y using ind with|_ b
 obtain⟨d,N,hd,h⟩:=pos_mk.1 h;obtain⟨d',N',hd',h'⟩:=pos_mk.1 k;rw[add_mk,pos_mk];exact⟨d+d',max N N',by grind,fun n hn=>by have:=h n (by omega);have:=h' n (by omega);simp only[addC_f];grind⟩
theorem pos_mul{x y:Re}(h:Pos x)(k:Pos y):Pos (x*y):=by
 induction x using ind with|_ a
 induction y using ind with|_ b
 obtain⟨d,N,hd,h⟩:=pos_mk.1 h;obtain⟨d',N',hd',h'⟩:=pos_mk.1 k;rw[mul_mk,pos_mk];refine⟨d*d',max N N',aw4 hd hd',fun n hn=> ?_⟩;have h1:=h n (by omega);have h2:=h' n (by omega);simp only[mulC_f];have a1:0<(a.f n-d)*(b.f n-d'):=aw4 (by grind) (by grind);have a2:0<d*(b.f n-d'):=aw4 hd (by grind);have a3:0<d'*(a.f n-d):=aw4 hd' (by grind);grind
theorem pos_tri(x:Re):Pos x\/x=0\/Pos (-x):=by
 induction x using ind with|_ a
 by_cases h:Nul a.f
 . right;left
   exact eqv (h.congr fun n=>by show a.f n=a.f n-((0:Nat):Rat);grind)
 . obtain⟨d,N,hd,h|h⟩:=a.c.apart h
   . left;exact pos_mk.2 ⟨d,N,hd,h⟩
   . right;right;rw[neg_mk];exact pos_mk.2 ⟨d,N,hd,fun n hn=>by have:=h n hn;simp only[negC_f];grind⟩
theorem pos_zero:¬Pos 0:=by
 rw[num_mk,pos_mk];rintro⟨d,N,hd,h⟩;have:=h N (aw7 _);simp only[ratC_f]at this;grind
theorem pos_rat:Pos (rat q)↔0<q:=by
 rw[rat_mk,pos_mk];constructor
 . rintro⟨d,N,hd,h⟩
   have:=h N (aw7 _);simp only[ratC_f]at this;grind
 . intro h
   exact⟨q/2,0,dB h (by decide),fun n _=>by simp only[ratC_f];grind⟩
instance:LT Re:=⟨fun x y=>Pos (y-x)⟩
instance:LE Re:=⟨fun x y=>¬Pos (x-y)⟩
theorem lt_def{x y:Re}:x<y↔Pos (y-x):=Iff.rfl
theorem zero_add(x:Re):0+x=x:=by
 induction x using ind with|_ a
 rw[num_mk,add_mk];exact same fun n=>by simp only[addC_f,ratC_f];grind
theorem mul_comm(x y:Re):x*y=y*x:=by
 induction x using ind with|_ a
 induction y using ind with|_ b
 rw[mul_mk,mul_mk];exact same fun n=>by simp only[mulC_f];grind
theorem mul_assoc(x y z:Re):x*y*z=x*(y*z):=by
 induction x using ind with|_ a
 induction y using ind with|_ b
 induction z using ind with|_ c
 simp only[mul_mk];exact same fun n=>by simp only[mulC_f];grind
theorem one_mul(x:Re):1*x=x:=by
 induction x using ind with|_ a
 rw[num_mk,mul_mk];exact same fun n=>by simp only[mulC_f,ratC_f];grind
theorem add_mul(x y z:Re):(x+y)*z=x*z+y*z:=by
 induction x using ind with|_ a
 induction y using ind with|_ b
 induction z using ind with|_ c
 simp only[mul_mk,add_mk];exact same fun n=>by simp only[mulC_f,addC_f];grind
theorem sub_def(x y:Re):x-y=x+-y:=rfl
theorem rat_add(p q:Rat):rat (p+q)=rat p+rat q:=by
 simp only[rat_mk,add_mk];exact same fun n=>by simp only[addC_f,ratC_f]
theorem rat_mul(p q:Rat):rat (p*q)=rat p*rat q:=by
 simp only[rat_mk,mul_mk];exact same fun n=>by simp only[mulC_f,ratC_f]
theorem rat_neg(p:Rat):rat (-p)=-rat p:=by
 simp only[rat_mk,neg_mk];exact same fun n=>by simp only[negC_f,ratC_f]
end Re
theorem al6{P:Nat->Prop}(h0:P 0){K:Nat}(hK:¬P K):∃k,P k/\¬P (k+1):=by
 induction K with
 |zero=>exact absurd h0 hK
 |succ K ih=>
  by_cases h:P K
  . exact⟨K,h,hK⟩
  . exact ih h
theorem aeP(r:Rat):∃K:Nat,r<=(K:Rat):=by
 refine⟨r.ceil.toNat,Rat.le_trans Rat.le_ceil ?_⟩;have:(r.ceil:Int)<=((r.ceil.toNat:Nat):Int):=Int.self_le_toNat _;have h2:=aw8.2 this;rwa[Rat.intCast_natCast]at h2
theorem ao8{u v:Rat}(hu:0<=u)(hv:0<=v)(he:0<e)(h:u*u-v*v<e*e):u-v<e:=by
 apply aw3;intro hc;have h1:0<=(u-v-e)*(u+v+e):=aw2 (by grind) (by grind);have h2:0<=v*e:=aw2 hv (by grind);grind
theorem aiW(hq:0<=q)(he:0<e):∃u:Rat,0<=u/\u*u<=q/\q<u*u+e:=by
 obtain⟨d,hd,h1,h2⟩:∃d:Rat,0<d/\d<=1/\d*(2*q+3)<=e:=by
  have hp:(0:Rat)<2*q+3:=by grind
  have hc:e/(2*q+3)*(2*q+3)=e:=by grind
  rcases(Rat.le_total:e/(2*q+3)<=1\/_)with h|h
  . exact⟨e/(2*q+3),dB he hp,h,by grind⟩
  . refine⟨1,by decide,by grind,?_⟩
    have:=aw2 (a:=e/(2*q+3)-1) (b:=2*q+3) (by grind) (by grind);grind
 obtain⟨K,hK⟩:=aeP ((q+1)/d);have hKd:q+1<=(K:Rat)*d:=by
  have h3:(q+1)/d*d=q+1:=by grind
  have:=aw2 (a:=(K:Rat)-(q+1)/d) (b:=d) (by grind) (by grind);grind
 obtain⟨k,k1,k2⟩:=al6 (P:=fun k=>(k:Rat)*d*((k:Rat)*d)<=q) (by simpa using hq) (K:=K) (by
  have:=aw2 (a:=(K:Rat)*d-(q+1)) (b:=(K:Rat)*d+(q+1)) (by grind) (by grind);have:=aw2 hq hq;grind)
 have hk0:0<=(k:Rat)*d:=aw2 (by exact_mod_cast axB k) (by grind);refine⟨(k:Rat)*d,hk0,k1,?_⟩;have e1:((k+1:Nat):Rat)*d=(k:Rat)*d+d:=by
  rw[Rat.natCast_add];grind
 simp only[e1]at k2;generalize (k:Rat)*d=u at*;have hu:u<=q+1:=by
  apply aw3;intro hc;have:=aw2 (a:=u-(q+1)) (b:=u+(q+1)) (by grind) (by grind);have:=aw2 hq hq;grind
 have h3:=aw2 (a:=d) (b:=2*q+3-(2*u+d)) (by grind) (by grind);grind
theorem xL(he:0<e):∃N:Nat,∀n,N<=n->1/((n:Rat)+1)<e:=by
 obtain⟨K,hK⟩:=aeP (1/e);refine⟨K,fun n hn=> ?_⟩;have h1:(K:Rat)<=(n:Rat):=by exact_mod_cast hn
 have h2:(0:Rat)<(n:Rat)+1:=by
  have:(0:Rat)<=(n:Rat):=by exact_mod_cast axB n
  grind
 rw[Rat.div_lt_iff h2];have h3:1/e*e=1:=by grind
 have:=aw2 (a:=(n:Rat)-1/e) (b:=e) (by grind) (by grind);grind
theorem aiX(n:Nat):(0:Rat)<1/((n:Rat)+1):=by
 have:(0:Rat)<=(n:Rat):=by exact_mod_cast axB n
 exact dB (by decide) (by grind)
theorem aiY(ha:Cau a)(h0:∀e:Rat,0<e->∃N:Nat,∀n,N<=n->-e<a n):
 ∃f:Nat->Rat,Cau f/\(∀n,0<=f n)/\Nul (fun n=>f n*f n-a n):=by
 have hb:∀n,∃u:Rat,0<=u/\u*u<=(if 0<=a n then a n else 0)/\(if 0<=a n then a n else 0)<u*u+1/((n:Rat)+1):=fun n=>
  aiW (by split<;>grind) (aiX n)
 refine⟨fun n=>(hb n).choose,?_,fun n=>(hb n).choose_spec.1,?_⟩
 . intro e he
   have hee:0<e*e:=aw4 he he;obtain⟨N,hN⟩:=ha (e*e/2) (dB hee (by decide));obtain⟨M,hM⟩:=xL (e:=e*e/2) (dB hee (by decide));refine⟨max N M,fun m n hm hn=> ?_⟩;have h1:=hN m n (by omega) (by omega);have h2:=hM n (by omega);obtain⟨a1,a2,a3⟩:=(hb m).choose_spec;obtain⟨b1,b2,b3⟩:=(hb n).choose_spec;refine ao8 a1 b1 he ?_;generalize (hb m).choose=u at*;generalize (hb n).choose=v at*;by_cases c1:0<=a m<;>by_cases c2:0<=a n<;>simp only[c1,c2,if_true,if_false]at a2 a3 b2 b3<;>grind
 . intro e he
   obtain⟨N,hN⟩:=h0 e he;obtain⟨M,hM⟩:=xL he;refine⟨max N M,fun n hn=> ?_⟩;have h1:=hN n (by omega);have h2:=hM n (by omega);obtain⟨b1,b2,b3⟩:=(hb n).choose_spec;show-e<(hb n).choose*(hb n).choose-a n/\(hb n).choose*(hb n).choose-a n<e;generalize (hb n).choose=v at*;by_cases c2:0<=a n<;>simp only[c2,if_true,if_false]at b2 b3<;>constructor<;>grind
theorem al7(ha:Cau a)(h0:¬Nul a):∃f:Nat->Rat,Cau f/\Nul (fun n=>a n*f n-1):=by
 obtain⟨d,N,hd,h⟩:=ha.apart h0;have hne:∀n,N<=n->a n≠0:=fun n hn=>by rcases h with h|h<;>have:=h n hn<;>grind
 have hi:∀n,N<=n->a n*(a n)⁻¹=1:=fun n hn=>Rat.mul_inv_cancel _ (hne n hn);refine⟨fun n=>(a n)⁻¹,?_,?_⟩
 . intro e he
   obtain⟨M,hM⟩:=ha (e*(d*d)) (aw4 he (aw4 hd hd));refine⟨max N M,fun m n hm hn=> ?_⟩;have h1:=hM m n (by omega) (by omega);have h2:=hM n m (by omega) (by omega);have i1:=hi m (by omega);have i2:=hi n (by omega);generalize ha1:(a m)⁻¹=u at*;generalize hb1:(a n)⁻¹=v at*
   -- u - v = (a n - a m) * (u * v), and 1 - d*d*u*v >= 0
   have key:0<u*v/\d*d*(u*v)<=1:=by
    rcases h with h|h
    . have g1:=h m (by omega);have g2:=h n (by omega)
      have p1:0<u:=by
       rw[<-ha1];exact axE.2 (by grind)
      have p2:0<v:=by
       rw[<-hb1];exact axE.2 (by grind)
      refine⟨aw4 p1 p2,?_⟩;have q1:d*u<=1:=by
       have:=aw2 (a:=a m-d) (b:=u) (by grind) (by grind);grind
      have q2:d*v<=1:=by
       have:=aw2 (a:=a n-d) (b:=v) (by grind) (by grind);grind
      have:=aw2 (a:=1-d*u) (b:=d*v) (by grind) (by have:=aw4 hd p2;grind);grind
    . have g1:=h m (by omega);have g2:=h n (by omega)
      have p1:u<0:=by
       apply aw3;intro hc;have:=aw2 (a:=-a m) (b:=u) (by grind) (by grind);grind
      have p2:v<0:=by
       apply aw3;intro hc;have:=aw2 (a:=-a n) (b:=v) (by grind) (by grind);grind
      refine⟨by have:=aw4 (a:=-u) (b:=-v) (by grind) (by grind);grind,?_⟩;have q1:d*(-u)<=1:=by
       have:=aw2 (a:=-a m-d) (b:=-u) (by grind) (by grind);grind
      have q2:d*(-v)<=1:=by
       have:=aw2 (a:=-a n-d) (b:=-v) (by grind) (by grind);grind
      have:=aw2 (a:=1-d*(-u)) (b:=d*(-v)) (by grind) (by have:=aw4 (a:=d) (b:=-v) hd (by grind);grind);grind
   have r1:u-v=(a n-a m)*(u*v):=by grind
   show(a m)⁻¹-(a n)⁻¹<e;rw[ha1,hb1,r1];have s1:=aw4 (a:=e*(d*d)-(a n-a m)) (b:=u*v) (by grind) key.1;have s2:=aw2 (a:=e) (b:=1-d*d*(u*v)) (by grind) (by grind);grind
 . intro e he
   exact⟨N,fun n hn=>by have:=hi n hn;constructor<;>grind⟩
namespace Re
theorem exists_inv{x:Re}(h:x≠0):∃y,x*y=1:=by
 induction x using ind with|_ a
 have hn:¬Nul a.f:=fun hn=>h (eqv (hn.congr fun n=>by show a.f n=a.f n-((0:Nat):Rat);grind));obtain⟨f,hf,h1⟩:=al7 a.c hn;refine⟨mk ⟨f,hf⟩,?_⟩;rw[num_mk,mul_mk];exact eqv (h1.congr fun n=>by simp only[mulC_f,ratC_f];grind)
theorem nonneg_seq{a:Cs}(h:0<=mk a)(e:Rat)(he:0<e):∃N:Nat,∀n,N<=n->-e<a.f n:=by
 rcases pos_tri (mk a)with h1|h1|h1
 . obtain⟨d,N,hd,h2⟩:=pos_mk.1 h1
   exact⟨N,fun n hn=>by have:=h2 n hn;grind⟩
 . rw[num_mk]at h1
   obtain⟨N,hN⟩:=(eqv_iff.1 h1) e he;exact⟨N,fun n hn=>by have:=hN n hn;simp only[ratC_f]at this;grind⟩
 . exfalso
   refine h ?_;have e1:(0:Re)-mk a=-mk a:=by
    rw[num_mk,neg_mk,sub_mk];exact same fun n=>by simp only[addC_f,negC_f,ratC_f];grind
   rw[e1];exact h1
theorem exists_sqrt{x:Re}(h:0<=x):∃y,0<=y/\y*y=x:=by
 induction x using ind with|_ a
 obtain⟨f,hf,h0,h1⟩:=aiY a.c (nonneg_seq h);refine⟨mk ⟨f,hf⟩,?_,?_⟩
 . show¬Pos (0-mk ⟨f,hf⟩)
   rw[num_mk,sub_mk,pos_mk];rintro⟨d,N,hd,h2⟩;have:=h2 N (aw7 _);have:=h0 N;simp only[addC_f,negC_f,ratC_f]at*;grind
 . rw[mul_mk];exact eqv h1
end Re
namespace Re
theorem all1{p:Re->Prop}(h:∀a:Cs,p (mk a))(x:Re):p x:=by
 induction x using ind with|_ a
 exact h a
theorem all2{p:Re->Re->Prop}(h:∀a b:Cs,p (mk a) (mk b))(x y:Re):p x y:=by
 induction x using ind with|_ a
 induction y using ind with|_ b
 exact h a b
theorem all3{p:Re->Re->Re->Prop}(h:∀a b c:Cs,p (mk a) (mk b) (mk c))(x y z:Re):p x y z:=by
 induction x using ind with|_ a
 induction y using ind with|_ b
 induction z using ind with|_ c
 exact h a b c
theorem all4{p:Re->Re->Re->Re->Prop}(h:∀a b c d:Cs,p (mk a) (mk b) (mk c) (mk d))(x y z t:Re):p x y z t:=by
 induction x using ind with|_ a
 induction y using ind with|_ b
 induction z using ind with|_ c
 induction t using ind with|_ d
 exact h a b c d
theorem all5{p:Re->Re->Re->Re->Re->Prop}(h:∀a b c d e:Cs,p (mk a) (mk b) (mk c) (mk d) (mk e))(x y z t u:Re):p x y z t u:=by
 induction x using ind with|_ a
 induction y using ind with|_ b
 induction z using ind with|_ c
 induction t using ind with|_ d
 induction u using ind with|_ e
 exact h a b c d e
theorem sub_self(x:Re):x-x=0:=by revert x;exact all1 fun a=>same fun n=>by simp only[addC_f,mulC_f,negC_f,ratC_f];grind
theorem sub_zero(x:Re):x-0=x:=by revert x;exact all1 fun a=>same fun n=>by simp only[addC_f,mulC_f,negC_f,ratC_f];grind
theorem zero_sub(x:Re):0-x=-x:=by revert x;exact all1 fun a=>same fun n=>by simp only[addC_f,mulC_f,negC_f,ratC_f];grind
theorem neg_neg(x:Re):- -x=x:=by revert x;exact all1 fun a=>same fun n=>by simp only[addC_f,mulC_f,negC_f,ratC_f];grind
theorem neg_zero:-(0:Re)=0:=same fun n=>by simp only[addC_f,mulC_f,negC_f,ratC_f];grind
theorem add_zero(x:Re):x+0=x:=by revert x;exact all1 fun a=>same fun n=>by simp only[addC_f,mulC_f,negC_f,ratC_f];grind
theorem mul_zero(x:Re):x*0=0:=by revert x;exact all1 fun a=>same fun n=>by simp only[addC_f,mulC_f,negC_f,ratC_f];grind
theorem zero_mul(x:Re):0*x=0:=by revert x;exact all1 fun a=>same fun n=>by simp only[addC_f,mulC_f,negC_f,ratC_f];grind
theorem mul_one(x:Re):x*1=x:=by revert x;exact all1 fun a=>same fun n=>by simp only[addC_f,mulC_f,negC_f,ratC_f];grind
theorem neg_sub(x y:Re):-(x-y)=y-x:=by revert x y;exact all2 fun a b=>same fun n=>by simp only[addC_f,mulC_f,negC_f,ratC_f];grind
theorem sub_add_sub(x y z:Re):(x-y)+(y-z)=x-z:=by revert x y z;exact all3 fun a b c=>same fun n=>by simp only[addC_f,mulC_f,negC_f,ratC_f];grind
theorem add_sub_add(x y z t:Re):(x+y)-(z+t)=(x-z)+(y-t):=by revert x y z t;exact all4 fun a b c d=>same fun n=>by simp only[addC_f,mulC_f,negC_f,ratC_f];grind
theorem neg_sub_neg(x y:Re):-x- -y=y-x:=by revert x y;exact all2 fun a b=>same fun n=>by simp only[addC_f,mulC_f,negC_f,ratC_f];grind
theorem mul_sub(x y z:Re):x*(y-z)=x*y-x*z:=by revert x y z;exact all3 fun a b c=>same fun n=>by simp only[addC_f,mulC_f,negC_f,ratC_f];grind
theorem sub_mul(x y z:Re):(x-y)*z=x*z-y*z:=by revert x y z;exact all3 fun a b c=>same fun n=>by simp only[addC_f,mulC_f,negC_f,ratC_f];grind
theorem neg_mul(x y:Re):-x*y=-(x*y):=by revert x y;exact all2 fun a b=>same fun n=>by simp only[addC_f,mulC_f,negC_f,ratC_f];grind
theorem mul_neg(x y:Re):x*-y=-(x*y):=by revert x y;exact all2 fun a b=>same fun n=>by simp only[addC_f,mulC_f,negC_f,ratC_f];grind
theorem neg_mul_neg(x y:Re):-x*-y=x*y:=by revert x y;exact all2 fun a b=>same fun n=>by simp only[addC_f,mulC_f,negC_f,ratC_f];grind
theorem neg_add_rev(x y:Re):-(x+y)=-x+-y:=by revert x y;exact all2 fun a b=>same fun n=>by simp only[addC_f,mulC_f,negC_f,ratC_f];grind
theorem add_sub(x y:Re):x+(y-x)=y:=by revert x y;exact all2 fun a b=>same fun n=>by simp only[addC_f,mulC_f,negC_f,ratC_f];grind
theorem eq_of_sub{x y:Re}(h:x-y=0):x=y:=by
 have:=add_sub y x;rw[h,add_zero]at this;exact this.symm
theorem pos_iff{x:Re}:Pos x↔0<x:=by rw[lt_def,sub_zero]
theorem sub_pos{x y:Re}:0<y-x↔x<y:=by rw[lt_def,sub_zero];exact Iff.rfl
theorem not_lt{x y:Re}:¬x<y↔y<=x:=Iff.rfl
theorem not_le{x y:Re}:¬x<=y↔y<x:=axH
theorem lt_irrefl(x:Re):¬x<x:=by rw[lt_def,sub_self];exact pos_zero
theorem le_refl(x:Re):x<=x:=lt_irrefl x
theorem lt_trans{x y z:Re}(h:x<y)(k:y<z):x<z:=by
 rw[lt_def]at*;rw[<-sub_add_sub z y x];exact pos_add k h
theorem tri(x y:Re):x<y\/x=y\/y<x:=by
 rcases pos_tri (y-x)with h|h|h
 . exact Or.inl h
 . exact Or.inr (Or.inl (eq_of_sub h).symm)
 . rw[neg_sub]at h;exact Or.inr (Or.inr h)
theorem le_of_lt{x y:Re}(h:x<y):x<=y:=fun k=>lt_irrefl x (lt_trans h k)
theorem le_iff{x y:Re}:x<=y↔x<y\/x=y:=by
 constructor
 . intro h;rcases tri x y with k|k|k
   . exact Or.inl k
   . exact Or.inr k
   . exact absurd k h
 . rintro(h|h)
   . exact le_of_lt h
   . rw[h];exact le_refl _
theorem le_total(x y:Re):x<=y\/y<=x:=by
 rcases tri x y with k|k|k
 . exact Or.inl (le_of_lt k)
 . rw[k];exact Or.inl (le_refl _)
 . exact Or.inr (le_of_lt k)
theorem lt_or_ge(x y:Re):x<y\/y<=x:=axI _
theorem lt_of_lt_of_le{x y z:Re}(h:x<y)(k:y<=z):x<z:=by
 rcases le_iff.1 k with k|k
 . exact lt_trans h k
 . rw[<-k];exact h
theorem lt_of_le_of_lt{x y z:Re}(h:x<=y)(k:y<z):x<z:=by
 rcases le_iff.1 h with h|h
 . exact lt_trans h k
 . rw[h];exact k
theorem le_trans{x y z:Re}(h:x<=y)(k:y<=z):x<=z:=by
 rcases le_iff.1 h with h|h
 . exact le_of_lt (lt_of_lt_of_le h k)
 . rw[h];exact k
theorem le_antisymm{x y:Re}(h:x<=y)(k:y<=x):x=y:=by
 rcases tri x y with j|j|j
 . exact absurd j k
 . exact j
 . exact absurd j h
theorem ne_of_lt{x y:Re}(h:x<y):x≠y:=fun e=>lt_irrefl y (by rw[e]at h;exact h)
theorem ne_of_gt{x y:Re}(h:y<x):x≠y:=fun e=>lt_irrefl y (by rw[e]at h;exact h)
theorem sub_nonneg{x y:Re}:0<=y-x↔x<=y:=by
 rw[<-not_lt,<-not_lt,lt_def,lt_def,zero_sub,neg_sub]
theorem add_lt_add{x y z t:Re}(h:x<y)(k:z<t):x+z<y+t:=by
 rw[lt_def]at*;rw[add_sub_add];exact pos_add h k
theorem add_le_add{x y z t:Re}(h:x<=y)(k:z<=t):x+z<=y+t:=by
 rcases le_iff.1 h with h|h<;>rcases le_iff.1 k with k|k
 . exact le_of_lt (add_lt_add h k)
 . subst k;refine le_of_lt ?_;rw[lt_def,add_sub_add,sub_self,add_zero];exact h
 . subst h;refine le_of_lt ?_;rw[lt_def,add_sub_add,sub_self,zero_add];exact k
 . rw[h,k];exact le_refl _
theorem neg_le_neg{x y:Re}(h:x<=y):-y<=-x:=by
 rw[<-sub_nonneg,neg_sub_neg,sub_nonneg];exact h
theorem mul_pos{x y:Re}(h:0<x)(k:0<y):0<x*y:=by
 rw[<-pos_iff]at*;exact pos_mul h k
theorem mul_nonneg{x y:Re}(h:0<=x)(k:0<=y):0<=x*y:=by
 rcases le_iff.1 h with h|h<;>rcases le_iff.1 k with k|k
 . exact le_of_lt (mul_pos h k)
 . rw[<-k,mul_zero];exact le_refl _
 . rw[<-h,zero_mul];exact le_refl _
 . rw[<-h,zero_mul];exact le_refl _
theorem neg_nonneg{x:Re}:0<=-x↔x<=0:=by rw[<-sub_nonneg (y:=0),zero_sub]
theorem neg_pos{x:Re}:0< -x↔x<0:=by rw[<-sub_pos (y:=0),zero_sub]
theorem sq_nonneg(x:Re):0<=x*x:=by
 rcases le_total 0 x with h|h
 . exact mul_nonneg h h
 . rw[<-neg_mul_neg];exact mul_nonneg (neg_nonneg.2 h) (neg_nonneg.2 h)
theorem mul_le_mul_left{x y z:Re}(h:0<=z)(k:x<=y):z*x<=z*y:=by
 rw[<-sub_nonneg,<-mul_sub];exact mul_nonneg h (sub_nonneg.2 k)
theorem mul_le_mul_right{x y z:Re}(h:0<=z)(k:x<=y):x*z<=y*z:=by
 rw[mul_comm x,mul_comm y];exact mul_le_mul_left h k
theorem mul_le_mul{x y z t:Re}(h:0<=x)(k:x<=y)(h':0<=z)(k':z<=t):x*z<=y*t:=
 le_trans (mul_le_mul_right h' k) (mul_le_mul_left (le_trans h k) k')
theorem mul_ne_zero{x y:Re}(h:x≠0)(k:y≠0):x*y≠0:=by
 obtain⟨a,ha⟩:=exists_inv h;intro e;apply k;have:y=a*(x*y):=by rw[<-mul_assoc,mul_comm a x,ha,one_mul]
 rw[this,e,mul_zero]
theorem rat_lt:rat p<rat q↔p<q:=by
 have e:rat q-rat p=rat (q-p):=by rw[sub_def,<-rat_neg,<-rat_add];congr 1;grind
 rw[lt_def,e,pos_rat];grind
theorem rat_le:rat p<=rat q↔p<=q:=by
 rw[<-not_lt,rat_lt];grind
theorem rat_inj:rat p=rat q↔p=q:=by
 constructor
 . intro h
   have h1:=rat_le.1 (show rat p<=rat q by rw[h];exact le_refl _);have h2:=rat_le.1 (show rat q<=rat p by rw[h];exact le_refl _);exact Rat.le_antisymm h1 h2
 . rintro rfl;rfl
theorem zero_rat:(0:Re)=rat 0:=rfl
theorem one_rat:(1:Re)=rat 1:=rfl
theorem zero_lt_one:(0:Re)<1:=by rw[zero_rat,one_rat,rat_lt];decide
noncomputable def ab(x:Re):Re:=by classical exact if 0<=x then x else-x
theorem ab_cases(x:Re):(0<=x/\ab x=x)\/(x<0/\ab x=-x):=by
 unfold ab;rcases lt_or_ge x 0 with h|h
 . right;exact⟨h,if_neg (not_le.2 h)⟩
 . left;exact⟨h,if_pos h⟩
theorem ab_nonneg(x:Re):0<=ab x:=by
 rcases ab_cases x with ⟨h,e⟩|⟨h,e⟩<;>rw[e]
 . exact h
 . exact neg_nonneg.2 (le_of_lt h)
theorem ab_of{x y:Re}(h:0<=y)(k:x=y\/x=-y):ab x=y:=by
 rcases k with k|k
 . subst k
   rcases ab_cases x with ⟨_,e⟩|⟨h1,e⟩
   . exact e
   . exact absurd h1 h
 . rcases ab_cases x with ⟨h1,e⟩|⟨h1,e⟩
   . rw[e]
     have h2:y<=0:=by rw[k,neg_nonneg]at h1;exact h1
     have h3:=le_antisymm h2 h;rw[k,h3,neg_zero]
   . rw[e,k,neg_neg]
theorem ab_mul(x y:Re):ab (x*y)=ab x*ab y:=by
 refine ab_of (mul_nonneg (ab_nonneg x) (ab_nonneg y)) ?_;rcases ab_cases x with ⟨h1,e1⟩|⟨h1,e1⟩<;>rcases ab_cases y with ⟨h2,e2⟩|⟨h2,e2⟩<;>rw[e1,e2]
 . exact Or.inl rfl
 . right;rw[mul_neg,neg_neg]
 . right;rw[neg_mul,neg_neg]
 . left;rw[neg_mul_neg]
theorem le_ab(x:Re):x<=ab x/\-x<=ab x:=by
 rcases ab_cases x with ⟨h1,e1⟩|⟨h1,e1⟩<;>rw[e1]
 . exact⟨le_refl _,le_trans (by have:=neg_le_neg h1;rw[neg_zero]at this;exact this) h1⟩
 . exact⟨le_trans (le_of_lt h1) (le_of_lt (neg_pos.2 h1)),le_refl _⟩
theorem ab_le{x y:Re}:ab x<=y↔x<=y/\-x<=y:=by
 constructor
 . exact fun h=>⟨le_trans (le_ab x).1 h,le_trans (le_ab x).2 h⟩
 . rintro⟨h,k⟩
   rcases ab_cases x with ⟨h1,e1⟩|⟨h1,e1⟩<;>rw[e1]<;>assumption
theorem ab_add(x y:Re):ab (x+y)<=ab x+ab y:=by
 rw[ab_le];refine⟨add_le_add (le_ab x).1 (le_ab y).1,?_⟩;rw[neg_add_rev];exact add_le_add (le_ab x).2 (le_ab y).2
theorem ab_eq_zero{x:Re}:ab x=0↔x=0:=by
 constructor
 . intro h
   have:=le_ab x;rw[h]at this;refine le_antisymm this.1 ?_;have h2:=neg_le_neg this.2;rw[neg_neg,neg_zero]at h2;exact h2
 . rintro rfl;exact ab_of (le_refl 0) (Or.inl rfl)
theorem le_of_sq{x y:Re}(hy:0<=y)(h:x*x<=y*y):x<=y:=by
 intro k;have k':y<x:=k;have h1:0<x:=lt_of_le_of_lt hy k';have h2:y*y<=y*x:=mul_le_mul_left hy (le_of_lt k');have h3:y*x<x*x:=by
  rw[<-sub_pos,<-sub_mul];exact mul_pos (sub_pos.2 k') h1
 exact lt_irrefl _ (lt_of_lt_of_le (lt_of_le_of_lt h2 h3) h)
theorem sq_inj{x y:Re}(hx:0<=x)(hy:0<=y)(h:x*x=y*y):x=y:=
 le_antisymm (le_of_sq hy (by rw[h];exact le_refl _)) (le_of_sq hx (by rw[h];exact le_refl _))
noncomputable def sgn(x:Re):Int:=by classical exact if 0<x then 1 else if x<0 then-1 else 0
theorem sgn_pos{x:Re}(h:0<x):sgn x=1:=by unfold sgn;exact if_pos h
theorem sgn_neg{x:Re}(h:x<0):sgn x=-1:=by
 unfold sgn;rw[if_neg (fun k=>lt_irrefl _ (lt_trans h k)),if_pos h]
theorem sgn_zero:sgn 0=0:=by unfold sgn;rw[if_neg (lt_irrefl _),if_neg (lt_irrefl _)]
theorem sgn_cases(x:Re):(0<x/\sgn x=1)\/(x=0/\sgn x=0)\/(x<0/\sgn x=-1):=by
 rcases tri x 0 with h|h|h
 . exact Or.inr (Or.inr ⟨h,sgn_neg h⟩)
 . exact Or.inr (Or.inl ⟨h,by rw[h,sgn_zero]⟩)
 . exact Or.inl ⟨h,sgn_pos h⟩
theorem sgn_eq_zero{x:Re}:sgn x=0↔x=0:=by
 rcases sgn_cases x with ⟨h,e⟩|⟨h,e⟩|⟨h,e⟩<;>rw[e]
 . exact⟨fun k=>absurd k (by decide),fun k=>absurd k (ne_of_gt h)⟩
 . exact⟨fun _=>h,fun _=>rfl⟩
 . exact⟨fun k=>absurd k (by decide),fun k=>absurd k (ne_of_lt h)⟩
theorem sgn_mul(x y:Re):sgn (x*y)=sgn x*sgn y:=by
 rcases sgn_cases x with ⟨h,e⟩|⟨h,e⟩|⟨h,e⟩
 . rcases sgn_cases y with ⟨k,f⟩|⟨k,f⟩|⟨k,f⟩<;>rw[e,f]
   . exact sgn_pos (mul_pos h k)
   . rw[k,mul_zero,sgn_zero];rfl
   . have:=mul_pos h (neg_pos.2 k);rw[mul_neg]at this
     exact sgn_neg (neg_pos.1 this)
 . rw[e,h,zero_mul,sgn_zero,Int.zero_mul]
 . rcases sgn_cases y with ⟨k,f⟩|⟨k,f⟩|⟨k,f⟩<;>rw[e,f]
   . have:=mul_pos (neg_pos.2 h) k;rw[neg_mul]at this
     exact sgn_neg (neg_pos.1 this)
   . rw[k,mul_zero,sgn_zero];rfl
   . have:=mul_pos (neg_pos.2 h) (neg_pos.2 k);rw[neg_mul_neg]at this
     exact sgn_pos this
end Re
namespace Re
def ofI(n:Int):Re:=rat n
theorem ofI_add(a b:Int):ofI (a+b)=ofI a+ofI b:=by unfold ofI;rw[<-rat_add,Rat.intCast_add]
theorem ofI_mul(a b:Int):ofI (a*b)=ofI a*ofI b:=by unfold ofI;rw[<-rat_mul,Rat.intCast_mul]
theorem ofI_neg(a:Int):ofI (-a)=-ofI a:=by unfold ofI;rw[<-rat_neg,Rat.intCast_neg]
theorem ofI_zero:ofI 0=0:=rfl
theorem ofI_one:ofI 1=1:=rfl
theorem ofI_le{a:Int}:ofI a<=ofI b↔a<=b:=by unfold ofI;rw[rat_le,aw8]
theorem ofI_lt{a:Int}:ofI a<ofI b↔a<b:=by unfold ofI;rw[rat_lt,Rat.intCast_lt_intCast]
def ofN(n:Nat):Re:=ofI n
theorem ofN_add(a b:Nat):ofN (a+b)=ofN a+ofN b:=ofI_add a b
theorem ofN_mul(a b:Nat):ofN (a*b)=ofN a*ofN b:=by unfold ofN;rw[<-ofI_mul,Int.natCast_mul]
theorem ofN_le{a b:Nat}:ofN a<=ofN b↔a<=b:=by unfold ofN;rw[ofI_le];omega
theorem ofN_nonneg(a:Nat):0<=ofN a:=by rw[<-ofI_zero];unfold ofN;rw[ofI_le];omega
theorem ofN_one:ofN 1=1:=rfl
theorem ofN_zero:ofN 0=0:=rfl
theorem ab_ofI(n:Int):ab (ofI n)=ofN n.natAbs:=by
 refine ab_of (ofN_nonneg _) ?_;unfold ofN;rcases Int.natAbs_eq n with h|h
 . left;rw[<-h]
 . right;rw[<-ofI_neg,<-h]
end Re
open Re
abbrev Tw:=List (Re×Nat)
def Rep:Tw->Nat->Re->Prop
 |[],B,x=>∃n:Int,x=ofI n/\n.natAbs<=B
 |(s,A)::T,B,x=>∃p q P Q,Rep T P p/\Rep T Q q/\x=p+q*s/\P+Q*A<=B
def Tow:Tw->Prop
 |[]=>True
 |(s,A)::T=>Tow T/\∃M,Rep T M (s*s)/\M<=A*A
theorem Rep.mono:∀{T:Tw} {B C:Nat} {x:Re},Rep T B x->B<=C->Rep T C x
 |[],_,_,_,⟨n,e,h⟩,k=>⟨n,e,axD h k⟩
 |(_,_)::_,_,_,_,⟨p,q,P,Q,h1,h2,e,h⟩,k=>⟨p,q,P,Q,h1,h2,e,axD h k⟩
theorem Rep.int (n:Int):∀T:Tw,Rep T n.natAbs (ofI n)
 |[]=>⟨n,rfl,aw7 _⟩
 |(s,A)::T=>⟨ofI n,ofI 0,n.natAbs,0,Rep.int n T,Rep.int 0 T,by rw[ofI_zero,zero_mul,add_zero],by simp⟩
theorem Rep.lift {T:Tw}{x:Re}(t:Re×Nat)(h:Rep T B x):Rep (t::T) B x:=
 ⟨x,ofI 0,B,0,h,Rep.int 0 T,by rw[ofI_zero,zero_mul,add_zero],by simp⟩
theorem Rep.neg:∀{T:Tw} {B:Nat} {x:Re},Rep T B x->Rep T B (-x)
 |[],_,_,⟨n,e,h⟩=>⟨-n,by rw[e,ofI_neg],by rw[Int.natAbs_neg];exact h⟩
 |(_,_)::_,_,_,⟨p,q,P,Q,h1,h2,e,h⟩=>⟨-p,-q,P,Q,h1.neg,h2.neg,by rw[e,neg_mul,<-neg_add_rev],h⟩
theorem aoB(p q r t s:Re):p+q*s+(r+t*s)=p+r+(q+t)*s:=by revert p q r t s;exact all5 fun a b c d e=>same fun n=>by simp only[addC_f,mulC_f,negC_f,ratC_f];grind
theorem Rep.add:∀{T:Tw} {B C:Nat} {x y:Re},Rep T B x->Rep T C y->Rep T (B+C) (x+y)
 |[],_,_,_,_,⟨n,e,h⟩,⟨m,f,k⟩=>⟨n+m,by rw[e,f,ofI_add],by omega⟩
 |(s,A)::_,_,_,_,_,⟨p,q,P,Q,h1,h2,e,h⟩,⟨p',q',P',Q',k1,k2,f,k⟩=>
  ⟨p+p',q+q',P+P',Q+Q',h1.add k1,h2.add k2,by rw[e,f,aoB],by rw[Nat.add_mul];omega⟩
theorem Rep.sub {T:Tw}{C:Nat}{x y:Re}(h:Rep T B x)(k:Rep T C y):Rep T (B+C) (x-y):=h.add k.neg
theorem aoC(p q r t s:Re):(p+q*s)*(r+t*s)=p*r+q*t*(s*s)+(p*t+q*r)*s:=by revert p q r t s;exact all5 fun a b c d e=>same fun n=>by simp only[addC_f,mulC_f,negC_f,ratC_f];grind
theorem Rep.mul:∀{T:Tw} {B C:Nat} {x y:Re},Tow T->Rep T B x->Rep T C y->Rep T (B*C) (x*y)
 |[],_,_,_,_,_,⟨n,e,h⟩,⟨m,f,k⟩=>⟨n*m,by rw[e,f,ofI_mul],by rw[Int.natAbs_mul];exact axA h k⟩
 |(s,A)::T,B,C,_,_,⟨hT,M,hM,hA⟩,⟨p,q,P,Q,h1,h2,e,h⟩,⟨p',q',P',Q',k1,k2,f,k⟩=>by
  have a1:=(h1.mul hT k1).add ((h2.mul hT k2).mul hT hM);have a2:=(h1.mul hT k2).add (h2.mul hT k1);refine⟨_,_,_,_,a1,a2,by rw[e,f,aoC],?_⟩;have b1:Q*Q'*M<=Q*Q'*(A*A):=axC _ hA;have b2:(P+Q*A)*(P'+Q'*A)<=B*C:=axA h k;have b3:(P+Q*A)*(P'+Q'*A)=P*P'+Q*Q'*(A*A)+(P*Q'+Q*P')*A:=by grind
  omega
theorem Rep.ab:∀{T:Tw} {B:Nat} {x:Re},Tow T->Rep T B x->ab x<=ofN B
 |[],_,_,_,⟨n,e,h⟩=>by rw[e,ab_ofI,ofN_le];exact h
 |(s,A)::T,B,x,⟨hT,M,hM,hA⟩,⟨p,q,P,Q,h1,h2,e,h⟩=>by
  have hs:Re.ab s<=ofN A:=by
   refine le_of_sq (ofN_nonneg _) ?_;rw[<-ab_mul,<-ofN_mul];exact le_trans (hM.ab hT) (ofN_le.2 hA)
  rw[e];refine le_trans (ab_add _ _) (le_trans ?_ (ofN_le.2 h));rw[ofN_add,ofN_mul,ab_mul];exact add_le_add (h1.ab hT) (mul_le_mul (ab_nonneg _) (h2.ab hT) (ab_nonneg _) hs)
theorem al8(p q s:Re):(p+q*s)*(p-q*s)=p*p-q*q*(s*s):=by revert p q s;exact all3 fun a b c=>same fun n=>by simp only[addC_f,mulC_f,negC_f,ratC_f];grind
theorem aiZ(p q:Re):p+q=p+p-(p-q):=by revert p q;exact all2 fun a b=>same fun n=>by simp only[addC_f,mulC_f,negC_f,ratC_f];grind
theorem ai0(k:Nat):2^(k+1)-1=2*(2^k-1)+1:=by have:=aw9 k;rw[axF];omega
theorem Rep.sep:∀{T:Tw} {B:Nat} {x:Re},Tow T->Rep T B x->x≠0->1<=Re.ab x*ofN (B^(2^T.length-1))
 |[],B,x,_,⟨n,e,h⟩,h0=>by
  have hn:n≠0:=fun k=>h0 (by rw[e,k,ofI_zero]);rw[e,ab_ofI,<-ofN_mul,<-ofN_one,ofN_le];simp;omega
 |(s,A)::T,B,x,⟨hT,M,hM,hA⟩,⟨p,q,P,Q,h1,h2,e,h⟩,h0=>by
  have hB:1<=B:=by
   rcases Nat.eq_zero_or_pos B with h3|h3
   . exfalso
     have:=Rep.ab (T:=(s,A)::T) ⟨hT,M,hM,hA⟩ ⟨p,q,P,Q,h1,h2,e,h⟩;rw[h3,ofN_zero]at this;exact h0 (ab_eq_zero.1 (le_antisymm this (ab_nonneg _)))
   . exact h3
  rw[List.length_cons,ai0];have hz:Rep T (B*B) (x*(p-q*s)):=by
   have a1:=(h1.mul hT h1).sub ((h2.mul hT h2).mul hT hM);rw[e,al8];refine a1.mono ?_;have b1:Q*Q*M<=Q*Q*(A*A):=axC _ hA;have b2:(P+Q*A)*(P+Q*A)<=B*B:=axA h h;have b3:(P+Q*A)*(P+Q*A)=P*P+Q*Q*(A*A)+2*(P*Q*A):=by grind
   omega
  by_cases hc:p-q*s=0
  . -- the conjugate is 0: x is twice p
    have hx:x=p+p:=by rw[e,aiZ,hc,sub_zero]
    have hp:p≠0:=fun k=>h0 (by rw[hx,k,add_zero]);have hs:=h1.sep hT hp;refine le_trans hs ?_;have h5:Re.ab p<=Re.ab x:=by
     rcases ab_cases p with ⟨c1,c2⟩|⟨c1,c2⟩
     . rw[c2,hx]
       refine le_trans ?_ (le_ab _).1;have:=add_le_add c1 (le_refl p);rw[zero_add]at this;exact this
     . rw[c2,hx]
       refine le_trans ?_ (le_ab _).2;rw[neg_add_rev];have:=add_le_add (neg_nonneg.2 (le_of_lt c1)) (le_refl (-p));rw[zero_add]at this;exact this
    refine mul_le_mul (ab_nonneg _) h5 (ofN_nonneg _) (ofN_le.2 ?_);refine axD (Nat.pow_le_pow_left (show P<=B by omega) _) (aw6 hB ?_);omega
  . have hne:x*(p-q*s)≠0:=mul_ne_zero h0 hc
    have hs:=hz.sep hT hne;have hx':Re.ab (p-q*s)<=ofN B:=by
     have:Rep ((s,A)::T) B (p-q*s):=⟨p,-q,P,Q,h1,h2.neg,by rw[neg_mul,sub_def],h⟩;exact Rep.ab (T:=(s,A)::T) ⟨hT,M,hM,hA⟩ this
    rw[ab_mul]at hs;refine le_trans hs ?_;have e3:ofN (B^(2*(2^T.length-1)+1))=ofN B*ofN ((B*B)^(2^T.length-1)):=by
     rw[<-ofN_mul,axF,Nat.mul_comm _ B,axG,Nat.pow_two]
    rw[e3,<-mul_assoc];exact mul_le_mul_right (ofN_nonneg _) (mul_le_mul_left (ab_nonneg _) hx')
def RepV(T:Tw)(u l:Nat)(v:Re):Prop:=∃n d,Rep T (2^u) n/\Rep T (2^l) d/\d≠0/\v*d=n
theorem RepV.lift {T:Tw}{v:Re}(t:Re×Nat)(h:RepV T u l v):RepV (t::T) u l v:=by
 obtain⟨n,d,h1,h2,h3,h4⟩:=h;exact⟨n,d,h1.lift t,h2.lift t,h3,h4⟩
theorem aa1:(1:Re)≠0:=ne_of_gt zero_lt_one
theorem Rep.one (T:Tw)(l:Nat):Rep T (2^l) 1:=by
 have:=Rep.int 1 T;rw[ofI_one]at this;exact this.mono (by have:=aw9 l;simp;omega)
theorem RepV.zero (T:Tw)(u l:Nat):RepV T u l 0:=by
 refine⟨0,1,?_,Rep.one T l,aa1,by rw[mul_one]⟩;have:=Rep.int 0 T;rw[ofI_zero]at this;exact this.mono (axB _)
theorem al9(v w d e:Re):(v+w)*(d*e)=v*d*e+w*e*d:=by revert v w d e;exact all4 fun a b c d=>same fun n=>by simp only[addC_f,mulC_f,negC_f,ratC_f];grind
theorem ai1(v w d e:Re):(v-w)*(d*e)=v*d*e-w*e*d:=by revert v w d e;exact all4 fun a b c d=>same fun n=>by simp only[addC_f,mulC_f,negC_f,ratC_f];grind
theorem ai2(v w d e:Re):(v*w)*(d*e)=v*d*(w*e):=by revert v w d e;exact all4 fun a b c d=>same fun n=>by simp only[addC_f,mulC_f,negC_f,ratC_f];grind
theorem xM(u1 l1 u2 l2:Nat):2^u1*2^l2+2^u2*2^l1<=2^(1+max (u1+l2) (l1+u2)):=by
 rw[<-aw5,<-aw5,aw5 2 1,Nat.pow_one];have h1:2^(u1+l2)<=2^(max (u1+l2) (l1+u2)):=aw6 (by omega) (by omega);have h2:2^(u2+l1)<=2^(max (u1+l2) (l1+u2)):=aw6 (by omega) (by omega);omega
theorem RepV.add {T:Tw}(hT:Tow T){v w:Re}(h:RepV T u1 l1 v)(k:RepV T u2 l2 w):RepV T (1+max (u1+l2) (l1+u2)) (l1+l2) (v+w):=by
 obtain⟨n,d,h1,h2,h3,h4⟩:=h;obtain⟨m,e,k1,k2,k3,k4⟩:=k;refine⟨_,d*e,((h1.mul hT k2).add (k1.mul hT h2)).mono (xM u1 l1 u2 l2),?_,mul_ne_zero h3 k3,?_⟩
 . rw[aw5];exact h2.mul hT k2
 . rw[al9,h4,k4]
theorem RepV.sub {T:Tw}(hT:Tow T){v w:Re}(h:RepV T u1 l1 v)(k:RepV T u2 l2 w):RepV T (1+max (u1+l2) (l1+u2)) (l1+l2) (v-w):=by
 obtain⟨n,d,h1,h2,h3,h4⟩:=h;obtain⟨m,e,k1,k2,k3,k4⟩:=k;refine⟨_,d*e,((h1.mul hT k2).sub (k1.mul hT h2)).mono (xM u1 l1 u2 l2),?_,mul_ne_zero h3 k3,?_⟩
 . rw[aw5];exact h2.mul hT k2
 . rw[ai1,h4,k4]
theorem RepV.mul {T:Tw}(hT:Tow T){v w:Re}(h:RepV T u1 l1 v)(k:RepV T u2 l2 w):RepV T (u1+u2) (l1+l2) (v*w):=by
 obtain⟨n,d,h1,h2,h3,h4⟩:=h;obtain⟨m,e,k1,k2,k3,k4⟩:=k;refine⟨n*m,d*e,?_,?_,mul_ne_zero h3 k3,?_⟩
 . rw[aw5];exact h1.mul hT k1
 . rw[aw5];exact h2.mul hT k2
 . rw[ai2,h4,k4]
theorem ai3(x w d e:Re):x*(d*(w*e))=x*w*d*e:=by revert x w d e;exact all4 fun a b c d=>same fun n=>by simp only[addC_f,mulC_f,negC_f,ratC_f];grind
theorem RepV.div {T:Tw}(hT:Tow T){v w x:Re}(h:RepV T u1 l1 v)(k:RepV T u2 l2 w)(hw:w≠0)(hx:x*w=v):RepV T (u1+l2) (l1+u2) x:=by
 obtain⟨n,d,h1,h2,h3,h4⟩:=h;obtain⟨m,e,k1,k2,k3,k4⟩:=k;refine⟨n*e,d*m,?_,?_,mul_ne_zero h3 (by rw[<-k4];exact mul_ne_zero hw k3),?_⟩
 . rw[aw5];exact h1.mul hT k2
 . rw[aw5];exact h2.mul hT k1
 . rw[<-k4,ai3,hx,h4]
theorem ao9(x d:Re):x*d*(x*d)=x*x*d*d:=by revert x d;exact all2 fun a b=>same fun n=>by simp only[addC_f,mulC_f,negC_f,ratC_f];grind
theorem aoD(x d:Re):x*(x*d)=x*x*d:=by revert x d;exact all2 fun a b=>same fun n=>by simp only[addC_f,mulC_f,negC_f,ratC_f];grind
theorem RepV.root {T:Tw}(hT:Tow T){v x:Re}(h:RepV T u l v)(hx:x*x=v):
 ∃t,Tow (t::T)/\RepV (t::T) (if u>=l then(u+l+1)/2 else u) (if u>=l then l else(u+l+1)/2) x:=by
 obtain⟨n,d,h1,h2,h3,h4⟩:=h;have hA:2^u*2^l<=2^((u+l+1)/2)*2^((u+l+1)/2):=by
  rw[<-aw5,<-aw5];exact aw6 (by omega) (by omega)
 have ht:Tow ((x*d,2^((u+l+1)/2))::T):=by
  refine⟨hT,2^u*2^l,?_,hA⟩;rw[ao9,hx,h4];exact h1.mul hT h2
 refine⟨_,ht,?_⟩;have hr:Rep ((x*d,2^((u+l+1)/2))::T) (2^((u+l+1)/2)) (x*d):=by
  refine⟨ofI 0,ofI 1,0,1,Rep.int 0 T,Rep.int 1 T,?_,by simp⟩;rw[ofI_zero,ofI_one,one_mul,Re.zero_add]
 by_cases hc:u>=l
 . rw[if_pos hc,if_pos hc]
   exact⟨x*d,d,hr,h2.lift _,h3,rfl⟩
 . rw[if_neg hc,if_neg hc]
   by_cases h0:x=0
   . rw[h0];exact RepV.zero _ _ _
   . exact⟨n,x*d,h1.lift _,hr,mul_ne_zero h0 h3,by rw[aoD,hx,h4]⟩
theorem RepV.dyad (T:Tw){n:Int}{d:Nat}{v:Re}(h1:n.natAbs<=2^u)(h2:d<=2^l)(h3:d≠0)(h4:v*ofN d=ofI n):RepV T u l v:=by
 refine⟨ofI n,ofN d,(Rep.int n T).mono h1,?_,?_,h4⟩
 . have:=Rep.int (d:Int) T
   exact this.mono (by simpa using h2)
 . intro h
   have:ofI (d:Int)=ofI 0:=h;unfold ofI at this;rw[rat_inj]at this;have:=Rat.intCast_inj.1 this;omega
theorem RepV.sep {T:Tw}(hT:Tow T){v:Re}(h:RepV T u l v)(h0:v≠0):1<=Re.ab v*ofN (2^(max u l*2^T.length)):=by
 obtain⟨n,d,h1,h2,h3,h4⟩:=h;have hn:n≠0:=by rw[<-h4];exact mul_ne_zero h0 h3
 have hs:=h1.sep hT hn;have hd:=h2.ab hT;rw[<-h4,ab_mul]at hs;refine le_trans hs ?_;rw[mul_assoc];refine mul_le_mul_left (ab_nonneg _) ?_;refine le_trans (mul_le_mul_right (ofN_nonneg _) hd) ?_;rw[<-ofN_mul,ofN_le,<-axG,<-aw5];refine aw6 (by omega) ?_;have hp:=aw9 T.length;obtain⟨k,hk⟩:∃k,2^T.length=k+1:=⟨2^T.length-1,by omega⟩;rw[hk,Nat.add_sub_cancel,Nat.mul_succ];have:=Nat.mul_le_mul_right k (show u<=max u l by omega);omega
end Go.Proofs.YtigoiiekebccnaaGreatDoor
