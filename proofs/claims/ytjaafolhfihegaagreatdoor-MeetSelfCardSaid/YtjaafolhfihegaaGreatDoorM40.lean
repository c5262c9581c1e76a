/- A part of the proof: contracts of functions and plain laws (GrAxClmK, GrBxClmK, QlSxClmK, SymFxClmK, MwAxClmK, MoAxClmK). -/
import Derived.Test.YtjaafolhfihegaaGreatDoorM36
import Derived.Test.YtjaafolhfihegaaGreatDoorM35
import Derived.Test.YtjaafolhfihegaaGreatDoorM18
import Derived.Test.YtjaafolhfihegaaGreatDoorM17
import Derived.Test.YtjaafolhfihegaaGreatDoorM16
import Derived.Test.YtjaafolhfihegaaGreatDoorM01
import Derived.Test.YtjaafolhfihegaaGreatDoorM12
import Derived.Test.YtjaafolhfihegaaGreatDoorM07
import Derived.Test.YtjaafolhfihegaaGreatDoorM06
import Derived.Test.YtjaafolhfihegaaGreatDoorM05
import Derived.Test.YtjaafolhfihegaaGreatDoorM04
import Derived.Test.YtjaafolhfihegaaGreatDoorM03
import Derived.Test.YtjaafolhfihegaaGreatDoorM02
import Derived.Test.YtjaafolhfihegaaGreatDoorM15
import Derived.Test.YtjaafolhfihegaaGreatDoorM14
import Derived.Test.YtjaafolhfihegaaGreatDoorM13
import Derived.Test.YtjaafolhfihegaaGreatDoorM08
import Derived.Test.YtjaafolhfihegaaGreatDoorM11
import Derived.Test.YtjaafolhfihegaaGreatDoorM10
import Derived.Test.YtjaafolhfihegaaGreatDoorM09
import Derived.Test.YtjaafolhfihegaaGreatDoorM33
import Derived.Test.YtjaafolhfihegaaGreatDoorM34
import Derived.Test.YtjaafolhfihegaaGreatDoorM32
import Derived.Test.YtjaafolhfihegaaGreatDoorM31
import Derived.Test.YtjaafolhfihegaaGreatDoorM30
import Derived.Test.YtjaafolhfihegaaGreatDoorM29
import Derived.Test.YtjaafolhfihegaaGreatDoorM28
import Derived.Test.YtjaafolhfihegaaGreatDoorM24
import Derived.Test.YtjaafolhfihegaaGreatDoorM23
import Derived.Test.YtjaafolhfihegaaGreatDoorM21
import Derived.Test.YtjaafolhfihegaaGreatDoorM20
import Derived.Test.YtjaafolhfihegaaGreatDoorM19
import Derived.Test.YtjaafolhfihegaaGreatDoorM22
import Derived.Test.YtjaafolhfihegaaGreatDoorM27
import Derived.Test.YtjaafolhfihegaaGreatDoorM26
import Derived.Test.YtjaafolhfihegaaGreatDoorM25
import Derived.WalkKit
import Derived.Laws.NewFold
import Derived.Test.YtjaafolhfihegaaGreatDoorM39
set_option linter.unusedVariables false
set_option linter.unusedSimpArgs false
set_option maxHeartbeats 25600000
set_option maxRecDepth 100000
namespace Go.Proofs.YtjaafolhfihegaaGreatDoor
open Go.RowKit Go.Maps Ieee
open Go.RowKit.Below renaming heap_setCell->bjO
open Nat renaming le_add_right->bjN
variable{n:Int}{r s t:Nat}
theorem adM{B:Nat}{w0 w1:World}{g:Nat}{T:TypeId}{z0 z1 z2 z3 a b c d:Value}(hb:Below B w0 w1)(hg:B<=g)(h:w1.heap[g]? =some (.cells #[z0,z1,z2,z3] T (0,0))):
 ∃w2,(((w1.setCell ⟨g,0,none⟩ a).setCell ⟨g,1,none⟩ b).setCell ⟨g,2,none⟩ c).setCell ⟨g,3,none⟩ d=w2/\Below B w0 w2/\w2.heap[g]? =some (.cells #[a,b,c,d] T (0,0))/\∀i,g≠i->w2.heap[i]? =w1.heap[i]? :=by
 refine⟨_,rfl,(((hb.setCell hg _).setCell hg _).setCell hg _).setCell hg _,set4 h _ _ _ _,fun i hi=> ?_⟩;rw[bjO _ _ _ _ (by simp;omega),bjO _ _ _ _ (by simp;omega),bjO _ _ _ _ (by simp;omega),bjO _ _ _ _ (by simp;omega)]
abbrev ToI(x:Nat)(T:Int):Prop:=∀w,(convert 27 3 (.float .f64 x)).run Tryz.prog w=.ok (.int .i64 T) w
abbrev OfI(T:Int)(r:Nat):Prop:=∀w,(convert 3 27 (.int .i64 T)).run Tryz.prog w=.ok (.float .f64 r) w
abbrev Sub0(x:Nat):Prop:=∀w,(binOp .sub 27 (.float .f64 x) (.float .f64 x)).run Tryz.prog w=.ok (.float .f64 0) w
theorem tX(h:pF r)(hf:fin r):∃(T:Int) (x:Nat),T.natAbs<=64/\Iw x T/\ToI r T/\OfI T x/\Sub0 r:=by
 obtain⟨m,hm,q⟩:=aqJ h hf;obtain⟨k,hk,hv⟩:=q.val;obtain⟨u,hu,hU⟩:=eP;obtain⟨T,t1,t2⟩:=uS (b:=64) hf (by
  rw[hv,hU,show u=k+2 by omega,Nat.pow_add,Int.natAbs_mul,Int.natAbs_natCast,Nat.mul_comm (2^k),<-Nat.mul_assoc];exact Nat.mul_le_mul_right _ (by omega))
 exact⟨T,fl T,t2,aq5 (Nat.lt_of_le_of_lt t2 (by decide)),fun w=>agN t1 (by omega) w,yB T,fun w=>fJ (P:=Tryz.prog) hf 27 w⟩
def ae7(r s t:Nat):Prop:=(∃R S T:Int,R.natAbs<=64/\S.natAbs<=64/\T.natAbs<=64/\Iw r R/\Iw s S/\Iw t T)\/(r<18446744073709551616/\s<18446744073709551616/\t<18446744073709551616/\(¬fin r\/fin r/\¬fin s\/fin r/\fin s/\¬fin t))
theorem tY{x:Nat}(h:¬fin x)(w:World):∃r,(binOp .sub 27 (.float .f64 x) (.float .f64 x)).run Tryz.prog w=.ok (.float .f64 r) w.drew/\(FloatKind.f64.format.order r 0 != some Ordering.eq)=true:=by
 obtain⟨r,h1,h2⟩:=mY (P:=Tryz.prog) h 27 w;exact⟨r,h1,by rw[show FloatKind.f64.format.order r 0=none from h2];rfl⟩
theorem ae8(f0:pF r)(f1:pF s)(f2:pF t):∃r' s' t':Nat,ae7 r' s' t'/\
 ((Sub0 r/\Sub0 s/\Sub0 t/\∃R S T:Int,ToI r R/\ToI s S/\ToI t T/\OfI R r'/\OfI S s'/\OfI T t')\/(r=r'/\s=s'/\t=t'/\(¬fin r\/Sub0 r/\¬fin s\/Sub0 r/\Sub0 s/\¬fin t))):=by
 have sub:∀{x:Nat},fin x->Sub0 x:=fun hf w=>fJ (P:=Tryz.prog) hf 27 w;by_cases hr:fin r
 . by_cases hs:fin s
   . by_cases ht:fin t
     . obtain⟨R,x,r1,r2,r3,r4,r5⟩:=tX f0 hr;obtain⟨S,y,s1,s2,s3,s4,s5⟩:=tX f1 hs;obtain⟨T,z,t1,t2,t3,t4,t5⟩:=tX f2 ht
       exact⟨x,y,z,Or.inl ⟨R,S,T,r1,s1,t1,r2,s2,t2⟩,Or.inl ⟨r5,s5,t5,R,S,T,r3,s3,t3,r4,s4,t4⟩⟩
     . exact⟨r,s,t,Or.inr ⟨f0.1,f1.1,f2.1,Or.inr (Or.inr ⟨hr,hs,ht⟩)⟩,Or.inr ⟨rfl,rfl,rfl,Or.inr (Or.inr ⟨sub hr,sub hs,ht⟩)⟩⟩
   . exact⟨r,s,t,Or.inr ⟨f0.1,f1.1,f2.1,Or.inr (Or.inl ⟨hr,hs⟩)⟩,Or.inr ⟨rfl,rfl,rfl,Or.inr (Or.inl ⟨sub hr,hs⟩)⟩⟩
 . exact⟨r,s,t,Or.inr ⟨f0.1,f1.1,f2.1,Or.inl hr⟩,Or.inr ⟨rfl,rfl,rfl,Or.inl hr⟩⟩
theorem ne00:(FloatKind.f64.format.order 0 0 != some Ordering.eq)=false:=by decide
theorem aoW{a b c:Nat}(ha:a<18446744073709551616)(hb:b<18446744073709551616)(hc:c<18446744073709551616):∃r s t,ae7 r s t/\∀w,Calls Tryz.prog 43 #[curV n a b c] w (RetV w (curV n r s t)):=by
 obtain⟨r,s,t,f0,f1,f2,hsm⟩:=amM (n:=n) ha hb hc;obtain⟨r',s',t',hG,hcase⟩:=ae8 f0 f1 f2;refine⟨r',s',t',hG,fun w=> ?_⟩;obtain⟨w2,hw2,hb2,hs2,b1,b2⟩:=pro2 w (curO n a b c) (curO 0 0 0 0);have HSM:=hdd hsm;have HC:=hdd hcase;have HB2:=hdd hb2;have B1:=hdd b1;have B2:=hdd b2;obtain⟨c0,c1,c2,c3⟩:=aL b1;clear hsm hcase hG f0 f1 f2 ha hb hc hb2 hs2 b1 b2;have hst:=aX;have hz:=ne00;go_enter Tryz.func43,Tryz.ntmps43
 go_wp2_with fail
 refine(HSM.out _).mono ?_;rintro e w4⟨rfl,hb4⟩;have HB4:=hdd (aC HB2.out hb4);have B14:=hdd (hbl B1.out hb4);have B24:=hdd (hbl B2.out hb4);clear c0 c1 c2 c3 hb4 B1 B2 HB2 hw2;obtain⟨c0,c1,c2,c3⟩:=aL B14.out;obtain⟨d0,d1,d2,d3⟩:=rT B14.out;obtain⟨w5,hw5,hb5,q1,q2⟩:=adM (a:=.int .i64 n) (b:=.float .f64 r) (c:=.float .f64 s) (d:=.float .f64 t) HB4.out nlr B14.out;have HB5:=hdd hb5;have Q1:=hdd q1;have Q2:Hid (w5.heap[w.heap.size+1]? =some (curO 0 0 0 0)):=hdd ((q2 _ (by omega)).trans B24.out);clear hb5 q1 q2 B14 B24 HB4;obtain⟨e0,e1,e2,e3⟩:=aL Q1.out;obtain⟨g0,g1,g2,g3⟩:=rT Q2.out;obtain⟨f0,f1,f2,f3⟩:=aL Q2.out;rcases HC.out with ⟨h1,h2,h3,R,S,T,i1,i2,i3,i4,i5,i6⟩|⟨rfl,rfl,rfl,h1|⟨h1,h2⟩|⟨h1,h2,h3⟩⟩
 . clear HC
   go_wp2_with (simp only[h1,h2,h3,i1,i2,i3,i4,i5,i6])
   obtain⟨x0,x1,x2,x3⟩:=aL (set4 Q2.out (.int .i64 n) (.float .f64 r') (.float .f64 s') (.float .f64 t'));refine bodyPost_ret (v:=.agg #[_,_,_,_]) (by simp[results,Tryz.results43,go_sem,x0,x1,x2,x3];first|exact⟨rfl,rfl,rfl,rfl⟩|rfl) rfl ?_;exact⟨rfl,(((HB5.out.setCell (bjN _ 1) _).setCell (bjN _ 1) _).setCell (bjN _ 1) _).setCell (bjN _ 1) _⟩
 . obtain⟨v,m1,m2⟩:=tY h1 w5
   go_wp2_with (simp only[m1])
   obtain⟨x0,x1,x2,x3⟩:=aL (set4 Q2.out (.int .i64 n) (.float .f64 r) (.float .f64 s) (.float .f64 t));refine bodyPost_ret (v:=.agg #[_,_,_,_]) (by simp[results,Tryz.results43,go_sem,x0,x1,x2,x3];first|exact⟨rfl,rfl,rfl,rfl⟩|rfl) rfl ?_;exact⟨rfl,((((HB5.out.setCell (bjN _ 1) _).setCell (bjN _ 1) _).setCell (bjN _ 1) _).setCell (bjN _ 1) _).drew⟩
 . obtain⟨v,m1,m2⟩:=tY h2 w5
   go_wp2_with (simp only[h1,m1])
   obtain⟨x0,x1,x2,x3⟩:=aL (set4 Q2.out (.int .i64 n) (.float .f64 r) (.float .f64 s) (.float .f64 t));refine bodyPost_ret (v:=.agg #[_,_,_,_]) (by simp[results,Tryz.results43,go_sem,x0,x1,x2,x3];first|exact⟨rfl,rfl,rfl,rfl⟩|rfl) rfl ?_;exact⟨rfl,((((HB5.out.setCell (bjN _ 1) _).setCell (bjN _ 1) _).setCell (bjN _ 1) _).setCell (bjN _ 1) _).drew⟩
 . obtain⟨v,m1,m2⟩:=tY h3 w5
   go_wp2_with (simp only[h1,h2,m1])
   obtain⟨x0,x1,x2,x3⟩:=aL (set4 Q2.out (.int .i64 n) (.float .f64 r) (.float .f64 s) (.float .f64 t));refine bodyPost_ret (v:=.agg #[_,_,_,_]) (by simp[results,Tryz.results43,go_sem,x0,x1,x2,x3];first|exact⟨rfl,rfl,rfl,rfl⟩|rfl) rfl ?_;exact⟨rfl,((((HB5.out.setCell (bjN _ 1) _).setCell (bjN _ 1) _).setCell (bjN _ 1) _).setCell (bjN _ 1) _).drew⟩
def vR(n:Int)(r s t:Nat)(b:Bool):Prop:=∀w,Calls Tryz.prog 44 #[curV n r s t] w (RetV w (.bool b))
theorem aiS{a b c d e f:Bool}(h1:Sub0 r)(h2:Sub0 s)(h3:Sub0 t)(oa:(FloatKind.f64.format.order r 0 != some Ordering.eq)=a)(ob:(FloatKind.f64.format.order s 0 != some Ordering.eq)=b)(oc:(FloatKind.f64.format.order t 0==some Ordering.gt||FloatKind.f64.format.order t 0==some Ordering.eq)=c)(e1:(n==1)=d)(e2:(n==2)=e)(hf:(d&&(a||b)||e&&c)=f):vR n r s t f:=by
 intro w;subst hf;have hz:=ne00;obtain⟨w1,hw1,hb1,hs1,b1⟩:=pro1 w (curO n r s t);obtain⟨c0,c1,c2,c3⟩:=aL b1;have HB:=hdd hb1;clear hb1 hs1 b1
 cases d<;>cases e<;>cases a<;>cases b<;>cases c<;>(
  simp only[Bool.false_eq_true,Bool.true_and,Bool.false_and,Bool.or_true,Bool.or_false,Bool.true_or,Bool.false_or];go_enter Tryz.func44,Tryz.ntmps44
  go_wp2_with (simp only[h1,h2,h3])
  go_ret;exact⟨rfl,HB.out⟩)
theorem aiT(h:¬fin r\/Sub0 r/\¬fin s\/Sub0 r/\Sub0 s/\¬fin t):vR n r s t false:=by
 intro w;have hz:=ne00;obtain⟨w1,hw1,hb1,hs1,b1⟩:=pro1 w (curO n r s t);obtain⟨c0,c1,c2,c3⟩:=aL b1;have HB:=hdd (hb1.trans ((Below.refl w1.heap.size w1).drew.mono hb1.size));clear hb1 hs1 b1;rcases h with h1|⟨h1,h2⟩|⟨h1,h2,h3⟩
 . obtain⟨v,m1,m2⟩:=tY h1 w1
   go_enter Tryz.func44,Tryz.ntmps44
   go_wp2_with (simp only[m1])
   go_ret;exact⟨rfl,HB.out⟩
 . obtain⟨v,m1,m2⟩:=tY h2 w1
   go_enter Tryz.func44,Tryz.ntmps44
   go_wp2_with (simp only[h1,m1])
   go_ret;exact⟨rfl,HB.out⟩
 . obtain⟨v,m1,m2⟩:=tY h3 w1
   go_enter Tryz.func44,Tryz.ntmps44
   go_wp2_with (simp only[h1,h2,m1])
   go_ret;exact⟨rfl,HB.out⟩
theorem amR(h:ae7 r s t):vR n r s t false\/vR n r s t true/\∃R S T:Int,R.natAbs<=64/\S.natAbs<=64/\T.natAbs<=64/\Iw r R/\Iw s S/\Iw t T/\(n=1/\(R≠0\/S≠0)\/n=2/\T=0\/n=2/\0<T):=by
 rcases h with ⟨R,S,T,b0,b1,b2,hR,hS,hT⟩|⟨-,-,-,h⟩
 . have sub:∀{x:Nat},fin x->Sub0 x:=fun hf w=>fJ (P:=Tryz.prog) hf 27 w
   have z:∀{x:Nat} {X:Int},Iw x X->(FloatKind.f64.format.order x 0 != some Ordering.eq)= !decide (X=0):=fun{x X} hx=>by
    have e:=jK hx.1.2.num num0;rw[sr0]at e;rw[iY e]
    congr 1
    have hU:=nO;refine decide_eq_decide.2 (aaR.trans ?_);rw[hx.2,Int.mul_eq_zero];constructor
    . rintro(h|h)
      . exact h
      . omega
    . exact Or.inl
   have g:(FloatKind.f64.format.order t 0==some Ordering.gt||FloatKind.f64.format.order t 0==some Ordering.eq)=decide (0<=T):=by
    rw[wU hT.1.2.num num0,sr0];refine decide_eq_decide.2 (ahR.trans ?_);rw[hT.2];have hU:=nO;constructor
    . intro h;apply Classical.byContradiction;intro k
      have:=Int.mul_neg_of_neg_of_pos (show T<0 by omega) hU;omega
    . intro h;exact Int.mul_nonneg h (by omega)
   have W:=fun f hf=>aiS (n:=n) (f:=f) (sub hR.1.2) (sub hS.1.2) (sub hT.1.2) (z hR) (z hS) g rfl rfl hf;by_cases n1:n=1
   . subst n1
     by_cases hne:R=0/\S=0
     . exact Or.inl (W false (by rw[hne.1,hne.2];rfl))
     . refine Or.inr ⟨W true ?_,R,S,T,b0,b1,b2,hR,hS,hT,Or.inl ⟨rfl,by omega⟩⟩
       by_cases h:R=0
       . simp[h,show S≠0 by omega]
       . simp[h]
   . by_cases n2:n=2
     . subst n2
       by_cases h:0<=T
       . refine Or.inr ⟨W true (by simp[h]),R,S,T,b0,b1,b2,hR,hS,hT,Or.inr ?_⟩
         by_cases h0:T=0
         . exact Or.inl ⟨rfl,h0⟩
         . exact Or.inr ⟨rfl,by omega⟩
       . exact Or.inl (W false (by simp[h]))
     . exact Or.inl (W false (by simp[n1,n2]))
 . have sub:∀{x:Nat},fin x->Sub0 x:=fun hf w=>fJ (P:=Tryz.prog) hf 27 w
   refine Or.inl (aiT ?_);rcases h with h|⟨h1,h2⟩|⟨h1,h2,h3⟩
   . exact Or.inl h
   . exact Or.inr (Or.inl ⟨sub h1,h2⟩)
   . exact Or.inr (Or.inr ⟨sub h1,sub h2,h3⟩)
end Go.Proofs.YtjaafolhfihegaaGreatDoor
namespace Go.Proofs.YtjaafolhfihegaaGreatDoor
open Go.RowKit Go.Maps
open Re (rat ofI ofN)
variable{k x:Int}
theorem pG{P:Ex->Prop}{p q s t:Nat}{y z u v:Int}(hp:Iw p x)(hq:Iw q y)(hs:Iw s z)(ht:Iw t u)(bx:x.natAbs<2^7)(b_y:y.natAbs<2^7)(bz:z.natAbs<2^7)(bu:u.natAbs<2^7)(hv:x*y-z*u=v):bD P (dQ p q s t) v.sign:=by
 refine((((hp.fit (L:=[]) 7 bx (by decide)).rmul (hq.fit 7 b_y (by decide))).rsub ((hs.fit 7 bz (by decide)).rmul (ht.fit 7 bu (by decide)))).sign (v:=v) 1 (by decide) ?_ (by kernel_rfl));rw[<-hv]
 push_cast
 grind
theorem uT(h:x≠0)(hk:1<=k):(x*k).sign≠0:=fun e=>by
 have:=Int.sign_eq_zero_iff_zero.1 e;rcases Int.mul_eq_zero.1 this with g|g
 . exact h g
 . omega
theorem aoX{R S T:Int}{A B C D:Nat}(hA:Iw A R)(hB:Iw B S)(hC:Iw C T)(hD:Iw D (T+k))(b0:R.natAbs<=64)(b1:S.natAbs<=64)(b2:T.natAbs<=64)(k1:1<=k)(k9:k<=9)(hne:R≠0\/S≠0):
 bD PT (dQ A B B A) 0/\bD PT (dQ A C A C) 0/\bD PT (dQ B C B C) 0/\∃q q':Int,bD PT (dQ A D A C) q/\bD PT (dQ B D B C) q'/\(q≠0\/q'≠0):=by
 refine⟨pG (v:=0) hA hB hB hA (by omega) (by omega) (by omega) (by omega) (by grind),pG (v:=0) hA hC hA hC (by omega) (by omega) (by omega) (by omega) (by grind),pG (v:=0) hB hC hB hC (by omega) (by omega) (by omega) (by omega) (by grind),(R*k).sign,(S*k).sign,pG hA hD hA hC (by omega) (by omega) (by omega) (by omega) (by grind),pG hB hD hB hC (by omega) (by omega) (by omega) (by omega) (by grind),?_⟩;exact hne.imp (fun h=>uT h k1) (fun h=>uT h k1)
end Go.Proofs.YtjaafolhfihegaaGreatDoor
namespace Go.Proofs.YtjaafolhfihegaaGreatDoor
open Go.RowKit Go.Maps
variable{t:TypeId}
theorem amS{P:Program}{w:World}{b off:Nat}{T:TypeId}{cs:List Value}{v:Value}(hc:v.cells=#[v])(hn:(sizeOf t).run P w=.ok 1 w)(h:w.heap[b]? =some (.cells cs.toArray T (0,0)))(hl:off<cs.length)(hv:okV v=true):
 ∃w',(Instr.storeAt t (.pointer (some ⟨b,off,none⟩)) v).run P w=.ok () w'/\w.grownBy w' (some b)/\w'.heap[b]? =some (.cells (cs.set off v).toArray T (0,0)):=by
 have h1:=ak0 (P:=P) h hl hv;refine⟨_,?_,grownBy_set (aaX w _) v,ak1 h⟩;simp only[Instr.storeAt,Instr.sureAddr,storeVar,hc];simp[go_sem,hn,storeCells,Addr.add,h1]
section
variable{E:Type}{S:Spec E}{W:Wk E}{P:Program}{Q:Exit->Act->World->Prop}{c0:Nat}{a0:Act}{ν0:Nat->Nat}{i:Nat}{o:Oper}
theorem adN(b:S.Base a0 ν0){x y:Operand}{B:Blk}{cs:List SC}{c:SC}(off:Nat)(hB:B∈S.blocks)(hop:S.ops[i]? =some o:=by rfl)(ho:o.op=.store t x y:=by rfl)(hd:o.dst=none:=by rfl)(hb:S.chk i=true:=by kernel_rfl)(hst:B.st=some (i,cs):=by rfl)
 (hfree:(S.cost i==0&&S.know.all (fun p=>S.cr p.1 != some i)&&S.blocks.all (fun C=>S.cr C.b != some i&&match C.st with
   |some (s,_)=>s != i||C.b==B.b
   |none=>true)&&(cs.flatMap SC.lets).all (fun m=>S.cr m != some i))=true:=by kernel_rfl)
 (hx:S.opv x=.w (.c (.ptr B.b off)):=by rfl) (hy:S.opv y=.w (.c c):=by rfl) (hyc:∀ν,(c.den ν).cells=#[c.den ν]:=by intro ν;rfl) (hn:∀w,(sizeOf t).run P w=.ok 1 w:=by intro w;kernel_rfl) (hl:Nat.ble (off+1) B.init.length=true:=by rfl) (hcs:cs=B.init.set off c:=by rfl) (hok:∀ν,okV (c.den ν)=true:=by intro ν;rfl):S.Ok W P Q c0 a0 ν0 i:=by
 obtain⟨h1,h2,h3⟩:=iZ hop hb;refine Spec.ok_store b hop h1 hd h2 h3 hB hst hfree fun ν w hw=> ?_;obtain⟨w',q1,q2,q3⟩:=amS (P:=P) (t:=t) (off:=off) (hyc ν) (hn w) hw (by rw[List.length_map];exact Nat.le_of_ble_eq_true hl) (hok ν);exact⟨w',acL ho (by rw[hx];rfl) (by rw[hy];rfl) q1,q2,by rw[q3,hcs,List.map_set]⟩
end
end Go.Proofs.YtjaafolhfihegaaGreatDoor
namespace Go.Proofs.YtjaafolhfihegaaGreatDoor
open Go.RowKit Go.Maps Go.Stop Go.Extern
variable{a b:Int}{x y:Nat}
theorem aq6(hx:Iw x a)(hy:Iw y b)(h:a≠b):fv x≠fv y:=by
 rw[hx.2,hy.2];intro e;exact h (Int.eq_of_mul_eq_mul_right (by have:=nO;omega) e)
theorem ae9(hx:Iw x a)(hy:Iw y b)(h:a≠b):(FloatKind.f64.format.order x y==some Ordering.eq)=false:=by
 rw[jK hx.1.2.num hy.1.2.num];refine decide_eq_false fun e=>aq6 hx hy h ?_;unfold fv;rw[e]
theorem agO(hx:Iw x a)(hy:Iw y b)(h:a=b):(FloatKind.f64.format.order x y==some Ordering.eq)=true:=by
 rw[jK hx.1.2.num hy.1.2.num];refine decide_eq_true ?_;have e:fv x=fv y:=by rw[hx.2,hy.2,h]
 have h1:¬sr x<sr y:=fun k=>by have:=nI.1 k;omega
 have h2:¬sr y<sr x:=fun k=>by have:=nI.1 k;omega
 omega
theorem abJ:Iw 0 0:=⟨mX,agI⟩
end Go.Proofs.YtjaafolhfihegaaGreatDoor
