/- A part of the proof: contracts of functions and plain laws (FtA, FeA, SpE, QlA, FtB, FeB, FnA, CkA, CkB, LiA, QlL, MtA, SymD, FnC, MtB, MtC, QlM, FltC, FeC, QlN, RkS, SiA, AlvR, RlN, RkF, OwA, RkH, RfB). -/
import Derived.Test.YtkpodipoegbclaaGreatDoorK31
import Derived.Test.YtkpodipoegbclaaGreatDoorK08
import Derived.Test.YtkpodipoegbclaaGreatDoorK17
import Derived.Deep.Cut
import Derived.Deep.DeepCutAuto
import Derived.Test.YtkpodipoegbclaaGreatDoorK10
import Derived.Test.YtkpodipoegbclaaGreatDoorK13
import Derived.WalkKit
import Derived.Laws.NewFold
import Derived.Test.YtkpodipoegbclaaGreatDoorK18
import Derived.Deep.AppendLies
set_option linter.unusedVariables false
set_option linter.unusedSimpArgs false
set_option maxHeartbeats 25600000
set_option maxRecDepth 100000
namespace Go.Proofs.YtkpodipoegbclaaGreatDoor
section
open Go.RowKit Go.Maps
open Re (rat ofI ofN)
open Bool renaming and_eq_true->be5
variable{l m n:Nat}
inductive Sh where
 |leaf (n l:Nat)
 |add (a b:Sh)
 |mul (a b:Sh)
 |div (a b:Sh)
 |root (a:Sh)
 |lit (c:Ct) (k:Nat)
def Sh.ct (K:Nat):Sh->Ct
 | .leaf n l=>⟨n,65536,n,l,1100⟩
 | .add a b=>jJ 65536 (a.ct K) (b.ct K)
 | .mul a b=>an4 65536 (a.ct K) (b.ct K)
 | .div a b=>an5 65536 K (a.ct K) (b.ct K)
 | .root a=>nZ 65536 (a.ct K)
 | .lit c _=>c
def Sh.cost:Sh->Nat
 | .leaf n l=>n+l
 | .add a b=>1+a.cost+b.cost
 | .mul a b=>a.cost+b.cost
 | .div a b=>a.cost+b.cost
 | .root a=>a.cost
 | .lit _ k=>k
def Sh.top (K:Nat)(s:Sh):Bool:=decide (K<=15/\s.cost<=1000000/\(s.ct K).s<=4000000/\max (s.ct K).u (s.ct K).l*2^K+1<=32768/\((max (s.ct K).u (s.ct K).l*2^K+2:Nat):Int)<=(s.ct K).W)
def Sh.ok (K:Nat):Sh->Bool
 | .leaf n l=>decide (n<=53/\l<=1000)
 | .add a b=>a.ok K&&b.ok K
 | .mul a b=>a.ok K&&b.ok K
 | .div a b=>a.ok K&&(b.ok K&&(b.top K&&decide (ctG K (b.ct K)<=(b.ct K).W)))
 | .root a=>a.ok K&&a.top K
 | .lit ..=>true
structure FitC(L:List Ex)(s:Sh)(e:Ex)(v:Re):Prop where
 vl:Vl L 65536 e v (s.ct L.length)
 cost:cO e<=s.cost
 gd:AllGd e
def Fit(L:List Ex)(s:Sh)(e:Ex)(v:Re):Prop:=s.ok L.length=true->FitC L s e v
theorem anK:(32*2^11:Int)=65536:=by decide
section
variable{L:List Ex}{s t:Sh}{a b:Ex}{x y z:Re}
theorem FitC.good (h:FitC L s a x)(ht:s.top L.length=true):Gd L.length 11 a x:=by
 obtain⟨h1,h2,h3,h4,h5⟩:=of_decide_eq_true ht;have hv:=h.vl;rw[<-anK]at hv;exact Gd.of hv nlr (by omega) h1 (Nat.le_trans h.cost h2) h3 h4 h5
theorem Fit.add (h:Fit L s a x)(g:Fit L t b y):Fit L (.add s t) (.add a b) (x+y):=fun k=>by
 simp only[Sh.ok,be5]at k;have h:=h k.1;have g:=g k.2;exact⟨Vl.add (by omega) h.vl g.vl,by have:=h.cost;have:=g.cost;simp only[cO,Sh.cost];omega,h.gd.add g.gd⟩
theorem Fit.sub (h:Fit L s a x)(g:Fit L t b y):Fit L (.add s t) (.sub a b) (x-y):=fun k=>by
 simp only[Sh.ok,be5]at k;have h:=h k.1;have g:=g k.2;exact⟨Vl.sub (by omega) h.vl g.vl,by have:=h.cost;have:=g.cost;simp only[cO,Sh.cost];omega,h.gd.sub g.gd⟩
theorem Fit.root (h:Fit L s a x)(h0:0<=y)(hy:y*y=x)(hm:Ex.root a∈L):Fit L (.root s) (.root a) y:=fun k=>by
 simp only[Sh.ok,be5]at k;have h:=h k.1;exact⟨Vl.root (by omega) h.vl h0 hy hm,by have:=h.cost;simp only[cO,Sh.cost];omega,h.gd.root (h.good k.2)⟩
theorem Fit.sgn {P:Ex->Prop}(h:Fit L s a x)(hs:(s.ok L.length&&s.top L.length)=true):gM P a (Re.sgn x):=by
 rw[be5]at hs;exact akB ((h hs.1).good hs.2) (h hs.1).gd
end
theorem akC{b:Nat}{x:Int}(hl:l+m=1074)(hv:fv b=x*((2^m:Nat):Int)):aW b=mkDy x (-(l:Int)):=by
 unfold aW;rw[hv];have:=ajI x (-(l:Int)) m;rwa[show-(l:Int)-(m:Int)=-1074 by omega]at this
theorem aoA{x:Int}(h:x.natAbs<2^n):-p2 n<(x:Rat)*p2 (-(l:Int))/\(x:Rat)*p2 (-(l:Int))<p2 n:=by
 have e:=fA n;have h1:p2 (-(l:Int))<=1:=by rw[<-lD];exact iL (by omega)
 have h0:=bD (-(l:Int));have h2:(x:Rat)<p2 n/\-p2 n<(x:Rat):=by
  rw[e,<-Rat.intCast_natCast,<-Rat.intCast_neg];exact⟨Rat.intCast_lt_intCast.2 (by omega),Rat.intCast_lt_intCast.2 (by omega)⟩
 generalize p2 (-(l:Int))=u at*;generalize (x:Rat)=q at*;generalize p2 (n:Int)=m at*;have hm:0<m:=by grind
 have a1:0<=(m-q)*u:=Rat.mul_nonneg (by grind) (by grind);have a2:0<=(m+q)*u:=Rat.mul_nonneg (by grind) (by grind);have a3:0<=m*(1-u):=Rat.mul_nonneg (by grind) (by grind);have a4:0<(m-q)*u:=Rat.mul_pos (by grind) h0;have a5:0<(m+q)*u:=Rat.mul_pos (by grind) h0;constructor<;>grind
theorem Fit.dleaf {L:List Ex}{b:Nat}{x:Int}(hb:b<18446744073709551616)(hf:fin b)(hl:l+m=1074)(hv:fv b=x*((2^m:Nat):Int))(h:x.natAbs<2^n):Fit L (.leaf n l) (.leaf b) (rat ((x:Rat)*p2 (-(l:Int)))):=fun k=>by
 have k:=of_decide_eq_true k;have e:=akC hl hv;have er:rv (aW b)=(x:Rat)*p2 (-(l:Int)):=by rw[e,kL]
 obtain⟨r1,r2⟩:=aoA (l:=l) h;have h3:(aW b).man≠0->-(l:Int)<=(aW b).exp/\topD (aW b)<=n:=fun hn=>⟨by rw[e]at hn|-;exact mF hn,qW hn (by rw[er];exact r1) (by rw[er];exact r2)⟩;have h4:bits (aW b).man.natAbs<=n:=by
  rw[e];exact Nat.le_trans (pJ x _) ((aD _ _).2 h)
 have hu:jH b<=n:=by
  unfold jH;split
  . omega
  . rename_i hn
    have:=h3 hn;unfold topD at this;rw[if_neg hn]at this;omega
 have hl:jI b<=l:=by
  unfold jI;split
  . omega
  . rename_i hn;have:=h3 hn;omega
 have hv:=Vl.leaf (L:=L) (P:=65536) (M:=n) hf hb ⟨by rw[e];exact Canon.mk _ _,by omega,fun hn=>by have:=h3 hn;omega⟩ ⟨by rw[er];grind,by rw[er];grind⟩ hu hl;rw[er]at hv;exact⟨hv,by simp only[cO,Sh.cost];omega,AllGd.leaf b⟩
theorem Fit.leaf {L:List Ex}{b:Nat}{x:Int}(n:Nat)(hb:b<18446744073709551616)(hf:fin b)(hv:fv b=x*(U74:Int))(h:x.natAbs<2^n):Fit L (.leaf n 0) (.leaf b) (ofI x):=by
 obtain⟨u,hu,hU⟩:=iU;have:=Fit.dleaf (L:=L) (n:=n) (l:=0) (x:=x) hb hf (m:=u) (by omega) (by rw[hv,hU]) h;rwa[show-((0:Nat):Int)=0 by rfl,lD,Rat.mul_one]at this
end
section
open Ieee
open Int renaming natCast_mul->be6,neg_mul->be7,lt_or_le->be8
variable{r:Nat}
theorem al1(j:Nat):∀m:Nat,m<2^53->j<=1990->∃c,c<infR/\mg c=m*2^j:=by
 induction j with
 |zero=>
  intro m hm _;exact⟨m,by unfold infR;omega,by rw[jZ m hm,Nat.pow_zero,Nat.mul_one]⟩
 |succ j ih=>
  intro m hm hj;rcases Nat.lt_or_ge m (2^52)with h|h
  . obtain⟨c,h1,h2⟩:=ih (m*2) (by omega) (by omega)
    exact⟨c,h1,by rw[h2,Nat.pow_succ,Nat.mul_assoc,Nat.mul_comm 2]⟩
  . refine⟨(j+2)*2^52+(m-2^52),by unfold infR;omega,?_⟩
    rw[iQ _ (by omega)];have e1:((j+2)*2^52+(m-2^52))/2^52=j+2:=by omega
    have e2:((j+2)*2^52+(m-2^52))%2^52=m-2^52:=by omega
    rw[e1,e2,show j+2-1=j+1 by omega,show 2^52+(m-2^52)=m by omega]
def RepF(N:Int):Prop:=∃c:Int,-(infR:Int)<c/\c<infR/\fvr c=N
theorem anL{x:Int}(j:Nat)(h:x.natAbs<2^53)(hj:j<=1990):RepF (x*(2^j:Nat)):=by
 obtain⟨c,h1,h2⟩:=al1 j x.natAbs h hj;have hc:(mg c:Int)=(x.natAbs:Int)*(2^j:Nat):=by rw[h2,be6]
 rcases be8 x 0 with g|g
 . by_cases h0:c=0
   . subst h0
     rw[oO]at hc;refine⟨0,by unfold infR;omega,by unfold infR;omega,?_⟩;rw[dM,show x=-(x.natAbs:Int) by omega,be7,<-hc];rfl
   . refine⟨-(c:Int),by omega,by omega,?_⟩
     unfold fvr;rw[if_pos (by omega),show(-(c:Int)).natAbs=c by omega,hc,<-be7,show-(x.natAbs:Int)=x by omega]
 . refine⟨(c:Int),by omega,by omega,?_⟩
   unfold fvr;rw[if_neg (by omega),show((c:Int)).natAbs=c by omega,hc,show(x.natAbs:Int)=x by omega]
theorem anM(h1:-(infR:Int)<sr r)(h2:sr r<infR):fin r:=by
 unfold sr at h1 h2;unfold fin;split at h1<;>simp_all<;>omega
theorem Near.exact {t:Nat}{N M:Int}(h:Near r N t)(hM:RepF M)(hN:N=M*(2^(t-1074):Nat)):fin r/\fv r=M:=by
 obtain⟨c,c1,c2,rfl⟩:=hM;have e:sr r=c:=by
  have h1:=h.2.1 c (by omega) (by omega) (by omega);have h2:=h.2.2 c (by omega) (by omega) (by omega);omega
 exact⟨anM (by omega) (by omega),by unfold fv;rw[e]⟩
theorem acF{k:Int}(h:k.natAbs<2^53):FloatKind.f64.nearest k<18446744073709551616/\fin (FloatKind.f64.nearest k)/\fv (FloatKind.f64.nearest k)=k*(2^1074:Nat):=by
 have e:FloatKind.f64.nearest k=double.nearest (decide (k<0)) k.natAbs 0:=rfl;rw[e];have hn:=gG (decide (k<0)) k.natAbs 0 1074 (by omega) (by omega) (k*(2^1074:Nat)) (by
  have:(0+((1074:Nat):Int)).toNat=1074:=by omega
  rw[this];generalize 2^1074=M;rcases be8 k 0 with g|g
  . rw[if_pos (by simpa using g),be6,<-be7,show-(k.natAbs:Int)=k by omega]
  . rw[if_neg (by simpa using g),be6,show(k.natAbs:Int)=k by omega])
 obtain⟨h1,h2⟩:=hn.exact (anL 1074 h (by omega)) (by rw[show(2^(1074-1074):Nat)=1 by decide];omega);exact⟨double.nearest_lt ..,h1,h2⟩
end
section
open Go.RowKit Go.Maps
section
variable{s:Bs}{W:World}{g N i j k i' j' k':Nat}{K:List (Ex×Nat)}{l:List (Nat×Obj)}{x px py qx qy rx ry:Ex}{q:Int}
end
section
end
end
section
open Go.RowKit Go.Maps
open Re (rat ofI ofN)
variable{P:Ex->Prop}
section
variable{L:List Ex}{A B C D A' B' C':Ex}{a b c d a' b' c':Re}{i j k l i' j' k':Nat}
end
def fl(k:Int):Nat:=FloatKind.f64.nearest k
theorem adS{k:Int}(h:k.natAbs<2^53):fl k<18446744073709551616/\fin (fl k)/\fv (fl k)=k*(U74:Int):=by
 obtain⟨h1,h2,h3⟩:=acF h;obtain⟨u,hu,hU⟩:=iU;exact⟨h1,h2,by rw[hU,hu];exact h3⟩
section
variable{L:List Ex}{s t:Sh}{a b:Ex}{p q:Rat}
theorem Fit.rsub (h:Fit L s a (rat p))(g:Fit L t b (rat q)):Fit L (.add s t) (.sub a b) (rat (p-q)):=by rw[Re.rat_sub];exact h.sub g
theorem Fit.rroot (h:Fit L s a (rat p))(h0:0<=q)(hq:q*q=p)(hm:Ex.root a∈L):Fit L (.root s) (.root a) (rat q):=
 Fit.root h (by rw[Re.zero_rat];exact Re.rat_le.2 h0) (by rw[<-Re.rat_mul,hq]) hm
theorem Fit.pos (h:Fit L s a (rat p))(hp:0<p)(hs:(s.ok L.length&&s.top L.length)=true):gM P a 1:=by
 have:=h.sgn (P:=P) hs;rwa[Re.sgn_pos (by rw[Re.zero_rat];exact Re.rat_lt.2 hp)]at this
theorem Fit.neg (h:Fit L s a (rat p))(hp:p<0)(hs:(s.ok L.length&&s.top L.length)=true):gM P a (-1):=by
 have:=h.sgn (P:=P) hs;rwa[Re.sgn_neg (by rw[Re.zero_rat];exact Re.rat_lt.2 hp)]at this
theorem Fit.zero (h:Fit L s a (rat p))(hp:p=0)(hs:(s.ok L.length&&s.top L.length)=true):gM P a 0:=by
 have:=h.sgn (P:=P) hs;rwa[hp,<-Re.zero_rat,Re.sgn_zero]at this
end
end
section
open Ieee
open Re (rat ofI ofN)

end
section
open Go.RowKit Go.Maps
section
variable{f:FuncId}{g d:Nat}{av:Array Value}{K0:List (Ex×Nat)}{V:List Nat->Value}{es:List Ex}
end
section
variable{S:Spec Ex}{w0:Bs}{g c0 i d:Nat}{f:FuncId}{args:(Nat->Nat)->Array Value}{ix ts:List Nat}{V:List Nat->Value}{es:List Ex}
end
end
section
open Go.RowKit Go.Maps Go.Stop Go.Extern
abbrev FlOk(b:Nat):Prop:=b<18446744073709551616/\fin b
end
section
open Go.RowKit Go.Maps

end
section
open Go.RowKit Go.Maps
open Re (rat ofI ofN)
theorem Fit.sign {P:Ex->Prop}{L:List Ex}{s:Sh}{a:Ex}{q:Rat}{v:Int}(h:Fit L s a (rat q))(c:Nat)(hc:0<c)(hq:q*(c:Rat)=(v:Rat))(hs:(s.ok L.length&&s.top L.length)=true):gM P a v.sign:=by
 have hc':(0:Rat)<(c:Rat):=by rw[<-Rat.intCast_natCast];exact Rat.intCast_pos.2 (by omega)
 rcases Int.lt_trichotomy v 0 with g|g|g
 . rw[Int.sign_eq_neg_one_iff_neg.2 g]
   refine h.neg ?_ hs;apply Classical.byContradiction;intro k;have h1:0<=q*(c:Rat):=Rat.mul_nonneg (by grind) (by grind);rw[hq]at h1;have h2:(v:Rat)<((0:Int):Rat):=Rat.intCast_lt_intCast.2 g;have h3:((0:Int):Rat)=0:=rfl;grind
 . rw[g]
   refine h.zero ?_ hs;rw[g]at hq;rcases Rat.mul_eq_zero.1 (hq.trans (show((0:Int):Rat)=0 from rfl))with k|k
   . exact k
   . grind
 . rw[Int.sign_eq_one_iff_pos.2 g]
   refine h.pos ?_ hs;apply Classical.byContradiction;intro k;have h1:0<=-q*(c:Rat):=Rat.mul_nonneg (by grind) (by grind);have h2:((0:Int):Rat)<(v:Rat):=Rat.intCast_lt_intCast.2 g;have h3:((0:Int):Rat)=0:=rfl;grind
def Iw(b:Nat)(T:Int):Prop:=FlOk b/\fv b=T*(U74:Int)
end
section
open Go.RowKit Go.Maps Go.Stop Go.Extern

end
section
open Go.RowKit Go.Maps
section
variable{E:Type}{S:Spec E}{W:Wk E}{P:Program}{Q:Exit->Act->World->Prop}{c0:Nat}{a0:Act}{ν0:Nat->Nat}{i:Nat}{o:Oper}
end
section
variable{f:FuncId}{g d:Nat}{av:Array Value}{K0:List (Ex×Nat)}{V:List Nat->Nat->Value}{es:List Ex}{O:List Nat->Obj}
end
section
variable{S:Spec Ex}{w0:Bs}{g c0 i d:Nat}{f:FuncId}{args:(Nat->Nat)->Array Value}{ix ts:List Nat}{V:List Nat->Nat->Value}{es:List Ex}{O:List Nat->Obj}{B:Blk}
end
section
variable(U V W:Ex)(a b c:Nat)
end
end
section
open Go.RowKit Go.Maps
open Re (rat ofI ofN)
abbrev w3:Nat:=4613937818241073152
abbrev w4:Nat:=4616189618054758400
end
section
open Ieee

end
section
open Go.RowKit Go.Maps Ieee
section
variable{x y:Nat}{a b:Int}
end
theorem Iw.fit {b:Nat}{T:Int}{L:List Ex}(h:Iw b T)(n:Nat)(hT:T.natAbs<2^n)(hn:n<=53):Fit L (.leaf n 0) (.leaf b) (Re.rat (T:Rat)):=Fit.leaf n h.1.1 h.1.2 h.2 hT
end
section
open Go.RowKit Go.Maps
open Re (rat ofI ofN)
section
variable{u v w a b c se sn:Sh}{U V W:Ex}{A B C:Nat}{p q r x y e n z:Rat}
end
abbrev cL:Ct:=⟨40,65464,21,13,71051⟩
section
variable(a b u v s:Rat)
end
section
variable{wi wj wc:Nat}{a b c:Int}(hi:Iw wi a)(hj:Iw wj b)(hc:Iw wc c)(ha:0<=a/\a<=24)(hb:0<=b/\b<=24)(hd:1<=c/\c<=9)
include hi hj hc ha hb hd
end
end
section
open Go.RowKit Go.Maps
theorem yH{w:World}{a b n c d:Nat}(hn:n<=100)(h:∀j,j<n->∃x:Int,w.cell? ⟨a,j,none⟩=some (.int .i64 x)/\w.cell? ⟨b,j,none⟩=some (.int .i64 x)):
 Calls Tryz.prog 70 #[.slice (some ⟨a,0,none⟩) n c,.slice (some ⟨b,0,none⟩) n d] w (RetV w (.bool true)):=by
 have HH:=hdd h;have hnI:(n:Int)<=100:=by omega
 clear h;go_enter Tryz.func70,Tryz.ntmps70
 go_wp2_with fail
 go_loopw [5] (fun i wr=>∃m:Nat,m<=n/\i=.int .i64 (m:Int)/\Hid (wr.heap=w.heap/\Below w.heap.size w wr)) (fun i _=>((n:Int)-intOf i).toNat)
 case atStart=>exact⟨0,Nat.zero_le _,rfl,hdd ⟨rfl,Below.refl _ _⟩⟩
 case round=>
  obtain⟨m,hm,rfl,HF⟩:=hrel;rcases Nat.lt_or_ge m n with hlt|hge
  . obtain⟨x,x0,x1⟩:=HH.out m hlt
    have c0:wr.cell? ⟨a,m,none⟩=some (.int .i64 x):=by rw[<-x0];simp only[World.cell?,HF.out.1]
    have c1:wr.cell? ⟨b,m,none⟩=some (.int .i64 x):=by rw[<-x1];simp only[World.cell?,HF.out.1]
    have hmI:(m:Int)<(n:Int):=by omega
    have hm0:(0:Int)<=(m:Int):=by omega
    have hxx:(x==x)=true:=beq_self_eq_true x;have HLT:=hdd hlt;clear x0 x1 hlt;go_wp2_with fail
    go_quiet (fail)
    have HD:Hid ((wr.drewN nq).heap=w.heap/\Below w.heap.size w (wr.drewN nq)):=hdd ⟨HF.out.1,⟨HF.out.2.os,HF.out.2.tape,HF.out.2.output,HF.out.2.size,HF.out.2.block⟩⟩;clear c0 c1 hxx HF;go_wp2_with fail
    go_roundw
    case rel=>exact⟨m+1,by have:=HLT.out;omega,by go_num,HD⟩
    case measure=>have:=HLT.out;simp[intOf];omega
  . have hme:m=n:=by omega
    subst hme;clear hm hge;go_wp2;go_ret;exact⟨rfl,HF.out.2⟩
end
section
open Go.RowKit Go.Maps
open Re (rat ofI ofN)
open List renaming sublist_append_right->be9,append_assoc->bfA
open Option.some renaming inj->bfB
variable{K:List (Ex×Nat)}{v:Value}
def rkA(j:Nat):Int:=[2,3,2].getD j 0
theorem ra_4:Iw 4616189618054758400 4:=⟨⟨by decide,by decide⟩,by kernel_rfl⟩
theorem ra_3:Iw 4613937818241073152 3:=⟨⟨by decide,by decide⟩,by kernel_rfl⟩
theorem ra_2:Iw 4611686018427387904 2:=⟨⟨by decide,by decide⟩,by kernel_rfl⟩
theorem lH{L:List Ex}{s t:Sh}{a b:Ex}{p q:Int}(h:Fit L s a (rat (p:Rat)))(k:Fit L t b (rat (q:Rat)))(hs:((Sh.add s t).ok L.length&&(Sh.add s t).top L.length)=true):gM PT (.sub a b) (p-q).sign:=
 (h.rsub k).sign 1 (by decide) (by push_cast;grind) hs
theorem al2{k0 k1 k2:Nat}(h0:(.root (.leaf 4616189618054758400),k0)∈K)(h1:(.leaf 4613937818241073152,k1)∈K)(h2:(.leaf 4611686018427387904,k2)∈K):zM K rkA [k0,k1,k2]:=by
 have F0:Fit [.root (.leaf 4616189618054758400)] _ (.root (.leaf 4616189618054758400)) (rat ((2:Int):Rat)):=Fit.rroot (ra_4.fit 3 (by decide) (by decide)) (by decide) (by grind) (List.mem_singleton.2 rfl);have F1:=ra_3.fit (L:=[.root (.leaf 4616189618054758400)]) 2 (by decide) (by decide);have F2:=ra_2.fit (L:=[.root (.leaf 4616189618054758400)]) 2 (by decide) (by decide);refine⟨fun k hk=> ?_,fun i j ki kj hi hj=> ?_⟩
 . simp only[List.mem_cons,List.not_mem_nil,or_false]at hk
   rcases hk with rfl|rfl|rfl
   . exact⟨_,_,h0,F0.sgn (by kernel_rfl)⟩
   . exact⟨_,_,h1,F1.sgn (by kernel_rfl)⟩
   . exact⟨_,_,h2,F2.sgn (by kernel_rfl)⟩
 . have c:∀{i k:Nat},[k0,k1,k2][i]? =some k->(i=0/\k=k0)\/(i=1/\k=k1)\/(i=2/\k=k2):=fun{i k} h=>by
    match i,h with
    |0,h=>exact Or.inl ⟨rfl,(bfB h).symm⟩
    |1,h=>exact Or.inr (Or.inl ⟨rfl,(bfB h).symm⟩)
    |2,h=>exact Or.inr (Or.inr ⟨rfl,(bfB h).symm⟩)
   rcases c hi with ⟨rfl,rfl⟩|⟨rfl,rfl⟩|⟨rfl,rfl⟩<;>rcases c hj with ⟨rfl,rfl⟩|⟨rfl,rfl⟩|⟨rfl,rfl⟩
   . exact⟨_,_,h0,h0,lH F0 F0 (by kernel_rfl)⟩
   . exact⟨_,_,h0,h1,lH F0 F1 (by kernel_rfl)⟩
   . exact⟨_,_,h0,h2,lH F0 F2 (by kernel_rfl)⟩
   . exact⟨_,_,h1,h0,lH F1 F0 (by kernel_rfl)⟩
   . exact⟨_,_,h1,h1,lH F1 F1 (by kernel_rfl)⟩
   . exact⟨_,_,h1,h2,lH F1 F2 (by kernel_rfl)⟩
   . exact⟨_,_,h2,h0,lH F2 F0 (by kernel_rfl)⟩
   . exact⟨_,_,h2,h1,lH F2 F1 (by kernel_rfl)⟩
   . exact⟨_,_,h2,h2,lH F2 F2 (by kernel_rfl)⟩
theorem OwnR.some {T:TypeId}{sz n:Nat}{xs:List Value}{lr:List (Nat×Obj)}(h:OwnR T sz v n xs lr)(h0:0<n):∃r c,v=.slice (some ⟨r,0,none⟩) n c:=by
 rcases h.2 with ⟨-,e,-⟩|⟨r,c,cur,e,-⟩
 . omega
 . exact⟨r,c,e⟩
theorem anN{s:Bs}{g N:Nat}{l lg:List (Nat×Obj)}{W:World}(hv:GrpV v [[0,2],[1]] lg)(hR:Run s g N K (lg++l) W):∃rg cg r0 c0 r1 c1,v=.slice (some ⟨rg,0,none⟩) 2 cg/\
 W.cell? ⟨rg,0,none⟩=some (.slice (some ⟨r0,0,none⟩) 2 c0)/\W.cell? ⟨rg,1,none⟩=some (.slice (some ⟨r1,0,none⟩) 1 c1)/\W.cell? ⟨r0,0,none⟩=some (.int .i64 0)/\W.cell? ⟨r0,1,none⟩=some (.int .i64 2)/\W.cell? ⟨r1,0,none⟩=some (.int .i64 1):=by
 obtain⟨vs,lo,l2,h1,h2,rfl⟩:=hv
 match vs,h2 with
 |[v0,v1],⟨la,lb,e6,o0,lc,ld,e7,o1,h4⟩=>
  obtain rfl:ld=[]:=h4;subst e7 e6;obtain⟨rg,cg,rfl⟩:=h1.some (by decide);obtain⟨r0,c0,rfl⟩:=o0.some (by decide);obtain⟨r1,c1,rfl⟩:=o1.some (by decide);have R0:Run s g N K (la++l) W:=hR.subl (by
   rw[bfA,bfA];exact(List.Sublist.append (List.Sublist.refl _) (be9 _ _)).trans (be9 _ _))
  have R1:Run s g N K (lc++l) W:=hR.subl (by
   rw[bfA,bfA,List.append_nil];exact(be9 _ _).trans (be9 _ _))
  rw[bfA]at hR;exact⟨rg,cg,r0,c0,r1,c1,rfl,(h1.cell hR (q:=0) rfl).1,(h1.cell hR (q:=1) rfl).1,(o0.cell R0 (q:=0) rfl).1,(o0.cell R0 (q:=1) rfl).1,(o1.cell R1 (q:=0) rfl).1⟩
theorem al3{w:World}(hT:Tab w)(htb:1<w.heap.size):
 Calls Tryz.prog 26 #[] w (RetV w (.bool true)):=by
 have HN:=hdd (aeD (l:=[]) (Below.refl w.heap.size w) (fun p hp=>by cases hp) (by simp) hT htb);clear hT htb;go_enter Tryz.func26,Tryz.ntmps26
 go_wp2_with fail
 refine HN.out.mono ?_;rintro e W1⟨g,rfl,hR⟩;have R1:=hdd hR;clear hR HN;dsimp only;go_wp2_with fail
 refine(R1.out.of (by omega) (by decide) (by decide)).mono ?_;rintro e w2⟨k4,rfl,hR2⟩;have R2:=hdd hR2;clear hR2 R1;go_wp2_with fail
 refine(R2.out.sqrt (by omega) (List.mem_cons_self ..)).mono ?_;rintro e w3⟨k0,rfl,hR3⟩;have R3:=hdd hR3;clear hR3 R2;go_wp2_with fail
 refine(R3.out.of (by omega) (by decide) (by decide)).mono ?_;rintro e w4⟨k1,rfl,hR4⟩;have R4:=hdd hR4;clear hR4 R3;go_wp2_with fail
 refine(R4.out.of (by omega) (by decide) (by decide)).mono ?_;rintro e w5⟨k2,rfl,hR5⟩;have R5:=hdd hR5;clear hR5 R4;have R6:=hdd (R5.out.alloc (.cells (numL g [k0,k1,k2]++[]).toArray 26));have HG:=hdd (vJ (lr:=[(w5.heap.size,.cells (numL g [k0,k1,k2]++[]).toArray 26)]) (l:=[]) (v:=.slice (some ⟨w5.heap.size,0,none⟩) 3 3) (ids:=[k0,k1,k2]) R6.out (Or.inr ⟨w5.heap.size,3,[],rfl,rfl⟩) (by simp) (by simp) (al2 (by simp) (by simp) (by simp)));clear R5 R6;go_wp2_with fail
 refine HG.out.mono ?_;rintro e w6⟨vg,lg,rfl,hv,hR7⟩;obtain⟨rg,cg,r0,c0,r1,c1,rfl,a0,a1,b0,b1,d0⟩:=anN (show GrpV vg [[0,2],[1]] lg from hv) hR7;have HB:=hdd (Run.below hR7);clear hv hR7 HG;obtain⟨w7,hw7,hb7,hs7,b7⟩:=pro1 w6 (.cells #[.int .i64 0,.int .i64 2] 3);have HS1:=hdd (yH (w:=w7) (a:=r0) (b:=w6.heap.size) (n:=2) (c:=c0) (d:=2) (by decide) (fun j hj=>by
  match j,hj with
  |0,_=>exact⟨0,cbl b0 hb7,bZ (cs:=[.int .i64 0,.int .i64 2]) b7 rfl⟩
  |1,_=>exact⟨2,cbl b1 hb7,bZ (cs:=[.int .i64 0,.int .i64 2]) b7 rfl⟩))
 have HA1:=hdd (cbl a1 hb7);have HD0:=hdd (cbl d0 hb7);have HB7:=hdd (aA HB.out hb7);clear hb7 hs7 b7 b0 b1 a1 d0;go_wp2_with fail
 refine HS1.out.mono ?_;rintro e w8⟨rfl,hb8⟩;have a1:=cell_below HA1.out hb8 nlr;obtain⟨w9,hw9,hb9,hs9,b9⟩:=pro1 w8 (.cells #[.int .i64 1] 3);have HS2:=hdd (yH (w:=w9) (a:=r1) (b:=w8.heap.size) (n:=1) (c:=c1) (d:=1) (by decide) (fun j hj=>by
  match j,hj with
  |0,_=>exact⟨1,cell_below (cell_below HD0.out hb8 nlr) hb9 nlr,bZ (cs:=[.int .i64 1]) b9 rfl⟩))
 have HB9:=hdd (aA (aA HB7.out hb8) hb9);clear hb8 hb9 hs9 b9 HA1 HD0 HB7 HS1 hw7;go_wp2_with fail
 refine HS2.out.mono ?_;rintro e wa⟨rfl,hba⟩;have HBA:=hdd (aA HB9.out hba);clear hba;go_wp2;go_ret;exact⟨rfl,HBA.out⟩
end
section
open Go.RowKit Go.Maps
section
variable{s:Bs}{W:World}{g N i j v:Nat}{K:List (Ex×Nat)}{l:List (Nat×Obj)}{x y:Ex}
end
end
section
open Go.RowKit Go.Maps Go.Stop Go.Extern
theorem akD:Tryz.prog.underlying 49=some (.slice 26):=by kernel_rfl
theorem akE:(Tryz.prog.info? 26).map (fun i=>(i.zero,i.size,i.bytes))=some (some (.agg #[.pointer none,.int .i64 0]),2,16):=by kernel_rfl
theorem akF:∃i,Tryz.prog.info? 26=some i/\i.zero=some (.agg #[.pointer none,.int .i64 0])/\i.size=2/\i.bytes=16:=by
 have h:=akE;generalize Tryz.prog.info? 26=q at h
 cases q with
 |none=>simp at h
 |some i=>
  simp only[Option.map_some,Option.some.injEq,Prod.mk.injEq]at h;exact⟨i,rfl,h.1,h.2.1,h.2.2⟩
theorem yI(g k:Nat):∀ids:List Nat,numL g (ids++[k])=numL g ids++[.pointer (some ⟨g,0,none⟩),.int .i64 (k:Int)]
 |[]=>rfl
 |i::ids=>by simp[numL,yI g k ids]
section
variable{s:Bs}{g M:Nat}{K:List (Ex×Nat)}{F R L l0 l1 l2 l3:List (Nat×Obj)}{W w':World}{X C:Ex}{kv kc b bc bv m k:Nat}{v:Value}{ids:List Nat}
end
end
section

end
section
open Go.RowKit Go.Maps
theorem OwnR.rowN {g n:Nat}{v:Value}{ids:List Nat}{lr:List (Nat×Obj)}(h:OwnR 26 2 v n (numL g ids) lr)(hn:ids.length=n):RowN g v ids lr:=by
 subst hn;rcases h.2 with ⟨rfl,h0,rfl⟩|⟨r,cap,cur,rfl,rfl,h1,h2,h3,h4⟩
 . exact Or.inl ⟨List.length_eq_zero_iff.1 h0,rfl,rfl⟩
 . refine Or.inr ⟨r,cap,cur.toList.drop (ids.length*2),rfl,?_⟩
   rw[<-h4,List.take_append_drop,Array.toArray_toList]
section
variable{s:Bs}{g N n c i:Nat}{K:List (Ex×Nat)}{L lg:List (Nat×Obj)}{W:World}{p p0 p1 p2 p3:Option Addr}{gs:List (List Nat)}{o:List Nat}{c0 c1 c2 c3:Nat}
end
end
section
open Go.RowKit Go.Maps
open Re (rat ofI ofN)
variable{xs:List Int}{j m:Nat}
def rfV(xs:List Int)(j:Nat):Int:=(xs.getD j 0).tmod 9
theorem qZ(xs:List Int)(j:Nat):-8<=rfV xs j/\rfV xs j<=8:=by
 unfold rfV;have h1:=Int.lt_tmod_of_pos (xs.getD j 0) (show(0:Int)<9 by omega);have h4:=Int.tmod_lt_of_pos (xs.getD j 0) (show(0:Int)<9 by omega);omega
theorem akG{v:Int}(h:-8<=v/\v<=8):Iw (fl v) v:=⟨⟨(adS (by omega)).1,(adS (by omega)).2.1⟩,(adS (by omega)).2.2⟩
def rfE(v:Int):Ex:=if v<0 then .root (.leaf (fl v))else if v=8 then .div (.leaf (fl v)) (.sub (.leaf (fl v)) (.leaf (fl v)))else .leaf (fl v)
def rfB(v:Int):Bool:=decide (v<0)||v==8
def rfK(v:Int):Int:=if v<0 then 3 else 2
theorem aaB{v:Int}(h:-8<=v/\v<=8):Fit [] (.leaf 4 0) (.leaf (fl v)) (rat (v:Rat)):=(akG h).fit 4 (by omega) (by decide)
theorem FitC.fine {L:List Ex}{s:Sh}{e:Ex}{v:Re}(h:FitC L s e v):Fine e:=⟨⟨v,h.vl.den⟩,h.gd⟩
theorem anO{v:Int}(h:-8<=v/\v<=8)(hb:rfB v=true):BadE (rfE v) (rfK v):=by
 have f:=aaB h;have f0:FitC [] (.leaf 4 0) (.leaf (fl v)) (rat (v:Rat)):=f (by decide);unfold rfE rfK;by_cases h0:v<0
 . rw[if_pos h0,if_pos h0]
   refine Or.inr ⟨_,rat (v:Rat),_,_,rfl,rfl,f0.fine,f0.good (by decide),?_⟩;rw[Re.zero_rat];exact Re.rat_lt.2 (by rw[<-Rat.intCast_zero];exact Rat.intCast_lt_intCast.2 h0)
 . have h8:v=8:=by unfold rfB at hb;simpa[h0]using hb
   rw[if_neg h0,if_neg h0,if_pos h8];have g:=f.rsub f;have g0:FitC [] (.add (.leaf 4 0) (.leaf 4 0)) (.sub (.leaf (fl v)) (.leaf (fl v))) (rat ((v:Rat)-v)):=g (by decide);rw[show((v:Rat)-v)=0 by grind,<-Re.zero_rat]at g0;exact Or.inl ⟨_,_,_,_,rfl,rfl,f0.fine,g0.fine,g0.good (by decide)⟩
theorem ae1{v:Int}(hb:rfB v=false):rfE v=.leaf (fl v)/\0<=v/\v≠8:=by
 unfold rfB at hb;simp only[Bool.or_eq_false_iff,decide_eq_false_iff_not,beq_eq_false_iff_ne]at hb;exact⟨by unfold rfE;rw[if_neg hb.1,if_neg hb.2],by omega,hb.2⟩
theorem ae2{v:Int}(h:-8<=v/\v<=8):gM PT (.leaf (fl v)) v.sign:=(aaB h).sign 1 (by decide) (by push_cast;grind) (by kernel_rfl)
theorem al4{u v:Int}(h:-8<=u/\u<=8)(h':-8<=v/\v<=8):gM PT (.sub (.leaf (fl u)) (.leaf (fl v))) (u-v).sign:=((aaB h).rsub (aaB h')).sign 1 (by decide) (by push_cast;grind) (by kernel_rfl)
def rfF(xs:List Int):Nat->Option Nat
 |0=>none
 |m+1=>match rfF xs m with
  |some j=>some j
  |none=>if rfB (rfV xs m)then some m else none
theorem wK{xs:List Int}:∀{m:Nat},rfF xs m=none->∀i,i<m->rfB (rfV xs i)=false
 |0,_,_,h=>absurd h (by omega)
 |m+1,h,i,hi=>by
  rw[rfF]at h
  cases e:rfF xs m with
  |some j=>rw[e]at h;cases h
  |none=>
   rw[e]at h;simp only at h;rcases Nat.lt_or_ge i m with hl|hg
   . exact wK e i hl
   . obtain rfl:i=m:=by omega
     cases hb:rfB (rfV xs i)with
     |false=>rfl
     |true=>rw[hb]at h;cases h
theorem acG{xs:List Int}{j:Nat}:∀{m:Nat},rfF xs m=some j->j<m/\rfB (rfV xs j)=true/\∀i,i<j->rfB (rfV xs i)=false
 |0,h=>by cases h
 |m+1,h=>by
  rw[rfF]at h
  cases e:rfF xs m with
  |some j'=>
   rw[e]at h;obtain rfl:j'=j:=by simpa using h
   obtain⟨h1,h2⟩:=acG e;exact⟨by omega,h2⟩
  |none=>
   rw[e]at h;simp only at h
   cases hb:rfB (rfV xs m)with
   |false=>rw[hb]at h;cases h
   |true=>
    rw[hb]at h;obtain rfl:m=j:=by simpa using h
    exact⟨by omega,hb,wK e⟩
theorem ae3(h:rfF xs m=none)(hb:rfB (rfV xs m)=true):rfF xs (m+1)=some m:=by rw[rfF,h];simp only[hb,if_true]
theorem ae4(h:rfF xs m=some j):rfF xs (m+1)=some j:=by rw[rfF,h]
theorem anP(hb:rfB (rfV xs m)=false):rfF xs (m+1)=rfF xs m:=by
 rw[rfF]
 cases rfF xs m with
 |none=>simp only[hb];rfl
 |some j=>rfl
def badI:Option Nat->Int
 |some j=>j
 |none=>-1
def codI(xs:List Int):Option Nat->Int
 |some j=>rfK (rfV xs j)
 |none=>0
def RfL(g:Nat)(K:List (Ex×Nat))(xs:List Int)(m:Nat)(v:Value)(ids:List Nat)(lr:List (Nat×Obj)):Prop:=
 ids.length=m/\OwnR 26 2 v m (numL g ids) lr/\∀j k,ids[j]? =some k->(rfE (rfV xs j),k)∈K
theorem mO{g k:Nat}{K K':List (Ex×Nat)}{v v':Value}{ids:List Nat}{lr lr':List (Nat×Obj)}(h:RfL g K xs m v ids lr)(hK:∀p∈K,p∈K')(ho:OwnR 26 2 v' (m+1) (numL g (ids++[k])) lr')(hk:(rfE (rfV xs m),k)∈K'):RfL g K' xs (m+1) v' (ids++[k]) lr':=by
 refine⟨by rw[List.length_append,h.1];rfl,ho,fun j k' hj=> ?_⟩;rw[List.getElem?_append]at hj
 split at hj
 . exact hK _ (h.2.2 j k' hj)
 . rename_i hlt
   have hj2:j-ids.length=0:=by
    rcases Nat.eq_zero_or_pos (j-ids.length)with e|e
    . exact e
    . rw[List.getElem?_eq_none (by simp only[List.length_singleton];exact e)]at hj;cases hj
   rw[hj2]at hj;obtain rfl:k=k':=by simpa using hj
   have:=h.1;obtain rfl:j=m:=by omega
   exact hk
theorem akH{g:Nat}{K:List (Ex×Nat)}{v:Value}{ids:List Nat}{lr:List (Nat×Obj)}(h:RfL g K xs m v ids lr)(hn:rfF xs m=none):zM K (rfV xs) ids:=by
 have hg:∀j k,ids[j]? =some k->(.leaf (fl (rfV xs j)),k)∈K:=fun j k hj=>by
  have hl:=(List.getElem?_eq_some_iff.1 hj).1;have:=h.2.2 j k hj;rwa[(ae1 (wK hn j (by have:=h.1;omega))).1]at this
 refine⟨fun k hk=> ?_,fun i j ki kj hi hj=>⟨_,_,hg i ki hi,hg j kj hj,al4 (qZ xs i) (qZ xs j)⟩⟩;obtain⟨j,hj⟩:=List.mem_iff_getElem?.1 hk;exact⟨_,_,hg j k hj,ae2 (qZ xs j)⟩
theorem al5{g:Nat}{K:List (Ex×Nat)}{v:Value}{ids:List Nat}{lr:List (Nat×Obj)}(h:RfL g K xs m v ids lr)(hn:rfF xs m=some j):qB K ids j (rfK (rfV xs j)):=by
 obtain⟨h1,h2,h3⟩:=acG hn;refine⟨fun i k hi hk=> ?_,?_⟩
 . have:=h.2.2 i k hk
   rw[(ae1 (h3 i hi)).1]at this;exact⟨_,_,this,ae2 (qZ xs i)⟩
 . have hl:j<ids.length:=by have:=h.1;omega
   exact⟨_,_,List.getElem?_eq_getElem hl,h.2.2 j _ (List.getElem?_eq_getElem hl),anO (qZ xs j) h2⟩
section
variable{s:Bs}{g N b k:Nat}{K:List (Ex×Nat)}{L lr:List (Nat×Obj)}{W:World}{v:Value}{n:Nat}{ids:List Nat}
theorem Run.boxR (hR:Run s g N K L W)(o1:Obj):∃w1,W.alloc o1=w1/\w1.heap[W.heap.size]? =some o1/\Run s g N K ((W.heap.size,o1)::L) w1:=⟨_,rfl,heap_alloc_new W o1,hR.alloc o1⟩
theorem Run.putR (hR:Run s g N K ((b,numO g k)::L) W)(k':Nat):∃w',(W.setCell ⟨b,0,none⟩ (.pointer (some ⟨g,0,none⟩))).setCell ⟨b,1,none⟩ (.int .i64 (k':Int))=w'/\Run s g N K ((b,numO g k')::L) w':=
 ⟨_,rfl,Run.write hR (grownBy_set (grownBy_set (sN W _) _) _) (uU (cs:=[.pointer (some ⟨g,0,none⟩),.int .i64 (k:Int)]) (k:=1) (uU (cs:=[.pointer (some ⟨g,0,none⟩),.int .i64 (k:Int)]) (k:=0) (hR.at (List.mem_cons_self ..))))⟩
theorem qC{ops:Array Oper}{rest:List Oper}{o:Oper}{a:Act}{Q:Exit->Act->World->Prop}(hO:OwnR 26 2 v n (numL g ids) lr)(hR:Run s g N K (lr++L) W)(hb:W.heap[b]? =some (numO g k))(hn:n<=1000)(hgd:o.guard=none)(sl x:Operand)
 (ho:o.op=.call {callee:=.builtin .append,args:=#[sl,x],argTypes:=#[49,49]}) (hs:a.eval sl=v) (hx:a.eval x=.slice (some ⟨b,0,none⟩) 1 1)
 (h:∀r cap lr' w',OwnR 26 2 (.slice (some ⟨r,0,none⟩) (n+1) cap) (n+1) (numL g (ids++[k])) lr'->Run s g N K (lr'++L) w'->wpList Tryz.prog ops Q rest (a.put o.dst (.slice (some ⟨r,0,none⟩) (n+1) cap)) w'):wpList Tryz.prog ops Q (o::rest) a W:=by
 obtain⟨i,hi,i0,i1,i2⟩:=akF;exact wpList_append_lies _ hgd sl x 49 ho 0 26 i (.agg #[.pointer none,.int .i64 0]) 2 16 akD hi i0 i1 i2 rfl (by decide) v n (numL g ids) hs (hO.own hR) ⟨b,0,none⟩ 1 1 [.pointer (some ⟨g,0,none⟩),.int .i64 (k:Int)] hx rfl (World.news_of_block hb) (by simp[Value.oneCell']) (by decide) (by unfold maxLen;omega) (by omega) (Nat.zero_le _) _ rfl fun r cap w' o1 o2 o3 _=>by
  obtain⟨lr',p,q⟩:=hO.grow hR o1 o2 o3;rw[<-yI]at p;exact h r cap lr' w' p q
end
def RfS(s:Bs)(g:Nat)(xs:List Int)(m:Nat)(v:Value)(b c:Int)(W:World):Prop:=∃K ids lr,RfL g K xs m v ids lr/\b=badI (rfF xs m)/\c=codI xs (rfF xs m)/\Run s g (3*m) K (lr++[]) W
end
end Go.Proofs.YtkpodipoegbclaaGreatDoor
