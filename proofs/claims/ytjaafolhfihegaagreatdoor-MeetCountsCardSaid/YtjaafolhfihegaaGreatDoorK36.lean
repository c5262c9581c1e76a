/- A part of the proof: contracts of functions and plain laws (QlM, AlvE, OpA, TwD, McW). -/
import Derived.Test.YtjaafolhfihegaaGreatDoorK35
import Derived.Test.YtjaafolhfihegaaGreatDoorK20
import Derived.Test.YtjaafolhfihegaaGreatDoorK21
import Derived.IntWalk
import Derived.Test.YtjaafolhfihegaaGreatDoorK16
set_option linter.unusedVariables false
set_option linter.unusedSimpArgs false
set_option maxHeartbeats 25600000
set_option maxRecDepth 100000
namespace Go.Proofs.YtjaafolhfihegaaGreatDoor
open Go.RowKit Go.Maps
open Re (rat ofI ofN)
open Int renaming sign_eq_one_iff_pos->bgN,sign_mul->bgO,mul_le_mul->bgP,mul_nonneg->bgQ,one_mul->bgR
variable{D k m q r s v:Int}{L:List Ex}
abbrev w3:Nat:=4613937818241073152
abbrev w4:Nat:=4616189618054758400
theorem am9:fv w3=(3:Int)*(U74:Int):=by kernel_rfl
theorem anA:fv w4=(4:Int)*(U74:Int):=by kernel_rfl
theorem pG:Fit L (.leaf 0 0) (.leaf 0) (rat 0):=Fit.leaf 0 (by decide) (by decide) yN (by decide)
theorem aoD:Fit L (.leaf 2 0) (.leaf w3) (rat 3):=Fit.leaf 2 (by decide) (by decide) am9 (by decide)
theorem aoE:Fit L (.leaf 3 0) (.leaf w4) (rat 4):=Fit.leaf 3 (by decide) (by decide) anA (by decide)
theorem Fit.cutF {u v w a b c:Sh}{U V W:Ex}{A B C:Nat}{p q r x y z:Rat}(h1:Fit L u U (rat p))(h2:Fit L v V (rat q))(h3:Fit L w W (rat r))(h4:Fit L a (.leaf A) (rat x))(h5:Fit L b (.leaf B) (rat y))(h6:Fit L c (.leaf C) (rat z)):
 Fit L (.add (.mul c (.add (.mul u u) (.mul v v))) (.mul (.add (.add w (.mul u a)) (.mul v b)) (.add (.add w (.mul u a)) (.mul v b)))) (cutF U V W A B C) (rat (z*(p*p+q*q)-((r-p*x)-q*y)*((r-p*x)-q*y))):=
 (h6.rmul ((h1.rmul h1).radd (h2.rmul h2))).rsub (((h3.rsub (h1.rmul h4)).rsub (h2.rmul h5)).rmul ((h3.rsub (h1.rmul h4)).rsub (h2.rmul h5)))
theorem akS(hr:1<=r/\r<=20)(hk:0<=k/\k<50):dE PT (cutF (.leaf w3) (.leaf w4) (li (5*k)) 0 0 (fl (r*r))) (25*(r*r-k*k)).sign:=by
 have h:=bgP hr.2 hr.2 (by omega) (by omega);have h':=bgQ (show 0<=r by omega) (show 0<=r by omega);have F:=Fit.cutF (L:=[]) aoD aoE (oN (k:=5*k) 8 (by omega) (by omega)) pG pG (oN (k:=r*r) 9 (by omega) (by omega));exact F.sign 1 (by decide) (by push_cast;grind) (by kernel_rfl)
theorem akT{x:Int}(hr:1<=r/\r<=20)(hs:1<=s/\s<=20)(hx:1<=x/\x<=40):
 dE PT (cutF (axU 0 (fl (3*x))) (axU 0 (fl (4*x))) (axW 0 0 (fl (r*r)) (fl (3*x)) (fl (4*x)) (fl (s*s))) 0 0 (fl (r*r))) ((s*s-(5*x-r)*(5*x-r))*((5*x+r)*(5*x+r)-s*s)).sign:=by
 have h:=bgP hr.2 hr.2 (by omega) (by omega);have h':=bgQ (show 0<=r by omega) (show 0<=r by omega);have g:=bgP hs.2 hs.2 (by omega) (by omega);have g':=bgQ (show 0<=s by omega) (show 0<=s by omega);have R:=oN (L:=[]) (k:=r*r) 9 (by omega) (by omega);have S:=oN (L:=[]) (k:=s*s) 9 (by omega) (by omega);have X:=oN (L:=[]) (k:=3*x) 7 (by omega) (by omega);have Y:=oN (L:=[]) (k:=4*x) 8 (by omega) (by omega);have Z:=pG (L:=[]);have F:=Fit.cutF (akR.rmul (X.rsub Z)) (akR.rmul (Y.rsub Z)) ((((X.rmul X).radd (Y.rmul Y)).rsub S).rsub (((Z.rmul Z).radd (Z.rmul Z)).rsub R)) Z Z R;exact F.sign 1 (by decide) (by push_cast;grind) (by kernel_rfl)
theorem aoF(hr:1<=r)(hk:0<=k):(25*(r*r-k*k)).sign=(r-k).sign:=by
 have e:25*(r*r-k*k)=(25*(r+k))*(r-k):=by grind
 rw[e,bgO,bgN.2 (show 0<25*(r+k) by omega),bgR]
theorem akU(hr:1<=r)(hs:1<=s)(hD:1<=D):((s*s-(D-r)*(D-r))*((D+r)*(D+r)-s*s)).sign=(r+s-D).sign*((D-(r-s)).sign*(D-(s-r)).sign):=by
 have e:(s*s-(D-r)*(D-r))*((D+r)*(D+r)-s*s)=(D+r+s)*((r+s-D)*((D-(r-s))*(D-(s-r)))):=by grind
 rw[e,bgO,bgO,bgO,bgN.2 (show 0<D+r+s by omega),bgR]
def CB(r s D q:Int)(b1 b2 b3 b4 b5 b6:Bool)(m m':Int):Prop:=(r+s-D).sign*((D-(r-s)).sign*(D-(s-r)).sign)=q/\decide (D<r+s)=b1/\decide (D>r-s)=b2/\decide (D>s-r)=b3/\(D==r+s)=b4/\(D==r-s)=b5/\(D==s-r)=b6/\m=m'
theorem sgp(h:0<v):v.sign=1:=bgN.2 h
theorem sgn'(h:v<0):v.sign=-1:=Int.sign_eq_neg_one_iff_neg.2 h
theorem sgz(h:v=0):v.sign=0:=by rw[h];rfl
theorem ag0(hr:1<=r)(hs:1<=s)(hD:1<=D)(hq:(r+s-D).sign*((D-(r-s)).sign*(D-(s-r)).sign)=q)(hm:m=1+q):CB r s D q true true true false false false m 2\/CB r s D q false true true true false false m 1\/CB r s D q true false true false true false m 1\/CB r s D q true true false false false true m 1\/CB r s D q false true true false false false m 0\/CB r s D q true false true false false false m 0\/CB r s D q true true false false false false m 0:=by
 unfold CB;simp only[decide_eq_true_eq,decide_eq_false_iff_not,beq_iff_eq,beq_eq_false_iff_ne,ne_eq,hq,true_and];have c:(D<r+s/\r-s<D/\s-r<D)\/D=r+s\/D=r-s\/D=s-r\/r+s<D\/D<r-s\/D<s-r:=by omega
 rcases c with c|c|c|c|c|c|c
 . rw[sgp (by omega),sgp (by omega),sgp (by omega)]at hq;omega
 . rw[sgz (by omega)]at hq;omega
 . rw[sgz (v:=D-(r-s)) (by omega)]at hq;omega
 . rw[sgz (v:=D-(s-r)) (by omega)]at hq;omega
 . rw[sgn' (by omega),sgp (by omega),sgp (by omega)]at hq;omega
 . rw[sgn' (v:=D-(r-s)) (by omega),sgp (by omega),sgp (by omega)]at hq;omega
 . rw[sgn' (v:=D-(s-r)) (by omega),sgp (by omega),sgp (by omega)]at hq;omega
theorem ag1(hq:(r-k).sign=q)(hm:m=1+q):decide (k<r)=true/\True/\m=2\/decide (k<r)=false/\(k==r)=true/\m=1\/decide (k<r)=false/\(k==r)=false/\m=0:=by
 simp only[decide_eq_true_eq,decide_eq_false_iff_not,beq_iff_eq,beq_eq_false_iff_ne,ne_eq,true_and];have c:k<r\/k=r\/r<k:=by omega
 rcases c with c|c|c
 . rw[sgp (by omega)]at hq;omega
 . rw[sgz (by omega)]at hq;omega
 . rw[sgn' (by omega)]at hq;omega
end Go.Proofs.YtjaafolhfihegaaGreatDoor
namespace Go.Proofs.YtjaafolhfihegaaGreatDoor
open Go.RowKit Go.Maps Go.Stop Go.Extern
open Re (rat ofI ofN)
open List renaming setIfInBounds_toArray->bgS,map_cons->bgT,map_nil->bgU,set->bgV
theorem anB:fv 4607182418800017408=(1:Int)*(U74:Int):=am7
theorem aoZ:fv 13830554455654793216=(-1:Int)*(U74:Int):=by kernel_rfl
theorem rD:(0:Int)<U74:=by have h:0<U74:=aaU 1074;omega
theorem kJ:FlOk 0:=⟨by decide,by decide⟩
theorem amU:bN 0 0 4611686018427387904:=⟨kJ,kJ,⟨by decide,by decide⟩,by rw[am8];exact Int.mul_nonneg (by decide) (Int.natCast_nonneg _)⟩
theorem aeZ:jJ 4607182418800017408 0 4607182418800017408:=⟨⟨by decide,by decide⟩,kJ,⟨by decide,by decide⟩,Or.inl (by rw[anB];have:=rD;omega)⟩
theorem ag2:dE PT (cutF (.leaf 4607182418800017408) (.leaf 0) (.leaf 4607182418800017408) 0 0 4611686018427387904) 1/\sS PT (gW (.leaf 4607182418800017408) (.leaf 0) (.leaf 4607182418800017408) 0 0 4611686018427387904) (gX (.leaf 4607182418800017408) (.leaf 0) (.leaf 4607182418800017408) 0 0 4611686018427387904) (.leaf 4607182418800017408) (.leaf 13830554455654793216) 0/\sS PT (gQ (.leaf 4607182418800017408) (.leaf 0) (.leaf 4607182418800017408) 0 0 4611686018427387904) (gT (.leaf 4607182418800017408) (.leaf 0) (.leaf 4607182418800017408) 0 0 4611686018427387904) (.leaf 4607182418800017408) (.leaf 4607182418800017408) 0:=by
 have F:=Fit.cutF (L:=[]) adN pG adN pG pG akR;have hL:Lok [.root (cutF (.leaf 4607182418800017408) (.leaf 0) (.leaf 4607182418800017408) 0 0 4611686018427387904)]:=F.lok Lok.nil (by kernel_rfl) (by rw[Re.zero_rat];exact Re.rat_le.2 (by grind));have o:=adN (L:=[.root (cutF (.leaf 4607182418800017408) (.leaf 0) (.leaf 4607182418800017408) 0 0 4611686018427387904)]);have z:=pG (L:=[.root (cutF (.leaf 4607182418800017408) (.leaf 0) (.leaf 4607182418800017408) 0 0 4611686018427387904)]);have m:Fit [.root (cutF (.leaf 4607182418800017408) (.leaf 0) (.leaf 4607182418800017408) 0 0 4611686018427387904)] (.leaf 1 0) (.leaf 13830554455654793216) (rat (-1)):=Fit.leaf 1 (by decide) (by decide) aoZ (by decide);have e:=(o.rsub (o.rmul z)).rsub (z.rmul z);have n:=(o.rmul o).radd (z.rmul z);have s:=Fit.rroot (Fit.cutF o z o z z akR) (q:=1) (by grind) (by grind) (List.mem_singleton.2 rfl);have mx:=z.radd (Fit.rdiv hL ((o.rmul e).radd (z.rmul s)) n (by grind) (z:=1) (by grind))
 have my:=z.radd (Fit.rdiv hL ((z.rmul e).rsub (o.rmul s)) n (by grind) (z:=-1) (by grind));have px:=z.radd (Fit.rdiv hL ((o.rmul e).rsub (z.rmul s)) n (by grind) (z:=1) (by grind));have py:=z.radd (Fit.rdiv hL ((z.rmul e).radd (o.rmul s)) n (by grind) (z:=1) (by grind));exact⟨F.pos (by grind) (by kernel_rfl),⟨0,0,trivial,(mx.rsub o).zero (by grind) (by kernel_rfl),fun _=>⟨trivial,(my.rsub m).zero (by grind) (by kernel_rfl)⟩,rfl⟩,0,0,trivial,(px.rsub o).zero (by grind) (by kernel_rfl),fun _=>⟨trivial,(py.rsub o).zero (by grind) (by kernel_rfl)⟩,rfl⟩
theorem amV{w:World}(hT:Tab w)(htb:1<w.heap.size):
 Calls Tryz.prog 42 #[] w (RetV w (.bool true)):=by
 have HN:=hdd (aeD (l:=[]) (Below.refl w.heap.size w) (fun p hp=>by cases hp) (by simp) hT htb);clear hT htb;have CM:=hdd ag2;have PL:Hid (bN 0 0 4611686018427387904/\jJ 4607182418800017408 0 4607182418800017408/\(∀w,Calls Tryz.prog 108 #[.float .f64 4607182418800017408,.float .f64 0] w (RetV w (.int .i64 1)))/\(∀w,Calls Tryz.prog 108 #[.float .f64 0,.float .f64 0] w (RetV w (.int .i64 0)))/\dE PT (cutF (.leaf 4607182418800017408) (.leaf 0) (.leaf 4607182418800017408) 0 0 4611686018427387904) 1):=hdd ⟨amU,aeZ,fun _=>qM aeZ.1 kJ (by rw[anB,yN];have:=rD;omega),fun _=>alX kJ kJ rfl,CM.out.1⟩;go_enter Tryz.func42,Tryz.ntmps42
 go_wp2_with fail
 refine HN.out.mono ?_;rintro e W1⟨g,rfl,hR⟩;have R1:=hdd hR;clear hR HN;dsimp only
 go_upto_region 4 with fail
 refine Spec.go [.w (.c (.v (.pointer (some ⟨g,0,none⟩)))),.w (.agg ([.v (Value.int IntKind.i64 2),.v (.float .f64 0),.v (.float .f64 0),.v (Value.float FloatKind.f64 4611686018427387904)])),.w (.agg ([.v (Value.int IntKind.i64 1),.v (Value.float FloatKind.f64 4607182418800017408),.v (.float .f64 0),.v (Value.float FloatKind.f64 4607182418800017408)])),.tup [.c (.sl 4 2),.c (.v (.bool false)),.c (.v .nilIface)],.tup [.c (.sl 4 2),.c (.v (.bool false)),.c (.v .nilIface)],.w (.c (.sl 4 2)),.w (.c (.v (.bool false))),.w (.c (.v .nilIface)),.w (.c (.sl 4 2)),.w (.c (.v (.bool false))),.w (.c (.v .nilIface))] [3,3,3,3,3]
  [(0,(gW (.leaf 4607182418800017408) (.leaf 0) (.leaf 4607182418800017408) 0 0 4611686018427387904)),(1,(gX (.leaf 4607182418800017408) (.leaf 0) (.leaf 4607182418800017408) 0 0 4611686018427387904)),(2,(gQ (.leaf 4607182418800017408) (.leaf 0) (.leaf 4607182418800017408) 0 0 4611686018427387904)),(3,(gT (.leaf 4607182418800017408) (.leaf 0) (.leaf 4607182418800017408) 0 0 4611686018427387904))] [⟨4,33,[.v (.pointer (some ⟨g,0,none⟩)),.id 0,.v (.pointer (some ⟨g,0,none⟩)),.id 1,.v (.pointer (some ⟨g,0,none⟩)),.id 2,.v (.pointer (some ⟨g,0,none⟩)),.id 3],none⟩]
  [0,0,0,33,0,0,0,0,0,0,0] [[],[],[],[0,1,2],rgn 4,rgn 5,rgn 5,rgn 5,rgn 6,[0,1,2,3,4,6],[0,1,2,3,4,7]] [(1,.w (.c (.v (.pointer (some ⟨g,0,none⟩)))))]
  [14,15,16,17,13,18,19,20,3,4,5] [] 11 33 [] [] R1.out
  (fun b hM=>aA (aA (aA (aA (aA (aA (aA (aA (aA (aA (aA aL
    (aB b))
    (aB b))
    (aB b))
    (gJ b m0 (c_fb (ix:=[]) (ts:=[0,1,2,3]) hM (fun ν=>ajO (p:=(0,0,4611686018427387904,4607182418800017408,0,4607182418800017408)) PL.out.1 PL.out.2.1 PL.out.2.2.1 PL.out.2.2.2.1 PL.out.2.2.2.2))))
    (aB b))
    (aB b))
    (aB b))
    (aB b))
    (aB b))
    (aB b))
    (aB b)) ?_
 intro n1 n2 n3 n4 b5 ν W2 hR;have R2:=hdd hR;clear hR R1;simp only[putL,bgS,bgV,fs0,fs1,fsn,dSw,dSt,dWc,dWa,dv,di,dp,ds',bgT,bgU,nuTn,nuT0,nuT1,nuU0,nuU1]
 go_upto_region 7 with fail
 refine Spec.go [.w (.c (.sl 4 2)),.w (.c (.ptr 4 0)),iL g 0 1,.w (.c (.v (.pointer (some ⟨g,0,none⟩)))),iL g 5 6,.tup [.c (.v (.bool true)),.c (.v .nilIface)],.tup [.c (.v (.bool true)),.c (.v .nilIface)],.w (.c (.v (.bool true))),.w (.c (.v .nilIface)),.w (.c (.v (.bool true))),.w (.c (.v .nilIface))] [4,4]
  [(0,(gW (.leaf 4607182418800017408) (.leaf 0) (.leaf 4607182418800017408) 0 0 4611686018427387904)),(1,(gX (.leaf 4607182418800017408) (.leaf 0) (.leaf 4607182418800017408) 0 0 4611686018427387904)),(2,(gQ (.leaf 4607182418800017408) (.leaf 0) (.leaf 4607182418800017408) 0 0 4611686018427387904)),(3,(gT (.leaf 4607182418800017408) (.leaf 0) (.leaf 4607182418800017408) 0 0 4611686018427387904)),(5,(.leaf 4607182418800017408)),(6,(.leaf 13830554455654793216))] [⟨4,33,[.v (.pointer (some ⟨g,0,none⟩)),.id 0,.v (.pointer (some ⟨g,0,none⟩)),.id 1,.v (.pointer (some ⟨g,0,none⟩)),.id 2,.v (.pointer (some ⟨g,0,none⟩)),.id 3],none⟩]
  [0,0,0,0,2,2,0,0,0,0,0] [[],[0],[0,1],[],[3],rgn 5,rgn 6,rgn 7,rgn 7,rgn 8,[0,1,2,3,4,5,6,8]] [(2,.w (.c (.sl 4 2))),(1,.w (.c (.v (.pointer (some ⟨g,0,none⟩)))))]
  [32,33,34,35,36,37,31,38,39,6,7] [n1,n2,n3,n4,b5] 11 37 [] [] R2.out
  (fun b hM=>aA (aA (aA (aA (aA (aA (aA (aA (aA (aA (aA aL
    (aB b))
    (aB b))
    (aF b 4 m0))
    (aB b))
    (aJ b (c_at hM (by decide) (by decide) (by decide) (by decide) rfl rfl rfl rfl (by decide) rfl)))
    (aJ b (ajH hM m0 m1 rfl rfl m4 m5 rfl rfl rfl rfl rfl CM.out.2.1)))
    (aB b))
    (aB b))
    (aB b))
    (aB b))
    (aB b)) ?_
 intro n6 n7 ν W3 hR;have R3:=hdd hR;clear hR R2;simp only[putL,bgS,bgV,fs0,fs1,fsn,dSw,dSt,dWc,dWa,dv,di,dp,ds',bgT,bgU,nuTn,nuT0,nuT1,nuU0,nuU1]
 go_upto_region 8 with fail
 refine Spec.go [.w (.c (.sl 4 2)),.w (.c (.ptr 4 4)),iL g 2 3,.w (.c (.v (.pointer (some ⟨g,0,none⟩)))),iL g 5 6,.tup [.c (.v (.bool true)),.c (.v .nilIface)],.tup [.c (.v (.bool true)),.c (.v .nilIface)],.w (.c (.v (.bool true))),.w (.c (.v .nilIface)),.w (.c (.v (.bool true))),.w (.c (.v .nilIface))] [4,4]
  [(0,(gW (.leaf 4607182418800017408) (.leaf 0) (.leaf 4607182418800017408) 0 0 4611686018427387904)),(1,(gX (.leaf 4607182418800017408) (.leaf 0) (.leaf 4607182418800017408) 0 0 4611686018427387904)),(2,(gQ (.leaf 4607182418800017408) (.leaf 0) (.leaf 4607182418800017408) 0 0 4611686018427387904)),(3,(gT (.leaf 4607182418800017408) (.leaf 0) (.leaf 4607182418800017408) 0 0 4611686018427387904)),(5,(.leaf 4607182418800017408)),(6,(.leaf 4607182418800017408))] [⟨4,33,[.v (.pointer (some ⟨g,0,none⟩)),.id 0,.v (.pointer (some ⟨g,0,none⟩)),.id 1,.v (.pointer (some ⟨g,0,none⟩)),.id 2,.v (.pointer (some ⟨g,0,none⟩)),.id 3],none⟩]
  [0,0,0,0,2,2,0,0,0,0,0] [[],[0],[0,1],[],[3],rgn 5,rgn 6,rgn 7,rgn 7,rgn 8,[0,1,2,3,4,5,6,8]] [(2,.w (.c (.sl 4 2))),(1,.w (.c (.v (.pointer (some ⟨g,0,none⟩)))))]
  [41,42,43,44,45,46,40,47,48,8,9] [n1,n2,n3,n4,b5] 11 41 [true,true,true,true,false,false] [] R3.out
  (fun b hM=>aA (aA (aA (aA (aA (aA (aA (aA (aA (aA (aA aL
    (aB b))
    (aB b))
    (aF b 4 m0))
    (aB b))
    (aJ b (c_at hM (by decide) (by decide) (by decide) (by decide) rfl rfl rfl rfl (by decide) rfl)))
    (aJ b (ajH hM m2 m3 rfl rfl m4 m5 rfl rfl rfl rfl rfl CM.out.2.2)))
    (aB b))
    (aB b))
    (aB b))
    (aB b))
    (aB b)) ?_
 intro n8 n9 ν W4 hR;replace hR:Run (bs w) g 41 [((gW (.leaf 4607182418800017408) (.leaf 0) (.leaf 4607182418800017408) 0 0 4611686018427387904),n1),((gX (.leaf 4607182418800017408) (.leaf 0) (.leaf 4607182418800017408) 0 0 4611686018427387904),n2),((gQ (.leaf 4607182418800017408) (.leaf 0) (.leaf 4607182418800017408) 0 0 4611686018427387904),n3),((gT (.leaf 4607182418800017408) (.leaf 0) (.leaf 4607182418800017408) 0 0 4611686018427387904),n4),((.leaf 4607182418800017408),n8),((.leaf 4607182418800017408),n9)] [(b5,.cells #[.pointer (some ⟨g,0,none⟩),.int .i64 ((n1:Nat):Int),.pointer (some ⟨g,0,none⟩),.int .i64 ((n2:Nat):Int),.pointer (some ⟨g,0,none⟩),.int .i64 ((n3:Nat):Int),.pointer (some ⟨g,0,none⟩),.int .i64 ((n4:Nat):Int)] 33)] W4:=hR;have R4:=hdd hR;clear hR R3;simp only[putL,bgS,bgV,fs0,fs1,fsn,dSw,dSt,dWc,dWa,dv,di,dp,ds',bgT,bgU,nuTn,nuT0,nuT1,nuU0,nuU1];have HB:=hdd R4.out.below;clear R4 CM PL;go_wp2;go_ret;exact⟨rfl,HB.out⟩
end Go.Proofs.YtjaafolhfihegaaGreatDoor
namespace Go.Proofs.YtjaafolhfihegaaGreatDoor
open Go.RowKit Go.Maps
variable{k:Int}
section
variable{P:Program}{ρ:Operand->Value}{o:Oper}{t t2:TypeId}{x y:Operand}{a b v:Value}{w:World}
theorem wZ{op:BinOp}(ho:o.op=.binOp op t x y t2)(hx:ρ x=a)(hy:ρ y=b)(hg:eqGuard op t x y a b=pure ())(h:(binOp op t a b).run P w=.ok v w):(execOp ρ o).run P w=.ok (.value v) w:=by
 unfold execOp;rw[ho];simp only[hx,hy,hg];generalize binOp op t a b=q at h|-;simp[go_sem,h]
theorem rE(ho:o.op=.convert t t2 x)(hx:ρ x=a)(h:(convert t t2 a).run P w=.ok v w):(execOp ρ o).run P w=.ok (.value v) w:=by
 unfold execOp;rw[ho];simp only[hx];generalize convert t t2 a=q at h|-;simp[go_sem,h]
end
theorem nT(a:Int)(w:World):(convert 3 27 (.int .i64 a)).run Tryz.prog w=.ok (.float .f64 (fl a)) w:=by
 simp[go_sem];rfl
theorem acH{n d:Int}(k:Int)(hn:0<n/\n<1000000)(hd:0<=d/\d<1000000):∃K:Int,IntKind.i64.wrap (k.tmod n+n)=k.tmod n+n/\IntKind.i64.wrap (d+(k.tmod n+n).tmod n)=K/\d<=K/\K<d+n:=by
 have h1:=Int.lt_tmod_of_pos k hn.1;have h2:=Int.tmod_lt_of_pos k hn.1;have h3:0<=(k.tmod n+n).tmod n:=Int.tmod_nonneg _ (by omega);have h4:=Int.tmod_lt_of_pos (k.tmod n+n) hn.1;exact⟨_,IntWalk.i64_in _ (by omega),IntWalk.i64_in _ (by omega),by omega,by omega⟩
theorem rF{a b:Int}(h:IntKind.i64.wrap (a*b)=a*b)(w:World):(binOp .mul 3 (.int .i64 a) (.int .i64 b)).run Tryz.prog w=.ok (.int .i64 (a*b)) w:=by
 simp[go_sem,h]
theorem sH(h:k.natAbs<2^53):FlOk (fl k):=⟨(wY h).1,(wY h).2.1⟩
theorem sI(h:k.natAbs<2^53)(h0:0<=k):0<=fv (fl k):=by
 rw[(wY h).2.2];exact Int.mul_nonneg h0 (Int.natCast_nonneg _)
end Go.Proofs.YtjaafolhfihegaaGreatDoor
namespace Go.Proofs.YtjaafolhfihegaaGreatDoor
open Go.RowKit Go.Maps Go.Stop Go.Extern
open Go.IntWalk renaming i64_in->bgW
open Int renaming mul_le_mul->bgY,mul_nonneg->bgZ,tmod_lt_of_pos->bg0,tmod_nonneg->bg3,zero_mul->bg4
open List renaming setIfInBounds_toArray->bgX,map_cons->bg1,map_nil->bg2,set->bg5
variable{k r x:Int}
theorem ag3{n:Int}(k:Int)(hn:0<n/\n<1000000):∃K:Int,IntKind.i64.wrap (k.tmod n+n)=k.tmod n+n/\(k.tmod n+n).tmod n=K/\0<=K/\K<n:=by
 have h1:=Int.lt_tmod_of_pos k hn.1;have h2:=bg0 k hn.1;exact⟨_,bgW _ (by omega),rfl,bg3 _ (by omega),bg0 _ hn.1⟩
theorem akV(h:0<=k):∃s:Int,IntKind.i64.wrap (1+k.tmod 20)=s/\1<=s/\s<=20:=by
 have h1:=bg3 20 h;have h2:=bg0 k (show(0:Int)<20 by omega);exact⟨_,bgW _ (by omega),by omega,by omega⟩
theorem ae0(v:Int):v.sign=-1\/v.sign=0\/v.sign=1/\(1:Int)=1:=by
 rcases Int.lt_trichotomy v 0 with h|h|h
 . exact Or.inl (sgn' h)
 . exact Or.inr (Or.inl (sgz h))
 . exact Or.inr (Or.inr ⟨sgp h,rfl⟩)
theorem akW(h:k.natAbs<2^53)(h0:0<k):fv 0<fv (fl k):=by
 rw[yN,(wY h).2.2,bg4];exact Int.mul_pos h0 rD
theorem aoG{b:Nat}(hb:FlOk b)(h:fv 0<fv b):(FloatKind.f64.format.order 0 b==some Ordering.eq)=false:=by
 rw[lC kJ.2.num hb.2.num];exact decide_eq_false fun e=>by have:=vS.2 h;omega
theorem akX(hr:1<=r/\r<=20)(hk:0<=k/\k<50):∃m:Int,(∀g,FnOk 46 g 33 #[.pointer (some ⟨g,0,none⟩),curV 2 0 0 (fl (r*r)),curV 1 w3 w4 (fl (5*k))] [] (fun _=>.tuple #[.int .i64 m,.bool false,.nilIface]) [])/\(decide (k<r)=true/\True/\m=2\/decide (k<r)=false/\(k==r)=true/\m=1\/decide (k<r)=false/\(k==r)=false/\m=0):=by
 have h:=bgY hr.2 hr.2 (by omega) (by omega);have h':=bgZ (show 0<=r by omega) (show 0<=r by omega);have f3:FlOk w3:=⟨by decide,by decide⟩;have f4:FlOk w4:=⟨by decide,by decide⟩;have p3:fv 0<fv w3:=by rw[am9,yN];have:=rD;omega
 have p4:fv 0<fv w4:=by rw[anA,yN];have:=rD;omega
 refine⟨1+(r-k).sign,fun g=>al6 (p:=(0,0,fl (r*r),w3,w4,fl (5*k))) ⟨kJ,kJ,sH (by omega),sI (by omega) h'⟩ ⟨f3,f4,sH (by omega),Or.inl ?_⟩ (fun _=>qM f3 kJ p3) (fun _=>qM f4 kJ p4) ?_ (ae0 _),ag1 rfl rfl⟩
 . rw[yN,bg4]at p3;show fv w3≠0;omega
 . rw[<-aoF (by omega) hk.1];exact akS hr hk
theorem akY{s:Int}(hr:1<=r/\r<=20)(hs:1<=s/\s<=20)(hx:1<=x/\x<=40):∃m q:Int,(∀g,FnOk 46 g 54 #[.pointer (some ⟨g,0,none⟩),curV 2 0 0 (fl (r*r)),curV 2 (fl (3*x)) (fl (4*x)) (fl (s*s))] [] (fun _=>.tuple #[.int .i64 m,.bool false,.nilIface]) [])/\(CB r s (5*x) q true true true false false false m 2\/CB r s (5*x) q false true true true false false m 1\/CB r s (5*x) q true false true false true false m 1\/CB r s (5*x) q true true false false false true m 1\/CB r s (5*x) q false true true false false false m 0\/CB r s (5*x) q true false true false false false m 0\/CB r s (5*x) q true true false false false false m 0):=by
 have h:=bgY hr.2 hr.2 (by omega) (by omega);have h':=bgZ (show 0<=r by omega) (show 0<=r by omega);have g:=bgY hs.2 hs.2 (by omega) (by omega);have g':=bgZ (show 0<=s by omega) (show 0<=s by omega);have fx:FlOk (fl (3*x)):=sH (by omega);have fy:FlOk (fl (4*x)):=sH (by omega);have px:=akW (k:=3*x) (by omega) (by omega);have py:=akW (k:=4*x) (by omega) (by omega);exact⟨_,_,fun g=>al7 (p:=(0,0,fl (r*r),fl (3*x),fl (4*x),fl (s*s))) ⟨kJ,kJ,sH (by omega),sI (by omega) h'⟩ ⟨fx,fy,sH (by omega),sI (by omega) g'⟩ (aoG fx px) (fun _=>qM fx kJ px) (fun _=>qM fy kJ py) (akT hr hs hx) (ae0 _),ag0 hr.1 hs.1 (by omega) (akU hr.1 hs.1 (by omega)).symm rfl⟩
theorem tN{w:World}(hT:Tab w)(htb:1<w.heap.size):
 Calls Tryz.prog 10 #[.int .i64 r,.int .i64 k,.int .i64 x] w (RetV w (.bool true)):=by
 have HA:=hdd (amV hT htb);have HT:=hdd (And.intro hT htb);obtain⟨r0,rw1,rw2,r1,r2⟩:=acH (n:=20) (d:=1) r (by omega) (by omega);obtain⟨k0,kw1,kw2,k1,k2⟩:=ag3 (n:=50) k (by omega);obtain⟨x0,xw1,xw2,x1,x2⟩:=acH (n:=40) (d:=1) x (by omega) (by omega);obtain⟨s0,sw,s1,s2⟩:=akV k1;obtain⟨p,g1,g2,g3,g4⟩:∃p:Int×Int×Int×Int,r0=p.1/\k0=p.2.1/\x0=p.2.2.1/\s0=p.2.2.2:=⟨(r0,k0,x0,s0),rfl,rfl,rfl,rfl⟩;subst g1 g2 g3 g4;have MM:Hid ((∀w,(binOp .mul 3 (.int .i64 p.1) (.int .i64 p.1)).run Tryz.prog w=.ok (.int .i64 (p.1*p.1)) w)/\(∀w,(binOp .mul 3 (.int .i64 5) (.int .i64 p.2.1)).run Tryz.prog w=.ok (.int .i64 (5*p.2.1)) w)/\(∀w,(binOp .mul 3 (.int .i64 3) (.int .i64 p.2.2.1)).run Tryz.prog w=.ok (.int .i64 (3*p.2.2.1)) w)/\(∀w,(binOp .mul 3 (.int .i64 4) (.int .i64 p.2.2.1)).run Tryz.prog w=.ok (.int .i64 (4*p.2.2.1)) w)/\(∀w,(binOp .mul 3 (.int .i64 p.2.2.2) (.int .i64 p.2.2.2)).run Tryz.prog w=.ok (.int .i64 (p.2.2.2*p.2.2.2)) w)):=by
  have h:=bgY (show p.1<=20 by omega) (show p.1<=20 by omega) (by omega) (by omega);have h':=bgZ (show 0<=p.1 by omega) (show 0<=p.1 by omega);have g:=bgY s2 s2 (by omega) (by omega);have g':=bgZ (show 0<=p.2.2.2 by omega) (show 0<=p.2.2.2 by omega);exact hdd ⟨rF (bgW _ (by omega)),rF (bgW _ (by omega)),rF (bgW _ (by omega)),rF (bgW _ (by omega)),rF (bgW _ (by omega))⟩
 obtain⟨m1,hm1,hc1⟩:=akX (r:=p.1) (k:=p.2.1) (by omega) (by omega);obtain⟨m2,q,hm2,hc2⟩:=akY (r:=p.1) (s:=p.2.2.2) (x:=p.2.2.1) (by omega) (by omega) (by omega);have HM1:=hdd hm1;have HM2:=hdd hm2;have HC1:=hdd hc1;have HC2:=hdd hc2;have WW:Hid (IntKind.i64.wrap (5*p.2.2.1)=5*p.2.2.1/\IntKind.i64.wrap (p.1+p.2.2.2)=p.1+p.2.2.2/\IntKind.i64.wrap (p.1-p.2.2.2)=p.1-p.2.2.2/\IntKind.i64.wrap (p.2.2.2-p.1)=p.2.2.2-p.1):=hdd ⟨bgW _ (by omega),bgW _ (by omega),bgW _ (by omega),bgW _ (by omega)⟩;clear hT htb hm1 hm2 hc1 hc2 r1 r2 k1 k2 x1 x2 s1 s2;have hst:=aX;go_enter Tryz.func10,Tryz.ntmps10
 go_wp2_with fail
 refine HA.out.mono ?_;rintro e w3⟨rfl,hb3⟩;have HN:=hdd (aeD (w0:=w) (l:=[]) hb3 (fun p hp=>by cases hp) (by simp) HT.out.1 HT.out.2);clear hb3 HA;go_wp2_with fail
 refine HN.out.mono ?_;rintro e W1⟨g,rfl,hR⟩;have R1:=hdd hR;clear hR HN HT hst rw1 rw2 kw1 kw2 xw1 xw2;dsimp only
 go_upto_region 7 with fail
 refine Spec.go [.w (.c (.v (.int .i64 p.1))),.w (.c (.v (.int .i64 p.1))),.w (.c (.v (.int .i64 (p.1*p.1)))),.w (.c (.v (.float .f64 (fl (p.1*p.1))))),.w (.agg ([.v (Value.int IntKind.i64 2),.v (.float .f64 0),.v (.float .f64 0),.v (.float .f64 (fl (p.1*p.1)))])),.w (.c (.ptr 0 0)),noS] [5]
  [] [⟨0,29,[.v (.int .i64 0),.v (.float .f64 0),.v (.float .f64 0),.v (.float .f64 0)],some (6,[.v (Value.int IntKind.i64 2),.v (.float .f64 0),.v (.float .f64 0),.v (.float .f64 (fl (p.1*p.1)))])⟩]
  [0,0,0,0,0,0,0] [[],[],[0,1],[0,1,2],rgn 4,[],rgn 6] [(0,.w (.c (.v (.int .i64 p.1))))]
  [39,40,41,42,43,9,0] [] 7 0 [] [] R1.out
  (fun b hM=>aA (aA (aA (aA (aA (aA (aA aL
    (aB b))
    (aB b))
    (aB b (hv:=fun ν w=>wZ rfl rfl rfl rfl (MM.out.1 w))))
    (aB b (hv:=fun ν w=>rE rfl rfl (nT (p.1*p.1) w))))
    (aB b))
    (aR b m0))
    (bZ b 4 m0)) ?_
 intro b1 ν W2 hR;have R2:=hdd hR;clear hR R1;simp only[putL,bgX,bg5,fs0,fs1,fsn,dSw,dSt,dWc,dWa,dv,di,dp,ds',bg1,bg2,nuTn,nuT0,nuT1,nuU0,nuU1]
 go_upto_region 8 with fail
 refine Spec.go [.w (.c (.v (.pointer (some ⟨g,0,none⟩)))),.w (.agg ([.v (Value.int IntKind.i64 2),.v (.float .f64 0),.v (.float .f64 0),.v (.float .f64 (fl (p.1*p.1)))])),.w (.c (.v (.int .i64 p.2.1))),.w (.c (.v (.int .i64 (5*p.2.1)))),.w (.c (.v (.float .f64 (fl (5*p.2.1))))),.w (.agg ([.v (Value.int IntKind.i64 1),.v (Value.float FloatKind.f64 4613937818241073152),.v (Value.float FloatKind.f64 4616189618054758400),.v (.float .f64 (fl (5*p.2.1)))])),.tup [.c (.v (.int .i64 m1)),.c (.v (.bool false)),.c (.v .nilIface)],.tup [.c (.v (.int .i64 m1)),.c (.v (.bool false)),.c (.v .nilIface)],.w (.c (.v (.int .i64 m1))),.w (.c (.v (.bool false))),.w (.c (.v .nilIface)),.w (.c (.v (.int .i64 m1))),.w (.c (.v (.bool false))),.w (.c (.v .nilIface))] []
  [] [⟨0,29,[.v (Value.int IntKind.i64 2),.v (.float .f64 0),.v (.float .f64 0),.v (.float .f64 (fl (p.1*p.1)))],none⟩]
  [0,0,0,0,0,0,33,0,0,0,0,0,0,0] [[],[],[],[2],[2,3],[2,3,4],rgn 6,rgn 7,rgn 8,rgn 8,rgn 8,rgn 9,[0,1,2,3,4,5,6,7,9],[0,1,2,3,4,5,6,7,10]] [(7,.w (.c (.v (.pointer (some ⟨g,0,none⟩))))),(8,.w (.c (.ptr 0 0))),(1,.w (.c (.v (.int .i64 p.2.1))))]
  [45,46,47,48,49,50,51,44,52,53,54,10,11,12] [b1] 14 33 [] [] R2.out
  (fun b hM=>aA (aA (aA (aA (aA (aA (aA (aA (aA (aA (aA (aA (aA (aA aL
    (aB b))
    (aF b 4 m0))
    (aB b))
    (aB b (hv:=fun ν w=>wZ rfl rfl rfl rfl (MM.out.2.1 w))))
    (aB b (hv:=fun ν w=>rE rfl rfl (nT (5*p.2.1) w))))
    (aB b))
    (aJ b (c_fn (ix:=[]) (ts:=[]) hM (fun ν=>HM1.out g))))
    (aB b))
    (aB b))
    (aB b))
    (aB b))
    (aB b))
    (aB b))
    (aB b)) ?_
 intro ν W3 hR;have R3:=hdd hR;clear hR R2;simp only[putL,bgX,bg5,fs0,fs1,fsn,dSw,dSt,dWc,dWa,dv,di,dp,ds',bg1,bg2,nuTn,nuT0,nuT1,nuU0,nuU1];obtain hc1:=HC1.out;clear HC1;rcases hc1 with ⟨a1,a2,rfl⟩|⟨a1,a2,rfl⟩|⟨a1,a2,rfl⟩<;>
 (go_upto_region 15 with fail
  clear a1 a2 sw;refine Spec.go [.w (.c (.v (.pointer (some ⟨g,0,none⟩)))),.w (.agg ([.v (Value.int IntKind.i64 2),.v (.float .f64 0),.v (.float .f64 0),.v (.float .f64 (fl (p.1*p.1)))])),.w (.c (.v (.int .i64 p.2.2.1))),.w (.c (.v (.int .i64 (3*p.2.2.1)))),.w (.c (.v (.float .f64 (fl (3*p.2.2.1))))),.w (.c (.v (.int .i64 p.2.2.1))),.w (.c (.v (.int .i64 (4*p.2.2.1)))),.w (.c (.v (.float .f64 (fl (4*p.2.2.1))))),.w (.c (.v (.int .i64 p.2.2.2))),.w (.c (.v (.int .i64 p.2.2.2))),.w (.c (.v (.int .i64 (p.2.2.2*p.2.2.2)))),.w (.c (.v (.float .f64 (fl (p.2.2.2*p.2.2.2))))),.w (.agg ([.v (Value.int IntKind.i64 2),.v (.float .f64 (fl (3*p.2.2.1))),.v (.float .f64 (fl (4*p.2.2.1))),.v (.float .f64 (fl (p.2.2.2*p.2.2.2)))])),.tup [.c (.v (.int .i64 m2)),.c (.v (.bool false)),.c (.v .nilIface)],.tup [.c (.v (.int .i64 m2)),.c (.v (.bool false)),.c (.v .nilIface)],.w (.c (.v (.int .i64 m2))),.w (.c (.v (.bool false))),.w (.c (.v .nilIface)),.w (.c (.v (.int .i64 m2))),.w (.c (.v (.bool false))),.w (.c (.v .nilIface))] []
   [] [⟨0,29,[.v (Value.int IntKind.i64 2),.v (.float .f64 0),.v (.float .f64 0),.v (.float .f64 (fl (p.1*p.1)))],none⟩]
   [0,0,0,0,0,0,0,0,0,0,0,0,0,54,0,0,0,0,0,0,0] [[],[],[],[2],[2,3],[],[5],[5,6],[],[],[8,9],[8,9,10],[2,3,4,5,6,7,8,9,10,11],rgn 13,rgn 14,rgn 15,rgn 15,rgn 15,rgn 16,[0,1,2,3,4,5,6,7,8,9,10,11,12,13,14,16],[0,1,2,3,4,5,6,7,8,9,10,11,12,13,14,17]] [(7,.w (.c (.v (.pointer (some ⟨g,0,none⟩))))),(8,.w (.c (.ptr 0 0))),(2,.w (.c (.v (.int .i64 p.2.2.1)))),(13,.w (.c (.v (.int .i64 p.2.2.2))))]
   [65,66,67,68,69,70,71,72,73,74,75,76,77,78,64,79,80,81,15,16,17] [b1] 21 87 [] [] R3.out
   (fun b hM=>aA (aA (aA (aA (aA (aA (aA (aA (aA (aA (aA (aA (aA (aA (aA (aA (aA (aA (aA (aA (aA aL
     (aB b))
     (aF b 4 m0))
     (aB b))
     (aB b (hv:=fun ν w=>wZ rfl rfl rfl rfl (MM.out.2.2.1 w))))
     (aB b (hv:=fun ν w=>rE rfl rfl (nT (3*p.2.2.1) w))))
     (aB b))
     (aB b (hv:=fun ν w=>wZ rfl rfl rfl rfl (MM.out.2.2.2.1 w))))
     (aB b (hv:=fun ν w=>rE rfl rfl (nT (4*p.2.2.1) w))))
     (aB b))
     (aB b))
     (aB b (hv:=fun ν w=>wZ rfl rfl rfl rfl (MM.out.2.2.2.2 w))))
     (aB b (hv:=fun ν w=>rE rfl rfl (nT (p.2.2.2*p.2.2.2) w))))
     (aB b))
     (aJ b (c_fn (ix:=[]) (ts:=[]) hM (fun ν=>HM2.out g))))
     (aB b))
     (aB b))
     (aB b))
     (aB b))
     (aB b))
     (aB b))
     (aB b)) ?_
  intro ν W4 hR;replace hR:Run (bs w) g 87 [] [(b1,.cells #[(Value.int IntKind.i64 2),.float .f64 0,.float .f64 0,(.float .f64 (fl (p.1*p.1)))] 29)] W4:=hR;have R4:=hdd hR;clear hR R3;simp only[putL,bgX,bg5,fs0,fs1,fsn,dSw,dSt,dWc,dWa,dv,di,dp,ds',bg1,bg2,nuTn,nuT0,nuT1,nuU0,nuU1];have HB:=hdd R4.out.below;clear R4 MM HM1 HM2;obtain⟨v1,v2,v3,v4⟩:=WW.out;clear WW;rcases HC2.out with ⟨-,c1,c2,c3,c4,c5,c6,rfl⟩|⟨-,c1,c2,c3,c4,c5,c6,rfl⟩|⟨-,c1,c2,c3,c4,c5,c6,rfl⟩|⟨-,c1,c2,c3,c4,c5,c6,rfl⟩|⟨-,c1,c2,c3,c4,c5,c6,rfl⟩|⟨-,c1,c2,c3,c4,c5,c6,rfl⟩|⟨-,c1,c2,c3,c4,c5,c6,rfl⟩<;>
   (clear HC2;go_wp2;go_ret;exact⟨rfl,HB.out⟩))
end Go.Proofs.YtjaafolhfihegaaGreatDoor
