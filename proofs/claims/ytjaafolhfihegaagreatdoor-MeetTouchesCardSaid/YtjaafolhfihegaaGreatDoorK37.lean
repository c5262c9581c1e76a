/- A part of the proof: contracts of functions and plain laws (QlN). -/
import Derived.Test.YtjaafolhfihegaaGreatDoorK36
set_option linter.unusedVariables false
set_option linter.unusedSimpArgs false
set_option maxHeartbeats 25600000
set_option maxRecDepth 100000
namespace Go.Proofs.YtjaafolhfihegaaGreatDoor
open Go.RowKit Go.Maps
open Re (rat ofI ofN)
open Int renaming mul_ne_zero->bhC
variable{m:Nat}{K:Rat}
theorem nab{x y:Int}{n:Nat}(h:x.natAbs<=m)(g:y.natAbs<=n):(x*y).natAbs<=m*n:=by rw[Int.natAbs_mul];exact Nat.mul_le_mul h g
theorem nadd{x y:Int}{n:Nat}(h:x.natAbs<=m)(g:y.natAbs<=n):(x+y).natAbs<=m+n:=Nat.le_trans (Int.natAbs_add_le x y) (Nat.add_le_add h g)
theorem nlt{x:Int}{n:Nat}(h:x.natAbs<=m)(k:m<2^n:=by decide):x.natAbs<2^n:=Nat.lt_of_le_of_lt h k
theorem rne{q:Rat}{z:Int}(h:q=(z:Rat))(hz:z≠0):q≠0:=by
 rw[h];intro e;exact hz (Rat.intCast_inj.1 (by rw[e];rfl))
section
variable{u v w a b c se sn:Sh}{U V W:Ex}{A B C:Nat}{p q r x y e n z:Rat}
theorem Fit.mkN (h1:Fit [] u U (rat p))(h2:Fit [] v V (rat q)):Fit [] (.add (.mul u u) (.mul v v)) (cutN U V) (rat (p*p+q*q)):=(h1.rmul h1).radd (h2.rmul h2)
theorem Fit.mkE (h1:Fit [] u U (rat p))(h2:Fit [] v V (rat q))(h3:Fit [] w W (rat r))(h4:Fit [] a (.leaf A) (rat x))(h5:Fit [] b (.leaf B) (rat y)):Fit [] (.add (.add w (.mul u a)) (.mul v b)) (cutE U V W A B) (rat ((r-p*x)-q*y)):=(h3.rsub (h1.rmul h4)).rsub (h2.rmul h5)
theorem Fit.mkF (he:Fit [] se (cutE U V W A B) (rat e))(hn:Fit [] sn (cutN U V) (rat n))(hc:Fit [] c (.leaf C) (rat z)):Fit [] (.add (.mul c sn) (.mul se se)) (_root_.Go.Proofs.YtjaafolhfihegaaGreatDoor.cutF U V W A B C) (rat (z*n-e*e)):=(hc.rmul hn).rsub (he.rmul he)
theorem Fit.mkX (h1:Fit [] u U (rat p))(he:Fit [] se (cutE U V W A B) (rat e))(hn:Fit [] sn (cutN U V) (rat n))(h4:Fit [] a (.leaf A) (rat x))(h0:n≠0)(hz:z*n=p*e):Fit [] (.add a (.div (.mul u se) sn)) (cutX U V W A B) (rat (x+z)):=h4.radd (Fit.rdiv Lok.nil (h1.rmul he) hn h0 hz)
theorem Fit.mkY (h2:Fit [] v V (rat q))(he:Fit [] se (cutE U V W A B) (rat e))(hn:Fit [] sn (cutN U V) (rat n))(h5:Fit [] b (.leaf B) (rat y))(h0:n≠0)(hz:z*n=q*e):Fit [] (.add b (.div (.mul v se) sn)) (cutY U V W A B) (rat (y+z)):=h5.radd (Fit.rdiv Lok.nil (h2.rmul he) hn h0 hz)
end
abbrev cU:Ct:=⟨13,65520,11,0,2203⟩
abbrev cW:Ct:=⟨23,65511,19,0,2207⟩
abbrev cN:Ct:=⟨29,65503,23,0,4409⟩
abbrev cX:Ct:=⟨68,65410,33,23,75463⟩
abbrev cL:Ct:=⟨40,65464,21,13,71051⟩
section
variable(a b u v s:Rat)
theorem tI1:(u*u+v*v)*(u*u+v*v)-((u*(a+u)+v*(b+v)-u*a)-v*b)*((u*(a+u)+v*(b+v)-u*a)-v*b)=0:=by grind
theorem tI2:u*(u*u+v*v)=u*((u*(a+u)+v*(b+v)-u*a)-v*b):=by grind
theorem tI3:v*(u*u+v*v)=v*((u*(a+u)+v*(b+v)-u*a)-v*b):=by grind
theorem tU:2*(a+s*u-a)=2*s*u:=by grind
theorem tV:2*(a-(a+(1-s)*u))=2*(s-1)*u:=by grind
theorem tE{p q r:Rat}(hp:p=2*s*u)(hq:q=2*s*v)(hr:r=(a+s*u)*(a+s*u)+(b+s*v)*(b+s*v)-(u*u+v*v)*(s-1)*(s-1)-(a*a+b*b-(u*u+v*v))):p*p+q*q=4*s*s*(u*u+v*v)/\(r-p*a)-q*b=2*s*(u*u+v*v):=by
 subst hp hq hr;constructor<;>grind
theorem tF{p q r:Rat}(hp:p=2*(s-1)*u)(hq:q=2*(s-1)*v)(hr:r=a*a+b*b-(u*u+v*v)-((a+(1-s)*u)*(a+(1-s)*u)+(b+(1-s)*v)*(b+(1-s)*v)-(u*u+v*v)*s*s)):p*p+q*q=4*(s-1)*(s-1)*(u*u+v*v)/\(r-p*(a+(1-s)*u))-q*(b+(1-s)*v)=2*s*(s-1)*(u*u+v*v):=by
 subst hp hq hr;constructor<;>grind
end
theorem tG{n e p s u:Rat}(hn:n=4*s*s*K)(he:e=2*s*K)(hp:p=2*s*u):u*n=p*e:=by subst hn he hp;grind
theorem tH{n e p s u:Rat}(hn:n=4*(s-1)*(s-1)*K)(he:e=2*s*(s-1)*K)(hp:p=2*(s-1)*u):(s*u)*n=p*e:=by subst hn he hp;grind
theorem tM{n e s:Rat}(hn:n=4*s*s*K)(he:e=2*s*K):K*n-e*e=0:=by subst hn he;grind
theorem tN{n e s:Rat}(hn:n=4*(s-1)*(s-1)*K)(he:e=2*s*(s-1)*K):(K*s*s)*n-e*e=0:=by subst hn he;grind
theorem tZ{x y:Rat}(h:x=y):x-y=0:=by rw[h];grind
theorem tA(a s u:Rat):a+(1-s)*u+s*u=a+u:=by grind
theorem alM{a b u v s K:Int}{A B U V CC LW PA PB OA OB OC IA IB IC:Nat}(hA:Iw A a)(hB:Iw B b)(hU:Iw U u)(hV:Iw V v)(hC:Iw CC K)(hLW:Iw LW (u*(a+u)+v*(b+v)))(hPA:Iw PA (a+u))(hPB:Iw PB (b+v))(hOA:Iw OA (a+s*u))(hOB:Iw OB (b+s*v))(hOC:Iw OC (K*(s-1)*(s-1)))(hIA:Iw IA (a+(1-s)*u))(hIB:Iw IB (b+(1-s)*v))(hIC:Iw IC (K*s*s))
 (hK:K=u*u+v*v) (k0:0<K) (k1:K<=2025) (ba:a.natAbs<=19) (bb:b.natAbs<=19) (bu:u.natAbs<=36) (bv:v.natAbs<=36) (s1:2<=s) (s2:s<=4):
 dY PT (cutF (.leaf U) (.leaf V) (.leaf LW) A B CC) 0/\oI PT (cutX (.leaf U) (.leaf V) (.leaf LW) A B) (cutY (.leaf U) (.leaf V) (.leaf LW) A B) (.leaf PA) (.leaf PB) 0/\
 dY PT (cutF (axU A OA) (axU B OB) (axW A B CC OA OB OC) A B CC) 0/\dY PT (cutF (axU IA A) (axU IB B) (axW IA IB IC A B CC) IA IB IC) 0/\
 oI PT (cutX (axU A OA) (axU B OB) (axW A B CC OA OB OC) A B) (cutY (axU A OA) (axU B OB) (axW A B CC OA OB OC) A B) (cutX (.leaf U) (.leaf V) (.leaf LW) A B) (cutY (.leaf U) (.leaf V) (.leaf LW) A B) 0/\
 oI PT (cutX (axU IA A) (axU IB B) (axW IA IB IC A B CC) IA IB) (cutY (axU IA A) (axU IB B) (axW IA IB IC A B CC) IA IB) (cutX (.leaf U) (.leaf V) (.leaf LW) A B) (cutY (.leaf U) (.leaf V) (.leaf LW) A B) 0:=by
 have bs:s.natAbs<=4:=by clear ba bb bu bv;omega
 have bs1:(s-1).natAbs<=3:=by clear ba bb bu bv bs;omega
 have bs2:(1-s).natAbs<=3:=by clear ba bb bu bv bs bs1;omega
 have bK:K.natAbs<=2025:=by clear ba bb bu bv bs bs1 bs2;omega
 have fA:=hA.fit (L:=[]) 5 (nlt ba) (by decide);have fB:=hB.fit (L:=[]) 5 (nlt bb) (by decide);have fU:=hU.fit (L:=[]) 6 (nlt bu) (by decide);have fV:=hV.fit (L:=[]) 6 (nlt bv) (by decide);have fC:=hC.fit (L:=[]) 11 (nlt bK) (by decide);have fW:=hLW.fit (L:=[]) 12 (nlt (nadd (nab bu (nadd ba bu)) (nab bv (nadd bb bv)))) (by decide);have fP:=hPA.fit (L:=[]) 6 (nlt (nadd ba bu)) (by decide);have fQ:=hPB.fit (L:=[]) 6 (nlt (nadd bb bv)) (by decide);have fOA:=hOA.fit (L:=[]) 8 (nlt (nadd ba (nab bs bu))) (by decide);have fOB:=hOB.fit (L:=[]) 8 (nlt (nadd bb (nab bs bv))) (by decide);have fOC:=hOC.fit (L:=[]) 15 (nlt (nab (nab bK bs1) bs1)) (by decide);have fIA:=hIA.fit (L:=[]) 8 (nlt (nadd ba (nab bs2 bu))) (by decide);have fIB:=hIB.fit (L:=[]) 8 (nlt (nadd bb (nab bs2 bv))) (by decide);have fIC:=hIC.fit (L:=[]) 15 (nlt (nab (nab bK bs) bs)) (by decide);clear ba bb bu bv bs bs1 bs2 bK;have kr:(K:Rat)=u*u+v*v:=by rw[hK];push_cast;rfl
 have hk:(4*s*s*K:Int)≠0:=bhC (bhC (by omega) (by omega)) (by omega);have hk2:(4*(s-1)*(s-1)*K:Int)≠0:=bhC (bhC (by omega) (by omega)) (by omega);have h0:K≠0:=by omega
 clear hA hB hU hV hC hLW hPA hPB hOA hOB hOC hIA hIB hIC hK k0 k1 s1 s2
 push_cast [kr]at fW fP fQ fOA fOB fOC fIA fIB fIC fC
 have n0:=rne (z:=K) kr.symm h0;have n1:=rne (q:=4*(s:Rat)*s*(u*u+v*v)) (z:=4*s*s*K) (by rw[<-kr];push_cast;rfl) hk;have n2:=rne (q:=4*((s:Rat)-1)*(s-1)*(u*u+v*v)) (z:=4*(s-1)*(s-1)*K) (by rw[<-kr];push_cast;rfl) hk2;clear kr hk hk2 h0;generalize (a:Rat)=a at*;generalize (b:Rat)=b at*;generalize (u:Rat)=u at*;generalize (v:Rat)=v at*;generalize (s:Rat)=s at*;have oU:=Fit.flat cU 16 (alC.rmul (fOA.rsub fA)) (by kernel_rfl) (by kernel_rfl) (by kernel_rfl);have oV:=Fit.flat cU 16 (alC.rmul (fOB.rsub fB)) (by kernel_rfl) (by kernel_rfl) (by kernel_rfl);have rc:=((fA.rmul fA).radd (fB.rmul fB)).rsub fC;have oW:=Fit.flat cW 83 ((((fOA.rmul fOA).radd (fOB.rmul fOB)).rsub fOC).rsub rc) (by kernel_rfl) (by kernel_rfl) (by kernel_rfl);have iU:=Fit.flat cU 16 (alC.rmul (fA.rsub fIA)) (by kernel_rfl) (by kernel_rfl) (by kernel_rfl);have iV:=Fit.flat cU 16 (alC.rmul (fB.rsub fIB)) (by kernel_rfl) (by kernel_rfl) (by kernel_rfl);have iW:=Fit.flat cW 83 (rc.rsub (((fIA.rmul fIA).radd (fIB.rmul fIB)).rsub fIC)) (by kernel_rfl) (by kernel_rfl) (by kernel_rfl)
 have lN:=Fit.flat ⟨15,65519,13,0,2203⟩ 25 (fU.mkN fV) (by kernel_rfl) (by kernel_rfl) (by kernel_rfl);have lE:=Fit.flat ⟨16,65518,14,0,2205⟩ 36 (fU.mkE fV fW fA fB) (by kernel_rfl) (by kernel_rfl) (by kernel_rfl);have oN:=Fit.flat cN 65 (oU.mkN oV) (by kernel_rfl) (by kernel_rfl) (by kernel_rfl);have oE:=Fit.flat ⟨27,65507,21,0,3308⟩ 127 (oU.mkE oV oW fA fB) (by kernel_rfl) (by kernel_rfl) (by kernel_rfl);have iN:=Fit.flat cN 65 (iU.mkN iV) (by kernel_rfl) (by kernel_rfl) (by kernel_rfl);have iE:=Fit.flat ⟨27,65506,21,0,3308⟩ 133 (iU.mkE iV iW fIA fIB) (by kernel_rfl) (by kernel_rfl) (by kernel_rfl);obtain⟨e1,e2⟩:=tE a b u v s (tU a u s) (tU b v s) rfl;obtain⟨g1,g2⟩:=tF a b u v s (tV a u s) (tV b v s) rfl;have l1:=Fit.flat cL 73 (fU.mkX lE lN fA n0 (tI2 a b u v)) (by kernel_rfl) (by kernel_rfl) (by kernel_rfl);have l2:=Fit.flat cL 73 (fV.mkY lE lN fB n0 (tI3 a b u v)) (by kernel_rfl) (by kernel_rfl) (by kernel_rfl);have o1:=Fit.flat cX 214 (oU.mkX oE oN fA (by rw[e1];exact n1) (tG e1 e2 (tU a u s))) (by kernel_rfl) (by kernel_rfl) (by kernel_rfl);have o2:=Fit.flat cX 214 (oV.mkY oE oN fB (by rw[e1];exact n1) (tG e1 e2 (tU b v s))) (by kernel_rfl) (by kernel_rfl) (by kernel_rfl)
 have i1:=Fit.flat cX 223 (iU.mkX iE iN fIA (by rw[g1];exact n2) (tH g1 g2 (tV a u s))) (by kernel_rfl) (by kernel_rfl) (by kernel_rfl);have i2:=Fit.flat cX 223 (iV.mkY iE iN fIB (by rw[g1];exact n2) (tH g1 g2 (tV b v s))) (by kernel_rfl) (by kernel_rfl) (by kernel_rfl);refine⟨(lE.mkF lN fC).zero (tI1 a b u v) (by kernel_rfl),⟨0,0,trivial,(l1.rsub fP).zero (tZ rfl) (by kernel_rfl),fun _=>⟨trivial,(l2.rsub fQ).zero (tZ rfl) (by kernel_rfl)⟩,rfl⟩,(oE.mkF oN fC).zero (tM e1 e2) (by kernel_rfl),(iE.mkF iN fIC).zero (tN g1 g2) (by kernel_rfl),⟨0,0,trivial,(o1.rsub l1).zero (tZ rfl) (by kernel_rfl),fun _=>⟨trivial,(o2.rsub l2).zero (tZ rfl) (by kernel_rfl)⟩,rfl⟩,0,0,trivial,(i1.rsub l1).zero (tZ (tA a s u)) (by kernel_rfl),fun _=>⟨trivial,(i2.rsub l2).zero (tZ (tA b s v)) (by kernel_rfl)⟩,rfl⟩
end Go.Proofs.YtjaafolhfihegaaGreatDoor
