/- A part of the proof: contracts of functions and plain laws (OpA, TwD, MtC, MtS, QlM, AlvE, FeC, QlN, MwA, MoA). -/
import Derived.Test.YtjaafolhfihegaaGreatDoorM33
import Derived.IntWalk
import Derived.Test.YtjaafolhfihegaaGreatDoorM16
import Derived.Test.YtjaafolhfihegaaGreatDoorM19
import Derived.Test.YtjaafolhfihegaaGreatDoorM08
import Derived.WalkKit
import Derived.Laws.NewFold
set_option linter.unusedVariables false
set_option linter.unusedSimpArgs false
set_option maxHeartbeats 25600000
set_option maxRecDepth 100000
namespace Go.Proofs.YtjaafolhfihegaaGreatDoor
open Go.RowKit Go.Maps
open List renaming setIfInBounds_toArray->biP,map_cons->biQ,map_nil->biR,set->biS
variable{k n:Int}
section
variable{P:Program}{ρ:Operand->Value}{o:Oper}{t t2:TypeId}{x y:Operand}{a b v:Value}{w:World}
theorem dV{op:BinOp}(ho:o.op=.binOp op t x y t2)(hx:ρ x=a)(hy:ρ y=b)(hg:eqGuard op t x y a b=pure ())(h:(binOp op t a b).run P w=.ok v w):(execOp ρ o).run P w=.ok (.value v) w:=by
 unfold execOp;rw[ho];simp only[hx,hy,hg];generalize binOp op t a b=q at h|-;simp[go_sem,h]
theorem qF(ho:o.op=.convert t t2 x)(hx:ρ x=a)(h:(convert t t2 a).run P w=.ok v w):(execOp ρ o).run P w=.ok (.value v) w:=by
 unfold execOp;rw[ho];simp only[hx];generalize convert t t2 a=q at h|-;simp[go_sem,h]
end
theorem abE(hn:¬n=0)(w:World):(binOp .rem 3 (.int .i64 k) (.int .i64 n)).run Tryz.prog w=.ok (.int .i64 (k.tmod n)) w:=by
 simp[go_sem,hn]
theorem agJ{a b:Int}(h:IntKind.i64.wrap (a+b)=a+b)(w:World):(binOp .add 3 (.int .i64 a) (.int .i64 b)).run Tryz.prog w=.ok (.int .i64 (a+b)) w:=by
 simp[go_sem,h]
theorem yB(a:Int)(w:World):(convert 3 27 (.int .i64 a)).run Tryz.prog w=.ok (.float .f64 (fl a)) w:=by
 simp[go_sem];rfl
theorem agK(k:Int)(hn:0<n/\n<1000000):∃a b K:Int,(∀w,(binOp .rem 3 (.int .i64 k) (.int .i64 n)).run Tryz.prog w=.ok (.int .i64 a) w)/\(∀w,(binOp .add 3 (.int .i64 a) (.int .i64 n)).run Tryz.prog w=.ok (.int .i64 b) w)/\
 (∀w,(binOp .rem 3 (.int .i64 b) (.int .i64 n)).run Tryz.prog w=.ok (.int .i64 K) w)/\0<=K/\K<n:=by
 have h1:=Int.lt_tmod_of_pos k hn.1;have h2:=Int.tmod_lt_of_pos k hn.1;have h3:0<=(k.tmod n+n).tmod n:=Int.tmod_nonneg _ (by omega);have h4:=Int.tmod_lt_of_pos (k.tmod n+n) hn.1;exact⟨_,_,_,fun w=>abE (by omega) w,fun w=>agJ (IntWalk.i64_in _ (by omega)) w,fun w=>abE (by omega) w,h3,h4⟩
theorem amA{a b:Int}(h:-1000000000000<a+b/\a+b<1000000000000)(e:k=a+b)(w:World):(binOp .add 3 (.int .i64 a) (.int .i64 b)).run Tryz.prog w=.ok (.int .i64 k) w:=by
 rw[e];exact agJ (IntWalk.i64_in _ (by omega)) w
section
variable(U V W:Ex)(a b c:Nat)
abbrev cutN:Ex:=.add (.mul U U) (.mul V V)
abbrev cutE:Ex:=.sub (.sub W (.mul U (.leaf a))) (.mul V (.leaf b))
abbrev cutF:Ex:=.sub (.mul (.leaf c) (cutN U V)) (.mul (cutE U V W a b) (cutE U V W a b))
abbrev gI:Ex:=.add (.leaf a) (.div (.sub (.mul U (cutE U V W a b)) (.mul V (.root (cutF U V W a b c)))) (cutN U V))
abbrev gJ:Ex:=.add (.leaf b) (.div (.add (.mul V (cutE U V W a b)) (.mul U (.root (cutF U V W a b c)))) (cutN U V))
abbrev gK:Ex:=.add (.leaf a) (.div (.add (.mul U (cutE U V W a b)) (.mul V (.root (cutF U V W a b c)))) (cutN U V))
abbrev gL:Ex:=.add (.leaf b) (.div (.sub (.mul V (cutE U V W a b)) (.mul U (.root (cutF U V W a b c)))) (cutN U V))
end
abbrev pe0(p:Nat×Nat×Nat×Nat×Nat×Nat):Ex:=.leaf p.2.2.2.1
abbrev pe1(p:Nat×Nat×Nat×Nat×Nat×Nat):Ex:=.leaf p.2.2.2.2.1
abbrev pe2(p:Nat×Nat×Nat×Nat×Nat×Nat):Ex:=.leaf p.2.2.2.2.2
abbrev pe3(p:Nat×Nat×Nat×Nat×Nat×Nat):Ex:=gK (pe0 p) (pe1 p) (pe2 p) p.1 p.2.1 p.2.2.1
abbrev pe4(p:Nat×Nat×Nat×Nat×Nat×Nat):Ex:=gL (pe0 p) (pe1 p) (pe2 p) p.1 p.2.1 p.2.2.1
abbrev pe5(p:Nat×Nat×Nat×Nat×Nat×Nat):Ex:=gI (pe0 p) (pe1 p) (pe2 p) p.1 p.2.1 p.2.2.1
abbrev pe6(p:Nat×Nat×Nat×Nat×Nat×Nat):Ex:=gJ (pe0 p) (pe1 p) (pe2 p) p.1 p.2.1 p.2.2.1
theorem agL{g:Nat}{p:Nat×Nat×Nat×Nat×Nat×Nat}(h1:dJ p.1 p.2.1 p.2.2.1)(h2:dC p.2.2.2.1 p.2.2.2.2.1 p.2.2.2.2.2)(s1:∀w,Calls Tryz.prog 108 #[.float .f64 p.2.2.2.1,.float .f64 0] w (RetV w (.int .i64 1)))(s2:∀w,Calls Tryz.prog 108 #[.float .f64 p.2.2.2.2.1,.float .f64 0] w (RetV w (.int .i64 0)))(hcut:∀i j k,FnBk 82 g 30 #[.pointer (some ⟨g,0,none⟩),curV 2 p.1 p.2.1 p.2.2.1,.agg #[.pointer (some ⟨g,0,none⟩),.int .i64 ((i:Nat):Int),.pointer (some ⟨g,0,none⟩),.int .i64 ((j:Nat):Int),.pointer (some ⟨g,0,none⟩),.int .i64 ((k:Nat):Int),.int .i64 1,.int .i64 0]] [(.leaf p.2.2.2.1,i),(.leaf p.2.2.2.2.1,j),(.leaf p.2.2.2.2.2,k)] (fun ks b=>.tuple #[.slice (some ⟨b,0,none⟩) 2 2,.nilIface]) [gK (.leaf p.2.2.2.1) (.leaf p.2.2.2.2.1) (.leaf p.2.2.2.2.2) p.1 p.2.1 p.2.2.1,gL (.leaf p.2.2.2.1) (.leaf p.2.2.2.2.1) (.leaf p.2.2.2.2.2) p.1 p.2.1 p.2.2.1,gI (.leaf p.2.2.2.1) (.leaf p.2.2.2.2.1) (.leaf p.2.2.2.2.2) p.1 p.2.1 p.2.2.1,gJ (.leaf p.2.2.2.1) (.leaf p.2.2.2.2.1) (.leaf p.2.2.2.2.2) p.1 p.2.1 p.2.2.1] (fun ks=>.cells #[.pointer (some ⟨g,0,none⟩),.int .i64 ((ks.getD 0 0:Nat):Int),.pointer (some ⟨g,0,none⟩),.int .i64 ((ks.getD 1 0:Nat):Int),.pointer (some ⟨g,0,none⟩),.int .i64 ((ks.getD 2 0:Nat):Int),.pointer (some ⟨g,0,none⟩),.int .i64 ((ks.getD 3 0:Nat):Int)] 33)):FnBk 45 g 33 #[.pointer (some ⟨g,0,none⟩),curV 2 p.1 p.2.1 p.2.2.1,curV 1 p.2.2.2.1 p.2.2.2.2.1 p.2.2.2.2.2] [] (fun ks b=>.tuple #[.slice (some ⟨b,0,none⟩) 2 2,.bool false,.nilIface]) [gK (.leaf p.2.2.2.1) (.leaf p.2.2.2.2.1) (.leaf p.2.2.2.2.2) p.1 p.2.1 p.2.2.1,gL (.leaf p.2.2.2.1) (.leaf p.2.2.2.2.1) (.leaf p.2.2.2.2.2) p.1 p.2.1 p.2.2.1,gI (.leaf p.2.2.2.1) (.leaf p.2.2.2.2.1) (.leaf p.2.2.2.2.2) p.1 p.2.1 p.2.2.1,gJ (.leaf p.2.2.2.1) (.leaf p.2.2.2.2.1) (.leaf p.2.2.2.2.2) p.1 p.2.1 p.2.2.1] (fun ks=>.cells #[.pointer (some ⟨g,0,none⟩),.int .i64 ((ks.getD 0 0:Nat):Int),.pointer (some ⟨g,0,none⟩),.int .i64 ((ks.getD 1 0:Nat):Int),.pointer (some ⟨g,0,none⟩),.int .i64 ((ks.getD 2 0:Nat):Int),.pointer (some ⟨g,0,none⟩),.int .i64 ((ks.getD 3 0:Nat):Int)] 33):=FnBk.of fun w B ns N hR hN=>by
 have R1:=hdd hR;clear hR;go_enter Tryz.func45,Tryz.ntmps45
 go_upto_region 0 with fail
 refine Spec.go [.w (.c (.ptr 0 0)),.w (.c (.ptr 1 0)),.w (.c (.v (Value.slice none 0 0))),.w (.c (.v (Value.bool false))),.w (.c (.v Value.nilIface))] [0,1]
  [] [⟨0,29,curC 2 p.1 p.2.1 p.2.2.1,none⟩,⟨1,29,curC 1 p.2.2.2.1 p.2.2.2.2.1 p.2.2.2.2.2,none⟩]
  [0,0,0,0,0] [[],[],[],[],[]] [(1,.w (.agg ([.v (.int .i64 2),.v (.float .f64 p.1),.v (.float .f64 p.2.1),.v (.float .f64 p.2.2.1)]))),(2,.w (.agg ([.v (.int .i64 1),.v (.float .f64 p.2.2.2.1),.v (.float .f64 p.2.2.2.2.1),.v (.float .f64 p.2.2.2.2.2)])))]
  [5,6,7,8,9] [] 5 N [] [] R1.out
  (fun b hM=>aA (aA (aA (aA (aA aH
    (aI b m0))
    (aI b m1))
    (aB b))
    (aB b))
    (aB b)) ?_
 intro b1 b2 ν W2 hR;have R2:=hdd hR;clear hR R1;simp only[putL,biP,biS,fs0,fs1,fsn,dSw,dSt,dWc,dWa,dv,di,dp,ds',biQ,biR,nuTn,nuT0,nuT1,nuU0,nuU1]
 go_upto_region 1 with fail
 refine Spec.go [.w (.agg ([.v (.int .i64 2),.v (.float .f64 p.1),.v (.float .f64 p.2.1),.v (.float .f64 p.2.2.1)])),.w (.agg ([.v (.int .i64 1),.v (.float .f64 p.2.2.2.1),.v (.float .f64 p.2.2.2.2.1),.v (.float .f64 p.2.2.2.2.2)])),.w (.c (.v .nilIface)),.w (.c (.v .nilIface))] []
  [] [⟨0,29,curC 2 p.1 p.2.1 p.2.2.1,none⟩,⟨1,29,curC 1 p.2.2.2.1 p.2.2.2.2.1 p.2.2.2.2.2,none⟩]
  [0,0,0,0] [[],[],[0,1],[0,1,2]] [(4,.w (.c (.ptr 0 0))),(5,.w (.c (.ptr 1 0)))]
  [14,15,16,10] [b1,b2] 4 N [] [] R2.out
  (fun b hM=>aA (aA (aA (aA aH
    (aD b 4 m0))
    (aD b 4 m1))
    (aG b (oK hM rfl rfl rfl (fun w=>oF (fun _=>kU h1) (fun _=>p9 h2)))))
    (aB b)) ?_
 intro ν W3 hR;replace hR:Run ⟨w,B,ns⟩ g N [] [(b1,.cells #[(.int .i64 2),(.float .f64 p.1),(.float .f64 p.2.1),(.float .f64 p.2.2.1)] 29),(b2,.cells #[(.int .i64 1),(.float .f64 p.2.2.2.1),(.float .f64 p.2.2.2.2.1),(.float .f64 p.2.2.2.2.2)] 29)] W3:=hR;have R3:=hdd hR;clear hR R2;simp only[putL,biP,biS,fs0,fs1,fsn,dSw,dSt,dWc,dWa,dv,di,dp,ds',biQ,biR,nuTn,nuT0,nuT1,nuU0,nuU1];obtain⟨c0,c1,c2,c3⟩:=aL (R3.out.at m0);obtain⟨d0,d1,d2,d3⟩:=aL (R3.out.at m1)
 go_upto_region 12 with fail
 clear c0 c1 c2 c3 d0 d1 d2 d3;refine Spec.go [.w (.c (.v (.pointer (some ⟨g,0,none⟩)))),.w (.agg ([.v (.int .i64 2),.v (.float .f64 p.1),.v (.float .f64 p.2.1),.v (.float .f64 p.2.2.1)])),.w (.c (.v (.pointer (some ⟨g,0,none⟩)))),.w (.agg ([.v (.int .i64 1),.v (.float .f64 p.2.2.2.1),.v (.float .f64 p.2.2.2.2.1),.v (.float .f64 p.2.2.2.2.2)])),.w (.agg ([.v (.pointer (some ⟨g,0,none⟩)),.id 2,.v (.pointer (some ⟨g,0,none⟩)),.id 3,.v (.pointer (some ⟨g,0,none⟩)),.id 4,.v (.int .i64 1),.v (.int .i64 0)])),.tup [.c (.sl 9 2),.c (.v .nilIface)],.tup [.c (.sl 9 2),.c (.v .nilIface)],.w (.c (.sl 9 2)),.w (.c (.v .nilIface)),.w (.c (.sl 9 2)),.w (.c (.v .nilIface))] [4,4,4,5,5,5,5,5]
  [(2,(pe0 p)),(3,(pe1 p)),(4,(pe2 p)),(5,(pe3 p)),(6,(pe4 p)),(7,(pe5 p)),(8,(pe6 p))] [⟨0,29,curC 2 p.1 p.2.1 p.2.2.1,none⟩,⟨1,29,curC 1 p.2.2.2.1 p.2.2.2.2.1 p.2.2.2.2.2,none⟩,⟨9,33,[.v (.pointer (some ⟨g,0,none⟩)),.id 5,.v (.pointer (some ⟨g,0,none⟩)),.id 6,.v (.pointer (some ⟨g,0,none⟩)),.id 7,.v (.pointer (some ⟨g,0,none⟩)),.id 8],none⟩]
  [0,0,0,0,3,30,0,0,0,0,0] [[],[],[],[],[2,3],rgn 5,rgn 6,rgn 7,rgn 7,rgn 8,[0,1,2,3,4,5,6,8]] [(0,.w (.c (.v (.pointer (some ⟨g,0,none⟩))))),(4,.w (.c (.ptr 0 0))),(5,.w (.c (.ptr 1 0)))]
  [48,49,50,51,52,53,47,54,55,11,13] [b1,b2] 11 (N+33) [] [] R3.out
  (fun b hM=>aA (aA (aA (aA (aA (aA (aA (aA (aA (aA (aA aH
    (aB b))
    (aD b 4 m0))
    (aB b))
    (aD b 4 m1))
    (aG b (c_fn (ix:=[]) (ts:=[2,3,4]) hM (fun ν=>iI (h2) (fun _=>s1 _) (fun _=>s2 _)))))
    (kR b m2 (c_fb (ix:=[0,1,2]) (ts:=[5,6,7,8]) hM (fun ν=>hcut _ _ _))))
    (aB b))
    (aB b))
    (aB b))
    (aB b))
    (aB b)) ?_
 intro n3 n4 n5 n6 n7 n8 n9 b10 ν W4 hR;replace hR:Run ⟨w,B,ns⟩ g (N+33) [((pe0 p),n3),((pe1 p),n4),((pe2 p),n5),((pe3 p),n6),((pe4 p),n7),((pe5 p),n8),((pe6 p),n9)] [(b1,.cells #[(.int .i64 2),(.float .f64 p.1),(.float .f64 p.2.1),(.float .f64 p.2.2.1)] 29),(b2,.cells #[(.int .i64 1),(.float .f64 p.2.2.2.1),(.float .f64 p.2.2.2.2.1),(.float .f64 p.2.2.2.2.2)] 29),(b10,.cells #[.pointer (some ⟨g,0,none⟩),.int .i64 ((n6:Nat):Int),.pointer (some ⟨g,0,none⟩),.int .i64 ((n7:Nat):Int),.pointer (some ⟨g,0,none⟩),.int .i64 ((n8:Nat):Int),.pointer (some ⟨g,0,none⟩),.int .i64 ((n9:Nat):Int)] 33)] W4:=hR;have R4:=hdd hR;clear hR R3;simp only[putL,biP,biS,fs0,fs1,fsn,dSw,dSt,dWc,dWa,dv,di,dp,ds',biQ,biR,nuTn,nuT0,nuT1,nuU0,nuU1];have HF:Hid (oO w B ns g (N+33) (fun ks b=>.tuple #[.slice (some ⟨b,0,none⟩) 2 2,.bool false,.nilIface]) [gK (.leaf p.2.2.2.1) (.leaf p.2.2.2.2.1) (.leaf p.2.2.2.2.2) p.1 p.2.1 p.2.2.1,gL (.leaf p.2.2.2.1) (.leaf p.2.2.2.2.1) (.leaf p.2.2.2.2.2) p.1 p.2.1 p.2.2.1,gI (.leaf p.2.2.2.1) (.leaf p.2.2.2.2.1) (.leaf p.2.2.2.2.2) p.1 p.2.1 p.2.2.1,gJ (.leaf p.2.2.2.1) (.leaf p.2.2.2.2.1) (.leaf p.2.2.2.2.2) p.1 p.2.1 p.2.2.1] (fun ks=>.cells #[.pointer (some ⟨g,0,none⟩),.int .i64 ((ks.getD 0 0:Nat):Int),.pointer (some ⟨g,0,none⟩),.int .i64 ((ks.getD 1 0:Nat):Int),.pointer (some ⟨g,0,none⟩),.int .i64 ((ks.getD 2 0:Nat):Int),.pointer (some ⟨g,0,none⟩),.int .i64 ((ks.getD 3 0:Nat):Int)] 33) (.returned (.tuple #[.slice (some ⟨b10,0,none⟩) 2 2,.bool false,.nilIface])) W4):=hdd ⟨[n6,n7,n8,n9],b10,rfl,rfl,_,(R4.out.sub (bX [2]) (by simp)).few (bX [3,4,5,6])⟩
 clear R4;go_wp2;refine bodyPost_ret (v:=.tuple #[_,_,_]) (by simp[results,Tryz.results45,go_sem];exact⟨rfl,rfl,rfl⟩) rfl ?_;exact HF.out
end Go.Proofs.YtjaafolhfihegaaGreatDoor
namespace Go.Proofs.YtjaafolhfihegaaGreatDoor
open Go.RowKit Go.Maps
open Re (rat ofI ofN)
variable{L:List Ex}
abbrev w3:Nat:=4613937818241073152
abbrev w4:Nat:=4616189618054758400
theorem mE:Fit L (.leaf 0 0) (.leaf 0) (rat 0):=Fit.leaf 0 (by decide) (by decide) agI (by decide)
theorem Fit.cutF {u v w a b c:Sh}{U V W:Ex}{A B C:Nat}{p q r x y z:Rat}(h1:Fit L u U (rat p))(h2:Fit L v V (rat q))(h3:Fit L w W (rat r))(h4:Fit L a (.leaf A) (rat x))(h5:Fit L b (.leaf B) (rat y))(h6:Fit L c (.leaf C) (rat z)):
 Fit L (.add (.mul c (.add (.mul u u) (.mul v v))) (.mul (.add (.add w (.mul u a)) (.mul v b)) (.add (.add w (.mul u a)) (.mul v b)))) (cutF U V W A B C) (rat (z*(p*p+q*q)-((r-p*x)-q*y)*((r-p*x)-q*y))):=
 (h6.rmul ((h1.rmul h1).radd (h2.rmul h2))).rsub (((h3.rsub (h1.rmul h4)).rsub (h2.rmul h5)).rmul ((h3.rsub (h1.rmul h4)).rsub (h2.rmul h5)))
end Go.Proofs.YtjaafolhfihegaaGreatDoor
namespace Go.Proofs.YtjaafolhfihegaaGreatDoor
open Go.RowKit Go.Maps Go.Stop Go.Extern
open Re (rat ofI ofN)
open List renaming setIfInBounds_toArray->biT,map_cons->biU,map_nil->biV,set->biW
theorem apI:fv 4607182418800017408=(1:Int)*(U74:Int):=apG
theorem aq3:fv 13830554455654793216=(-1:Int)*(U74:Int):=by kernel_rfl
theorem nO:(0:Int)<U74:=by have h:0<U74:=rM 1074;omega
theorem mX:FlOk 0:=⟨by decide,by decide⟩
theorem aoR:dJ 0 0 4611686018427387904:=⟨mX,mX,⟨by decide,by decide⟩,by rw[apH];exact Int.mul_nonneg (by decide) (Int.natCast_nonneg _)⟩
theorem agM:dC 4607182418800017408 0 4607182418800017408:=⟨⟨by decide,by decide⟩,mX,⟨by decide,by decide⟩,Or.inl (by rw[apI];have:=nO;omega)⟩
theorem zR:bD PT (cutF (.leaf 4607182418800017408) (.leaf 0) (.leaf 4607182418800017408) 0 0 4611686018427387904) 1/\nP PT (gK (.leaf 4607182418800017408) (.leaf 0) (.leaf 4607182418800017408) 0 0 4611686018427387904) (gL (.leaf 4607182418800017408) (.leaf 0) (.leaf 4607182418800017408) 0 0 4611686018427387904) (.leaf 4607182418800017408) (.leaf 13830554455654793216) 0/\nP PT (gI (.leaf 4607182418800017408) (.leaf 0) (.leaf 4607182418800017408) 0 0 4611686018427387904) (gJ (.leaf 4607182418800017408) (.leaf 0) (.leaf 4607182418800017408) 0 0 4611686018427387904) (.leaf 4607182418800017408) (.leaf 4607182418800017408) 0:=by
 have F:=Fit.cutF (L:=[]) ae0 mE ae0 mE mE ae1;have hL:Lok [.root (cutF (.leaf 4607182418800017408) (.leaf 0) (.leaf 4607182418800017408) 0 0 4611686018427387904)]:=F.lok Lok.nil (by kernel_rfl) (by rw[Re.zero_rat];exact Re.rat_le.2 (by grind));have o:=ae0 (L:=[.root (cutF (.leaf 4607182418800017408) (.leaf 0) (.leaf 4607182418800017408) 0 0 4611686018427387904)]);have z:=mE (L:=[.root (cutF (.leaf 4607182418800017408) (.leaf 0) (.leaf 4607182418800017408) 0 0 4611686018427387904)]);have m:Fit [.root (cutF (.leaf 4607182418800017408) (.leaf 0) (.leaf 4607182418800017408) 0 0 4611686018427387904)] (.leaf 1 0) (.leaf 13830554455654793216) (rat (-1)):=Fit.leaf 1 (by decide) (by decide) aq3 (by decide);have e:=(o.rsub (o.rmul z)).rsub (z.rmul z);have n:=(o.rmul o).radd (z.rmul z);have s:=Fit.rroot (Fit.cutF o z o z z ae1) (q:=1) (by grind) (by grind) (List.mem_singleton.2 rfl);have mx:=z.radd (Fit.rdiv hL ((o.rmul e).radd (z.rmul s)) n (by grind) (z:=1) (by grind))
 have my:=z.radd (Fit.rdiv hL ((z.rmul e).rsub (o.rmul s)) n (by grind) (z:=-1) (by grind));have px:=z.radd (Fit.rdiv hL ((o.rmul e).rsub (z.rmul s)) n (by grind) (z:=1) (by grind));have py:=z.radd (Fit.rdiv hL ((z.rmul e).radd (o.rmul s)) n (by grind) (z:=1) (by grind));exact⟨F.pos (by grind) (by kernel_rfl),⟨0,0,trivial,(mx.rsub o).zero (by grind) (by kernel_rfl),fun _=>⟨trivial,(my.rsub m).zero (by grind) (by kernel_rfl)⟩,rfl⟩,0,0,trivial,(px.rsub o).zero (by grind) (by kernel_rfl),fun _=>⟨trivial,(py.rsub o).zero (by grind) (by kernel_rfl)⟩,rfl⟩
theorem eG:dJ 0 0 4611686018427387904/\dC 4607182418800017408 0 4607182418800017408/\(∀w,Calls Tryz.prog 108 #[.float .f64 4607182418800017408,.float .f64 0] w (RetV w (.int .i64 1)))/\(∀w,Calls Tryz.prog 108 #[.float .f64 0,.float .f64 0] w (RetV w (.int .i64 0)))/\bD PT (cutF (.leaf 4607182418800017408) (.leaf 0) (.leaf 4607182418800017408) 0 0 4611686018427387904) 1:=⟨aoR,agM,fun _=>aaU agM.1 mX (by rw[apI,agI];have:=nO;omega),fun _=>afX mX mX rfl,zR.1⟩
theorem yC{w:World}(hP:∀g,FnBk 45 g 33 #[.pointer (some ⟨g,0,none⟩),curV 2 0 0 4611686018427387904,curV 1 4607182418800017408 0 4607182418800017408] [] (fun ks b=>.tuple #[.slice (some ⟨b,0,none⟩) 2 2,.bool false,.nilIface]) [gK (.leaf 4607182418800017408) (.leaf 0) (.leaf 4607182418800017408) 0 0 4611686018427387904,gL (.leaf 4607182418800017408) (.leaf 0) (.leaf 4607182418800017408) 0 0 4611686018427387904,gI (.leaf 4607182418800017408) (.leaf 0) (.leaf 4607182418800017408) 0 0 4611686018427387904,gJ (.leaf 4607182418800017408) (.leaf 0) (.leaf 4607182418800017408) 0 0 4611686018427387904] (fun ks=>.cells #[.pointer (some ⟨g,0,none⟩),.int .i64 ((ks.getD 0 0:Nat):Int),.pointer (some ⟨g,0,none⟩),.int .i64 ((ks.getD 1 0:Nat):Int),.pointer (some ⟨g,0,none⟩),.int .i64 ((ks.getD 2 0:Nat):Int),.pointer (some ⟨g,0,none⟩),.int .i64 ((ks.getD 3 0:Nat):Int)] 33))(hT:Tab w)(htb:1<w.heap.size):
 Calls Tryz.prog 42 #[] w (RetV w (.bool true)):=by
 have HN:=hdd (aaY (l:=[]) (Below.refl w.heap.size w) (fun p hp=>by cases hp) (by simp) hT htb);have HP:=hdd hP;clear hT htb hP;have CM:=hdd zR;go_enter Tryz.func42,Tryz.ntmps42
 go_wp2_with fail
 refine HN.out.mono ?_;rintro e W1⟨g,rfl,hR⟩;have R1:=hdd hR;clear hR HN;dsimp only
 go_upto_region 4 with fail
 refine Spec.go [.w (.c (.v (.pointer (some ⟨g,0,none⟩)))),.w (.agg ([.v (Value.int IntKind.i64 2),.v (.float .f64 0),.v (.float .f64 0),.v (Value.float FloatKind.f64 4611686018427387904)])),.w (.agg ([.v (Value.int IntKind.i64 1),.v (Value.float FloatKind.f64 4607182418800017408),.v (.float .f64 0),.v (Value.float FloatKind.f64 4607182418800017408)])),.tup [.c (.sl 4 2),.c (.v (.bool false)),.c (.v .nilIface)],.tup [.c (.sl 4 2),.c (.v (.bool false)),.c (.v .nilIface)],.w (.c (.sl 4 2)),.w (.c (.v (.bool false))),.w (.c (.v .nilIface)),.w (.c (.sl 4 2)),.w (.c (.v (.bool false))),.w (.c (.v .nilIface))] [3,3,3,3,3]
  [(0,(gK (.leaf 4607182418800017408) (.leaf 0) (.leaf 4607182418800017408) 0 0 4611686018427387904)),(1,(gL (.leaf 4607182418800017408) (.leaf 0) (.leaf 4607182418800017408) 0 0 4611686018427387904)),(2,(gI (.leaf 4607182418800017408) (.leaf 0) (.leaf 4607182418800017408) 0 0 4611686018427387904)),(3,(gJ (.leaf 4607182418800017408) (.leaf 0) (.leaf 4607182418800017408) 0 0 4611686018427387904))] [⟨4,33,[.v (.pointer (some ⟨g,0,none⟩)),.id 0,.v (.pointer (some ⟨g,0,none⟩)),.id 1,.v (.pointer (some ⟨g,0,none⟩)),.id 2,.v (.pointer (some ⟨g,0,none⟩)),.id 3],none⟩]
  [0,0,0,33,0,0,0,0,0,0,0] [[],[],[],[0,1,2],rgn 4,rgn 5,rgn 5,rgn 5,rgn 6,[0,1,2,3,4,6],[0,1,2,3,4,7]] [(1,.w (.c (.v (.pointer (some ⟨g,0,none⟩)))))]
  [14,15,16,17,13,18,19,20,3,4,5] [] 11 33 [] [] R1.out
  (fun b hM=>aA (aA (aA (aA (aA (aA (aA (aA (aA (aA (aA aH
    (aB b))
    (aB b))
    (aB b))
    (kR b m0 (c_fb (ix:=[]) (ts:=[0,1,2,3]) hM (fun ν=>HP.out _))))
    (aB b))
    (aB b))
    (aB b))
    (aB b))
    (aB b))
    (aB b))
    (aB b)) ?_
 intro n1 n2 n3 n4 b5 ν W2 hR;have R2:=hdd hR;clear hR R1;simp only[putL,biT,biW,fs0,fs1,fsn,dSw,dSt,dWc,dWa,dv,di,dp,ds',biU,biV,nuTn,nuT0,nuT1,nuU0,nuU1]
 go_upto_region 7 with fail
 refine Spec.go [.w (.c (.sl 4 2)),.w (.c (.ptr 4 0)),dH g 0 1,.w (.c (.v (.pointer (some ⟨g,0,none⟩)))),dH g 5 6,.tup [.c (.v (.bool true)),.c (.v .nilIface)],.tup [.c (.v (.bool true)),.c (.v .nilIface)],.w (.c (.v (.bool true))),.w (.c (.v .nilIface)),.w (.c (.v (.bool true))),.w (.c (.v .nilIface))] [4,4]
  [(0,(gK (.leaf 4607182418800017408) (.leaf 0) (.leaf 4607182418800017408) 0 0 4611686018427387904)),(1,(gL (.leaf 4607182418800017408) (.leaf 0) (.leaf 4607182418800017408) 0 0 4611686018427387904)),(2,(gI (.leaf 4607182418800017408) (.leaf 0) (.leaf 4607182418800017408) 0 0 4611686018427387904)),(3,(gJ (.leaf 4607182418800017408) (.leaf 0) (.leaf 4607182418800017408) 0 0 4611686018427387904)),(5,(.leaf 4607182418800017408)),(6,(.leaf 13830554455654793216))] [⟨4,33,[.v (.pointer (some ⟨g,0,none⟩)),.id 0,.v (.pointer (some ⟨g,0,none⟩)),.id 1,.v (.pointer (some ⟨g,0,none⟩)),.id 2,.v (.pointer (some ⟨g,0,none⟩)),.id 3],none⟩]
  [0,0,0,0,2,2,0,0,0,0,0] [[],[0],[0,1],[],[3],rgn 5,rgn 6,rgn 7,rgn 7,rgn 8,[0,1,2,3,4,5,6,8]] [(2,.w (.c (.sl 4 2))),(1,.w (.c (.v (.pointer (some ⟨g,0,none⟩)))))]
  [32,33,34,35,36,37,31,38,39,6,7] [n1,n2,n3,n4,b5] 11 37 [] [] R2.out
  (fun b hM=>aA (aA (aA (aA (aA (aA (aA (aA (aA (aA (aA aH
    (aB b))
    (aB b))
    (aD b 4 m0))
    (aB b))
    (aG b (c_at hM (by decide) (by decide) (by decide) (by decide) rfl rfl rfl rfl (by decide) rfl)))
    (aG b (aeN hM m0 m1 rfl rfl m4 m5 rfl rfl rfl rfl rfl CM.out.2.1)))
    (aB b))
    (aB b))
    (aB b))
    (aB b))
    (aB b)) ?_
 intro n6 n7 ν W3 hR;have R3:=hdd hR;clear hR R2;simp only[putL,biT,biW,fs0,fs1,fsn,dSw,dSt,dWc,dWa,dv,di,dp,ds',biU,biV,nuTn,nuT0,nuT1,nuU0,nuU1]
 go_upto_region 8 with fail
 refine Spec.go [.w (.c (.sl 4 2)),.w (.c (.ptr 4 4)),dH g 2 3,.w (.c (.v (.pointer (some ⟨g,0,none⟩)))),dH g 5 6,.tup [.c (.v (.bool true)),.c (.v .nilIface)],.tup [.c (.v (.bool true)),.c (.v .nilIface)],.w (.c (.v (.bool true))),.w (.c (.v .nilIface)),.w (.c (.v (.bool true))),.w (.c (.v .nilIface))] [4,4]
  [(0,(gK (.leaf 4607182418800017408) (.leaf 0) (.leaf 4607182418800017408) 0 0 4611686018427387904)),(1,(gL (.leaf 4607182418800017408) (.leaf 0) (.leaf 4607182418800017408) 0 0 4611686018427387904)),(2,(gI (.leaf 4607182418800017408) (.leaf 0) (.leaf 4607182418800017408) 0 0 4611686018427387904)),(3,(gJ (.leaf 4607182418800017408) (.leaf 0) (.leaf 4607182418800017408) 0 0 4611686018427387904)),(5,(.leaf 4607182418800017408)),(6,(.leaf 4607182418800017408))] [⟨4,33,[.v (.pointer (some ⟨g,0,none⟩)),.id 0,.v (.pointer (some ⟨g,0,none⟩)),.id 1,.v (.pointer (some ⟨g,0,none⟩)),.id 2,.v (.pointer (some ⟨g,0,none⟩)),.id 3],none⟩]
  [0,0,0,0,2,2,0,0,0,0,0] [[],[0],[0,1],[],[3],rgn 5,rgn 6,rgn 7,rgn 7,rgn 8,[0,1,2,3,4,5,6,8]] [(2,.w (.c (.sl 4 2))),(1,.w (.c (.v (.pointer (some ⟨g,0,none⟩)))))]
  [41,42,43,44,45,46,40,47,48,8,9] [n1,n2,n3,n4,b5] 11 41 [true,true,true,true,false,false] [] R3.out
  (fun b hM=>aA (aA (aA (aA (aA (aA (aA (aA (aA (aA (aA aH
    (aB b))
    (aB b))
    (aD b 4 m0))
    (aB b))
    (aG b (c_at hM (by decide) (by decide) (by decide) (by decide) rfl rfl rfl rfl (by decide) rfl)))
    (aG b (aeN hM m2 m3 rfl rfl m4 m5 rfl rfl rfl rfl rfl CM.out.2.2)))
    (aB b))
    (aB b))
    (aB b))
    (aB b))
    (aB b)) ?_
 intro n8 n9 ν W4 hR;replace hR:Run (bs w) g 41 [((gK (.leaf 4607182418800017408) (.leaf 0) (.leaf 4607182418800017408) 0 0 4611686018427387904),n1),((gL (.leaf 4607182418800017408) (.leaf 0) (.leaf 4607182418800017408) 0 0 4611686018427387904),n2),((gI (.leaf 4607182418800017408) (.leaf 0) (.leaf 4607182418800017408) 0 0 4611686018427387904),n3),((gJ (.leaf 4607182418800017408) (.leaf 0) (.leaf 4607182418800017408) 0 0 4611686018427387904),n4),((.leaf 4607182418800017408),n8),((.leaf 4607182418800017408),n9)] [(b5,.cells #[.pointer (some ⟨g,0,none⟩),.int .i64 ((n1:Nat):Int),.pointer (some ⟨g,0,none⟩),.int .i64 ((n2:Nat):Int),.pointer (some ⟨g,0,none⟩),.int .i64 ((n3:Nat):Int),.pointer (some ⟨g,0,none⟩),.int .i64 ((n4:Nat):Int)] 33)] W4:=hR;have R4:=hdd hR;clear hR R3;simp only[putL,biT,biW,fs0,fs1,fsn,dSw,dSt,dWc,dWa,dv,di,dp,ds',biU,biV,nuTn,nuT0,nuT1,nuU0,nuU1];have HB:=hdd R4.out.below;clear R4 CM HP;go_wp2;go_ret;exact⟨rfl,HB.out⟩
end Go.Proofs.YtjaafolhfihegaaGreatDoor
namespace Go.Proofs.YtjaafolhfihegaaGreatDoor
open Go.RowKit Go.Maps Ieee
variable{T:Int}
theorem abF{b:Nat}(h:Iw b T):fin b/\fv b=T*(2^(1074-0):Nat):=by
 obtain⟨u,hu,hU⟩:=eP;exact⟨h.1.2,by rw[h.2,hU,show 1074-0=u by omega]⟩
theorem apJ{r:Nat}(h1:r<2^64)(h2:fin r)(h3:fv r=T*(2^(1074-0):Nat)):Iw r T:=by
 obtain⟨u,hu,hU⟩:=eP;exact⟨⟨h1,h2⟩,by rw[h3,hU,show 1074-0=u by omega]⟩
section
variable{x y:Nat}{a b:Int}
abbrev Op2(o:BinOp)(x y r:Nat):Prop:=∀w,(binOp o 27 (.float .f64 x) (.float .f64 y)).run Tryz.prog w=.ok (.float .f64 r) w
theorem amB(hx:Iw x a)(hy:Iw y b)(h:(a+b).natAbs<2^53):∃r,Op2 .add x y r/\Iw r (a+b):=by
 obtain⟨f1,v1⟩:=abF hx;obtain⟨f2,v2⟩:=abF hy;obtain⟨r,h1,h2,h3,h4⟩:=aiM (i:=0) f1 f2 v1 v2 h;exact⟨r,fun w=>run_float_arith w .add 27 .f64 x y r h1,apJ h2 h3 h4⟩
end
theorem Iw.fit {b:Nat}{L:List Ex}(h:Iw b T)(n:Nat)(hT:T.natAbs<2^n)(hn:n<=53):Fit L (.leaf n 0) (.leaf b) (Re.rat (T:Rat)):=Fit.leaf n h.1.1 h.1.2 h.2 hT
end Go.Proofs.YtjaafolhfihegaaGreatDoor
namespace Go.Proofs.YtjaafolhfihegaaGreatDoor
open Go.RowKit Go.Maps
open Re (rat ofI ofN)
section
variable{u v w a b c se sn:Sh}{U V W:Ex}{A B C:Nat}{p q r x y e n z:Rat}
end
abbrev cL:Ct:=⟨40,65464,21,13,71051⟩
section
variable(a b u v s:Rat)
end
end Go.Proofs.YtjaafolhfihegaaGreatDoor
namespace Go.Proofs.YtjaafolhfihegaaGreatDoor
open Go.RowKit Go.Maps Go.Stop Go.Extern
variable{T:Int}{b:Nat}
abbrev w1:Nat:=4607182418800017408
theorem sO(a:Int)(h:a.natAbs<2^53):∃r:Nat,(∀w,(convert 3 27 (.int .i64 a)).run Tryz.prog w=.ok (.float .f64 r) w)/\Iw r a:=⟨fl a,yB a,⟨⟨(pE h).1,(pE h).2.1⟩,(pE h).2.2⟩⟩
theorem amC(h:Iw b T)(h0:0<=T):0<=fv b:=by rw[h.2];exact Int.mul_nonneg h0 (Int.natCast_nonneg _)
theorem adK(h:Iw b T)(h0:T≠0):fv b≠0:=by
 rw[h.2];exact Int.mul_ne_zero h0 (by have:=nO;omega)
theorem mod_one{n:Int}(k:Int)(hn:0<n/\n<1000000):∃a b c s:Int,(∀w,(binOp .rem 3 (.int .i64 k) (.int .i64 n)).run Tryz.prog w=.ok (.int .i64 a) w)/\(∀w,(binOp .add 3 (.int .i64 a) (.int .i64 n)).run Tryz.prog w=.ok (.int .i64 b) w)/\
 (∀w,(binOp .rem 3 (.int .i64 b) (.int .i64 n)).run Tryz.prog w=.ok (.int .i64 c) w)/\(∀w,(binOp .add 3 (.int .i64 1) (.int .i64 c)).run Tryz.prog w=.ok (.int .i64 s) w)/\1<=s/\s<=n:=by
 obtain⟨a,b,c,h1,h2,h3,h4,h5⟩:=agK k hn;exact⟨a,b,c,1+c,h1,h2,h3,amA (by omega) rfl,by omega,by omega⟩
end Go.Proofs.YtjaafolhfihegaaGreatDoor
