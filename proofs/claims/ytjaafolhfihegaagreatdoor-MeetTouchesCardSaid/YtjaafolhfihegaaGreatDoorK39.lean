/- A part of the proof: contracts of functions and plain laws (AlvE, OpA, TwD, MwA). -/
import Derived.Test.YtjaafolhfihegaaGreatDoorK38
import Derived.Test.YtjaafolhfihegaaGreatDoorK36
import Derived.Test.YtjaafolhfihegaaGreatDoorK33
import Derived.IntWalk
import Derived.Test.YtjaafolhfihegaaGreatDoorK34
import Derived.Test.YtjaafolhfihegaaGreatDoorK37
set_option linter.unusedVariables false
set_option linter.unusedSimpArgs false
set_option maxHeartbeats 25600000
set_option maxRecDepth 100000
namespace Go.Proofs.YtjaafolhfihegaaGreatDoor
open Go.RowKit Go.Maps Go.Stop Go.Extern
open Re (rat ofI ofN)
open List renaming setIfInBounds_toArray->bhH,map_cons->bhI,map_nil->bhJ,set->bhK
theorem an6:fv 4607182418800017408=(1:Int)*(U74:Int):=alB
theorem apQ:fv 13830554455654793216=(-1:Int)*(U74:Int):=by kernel_rfl
theorem vT:(0:Int)<U74:=by have h:0<U74:=abN 1074;omega
theorem uU:FlOk 0:=⟨by decide,by decide⟩
theorem anP:dI 0 0 4611686018427387904:=⟨uU,uU,⟨by decide,by decide⟩,by rw[an5];exact Int.mul_nonneg (by decide) (Int.natCast_nonneg _)⟩
theorem afW:nI 4607182418800017408 0 4607182418800017408:=⟨⟨by decide,by decide⟩,uU,⟨by decide,by decide⟩,Or.inl (by rw[an6];have:=vT;omega)⟩
theorem ahZ:dY PT (cutF (.leaf 4607182418800017408) (.leaf 0) (.leaf 4607182418800017408) 0 0 4611686018427387904) 1/\oI PT (kH (.leaf 4607182418800017408) (.leaf 0) (.leaf 4607182418800017408) 0 0 4611686018427387904) (kI (.leaf 4607182418800017408) (.leaf 0) (.leaf 4607182418800017408) 0 0 4611686018427387904) (.leaf 4607182418800017408) (.leaf 13830554455654793216) 0/\oI PT (kF (.leaf 4607182418800017408) (.leaf 0) (.leaf 4607182418800017408) 0 0 4611686018427387904) (kG (.leaf 4607182418800017408) (.leaf 0) (.leaf 4607182418800017408) 0 0 4611686018427387904) (.leaf 4607182418800017408) (.leaf 4607182418800017408) 0:=by
 have F:=Fit.cutF (L:=[]) aeH aa5 aeH aa5 aa5 alC;have hL:Lok [.root (cutF (.leaf 4607182418800017408) (.leaf 0) (.leaf 4607182418800017408) 0 0 4611686018427387904)]:=F.lok Lok.nil (by kernel_rfl) (by rw[Re.zero_rat];exact Re.rat_le.2 (by grind));have o:=aeH (L:=[.root (cutF (.leaf 4607182418800017408) (.leaf 0) (.leaf 4607182418800017408) 0 0 4611686018427387904)]);have z:=aa5 (L:=[.root (cutF (.leaf 4607182418800017408) (.leaf 0) (.leaf 4607182418800017408) 0 0 4611686018427387904)]);have m:Fit [.root (cutF (.leaf 4607182418800017408) (.leaf 0) (.leaf 4607182418800017408) 0 0 4611686018427387904)] (.leaf 1 0) (.leaf 13830554455654793216) (rat (-1)):=Fit.leaf 1 (by decide) (by decide) apQ (by decide);have e:=(o.rsub (o.rmul z)).rsub (z.rmul z);have n:=(o.rmul o).radd (z.rmul z);have s:=Fit.rroot (Fit.cutF o z o z z alC) (q:=1) (by grind) (by grind) (List.mem_singleton.2 rfl);have mx:=z.radd (Fit.rdiv hL ((o.rmul e).radd (z.rmul s)) n (by grind) (z:=1) (by grind))
 have my:=z.radd (Fit.rdiv hL ((z.rmul e).rsub (o.rmul s)) n (by grind) (z:=-1) (by grind));have px:=z.radd (Fit.rdiv hL ((o.rmul e).rsub (z.rmul s)) n (by grind) (z:=1) (by grind));have py:=z.radd (Fit.rdiv hL ((z.rmul e).radd (o.rmul s)) n (by grind) (z:=1) (by grind));exact⟨F.pos (by grind) (by kernel_rfl),⟨0,0,trivial,(mx.rsub o).zero (by grind) (by kernel_rfl),fun _=>⟨trivial,(my.rsub m).zero (by grind) (by kernel_rfl)⟩,rfl⟩,0,0,trivial,(px.rsub o).zero (by grind) (by kernel_rfl),fun _=>⟨trivial,(py.rsub o).zero (by grind) (by kernel_rfl)⟩,rfl⟩
theorem anQ{w:World}(hT:Tab w)(htb:1<w.heap.size):
 Calls Tryz.prog 42 #[] w (RetV w (.bool true)):=by
 have HN:=hdd (afP (l:=[]) (Below.refl w.heap.size w) (fun p hp=>by cases hp) (by simp) hT htb);clear hT htb;have CM:=hdd ahZ;have PL:Hid (dI 0 0 4611686018427387904/\nI 4607182418800017408 0 4607182418800017408/\(∀w,Calls Tryz.prog 108 #[.float .f64 4607182418800017408,.float .f64 0] w (RetV w (.int .i64 1)))/\(∀w,Calls Tryz.prog 108 #[.float .f64 0,.float .f64 0] w (RetV w (.int .i64 0)))/\dY PT (cutF (.leaf 4607182418800017408) (.leaf 0) (.leaf 4607182418800017408) 0 0 4611686018427387904) 1):=hdd ⟨anP,afW,fun _=>afR afW.1 uU (by rw[an6,an4];have:=vT;omega),fun _=>afS uU uU rfl,CM.out.1⟩;go_enter Tryz.func42,Tryz.ntmps42
 go_wp2_with fail
 refine HN.out.mono ?_;rintro e W1⟨g,rfl,hR⟩;have R1:=hdd hR;clear hR HN;dsimp only
 go_upto_region 4 with fail
 refine Spec.go [.w (.c (.v (.pointer (some ⟨g,0,none⟩)))),.w (.agg ([.v (Value.int IntKind.i64 2),.v (.float .f64 0),.v (.float .f64 0),.v (Value.float FloatKind.f64 4611686018427387904)])),.w (.agg ([.v (Value.int IntKind.i64 1),.v (Value.float FloatKind.f64 4607182418800017408),.v (.float .f64 0),.v (Value.float FloatKind.f64 4607182418800017408)])),.tup [.c (.sl 4 2),.c (.v (.bool false)),.c (.v .nilIface)],.tup [.c (.sl 4 2),.c (.v (.bool false)),.c (.v .nilIface)],.w (.c (.sl 4 2)),.w (.c (.v (.bool false))),.w (.c (.v .nilIface)),.w (.c (.sl 4 2)),.w (.c (.v (.bool false))),.w (.c (.v .nilIface))] [3,3,3,3,3]
  [(0,(kH (.leaf 4607182418800017408) (.leaf 0) (.leaf 4607182418800017408) 0 0 4611686018427387904)),(1,(kI (.leaf 4607182418800017408) (.leaf 0) (.leaf 4607182418800017408) 0 0 4611686018427387904)),(2,(kF (.leaf 4607182418800017408) (.leaf 0) (.leaf 4607182418800017408) 0 0 4611686018427387904)),(3,(kG (.leaf 4607182418800017408) (.leaf 0) (.leaf 4607182418800017408) 0 0 4611686018427387904))] [⟨4,33,[.v (.pointer (some ⟨g,0,none⟩)),.id 0,.v (.pointer (some ⟨g,0,none⟩)),.id 1,.v (.pointer (some ⟨g,0,none⟩)),.id 2,.v (.pointer (some ⟨g,0,none⟩)),.id 3],none⟩]
  [0,0,0,33,0,0,0,0,0,0,0] [[],[],[],[0,1,2],rgn 4,rgn 5,rgn 5,rgn 5,rgn 6,[0,1,2,3,4,6],[0,1,2,3,4,7]] [(1,.w (.c (.v (.pointer (some ⟨g,0,none⟩)))))]
  [14,15,16,17,13,18,19,20,3,4,5] [] 11 33 [] [] R1.out
  (fun b hM=>aA (aA (aA (aA (aA (aA (aA (aA (aA (aA (aA aK
    (aB b))
    (aB b))
    (aB b))
    (iY b m0 (c_fb (ix:=[]) (ts:=[0,1,2,3]) hM (fun ν=>alO ⟨by decide,Or.inr ⟨by decide,by decide⟩⟩ (p:=(0,0,4611686018427387904,4607182418800017408,0,4607182418800017408)) PL.out.1 PL.out.2.1 PL.out.2.2.1 PL.out.2.2.2.1 PL.out.2.2.2.2))))
    (aB b))
    (aB b))
    (aB b))
    (aB b))
    (aB b))
    (aB b))
    (aB b)) ?_
 intro n1 n2 n3 n4 b5 ν W2 hR;have R2:=hdd hR;clear hR R1;simp only[putL,bhH,bhK,fs0,fs1,fsn,dSw,dSt,dWc,dWa,dv,di,dp,ds',bhI,bhJ,nuTn,nuT0,nuT1,nuU0,nuU1]
 go_upto_region 7 with fail
 refine Spec.go [.w (.c (.sl 4 2)),.w (.c (.ptr 4 0)),fT g 0 1,.w (.c (.v (.pointer (some ⟨g,0,none⟩)))),fT g 5 6,.tup [.c (.v (.bool true)),.c (.v .nilIface)],.tup [.c (.v (.bool true)),.c (.v .nilIface)],.w (.c (.v (.bool true))),.w (.c (.v .nilIface)),.w (.c (.v (.bool true))),.w (.c (.v .nilIface))] [4,4]
  [(0,(kH (.leaf 4607182418800017408) (.leaf 0) (.leaf 4607182418800017408) 0 0 4611686018427387904)),(1,(kI (.leaf 4607182418800017408) (.leaf 0) (.leaf 4607182418800017408) 0 0 4611686018427387904)),(2,(kF (.leaf 4607182418800017408) (.leaf 0) (.leaf 4607182418800017408) 0 0 4611686018427387904)),(3,(kG (.leaf 4607182418800017408) (.leaf 0) (.leaf 4607182418800017408) 0 0 4611686018427387904)),(5,(.leaf 4607182418800017408)),(6,(.leaf 13830554455654793216))] [⟨4,33,[.v (.pointer (some ⟨g,0,none⟩)),.id 0,.v (.pointer (some ⟨g,0,none⟩)),.id 1,.v (.pointer (some ⟨g,0,none⟩)),.id 2,.v (.pointer (some ⟨g,0,none⟩)),.id 3],none⟩]
  [0,0,0,0,2,2,0,0,0,0,0] [[],[0],[0,1],[],[3],rgn 5,rgn 6,rgn 7,rgn 7,rgn 8,[0,1,2,3,4,5,6,8]] [(2,.w (.c (.sl 4 2))),(1,.w (.c (.v (.pointer (some ⟨g,0,none⟩)))))]
  [32,33,34,35,36,37,31,38,39,6,7] [n1,n2,n3,n4,b5] 11 37 [] [] R2.out
  (fun b hM=>aA (aA (aA (aA (aA (aA (aA (aA (aA (aA (aA aK
    (aB b))
    (aB b))
    (aF b 4 m0))
    (aB b))
    (aJ b (c_at hM (by decide) (by decide) (by decide) (by decide) rfl rfl rfl rfl (by decide) rfl)))
    (aJ b (xZ hM m0 m1 rfl rfl m4 m5 rfl rfl rfl rfl rfl CM.out.2.1)))
    (aB b))
    (aB b))
    (aB b))
    (aB b))
    (aB b)) ?_
 intro n6 n7 ν W3 hR;have R3:=hdd hR;clear hR R2;simp only[putL,bhH,bhK,fs0,fs1,fsn,dSw,dSt,dWc,dWa,dv,di,dp,ds',bhI,bhJ,nuTn,nuT0,nuT1,nuU0,nuU1]
 go_upto_region 8 with fail
 refine Spec.go [.w (.c (.sl 4 2)),.w (.c (.ptr 4 4)),fT g 2 3,.w (.c (.v (.pointer (some ⟨g,0,none⟩)))),fT g 5 6,.tup [.c (.v (.bool true)),.c (.v .nilIface)],.tup [.c (.v (.bool true)),.c (.v .nilIface)],.w (.c (.v (.bool true))),.w (.c (.v .nilIface)),.w (.c (.v (.bool true))),.w (.c (.v .nilIface))] [4,4]
  [(0,(kH (.leaf 4607182418800017408) (.leaf 0) (.leaf 4607182418800017408) 0 0 4611686018427387904)),(1,(kI (.leaf 4607182418800017408) (.leaf 0) (.leaf 4607182418800017408) 0 0 4611686018427387904)),(2,(kF (.leaf 4607182418800017408) (.leaf 0) (.leaf 4607182418800017408) 0 0 4611686018427387904)),(3,(kG (.leaf 4607182418800017408) (.leaf 0) (.leaf 4607182418800017408) 0 0 4611686018427387904)),(5,(.leaf 4607182418800017408)),(6,(.leaf 4607182418800017408))] [⟨4,33,[.v (.pointer (some ⟨g,0,none⟩)),.id 0,.v (.pointer (some ⟨g,0,none⟩)),.id 1,.v (.pointer (some ⟨g,0,none⟩)),.id 2,.v (.pointer (some ⟨g,0,none⟩)),.id 3],none⟩]
  [0,0,0,0,2,2,0,0,0,0,0] [[],[0],[0,1],[],[3],rgn 5,rgn 6,rgn 7,rgn 7,rgn 8,[0,1,2,3,4,5,6,8]] [(2,.w (.c (.sl 4 2))),(1,.w (.c (.v (.pointer (some ⟨g,0,none⟩)))))]
  [41,42,43,44,45,46,40,47,48,8,9] [n1,n2,n3,n4,b5] 11 41 [true,true,true,true,false,false] [] R3.out
  (fun b hM=>aA (aA (aA (aA (aA (aA (aA (aA (aA (aA (aA aK
    (aB b))
    (aB b))
    (aF b 4 m0))
    (aB b))
    (aJ b (c_at hM (by decide) (by decide) (by decide) (by decide) rfl rfl rfl rfl (by decide) rfl)))
    (aJ b (xZ hM m2 m3 rfl rfl m4 m5 rfl rfl rfl rfl rfl CM.out.2.2)))
    (aB b))
    (aB b))
    (aB b))
    (aB b))
    (aB b)) ?_
 intro n8 n9 ν W4 hR;replace hR:Run (bs w) g 41 [((kH (.leaf 4607182418800017408) (.leaf 0) (.leaf 4607182418800017408) 0 0 4611686018427387904),n1),((kI (.leaf 4607182418800017408) (.leaf 0) (.leaf 4607182418800017408) 0 0 4611686018427387904),n2),((kF (.leaf 4607182418800017408) (.leaf 0) (.leaf 4607182418800017408) 0 0 4611686018427387904),n3),((kG (.leaf 4607182418800017408) (.leaf 0) (.leaf 4607182418800017408) 0 0 4611686018427387904),n4),((.leaf 4607182418800017408),n8),((.leaf 4607182418800017408),n9)] [(b5,.cells #[.pointer (some ⟨g,0,none⟩),.int .i64 ((n1:Nat):Int),.pointer (some ⟨g,0,none⟩),.int .i64 ((n2:Nat):Int),.pointer (some ⟨g,0,none⟩),.int .i64 ((n3:Nat):Int),.pointer (some ⟨g,0,none⟩),.int .i64 ((n4:Nat):Int)] 33)] W4:=hR;have R4:=hdd hR;clear hR R3;simp only[putL,bhH,bhK,fs0,fs1,fsn,dSw,dSt,dWc,dWa,dv,di,dp,ds',bhI,bhJ,nuTn,nuT0,nuT1,nuU0,nuU1];have HB:=hdd R4.out.below;clear R4 CM PL;go_wp2;go_ret;exact⟨rfl,HB.out⟩
end Go.Proofs.YtjaafolhfihegaaGreatDoor
namespace Go.Proofs.YtjaafolhfihegaaGreatDoor
open Go.RowKit Go.Maps
open Int renaming tmod_lt_of_pos->bhL,lt_tmod_of_pos->bhM
variable{n:Int}
section
variable{P:Program}{ρ:Operand->Value}{o:Oper}{t t2:TypeId}{x y:Operand}{a b v:Value}{w:World}
theorem bP{op:BinOp}(ho:o.op=.binOp op t x y t2)(hx:ρ x=a)(hy:ρ y=b)(hg:eqGuard op t x y a b=pure ())(h:(binOp op t a b).run P w=.ok v w):(execOp ρ o).run P w=.ok (.value v) w:=by
 unfold execOp;rw[ho];simp only[hx,hy,hg];generalize binOp op t a b=q at h|-;simp[go_sem,h]
theorem lL(ho:o.op=.convert t t2 x)(hx:ρ x=a)(h:(convert t t2 a).run P w=.ok v w):(execOp ρ o).run P w=.ok (.value v) w:=by
 unfold execOp;rw[ho];simp only[hx];generalize convert t t2 a=q at h|-;simp[go_sem,h]
end
theorem aa6{k:Int}(hn:¬n=0)(w:World):(binOp .rem 3 (.int .i64 k) (.int .i64 n)).run Tryz.prog w=.ok (.int .i64 (k.tmod n)) w:=by
 simp[go_sem,hn]
theorem afX{a b:Int}(h:IntKind.i64.wrap (a+b)=a+b)(w:World):(binOp .add 3 (.int .i64 a) (.int .i64 b)).run Tryz.prog w=.ok (.int .i64 (a+b)) w:=by
 simp[go_sem,h]
theorem yA(a:Int)(w:World):(convert 3 27 (.int .i64 a)).run Tryz.prog w=.ok (.float .f64 (fl a)) w:=by
 simp[go_sem];rfl
theorem alQ{d:Int}(k:Int)(hn:0<n/\n<1000000)(hd:0<=d/\d<1000000):∃K:Int,IntKind.i64.wrap (k.tmod n+n)=k.tmod n+n/\IntKind.i64.wrap (d+(k.tmod n+n).tmod n)=K/\d<=K/\K<d+n:=by
 have h1:=bhM k hn.1;have h2:=bhL k hn.1;have h3:0<=(k.tmod n+n).tmod n:=Int.tmod_nonneg _ (by omega);have h4:=bhL (k.tmod n+n) hn.1;exact⟨_,IntWalk.i64_in _ (by omega),IntWalk.i64_in _ (by omega),by omega,by omega⟩
theorem alR(k:Int)(hn:0<n):∃K:Int,(∀w,(binOp .rem 3 (.int .i64 k) (.int .i64 n)).run Tryz.prog w=.ok (.int .i64 K) w)/\-n<K/\K<n:=
 ⟨_,fun w=>aa6 (by omega) w,bhM k hn,bhL k hn⟩
theorem sH{a b:Int}(h:IntKind.i64.wrap (a*b)=a*b)(w:World):(binOp .mul 3 (.int .i64 a) (.int .i64 b)).run Tryz.prog w=.ok (.int .i64 (a*b)) w:=by
 simp[go_sem,h]
end Go.Proofs.YtjaafolhfihegaaGreatDoor
namespace Go.Proofs.YtjaafolhfihegaaGreatDoor
open Go.RowKit Go.Maps Go.Stop Go.Extern
open Go.IntWalk renaming i64_in->bhN
variable{T a r u v x:Int}{b m wa wb wr wu wv y:Nat}
abbrev w25:Nat:=4627730092099895296
abbrev w1:Nat:=4607182418800017408
theorem apR:Iw w25 25:=⟨⟨by decide,by decide⟩,by kernel_rfl⟩
theorem iw_1:Iw w1 1:=⟨⟨by decide,by decide⟩,alB⟩
theorem b53(h:x.natAbs<=m)(k:m<2^53:=by decide):x.natAbs<2^53:=Nat.lt_of_le_of_lt h k
theorem nsub{y:Int}{n:Nat}(h:x.natAbs<=m)(g:y.natAbs<=n):(x-y).natAbs<=m+n:=by omega
theorem uA{a:Nat}(ha:FlOk a)(hb:FlOk b):∃q:Int,∀w,Calls Tryz.prog 108 #[.float .f64 a,.float .f64 b] w (RetV w (.int .i64 q)):=by
 rcases Int.lt_trichotomy (fv a) (fv b)with h|h|h
 . exact⟨-1,fun _=>anK ha hb h⟩
 . exact⟨0,fun _=>afS ha hb h⟩
 . exact⟨1,fun _=>afR ha hb h⟩
theorem apS{x:Nat}{b:Int}(hx:Iw x a)(hy:Iw y b)(h:a≠b):fv x≠fv y:=by
 rw[hx.2,hy.2];intro e;exact h (Int.eq_of_mul_eq_mul_right (by have:=vT;omega) e)
theorem alS{x:Nat}{b:Int}(hx:Iw x a)(hy:Iw y b)(h:a≠b):(FloatKind.f64.format.order x y==some Ordering.eq)=false:=by
 rw[lW hx.1.2.num hy.1.2.num];refine decide_eq_false fun e=>apS hx hy h ?_;unfold fv;rw[e]
theorem aeK{b:Int}(hA:Iw wa a)(hB:Iw wb b)(hU:Iw wu u)(hV:Iw wv v)(ba:a.natAbs<=19)(bb:b.natAbs<=19)(bu:u.natAbs<=36)(bv:v.natAbs<=36):
 ∃wp wq wl t1 t2:Nat,Op2 .add wa wu wp/\Op2 .add wb wv wq/\Op2 .mul wu wp t1/\Op2 .mul wv wq t2/\Op2 .add t1 t2 wl/\Iw wp (a+u)/\Iw wq (b+v)/\Iw wl (u*(a+u)+v*(b+v)):=by
 obtain⟨wp,o1,i1⟩:=qN hA hU (b53 (nadd ba bu));obtain⟨wq,o2,i2⟩:=qN hB hV (b53 (nadd bb bv));obtain⟨t1,o3,i3⟩:=iZ hU i1 (b53 (nab bu (nadd ba bu)));obtain⟨t2,o4,i4⟩:=iZ hV i2 (b53 (nab bv (nadd bb bv)));obtain⟨wl,o5,i5⟩:=qN i3 i4 (b53 (nadd (nab bu (nadd ba bu)) (nab bv (nadd bb bv))));exact⟨wp,wq,wl,t1,t2,o1,o2,o3,o4,o5,i1,i2,i5⟩
theorem ah0{ws:Nat}{b s R:Int}(hA:Iw wa a)(hB:Iw wb b)(hU:Iw wu u)(hV:Iw wv v)(hS:Iw ws s)(hR:Iw wr R)(ba:a.natAbs<=19)(bb:b.natAbs<=19)(bu:u.natAbs<=36)(bv:v.natAbs<=36)(bs:s.natAbs<=4)(bR:R.natAbs<=81):
 ∃t1 t2 oa ob wk d m1 oc n ia ib n1 n2 k1 ic:Nat,Op2 .mul ws wu t1/\Op2 .add wa t1 oa/\Op2 .mul ws wv t2/\Op2 .add wb t2 ob/\Op2 .mul w25 wr wk/\Op2 .sub ws w1 d/\Op2 .mul wk d m1/\Op2 .mul m1 d oc/\Op2 .sub w1 ws n/\Op2 .mul n wu n1/\Op2 .add wa n1 ia/\Op2 .mul n wv n2/\Op2 .add wb n2 ib/\Op2 .mul wk ws k1/\Op2 .mul k1 ws ic/\
  Iw oa (a+s*u)/\Iw ob (b+s*v)/\Iw oc (25*R*(s-1)*(s-1))/\Iw ia (a+(1-s)*u)/\Iw ib (b+(1-s)*v)/\Iw ic (25*R*s*s):=by
 have one:(1:Int).natAbs<=1:=by decide
 have tf:(25:Int).natAbs<=25:=by decide
 obtain⟨t1,o1,i1⟩:=iZ hS hU (b53 (nab bs bu));obtain⟨oa,o2,i2⟩:=qN hA i1 (b53 (nadd ba (nab bs bu)));obtain⟨t2,o3,i3⟩:=iZ hS hV (b53 (nab bs bv));obtain⟨ob,o4,i4⟩:=qN hB i3 (b53 (nadd bb (nab bs bv)));obtain⟨wk,o5,i5⟩:=iZ apR hR (b53 (nab tf bR));obtain⟨d,o6,i6⟩:=alL hS iw_1 (b53 (nsub bs one));obtain⟨m1,o7,i7⟩:=iZ i5 i6 (b53 (nab (nab tf bR) (nsub bs one)));obtain⟨oc,o8,i8⟩:=iZ i7 i6 (b53 (nab (nab (nab tf bR) (nsub bs one)) (nsub bs one)));obtain⟨n,o9,i9⟩:=alL iw_1 hS (b53 (nsub one bs));obtain⟨n1,p1,j1⟩:=iZ i9 hU (b53 (nab (nsub one bs) bu));obtain⟨ia,p2,j2⟩:=qN hA j1 (b53 (nadd ba (nab (nsub one bs) bu)));obtain⟨n2,p3,j3⟩:=iZ i9 hV (b53 (nab (nsub one bs) bv));obtain⟨ib,p4,j4⟩:=qN hB j3 (b53 (nadd bb (nab (nsub one bs) bv)));obtain⟨k1,p5,j5⟩:=iZ i5 hS (b53 (nab (nab tf bR) bs));obtain⟨ic,p6,j6⟩:=iZ j5 hS (b53 (nab (nab (nab tf bR) bs) bs));exact⟨t1,t2,oa,ob,wk,d,m1,oc,n,ia,ib,n1,n2,k1,ic,o1,o2,o3,o4,o5,o6,o7,o8,o9,p1,p2,p3,p4,p5,p6,i2,i4,i8,j2,j4,j6⟩
theorem sI(a:Int)(h:a.natAbs<2^53):∃r:Nat,(∀w,(convert 3 27 (.int .i64 a)).run Tryz.prog w=.ok (.float .f64 r) w)/\Iw r a:=⟨fl a,yA a,⟨⟨(nH h).1,(nH h).2.1⟩,(nH h).2.2⟩⟩
theorem anR(k:Int):∃a b s c:Int,(∀w,(binOp .rem 3 (.int .i64 k) (.int .i64 3)).run Tryz.prog w=.ok (.int .i64 a) w)/\(∀w,(binOp .add 3 (.int .i64 a) (.int .i64 3)).run Tryz.prog w=.ok (.int .i64 b) w)/\(∀w,(binOp .rem 3 (.int .i64 b) (.int .i64 3)).run Tryz.prog w=.ok (.int .i64 c) w)/\(∀w,(binOp .add 3 (.int .i64 2) (.int .i64 c)).run Tryz.prog w=.ok (.int .i64 s) w)/\2<=s/\s<=4:=by
 have h1:=Int.lt_tmod_of_pos k (show(0:Int)<3 by omega);have h2:=Int.tmod_lt_of_pos k (show(0:Int)<3 by omega);have h3:0<=(k.tmod 3+3).tmod 3:=Int.tmod_nonneg _ (by omega);have h4:=Int.tmod_lt_of_pos (k.tmod 3+3) (show(0:Int)<3 by omega);exact⟨_,_,_,_,aa6 (by omega),afX (bhN _ (by omega)),aa6 (by omega),afX (bhN _ (by omega)),by omega,by omega⟩
theorem anS(h:Iw b T):Iw (b ^^^ 2^63) (-T):=by
 obtain⟨h1,h2,h3⟩:=nQ h.1.1;refine⟨⟨h1,by unfold fin;rw[h2];exact h.1.2⟩,?_⟩;unfold fv;rw[h3,vD,Int.neg_mul];exact congrArg (- ·) h.2
theorem legs(c:Bool)(h:1<=r)(h9:r<=9):∃(u v:Int) (wu wv:Nat),(c=true/\fl (4*r) ^^^ 2^63=wu/\fl (3*r)=wv\/c=false/\fl (3*r)=wu/\fl (4*r)=wv)/\Iw wu u/\Iw wv v/\25*r*r=u*u+v*v/\u≠0/\v≠0/\u.natAbs<=36/\v.natAbs<=36:=by
 obtain⟨a1,a2⟩:=show Iw (fl (3*r)) (3*r) from⟨⟨(nH (by omega)).1,(nH (by omega)).2.1⟩,(nH (by omega)).2.2⟩;obtain⟨b1,b2⟩:=show Iw (fl (4*r)) (4*r) from⟨⟨(nH (by omega)).1,(nH (by omega)).2.1⟩,(nH (by omega)).2.2⟩
 cases c
 . exact⟨3*r,4*r,_,_,Or.inr ⟨rfl,rfl,rfl⟩,⟨a1,a2⟩,⟨b1,b2⟩,by grind,by omega,by omega,by omega,by omega⟩
 . exact⟨-(4*r),3*r,_,_,Or.inl ⟨rfl,rfl,rfl⟩,anS ⟨b1,b2⟩,⟨a1,a2⟩,by grind,by omega,by omega,by omega,by omega⟩
theorem alT(h:Iw b T)(h0:0<=T):0<=fv b:=by rw[h.2];exact Int.mul_nonneg h0 (Int.natCast_nonneg _)
theorem apT(h:Iw b T)(h0:T≠0):fv b≠0:=by
 rw[h.2];exact Int.mul_ne_zero h0 (by have:=vT;omega)
theorem alU{wc:Nat}(h:1<=r)(h9:r<=9)(hc:∀w,(convert 3 27 (.int .i64 (25*r*r))).run Tryz.prog w=.ok (.float .f64 wc) w)(hr:∀w,(convert 3 27 (.int .i64 (r*r))).run Tryz.prog w=.ok (.float .f64 wr) w):
 (∀w,(binOp .mul 3 (.int .i64 25) (.int .i64 r)).run Tryz.prog w=.ok (.int .i64 (25*r)) w)/\(∀w,(binOp .mul 3 (.int .i64 (25*r)) (.int .i64 r)).run Tryz.prog w=.ok (.int .i64 (25*r*r)) w)/\(∀w,(convert 3 27 (.int .i64 (25*r*r))).run Tryz.prog w=.ok (.float .f64 wc) w)/\
 (∀w,(binOp .mul 3 (.int .i64 3) (.int .i64 r)).run Tryz.prog w=.ok (.int .i64 (3*r)) w)/\(∀w,(convert 3 27 (.int .i64 (3*r))).run Tryz.prog w=.ok (.float .f64 (fl (3*r))) w)/\(∀w,(binOp .mul 3 (.int .i64 4) (.int .i64 r)).run Tryz.prog w=.ok (.int .i64 (4*r)) w)/\(∀w,(convert 3 27 (.int .i64 (4*r))).run Tryz.prog w=.ok (.float .f64 (fl (4*r))) w)/\
 (∀w,(binOp .mul 3 (.int .i64 r) (.int .i64 r)).run Tryz.prog w=.ok (.int .i64 (r*r)) w)/\(∀w,(convert 3 27 (.int .i64 (r*r))).run Tryz.prog w=.ok (.float .f64 wr) w):=by
 have h1:=Int.mul_le_mul h9 h9 (by omega) (by omega);have h2:=Int.mul_nonneg (show 0<=r by omega) (show 0<=r by omega);have e:25*r*r=25*(r*r):=Int.mul_assoc _ _ _;exact⟨sH (bhN _ (by omega)),sH (bhN _ (by omega)),hc,sH (bhN _ (by omega)),yA _,sH (bhN _ (by omega)),yA _,sH (bhN _ (by omega)),hr⟩
theorem alV(b:Nat)(w:World):(Op.unary UnOp.neg (.float .f64 b)).run Tryz.prog w=.ok (.float .f64 (b ^^^ 2^63)) w:=by kernel_rfl
end Go.Proofs.YtjaafolhfihegaaGreatDoor
