/- A part of the proof: contracts of functions and plain laws (MtB, MtC, QlM, FltC, FeC, QlN, RcA, SymF, SnA). -/
import Derived.Test.YtjaafolhfihegaaGreatDoorK33
import Derived.Test.YtjaafolhfihegaaGreatDoorK08
import Derived.WalkKit
import Derived.Laws.NewFold
import Derived.Test.YtjaafolhfihegaaGreatDoorK31
set_option linter.unusedVariables false
set_option linter.unusedSimpArgs false
set_option maxHeartbeats 25600000
set_option maxRecDepth 100000
namespace Go.Proofs.YtjaafolhfihegaaGreatDoor
open Go.RowKit Go.Maps
section
variable(U V W:Ex)(a b c:Nat)
end
end Go.Proofs.YtjaafolhfihegaaGreatDoor
namespace Go.Proofs.YtjaafolhfihegaaGreatDoor
open Go.RowKit Go.Maps
open Re (rat ofI ofN)
abbrev w3:Nat:=4613937818241073152
abbrev w4:Nat:=4616189618054758400
end Go.Proofs.YtjaafolhfihegaaGreatDoor
namespace Go.Proofs.YtjaafolhfihegaaGreatDoor
open Ieee
end Go.Proofs.YtjaafolhfihegaaGreatDoor
namespace Go.Proofs.YtjaafolhfihegaaGreatDoor
open Go.RowKit Go.Maps Ieee
variable{T:Int}
theorem aj7{b:Nat}(h:Iw b T):fin b/\fv b=T*(2^(1074-0):Nat):=by
 obtain⟨u,hu,hU⟩:=iG;exact⟨h.1.2,by rw[h.2,hU,show 1074-0=u by omega]⟩
theorem aoT{r:Nat}(h1:r<2^64)(h2:fin r)(h3:fv r=T*(2^(1074-0):Nat)):Iw r T:=by
 obtain⟨u,hu,hU⟩:=iG;exact⟨⟨h1,h2⟩,by rw[h3,hU,show 1074-0=u by omega]⟩
section
variable{x y:Nat}{a b:Int}
abbrev Op2(o:BinOp)(x y r:Nat):Prop:=∀w,(binOp o 27 (.float .f64 x) (.float .f64 y)).run Tryz.prog w=.ok (.float .f64 r) w
theorem aj8(hx:Iw x a)(hy:Iw y b)(h:(a+b).natAbs<2^53):∃r,Op2 .add x y r/\Iw r (a+b):=by
 obtain⟨f1,v1⟩:=aj7 hx;obtain⟨f2,v2⟩:=aj7 hy;obtain⟨r,h1,h2,h3,h4⟩:=agQ (i:=0) f1 f2 v1 v2 h;exact⟨r,fun w=>run_float_arith w .add 27 .f64 x y r h1,aoT h2 h3 h4⟩
end
theorem Iw.fit {b:Nat}{L:List Ex}(h:Iw b T)(n:Nat)(hT:T.natAbs<2^n)(hn:n<=53):Fit L (.leaf n 0) (.leaf b) (Re.rat (T:Rat)):=Fit.leaf n h.1.1 h.1.2 h.2 hT
end Go.Proofs.YtjaafolhfihegaaGreatDoor
namespace Go.Proofs.YtjaafolhfihegaaGreatDoor
open Go.RowKit Go.Maps
open Re (rat ofI ofN)
theorem nlt{x:Int}{m n:Nat}(h:x.natAbs<=m)(k:m<2^n:=by decide):x.natAbs<2^n:=Nat.lt_of_le_of_lt h k
section
variable{u v w a b c se sn:Sh}{U V W:Ex}{A B C:Nat}{p q r x y e n z:Rat}
end
abbrev cL:Ct:=⟨40,65464,21,13,71051⟩
section
variable(a b u v s:Rat)
end
end Go.Proofs.YtjaafolhfihegaaGreatDoor
namespace Go.Proofs.YtjaafolhfihegaaGreatDoor
open Go.RowKit Go.Maps
open List renaming setIfInBounds_toArray->bgR,map_cons->bgS,map_nil->bgT,set->bgU
variable{A1 A2 B1 B2 X1 X2:Ex}{J m n:Nat}
def kX(J:Nat):Nat:=([4617315517961601024,4616189618054758400,4613937818241073152,0,13837309855095848960,13839561654909534208,13840687554816376832,13839561654909534208,13837309855095848960,0,4613937818241073152,4616189618054758400]:List Nat).getD J 0
def kY(J:Nat):Nat:=([0,4613937818241073152,4616189618054758400,4617315517961601024,4616189618054758400,4613937818241073152,0,13837309855095848960,13839561654909534208,13840687554816376832,13839561654909534208,13837309855095848960]:List Nat).getD J 0
def kXi(J:Nat):Int:=([5,4,3,0,-3,-4,-5,-4,-3,0,3,4]:List Int).getD J 0
def kYi(J:Nat):Int:=([0,3,4,5,4,3,0,-3,-4,-5,-4,-3]:List Int).getD J 0
theorem amU:Iw 13840687554816376832 (-5):=⟨⟨by decide,by decide⟩,by kernel_rfl⟩
theorem aeT:Iw 13839561654909534208 (-4):=⟨⟨by decide,by decide⟩,by kernel_rfl⟩
theorem aeU:Iw 13837309855095848960 (-3):=⟨⟨by decide,by decide⟩,by kernel_rfl⟩
theorem aeV:Iw 0 (0):=⟨⟨by decide,by decide⟩,by kernel_rfl⟩
theorem aeW:Iw 4613937818241073152 (3):=⟨⟨by decide,by decide⟩,by kernel_rfl⟩
theorem aeX:Iw 4616189618054758400 (4):=⟨⟨by decide,by decide⟩,by kernel_rfl⟩
theorem amV:Iw 4617315517961601024 (5):=⟨⟨by decide,by decide⟩,by kernel_rfl⟩
theorem amB(h:J<12):([.float .f64 4617315517961601024,.float .f64 0,.float .f64 4616189618054758400,.float .f64 4613937818241073152,.float .f64 4613937818241073152,.float .f64 4616189618054758400,.float .f64 0,.float .f64 4617315517961601024,.float .f64 13837309855095848960,.float .f64 4616189618054758400,.float .f64 13839561654909534208,.float .f64 4613937818241073152,.float .f64 13840687554816376832,.float .f64 0,.float .f64 13839561654909534208,.float .f64 13837309855095848960,.float .f64 13837309855095848960,.float .f64 13839561654909534208,.float .f64 0,.float .f64 13840687554816376832,.float .f64 4613937818241073152,.float .f64 13839561654909534208,.float .f64 4616189618054758400,.float .f64 13837309855095848960]:List Value)[J*2]? =some (.float .f64 (kX J))/\([.float .f64 4617315517961601024,.float .f64 0,.float .f64 4616189618054758400,.float .f64 4613937818241073152,.float .f64 4613937818241073152,.float .f64 4616189618054758400,.float .f64 0,.float .f64 4617315517961601024,.float .f64 13837309855095848960,.float .f64 4616189618054758400,.float .f64 13839561654909534208,.float .f64 4613937818241073152,.float .f64 13840687554816376832,.float .f64 0,.float .f64 13839561654909534208,.float .f64 13837309855095848960,.float .f64 13837309855095848960,.float .f64 13839561654909534208,.float .f64 0,.float .f64 13840687554816376832,.float .f64 4613937818241073152,.float .f64 13839561654909534208,.float .f64 4616189618054758400,.float .f64 13837309855095848960]:List Value)[J*2+1]? =some (.float .f64 (kY J)):=by
 have:J=0\/J=1\/J=2\/J=3\/J=4\/J=5\/J=6\/J=7\/J=8\/J=9\/J=10\/J=11:=by omega
 rcases this with rfl|rfl|rfl|rfl|rfl|rfl|rfl|rfl|rfl|rfl|rfl|rfl<;>exact⟨rfl,rfl⟩
theorem amC(h:J<12):Iw (kX J) (kXi J)/\Iw (kY J) (kYi J):=by
 have:J=0\/J=1\/J=2\/J=3\/J=4\/J=5\/J=6\/J=7\/J=8\/J=9\/J=10\/J=11:=by omega
 rcases this with rfl|rfl|rfl|rfl|rfl|rfl|rfl|rfl|rfl|rfl|rfl|rfl
 . exact⟨amV,aeV⟩
 . exact⟨aeX,aeW⟩
 . exact⟨aeW,aeX⟩
 . exact⟨aeV,amV⟩
 . exact⟨aeU,aeX⟩
 . exact⟨aeT,aeW⟩
 . exact⟨amU,aeV⟩
 . exact⟨aeT,aeU⟩
 . exact⟨aeU,aeT⟩
 . exact⟨aeV,amU⟩
 . exact⟨aeW,aeT⟩
 . exact⟨aeX,aeU⟩
theorem amD(h:J<12):(kXi J).natAbs<=5/\(kYi J).natAbs<=5:=by
 have:J=0\/J=1\/J=2\/J=3\/J=4\/J=5\/J=6\/J=7\/J=8\/J=9\/J=10\/J=11:=by omega
 rcases this with rfl|rfl|rfl|rfl|rfl|rfl|rfl|rfl|rfl|rfl|rfl|rfl<;>decide
theorem yO{w:World}{k:Int}(hJ:J<12)(hk:(k.tmod 12+12).tmod 12=(J:Int)):Calls Tryz.prog 51 #[.int .i64 k] w (RetV w (.tuple #[.float .f64 (kX J),.float .f64 (kY J)])):=by
 obtain⟨q1,q2⟩:=amB hJ;have ht:-12<k.tmod 12/\k.tmod 12<12:=⟨Int.lt_tmod_of_pos _ (by decide),Int.tmod_lt_of_pos _ (by decide)⟩;have hw:IntKind.i64.wrap (k.tmod 12+12)=k.tmod 12+12:=IntWalk.i64_in _ (by omega);have j1:(J:Int)<12:=by omega
 obtain⟨w2,hw2,hb2,hs2,b1,b2⟩:=pro2 w (.cells #[.float .f64 4617315517961601024,.float .f64 0,.float .f64 4616189618054758400,.float .f64 4613937818241073152,.float .f64 4613937818241073152,.float .f64 4616189618054758400,.float .f64 0,.float .f64 4617315517961601024,.float .f64 13837309855095848960,.float .f64 4616189618054758400,.float .f64 13839561654909534208,.float .f64 4613937818241073152,.float .f64 13840687554816376832,.float .f64 0,.float .f64 13839561654909534208,.float .f64 13837309855095848960,.float .f64 13837309855095848960,.float .f64 13839561654909534208,.float .f64 0,.float .f64 13840687554816376832,.float .f64 4613937818241073152,.float .f64 13839561654909534208,.float .f64 4616189618054758400,.float .f64 13837309855095848960] 99) (.cells #[.float .f64 0,.float .f64 0] 99);have HB:=hdd hb2;have B2:=hdd b2;obtain⟨d0,d1,f0,f1⟩:=aF b2;have hst:=aY;clear ht hJ hb2 hs2 b1 b2;generalize kX J=X at*;generalize kY J=Y at*;go_enter Tryz.func51,Tryz.ntmps51
 go_wp2;have F:=set2 B2.out (.float .f64 X) (.float .f64 Y);have HB3:Hid (Below w.heap.size w ((w2.setCell ⟨w.heap.size+1,0,none⟩ (.float .f64 X)).setCell ⟨w.heap.size+1,1,none⟩ (.float .f64 Y))):=hdd ((HB.out.setCell (Nat.le_add_right _ 1) _).setCell (Nat.le_add_right _ 1) _);obtain⟨x0,x1,-,-⟩:=aF F
 go_quiet (fail)
 go_wp2
 go_ret2
 exact⟨rfl,HB3.out.os,HB3.out.tape,HB3.out.output,HB3.out.size,HB3.out.block⟩
section
variable{E:Type}{S:Spec E}{W:Wk E}{P:Program}{Q:Exit->Act->World->Prop}{c0:Nat}{a0:Act}{ν0:Nat->Nat}{i:Nat}{o:Oper}
end
abbrev arcC(g a b c i j k l:Nat):List SC:=curC 2 a b c++aR g i j++aR g k l
abbrev dE(g i j k l:Nat):List SC:=aR g i j++aR g k l
abbrev arcV(g a b c i j k l:Nat):Value:=.agg #[.int .i64 2,.float .f64 a,.float .f64 b,.float .f64 c,.pointer (some ⟨g,0,none⟩),.int .i64 ((i:Nat):Int),.pointer (some ⟨g,0,none⟩),.int .i64 ((j:Nat):Int),.pointer (some ⟨g,0,none⟩),.int .i64 ((k:Nat):Int),.pointer (some ⟨g,0,none⟩),.int .i64 ((l:Nat):Int)]
section
variable{g a b c i j k l i' j' k' l' i'' j'' k'' l'':Nat}{ν:Nat->Nat}
theorem dA12:(SW.agg (arcC g a b c i j k l)).den ν=arcV g a b c (ν i) (ν j) (ν k) (ν l):=rfl
theorem dP8:(SW.agg (dE g i j k l)).den ν=.agg #[.pointer (some ⟨g,0,none⟩),.int .i64 ((ν i:Nat):Int),.pointer (some ⟨g,0,none⟩),.int .i64 ((ν j:Nat):Int),.pointer (some ⟨g,0,none⟩),.int .i64 ((ν k:Nat):Int),.pointer (some ⟨g,0,none⟩),.int .i64 ((ν l:Nat):Int)]:=rfl
theorem dP24:(SW.agg (dE g i j k l++dE g i' j' k' l'++dE g i'' j'' k'' l'')).den ν=.agg #[.pointer (some ⟨g,0,none⟩),.int .i64 ((ν i:Nat):Int),.pointer (some ⟨g,0,none⟩),.int .i64 ((ν j:Nat):Int),.pointer (some ⟨g,0,none⟩),.int .i64 ((ν k:Nat):Int),.pointer (some ⟨g,0,none⟩),.int .i64 ((ν l:Nat):Int),.pointer (some ⟨g,0,none⟩),.int .i64 ((ν i':Nat):Int),.pointer (some ⟨g,0,none⟩),.int .i64 ((ν j':Nat):Int),.pointer (some ⟨g,0,none⟩),.int .i64 ((ν k':Nat):Int),.pointer (some ⟨g,0,none⟩),.int .i64 ((ν l':Nat):Int),.pointer (some ⟨g,0,none⟩),.int .i64 ((ν i'':Nat):Int),.pointer (some ⟨g,0,none⟩),.int .i64 ((ν j'':Nat):Int),.pointer (some ⟨g,0,none⟩),.int .i64 ((ν k'':Nat):Int),.pointer (some ⟨g,0,none⟩),.int .i64 ((ν l'':Nat):Int)]:=rfl
end
theorem aj9{g i j k l:Nat}{c1 c2 c3 q:Int}(h1:gM PT A1 A2 B1 B2 c1)(h2:gM PT X1 X2 A1 A2 c2)(h3:gM PT X1 X2 B1 B2 c3)(h4:rR PT A1 A2 X1 X2 B1 B2 q):FnOk 100 g 13 #[dI g i j,dI g k l,dI g m n] [(A1,i),(A2,j),(B1,k),(B2,l),(X1,m),(X2,n)] (fun ks=>.tuple #[.bool ((c1==0)||(c2==0)||(c3==0)||(q==1)),.nilIface]) []:=FnOk.of fun w B ns N hR hN=>by
 have R1:=hdd hR;clear hR;go_enter Tryz.func100,Tryz.ntmps100
 go_upto_region 0 with fail
 refine Spec.go [.w (.c (.ptr 6 0)),.w (.c (.ptr 7 0)),.w (.c (.ptr 8 0)),.w (.c (.v (Value.bool false))),.w (.c (.v Value.nilIface))] [0,1,2]
  [(0,A1),(1,A2),(2,B1),(3,B2),(4,X1),(5,X2)] [⟨6,33,aR g 0 1,none⟩,⟨7,33,aR g 2 3,none⟩,⟨8,33,aR g 4 5,none⟩]
  [0,0,0,0,0] [[],[],[],[],[]] [(0,bD g 0 1),(1,bD g 2 3),(2,bD g 4 5)]
  [4,5,6,7,8] [i,j,k,l,m,n] 5 N [] [] R1.out
  (fun b hM=>aA (aA (aA (aA (aA aM
    (bI b m0))
    (bI b m1))
    (bI b m2))
    (aD b))
    (aD b)) ?_
 intro b1 b2 b3 ν W2 hR;have R2:=hdd hR;clear hR R1;simp only[putL,bgR,bgU,fs0,fs1,fsn,dSw,dSt,dWc,dWa,dv,di,dp,ds',bgS,bgT,nuTn,nuT0,nuT1,nuU0,nuU1,dA12,dP8,dP24]
 go_upto_region 1 with fail
 refine Spec.go [bD g 0 1,bD g 2 3,.w (.agg ((dE g 0 1 2 3))),bD g 4 5,bD g 0 1,.w (.agg ((dE g 4 5 0 1))),bD g 4 5,bD g 2 3,.w (.agg ((dE g 4 5 2 3))),.w (.agg (((dE g 0 1 2 3)++(dE g 4 5 0 1)++(dE g 4 5 2 3)))),.w (.c (.v (Value.int IntKind.i64 0)))] []
  [(0,A1),(1,A2),(2,B1),(3,B2),(4,X1),(5,X2)] [⟨6,33,aR g 0 1,none⟩,⟨7,33,aR g 2 3,none⟩,⟨8,33,aR g 4 5,none⟩]
  [0,0,0,0,0,0,0,0,0,0,0] [[],[],[0,1],[],[],[3,4],[],[],[6,7],rgn 9,[]] [(3,.w (.c (.ptr 6 0))),(4,.w (.c (.ptr 7 0))),(5,.w (.c (.ptr 8 0)))]
  [15,16,17,18,19,20,21,22,23,24,25] [i,j,k,l,m,n,b1,b2,b3] 11 N [] [] R2.out
  (fun b hM=>aA (aA (aA (aA (aA (aA (aA (aA (aA (aA (aA aM
    (aL b 4 m0))
    (aL b 4 m1))
    (aD b))
    (aL b 4 m2))
    (aL b 4 m0))
    (aD b))
    (aL b 4 m2))
    (aL b 4 m1))
    (aD b))
    (aD b))
    (aD b)) ?_
 intro ν W3 hR;have R3:=hdd hR;clear hR R2;simp only[putL,bgR,bgU,fs0,fs1,fsn,dSw,dSt,dWc,dWa,dv,di,dp,ds',bgS,bgT,nuTn,nuT0,nuT1,nuU0,nuU1,dA12,dP8,dP24];go_wp2_with fail
 refine wp_loop_rounds 4 ?_;rw[rounds_succ]
 go_upto_region 3 with fail
 refine Spec.go [.w (.agg ((dE g 0 1 2 3))),.w (.c (.ptr 9 0)),noS] [1]
  [(0,A1),(1,A2),(2,B1),(3,B2),(4,X1),(5,X2)] [⟨6,33,aR g 0 1,none⟩,⟨7,33,aR g 2 3,none⟩,⟨8,33,aR g 4 5,none⟩,⟨9,105,[.v (.pointer none),.v (.int .i64 0),.v (.pointer none),.v (.int .i64 0),.v (.pointer none),.v (.int .i64 0),.v (.pointer none),.v (.int .i64 0)],some (2,(dE g 0 1 2 3))⟩]
  [0,0,0] [[],[],[0,1]] [(23,.w (.agg (((dE g 0 1 2 3)++(dE g 4 5 0 1)++(dE g 4 5 2 3))))),(24,.w (.c (.v (.int .i64 0))))]
  [27,10,0] [i,j,k,l,m,n,b1,b2,b3] 3 N [] [] R3.out
  (fun b hM=>aA (aA (aA aM
    (aD b))
    (bI b m3))
    (fK b 8 m3)) ?_
 intro b4 ν W4 hR;have R4:=hdd hR;clear hR R3;simp only[putL,bgR,bgU,fs0,fs1,fsn,dSw,dSt,dWc,dWa,dv,di,dp,ds',bgS,bgT,nuTn,nuT0,nuT1,nuU0,nuU1,dA12,dP8,dP24]
 go_upto_region 4 with fail
 refine Spec.go [.w (.c (.ptr 9 0)),bD g 0 1,.w (.c (.ptr 9 4)),bD g 2 3,.tup [.c (.v (.bool (c1==0))),.c (.v .nilIface)],.tup [.c (.v (.bool (c1==0))),.c (.v .nilIface)],.w (.c (.v (.bool (c1==0)))),.w (.c (.v .nilIface)),.w (.c (.v (.bool (c1==0)))),.w (.c (.v .nilIface))] []
  [(0,A1),(1,A2),(2,B1),(3,B2),(4,X1),(5,X2)] [⟨6,33,aR g 0 1,none⟩,⟨7,33,aR g 2 3,none⟩,⟨8,33,aR g 4 5,none⟩,⟨9,105,(dE g 0 1 2 3),none⟩]
  [0,0,0,0,2,0,0,0,0,0] [[],[0],[],[2],rgn 4,rgn 5,rgn 6,rgn 6,rgn 7,[0,1,2,3,4,5,7]] [(9,.w (.c (.ptr 9 0)))]
  [29,30,31,32,33,28,34,35,11,12] [i,j,k,l,m,n,b1,b2,b3,b4] 10 (N+2) [] [] R4.out
  (fun b hM=>aA (aA (aA (aA (aA (aA (aA (aA (aA (aA aM
    (aD b))
    (aL b 4 m3))
    (aD b))
    (aL b 4 m3))
    (aX b (rQ hM m0 m1 rfl rfl m2 m3 rfl rfl rfl rfl rfl h1)))
    (aD b))
    (aD b))
    (aD b))
    (aD b))
    (aD b)) ?_
 intro ν W5 hR;have R5:=hdd hR;clear hR R4;simp only[putL,bgR,bgU,fs0,fs1,fsn,dSw,dSt,dWc,dWa,dv,di,dp,ds',bgS,bgT,nuTn,nuT0,nuT1,nuU0,nuU1,dA12,dP8,dP24]
 cases e1:(c1==0)
 . go_wp2_with fail
   rw[rounds_succ]
   go_upto_region 3 with fail
   refine Spec.go [.w (.agg ((dE g 4 5 0 1))),.w (.c (.ptr 10 0)),noS] [1]
    [(0,A1),(1,A2),(2,B1),(3,B2),(4,X1),(5,X2)] [⟨6,33,aR g 0 1,none⟩,⟨7,33,aR g 2 3,none⟩,⟨8,33,aR g 4 5,none⟩,⟨9,105,(dE g 0 1 2 3),none⟩,⟨10,105,[.v (.pointer none),.v (.int .i64 0),.v (.pointer none),.v (.int .i64 0),.v (.pointer none),.v (.int .i64 0),.v (.pointer none),.v (.int .i64 0)],some (2,(dE g 4 5 0 1))⟩]
    [0,0,0] [[],[],[0,1]] [(23,.w (.agg (((dE g 0 1 2 3)++(dE g 4 5 0 1)++(dE g 4 5 2 3))))),(24,.w (.c (.v (.int .i64 1))))]
    [27,10,0] [i,j,k,l,m,n,b1,b2,b3,b4] 3 (N+2) [] [] R5.out
    (fun b hM=>aA (aA (aA aM
      (aD b))
      (bI b m4))
      (fK b 8 m4)) ?_
   intro b5 ν W6 hR;have R6:=hdd hR;clear hR R5;simp only[putL,bgR,bgU,fs0,fs1,fsn,dSw,dSt,dWc,dWa,dv,di,dp,ds',bgS,bgT,nuTn,nuT0,nuT1,nuU0,nuU1,dA12,dP8,dP24]
   go_upto_region 4 with fail
   refine Spec.go [.w (.c (.ptr 10 0)),bD g 4 5,.w (.c (.ptr 10 4)),bD g 0 1,.tup [.c (.v (.bool (c2==0))),.c (.v .nilIface)],.tup [.c (.v (.bool (c2==0))),.c (.v .nilIface)],.w (.c (.v (.bool (c2==0)))),.w (.c (.v .nilIface)),.w (.c (.v (.bool (c2==0)))),.w (.c (.v .nilIface))] []
    [(0,A1),(1,A2),(2,B1),(3,B2),(4,X1),(5,X2)] [⟨6,33,aR g 0 1,none⟩,⟨7,33,aR g 2 3,none⟩,⟨8,33,aR g 4 5,none⟩,⟨9,105,(dE g 0 1 2 3),none⟩,⟨10,105,(dE g 4 5 0 1),none⟩]
    [0,0,0,0,2,0,0,0,0,0] [[],[0],[],[2],rgn 4,rgn 5,rgn 6,rgn 6,rgn 7,[0,1,2,3,4,5,7]] [(9,.w (.c (.ptr 10 0)))]
    [29,30,31,32,33,28,34,35,11,12] [i,j,k,l,m,n,b1,b2,b3,b4,b5] 10 (N+4) [] [] R6.out
    (fun b hM=>aA (aA (aA (aA (aA (aA (aA (aA (aA (aA aM
      (aD b))
      (aL b 4 m4))
      (aD b))
      (aL b 4 m4))
      (aX b (rQ hM m4 m5 rfl rfl m0 m1 rfl rfl rfl rfl rfl h2)))
      (aD b))
      (aD b))
      (aD b))
      (aD b))
      (aD b)) ?_
   intro ν W7 hR;have R7:=hdd hR;clear hR R6;simp only[putL,bgR,bgU,fs0,fs1,fsn,dSw,dSt,dWc,dWa,dv,di,dp,ds',bgS,bgT,nuTn,nuT0,nuT1,nuU0,nuU1,dA12,dP8,dP24]
   cases e2:(c2==0)
   . go_wp2_with fail
     rw[rounds_succ]
     go_upto_region 3 with fail
     refine Spec.go [.w (.agg ((dE g 4 5 2 3))),.w (.c (.ptr 10 0)),noS] [1]
      [(0,A1),(1,A2),(2,B1),(3,B2),(4,X1),(5,X2)] [⟨6,33,aR g 0 1,none⟩,⟨7,33,aR g 2 3,none⟩,⟨8,33,aR g 4 5,none⟩,⟨9,105,(dE g 4 5 0 1),none⟩,⟨10,105,[.v (.pointer none),.v (.int .i64 0),.v (.pointer none),.v (.int .i64 0),.v (.pointer none),.v (.int .i64 0),.v (.pointer none),.v (.int .i64 0)],some (2,(dE g 4 5 2 3))⟩]
      [0,0,0] [[],[],[0,1]] [(23,.w (.agg (((dE g 0 1 2 3)++(dE g 4 5 0 1)++(dE g 4 5 2 3))))),(24,.w (.c (.v (.int .i64 2))))]
      [27,10,0] [i,j,k,l,m,n,b1,b2,b3,b5] 3 (N+4) [] [true,true,true,false] R7.out
      (fun b hM=>aA (aA (aA aM
        (aD b))
        (bI b m4))
        (fK b 8 m4)) ?_
     intro b6 ν W8 hR;have R8:=hdd hR;clear hR R7;simp only[putL,bgR,bgU,fs0,fs1,fsn,dSw,dSt,dWc,dWa,dv,di,dp,ds',bgS,bgT,nuTn,nuT0,nuT1,nuU0,nuU1,dA12,dP8,dP24]
     go_upto_region 4 with fail
     refine Spec.go [.w (.c (.ptr 10 0)),bD g 4 5,.w (.c (.ptr 10 4)),bD g 2 3,.tup [.c (.v (.bool (c3==0))),.c (.v .nilIface)],.tup [.c (.v (.bool (c3==0))),.c (.v .nilIface)],.w (.c (.v (.bool (c3==0)))),.w (.c (.v .nilIface)),.w (.c (.v (.bool (c3==0)))),.w (.c (.v .nilIface))] []
      [(0,A1),(1,A2),(2,B1),(3,B2),(4,X1),(5,X2)] [⟨6,33,aR g 0 1,none⟩,⟨7,33,aR g 2 3,none⟩,⟨8,33,aR g 4 5,none⟩,⟨9,105,(dE g 4 5 0 1),none⟩,⟨10,105,(dE g 4 5 2 3),none⟩]
      [0,0,0,0,2,0,0,0,0,0] [[],[0],[],[2],rgn 4,rgn 5,rgn 6,rgn 6,rgn 7,[0,1,2,3,4,5,7]] [(9,.w (.c (.ptr 10 0)))]
      [29,30,31,32,33,28,34,35,11,12] [i,j,k,l,m,n,b1,b2,b3,b5,b6] 10 (N+6) [] [] R8.out
      (fun b hM=>aA (aA (aA (aA (aA (aA (aA (aA (aA (aA aM
        (aD b))
        (aL b 4 m4))
        (aD b))
        (aL b 4 m4))
        (aX b (rQ hM m4 m5 rfl rfl m2 m3 rfl rfl rfl rfl rfl h3)))
        (aD b))
        (aD b))
        (aD b))
        (aD b))
        (aD b)) ?_
     intro ν W9 hR;have R9:=hdd hR;clear hR R8;simp only[putL,bgR,bgU,fs0,fs1,fsn,dSw,dSt,dWc,dWa,dv,di,dp,ds',bgS,bgT,nuTn,nuT0,nuT1,nuU0,nuU1,dA12,dP8,dP24]
     cases e3:(c3==0)
     . go_wp2_with fail
       rw[rounds_succ]
       go_upto_region 8 with fail
       refine Spec.go [bD g 0 1,bD g 4 5,bD g 2 3,.tup [.c (.v (.int .i64 q)),.c (.v .nilIface)],.tup [.c (.v (.int .i64 q)),.c (.v .nilIface)],.w (.c (.v (.int .i64 q))),.w (.c (.v .nilIface)),.w (.c (.v (.int .i64 q))),.w (.c (.v .nilIface))] []
        [(0,A1),(1,A2),(2,B1),(3,B2),(4,X1),(5,X2)] [⟨6,33,aR g 0 1,none⟩,⟨7,33,aR g 2 3,none⟩,⟨8,33,aR g 4 5,none⟩]
        [0,0,0,7,0,0,0,0,0] [[],[],[],[0,1,2],rgn 4,rgn 5,rgn 5,rgn 6,[0,1,2,3,4,6]] [(3,.w (.c (.ptr 6 0))),(5,.w (.c (.ptr 8 0))),(4,.w (.c (.ptr 7 0)))]
        [45,46,47,48,44,49,50,13,14] [i,j,k,l,m,n,b1,b2,b3] 9 (N+13) [] [true,true,true,false,false] R9.out
        (fun b hM=>aA (aA (aA (aA (aA (aA (aA (aA (aA aM
          (aL b 4 m0))
          (aL b 4 m2))
          (aL b 4 m1))
          (aX b (anZ hM m0 m1 rfl rfl m4 m5 rfl rfl m2 m3 rfl rfl rfl rfl rfl h4)))
          (aD b))
          (aD b))
          (aD b))
          (aD b))
          (aD b)) ?_
       intro ν W10 hR;replace hR:Run ⟨w,B,ns⟩ g (N+13) [(A1,i),(A2,j),(B1,k),(B2,l),(X1,m),(X2,n)] [(b1,fJ g i j),(b2,fJ g k l),(b3,fJ g m n)] W10:=hR;have R10:=hdd hR;clear hR R9;simp only[putL,bgR,bgU,fs0,fs1,fsn,dSw,dSt,dWc,dWa,dv,di,dp,ds',bgS,bgT,nuTn,nuT0,nuT1,nuU0,nuU1,dA12,dP8,dP24];have HF:Hid (kS w B ns g (N+13) (fun _=>.tuple #[.bool ((c1==0)||(c2==0)||(c3==0)||(q==1)),.nilIface]) [] (.returned (.tuple #[.bool (q==1),.nilIface])) W10):=hdd ⟨[],rfl,by simp[e1,e2,e3],_,(R10.out.more (by omega)).few (iJ [])⟩;clear R10;go_wp2
       go_ret2
       exact HF.out
     . have HF:Hid (kS w B ns g (N+13) (fun _=>.tuple #[.bool ((c1==0)||(c2==0)||(c3==0)||(q==1)),.nilIface]) [] (.returned (.tuple #[.bool true,.nilIface])) W9):=hdd ⟨[],rfl,by simp[e1,e2,e3],_,(R9.out.more (by omega)).few (iJ [])⟩
       clear R9;go_wp2
       go_ret2
       exact HF.out
   . have HF:Hid (kS w B ns g (N+13) (fun _=>.tuple #[.bool ((c1==0)||(c2==0)||(c3==0)||(q==1)),.nilIface]) [] (.returned (.tuple #[.bool true,.nilIface])) W7):=hdd ⟨[],rfl,by simp[e1,e2],_,(R7.out.more (by omega)).few (iJ [])⟩
     clear R7;go_wp2
     go_ret2
     exact HF.out
 . have HF:Hid (kS w B ns g (N+13) (fun _=>.tuple #[.bool ((c1==0)||(c2==0)||(c3==0)||(q==1)),.nilIface]) [] (.returned (.tuple #[.bool true,.nilIface])) W5):=hdd ⟨[],rfl,by simp[e1],_,(R5.out.more (by omega)).few (iJ [])⟩
   clear R5;go_wp2
   go_ret2
   exact HF.out
def oN(A1 A2 B1 B2 X1 X2:Ex)(r:Bool):Prop:=∃c1 c2 c3 q:Int,gM PT A1 A2 B1 B2 c1/\gM PT X1 X2 A1 A2 c2/\gM PT X1 X2 B1 B2 c3/\rR PT A1 A2 X1 X2 B1 B2 q/\((c1==0)||(c2==0)||(c3==0)||(q==1))=r
theorem akA{g i j k l:Nat}{r:Bool}(h:oN A1 A2 B1 B2 X1 X2 r):FnOk 100 g 13 #[dI g i j,dI g k l,dI g m n] [(A1,i),(A2,j),(B1,k),(B2,l),(X1,m),(X2,n)] (fun _=>.tuple #[.bool r,.nilIface]) []:=by
 obtain⟨c1,c2,c3,q,h1,h2,h3,h4,rfl⟩:=h;exact aj9 h1 h2 h3 h4
end Go.Proofs.YtjaafolhfihegaaGreatDoor
