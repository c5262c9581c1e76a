/- A part of the proof: contracts of functions and plain laws (MtB, MtC, QlM, FltC, FeC, QlN, RcA, SymF, SnA). -/
import Derived.Test.YtaojpfcboainmaaGreatDoorK32
import Derived.Test.YtaojpfcboainmaaGreatDoorK08
import Derived.WalkKit
import Derived.Laws.NewFold
import Derived.Test.YtaojpfcboainmaaGreatDoorK30
set_option linter.unusedVariables false
set_option linter.unusedSimpArgs false
set_option maxHeartbeats 25600000
set_option maxRecDepth 100000
namespace Go.Proofs.YtaojpfcboainmaaGreatDoor
open Go.RowKit Go.Maps
theorem sZ{g ca cb cc:Nat}(hca:FlOk ca)(hcb:FlOk cb):FnOk 60 g 2 #[.pointer (some ⟨g,0,none⟩),curV 2 ca cb cc] [] (fun ks=>bY g (ks.getD 0 0) (ks.getD 1 0)) [.leaf ca,.leaf cb]:=FnOk.of fun w B ns N hR hN=>by
 have R1:=hdd hR;clear hR;go_enter Tryz.func60,Tryz.ntmps60
 go_upto_region 0 with fail
 refine Spec.run (S:=⟨_,fun i=>([.w (.c (.ptr 0 0)),.w (.c (.ptr 1 0))]:List SV).getD i noS,fun n=>([some 0,some 1]:List (Option Nat)).getD n none,
  [],[⟨0,33,[.v (.int .i64 2),.v (.float .f64 ca),.v (.float .f64 cb),.v (.float .f64 cc)],none⟩,⟨1,37,[.v (.pointer none),.v (.int .i64 0),.v (.pointer none),.v (.int .i64 0)],none⟩],
  fun i=>([0,0]:List Nat).getD i 0,fun i=>([[],[]]:List (List Nat)).getD i [],[(1,.w (.agg ([.v (.int .i64 2),.v (.float .f64 ca),.v (.float .f64 cb),.v (.float .f64 cc)])))]⟩)
  (W:=runW ⟨w,B,ns⟩ g) (ν0:=fun n=>([]:List Nat).getD n 0) (c0:=N)
  (fs:=fun ν=>[(3,.pointer (some ⟨(ν 0),0,none⟩)),(4,.pointer (some ⟨(ν 1),0,none⟩))]) 2 N [] []
  ⟨Spec.wf_of (by kernel_rfl),gZ (by kernel_rfl),fB ⟨rfl,trivial⟩⟩ R1.out (Run.nodup R1.out) (by omega)
  (fun b hM=>aA (aA aL
    (aS b m0))
    (aS b m1)) ?_
 intro ν W2 hν hR;replace hR:Run ⟨w,B,ns⟩ g N [] [((ν 0),.cells #[(.int .i64 2),(.float .f64 ca),(.float .f64 cb),(.float .f64 cc)] 33),((ν 1),.cells #[.pointer none,.int .i64 0,.pointer none,.int .i64 0] 37)] W2:=hR;clear hν;generalize ν 0=b1 at hR|-;generalize ν 1=b2 at hR|-;have R2:=hdd hR;clear hR R1;simp only[putL,List.setIfInBounds_toArray,List.set]
 go_upto_region 1 with fail
 refine Spec.run (S:=⟨_,fun i=>([.w (.c (.v (.pointer (some ⟨g,0,none⟩)))),.w (.c (.ptr 0 1)),.w (.c (.v (.float .f64 ca))),.w (.c (.ptr 0 2)),.w (.c (.v (.float .f64 cb))),bJ g 2 3,noS]:List SV).getD i noS,fun n=>([none,none,some 5,some 5]:List (Option Nat)).getD n none,
  [(2,(.leaf ca)),(3,(.leaf cb))],[⟨0,33,[.v (.int .i64 2),.v (.float .f64 ca),.v (.float .f64 cb),.v (.float .f64 cc)],none⟩,⟨1,37,[.v (.pointer none),.v (.int .i64 0),.v (.pointer none),.v (.int .i64 0)],some (6,aN g 2 3)⟩],
  fun i=>([0,0,0,0,0,2,0]:List Nat).getD i 0,fun i=>([[],[],[1],[],[3],[0,1,2,3,4],[0,1,2,3,4,5]]:List (List Nat)).getD i [],[(0,.w (.c (.v (.pointer (some ⟨g,0,none⟩))))),(3,.w (.c (.ptr 0 0))),(4,.w (.c (.ptr 1 0)))]⟩)
  (W:=runW ⟨w,B,ns⟩ g) (ν0:=fun n=>([b1,b2]:List Nat).getD n 0) (c0:=N)
  (fs:=fun ν=>[(5,.pointer (some ⟨g,0,none⟩)),(6,.pointer (some ⟨(ν 0),1,none⟩)),(7,(.float .f64 ca)),(8,.pointer (some ⟨(ν 0),2,none⟩)),(9,(.float .f64 cb)),(10,bY g (ν 2) (ν 3))]) 7 (N+2) [] []
  ⟨Spec.wf_of (by kernel_rfl),gZ (by kernel_rfl),fB ⟨rfl,rfl,rfl,trivial⟩⟩ R2.out (Run.nodup R2.out) (by omega)
  (fun b hM=>aA (aA (aA (aA (aA (aA (aA aL
    (aD b))
    (aD b))
    (kW b m0))
    (aD b))
    (kW b m0))
    (bF b (c_at hM hca.1 hcb.1 hca.2 hcb.2 rfl rfl rfl rfl (by decide) rfl)))
    (dM b 4 m1)) ?_
 intro ν W3 hν hR;replace hR:Run ⟨w,B,ns⟩ g (N+2) [((.leaf ca),ν 2),((.leaf cb),ν 3)] [((ν 0),.cells #[(.int .i64 2),(.float .f64 ca),(.float .f64 cb),(.float .f64 cc)] 33),((ν 1),aQ g (ν 2) (ν 3))] W3:=hR;have e0:ν 0=b1:=hν 0 rfl;have e1:ν 1=b2:=hν 1 rfl;simp only[e0,e1]at hR|-;clear hν e0 e1;generalize ν 2=n3 at hR|-;generalize ν 3=n4 at hR|-;have R3:=hdd hR;clear hR R2;simp only[putL,List.setIfInBounds_toArray,List.set];go_wp2;obtain⟨x0,x1,x2,x3⟩:=aW (R3.out.at m1);refine bodyPost_ret (v:=.agg #[_,_,_,_]) (by simp[results,Tryz.results60,go_sem,x0,x1,x2,x3];first|exact⟨rfl,rfl,rfl,rfl⟩|rfl) rfl ?_;exact⟨[n3,n4],rfl,rfl,_,R3.out.few (gF [0,1])⟩
section
variable(U V W:Ex)(a b c:Nat)
end
end Go.Proofs.YtaojpfcboainmaaGreatDoor
namespace Go.Proofs.YtaojpfcboainmaaGreatDoor
open Go.RowKit Go.Maps
open Re (rat ofI ofN)
abbrev w3:Nat:=4613937818241073152
abbrev w4:Nat:=4616189618054758400
end Go.Proofs.YtaojpfcboainmaaGreatDoor
namespace Go.Proofs.YtaojpfcboainmaaGreatDoor
open Ieee
end Go.Proofs.YtaojpfcboainmaaGreatDoor
namespace Go.Proofs.YtaojpfcboainmaaGreatDoor
open Go.RowKit Go.Maps Ieee
variable{T:Int}
theorem alB{b:Nat}(h:Iw b T):fin b/\fv b=T*(2^(1074-0):Nat):=by
 obtain⟨u,hu,hU⟩:=iJ;exact⟨h.1.2,by rw[h.2,hU,show 1074-0=u by omega]⟩
theorem apY{r:Nat}(h1:r<2^64)(h2:fin r)(h3:fv r=T*(2^(1074-0):Nat)):Iw r T:=by
 obtain⟨u,hu,hU⟩:=iJ;exact⟨⟨h1,h2⟩,by rw[h3,hU,show 1074-0=u by omega]⟩
section
variable{x y:Nat}{a b:Int}
abbrev Op2(o:BinOp)(x y r:Nat):Prop:=∀w,(binOp o 31 (.float .f64 x) (.float .f64 y)).run Tryz.prog w=.ok (.float .f64 r) w
theorem alC(hx:Iw x a)(hy:Iw y b)(h:(a+b).natAbs<2^53):∃r,Op2 .add x y r/\Iw r (a+b):=by
 obtain⟨f1,v1⟩:=alB hx;obtain⟨f2,v2⟩:=alB hy;obtain⟨r,h1,h2,h3,h4⟩:=ahM (i:=0) f1 f2 v1 v2 h;exact⟨r,fun w=>run_float_arith w .add 31 .f64 x y r h1,apY h2 h3 h4⟩
end
theorem Iw.fit {b:Nat}{L:List Ex}(h:Iw b T)(n:Nat)(hT:T.natAbs<2^n)(hn:n<=53):Fit L (.leaf n 0) (.leaf b) (Re.rat (T:Rat)):=Fit.leaf n h.1.1 h.1.2 h.2 hT
end Go.Proofs.YtaojpfcboainmaaGreatDoor
namespace Go.Proofs.YtaojpfcboainmaaGreatDoor
open Go.RowKit Go.Maps
open Re (rat ofI ofN)
theorem nlt{x:Int}{m n:Nat}(h:x.natAbs<=m)(k:m<2^n:=by decide):x.natAbs<2^n:=Nat.lt_of_le_of_lt h k
section
variable{u v w a b c se sn:Sh}{U V W:Ex}{A B C:Nat}{p q r x y e n z:Rat}
end
abbrev cL:Ct:=⟨40,65464,21,13,71051⟩
section
variable(a b u v s:Rat)
end
end Go.Proofs.YtaojpfcboainmaaGreatDoor
namespace Go.Proofs.YtaojpfcboainmaaGreatDoor
open Go.RowKit Go.Maps
open List renaming setIfInBounds_toArray->bhV,map_cons->bhW,map_nil->bhX,set->bhY
variable{A1 A2 B1 B2 X1 X2:Ex}{J m n:Nat}
def kX(J:Nat):Nat:=([4617315517961601024,4616189618054758400,4613937818241073152,0,13837309855095848960,13839561654909534208,13840687554816376832,13839561654909534208,13837309855095848960,0,4613937818241073152,4616189618054758400]:List Nat).getD J 0
def kY(J:Nat):Nat:=([0,4613937818241073152,4616189618054758400,4617315517961601024,4616189618054758400,4613937818241073152,0,13837309855095848960,13839561654909534208,13840687554816376832,13839561654909534208,13837309855095848960]:List Nat).getD J 0
def kXi(J:Nat):Int:=([5,4,3,0,-3,-4,-5,-4,-3,0,3,4]:List Int).getD J 0
def kYi(J:Nat):Int:=([0,3,4,5,4,3,0,-3,-4,-5,-4,-3]:List Int).getD J 0
theorem an0:Iw 13840687554816376832 (-5):=⟨⟨by decide,by decide⟩,by kernel_rfl⟩
theorem afJ:Iw 13839561654909534208 (-4):=⟨⟨by decide,by decide⟩,by kernel_rfl⟩
theorem afK:Iw 13837309855095848960 (-3):=⟨⟨by decide,by decide⟩,by kernel_rfl⟩
theorem afL:Iw 0 (0):=⟨⟨by decide,by decide⟩,by kernel_rfl⟩
theorem afM:Iw 4613937818241073152 (3):=⟨⟨by decide,by decide⟩,by kernel_rfl⟩
theorem afN:Iw 4616189618054758400 (4):=⟨⟨by decide,by decide⟩,by kernel_rfl⟩
theorem an1:Iw 4617315517961601024 (5):=⟨⟨by decide,by decide⟩,by kernel_rfl⟩
theorem anG(h:J<12):([.float .f64 4617315517961601024,.float .f64 0,.float .f64 4616189618054758400,.float .f64 4613937818241073152,.float .f64 4613937818241073152,.float .f64 4616189618054758400,.float .f64 0,.float .f64 4617315517961601024,.float .f64 13837309855095848960,.float .f64 4616189618054758400,.float .f64 13839561654909534208,.float .f64 4613937818241073152,.float .f64 13840687554816376832,.float .f64 0,.float .f64 13839561654909534208,.float .f64 13837309855095848960,.float .f64 13837309855095848960,.float .f64 13839561654909534208,.float .f64 0,.float .f64 13840687554816376832,.float .f64 4613937818241073152,.float .f64 13839561654909534208,.float .f64 4616189618054758400,.float .f64 13837309855095848960]:List Value)[J*2]? =some (.float .f64 (kX J))/\([.float .f64 4617315517961601024,.float .f64 0,.float .f64 4616189618054758400,.float .f64 4613937818241073152,.float .f64 4613937818241073152,.float .f64 4616189618054758400,.float .f64 0,.float .f64 4617315517961601024,.float .f64 13837309855095848960,.float .f64 4616189618054758400,.float .f64 13839561654909534208,.float .f64 4613937818241073152,.float .f64 13840687554816376832,.float .f64 0,.float .f64 13839561654909534208,.float .f64 13837309855095848960,.float .f64 13837309855095848960,.float .f64 13839561654909534208,.float .f64 0,.float .f64 13840687554816376832,.float .f64 4613937818241073152,.float .f64 13839561654909534208,.float .f64 4616189618054758400,.float .f64 13837309855095848960]:List Value)[J*2+1]? =some (.float .f64 (kY J)):=by
 have:J=0\/J=1\/J=2\/J=3\/J=4\/J=5\/J=6\/J=7\/J=8\/J=9\/J=10\/J=11:=by omega
 rcases this with rfl|rfl|rfl|rfl|rfl|rfl|rfl|rfl|rfl|rfl|rfl|rfl<;>exact⟨rfl,rfl⟩
theorem anH(h:J<12):Iw (kX J) (kXi J)/\Iw (kY J) (kYi J):=by
 have:J=0\/J=1\/J=2\/J=3\/J=4\/J=5\/J=6\/J=7\/J=8\/J=9\/J=10\/J=11:=by omega
 rcases this with rfl|rfl|rfl|rfl|rfl|rfl|rfl|rfl|rfl|rfl|rfl|rfl
 . exact⟨an1,afL⟩
 . exact⟨afN,afM⟩
 . exact⟨afM,afN⟩
 . exact⟨afL,an1⟩
 . exact⟨afK,afN⟩
 . exact⟨afJ,afM⟩
 . exact⟨an0,afL⟩
 . exact⟨afJ,afK⟩
 . exact⟨afK,afJ⟩
 . exact⟨afL,an0⟩
 . exact⟨afM,afJ⟩
 . exact⟨afN,afK⟩
theorem anI(h:J<12):(kXi J).natAbs<=5/\(kYi J).natAbs<=5:=by
 have:J=0\/J=1\/J=2\/J=3\/J=4\/J=5\/J=6\/J=7\/J=8\/J=9\/J=10\/J=11:=by omega
 rcases this with rfl|rfl|rfl|rfl|rfl|rfl|rfl|rfl|rfl|rfl|rfl|rfl<;>decide
theorem y9{w:World}{k:Int}(hJ:J<12)(hk:(k.tmod 12+12).tmod 12=(J:Int)):Calls Tryz.prog 21 #[.int .i64 k] w (RetV w (.tuple #[.float .f64 (kX J),.float .f64 (kY J)])):=by
 obtain⟨q1,q2⟩:=anG hJ;have ht:-12<k.tmod 12/\k.tmod 12<12:=⟨Int.lt_tmod_of_pos _ (by decide),Int.tmod_lt_of_pos _ (by decide)⟩;have hw:IntKind.i64.wrap (k.tmod 12+12)=k.tmod 12+12:=IntWalk.i64_in _ (by omega);have j1:(J:Int)<12:=by omega
 obtain⟨w2,hw2,hb2,hs2,b1,b2⟩:=pro2 w (.cells #[.float .f64 4617315517961601024,.float .f64 0,.float .f64 4616189618054758400,.float .f64 4613937818241073152,.float .f64 4613937818241073152,.float .f64 4616189618054758400,.float .f64 0,.float .f64 4617315517961601024,.float .f64 13837309855095848960,.float .f64 4616189618054758400,.float .f64 13839561654909534208,.float .f64 4613937818241073152,.float .f64 13840687554816376832,.float .f64 0,.float .f64 13839561654909534208,.float .f64 13837309855095848960,.float .f64 13837309855095848960,.float .f64 13839561654909534208,.float .f64 0,.float .f64 13840687554816376832,.float .f64 4613937818241073152,.float .f64 13839561654909534208,.float .f64 4616189618054758400,.float .f64 13837309855095848960] 71) (.cells #[.float .f64 0,.float .f64 0] 71);have HB:=hdd hb2;have B2:=hdd b2;obtain⟨d0,d1,f0,f1⟩:=aF b2;have hst:=aY;clear ht hJ hb2 hs2 b1 b2;generalize kX J=X at*;generalize kY J=Y at*;go_enter Tryz.func21,Tryz.ntmps21
 go_wp2;have F:=set2 B2.out (.float .f64 X) (.float .f64 Y);have HB3:Hid (Below w.heap.size w ((w2.setCell ⟨w.heap.size+1,0,none⟩ (.float .f64 X)).setCell ⟨w.heap.size+1,1,none⟩ (.float .f64 Y))):=hdd ((HB.out.setCell (Nat.le_add_right _ 1) _).setCell (Nat.le_add_right _ 1) _);obtain⟨x0,x1,-,-⟩:=aF F
 go_quiet (fail)
 go_wp2
 go_ret2
 exact⟨rfl,HB3.out.os,HB3.out.tape,HB3.out.output,HB3.out.size,HB3.out.block⟩
section
variable{E:Type}{S:Spec E}{W:Wk E}{P:Program}{Q:Exit->Act->World->Prop}{c0:Nat}{a0:Act}{ν0:Nat->Nat}{i:Nat}{o:Oper}
end
abbrev arcC(g a b c i j k l:Nat):List SC:=curC 2 a b c++aN g i j++aN g k l
abbrev dI(g i j k l:Nat):List SC:=aN g i j++aN g k l
abbrev arcV(g a b c i j k l:Nat):Value:=.agg #[.int .i64 2,.float .f64 a,.float .f64 b,.float .f64 c,.pointer (some ⟨g,0,none⟩),.int .i64 ((i:Nat):Int),.pointer (some ⟨g,0,none⟩),.int .i64 ((j:Nat):Int),.pointer (some ⟨g,0,none⟩),.int .i64 ((k:Nat):Int),.pointer (some ⟨g,0,none⟩),.int .i64 ((l:Nat):Int)]
section
variable{g a b c i j k l i' j' k' l' i'' j'' k'' l'':Nat}{ν:Nat->Nat}
theorem dA12:(SW.agg (arcC g a b c i j k l)).den ν=arcV g a b c (ν i) (ν j) (ν k) (ν l):=rfl
theorem dP8:(SW.agg (dI g i j k l)).den ν=.agg #[.pointer (some ⟨g,0,none⟩),.int .i64 ((ν i:Nat):Int),.pointer (some ⟨g,0,none⟩),.int .i64 ((ν j:Nat):Int),.pointer (some ⟨g,0,none⟩),.int .i64 ((ν k:Nat):Int),.pointer (some ⟨g,0,none⟩),.int .i64 ((ν l:Nat):Int)]:=rfl
theorem dP24:(SW.agg (dI g i j k l++dI g i' j' k' l'++dI g i'' j'' k'' l'')).den ν=.agg #[.pointer (some ⟨g,0,none⟩),.int .i64 ((ν i:Nat):Int),.pointer (some ⟨g,0,none⟩),.int .i64 ((ν j:Nat):Int),.pointer (some ⟨g,0,none⟩),.int .i64 ((ν k:Nat):Int),.pointer (some ⟨g,0,none⟩),.int .i64 ((ν l:Nat):Int),.pointer (some ⟨g,0,none⟩),.int .i64 ((ν i':Nat):Int),.pointer (some ⟨g,0,none⟩),.int .i64 ((ν j':Nat):Int),.pointer (some ⟨g,0,none⟩),.int .i64 ((ν k':Nat):Int),.pointer (some ⟨g,0,none⟩),.int .i64 ((ν l':Nat):Int),.pointer (some ⟨g,0,none⟩),.int .i64 ((ν i'':Nat):Int),.pointer (some ⟨g,0,none⟩),.int .i64 ((ν j'':Nat):Int),.pointer (some ⟨g,0,none⟩),.int .i64 ((ν k'':Nat):Int),.pointer (some ⟨g,0,none⟩),.int .i64 ((ν l'':Nat):Int)]:=rfl
end
theorem alD{g i j k l:Nat}{c1 c2 c3 q:Int}(h1:iK PT A1 A2 B1 B2 c1)(h2:iK PT X1 X2 A1 A2 c2)(h3:iK PT X1 X2 B1 B2 c3)(h4:xC PT A1 A2 X1 X2 B1 B2 q):FnOk 40 g 13 #[bY g i j,bY g k l,bY g m n] [(A1,i),(A2,j),(B1,k),(B2,l),(X1,m),(X2,n)] (fun ks=>.tuple #[.bool ((c1==0)||(c2==0)||(c3==0)||(q==1)),.nilIface]) []:=FnOk.of fun w B ns N hR hN=>by
 have R1:=hdd hR;clear hR;go_enter Tryz.func40,Tryz.ntmps40
 go_upto_region 0 with fail
 refine Spec.go [.w (.c (.ptr 6 0)),.w (.c (.ptr 7 0)),.w (.c (.ptr 8 0)),.w (.c (.v (Value.bool false))),.w (.c (.v Value.nilIface))] [0,1,2]
  [(0,A1),(1,A2),(2,B1),(3,B2),(4,X1),(5,X2)] [⟨6,37,aN g 0 1,none⟩,⟨7,37,aN g 2 3,none⟩,⟨8,37,aN g 4 5,none⟩]
  [0,0,0,0,0] [[],[],[],[],[]] [(0,bJ g 0 1),(1,bJ g 2 3),(2,bJ g 4 5)]
  [4,5,6,7,8] [i,j,k,l,m,n] 5 N [] [] R1.out
  (fun b hM=>aA (aA (aA (aA (aA aL
    (aS b m0))
    (aS b m1))
    (aS b m2))
    (aD b))
    (aD b)) ?_
 intro b1 b2 b3 ν W2 hR;have R2:=hdd hR;clear hR R1;simp only[putL,bhV,bhY,fs0,fs1,fsn,dSw,dSt,dWc,dWa,dv,di,dp,ds',bhW,bhX,nuTn,nuT0,nuT1,nuU0,nuU1,dA12,dP8,dP24]
 go_upto_region 1 with fail
 refine Spec.go [bJ g 0 1,bJ g 2 3,.w (.agg ((dI g 0 1 2 3))),bJ g 4 5,bJ g 0 1,.w (.agg ((dI g 4 5 0 1))),bJ g 4 5,bJ g 2 3,.w (.agg ((dI g 4 5 2 3))),.w (.agg (((dI g 0 1 2 3)++(dI g 4 5 0 1)++(dI g 4 5 2 3)))),.w (.c (.v (Value.int IntKind.i64 0)))] []
  [(0,A1),(1,A2),(2,B1),(3,B2),(4,X1),(5,X2)] [⟨6,37,aN g 0 1,none⟩,⟨7,37,aN g 2 3,none⟩,⟨8,37,aN g 4 5,none⟩]
  [0,0,0,0,0,0,0,0,0,0,0] [[],[],[0,1],[],[],[3,4],[],[],[6,7],rgn 9,[]] [(3,.w (.c (.ptr 6 0))),(4,.w (.c (.ptr 7 0))),(5,.w (.c (.ptr 8 0)))]
  [15,16,17,18,19,20,21,22,23,24,25] [i,j,k,l,m,n,b1,b2,b3] 11 N [] [] R2.out
  (fun b hM=>aA (aA (aA (aA (aA (aA (aA (aA (aA (aA (aA aL
    (aK b 4 m0))
    (aK b 4 m1))
    (aD b))
    (aK b 4 m2))
    (aK b 4 m0))
    (aD b))
    (aK b 4 m2))
    (aK b 4 m1))
    (aD b))
    (aD b))
    (aD b)) ?_
 intro ν W3 hR;have R3:=hdd hR;clear hR R2;simp only[putL,bhV,bhY,fs0,fs1,fsn,dSw,dSt,dWc,dWa,dv,di,dp,ds',bhW,bhX,nuTn,nuT0,nuT1,nuU0,nuU1,dA12,dP8,dP24];go_wp2_with fail
 refine wp_loop_rounds 4 ?_;rw[rounds_succ]
 go_upto_region 3 with fail
 refine Spec.go [.w (.agg ((dI g 0 1 2 3))),.w (.c (.ptr 9 0)),noS] [1]
  [(0,A1),(1,A2),(2,B1),(3,B2),(4,X1),(5,X2)] [⟨6,37,aN g 0 1,none⟩,⟨7,37,aN g 2 3,none⟩,⟨8,37,aN g 4 5,none⟩,⟨9,80,[.v (.pointer none),.v (.int .i64 0),.v (.pointer none),.v (.int .i64 0),.v (.pointer none),.v (.int .i64 0),.v (.pointer none),.v (.int .i64 0)],some (2,(dI g 0 1 2 3))⟩]
  [0,0,0] [[],[],[0,1]] [(23,.w (.agg (((dI g 0 1 2 3)++(dI g 4 5 0 1)++(dI g 4 5 2 3))))),(24,.w (.c (.v (.int .i64 0))))]
  [27,10,0] [i,j,k,l,m,n,b1,b2,b3] 3 N [] [] R3.out
  (fun b hM=>aA (aA (aA aL
    (aD b))
    (aS b m3))
    (dM b 8 m3)) ?_
 intro b4 ν W4 hR;have R4:=hdd hR;clear hR R3;simp only[putL,bhV,bhY,fs0,fs1,fsn,dSw,dSt,dWc,dWa,dv,di,dp,ds',bhW,bhX,nuTn,nuT0,nuT1,nuU0,nuU1,dA12,dP8,dP24]
 go_upto_region 4 with fail
 refine Spec.go [.w (.c (.ptr 9 0)),bJ g 0 1,.w (.c (.ptr 9 4)),bJ g 2 3,.tup [.c (.v (.bool (c1==0))),.c (.v .nilIface)],.tup [.c (.v (.bool (c1==0))),.c (.v .nilIface)],.w (.c (.v (.bool (c1==0)))),.w (.c (.v .nilIface)),.w (.c (.v (.bool (c1==0)))),.w (.c (.v .nilIface))] []
  [(0,A1),(1,A2),(2,B1),(3,B2),(4,X1),(5,X2)] [⟨6,37,aN g 0 1,none⟩,⟨7,37,aN g 2 3,none⟩,⟨8,37,aN g 4 5,none⟩,⟨9,80,(dI g 0 1 2 3),none⟩]
  [0,0,0,0,2,0,0,0,0,0] [[],[0],[],[2],rgn 4,rgn 5,rgn 6,rgn 6,rgn 7,[0,1,2,3,4,5,7]] [(9,.w (.c (.ptr 9 0)))]
  [29,30,31,32,33,28,34,35,11,12] [i,j,k,l,m,n,b1,b2,b3,b4] 10 (N+2) [] [] R4.out
  (fun b hM=>aA (aA (aA (aA (aA (aA (aA (aA (aA (aA aL
    (aD b))
    (aK b 4 m3))
    (aD b))
    (aK b 4 m3))
    (bF b (xB hM m0 m1 rfl rfl m2 m3 rfl rfl rfl rfl rfl h1)))
    (aD b))
    (aD b))
    (aD b))
    (aD b))
    (aD b)) ?_
 intro ν W5 hR;have R5:=hdd hR;clear hR R4;simp only[putL,bhV,bhY,fs0,fs1,fsn,dSw,dSt,dWc,dWa,dv,di,dp,ds',bhW,bhX,nuTn,nuT0,nuT1,nuU0,nuU1,dA12,dP8,dP24]
 cases e1:(c1==0)
 . go_wp2_with fail
   rw[rounds_succ]
   go_upto_region 3 with fail
   refine Spec.go [.w (.agg ((dI g 4 5 0 1))),.w (.c (.ptr 10 0)),noS] [1]
    [(0,A1),(1,A2),(2,B1),(3,B2),(4,X1),(5,X2)] [⟨6,37,aN g 0 1,none⟩,⟨7,37,aN g 2 3,none⟩,⟨8,37,aN g 4 5,none⟩,⟨9,80,(dI g 0 1 2 3),none⟩,⟨10,80,[.v (.pointer none),.v (.int .i64 0),.v (.pointer none),.v (.int .i64 0),.v (.pointer none),.v (.int .i64 0),.v (.pointer none),.v (.int .i64 0)],some (2,(dI g 4 5 0 1))⟩]
    [0,0,0] [[],[],[0,1]] [(23,.w (.agg (((dI g 0 1 2 3)++(dI g 4 5 0 1)++(dI g 4 5 2 3))))),(24,.w (.c (.v (.int .i64 1))))]
    [27,10,0] [i,j,k,l,m,n,b1,b2,b3,b4] 3 (N+2) [] [] R5.out
    (fun b hM=>aA (aA (aA aL
      (aD b))
      (aS b m4))
      (dM b 8 m4)) ?_
   intro b5 ν W6 hR;have R6:=hdd hR;clear hR R5;simp only[putL,bhV,bhY,fs0,fs1,fsn,dSw,dSt,dWc,dWa,dv,di,dp,ds',bhW,bhX,nuTn,nuT0,nuT1,nuU0,nuU1,dA12,dP8,dP24]
   go_upto_region 4 with fail
   refine Spec.go [.w (.c (.ptr 10 0)),bJ g 4 5,.w (.c (.ptr 10 4)),bJ g 0 1,.tup [.c (.v (.bool (c2==0))),.c (.v .nilIface)],.tup [.c (.v (.bool (c2==0))),.c (.v .nilIface)],.w (.c (.v (.bool (c2==0)))),.w (.c (.v .nilIface)),.w (.c (.v (.bool (c2==0)))),.w (.c (.v .nilIface))] []
    [(0,A1),(1,A2),(2,B1),(3,B2),(4,X1),(5,X2)] [⟨6,37,aN g 0 1,none⟩,⟨7,37,aN g 2 3,none⟩,⟨8,37,aN g 4 5,none⟩,⟨9,80,(dI g 0 1 2 3),none⟩,⟨10,80,(dI g 4 5 0 1),none⟩]
    [0,0,0,0,2,0,0,0,0,0] [[],[0],[],[2],rgn 4,rgn 5,rgn 6,rgn 6,rgn 7,[0,1,2,3,4,5,7]] [(9,.w (.c (.ptr 10 0)))]
    [29,30,31,32,33,28,34,35,11,12] [i,j,k,l,m,n,b1,b2,b3,b4,b5] 10 (N+4) [] [] R6.out
    (fun b hM=>aA (aA (aA (aA (aA (aA (aA (aA (aA (aA aL
      (aD b))
      (aK b 4 m4))
      (aD b))
      (aK b 4 m4))
      (bF b (xB hM m4 m5 rfl rfl m0 m1 rfl rfl rfl rfl rfl h2)))
      (aD b))
      (aD b))
      (aD b))
      (aD b))
      (aD b)) ?_
   intro ν W7 hR;have R7:=hdd hR;clear hR R6;simp only[putL,bhV,bhY,fs0,fs1,fsn,dSw,dSt,dWc,dWa,dv,di,dp,ds',bhW,bhX,nuTn,nuT0,nuT1,nuU0,nuU1,dA12,dP8,dP24]
   cases e2:(c2==0)
   . go_wp2_with fail
     rw[rounds_succ]
     go_upto_region 3 with fail
     refine Spec.go [.w (.agg ((dI g 4 5 2 3))),.w (.c (.ptr 10 0)),noS] [1]
      [(0,A1),(1,A2),(2,B1),(3,B2),(4,X1),(5,X2)] [⟨6,37,aN g 0 1,none⟩,⟨7,37,aN g 2 3,none⟩,⟨8,37,aN g 4 5,none⟩,⟨9,80,(dI g 4 5 0 1),none⟩,⟨10,80,[.v (.pointer none),.v (.int .i64 0),.v (.pointer none),.v (.int .i64 0),.v (.pointer none),.v (.int .i64 0),.v (.pointer none),.v (.int .i64 0)],some (2,(dI g 4 5 2 3))⟩]
      [0,0,0] [[],[],[0,1]] [(23,.w (.agg (((dI g 0 1 2 3)++(dI g 4 5 0 1)++(dI g 4 5 2 3))))),(24,.w (.c (.v (.int .i64 2))))]
      [27,10,0] [i,j,k,l,m,n,b1,b2,b3,b5] 3 (N+4) [] [true,true,true,false] R7.out
      (fun b hM=>aA (aA (aA aL
        (aD b))
        (aS b m4))
        (dM b 8 m4)) ?_
     intro b6 ν W8 hR;have R8:=hdd hR;clear hR R7;simp only[putL,bhV,bhY,fs0,fs1,fsn,dSw,dSt,dWc,dWa,dv,di,dp,ds',bhW,bhX,nuTn,nuT0,nuT1,nuU0,nuU1,dA12,dP8,dP24]
     go_upto_region 4 with fail
     refine Spec.go [.w (.c (.ptr 10 0)),bJ g 4 5,.w (.c (.ptr 10 4)),bJ g 2 3,.tup [.c (.v (.bool (c3==0))),.c (.v .nilIface)],.tup [.c (.v (.bool (c3==0))),.c (.v .nilIface)],.w (.c (.v (.bool (c3==0)))),.w (.c (.v .nilIface)),.w (.c (.v (.bool (c3==0)))),.w (.c (.v .nilIface))] []
      [(0,A1),(1,A2),(2,B1),(3,B2),(4,X1),(5,X2)] [⟨6,37,aN g 0 1,none⟩,⟨7,37,aN g 2 3,none⟩,⟨8,37,aN g 4 5,none⟩,⟨9,80,(dI g 4 5 0 1),none⟩,⟨10,80,(dI g 4 5 2 3),none⟩]
      [0,0,0,0,2,0,0,0,0,0] [[],[0],[],[2],rgn 4,rgn 5,rgn 6,rgn 6,rgn 7,[0,1,2,3,4,5,7]] [(9,.w (.c (.ptr 10 0)))]
      [29,30,31,32,33,28,34,35,11,12] [i,j,k,l,m,n,b1,b2,b3,b5,b6] 10 (N+6) [] [] R8.out
      (fun b hM=>aA (aA (aA (aA (aA (aA (aA (aA (aA (aA aL
        (aD b))
        (aK b 4 m4))
        (aD b))
        (aK b 4 m4))
        (bF b (xB hM m4 m5 rfl rfl m2 m3 rfl rfl rfl rfl rfl h3)))
        (aD b))
        (aD b))
        (aD b))
        (aD b))
        (aD b)) ?_
     intro ν W9 hR;have R9:=hdd hR;clear hR R8;simp only[putL,bhV,bhY,fs0,fs1,fsn,dSw,dSt,dWc,dWa,dv,di,dp,ds',bhW,bhX,nuTn,nuT0,nuT1,nuU0,nuU1,dA12,dP8,dP24]
     cases e3:(c3==0)
     . go_wp2_with fail
       rw[rounds_succ]
       go_upto_region 8 with fail
       refine Spec.go [bJ g 0 1,bJ g 4 5,bJ g 2 3,.tup [.c (.v (.int .i64 q)),.c (.v .nilIface)],.tup [.c (.v (.int .i64 q)),.c (.v .nilIface)],.w (.c (.v (.int .i64 q))),.w (.c (.v .nilIface)),.w (.c (.v (.int .i64 q))),.w (.c (.v .nilIface))] []
        [(0,A1),(1,A2),(2,B1),(3,B2),(4,X1),(5,X2)] [⟨6,37,aN g 0 1,none⟩,⟨7,37,aN g 2 3,none⟩,⟨8,37,aN g 4 5,none⟩]
        [0,0,0,7,0,0,0,0,0] [[],[],[],[0,1,2],rgn 4,rgn 5,rgn 5,rgn 6,[0,1,2,3,4,6]] [(3,.w (.c (.ptr 6 0))),(5,.w (.c (.ptr 8 0))),(4,.w (.c (.ptr 7 0)))]
        [45,46,47,48,44,49,50,13,14] [i,j,k,l,m,n,b1,b2,b3] 9 (N+13) [] [true,true,true,false,false] R9.out
        (fun b hM=>aA (aA (aA (aA (aA (aA (aA (aA (aA aL
          (aK b 4 m0))
          (aK b 4 m2))
          (aK b 4 m1))
          (bF b (ao6 hM m0 m1 rfl rfl m4 m5 rfl rfl m2 m3 rfl rfl rfl rfl rfl h4)))
          (aD b))
          (aD b))
          (aD b))
          (aD b))
          (aD b)) ?_
       intro ν W10 hR;replace hR:Run ⟨w,B,ns⟩ g (N+13) [(A1,i),(A2,j),(B1,k),(B2,l),(X1,m),(X2,n)] [(b1,aQ g i j),(b2,aQ g k l),(b3,aQ g m n)] W10:=hR;have R10:=hdd hR;clear hR R9;simp only[putL,bhV,bhY,fs0,fs1,fsn,dSw,dSt,dWc,dWa,dv,di,dp,ds',bhW,bhX,nuTn,nuT0,nuT1,nuU0,nuU1,dA12,dP8,dP24];have HF:Hid (lU w B ns g (N+13) (fun _=>.tuple #[.bool ((c1==0)||(c2==0)||(c3==0)||(q==1)),.nilIface]) [] (.returned (.tuple #[.bool (q==1),.nilIface])) W10):=hdd ⟨[],rfl,by simp[e1,e2,e3],_,(R10.out.more (by omega)).few (gF [])⟩;clear R10;go_wp2
       go_ret2
       exact HF.out
     . have HF:Hid (lU w B ns g (N+13) (fun _=>.tuple #[.bool ((c1==0)||(c2==0)||(c3==0)||(q==1)),.nilIface]) [] (.returned (.tuple #[.bool true,.nilIface])) W9):=hdd ⟨[],rfl,by simp[e1,e2,e3],_,(R9.out.more (by omega)).few (gF [])⟩
       clear R9;go_wp2
       go_ret2
       exact HF.out
   . have HF:Hid (lU w B ns g (N+13) (fun _=>.tuple #[.bool ((c1==0)||(c2==0)||(c3==0)||(q==1)),.nilIface]) [] (.returned (.tuple #[.bool true,.nilIface])) W7):=hdd ⟨[],rfl,by simp[e1,e2],_,(R7.out.more (by omega)).few (gF [])⟩
     clear R7;go_wp2
     go_ret2
     exact HF.out
 . have HF:Hid (lU w B ns g (N+13) (fun _=>.tuple #[.bool ((c1==0)||(c2==0)||(c3==0)||(q==1)),.nilIface]) [] (.returned (.tuple #[.bool true,.nilIface])) W5):=hdd ⟨[],rfl,by simp[e1],_,(R5.out.more (by omega)).few (gF [])⟩
   clear R5;go_wp2
   go_ret2
   exact HF.out
def tC(A1 A2 B1 B2 X1 X2:Ex)(r:Bool):Prop:=∃c1 c2 c3 q:Int,iK PT A1 A2 B1 B2 c1/\iK PT X1 X2 A1 A2 c2/\iK PT X1 X2 B1 B2 c3/\xC PT A1 A2 X1 X2 B1 B2 q/\((c1==0)||(c2==0)||(c3==0)||(q==1))=r
theorem acS{g i j k l:Nat}{r:Bool}(h:tC A1 A2 B1 B2 X1 X2 r):FnOk 40 g 13 #[bY g i j,bY g k l,bY g m n] [(A1,i),(A2,j),(B1,k),(B2,l),(X1,m),(X2,n)] (fun _=>.tuple #[.bool r,.nilIface]) []:=by
 obtain⟨c1,c2,c3,q,h1,h2,h3,h4,rfl⟩:=h;exact alD h1 h2 h3 h4
end Go.Proofs.YtaojpfcboainmaaGreatDoor
