/- A part of the proof: contracts of functions and plain laws (MtAxClmL, RunAxClmL, SymCxClmL, FeAxClmL, SpExClmL, TwDxClmL). -/
import Derived.Test.YtjaafolhfihegaaGreatDoorM16
import Derived.Test.YtjaafolhfihegaaGreatDoorM15
import Derived.Test.YtjaafolhfihegaaGreatDoorM14
import Derived.Test.YtjaafolhfihegaaGreatDoorM13
import Derived.Test.YtjaafolhfihegaaGreatDoorM12
import Derived.Test.YtjaafolhfihegaaGreatDoorM08
import Derived.Test.YtjaafolhfihegaaGreatDoorM07
import Derived.Test.YtjaafolhfihegaaGreatDoorM06
import Derived.Test.YtjaafolhfihegaaGreatDoorM05
import Derived.Test.YtjaafolhfihegaaGreatDoorM04
import Derived.Test.YtjaafolhfihegaaGreatDoorM03
import Derived.Test.YtjaafolhfihegaaGreatDoorM02
import Derived.Test.YtjaafolhfihegaaGreatDoorM01
import Derived.Test.YtjaafolhfihegaaGreatDoorM11
import Derived.Test.YtjaafolhfihegaaGreatDoorM10
import Derived.Test.YtjaafolhfihegaaGreatDoorM09
import Derived.Test.YtjaafolhfihegaaGreatDoorM18
import Derived.Test.YtjaafolhfihegaaGreatDoorM17
import Derived.Test.YtjaafolhfihegaaGreatDoorM33
import Derived.Deep.Cut
import Derived.Deep.DeepCutAuto
import Derived.Test.YtjaafolhfihegaaGreatDoorM34
import Derived.Test.YtjaafolhfihegaaGreatDoorM32
import Derived.Test.YtjaafolhfihegaaGreatDoorM31
import Derived.Test.YtjaafolhfihegaaGreatDoorM30
import Derived.Test.YtjaafolhfihegaaGreatDoorM29
import Derived.Test.YtjaafolhfihegaaGreatDoorM28
import Derived.Test.YtjaafolhfihegaaGreatDoorM24
import Derived.Test.YtjaafolhfihegaaGreatDoorM23
import Derived.Test.YtjaafolhfihegaaGreatDoorM21
import Derived.Test.YtjaafolhfihegaaGreatDoorM20
import Derived.Test.YtjaafolhfihegaaGreatDoorM19
import Derived.Test.YtjaafolhfihegaaGreatDoorM22
import Derived.Test.YtjaafolhfihegaaGreatDoorM27
import Derived.Test.YtjaafolhfihegaaGreatDoorM26
import Derived.Test.YtjaafolhfihegaaGreatDoorM25
set_option linter.unusedVariables false
set_option linter.unusedSimpArgs false
set_option maxHeartbeats 25600000
set_option maxRecDepth 100000
namespace Go.Proofs.YtjaafolhfihegaaGreatDoor
open Go.RowKit Go.Maps Go.Stop Go.Extern
theorem aoY{w:World}{a b:Nat}(ha:FlOk a)(hb:FlOk b)(h:fv a<fv b):Calls Tryz.prog 108 #[.float .f64 a,.float .f64 b] w (RetV w (.int .i64 (-1))):=
 aaT (d:=false) ha.2.num hb.2.num (decide_eq_true (nI.2 h)) (decide_eq_false (by rw[nI];omega)) rfl
end Go.Proofs.YtjaafolhfihegaaGreatDoor
namespace Go.Proofs.YtjaafolhfihegaaGreatDoor
open Go.RowKit Go.Maps
variable{B:Nat}{w:World}
section
variable{α:Type}{a:α}{l:List α}
end
section
variable{s:Bs}{w0 w1 W W':World}{g N M:Nat}{K:List (Ex×Nat)}{l l':List (Nat×Obj)}
theorem Run.num {ns:List Nd}{x:Ex}{k:Nat}(h:Run ⟨w,B,ns⟩ g N K l W)(hx:(x,k)∈K):RetE PT B N w g ns (numV g) x (.returned (numV g k)) W:=by
 obtain⟨ns',hs,hK⟩:=h;exact⟨k,ns',rfl,hs.st,hs.pre,hK _ hx,hs.grew.2.2⟩
theorem Run.pt {ns:List Nd}{x y:Ex}{k m:Nat}(h:Run ⟨w,B,ns⟩ g N K l W)(hx:(x,k)∈K)(hy:(y,m)∈K):acM PT B N w g ns x y (.returned (dW g k m)) W:=by
 obtain⟨ns',hs,hK⟩:=h;exact⟨k,m,ns',rfl,hs.st,hs.pre,hK _ hx,hK _ hy,hs.grew.2.2⟩
end
section
variable{s:Bs}{W W':World}{g N M:Nat}{K:List (Ex×Nat)}{l:List (Nat×Obj)}{x y:Ex}{ns:List Nd}
end
section
variable{s:Bs}{W:World}{g N i j k m b v:Nat}{K:List (Ex×Nat)}{l:List (Nat×Obj)}{x y:Ex}{q:Int}
theorem Run.cmp (h:Run s g N K l W)(hN:N<20000)(hx:(x,i)∈K)(hy:(y,j)∈K)(hS:bD PT (.sub x y) q):Calls Tryz.prog 28 #[numV g i,numV g j] W (RtA s g (N+1) K l (.tuple #[.int .i64 q,.nilIface])):=by
 obtain⟨ns,hs,hK⟩:=h;exact(aaQ hs.st hN (hK _ hx) (hK _ hy) trivial hS).mono fun _ _ hr=>xE hs hK hr
variable{px py qx qy rx ry:Ex}{i' j' k':Nat}
end
section
variable{S:Spec Ex}{w0:Bs}{g c0:Nat}{a0:Act}{ν0:Nat->Nat}{i:Nat}{Q:Exit->Act->World->Prop}
variable(hM:c0+S.total<=20000){m n m' n' m2 n2 t t':Nat}{x y x' y' x2 y2:Ex}{q:Int}
include hM
section
variable(hx:(m,x)∈S.know)(hy:(n,y)∈S.know)(px:S.pre i m=true)(py:S.pre i n=true)
include hx px
include hy py
theorem apM(hc:S.cost i=1)(hv:S.val i=ansS (.int .i64 q))(hk:S.made i=[])(hS:bD PT (.sub x y) q):fP S w0 g c0 i 28 (fun ν=>#[numV g (ν m),numV g (ν n)]):=
 oJ hM (d:=1) hc (fun ν=>by rw[hv];rfl) hk fun lst ν c w hD hl h=>h.cmp (by omega) (dU hx (pre_on px hD)) (dU hy (pre_on py hD)) hS
section
variable(hx':(m',x')∈S.know)(hy':(n',y')∈S.know)(px':S.pre i m'=true)(py':S.pre i n'=true)
include hx' hy' px' py'
end
end
end
end Go.Proofs.YtjaafolhfihegaaGreatDoor
namespace Go.Proofs.YtjaafolhfihegaaGreatDoor
open Ieee
theorem aiU{x y i j:Nat}{a b:Int}(hx:fin x)(hy:fin y)(hi:i<=1074)(hj:j<=1074)(hij:i+j<=1074)(va:fv x=a*(2^(1074-i):Nat))(vb:fv y=b*(2^(1074-j):Nat))(h:(a*b).natAbs<2^53):
 ∃r,double.mul x y=some r/\r<2^64/\fin r/\fv r=a*b*(2^(1074-(i+j)):Nat):=by
 obtain⟨r,h1,h2,hn⟩:=mG hx hy;obtain⟨h3,h4⟩:=hn.exact (yA (1074-(i+j)) h (by omega)) (by
  rw[va,vb];generalize hu:(2148-1074:Nat)=u;have e:(2^(1074-i):Nat)*2^(1074-j)=2^(1074-(i+j))*2^u:=by
   rw[<-Nat.pow_add,<-Nat.pow_add];congr 1;omega
  generalize (2^(1074-i):Nat)=A at*;generalize (2^(1074-j):Nat)=B at*;generalize (2^(1074-(i+j)):Nat)=C at*;generalize (2^u:Nat)=D at*;have e2:(A:Int)*B=C*D:=by exact_mod_cast e
  rw[show a*(A:Int)*(b*B)=a*b*(A*B) by grind,e2];grind)
 exact⟨r,h1,h2,h3,h4⟩
end Go.Proofs.YtjaafolhfihegaaGreatDoor
namespace Go.Proofs.YtjaafolhfihegaaGreatDoor
open Go.RowKit Go.Maps
open List renaming setIfInBounds_toArray->bjT,not_mem_nil->bjU,set->bjV,mem_cons->bjW
variable{ns:List Nd}{B:Nat}{w:World}
abbrev uU(x:Ex):Ex:=.div x (.leaf 4611686018427387904)
abbrev midE(x y:Ex):Ex:=uU (.add x y)
abbrev sqrX(ax ay bx ey:Ex):Ex:=.add (.mul (.sub ax bx) (.sub ax bx)) (.mul (.sub ay ey) (.sub ay ey))
theorem amT{N:Nat}{g i:Nat}{X:Ex}(hs:St PT B N w g ns)(hN:N+2<=20000)(hi:Is ns X i):
 Calls Tryz.prog 85 #[numV g i] w (RetE PT B (N+2) w g ns (numV g) (uU X)):=by
 have R1:=hdd (Run.enter (K:=[(X,i)]) hs (by
  intro p hp;simp only[bjW,bjU,or_false]at hp;rcases hp with rfl<;>assumption))
 clear hs hi;go_enter Tryz.func85,Tryz.ntmps85
 go_upto_region 0 with fail
 refine Spec.run (S:=⟨_,fun i=>([.w (.c (.ptr 1 0)),.w (.c (.ptr 2 0))]:List SV).getD i noS,fun n=>([none,some 0,some 1]:List (Option Nat)).getD n none,
  [(0,X)],[⟨1,31,numC g 0,none⟩,⟨2,31,[.v (.pointer none),.v (.int .i64 0)],none⟩],
  fun i=>([0,0]:List Nat).getD i 0,fun i=>([[],[]]:List (List Nat)).getD i [],[(0,numS g 0)]⟩)
  (W:=runW ⟨w,B,ns⟩ g) (ν0:=fun n=>([i]:List Nat).getD n 0) (c0:=N)
  (fs:=fun ν=>[(1,.pointer (some ⟨(ν 1),0,none⟩)),(2,.pointer (some ⟨(ν 2),0,none⟩))]) 2 N [] []
  ⟨Spec.wf_of (by kernel_rfl),lZ (by kernel_rfl),jA ⟨rfl,trivial⟩⟩ R1.out (Run.nodup R1.out) (by omega)
  (fun b hM=>aA (aA aH
    (aI b m0))
    (aI b m1)) ?_
 intro ν W2 hν hR;replace hR:Run ⟨w,B,ns⟩ g N [(X,ν 0)] [((ν 1),numO g (ν 0)),((ν 2),.cells #[.pointer none,.int .i64 0] 31)] W2:=hR;have e0:ν 0=i:=hν 0 rfl;simp only[e0]at hR|-;clear hν e0;generalize ν 1=b1 at hR|-;generalize ν 2=b2 at hR|-;have R2:=hdd hR;clear hR R1;simp only[putL,bjT,bjV]
 go_upto_region 1 with fail
 refine Spec.run (S:=⟨_,fun i=>([numS g 0,.w (.c (.ptr 1 0)),.w (.c (.v (.pointer (some ⟨g,0,none⟩)))),numS g 3,numS g 4,noS]:List SV).getD i noS,fun n=>([none,none,none,some 3,some 4]:List (Option Nat)).getD n none,
  [(0,X),(3,(.leaf 4611686018427387904)),(4,(.div X (.leaf 4611686018427387904)))],[⟨1,31,numC g 0,none⟩,⟨2,31,[.v (.pointer none),.v (.int .i64 0)],some (5,numC g 4)⟩],
  fun i=>([0,0,0,1,1,0]:List Nat).getD i 0,fun i=>([[],[],[1],[1,2],[0,1,2,3],[0,1,2,3,4]]:List (List Nat)).getD i [],[(1,.w (.c (.ptr 1 0))),(2,.w (.c (.ptr 2 0)))]⟩)
  (W:=runW ⟨w,B,ns⟩ g) (ν0:=fun n=>([i,b1,b2]:List Nat).getD n 0) (c0:=N)
  (fs:=fun ν=>[(3,numV g (ν 0)),(4,.pointer (some ⟨(ν 1),0,none⟩)),(5,.pointer (some ⟨g,0,none⟩)),(6,numV g (ν 3)),(7,numV g (ν 4))]) 6 (N+2) [] []
  ⟨Spec.wf_of (by kernel_rfl),lZ (by kernel_rfl),jA ⟨rfl,rfl,trivial⟩⟩ R2.out (Run.nodup R2.out) (by omega)
  (fun b hM=>aA (aA (aA (aA (aA (aA aH
    (aD b 2 m0))
    (aB b))
    (aZ b m0))
    (aG b (c_of hM (by decide) (by decide) rfl rfl rfl rfl)))
    (aG b (mO hM m0 m1 rfl rfl rfl rfl rfl rfl)))
    (aV b 2 m1)) ?_
 intro ν W3 hν hR;replace hR:Run ⟨w,B,ns⟩ g (N+2) [(X,ν 0),((.leaf 4611686018427387904),ν 3),((.div X (.leaf 4611686018427387904)),ν 4)] [((ν 1),numO g (ν 0)),((ν 2),numO g (ν 4))] W3:=hR;have e0:ν 0=i:=hν 0 rfl;have e1:ν 1=b1:=hν 1 rfl;have e2:ν 2=b2:=hν 2 rfl;simp only[e0,e1,e2]at hR|-;clear hν e0 e1 e2;generalize ν 3=n3 at hR|-;generalize ν 4=n4 at hR|-;have R3:=hdd hR;clear hR R2;simp only[putL,bjT,bjV];go_wp2;obtain⟨x0,x1,-,-⟩:=aF (R3.out.at m1);refine bodyPost_ret (v:=.agg #[_,_]) (by simp[results,Tryz.results85,go_sem,x0,x1];first|exact⟨rfl,rfl⟩|rfl) rfl ?_;exact R3.out.num m2
theorem afA{N:Nat}{g ax ay bx ey:Nat}{AX AY BX EY:Ex}(hs:St PT B N w g ns)(hN:N+5<=20000)(hax:Is ns AX ax)(hay:Is ns AY ay)(hbx:Is ns BX bx)(hey:Is ns EY ey):
 Calls Tryz.prog 41 #[dW g ax ay,dW g bx ey] w (RetE PT B (N+5) w g ns (numV g) (sqrX AX AY BX EY)):=by
 have R1:=hdd (Run.enter (K:=[(AX,ax),(AY,ay),(BX,bx),(EY,ey)]) hs (by
  intro p hp;simp only[bjW,bjU,or_false]at hp;rcases hp with rfl|rfl|rfl|rfl<;>assumption))
 clear hs hax hay hbx hey;go_enter Tryz.func41,Tryz.ntmps41
 go_upto_region 0 with fail
 refine Spec.run (S:=⟨_,fun i=>([.w (.c (.ptr 4 0)),.w (.c (.ptr 5 0)),.w (.c (.ptr 6 0))]:List SV).getD i noS,fun n=>([none,none,none,none,some 0,some 1,some 2]:List (Option Nat)).getD n none,
  [(0,AX),(1,AY),(2,BX),(3,EY)],[⟨4,33,aY g 0 1,none⟩,⟨5,33,aY g 2 3,none⟩,⟨6,31,[.v (.pointer none),.v (.int .i64 0)],none⟩],
  fun i=>([0,0,0]:List Nat).getD i 0,fun i=>([[],[],[]]:List (List Nat)).getD i [],[(0,dH g 0 1),(1,dH g 2 3)]⟩)
  (W:=runW ⟨w,B,ns⟩ g) (ν0:=fun n=>([ax,ay,bx,ey]:List Nat).getD n 0) (c0:=N)
  (fs:=fun ν=>[(2,.pointer (some ⟨(ν 4),0,none⟩)),(3,.pointer (some ⟨(ν 5),0,none⟩)),(4,.pointer (some ⟨(ν 6),0,none⟩))]) 3 N [] []
  ⟨Spec.wf_of (by kernel_rfl),lZ (by kernel_rfl),jA ⟨rfl,rfl,trivial⟩⟩ R1.out (Run.nodup R1.out) (by omega)
  (fun b hM=>aA (aA (aA aH
    (aI b m0))
    (aI b m1))
    (aI b m2)) ?_
 intro ν W2 hν hR;replace hR:Run ⟨w,B,ns⟩ g N [(AX,ν 0),(AY,ν 1),(BX,ν 2),(EY,ν 3)] [((ν 4),dX g (ν 0) (ν 1)),((ν 5),dX g (ν 2) (ν 3)),((ν 6),.cells #[.pointer none,.int .i64 0] 31)] W2:=hR;have e0:ν 0=ax:=hν 0 rfl;have e1:ν 1=ay:=hν 1 rfl;have e2:ν 2=bx:=hν 2 rfl;have e3:ν 3=ey:=hν 3 rfl;simp only[e0,e1,e2,e3]at hR|-;clear hν e0 e1 e2 e3;generalize ν 4=b1 at hR|-;generalize ν 5=b2 at hR|-;generalize ν 6=b3 at hR|-;have R2:=hdd hR;clear hR R1;simp only[putL,bjT,bjV]
 go_upto_region 1 with fail
 refine Spec.run (S:=⟨_,fun i=>([.w (.c (.ptr 4 0)),numS g 0,.w (.c (.ptr 5 0)),numS g 2,numS g 7,.w (.c (.ptr 4 2)),numS g 1,.w (.c (.ptr 5 2)),numS g 3,numS g 8,.w (.c (.ptr 9 0)),.w (.c (.ptr 10 0)),noS,noS]:List SV).getD i noS,fun n=>([none,none,none,none,none,none,none,some 4,some 9,some 10,some 11]:List (Option Nat)).getD n none,
  [(0,AX),(1,AY),(2,BX),(3,EY),(7,(.sub AX BX)),(8,(.sub AY EY))],[⟨4,33,aY g 0 1,none⟩,⟨5,33,aY g 2 3,none⟩,⟨6,31,[.v (.pointer none),.v (.int .i64 0)],none⟩,⟨9,31,[.v (.pointer none),.v (.int .i64 0)],some (12,numC g 7)⟩,⟨10,31,[.v (.pointer none),.v (.int .i64 0)],some (13,numC g 8)⟩],
  fun i=>([0,0,0,0,1,0,0,0,0,1,0,0,0,0]:List Nat).getD i 0,fun i=>([[],[0],[],[2],[0,1,2,3],[],[5],[],[7],[5,6,7,8],[],[],[0,1,2,3,4,5,6,7,8,9,10,11],[0,1,2,3,4,5,6,7,8,9,10,11,12]]:List (List Nat)).getD i [],[(2,.w (.c (.ptr 4 0))),(3,.w (.c (.ptr 5 0)))]⟩)
  (W:=runW ⟨w,B,ns⟩ g) (ν0:=fun n=>([ax,ay,bx,ey,b1,b2,b3]:List Nat).getD n 0) (c0:=N)
  (fs:=fun ν=>[(7,.pointer (some ⟨(ν 4),0,none⟩)),(8,numV g (ν 0)),(9,.pointer (some ⟨(ν 5),0,none⟩)),(10,numV g (ν 2)),(11,numV g (ν 7)),(12,.pointer (some ⟨(ν 4),2,none⟩)),(13,numV g (ν 1)),(14,.pointer (some ⟨(ν 5),2,none⟩)),(15,numV g (ν 3)),(16,numV g (ν 8)),(5,.pointer (some ⟨(ν 9),0,none⟩)),(6,.pointer (some ⟨(ν 10),0,none⟩))]) 14 (N+2) [] []
  ⟨Spec.wf_of (by kernel_rfl),lZ (by kernel_rfl),jA ⟨rfl,rfl,trivial⟩⟩ R2.out (Run.nodup R2.out) (by omega)
  (fun b hM=>aA (aA (aA (aA (aA (aA (aA (aA (aA (aA (aA (aA (aA (aA aH
    (aB b))
    (aD b 2 m0))
    (aB b))
    (aD b 2 m1))
    (aG b (mM hM m0 m2 rfl rfl rfl rfl rfl rfl)))
    (aB b))
    (aD b 2 m0))
    (aB b))
    (aD b 2 m1))
    (aG b (mM hM m1 m3 rfl rfl rfl rfl rfl rfl)))
    (aI b m3))
    (aI b m4))
    (aV b 2 m3))
    (aV b 2 m4)) ?_
 intro ν W3 hν hR;replace hR:Run ⟨w,B,ns⟩ g (N+2) [(AX,ν 0),(AY,ν 1),(BX,ν 2),(EY,ν 3),((.sub AX BX),ν 7),((.sub AY EY),ν 8)] [((ν 4),dX g (ν 0) (ν 1)),((ν 5),dX g (ν 2) (ν 3)),((ν 6),.cells #[.pointer none,.int .i64 0] 31),((ν 9),numO g (ν 7)),((ν 10),numO g (ν 8))] W3:=hR;have e0:ν 0=ax:=hν 0 rfl;have e1:ν 1=ay:=hν 1 rfl;have e2:ν 2=bx:=hν 2 rfl;have e3:ν 3=ey:=hν 3 rfl;have e4:ν 4=b1:=hν 4 rfl;have e5:ν 5=b2:=hν 5 rfl;have e6:ν 6=b3:=hν 6 rfl;simp only[e0,e1,e2,e3,e4,e5,e6]at hR|-;clear hν e0 e1 e2 e3 e4 e5 e6;generalize ν 7=n4 at hR|-;generalize ν 8=n5 at hR|-;generalize ν 9=b6 at hR|-;generalize ν 10=b7 at hR|-;have R3:=hdd hR;clear hR R2;simp only[putL,bjT,bjV]
 go_upto_region 2 with fail
 refine Spec.run (S:=⟨_,fun i=>([numS g 1,numS g 1,.w (.c (.sl 5 1)),numS g 6,numS g 2,numS g 2,.w (.c (.sl 7 1)),numS g 8,.w (.c (.sl 9 1)),numS g 10,noS]:List SV).getD i noS,fun n=>([none,none,none,none,none,some 2,some 3,some 6,some 7,some 8,some 9]:List (Option Nat)).getD n none,
  [(1,(.sub AX BX)),(2,(.sub AY EY)),(6,(.mul (.sub AX BX) (.sub AX BX))),(8,(.mul (.sub AY EY) (.sub AY EY))),(10,(.add (.mul (.sub AX BX) (.sub AX BX)) (.mul (.sub AY EY) (.sub AY EY))))],[⟨0,31,[.v (.pointer none),.v (.int .i64 0)],some (10,numC g 10)⟩,⟨3,31,numC g 1,none⟩,⟨4,31,numC g 2,none⟩,⟨5,31,numC g 1,none⟩,⟨7,31,numC g 2,none⟩,⟨9,31,numC g 8,none⟩],
  fun i=>([0,0,0,1,0,0,0,1,0,1,0]:List Nat).getD i 0,fun i=>([[],[],[1],[0,1,2],[],[],[5],[4,5,6],[4,5,6,7],[0,1,2,3,4,5,6,7,8],[0,1,2,3,4,5,6,7,8,9]]:List (List Nat)).getD i [],[(5,.w (.c (.ptr 3 0))),(6,.w (.c (.ptr 4 0))),(4,.w (.c (.ptr 0 0)))]⟩)
  (W:=runW ⟨w,B,ns⟩ g) (ν0:=fun n=>([b3,n4,n5,b6,b7]:List Nat).getD n 0) (c0:=(N+2))
  (fs:=fun ν=>[(17,numV g (ν 1)),(18,numV g (ν 1)),(19,.slice (some ⟨(ν 5),0,none⟩) 1 1),(20,numV g (ν 6)),(21,numV g (ν 2)),(22,numV g (ν 2)),(23,.slice (some ⟨(ν 7),0,none⟩) 1 1),(24,numV g (ν 8)),(25,.slice (some ⟨(ν 9),0,none⟩) 1 1),(26,numV g (ν 10))]) 11 (N+5) [false,false,false,false] [false,false]
  ⟨Spec.wf_of (by kernel_rfl),lZ (by kernel_rfl),jA ⟨rfl,rfl,rfl,trivial⟩⟩ R3.out (Run.nodup R3.out) (by omega)
  (fun b hM=>aA (aA (aA (aA (aA (aA (aA (aA (aA (aA (aA aH
    (aD b 2 m1))
    (aD b 2 m1))
    (aQ b m3))
    (aG b (fK hM m0 m0 rfl rfl m3 rfl rfl rfl rfl rfl rfl rfl rfl)))
    (aD b 2 m2))
    (aD b 2 m2))
    (aQ b m4))
    (aG b (fK hM m1 m1 rfl rfl m4 rfl rfl rfl rfl rfl rfl rfl rfl)))
    (aQ b m5))
    (aG b (jB hM m2 m3 rfl rfl m5 rfl rfl rfl rfl rfl rfl rfl rfl)))
    (aV b 2 m0)) ?_
 intro ν W4 hν hR;replace hR:Run ⟨w,B,ns⟩ g (N+5) [((.sub AX BX),ν 1),((.sub AY EY),ν 2),((.mul (.sub AX BX) (.sub AX BX)),ν 6),((.mul (.sub AY EY) (.sub AY EY)),ν 8),((.add (.mul (.sub AX BX) (.sub AX BX)) (.mul (.sub AY EY) (.sub AY EY))),ν 10)] [((ν 0),numO g (ν 10)),((ν 3),numO g (ν 1)),((ν 4),numO g (ν 2)),((ν 5),numO g (ν 1)),((ν 7),numO g (ν 2)),((ν 9),numO g (ν 8))] W4:=hR;have e0:ν 0=b3:=hν 0 rfl;have e1:ν 1=n4:=hν 1 rfl;have e2:ν 2=n5:=hν 2 rfl;have e3:ν 3=b6:=hν 3 rfl;have e4:ν 4=b7:=hν 4 rfl;simp only[e0,e1,e2,e3,e4]at hR|-;clear hν e0 e1 e2 e3 e4;generalize ν 5=b8 at hR|-;generalize ν 6=n9 at hR|-;generalize ν 7=b10 at hR|-;generalize ν 8=n11 at hR|-;generalize ν 9=b12 at hR|-;generalize ν 10=n13 at hR|-;have R4:=hdd hR;clear hR R3;simp only[putL,bjT,bjV];go_wp2;obtain⟨x0,x1,-,-⟩:=aF (R4.out.at m0);refine bodyPost_ret (v:=.agg #[_,_]) (by simp[results,Tryz.results41,go_sem,x0,x1];first|exact⟨rfl,rfl⟩|rfl) rfl ?_;exact R4.out.num m4
section
variable{s:Bs}{W:World}{g N i j k i' j' k':Nat}{K:List (Ex×Nat)}{l:List (Nat×Obj)}{x px py qx qy rx ry:Ex}{q:Int}
theorem Run.half (h:Run s g N K l W)(hN:N+2<=20000)(hx:(x,i)∈K):Calls Tryz.prog 85 #[numV g i] W (RtR s g (N+2) K l (uU x)):=by
 obtain⟨ns,hs,hK⟩:=h;exact(amT hs.st hN (hK _ hx)).mono fun _ _ hr=>jZ hs hK hr
theorem Run.square (h:Run s g N K l W)(hN:N+5<=20000)(h1:(px,i)∈K)(h2:(py,i')∈K)(h3:(qx,j)∈K)(h4:(qy,j')∈K):Calls Tryz.prog 41 #[dW g i i',dW g j j'] W (RtR s g (N+5) K l (sqrX px py qx qy)):=by
 obtain⟨ns,hs,hK⟩:=h;exact(afA hs.st hN (hK _ h1) (hK _ h2) (hK _ h3) (hK _ h4)).mono fun _ _ hr=>jZ hs hK hr
end
section
variable{S:Spec Ex}{w0:Bs}{g c0:Nat}{i:Nat}(hM:c0+S.total<=20000){m n m' n' m2 n2 t:Nat}{x y x' y' x2 y2:Ex}{q:Int}(hx:(m,x)∈S.know)(hy:(n,y)∈S.know)(px:S.pre i m=true)(py:S.pre i n=true)
include hM hx px
theorem amU(hc:S.cost i=2)(hv:S.val i=numS g t)(ht:S.cr t=some i)(hk:S.made i=[(t,uU x)]):fP S w0 g c0 i 85 (fun ν=>#[numV g (ν m)]):=
 kC hM (d:=1) hc hv ht hk fun lst ν c w hD hl h=>h.half (by omega) (dU hx (pre_on px hD))
include hy py
variable(hx':(m',x')∈S.know)(hy':(n',y')∈S.know)(px':S.pre i m'=true)(py':S.pre i n'=true)
include hx' hy' px' py'
theorem adO(hc:S.cost i=5)(hv:S.val i=numS g t)(ht:S.cr t=some i)(hk:S.made i=[(t,sqrX x y x' y')]):fP S w0 g c0 i 41 (fun ν=>#[dW g (ν m) (ν n),dW g (ν m') (ν n')]):=
 kC hM (d:=4) hc hv ht hk fun lst ν c w hD hl h=>h.square (by omega) (dU hx (pre_on px hD)) (dU hy (pre_on py hD)) (dU hx' (pre_on px' hD)) (dU hy' (pre_on py' hD))
end
theorem amV{n:Int}(k:Int)(hn:0<n):∃K:Int,(∀w,(binOp .rem 3 (.int .i64 k) (.int .i64 n)).run Tryz.prog w=.ok (.int .i64 K) w)/\-n<K/\K<n:=
 ⟨_,fun w=>abE (by omega) w,Int.lt_tmod_of_pos k hn,Int.tmod_lt_of_pos k hn⟩
end Go.Proofs.YtjaafolhfihegaaGreatDoor
