/- A part of the proof: contracts of functions and plain laws (SpE, QlA, FtB, FeB, QlL). -/
import Derived.Test.YtjaafolhfihegaaGreatDoorK18
import Derived.Deep.Cut
import Derived.Deep.DeepCutAuto
import Derived.Test.YtjaafolhfihegaaGreatDoorK33
import Derived.Test.YtjaafolhfihegaaGreatDoorK10
import Derived.Test.YtjaafolhfihegaaGreatDoorK19
set_option linter.unusedVariables false
set_option linter.unusedSimpArgs false
set_option maxHeartbeats 25600000
set_option maxRecDepth 100000
namespace Go.Proofs.YtjaafolhfihegaaGreatDoor
open Go.RowKit Go.Maps
open List renaming setIfInBounds_toArray->bhJ,not_mem_nil->bhK,set->bhL,mem_cons->bhM
variable{ns:List Nd}{B:Nat}{w:World}
abbrev apR(x:Ex):Ex:=.div x (.leaf 4611686018427387904)
abbrev sqrX(ax ay bx ey:Ex):Ex:=.add (.mul (.sub ax bx) (.sub ax bx)) (.mul (.sub ay ey) (.sub ay ey))
theorem half_any{N:Nat}{g i:Nat}{X:Ex}(hs:St PT B N w g ns)(hN:N+2<=20000)(hi:Is ns X i):
 Calls Tryz.prog 85 #[numV g i] w (RetE PT B (N+2) w g ns (numV g) (apR X)):=by
 have R1:=hdd (Run.enter (K:=[(X,i)]) hs (by
  intro p hp;simp only[bhM,bhK,or_false]at hp;rcases hp with rfl<;>assumption))
 clear hs hi;go_enter Tryz.func85,Tryz.ntmps85
 go_upto_region 0 with fail
 refine Spec.run (S:=⟨_,fun i=>([.w (.c (.ptr 1 0)),.w (.c (.ptr 2 0))]:List SV).getD i noS,fun n=>([none,some 0,some 1]:List (Option Nat)).getD n none,
  [(0,X)],[⟨1,31,numC g 0,none⟩,⟨2,31,[.v (.pointer none),.v (.int .i64 0)],none⟩],
  fun i=>([0,0]:List Nat).getD i 0,fun i=>([[],[]]:List (List Nat)).getD i [],[(0,numS g 0)]⟩)
  (W:=runW ⟨w,B,ns⟩ g) (ν0:=fun n=>([i]:List Nat).getD n 0) (c0:=N)
  (fs:=fun ν=>[(1,.pointer (some ⟨(ν 1),0,none⟩)),(2,.pointer (some ⟨(ν 2),0,none⟩))]) 2 N [] []
  ⟨Spec.wf_of (by kernel_rfl),aU (by kernel_rfl),aM ⟨rfl,trivial⟩⟩ R1.out (Run.nodup R1.out) (by omega)
  (fun b hM=>aA (aA aO
    (aW b m0))
    (aW b m1)) ?_
 intro ν W2 hν hR;replace hR:Run ⟨w,B,ns⟩ g N [(X,ν 0)] [((ν 1),numO g (ν 0)),((ν 2),.cells #[.pointer none,.int .i64 0] 31)] W2:=hR;have e0:ν 0=i:=hν 0 rfl;simp only[e0]at hR|-;clear hν e0;generalize ν 1=b1 at hR|-;generalize ν 2=b2 at hR|-;have R2:=hdd hR;clear hR R1;simp only[putL,bhJ,bhL]
 go_upto_region 1 with fail
 refine Spec.run (S:=⟨_,fun i=>([numS g 0,.w (.c (.ptr 1 0)),.w (.c (.v (.pointer (some ⟨g,0,none⟩)))),numS g 3,numS g 4,noS]:List SV).getD i noS,fun n=>([none,none,none,some 3,some 4]:List (Option Nat)).getD n none,
  [(0,X),(3,(.leaf 4611686018427387904)),(4,(.div X (.leaf 4611686018427387904)))],[⟨1,31,numC g 0,none⟩,⟨2,31,[.v (.pointer none),.v (.int .i64 0)],some (5,numC g 4)⟩],
  fun i=>([0,0,0,1,1,0]:List Nat).getD i 0,fun i=>([[],[],[1],[1,2],[0,1,2,3],[0,1,2,3,4]]:List (List Nat)).getD i [],[(1,.w (.c (.ptr 1 0))),(2,.w (.c (.ptr 2 0)))]⟩)
  (W:=runW ⟨w,B,ns⟩ g) (ν0:=fun n=>([i,b1,b2]:List Nat).getD n 0) (c0:=N)
  (fs:=fun ν=>[(3,numV g (ν 0)),(4,.pointer (some ⟨(ν 1),0,none⟩)),(5,.pointer (some ⟨g,0,none⟩)),(6,numV g (ν 3)),(7,numV g (ν 4))]) 6 (N+2) [] []
  ⟨Spec.wf_of (by kernel_rfl),aU (by kernel_rfl),aM ⟨rfl,rfl,trivial⟩⟩ R2.out (Run.nodup R2.out) (by omega)
  (fun b hM=>aA (aA (aA (aA (aA (aA aO
    (aP b 2 m0))
    (aB b))
    (aN b m0))
    (aI b (c_of hM (by decide) (by decide) rfl rfl rfl rfl)))
    (aI b (ae8 hM m0 m1 rfl rfl rfl rfl rfl rfl)))
    (dB b 2 m1)) ?_
 intro ν W3 hν hR;replace hR:Run ⟨w,B,ns⟩ g (N+2) [(X,ν 0),((.leaf 4611686018427387904),ν 3),((.div X (.leaf 4611686018427387904)),ν 4)] [((ν 1),numO g (ν 0)),((ν 2),numO g (ν 4))] W3:=hR;have e0:ν 0=i:=hν 0 rfl;have e1:ν 1=b1:=hν 1 rfl;have e2:ν 2=b2:=hν 2 rfl;simp only[e0,e1,e2]at hR|-;clear hν e0 e1 e2;generalize ν 3=n3 at hR|-;generalize ν 4=n4 at hR|-;have R3:=hdd hR;clear hR R2;simp only[putL,bhJ,bhL];go_wp2;obtain⟨x0,x1,-,-⟩:=aD (R3.out.at m1);refine bodyPost_ret (v:=.agg #[_,_]) (by simp[results,Tryz.results85,go_sem,x0,x1];first|exact⟨rfl,rfl⟩|rfl) rfl ?_;exact R3.out.num m2
theorem aeE{N:Nat}{g ax ay bx ey:Nat}{AX AY BX EY:Ex}(hs:St PT B N w g ns)(hN:N+5<=20000)(hax:Is ns AX ax)(hay:Is ns AY ay)(hbx:Is ns BX bx)(hey:Is ns EY ey):
 Calls Tryz.prog 41 #[bP g ax ay,bP g bx ey] w (RetE PT B (N+5) w g ns (numV g) (sqrX AX AY BX EY)):=by
 have R1:=hdd (Run.enter (K:=[(AX,ax),(AY,ay),(BX,bx),(EY,ey)]) hs (by
  intro p hp;simp only[bhM,bhK,or_false]at hp;rcases hp with rfl|rfl|rfl|rfl<;>assumption))
 clear hs hax hay hbx hey;go_enter Tryz.func41,Tryz.ntmps41
 go_upto_region 0 with fail
 refine Spec.run (S:=⟨_,fun i=>([.w (.c (.ptr 4 0)),.w (.c (.ptr 5 0)),.w (.c (.ptr 6 0))]:List SV).getD i noS,fun n=>([none,none,none,none,some 0,some 1,some 2]:List (Option Nat)).getD n none,
  [(0,AX),(1,AY),(2,BX),(3,EY)],[⟨4,33,dL g 0 1,none⟩,⟨5,33,dL g 2 3,none⟩,⟨6,31,[.v (.pointer none),.v (.int .i64 0)],none⟩],
  fun i=>([0,0,0]:List Nat).getD i 0,fun i=>([[],[],[]]:List (List Nat)).getD i [],[(0,fA g 0 1),(1,fA g 2 3)]⟩)
  (W:=runW ⟨w,B,ns⟩ g) (ν0:=fun n=>([ax,ay,bx,ey]:List Nat).getD n 0) (c0:=N)
  (fs:=fun ν=>[(2,.pointer (some ⟨(ν 4),0,none⟩)),(3,.pointer (some ⟨(ν 5),0,none⟩)),(4,.pointer (some ⟨(ν 6),0,none⟩))]) 3 N [] []
  ⟨Spec.wf_of (by kernel_rfl),aU (by kernel_rfl),aM ⟨rfl,rfl,trivial⟩⟩ R1.out (Run.nodup R1.out) (by omega)
  (fun b hM=>aA (aA (aA aO
    (aW b m0))
    (aW b m1))
    (aW b m2)) ?_
 intro ν W2 hν hR;replace hR:Run ⟨w,B,ns⟩ g N [(AX,ν 0),(AY,ν 1),(BX,ν 2),(EY,ν 3)] [((ν 4),dS g (ν 0) (ν 1)),((ν 5),dS g (ν 2) (ν 3)),((ν 6),.cells #[.pointer none,.int .i64 0] 31)] W2:=hR;have e0:ν 0=ax:=hν 0 rfl;have e1:ν 1=ay:=hν 1 rfl;have e2:ν 2=bx:=hν 2 rfl;have e3:ν 3=ey:=hν 3 rfl;simp only[e0,e1,e2,e3]at hR|-;clear hν e0 e1 e2 e3;generalize ν 4=b1 at hR|-;generalize ν 5=b2 at hR|-;generalize ν 6=b3 at hR|-;have R2:=hdd hR;clear hR R1;simp only[putL,bhJ,bhL]
 go_upto_region 1 with fail
 refine Spec.run (S:=⟨_,fun i=>([.w (.c (.ptr 4 0)),numS g 0,.w (.c (.ptr 5 0)),numS g 2,numS g 7,.w (.c (.ptr 4 2)),numS g 1,.w (.c (.ptr 5 2)),numS g 3,numS g 8,.w (.c (.ptr 9 0)),.w (.c (.ptr 10 0)),noS,noS]:List SV).getD i noS,fun n=>([none,none,none,none,none,none,none,some 4,some 9,some 10,some 11]:List (Option Nat)).getD n none,
  [(0,AX),(1,AY),(2,BX),(3,EY),(7,(.sub AX BX)),(8,(.sub AY EY))],[⟨4,33,dL g 0 1,none⟩,⟨5,33,dL g 2 3,none⟩,⟨6,31,[.v (.pointer none),.v (.int .i64 0)],none⟩,⟨9,31,[.v (.pointer none),.v (.int .i64 0)],some (12,numC g 7)⟩,⟨10,31,[.v (.pointer none),.v (.int .i64 0)],some (13,numC g 8)⟩],
  fun i=>([0,0,0,0,1,0,0,0,0,1,0,0,0,0]:List Nat).getD i 0,fun i=>([[],[0],[],[2],[0,1,2,3],[],[5],[],[7],[5,6,7,8],[],[],[0,1,2,3,4,5,6,7,8,9,10,11],[0,1,2,3,4,5,6,7,8,9,10,11,12]]:List (List Nat)).getD i [],[(2,.w (.c (.ptr 4 0))),(3,.w (.c (.ptr 5 0)))]⟩)
  (W:=runW ⟨w,B,ns⟩ g) (ν0:=fun n=>([ax,ay,bx,ey,b1,b2,b3]:List Nat).getD n 0) (c0:=N)
  (fs:=fun ν=>[(7,.pointer (some ⟨(ν 4),0,none⟩)),(8,numV g (ν 0)),(9,.pointer (some ⟨(ν 5),0,none⟩)),(10,numV g (ν 2)),(11,numV g (ν 7)),(12,.pointer (some ⟨(ν 4),2,none⟩)),(13,numV g (ν 1)),(14,.pointer (some ⟨(ν 5),2,none⟩)),(15,numV g (ν 3)),(16,numV g (ν 8)),(5,.pointer (some ⟨(ν 9),0,none⟩)),(6,.pointer (some ⟨(ν 10),0,none⟩))]) 14 (N+2) [] []
  ⟨Spec.wf_of (by kernel_rfl),aU (by kernel_rfl),aM ⟨rfl,rfl,trivial⟩⟩ R2.out (Run.nodup R2.out) (by omega)
  (fun b hM=>aA (aA (aA (aA (aA (aA (aA (aA (aA (aA (aA (aA (aA (aA aO
    (aB b))
    (aP b 2 m0))
    (aB b))
    (aP b 2 m1))
    (aI b (wP hM m0 m2 rfl rfl rfl rfl rfl rfl)))
    (aB b))
    (aP b 2 m0))
    (aB b))
    (aP b 2 m1))
    (aI b (wP hM m1 m3 rfl rfl rfl rfl rfl rfl)))
    (aW b m3))
    (aW b m4))
    (dB b 2 m3))
    (dB b 2 m4)) ?_
 intro ν W3 hν hR;replace hR:Run ⟨w,B,ns⟩ g (N+2) [(AX,ν 0),(AY,ν 1),(BX,ν 2),(EY,ν 3),((.sub AX BX),ν 7),((.sub AY EY),ν 8)] [((ν 4),dS g (ν 0) (ν 1)),((ν 5),dS g (ν 2) (ν 3)),((ν 6),.cells #[.pointer none,.int .i64 0] 31),((ν 9),numO g (ν 7)),((ν 10),numO g (ν 8))] W3:=hR;have e0:ν 0=ax:=hν 0 rfl;have e1:ν 1=ay:=hν 1 rfl;have e2:ν 2=bx:=hν 2 rfl;have e3:ν 3=ey:=hν 3 rfl;have e4:ν 4=b1:=hν 4 rfl;have e5:ν 5=b2:=hν 5 rfl;have e6:ν 6=b3:=hν 6 rfl;simp only[e0,e1,e2,e3,e4,e5,e6]at hR|-;clear hν e0 e1 e2 e3 e4 e5 e6;generalize ν 7=n4 at hR|-;generalize ν 8=n5 at hR|-;generalize ν 9=b6 at hR|-;generalize ν 10=b7 at hR|-;have R3:=hdd hR;clear hR R2;simp only[putL,bhJ,bhL]
 go_upto_region 2 with fail
 refine Spec.run (S:=⟨_,fun i=>([numS g 1,numS g 1,.w (.c (.sl 5 1)),numS g 6,numS g 2,numS g 2,.w (.c (.sl 7 1)),numS g 8,.w (.c (.sl 9 1)),numS g 10,noS]:List SV).getD i noS,fun n=>([none,none,none,none,none,some 2,some 3,some 6,some 7,some 8,some 9]:List (Option Nat)).getD n none,
  [(1,(.sub AX BX)),(2,(.sub AY EY)),(6,(.mul (.sub AX BX) (.sub AX BX))),(8,(.mul (.sub AY EY) (.sub AY EY))),(10,(.add (.mul (.sub AX BX) (.sub AX BX)) (.mul (.sub AY EY) (.sub AY EY))))],[⟨0,31,[.v (.pointer none),.v (.int .i64 0)],some (10,numC g 10)⟩,⟨3,31,numC g 1,none⟩,⟨4,31,numC g 2,none⟩,⟨5,31,numC g 1,none⟩,⟨7,31,numC g 2,none⟩,⟨9,31,numC g 8,none⟩],
  fun i=>([0,0,0,1,0,0,0,1,0,1,0]:List Nat).getD i 0,fun i=>([[],[],[1],[0,1,2],[],[],[5],[4,5,6],[4,5,6,7],[0,1,2,3,4,5,6,7,8],[0,1,2,3,4,5,6,7,8,9]]:List (List Nat)).getD i [],[(5,.w (.c (.ptr 3 0))),(6,.w (.c (.ptr 4 0))),(4,.w (.c (.ptr 0 0)))]⟩)
  (W:=runW ⟨w,B,ns⟩ g) (ν0:=fun n=>([b3,n4,n5,b6,b7]:List Nat).getD n 0) (c0:=(N+2))
  (fs:=fun ν=>[(17,numV g (ν 1)),(18,numV g (ν 1)),(19,.slice (some ⟨(ν 5),0,none⟩) 1 1),(20,numV g (ν 6)),(21,numV g (ν 2)),(22,numV g (ν 2)),(23,.slice (some ⟨(ν 7),0,none⟩) 1 1),(24,numV g (ν 8)),(25,.slice (some ⟨(ν 9),0,none⟩) 1 1),(26,numV g (ν 10))]) 11 (N+5) [false,false,false,false] [false,false]
  ⟨Spec.wf_of (by kernel_rfl),aU (by kernel_rfl),aM ⟨rfl,rfl,rfl,trivial⟩⟩ R3.out (Run.nodup R3.out) (by omega)
  (fun b hM=>aA (aA (aA (aA (aA (aA (aA (aA (aA (aA (aA aO
    (aP b 2 m1))
    (aP b 2 m1))
    (dY b m3))
    (aI b (lM hM m0 m0 rfl rfl m3 rfl rfl rfl rfl rfl rfl rfl rfl)))
    (aP b 2 m2))
    (aP b 2 m2))
    (dY b m4))
    (aI b (lM hM m1 m1 rfl rfl m4 rfl rfl rfl rfl rfl rfl rfl rfl)))
    (dY b m5))
    (aI b (ab6 hM m2 m3 rfl rfl m5 rfl rfl rfl rfl rfl rfl rfl rfl)))
    (dB b 2 m0)) ?_
 intro ν W4 hν hR;replace hR:Run ⟨w,B,ns⟩ g (N+5) [((.sub AX BX),ν 1),((.sub AY EY),ν 2),((.mul (.sub AX BX) (.sub AX BX)),ν 6),((.mul (.sub AY EY) (.sub AY EY)),ν 8),((.add (.mul (.sub AX BX) (.sub AX BX)) (.mul (.sub AY EY) (.sub AY EY))),ν 10)] [((ν 0),numO g (ν 10)),((ν 3),numO g (ν 1)),((ν 4),numO g (ν 2)),((ν 5),numO g (ν 1)),((ν 7),numO g (ν 2)),((ν 9),numO g (ν 8))] W4:=hR;have e0:ν 0=b3:=hν 0 rfl;have e1:ν 1=n4:=hν 1 rfl;have e2:ν 2=n5:=hν 2 rfl;have e3:ν 3=b6:=hν 3 rfl;have e4:ν 4=b7:=hν 4 rfl;simp only[e0,e1,e2,e3,e4]at hR|-;clear hν e0 e1 e2 e3 e4;generalize ν 5=b8 at hR|-;generalize ν 6=n9 at hR|-;generalize ν 7=b10 at hR|-;generalize ν 8=n11 at hR|-;generalize ν 9=b12 at hR|-;generalize ν 10=n13 at hR|-;have R4:=hdd hR;clear hR R3;simp only[putL,bhJ,bhL];go_wp2;obtain⟨x0,x1,-,-⟩:=aD (R4.out.at m0);refine bodyPost_ret (v:=.agg #[_,_]) (by simp[results,Tryz.results41,go_sem,x0,x1];first|exact⟨rfl,rfl⟩|rfl) rfl ?_;exact R4.out.num m4
section
variable{s:Bs}{W:World}{g N i j k i' j' k':Nat}{K:List (Ex×Nat)}{l:List (Nat×Obj)}{x px py qx qy rx ry:Ex}{q:Int}
theorem Run.square (h:Run s g N K l W)(hN:N+5<=20000)(h1:(px,i)∈K)(h2:(py,i')∈K)(h3:(qx,j)∈K)(h4:(qy,j')∈K):Calls Tryz.prog 41 #[bP g i i',bP g j j'] W (RtR s g (N+5) K l (sqrX px py qx qy)):=by
 obtain⟨ns,hs,hK⟩:=h;exact(aeE hs.st hN (hK _ h1) (hK _ h2) (hK _ h3) (hK _ h4)).mono fun _ _ hr=>lK hs hK hr
end
section
variable{S:Spec Ex}{w0:Bs}{g c0:Nat}{i:Nat}(hM:c0+S.total<=20000){m n m' n' m2 n2 t:Nat}{x y x' y' x2 y2:Ex}{q:Int}(hx:(m,x)∈S.know)(hy:(n,y)∈S.know)(px:S.pre i m=true)(py:S.pre i n=true)
include hM hx px
include hy py
variable(hx':(m',x')∈S.know)(hy':(n',y')∈S.know)(px':S.pre i m'=true)(py':S.pre i n'=true)
include hx' hy' px' py'
theorem xO(hc:S.cost i=5)(hv:S.val i=numS g t)(ht:S.cr t=some i)(hk:S.made i=[(t,sqrX x y x' y')]):gK S w0 g c0 i 41 (fun ν=>#[bP g (ν m) (ν n),bP g (ν m') (ν n')]):=
 lL hM (d:=4) hc hv ht hk fun lst ν c w hD hl h=>h.square (by omega) (fG hx (pre_on px hD)) (fG hy (pre_on py hD)) (fG hx' (pre_on px' hD)) (fG hy' (pre_on py' hD))
end
end Go.Proofs.YtjaafolhfihegaaGreatDoor
namespace Go.Proofs.YtjaafolhfihegaaGreatDoor
open Go.RowKit Go.Maps
open Re (rat ofI ofN)
variable{P:Ex->Prop}
section
variable{L:List Ex}{A B C D A' B' C':Ex}{a b c d a' b' c':Re}{i j k l i' j' k':Nat}
end
theorem alC:fv 0=(0:Int)*(U74:Int):=by kernel_rfl
theorem alD:fv 4607182418800017408=(1:Int)*(U74:Int):=by kernel_rfl
theorem apS:fv 4611686018427387904=(2:Int)*(U74:Int):=by kernel_rfl
theorem alE:fv 4616189618054758400=(4:Int)*(U74:Int):=by kernel_rfl
def fl(k:Int):Nat:=FloatKind.f64.nearest k
abbrev li(k:Int):Ex:=.leaf (fl k)
theorem nY{k:Int}(h:k.natAbs<2^53):fl k<18446744073709551616/\fin (fl k)/\fv (fl k)=k*(U74:Int):=by
 obtain⟨h1,h2,h3⟩:=ac5 h;obtain⟨u,hu,hU⟩:=eP;exact⟨h1,h2,by rw[hU,hu];exact h3⟩
theorem rM{L:List Ex}{k:Int}(n:Nat)(h:k.natAbs<2^n)(hn:n<=53):Fit L (.leaf n 0) (li k) (rat (k:Rat)):=by
 obtain⟨h1,h2,h3⟩:=nY (k:=k) (Nat.lt_of_lt_of_le h (Nat.pow_le_pow_right (by omega) hn));exact Fit.leaf n h1 h2 h3 h
theorem ao3{L:List Ex}:Fit L (.leaf 1 0) (.leaf 4607182418800017408) (rat 1):=Fit.leaf 1 (by decide) (by decide) alD (by decide)
theorem ao4{L:List Ex}:Fit L (.leaf 2 0) (.leaf 4611686018427387904) (rat 2):=Fit.leaf 2 (by decide) (by decide) apS (by decide)
section
variable{L:List Ex}{s t:Sh}{a b:Ex}{p q:Rat}
theorem Fit.radd (h:Fit L s a (rat p))(g:Fit L t b (rat q)):Fit L (.add s t) (.add a b) (rat (p+q)):=by rw[Re.rat_add];exact h.add g
theorem Fit.rsub (h:Fit L s a (rat p))(g:Fit L t b (rat q)):Fit L (.add s t) (.sub a b) (rat (p-q)):=by rw[Re.rat_sub];exact h.sub g
theorem Fit.rmul (h:Fit L s a (rat p))(g:Fit L t b (rat q)):Fit L (.mul s t) (.mul a b) (rat (p*q)):=by rw[Re.rat_mul];exact h.mul g
theorem Fit.rdiv (hL:Lok L)(h:Fit L s a (rat p))(g:Fit L t b (rat q))(h0:q≠0){z:Rat}(hz:z*q=p):Fit L (.div s t) (.div a b) (rat z):=
 Fit.div hL h g (fun e=>h0 (Re.rat_inj.1 (e.trans Re.zero_rat))) (by rw[<-Re.rat_mul,hz])
theorem Fit.pos (h:Fit L s a (rat p))(hp:0<p)(hs:(s.ok L.length&&s.top L.length)=true):dG P a 1:=by
 have:=h.sgn (P:=P) hs;rwa[Re.sgn_pos (by rw[Re.zero_rat];exact Re.rat_lt.2 hp)]at this
theorem Fit.neg (h:Fit L s a (rat p))(hp:p<0)(hs:(s.ok L.length&&s.top L.length)=true):dG P a (-1):=by
 have:=h.sgn (P:=P) hs;rwa[Re.sgn_neg (by rw[Re.zero_rat];exact Re.rat_lt.2 hp)]at this
theorem Fit.zero (h:Fit L s a (rat p))(hp:p=0)(hs:(s.ok L.length&&s.top L.length)=true):dG P a 0:=by
 have:=h.sgn (P:=P) hs;rwa[hp,<-Re.zero_rat,Re.sgn_zero]at this
end
end Go.Proofs.YtjaafolhfihegaaGreatDoor
namespace Go.Proofs.YtjaafolhfihegaaGreatDoor
open Ieee
open Re (rat ofI ofN)
open Int renaming natAbs_natCast->bhN,natCast_mul->bhS,natAbs_neg->bhU
open Nat renaming pow_add->bhO,le_of_mul_le_mul_right->bhP,pow_zero->bhQ,mul_one->bhR,two_pow_pos->bhT,mul_assoc->bhV,le_trans->bhW
variable{r v:Nat}
theorem ao5(hf:fin v):∃(x:Int) (e:Nat),x.natAbs<2^53/\fv v=x*(2^e:Nat)/\(e=0\/2^52<=x.natAbs):=by
 obtain⟨m,e,h1,h2,h3⟩:∃m e,m<2^53/\mg (sr v).natAbs=m*2^e/\(e=0\/2^52<=m):=by
  rcases Nat.lt_or_ge (sr v).natAbs (2^52)with h|h
  . exact⟨_,0,Nat.lt_trans h (by decide),by rw[kF _ (by omega),bhQ,bhR],Or.inl rfl⟩
  . exact⟨_,_,by omega,jD _ h,Or.inr (by omega)⟩
 unfold fv fvr;rw[h2]
 split
 . exact⟨-(m:Int),e,by omega,by rw[bhS,Int.neg_mul],by omega⟩
 . exact⟨(m:Int),e,by omega,by rw[bhS],by omega⟩
theorem aeF(x:Int)(e:Nat):(x*(2^e:Nat)).natAbs=x.natAbs*2^e:=by rw[Int.natAbs_mul,bhN]
theorem alF(hf:fin v)(hb:(fv v).natAbs<=64*U74):∃r,double.mul v 4616189618054758400=some r/\r<2^64/\fin r/\fv r=fv v*4:=by
 obtain⟨x,e,h1,h2,h3⟩:=ao5 hf;obtain⟨u,hu,hU⟩:=eP;obtain⟨r,k1,k2,hn⟩:=lH hf (show fin 4616189618054758400 by decide);have he:e<=1988:=by
  rcases h3 with h3|h3
  . omega
  . rw[h2,aeF,hU]at hb
    have h4:2^52*2^e<=x.natAbs*2^e:=Nat.mul_le_mul_right _ h3;have h5:2^52*2^e<=2^6*2^u:=bhW h4 hb;rw[<-bhO,<-bhO]at h5;have:=(Nat.pow_le_pow_iff_right (by omega)).1 h5;omega
 have hr:=xN (x:=x) (e+2) h1 (by omega);obtain⟨h5,h6⟩:=hn.exact hr (by
  rw[h2,alE,hU];have e1:(2148-1074:Nat)=u:=by omega
  rw[e1,bhO];generalize 2^e=A;generalize 2^u=C
  push_cast;grind)
 refine⟨r,k1,k2,h5,?_⟩;rw[h6,h2,bhO];generalize 2^e=A
 push_cast;grind
theorem alG(s:Bool)(n d:Nat):Toward.zero.cut s n d<=n/2^d:=by
 unfold Toward.cut;simp only[Bool.toNat_false,Nat.add_zero,Nat.one_shiftLeft];rcases Nat.le_total d (n.log2+2)with h|h
 . rw[Nat.min_eq_left h];exact Nat.le_refl _
 . rw[Nat.min_eq_right h]
   have:n<2^(n.log2+1):=Nat.lt_log2_self;rw[Nat.div_eq_of_lt (Nat.lt_of_lt_of_le this (Nat.pow_le_pow_right (by omega) (by omega)))];exact Nat.zero_le _
theorem ac6{b:Nat}(hf:fin r)(hb:(fv r).natAbs<=b*U74):∃T:Int,(double.read r).toInt .zero=some T/\T.natAbs<=b:=by
 obtain⟨m,p,e,hp,hm⟩:=fE hf;obtain⟨u,hu,hU⟩:=eP;rw[e];refine⟨_,rfl,?_⟩;rw[iR];have h1:m <<< p.toNat/2^(-p).toNat<=b:=by
  have hv:(fv r).natAbs=mg (rung r):=by
   rw[jE hm];split
   . rw[bhU,bhN,hm]
   . rw[bhN,hm]
  rw[hv,<-hm,hU]at hb;rw[Nat.shiftLeft_eq];rcases Int.le_total 0 p with h|h
  . have e1:(p+1074).toNat=p.toNat+u:=by omega
    have e2:(-p).toNat=0:=by omega
    rw[e1,bhO,<-bhV]at hb;rw[e2,bhQ,Nat.div_one];exact bhP hb (bhT u)
  . have e1:u=(p+1074).toNat+(-p).toNat:=by omega
    have e2:p.toNat=0:=by omega
    rw[e1,bhO,<-bhV,Nat.mul_right_comm]at hb;rw[e2,bhQ,bhR];have:=bhP hb (bhT (p+1074).toNat);exact Nat.div_le_of_le_mul (by rw[Nat.mul_comm];exact this)
 have h2:=bhW (alG (fneg r) (m <<< p.toNat) (-p).toNat) h1;rw[bhQ,bhR]
 split
 . rw[bhU,bhN];exact h2
 . rw[bhN];exact h2
theorem NearR.exact {M:Int}(h:NearR r (ofI M))(hM:RepF M):fin r/\fv r=M:=by
 obtain⟨c,c1,c2,rfl⟩:=hM;have e:sr r=c:=by
  have h1:=h.2.1 c (by omega) (by omega) (Re.le_refl _);have h2:=h.2.2 c (by omega) (by omega) (Re.le_refl _);omega
 exact⟨alB (by omega) (by omega),by unfold fv;rw[e]⟩
theorem aeG{T:Int}(h:T.natAbs<=256):∃r,double.div (fl T) 4616189618054758400=some r/\r<2^64/\fin r/\∃k,k+2=1074/\fv r=T*(2^k:Nat):=by
 obtain⟨u,hu,hU⟩:=eP;obtain⟨h1,h2,h3⟩:=nY (k:=T) (by omega);obtain⟨k,hk⟩:∃k,k+2=u:=⟨u-2,by omega⟩;have hI:T*(2^k:Nat)*fv 4616189618054758400=fv (fl T)*(U74:Int):=by
  rw[alE,h3,hU,<-hk,bhO];generalize 2^k=A
  push_cast;grind
 have hV:ofI (T*(2^k:Nat))*ofI (fv 4616189618054758400)=ofI (fv (fl T))*ofN U74:=by
  unfold ofN;rw[<-Re.ofI_mul,<-Re.ofI_mul,hI]
 have h4:0<U74:=qJ 1074;obtain⟨r,r1,r2,r3⟩:=nC eP h2 (show fin 4616189618054758400 by decide) (by rw[alE];omega) hV;obtain⟨r4,r5⟩:=r3.exact (xN k (by omega) (by omega));exact⟨r,r1,r2,r4,k,by omega,r5⟩
end Go.Proofs.YtjaafolhfihegaaGreatDoor
namespace Go.Proofs.YtjaafolhfihegaaGreatDoor
open Go.RowKit Go.Maps
open Re (rat ofI ofN)
variable{P:Ex->Prop}{T v x:Int}{L:List Ex}{b:Nat}
structure Qw(b:Nat)(x:Int):Prop where
 ok:FlOk b
 val:∃k,k+2=1074/\fv b=x*(2^k:Nat)
theorem apT:p2 (-((2:Nat):Int))=1/4:=by
 have h1:=dE ((2:Nat):Int) (-((2:Nat):Int));rw[Int.add_right_neg,mP,fP,show((2^2:Nat):Rat)=4 from rfl]at h1;grind
theorem Qw.fit (h:Qw b x)(n:Nat)(hx:x.natAbs<2^n):Fit L (.leaf n 2) (.leaf b) (rat ((x:Rat)/4)):=by
 obtain⟨k,hk,hv⟩:=h.val;have:=Fit.dleaf (L:=L) (l:=2) h.ok.1 h.ok.2 (by omega) hv hx;rw[apT]at this;rwa[show(x:Rat)*(1/4)=(x:Rat)/4 by grind]at this
theorem Qw.ne (h:Qw b x):fv b=0↔x=0:=by
 obtain⟨k,-,hv⟩:=h.val;rw[hv];constructor
 . intro e
   rcases Int.mul_eq_zero.1 e with h|h
   . exact h
   . exact absurd h (by have:=Nat.two_pow_pos k;omega)
 . intro e;rw[e,Int.zero_mul]
theorem Fit.sign {s:Sh}{a:Ex}{q:Rat}(h:Fit L s a (rat q))(c:Nat)(hc:0<c)(hq:q*(c:Rat)=(v:Rat))(hs:(s.ok L.length&&s.top L.length)=true):dG P a v.sign:=by
 have hc':(0:Rat)<(c:Rat):=by rw[<-Rat.intCast_natCast];exact Rat.intCast_pos.2 (by omega)
 rcases Int.lt_trichotomy v 0 with g|g|g
 . rw[Int.sign_eq_neg_one_iff_neg.2 g]
   refine h.neg ?_ hs;apply Classical.byContradiction;intro k;have h1:0<=q*(c:Rat):=Rat.mul_nonneg (by grind) (by grind);rw[hq]at h1;have h2:(v:Rat)<((0:Int):Rat):=Rat.intCast_lt_intCast.2 g;have h3:((0:Int):Rat)=0:=rfl;grind
 . rw[g]
   refine h.zero ?_ hs;rw[g]at hq;rcases Rat.mul_eq_zero.1 (hq.trans (show((0:Int):Rat)=0 from rfl))with k|k
   . exact k
   . grind
 . rw[Int.sign_eq_one_iff_pos.2 g]
   refine h.pos ?_ hs;apply Classical.byContradiction;intro k;have h1:0<=-q*(c:Rat):=Rat.mul_nonneg (by grind) (by grind);have h2:((0:Int):Rat)<(v:Rat):=Rat.intCast_lt_intCast.2 g;have h3:((0:Int):Rat)=0:=rfl;grind
abbrev aK(p q s t:Nat):Ex:=.sub (.mul (.leaf p) (.leaf q)) (.mul (.leaf s) (.leaf t))
theorem lW{p q s t:Nat}{y z u:Int}(hp:Qw p x)(hq:Qw q y)(hs:Qw s z)(ht:Qw t u)(bx:x.natAbs<2^12)(b_y:y.natAbs<2^12)(bz:z.natAbs<2^12)(bu:u.natAbs<2^12)(hv:x*y-z*u=v):dG P (aK p q s t) v.sign:=by
 refine((((hp.fit (L:=[]) 12 bx).rmul (hq.fit 12 b_y)).rsub ((hs.fit 12 bz).rmul (ht.fit 12 bu))).sign (v:=v) 16 (by omega) ?_ (by kernel_rfl));rw[<-hv]
 push_cast
 grind
theorem jY(hT:T.natAbs<=7)(hx:x.natAbs<=256):(T*x).natAbs<=1792:=by
 rw[Int.natAbs_mul];exact Nat.le_trans (Nat.mul_le_mul hT hx) (by decide)
def Iw(b:Nat)(T:Int):Prop:=FlOk b/\fv b=T*(U74:Int)
theorem alH{x0 x1 x2 X0 Y0:Int}{tw A B C A' B' C' D:Nat}(hw:Iw tw T)(hT:T≠0/\T.natAbs<=7)(qA:Qw A x0)(qB:Qw B x1)(qC:Qw C x2)(qA':Qw A' (T*x0))(qB':Qw B' (T*x1))(qC':Qw C' (T*x2))(qD:Qw D (T*x2+4))
 (h0:x0.natAbs<=256) (h1:x1.natAbs<=256) (h2:x2.natAbs<=256) (hX:X0.natAbs<2^5) (hY:Y0.natAbs<2^5) (hne:x0≠0\/x1≠0):
 dG PT (aK A B' B A') 0/\dG PT (aK A C' A' C) 0/\dG PT (aK B C' B' C) 0/\dG PT (aK A D A' C) (4*x0).sign/\dG PT (aK B D B' C) (4*x1).sign/\
  dG PT (.sub (.mul (fB (li X0) (li Y0) A B C) (.leaf tw)) (fB (li X0) (li Y0) A' B' C')) 0:=by
 have m0:=jY hT.2 h0;have m1:=jY hT.2 h1;have m2:=jY hT.2 h2;refine⟨?_,?_,?_,?_,?_,?_⟩
 . exact lW (v:=0) qA qB' qB qA' (by omega) (by omega) (by omega) (by omega) (by grind)
 . exact lW (v:=0) qA qC' qA' qC (by omega) (by omega) (by omega) (by omega) (by grind)
 . exact lW (v:=0) qB qC' qB' qC (by omega) (by omega) (by omega) (by omega) (by grind)
 . exact lW qA qD qA' qC (by omega) (by omega) (by omega) (by omega) (by grind)
 . exact lW qB qD qB' qC (by omega) (by omega) (by omega) (by omega) (by grind)
 . have X:=rM (L:=[]) 5 hX (by omega)
   have Y:=rM (L:=[]) 5 hY (by omega);have t:Fit [] (.leaf 3 0) (.leaf tw) (rat (T:Rat)):=Fit.leaf 3 hw.1.1 hw.1.2 hw.2 (by omega);have a:=qA.fit (L:=[]) 12 (by omega);have b:=qB.fit (L:=[]) 12 (by omega);have c:=qC.fit (L:=[]) 12 (by omega);have a':=qA'.fit (L:=[]) 12 (by omega);have b':=qB'.fit (L:=[]) 12 (by omega);have c':=qC'.fit (L:=[]) 12 (by omega);refine((((((a.rmul X).radd (b.rmul Y)).rsub c).rmul t)).rsub (((a'.rmul X).radd (b'.rmul Y)).rsub c')).zero ?_ (by kernel_rfl)
   push_cast
   grind
end Go.Proofs.YtjaafolhfihegaaGreatDoor
