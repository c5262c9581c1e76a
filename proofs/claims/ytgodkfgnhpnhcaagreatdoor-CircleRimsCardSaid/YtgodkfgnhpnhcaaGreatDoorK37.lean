/- A part of the proof: contracts of functions and plain laws (QlT, TwA, TwB). -/
import Derived.Test.YtgodkfgnhpnhcaaGreatDoorK34
import Derived.IntWalk
set_option linter.unusedVariables false
set_option linter.unusedSimpArgs false
set_option maxHeartbeats 25600000
set_option maxRecDepth 100000
namespace Go.Proofs.YtgodkfgnhpnhcaaGreatDoor
open Go.RowKit Go.Maps
open Re (rat ofI ofN)
noncomputable def hf:Re:=rat (1/2)
theorem ajV(x:Re):x*hf*ofI 2=x:=by
 unfold hf ofI;revert x;exact Re.all1 fun a=>Re.same fun n=>by simp only[Re.mulC_f,Re.ratC_f];grind
section
variable(a a' b b' c c':Re)
theorem alT:detR b b' c c' a a'=detR a a' b b' c c':=by
 unfold detR;revert a a' b b' c c';exact Re.all6 fun a a' b b' c c'=>Re.same fun n=>by simp only[Re.addC_f,Re.mulC_f,Re.negC_f];grind
theorem ajW:detR b b' a a' c c'=-detR a a' b b' c c':=by
 unfold detR;revert a a' b b' c c';exact Re.all6 fun a a' b b' c c'=>Re.same fun n=>by simp only[Re.addC_f,Re.mulC_f,Re.negC_f];grind
theorem alU:detR a a' b b' ((a+b)*hf) ((a'+b')*hf)=0:=by
 unfold detR hf;revert a a' b b';exact Re.all4 fun a a' b b'=>Re.same fun n=>by simp only[Re.addC_f,Re.mulC_f,Re.negC_f,Re.ratC_f];grind
theorem ajX:detR a a' a a' c c'=0:=by
 unfold detR;revert a a' c c';exact Re.all4 fun a a' c c'=>Re.same fun n=>by simp only[Re.addC_f,Re.mulC_f,Re.negC_f,Re.ratC_f];grind
theorem abT(r:Re):(b+r)-(a+r)=b-a:=by
 revert a b r;exact Re.all3 fun a b r=>Re.same fun n=>by simp only[Re.addC_f,Re.mulC_f,Re.negC_f];grind
theorem abU(r:Re):(b-r)-(a-r)=b-a:=by
 revert a b r;exact Re.all3 fun a b r=>Re.same fun n=>by simp only[Re.addC_f,Re.mulC_f,Re.negC_f];grind
theorem ajY(r:Re):detR (a+r) (a'-r) (b+r) (b'-r) (c+r) (c'-r)=detR a a' b b' c c':=by
 unfold detR;rw[abT,abT,abU,abU]
end
section
variable{L:List Ex}{a:Ex}{x:Re}{k n:Nat}
theorem QE.half (hL:Lok L)(h:QE L a x k)(hK:L.length<=7){G:Nat}(hG:15*2^L.length+1=G)(n1:20*k+G+2<=20*n)(n2:120+20*k+2*G+2<=120*n)(n3:120*k+G+2<=120*n)(n4:k+1<=n):QE L (oH a) (x*hf) n:=by
 have h2:2^L.length<=2^7:=Nat.pow_le_pow_right (by decide) hK;have h3:(2:Nat)^7=128:=by decide
 exact QE.div hL h (aeA.weak (fun r hr=>by simp at hr)) ajS (ajV x) (by omega) (by omega) hG (by omega) (by omega) (by omega) n3 n4
end
abbrev lf(k:Int):Ex:=.leaf (fl k)
theorem af8(x:Re):Re.sgn x=-1\/Re.sgn x=0\/Re.sgn x=1:=by
 rcases Re.sgn_cases x with ⟨-,h⟩|⟨-,h⟩|⟨-,h⟩
 . exact Or.inr (Or.inr h)
 . exact Or.inr (Or.inl h)
 . exact Or.inl h
theorem ajZ{K p p' q q' o o':Int}(hK:0<=K/\K<100)(hp:-100<p/\p<100)(hp':-100<p'/\p'<100)(hq:-100<q/\q<100)(hq':-100<q'/\q'<100)(ho:-100<o/\o<100)(ho':-100<o'/\o'<100):
 ∃s:Int,(s=-1\/s=0\/s=1)/\∀R A A' B B' C C':Ex,R=.root (lf K)->A=lf p->A'=.add (lf p') R->B=lf q->B'=lf q'->C=.sub (lf o) R->C'=lf o'->
  kE PT A A' B B' C C' s/\kE PT B B' C C' A A' s/\kE PT B B' A A' C C' (-s)/\kE PT A A' B B' (midE A B) (midE A' B') 0/\kE PT A A' A A' C C' 0/\
  kE PT (.add A R) (.sub A' R) (.add B R) (.sub B' R) (.add C R) (.sub C' R) s:=by
 obtain⟨r,hr0,hr⟩:=Re.exists_sqrt (x:=ofI K) (by rw[<-Re.ofI_zero];exact Re.ofI_le.2 hK.1);obtain⟨k1,k2,k3⟩:=jL (k:=K) (by omega);have hL:Lok [.root (lf K)]:=ajB k1 k2 k3 (by omega) hK.1;have hl:∀{v:Int},(-100<v/\v<100)->QE [.root (lf K)] (lf v) (ofI v) 1:=fun{v} h=>by
  obtain⟨h1,h2,h3⟩:=jL h;exact QE.leaf h1 h2 h3 (by omega)
 have hR:QE [.root (lf K)] (.root (lf K)) r 1:=QE.rootI k1 k2 k3 (by omega) hr0 hr (List.mem_singleton.2 rfl);have a:=hl hp;have a':=(hl hp').add hR;have b:=hl hq;have b':=hl hq';have c:=(hl ho).sub hR;have c':=hl ho';have ok:∀k,k<=40->okQ [Ex.root (lf K)].length k:=fun k hk=>⟨by simp,by omega,by simp;omega⟩;have s1:=rF a a' b b' c c' (ok _ (by omega));have s2:=rF b b' c c' a a' (ok _ (by omega));have s3:=rF b b' a a' c c' (ok _ (by omega));have s4:=rF a a' b b' ((a.add b).half (n:=4) hL (by simp) (G:=31) (by simp) (by omega) (by omega) (by omega) (by omega)) ((a'.add b').half (n:=5) hL (by simp) (G:=31) (by simp) (by omega) (by omega) (by omega) (by omega)) (ok _ (by omega));have s5:=rF a a' a a' c c' (ok _ (by omega));have s6:=rF (a.add hR) (a'.sub hR) (b.add hR) (b'.sub hR) (c.add hR) (c'.sub hR) (ok _ (by omega));rw[alT]at s2;rw[ajW,Re.sgn_of_neg]at s3;rw[alU,Re.sgn_zero]at s4;rw[ajX,Re.sgn_zero]at s5;rw[ajY]at s6;obtain⟨s,hs⟩:∃s,Re.sgn (detR (ofI p) (ofI p'+r) (ofI q) (ofI q') (ofI o-r) (ofI o'))=s:=⟨_,rfl⟩
 have h3:=af8 (detR (ofI p) (ofI p'+r) (ofI q) (ofI q') (ofI o-r) (ofI o'));rw[hs]at s1 s2 s3 s6 h3;refine⟨s,h3,?_⟩;rintro R A A' B B' C C' rfl rfl rfl rfl rfl rfl rfl;exact⟨s1,s2,s3,s4,s5,s6⟩
end Go.Proofs.YtgodkfgnhpnhcaaGreatDoor
namespace Go.Proofs.YtgodkfgnhpnhcaaGreatDoor
open Go.RowKit Go.Maps
variable{g i:Nat}
section
variable{P:Program}{ρ:Operand->Value}{o:Oper}{t t2:TypeId}{x y:Operand}{a b v:Value}{w:World}
theorem ac3{op:BinOp}(ho:o.op=.binOp op t x y t2)(hx:ρ x=a)(hy:ρ y=b)(hg:eqGuard op t x y a b=pure ())(h:(binOp op t a b).run P w=.ok v w):(execOp ρ o).run P w=.ok (.value v) w:=by
 unfold execOp;rw[ho];simp only[hx,hy,hg];generalize binOp op t a b=q at h|-;simp[go_sem,h]
theorem alV(ho:o.op=.convert t t2 x)(hx:ρ x=a)(h:(convert t t2 a).run P w=.ok v w):(execOp ρ o).run P w=.ok (.value v) w:=by
 unfold execOp;rw[ho];simp only[hx];generalize convert t t2 a=q at h|-;simp[go_sem,h]
end
theorem aeC{k n:Int}(hn:¬n=0)(w:World):(binOp .rem 3 (.int .i64 k) (.int .i64 n)).run Tryz.prog w=.ok (.int .i64 (k.tmod n)) w:=by
 simp[go_sem,hn]
theorem alW{a b:Int}(h:IntKind.i64.wrap (a+b)=a+b)(w:World):(binOp .add 3 (.int .i64 a) (.int .i64 b)).run Tryz.prog w=.ok (.int .i64 (a+b)) w:=by
 simp[go_sem,h]
theorem aj0(a:Int)(w:World):(convert 3 31 (.int .i64 a)).run Tryz.prog w=.ok (.float .f64 (fl a)) w:=by
 simp[go_sem];rfl
theorem mod9(k:Int):∃a b K:Int,(∀w,(binOp .rem 3 (.int .i64 k) (.int .i64 9)).run Tryz.prog w=.ok (.int .i64 a) w)/\(∀w,(binOp .add 3 (.int .i64 a) (.int .i64 9)).run Tryz.prog w=.ok (.int .i64 b) w)/\
 (∀w,(binOp .rem 3 (.int .i64 b) (.int .i64 9)).run Tryz.prog w=.ok (.int .i64 K) w)/\0<=K/\K<100:=by
 have h1:=bC (v:=k) (n:=9) (by decide) (by decide);have h2:=Int.lt_tmod_of_pos k (show(0:Int)<9 by decide);have h3:0<=(k.tmod 9+9).tmod 9:=Int.tmod_nonneg _ (by omega);have h4:=bC (v:=k.tmod 9+9) (n:=9) (by decide) (by decide);exact⟨_,_,_,fun w=>aeC (by decide) w,fun w=>alW (IntWalk.i64_in _ (by omega)) w,fun w=>aeC (by decide) w,h3,h4.2⟩
theorem af9{B N:Nat}{w:World}{ax ay:Nat}{ns:List Nd}{AX AY R:Ex}(hs:St PT B N w g ns)(hN:N+2<=20000)(hax:Is ns AX ax)(hay:Is ns AY ay)(hi:Is ns R i):
 Calls Tryz.prog 33 #[aN g ax ay,numV g i] w (xU PT B (N+2) w g ns (.add AX R) (.sub AY R)):=by
 have R1:=hdd (Run.enter (K:=[(AX,ax),(AY,ay),(R,i)]) hs (by
  intro p hp;simp only[List.mem_cons,List.not_mem_nil,or_false]at hp;rcases hp with rfl|rfl|rfl<;>assumption))
 clear hs hax hay hi;go_enter Tryz.func33,Tryz.ntmps33
 go_upto_region 0 with fail
 refine Spec.run (S:=⟨_,fun i=>([.w (.c (.ptr 3 0)),.w (.c (.ptr 4 0)),.w (.c (.ptr 5 0))]:List SV).getD i noS,fun n=>([none,none,none,some 0,some 1,some 2]:List (Option Nat)).getD n none,
  [(0,AX),(1,AY),(2,R)],[⟨3,29,aX g 0 1,none⟩,⟨4,27,numC g 2,none⟩,⟨5,29,[.v (.pointer none),.v (.int .i64 0),.v (.pointer none),.v (.int .i64 0)],none⟩],
  fun i=>([0,0,0]:List Nat).getD i 0,fun i=>([[],[],[]]:List (List Nat)).getD i [],[(0,aW g 0 1),(1,numS g 2)]⟩)
  (W:=runW ⟨w,B,ns⟩ g) (ν0:=fun n=>([ax,ay,i]:List Nat).getD n 0) (c0:=N)
  (fs:=fun ν=>[(2,.pointer (some ⟨(ν 3),0,none⟩)),(3,.pointer (some ⟨(ν 4),0,none⟩)),(4,.pointer (some ⟨(ν 5),0,none⟩))]) 3 N [] []
  ⟨Spec.wf_of (by kernel_rfl),dG (by kernel_rfl),bJ ⟨rfl,rfl,trivial⟩⟩ R1.out (Run.nodup R1.out) (by omega)
  (fun b hM=>aA (aA (aA bT
    (cZ b m0))
    (cZ b m1))
    (cZ b m2)) ?_
 intro ν W2 hν hR;replace hR:Run ⟨w,B,ns⟩ g N [(AX,ν 0),(AY,ν 1),(R,ν 2)] [((ν 3),aV g (ν 0) (ν 1)),((ν 4),numO g (ν 2)),((ν 5),.cells #[.pointer none,.int .i64 0,.pointer none,.int .i64 0] 29)] W2:=hR;have e0:ν 0=ax:=hν 0 rfl;have e1:ν 1=ay:=hν 1 rfl;have e2:ν 2=i:=hν 2 rfl;simp only[e0,e1,e2]at hR|-;clear hν e0 e1 e2;generalize ν 3=b1 at hR|-;generalize ν 4=b2 at hR|-;generalize ν 5=b3 at hR|-;have R2:=hdd hR;clear hR R1;simp only[putL,List.setIfInBounds_toArray,List.set]
 go_upto_region 1 with fail
 refine Spec.run (S:=⟨_,fun i=>([.w (.c (.ptr 3 0)),numS g 0,numS g 2,.w (.c (.sl 6 1)),numS g 7,.w (.c (.ptr 3 2)),numS g 1,numS g 2,numS g 8,aW g 7 8,noS]:List SV).getD i noS,fun n=>([none,none,none,none,none,none,some 3,some 4,some 8]:List (Option Nat)).getD n none,
  [(0,AX),(1,AY),(2,R),(7,(.add AX R)),(8,(.sub AY R))],[⟨3,29,aX g 0 1,none⟩,⟨4,27,numC g 2,none⟩,⟨5,29,[.v (.pointer none),.v (.int .i64 0),.v (.pointer none),.v (.int .i64 0)],some (10,aX g 7 8)⟩,⟨6,27,numC g 2,none⟩],
  fun i=>([0,0,0,0,1,0,0,0,1,0,0]:List Nat).getD i 0,fun i=>([[],[0],[],[2],[0,1,2,3],[],[5],[],[5,6,7],[0,1,2,3,4,5,6,7,8],[0,1,2,3,4,5,6,7,8,9]]:List (List Nat)).getD i [],[(2,.w (.c (.ptr 3 0))),(3,.w (.c (.ptr 4 0))),(4,.w (.c (.ptr 5 0)))]⟩)
  (W:=runW ⟨w,B,ns⟩ g) (ν0:=fun n=>([ax,ay,i,b1,b2,b3]:List Nat).getD n 0) (c0:=N)
  (fs:=fun ν=>[(5,.pointer (some ⟨(ν 3),0,none⟩)),(6,numV g (ν 0)),(7,numV g (ν 2)),(8,.slice (some ⟨(ν 6),0,none⟩) 1 1),(9,numV g (ν 7)),(10,.pointer (some ⟨(ν 3),2,none⟩)),(11,numV g (ν 1)),(12,numV g (ν 2)),(13,numV g (ν 8)),(14,aN g (ν 7) (ν 8))]) 11 (N+2) [] []
  ⟨Spec.wf_of (by kernel_rfl),dG (by kernel_rfl),bJ ⟨rfl,rfl,rfl,trivial⟩⟩ R2.out (Run.nodup R2.out) (by omega)
  (fun b hM=>aA (aA (aA (aA (aA (aA (aA (aA (aA (aA (aA bT
    (aD b))
    (aI b 2 m0))
    (aI b 2 m1))
    (iG b m3))
    (aL b (xV hM m0 m2 rfl rfl m3 rfl rfl rfl rfl rfl rfl rfl rfl)))
    (aD b))
    (aI b 2 m0))
    (aI b 2 m1))
    (aL b (qI hM m1 m2 rfl rfl rfl rfl rfl rfl)))
    (aD b))
    (eT b 4 m2)) ?_
 intro ν W3 hν hR;replace hR:Run ⟨w,B,ns⟩ g (N+2) [(AX,ν 0),(AY,ν 1),(R,ν 2),((.add AX R),ν 7),((.sub AY R),ν 8)] [((ν 3),aV g (ν 0) (ν 1)),((ν 4),numO g (ν 2)),((ν 5),aV g (ν 7) (ν 8)),((ν 6),numO g (ν 2))] W3:=hR;have e0:ν 0=ax:=hν 0 rfl;have e1:ν 1=ay:=hν 1 rfl;have e2:ν 2=i:=hν 2 rfl;have e3:ν 3=b1:=hν 3 rfl;have e4:ν 4=b2:=hν 4 rfl;have e5:ν 5=b3:=hν 5 rfl;simp only[e0,e1,e2,e3,e4,e5]at hR|-;clear hν e0 e1 e2 e3 e4 e5;generalize ν 6=b4 at hR|-;generalize ν 7=n5 at hR|-;generalize ν 8=n6 at hR|-;have R3:=hdd hR;clear hR R2;simp only[putL,List.setIfInBounds_toArray,List.set];go_wp2;obtain⟨x0,x1,x2,x3⟩:=bH (R3.out.at m2);refine bodyPost_ret (v:=.agg #[_,_,_,_]) (by simp[results,Tryz.results33,go_sem,x0,x1,x2,x3];first|exact⟨rfl,rfl,rfl,rfl⟩|rfl) rfl ?_;exact R3.out.pt m3 m4
theorem zK{S:Spec Ex}{w0:Bs}{c0 m n p t t':Nat}{x y z:Ex}(hM:c0+S.total<=20000)(hx:(m,x)∈S.know)(hy:(n,y)∈S.know)(px:S.pre i m=true)(py:S.pre i n=true)(hz:(p,z)∈S.know)(pz:S.pre i p=true)
 (hc:S.cost i=2) (hv:S.val i=aW g t t') (ht:S.cr t=some i) (ht':S.cr t'=some i) (hne:t'≠t) (hk:S.made i=[(t,.add x z),(t',.sub y z)]):fI S w0 g c0 i 33 (fun ν=>#[aN g (ν m) (ν n),numV g (ν p)]):=
 rD hM (d:=1) hc hv ht ht' hne hk fun lst ν c w hD hl h=>by
  obtain⟨ns,hs,hK⟩:=h;exact(af9 hs.st (by omega) (hK _ (dS hx (pre_on px hD))) (hK _ (dS hy (pre_on py hD))) (hK _ (dS hz (pre_on pz hD)))).mono fun _ _ hr=>vZ hs hK hr
end Go.Proofs.YtgodkfgnhpnhcaaGreatDoor
