/- A part of the proof: contracts of functions and plain laws (LnAxClmL, QlOxClmL, SpFxClmL). -/
import Derived.Test.YtjaafolhfihegaaGreatDoorM33
import Derived.Test.YtjaafolhfihegaaGreatDoorM16
import Derived.Test.YtjaafolhfihegaaGreatDoorM15
import Derived.Test.YtjaafolhfihegaaGreatDoorM14
import Derived.Test.YtjaafolhfihegaaGreatDoorM13
import Derived.Test.YtjaafolhfihegaaGreatDoorM12
import Derived.Test.YtjaafolhfihegaaGreatDoorM08
import Derived.Test.YtjaafolhfihegaaGreatDoorM07
import Derived.Test.YtjaafolhfihegaaGreatDoorM06
import Derived.Test.YtjaafolhfihegaaGreatDoorM05
import Derived.Test.YtjaafolhfihegaaGreatDoorM04
import Derived.Test.YtjaafolhfihegaaGreatDoorM03
import Derived.Test.YtjaafolhfihegaaGreatDoorM02
import Derived.Test.YtjaafolhfihegaaGreatDoorM01
import Derived.Test.YtjaafolhfihegaaGreatDoorM11
import Derived.Test.YtjaafolhfihegaaGreatDoorM10
import Derived.Test.YtjaafolhfihegaaGreatDoorM09
import Derived.Test.YtjaafolhfihegaaGreatDoorM32
import Derived.Test.YtjaafolhfihegaaGreatDoorM31
import Derived.Test.YtjaafolhfihegaaGreatDoorM30
import Derived.Test.YtjaafolhfihegaaGreatDoorM29
import Derived.Test.YtjaafolhfihegaaGreatDoorM28
import Derived.Test.YtjaafolhfihegaaGreatDoorM24
import Derived.Test.YtjaafolhfihegaaGreatDoorM23
import Derived.Test.YtjaafolhfihegaaGreatDoorM21
import Derived.Test.YtjaafolhfihegaaGreatDoorM20
import Derived.Test.YtjaafolhfihegaaGreatDoorM19
import Derived.Test.YtjaafolhfihegaaGreatDoorM22
import Derived.Test.YtjaafolhfihegaaGreatDoorM27
import Derived.Test.YtjaafolhfihegaaGreatDoorM26
import Derived.Test.YtjaafolhfihegaaGreatDoorM25
import Derived.Test.YtjaafolhfihegaaGreatDoorM43
import Derived.Test.YtjaafolhfihegaaGreatDoorM18
import Derived.Test.YtjaafolhfihegaaGreatDoorM34
import Derived.Test.YtjaafolhfihegaaGreatDoorM45
import Derived.Deep.Cut
import Derived.Deep.DeepCutAuto
set_option linter.unusedVariables false
set_option linter.unusedSimpArgs false
set_option maxHeartbeats 25600000
set_option maxRecDepth 100000
namespace Go.Proofs.YtjaafolhfihegaaGreatDoor
open Go.RowKit Go.Maps
open Re (rat ofI ofN)
variable{c:Int}{A B C:Nat}
noncomputable def lin(s:Re)(p q:Rat):Re:=rat p+rat q*s
section
variable{s:Re}{p q p' q' f n z y:Rat}
theorem agQ:lin s p 0=rat p:=by
 unfold lin;rw[<-Re.zero_rat,Re.zero_mul,Re.add_zero]
theorem am0:lin s 0 1=s:=by
 unfold lin;rw[<-Re.zero_rat,<-Re.one_rat,Re.one_mul,Re.zero_add]
theorem ao2:lin s p q+lin s p' q'=lin s (p+p') (q+q'):=by
 have H:∀a b c d s:Re,(a+b*s)+(c+d*s)=(a+c)+(b+d)*s:=Re.all5 fun a b c d s=>Re.same fun n=>by simp only[Re.addC_f,Re.mulC_f];grind
 unfold lin;rw[Re.rat_add,Re.rat_add];exact H _ _ _ _ _
theorem ao3:lin s p q-lin s p' q'=lin s (p-p') (q-q'):=by
 have H:∀a b c d s:Re,(a+b*s)-(c+d*s)=(a-c)+(b-d)*s:=Re.all5 fun a b c d s=>Re.same fun n=>by simp only[Re.addC_f,Re.mulC_f,Re.negC_f];grind
 unfold lin;rw[Re.rat_sub,Re.rat_sub];exact H _ _ _ _ _
theorem ao4(h:s*s=rat f):lin s p q*lin s p' q'=lin s (p*p'+q*q'*f) (p*q'+q*p'):=by
 have H:∀a b c d s:Re,(a+b*s)*(c+d*s)=(a*c+b*d*(s*s))+(a*d+b*c)*s:=Re.all5 fun a b c d s=>Re.same fun n=>by simp only[Re.addC_f,Re.mulC_f];grind
 unfold lin;rw[H,h,Re.rat_add,Re.rat_add,Re.rat_mul,Re.rat_mul,Re.rat_mul,Re.rat_mul,Re.rat_mul]
variable{L:List Ex}{t t':Sh}{a b:Ex}
theorem Fit.lr (h:Fit L t a (rat p)):Fit L t a (lin s p 0):=by rw[agQ];exact h
theorem Fit.lroot (h:Fit L t a (rat f))(h0:0<=s)(hs:s*s=rat f)(hm:Ex.root a∈L):Fit L (.root t) (.root a) (lin s 0 1):=by rw[am0];exact Fit.root h h0 hs hm
theorem Fit.ladd (h:Fit L t a (lin s p q))(g:Fit L t' b (lin s p' q')):Fit L (.add t t') (.add a b) (lin s (p+p') (q+q')):=by rw[<-ao2];exact h.add g
theorem Fit.lsub (h:Fit L t a (lin s p q))(g:Fit L t' b (lin s p' q')):Fit L (.add t t') (.sub a b) (lin s (p-p') (q-q')):=by rw[<-ao3];exact h.sub g
theorem Fit.lmul (hs:s*s=rat f)(h:Fit L t a (lin s p q))(g:Fit L t' b (lin s p' q')):Fit L (.mul t t') (.mul a b) (lin s (p*p'+q*q'*f) (p*q'+q*p')):=by rw[<-ao4 hs];exact h.mul g
theorem aiV:lin s z y*rat n=lin s (z*n) (y*n):=by
 have H:∀a b n s:Re,(a+b*s)*n=a*n+b*n*s:=Re.all4 fun a b c s=>Re.same fun n=>by simp only[Re.addC_f,Re.mulC_f];grind
 unfold lin;rw[H,Re.rat_mul,Re.rat_mul]
theorem Fit.ldiv (hL:Lok L)(h:Fit L t a (lin s p q))(g:Fit L t' b (rat n))(h0:n≠0)(hz:z*n=p)(hy:y*n=q):Fit L (.div t t') (.div a b) (lin s z y):=
 Fit.div hL h g (fun e=>h0 (Re.rat_inj.1 (e.trans Re.zero_rat))) (by rw[aiV,hz,hy])
theorem Fit.lto (h:Fit L t a (lin s p q))(hp:p=p')(hq:q=q'):Fit L t a (lin s p' q'):=by subst hp hq;exact h
theorem Fit.lzero {P:Ex->Prop}(h:Fit L t a (lin s p q))(hp:p=0)(hq:q=0)(hs:(t.ok L.length&&t.top L.length)=true):bD P a 0:=by
 subst hp hq;rw[agQ]at h;exact h.zero rfl hs
end
section
variable{L:List Ex}{t u v x y:Sh}{X Y Z W R:Ex}{s:Re}{p q p' q' f r z:Rat}
theorem adP(hs:s*s=rat f)(gx:Fit L t X (lin s p q))(gy:Fit L u Y (lin s p' q'))(gr:Fit L v R (lin s r 0))(h1:p*p+q*q*f+(p'*p'+q'*q'*f)=r)(h2:p*q+p'*q'=0)(h3:(Sh.ok L.length (.add (.add (.mul (.add (.leaf 0 0) t) (.add (.leaf 0 0) t)) (.mul (.add (.leaf 0 0) u) (.add (.leaf 0 0) u))) v)&&Sh.top L.length (.add (.add (.mul (.add (.leaf 0 0) t) (.add (.leaf 0 0) t)) (.mul (.add (.leaf 0 0) u) (.add (.leaf 0 0) u))) v))=true):bD PT (.sub (sqrX (.leaf 0) (.leaf 0) X Y) R) 0:=
 have lz:=(mE (L:=L)).lr (s:=s)
 (((((lz.lsub gx).lmul hs (lz.lsub gx)).ladd ((lz.lsub gy).lmul hs (lz.lsub gy))).lsub gr)).lzero (by grind) (by grind) h3
theorem mid_zero(hL:Lok L)(gx:Fit L t X (lin s p q))(gy:Fit L u Y (lin s p' q'))(gz:Fit L v Z (lin s z 0))(h1:p+p'=z*2)(h2:q+q'=0)(h3:(Sh.ok L.length (.add (.div (.add t u) (.leaf 2 0)) v)&&Sh.top L.length (.add (.div (.add t u) (.leaf 2 0)) v))=true):bD PT (.sub (midE X Y) Z) 0:=
 ((Fit.ldiv hL (gx.ladd gy) (ae1 (L:=L)) (by decide) (z:=z) (y:=0) h1.symm (by grind)).lsub gz).lzero (by grind) (by grind) h3
theorem adQ{X Y Z W:Ex}(h:bD PT (.sub X Z) 0)(k:bD PT (.sub Y W) 0):nP PT X Y Z W 0:=⟨0,0,trivial,h,fun _=>⟨trivial,k⟩,rfl⟩
end
theorem aiW{a b r:Int}{R:Nat}(hA:Iw A a)(hB:Iw B b)(hC:Iw C c)(hR:Iw R r)(ba:a.natAbs<=9)(bb:b.natAbs<=8)(bc:c.natAbs<=19)(br:r.natAbs<=49):bD PT (cutF (.leaf A) (.leaf B) (.leaf C) 0 0 R) (r*(a*a+b*b)-c*c).sign:=
 (Fit.cutF (hA.fit (L:=[]) 4 (nlt ba) (by decide)) (hB.fit (L:=[]) 4 (nlt bb) (by decide)) (hC.fit (L:=[]) 5 (nlt bc) (by decide)) mE mE (hR.fit (L:=[]) 6 (nlt br) (by decide))).sign 1 (by decide) (by push_cast;grind) (by kernel_rfl)
theorem am1{a b r:Int}{R AC BC NN:Nat}(hA:Iw A a)(hB:Iw B b)(hC:Iw C c)(hR:Iw R r)(hAC:Iw AC (a*c))(hBC:Iw BC (b*c))(hN:Iw NN (a*a+b*b))(a1:1<=a)(ba:a.natAbs<=9)(bb:b.natAbs<=8)(bc:c.natAbs<=19)(br:r.natAbs<=49)(hf:0<r*(a*a+b*b)-c*c):
 bD PT (.sub (sqrX (.leaf 0) (.leaf 0) (gI (.leaf A) (.leaf B) (.leaf C) 0 0 R) (gJ (.leaf A) (.leaf B) (.leaf C) 0 0 R)) (.leaf R)) 0/\bD PT (.sub (sqrX (.leaf 0) (.leaf 0) (gK (.leaf A) (.leaf B) (.leaf C) 0 0 R) (gL (.leaf A) (.leaf B) (.leaf C) 0 0 R)) (.leaf R)) 0/\
 nP PT (midE (gI (.leaf A) (.leaf B) (.leaf C) 0 0 R) (gK (.leaf A) (.leaf B) (.leaf C) 0 0 R)) (midE (gJ (.leaf A) (.leaf B) (.leaf C) 0 0 R) (gL (.leaf A) (.leaf B) (.leaf C) 0 0 R)) (.div (.leaf AC) (.leaf NN)) (.div (.leaf BC) (.leaf NN)) 0/\
 nP PT (midE (gK (.leaf A) (.leaf B) (.leaf C) 0 0 R) (gI (.leaf A) (.leaf B) (.leaf C) 0 0 R)) (midE (gL (.leaf A) (.leaf B) (.leaf C) 0 0 R) (gJ (.leaf A) (.leaf B) (.leaf C) 0 0 R)) (.div (.leaf AC) (.leaf NN)) (.div (.leaf BC) (.leaf NN)) 0:=by
 have n0:(a:Rat)*a+b*b≠0:=rne (z:=a*a+b*b) (by push_cast;rfl) (by
  have h1:=Int.mul_pos (show 0<a by omega) (show 0<a by omega);have h2:0<=b*b:=by
   rw[<-Int.natAbs_mul_self];exact Int.natCast_nonneg _
  clear ba bb bc br;omega)
 have f0:(0:Rat)<=(r:Rat)*(a*a+b*b)-c*c:=by
  have:((0:Int):Rat)<=((r*(a*a+b*b)-c*c:Int):Rat):=Rat.intCast_le_intCast.2 (by clear ba bb bc br;omega)
  push_cast at this;exact this
 have k0:Lok [.root (cutF (.leaf A) (.leaf B) (.leaf C) 0 0 R)]:=by
  have fA:=hA.fit (L:=[]) 4 (nlt ba) (by decide);have fB:=hB.fit (L:=[]) 4 (nlt bb) (by decide);have fC:=hC.fit (L:=[]) 5 (nlt bc) (by decide);have fR:=hR.fit (L:=[]) 6 (nlt br) (by decide);exact(Fit.cutF fA fB fC mE mE fR).lok Lok.nil (by kernel_rfl) (by rw[Re.zero_rat];refine Re.rat_le.2 ?_;grind)
 have hm:Ex.root (cutF (.leaf A) (.leaf B) (.leaf C) 0 0 R)∈[Ex.root (cutF (.leaf A) (.leaf B) (.leaf C) 0 0 R)]:=List.mem_singleton.2 rfl;have hl:[Ex.root (cutF (.leaf A) (.leaf B) (.leaf C) 0 0 R)].length=1:=rfl;generalize [Ex.root (cutF (.leaf A) (.leaf B) (.leaf C) 0 0 R)]=L at k0 hm hl;have fA:=hA.fit (L:=L) 4 (nlt ba) (by decide);have fB:=hB.fit (L:=L) 4 (nlt bb) (by decide);have fC:=hC.fit (L:=L) 5 (nlt bc) (by decide);have fR:=hR.fit (L:=L) 6 (nlt br) (by decide);have fAC:=hAC.fit (L:=L) 8 (nlt (nab ba bc)) (by decide);have fBC:=hBC.fit (L:=L) 8 (nlt (nab bb bc)) (by decide);have fN:=hN.fit (L:=L) 8 (nlt (nadd (nab ba ba) (nab bb bb))) (by decide);have z:=mE (L:=L);clear hA hB hC hR hAC hBC hN a1 ba bb bc br hf
 push_cast at fAC fBC fN
 generalize (a:Rat)=a at*;generalize (b:Rat)=b at*;generalize (c:Rat)=c at*;generalize (r:Rat)=r at*;obtain⟨s,s0,hs⟩:=Re.exists_sqrt (x:=rat (r*(a*a+b*b)-c*c)) (by rw[Re.zero_rat];exact Re.rat_le.2 f0);have fF:=Fit.cutF fA fB fC z z fR;rw[show r*(a*a+b*b)-(c-a*0-b*0)*(c-a*0-b*0)=r*(a*a+b*b)-c*c by grind]at fF;have fS:=fF.lroot s0 hs hm;have fE:=(((fC.rsub (fA.rmul z)).rsub (fB.rmul z)).lr (s:=s)).lto (p':=c) (q':=0) (by grind) rfl;have nn:=(fA.rmul fA).radd (fB.rmul fB);obtain⟨w,hw⟩:∃w,w*(a*a+b*b)=1:=⟨(a*a+b*b)⁻¹,Rat.inv_mul_cancel _ n0⟩;have lA:=fA.lr (s:=s);have lB:=fB.lr (s:=s);have lz:=z.lr (s:=s);have lR:=fR.lr (s:=s);have ue:=lA.lmul hs fE;have ve:=lB.lmul hs fE;have us:=lA.lmul hs fS;have vs:=lB.lmul hs fS;have px:=(lz.ladd (Fit.ldiv k0 (ue.lsub vs) nn n0 (z:=a*c*w) (y:=-(b*w)) (by grind) (by grind))).lto (p':=a*c*w) (q':=-(b*w)) (by grind) (by grind);have py:=(lz.ladd (Fit.ldiv k0 (ve.ladd us) nn n0 (z:=b*c*w) (y:=a*w) (by grind) (by grind))).lto (p':=b*c*w) (q':=a*w) (by grind) (by grind)
 have mx:=(lz.ladd (Fit.ldiv k0 (ue.ladd vs) nn n0 (z:=a*c*w) (y:=b*w) (by grind) (by grind))).lto (p':=a*c*w) (q':=b*w) (by grind) (by grind);have my:=(lz.ladd (Fit.ldiv k0 (ve.lsub us) nn n0 (z:=b*c*w) (y:=-(a*w)) (by grind) (by grind))).lto (p':=b*c*w) (q':=-(a*w)) (by grind) (by grind);have x:=(Fit.rdiv k0 fAC fN n0 (z:=a*c*w) (by grind)).lr (s:=s);have y:=(Fit.rdiv k0 fBC fN n0 (z:=b*c*w) (by grind)).lr (s:=s);have i1:a*c*w*(a*c*w)+-(b*w)*-(b*w)*(r*(a*a+b*b)-c*c)+(b*c*w*(b*c*w)+a*w*(a*w)*(r*(a*a+b*b)-c*c))=r:=by
  have e:a*c*w*(a*c*w)+-(b*w)*-(b*w)*(r*(a*a+b*b)-c*c)+(b*c*w*(b*c*w)+a*w*(a*w)*(r*(a*a+b*b)-c*c))=r*(w*(a*a+b*b))*(w*(a*a+b*b)):=by grind
  rw[e,hw];grind
 refine⟨adP hs px py lR i1 (by grind) (by rw[hl];kernel_rfl),adP hs mx my lR (by rw[<-i1];grind) (by grind) (by rw[hl];kernel_rfl),adQ (mid_zero k0 px mx x (by grind) (by grind) (by rw[hl];kernel_rfl)) (mid_zero k0 py my y (by grind) (by grind) (by rw[hl];kernel_rfl)),adQ (mid_zero k0 mx px x (by grind) (by grind) (by rw[hl];kernel_rfl)) (mid_zero k0 my py y (by grind) (by grind) (by rw[hl];kernel_rfl))⟩
end Go.Proofs.YtjaafolhfihegaaGreatDoor
namespace Go.Proofs.YtjaafolhfihegaaGreatDoor
open Go.RowKit Go.Maps
variable{N g i:Nat}
theorem afB{B:Nat}{w:World}{ax ay bx ey:Nat}{ns:List Nd}{AX AY BX EY:Ex}(hs:St PT B N w g ns)(hN:N+6<=20000)(hax:Is ns AX ax)(hay:Is ns AY ay)(hbx:Is ns BX bx)(hey:Is ns EY ey):
 Calls Tryz.prog 47 #[dW g ax ay,dW g bx ey] w (acM PT B (N+6) w g ns (midE AX BX) (midE AY EY)):=by
 have R1:=hdd (Run.enter (K:=[(AX,ax),(AY,ay),(BX,bx),(EY,ey)]) hs (by
  intro p hp;simp only[List.mem_cons,List.not_mem_nil,or_false]at hp;rcases hp with rfl|rfl|rfl|rfl<;>assumption))
 clear hs hax hay hbx hey;go_enter Tryz.func47,Tryz.ntmps47
 go_upto_region 0 with fail
 refine Spec.run (S:=⟨_,fun i=>([.w (.c (.ptr 4 0)),.w (.c (.ptr 5 0)),.w (.c (.ptr 6 0))]:List SV).getD i noS,fun n=>([none,none,none,none,some 0,some 1,some 2]:List (Option Nat)).getD n none,
  [(0,AX),(1,AY),(2,BX),(3,EY)],[⟨4,33,aY g 0 1,none⟩,⟨5,33,aY g 2 3,none⟩,⟨6,33,[.v (.pointer none),.v (.int .i64 0),.v (.pointer none),.v (.int .i64 0)],none⟩],
  fun i=>([0,0,0]:List Nat).getD i 0,fun i=>([[],[],[]]:List (List Nat)).getD i [],[(0,dH g 0 1),(1,dH g 2 3)]⟩)
  (W:=runW ⟨w,B,ns⟩ g) (ν0:=fun n=>([ax,ay,bx,ey]:List Nat).getD n 0) (c0:=N)
  (fs:=fun ν=>[(2,.pointer (some ⟨(ν 4),0,none⟩)),(3,.pointer (some ⟨(ν 5),0,none⟩)),(4,.pointer (some ⟨(ν 6),0,none⟩))]) 3 N [] []
  ⟨Spec.wf_of (by kernel_rfl),lZ (by kernel_rfl),jA ⟨rfl,rfl,trivial⟩⟩ R1.out (Run.nodup R1.out) (by omega)
  (fun b hM=>aA (aA (aA aH
    (aI b m0))
    (aI b m1))
    (aI b m2)) ?_
 intro ν W2 hν hR;replace hR:Run ⟨w,B,ns⟩ g N [(AX,ν 0),(AY,ν 1),(BX,ν 2),(EY,ν 3)] [((ν 4),dX g (ν 0) (ν 1)),((ν 5),dX g (ν 2) (ν 3)),((ν 6),.cells #[.pointer none,.int .i64 0,.pointer none,.int .i64 0] 33)] W2:=hR;have e0:ν 0=ax:=hν 0 rfl;have e1:ν 1=ay:=hν 1 rfl;have e2:ν 2=bx:=hν 2 rfl;have e3:ν 3=ey:=hν 3 rfl;simp only[e0,e1,e2,e3]at hR|-;clear hν e0 e1 e2 e3;generalize ν 4=b1 at hR|-;generalize ν 5=b2 at hR|-;generalize ν 6=b3 at hR|-;have R2:=hdd hR;clear hR R1;simp only[putL,List.setIfInBounds_toArray,List.set]
 go_upto_region 1 with fail
 refine Spec.run (S:=⟨_,fun i=>([.w (.c (.ptr 4 0)),numS g 0,.w (.c (.ptr 5 0)),numS g 2,.w (.c (.sl 7 1)),numS g 8,numS g 9,.w (.c (.ptr 4 2)),numS g 1,.w (.c (.ptr 5 2)),numS g 3,.w (.c (.sl 10 1)),numS g 11,numS g 12,dH g 9 12,noS]:List SV).getD i noS,fun n=>([none,none,none,none,none,none,none,some 4,some 5,some 6,some 11,some 12,some 13]:List (Option Nat)).getD n none,
  [(0,AX),(1,AY),(2,BX),(3,EY),(8,(.add AX BX)),(9,(uU (.add AX BX))),(11,(.add AY EY)),(12,(uU (.add AY EY)))],[⟨4,33,aY g 0 1,none⟩,⟨5,33,aY g 2 3,none⟩,⟨6,33,[.v (.pointer none),.v (.int .i64 0),.v (.pointer none),.v (.int .i64 0)],some (15,aY g 9 12)⟩,⟨7,31,numC g 2,none⟩,⟨10,31,numC g 3,none⟩],
  fun i=>([0,0,0,0,0,1,2,0,0,0,0,0,1,2,0,0]:List Nat).getD i 0,fun i=>([[],[0],[],[2],[2,3],[0,1,2,3,4],[0,1,2,3,4,5],[],[7],[],[9],[9,10],[7,8,9,10,11],[7,8,9,10,11,12],[0,1,2,3,4,5,6,7,8,9,10,11,12,13],[0,1,2,3,4,5,6,7,8,9,10,11,12,13,14]]:List (List Nat)).getD i [],[(2,.w (.c (.ptr 4 0))),(3,.w (.c (.ptr 5 0))),(4,.w (.c (.ptr 6 0)))]⟩)
  (W:=runW ⟨w,B,ns⟩ g) (ν0:=fun n=>([ax,ay,bx,ey,b1,b2,b3]:List Nat).getD n 0) (c0:=N)
  (fs:=fun ν=>[(5,.pointer (some ⟨(ν 4),0,none⟩)),(6,numV g (ν 0)),(7,.pointer (some ⟨(ν 5),0,none⟩)),(8,numV g (ν 2)),(9,.slice (some ⟨(ν 7),0,none⟩) 1 1),(10,numV g (ν 8)),(11,numV g (ν 9)),(12,.pointer (some ⟨(ν 4),2,none⟩)),(13,numV g (ν 1)),(14,.pointer (some ⟨(ν 5),2,none⟩)),(15,numV g (ν 3)),(16,.slice (some ⟨(ν 10),0,none⟩) 1 1),(17,numV g (ν 11)),(18,numV g (ν 12)),(19,dW g (ν 9) (ν 12))]) 16 (N+6) [] []
  ⟨Spec.wf_of (by kernel_rfl),lZ (by kernel_rfl),jA ⟨rfl,rfl,rfl,trivial⟩⟩ R2.out (Run.nodup R2.out) (by omega)
  (fun b hM=>aA (aA (aA (aA (aA (aA (aA (aA (aA (aA (aA (aA (aA (aA (aA (aA aH
    (aB b))
    (aD b 2 m0))
    (aB b))
    (aD b 2 m1))
    (aQ b m3))
    (aG b (jB hM m0 m2 rfl rfl m3 rfl rfl rfl rfl rfl rfl rfl rfl)))
    (aG b (amU hM m4 rfl rfl rfl rfl rfl)))
    (aB b))
    (aD b 2 m0))
    (aB b))
    (aD b 2 m1))
    (aQ b m4))
    (aG b (jB hM m1 m3 rfl rfl m4 rfl rfl rfl rfl rfl rfl rfl rfl)))
    (aG b (amU hM m6 rfl rfl rfl rfl rfl)))
    (aB b))
    (aV b 4 m2)) ?_
 intro ν W3 hν hR;replace hR:Run ⟨w,B,ns⟩ g (N+6) [(AX,ν 0),(AY,ν 1),(BX,ν 2),(EY,ν 3),((.add AX BX),ν 8),((uU (.add AX BX)),ν 9),((.add AY EY),ν 11),((uU (.add AY EY)),ν 12)] [((ν 4),dX g (ν 0) (ν 1)),((ν 5),dX g (ν 2) (ν 3)),((ν 6),dX g (ν 9) (ν 12)),((ν 7),numO g (ν 2)),((ν 10),numO g (ν 3))] W3:=hR;have e0:ν 0=ax:=hν 0 rfl;have e1:ν 1=ay:=hν 1 rfl;have e2:ν 2=bx:=hν 2 rfl;have e3:ν 3=ey:=hν 3 rfl;have e4:ν 4=b1:=hν 4 rfl;have e5:ν 5=b2:=hν 5 rfl;have e6:ν 6=b3:=hν 6 rfl;simp only[e0,e1,e2,e3,e4,e5,e6]at hR|-;clear hν e0 e1 e2 e3 e4 e5 e6;generalize ν 7=b4 at hR|-;generalize ν 8=n5 at hR|-;generalize ν 9=n6 at hR|-;generalize ν 10=b7 at hR|-;generalize ν 11=n8 at hR|-;generalize ν 12=n9 at hR|-;have R3:=hdd hR;clear hR R2;simp only[putL,List.setIfInBounds_toArray,List.set];go_wp2;obtain⟨x0,x1,x2,x3⟩:=aL (R3.out.at m2);refine bodyPost_ret (v:=.agg #[_,_,_,_]) (by simp[results,Tryz.results47,go_sem,x0,x1,x2,x3];first|exact⟨rfl,rfl,rfl,rfl⟩|rfl) rfl ?_;exact R3.out.pt m5 m7
theorem Run.middle {s:Bs}{W:World}{j i' j':Nat}{K:List (Ex×Nat)}{l:List (Nat×Obj)}{px py qx qy:Ex}(h:Run s g N K l W)(hN:N+6<=20000)(h1:(px,i)∈K)(h2:(py,i')∈K)(h3:(qx,j)∈K)(h4:(qy,j')∈K):Calls Tryz.prog 47 #[dW g i i',dW g j j'] W (RtP s g (N+6) K l (midE px qx) (midE py qy)):=by
 obtain⟨ns,hs,hK⟩:=h;exact(afB hs.st hN (hK _ h1) (hK _ h2) (hK _ h3) (hK _ h4)).mono fun _ _ hr=>acO hs hK hr
theorem am2{S:Spec Ex}{w0:Bs}{c0 m n m' n' t t':Nat}{x y x' y':Ex}(hM:c0+S.total<=20000)(hx:(m,x)∈S.know)(hy:(n,y)∈S.know)(px:S.pre i m=true)(py:S.pre i n=true)(hx':(m',x')∈S.know)(hy':(n',y')∈S.know)(px':S.pre i m'=true)(py':S.pre i n'=true)
 (hc:S.cost i=6) (hv:S.val i=dH g t t') (ht:S.cr t=some i) (ht':S.cr t'=some i) (hne:t'≠t) (hk:S.made i=[(t,midE x x'),(t',midE y y')]):fP S w0 g c0 i 47 (fun ν=>#[dW g (ν m) (ν n),dW g (ν m') (ν n')]):=
 zH hM (d:=5) hc hv ht ht' hne hk fun lst ν c w hD hl h=>h.middle (by omega) (dU hx (pre_on px hD)) (dU hy (pre_on py hD)) (dU hx' (pre_on px' hD)) (dU hy' (pre_on py' hD))
end Go.Proofs.YtjaafolhfihegaaGreatDoor
