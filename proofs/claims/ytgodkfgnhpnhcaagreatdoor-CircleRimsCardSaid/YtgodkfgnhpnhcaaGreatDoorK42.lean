/- A part of the proof: contracts of functions and plain laws (AlvC, QlR, TwC, FnB). -/
import Derived.Test.YtgodkfgnhpnhcaaGreatDoorK40
import Derived.Test.YtgodkfgnhpnhcaaGreatDoorK41
import Derived.Test.YtgodkfgnhpnhcaaGreatDoorK37
set_option linter.unusedVariables false
set_option linter.unusedSimpArgs false
set_option maxHeartbeats 25600000
set_option maxRecDepth 100000
namespace Go.Proofs.YtgodkfgnhpnhcaaGreatDoor
open Go.RowKit Go.Maps Go.Stop Go.Extern
open Re (rat ofI ofN)
open List renaming setIfInBounds_toArray->aqB,set->aqC
variable{L:List Ex}
theorem apT:fv 13835058055282163712=(-2:Int)*(U74:Int):=by kernel_rfl
theorem apU:fv 13830554455654793216=(-1:Int)*(U74:Int):=by kernel_rfl
theorem ao3:0<=fv 4616189618054758400:=by rw[anV];exact Int.mul_nonneg (by decide) (Int.natCast_nonneg _)
theorem ao4:fv 13830554455654793216<0:=by
 rw[apU];have h:0<U74:=ahE 1074;omega
theorem apM:Fit L (.leaf 2 0) (.leaf 13835058055282163712) (rat (-2)):=Fit.leaf 2 (by decide) (by decide) apT (by decide)
theorem ao5:Fit L (.leaf 0 0) (.leaf 0) (rat 0):=Fit.leaf 0 (by decide) (by decide) anR (by decide)
theorem apN:Fit L (.leaf 3 0) (.leaf 4616189618054758400) (rat 4):=Fit.leaf 3 (by decide) (by decide) anV (by decide)
theorem aoR:ajI PT (.sub (.leaf 0) (.root (.leaf 4616189618054758400))) (.leaf 0) (.leaf 13835058055282163712) (.leaf 0) 0/\ajI PT (.add (.leaf 0) (.root (.leaf 4616189618054758400))) (.leaf 0) (.leaf 4611686018427387904) (.leaf 0) 0:=by
 have R:=Fit.rroot (L:=[.root (.leaf 4616189618054758400)]) apN (q:=2) (by grind) (by grind) (List.mem_singleton.2 rfl);have z:=(ao5 (L:=[.root (.leaf 4616189618054758400)])).rsub ao5;exact⟨⟨0,0,trivial,((ao5.rsub R).rsub apM).zero (by grind) (by kernel_rfl),fun _=>⟨trivial,z.zero (by grind) (by kernel_rfl)⟩,rfl⟩,⟨0,0,trivial,((ao5.radd R).rsub ao2).zero (by grind) (by kernel_rfl),fun _=>⟨trivial,z.zero (by grind) (by kernel_rfl)⟩,rfl⟩⟩
theorem apA{w:World}(hT:Tab w)(htb:1<w.heap.size):
 Calls Tryz.prog 54 #[] w (RetV w (.bool true)):=by
 have HN:=hdd (zJ (l:=[]) (Below.refl w.heap.size w) (fun p hp=>by cases hp) (by simp) hT htb);clear hT htb;have CM:=hdd aoR;go_enter Tryz.func54,Tryz.ntmps54
 go_wp2_with fail
 refine HN.out.mono ?_;rintro e W1⟨g,rfl,hR⟩;have R1:=hdd hR;clear hR HN;dsimp only
 go_upto_region 4 with fail
 refine Spec.run (S:=⟨_,fun i=>([.w (.agg ([.v (Value.int IntKind.i64 2),.v (.float .f64 0),.v (.float .f64 0),.v (Value.float FloatKind.f64 4616189618054758400)])),.w (.c (.ptr 0 0)),noS]:List SV).getD i noS,fun n=>([some 1]:List (Option Nat)).getD n none,
  [],[⟨0,89,[.v (.int .i64 0),.v (.float .f64 0),.v (.float .f64 0),.v (.float .f64 0)],some (2,[.v (Value.int IntKind.i64 2),.v (.float .f64 0),.v (.float .f64 0),.v (Value.float FloatKind.f64 4616189618054758400)])⟩],
  fun i=>([0,0,0]:List Nat).getD i 0,fun i=>([[],[],[0,1]]:List (List Nat)).getD i [],[]⟩)
  (W:=runW (bs w) g) (ν0:=fun n=>([]:List Nat).getD n 0) (c0:=0)
  (fs:=fun ν=>[(13,.agg #[(Value.int IntKind.i64 2),.float .f64 0,.float .f64 0,(Value.float FloatKind.f64 4616189618054758400)]),(2,.pointer (some ⟨(ν 0),0,none⟩))]) 3 0 [] []
  ⟨Spec.wf_of (by kernel_rfl),dG (by kernel_rfl),bJ trivial⟩ R1.out (Run.nodup R1.out) (by decide)
  (fun b hM=>aA (aA (aA bT
    (aD b))
    (cZ b m0))
    (eT b 4 m0)) ?_
 intro ν W2 hν hR;replace hR:Run (bs w) g 0 [] [((ν 0),.cells #[(Value.int IntKind.i64 2),.float .f64 0,.float .f64 0,(Value.float FloatKind.f64 4616189618054758400)] 89)] W2:=hR;clear hν;generalize ν 0=b1 at hR|-;have R2:=hdd hR;clear hR R1;simp only[putL,aqB,aqC]
 go_upto_region 5 with fail
 refine Spec.run (S:=⟨_,fun i=>([.w (.c (.v (.pointer (some ⟨g,0,none⟩)))),.w (.agg ([.v (Value.int IntKind.i64 2),.v (.float .f64 0),.v (.float .f64 0),.v (Value.float FloatKind.f64 4616189618054758400)])),.tup [.agg (aX g 1 2),.agg (aX g 3 4),.c (.v .nilIface)],.tup [.agg (aX g 1 2),.agg (aX g 3 4),.c (.v .nilIface)],aW g 1 2,aW g 3 4,.w (.c (.v .nilIface)),.w (.c (.ptr 5 0)),.w (.c (.ptr 6 0)),noS,noS,.w (.c (.v .nilIface))]:List SV).getD i noS,fun n=>([none,some 2,some 2,some 2,some 2,some 7,some 8]:List (Option Nat)).getD n none,
  [(1,(.sub (.leaf 0) (.root (.leaf 4616189618054758400)))),(2,(.leaf 0)),(3,(.add (.leaf 0) (.root (.leaf 4616189618054758400)))),(4,(.leaf 0))],[⟨0,89,[.v (Value.int IntKind.i64 2),.v (.float .f64 0),.v (.float .f64 0),.v (Value.float FloatKind.f64 4616189618054758400)],none⟩,⟨5,29,[.v (.pointer none),.v (.int .i64 0),.v (.pointer none),.v (.int .i64 0)],some (9,aX g 1 2)⟩,⟨6,29,[.v (.pointer none),.v (.int .i64 0),.v (.pointer none),.v (.int .i64 0)],some (10,aX g 3 4)⟩],
  fun i=>([0,0,6,0,0,0,0,0,0,0,0,0]:List Nat).getD i 0,fun i=>([[],[],[0,1],[0,1,2],[0,1,2,3],[0,1,2,3],[0,1,2,3],[],[],[0,1,2,3,4,7,8],[0,1,2,3,4,5,7,8,9],[0,1,2,3,6]]:List (List Nat)).getD i [],[(1,.w (.c (.v (.pointer (some ⟨g,0,none⟩))))),(2,.w (.c (.ptr 0 0)))]⟩)
  (W:=runW (bs w) g) (ν0:=fun n=>([b1]:List Nat).getD n 0) (c0:=0)
  (fs:=fun ν=>[(15,.pointer (some ⟨g,0,none⟩)),(16,.agg #[(Value.int IntKind.i64 2),.float .f64 0,.float .f64 0,(Value.float FloatKind.f64 4616189618054758400)]),(17,.tuple #[aN g (ν 1) (ν 2),aN g (ν 3) (ν 4),.nilIface]),(14,.tuple #[aN g (ν 1) (ν 2),aN g (ν 3) (ν 4),.nilIface]),(18,aN g (ν 1) (ν 2)),(19,aN g (ν 3) (ν 4)),(20,.nilIface),(3,.pointer (some ⟨(ν 5),0,none⟩)),(4,.pointer (some ⟨(ν 6),0,none⟩)),(5,.nilIface)]) 12 6 [] []
  ⟨Spec.wf_of (by kernel_rfl),dG (by kernel_rfl),bJ ⟨rfl,rfl,trivial⟩⟩ R2.out (Run.nodup R2.out) (by decide)
  (fun b hM=>aA (aA (aA (aA (aA (aA (aA (aA (aA (aA (aA (aA bT
    (aD b))
    (aI b 4 m0))
    (aL b (c_fn (ix:=[]) (ts:=[1,2,3,4]) hM (fun ν=>aoD (ca:=0) (cb:=0) (cc:=4616189618054758400) ⟨(by decide),(by decide)⟩ ⟨(by decide),(by decide)⟩ ⟨(by decide),(by decide)⟩ ao3))))
    (aD b))
    (aD b))
    (aD b))
    (aD b))
    (cZ b m1))
    (cZ b m2))
    (eT b 4 m1))
    (eT b 4 m2))
    (aD b)) ?_
 intro ν W3 hν hR;replace hR:Run (bs w) g 6 [((.sub (.leaf 0) (.root (.leaf 4616189618054758400))),ν 1),((.leaf 0),ν 2),((.add (.leaf 0) (.root (.leaf 4616189618054758400))),ν 3),((.leaf 0),ν 4)] [((ν 0),.cells #[(Value.int IntKind.i64 2),.float .f64 0,.float .f64 0,(Value.float FloatKind.f64 4616189618054758400)] 89),((ν 5),aV g (ν 1) (ν 2)),((ν 6),aV g (ν 3) (ν 4))] W3:=hR;have e0:ν 0=b1:=hν 0 rfl;simp only[e0]at hR|-;clear hν e0;generalize ν 1=n2 at hR|-;generalize ν 2=n3 at hR|-;generalize ν 3=n4 at hR|-;generalize ν 4=n5 at hR|-;generalize ν 5=b6 at hR|-;generalize ν 6=b7 at hR|-;have R3:=hdd hR;clear hR R2;simp only[putL,aqB,aqC]
 go_upto_region 8 with fail
 refine Spec.run (S:=⟨_,fun i=>([aW g 1 2,.w (.c (.v (.pointer (some ⟨g,0,none⟩)))),aW g 7 8,.tup [.c (.v (.bool true)),.c (.v .nilIface)],.tup [.c (.v (.bool true)),.c (.v .nilIface)],.w (.c (.v (.bool true))),.w (.c (.v .nilIface)),.w (.c (.v (.bool true))),.w (.c (.v .nilIface))]:List SV).getD i noS,fun n=>([none,none,none,none,none,none,none,some 2,some 2]:List (Option Nat)).getD n none,
  [(1,(.sub (.leaf 0) (.root (.leaf 4616189618054758400)))),(2,(.leaf 0)),(3,(.add (.leaf 0) (.root (.leaf 4616189618054758400)))),(4,(.leaf 0)),(7,(.leaf 13835058055282163712)),(8,(.leaf 0))],[⟨0,89,[.v (Value.int IntKind.i64 2),.v (.float .f64 0),.v (.float .f64 0),.v (Value.float FloatKind.f64 4616189618054758400)],none⟩,⟨5,29,aX g 1 2,none⟩,⟨6,29,aX g 3 4,none⟩],
  fun i=>([0,0,2,2,0,0,0,0,0]:List Nat).getD i 0,fun i=>([[],[],[1],[0,1,2],[0,1,2,3],[0,1,2,3,4],[0,1,2,3,4],[0,1,2,3,4,5],[0,1,2,3,4,6]]:List (List Nat)).getD i [],[(3,.w (.c (.ptr 5 0))),(1,.w (.c (.v (.pointer (some ⟨g,0,none⟩)))))]⟩)
  (W:=runW (bs w) g) (ν0:=fun n=>([b1,n2,n3,n4,n5,b6,b7]:List Nat).getD n 0) (c0:=6)
  (fs:=fun ν=>[(24,aN g (ν 1) (ν 2)),(25,.pointer (some ⟨g,0,none⟩)),(26,aN g (ν 7) (ν 8)),(27,.tuple #[(.bool true),.nilIface]),(23,.tuple #[(.bool true),.nilIface]),(28,(.bool true)),(29,.nilIface),(6,(.bool true)),(7,.nilIface)]) 9 10 [] []
  ⟨Spec.wf_of (by kernel_rfl),dG (by kernel_rfl),bJ ⟨rfl,rfl,trivial⟩⟩ R3.out (Run.nodup R3.out) (by decide)
  (fun b hM=>aA (aA (aA (aA (aA (aA (aA (aA (aA bT
    (aI b 4 m1))
    (aD b))
    (aL b (c_at hM (by decide) (by decide) (by decide) (by decide) rfl rfl rfl rfl (by decide) rfl)))
    (aL b (aoU hM m0 m1 rfl rfl m4 m5 rfl rfl rfl rfl rfl CM.out.1)))
    (aD b))
    (aD b))
    (aD b))
    (aD b))
    (aD b)) ?_
 intro ν W4 hν hR;replace hR:Run (bs w) g 10 [((.sub (.leaf 0) (.root (.leaf 4616189618054758400))),ν 1),((.leaf 0),ν 2),((.add (.leaf 0) (.root (.leaf 4616189618054758400))),ν 3),((.leaf 0),ν 4),((.leaf 13835058055282163712),ν 7),((.leaf 0),ν 8)] [((ν 0),.cells #[(Value.int IntKind.i64 2),.float .f64 0,.float .f64 0,(Value.float FloatKind.f64 4616189618054758400)] 89),((ν 5),aV g (ν 1) (ν 2)),((ν 6),aV g (ν 3) (ν 4))] W4:=hR;have e0:ν 0=b1:=hν 0 rfl;have e1:ν 1=n2:=hν 1 rfl;have e2:ν 2=n3:=hν 2 rfl;have e3:ν 3=n4:=hν 3 rfl;have e4:ν 4=n5:=hν 4 rfl;have e5:ν 5=b6:=hν 5 rfl;have e6:ν 6=b7:=hν 6 rfl;simp only[e0,e1,e2,e3,e4,e5,e6]at hR|-;clear hν e0 e1 e2 e3 e4 e5 e6;generalize ν 7=n8 at hR|-;generalize ν 8=n9 at hR|-;have R4:=hdd hR;clear hR R3;simp only[putL,aqB,aqC]
 go_upto_region 9 with fail
 refine Spec.run (S:=⟨_,fun i=>([aW g 1 2,.w (.c (.v (.pointer (some ⟨g,0,none⟩)))),aW g 4 5,.tup [.c (.v (.bool true)),.c (.v .nilIface)],.tup [.c (.v (.bool true)),.c (.v .nilIface)],.w (.c (.v (.bool true))),.w (.c (.v .nilIface)),.w (.c (.v (.bool true))),.w (.c (.v .nilIface))]:List SV).getD i noS,fun n=>([none,none,none,none,some 2,some 2]:List (Option Nat)).getD n none,
  [(1,(.add (.leaf 0) (.root (.leaf 4616189618054758400)))),(2,(.leaf 0)),(4,(.leaf 4611686018427387904)),(5,(.leaf 0))],[⟨0,89,[.v (Value.int IntKind.i64 2),.v (.float .f64 0),.v (.float .f64 0),.v (Value.float FloatKind.f64 4616189618054758400)],none⟩,⟨3,29,aX g 1 2,none⟩],
  fun i=>([0,0,2,2,0,0,0,0,0]:List Nat).getD i 0,fun i=>([[],[],[1],[0,1,2],[0,1,2,3],[0,1,2,3,4],[0,1,2,3,4],[0,1,2,3,4,5],[0,1,2,3,4,6]]:List (List Nat)).getD i [],[(4,.w (.c (.ptr 3 0))),(1,.w (.c (.v (.pointer (some ⟨g,0,none⟩)))))]⟩)
  (W:=runW (bs w) g) (ν0:=fun n=>([b1,n4,n5,b7]:List Nat).getD n 0) (c0:=10)
  (fs:=fun ν=>[(31,aN g (ν 1) (ν 2)),(32,.pointer (some ⟨g,0,none⟩)),(33,aN g (ν 4) (ν 5)),(34,.tuple #[(.bool true),.nilIface]),(30,.tuple #[(.bool true),.nilIface]),(35,(.bool true)),(36,.nilIface),(8,(.bool true)),(9,.nilIface)]) 9 14 [false,false,true,true,false,false] [true,false]
  ⟨Spec.wf_of (by kernel_rfl),dG (by kernel_rfl),bJ ⟨rfl,rfl,trivial⟩⟩ R4.out (Run.nodup R4.out) (by decide)
  (fun b hM=>aA (aA (aA (aA (aA (aA (aA (aA (aA bT
    (aI b 4 m1))
    (aD b))
    (aL b (c_at hM (by decide) (by decide) (by decide) (by decide) rfl rfl rfl rfl (by decide) rfl)))
    (aL b (aoU hM m0 m1 rfl rfl m2 m3 rfl rfl rfl rfl rfl CM.out.2)))
    (aD b))
    (aD b))
    (aD b))
    (aD b))
    (aD b)) ?_
 intro ν W5 hν hR;replace hR:Run (bs w) g 14 [((.add (.leaf 0) (.root (.leaf 4616189618054758400))),ν 1),((.leaf 0),ν 2),((.leaf 4611686018427387904),ν 4),((.leaf 0),ν 5)] [((ν 0),.cells #[(Value.int IntKind.i64 2),.float .f64 0,.float .f64 0,(Value.float FloatKind.f64 4616189618054758400)] 89),((ν 3),aV g (ν 1) (ν 2))] W5:=hR;have e0:ν 0=b1:=hν 0 rfl;have e1:ν 1=n4:=hν 1 rfl;have e2:ν 2=n5:=hν 2 rfl;have e3:ν 3=b7:=hν 3 rfl;simp only[e0,e1,e2,e3]at hR|-;clear hν e0 e1 e2 e3;generalize ν 4=n10 at hR|-;generalize ν 5=n11 at hR|-;have R5:=hdd hR;clear hR R4;simp only[putL,aqB,aqC];obtain⟨c0,c1,c2,c3⟩:=bH (R5.out.at m0);have HB:=hdd R5.out.below;clear R5 CM;go_wp2_with fail
 refine(aoN ⟨by decide,by decide⟩ ⟨by decide,by decide⟩ ⟨by decide,by decide⟩ ao3).mono ?_;rintro e w5⟨rfl,hb5⟩;have HB5:=hdd (HB.out.trans (hb5.mono HB.out.size));clear hb5;go_wp2_with fail
 refine(ao0 ⟨by decide,by decide⟩ ⟨by decide,by decide⟩ ⟨by decide,by decide⟩ ao4).mono ?_;rintro e w6⟨er,n,rfl,hn,he,hb6⟩;have HB6:=hdd (HB5.out.trans (hb6.mono HB5.out.size));have HC:=hdd (aoY he (by omega));clear hb6 he hn;go_wp2_with fail
 refine HC.out.mono ?_;rintro e w7⟨rfl,hb7⟩;have HB7:=hdd (HB6.out.trans (hb7.mono HB6.out.size));clear hb7;go_wp2;go_ret;exact⟨rfl,HB7.out⟩
end Go.Proofs.YtgodkfgnhpnhcaaGreatDoor
namespace Go.Proofs.YtgodkfgnhpnhcaaGreatDoor
open Go.RowKit Go.Maps
open Re (rat ofI ofN)
open Rat renaming div_mul_cancel->aqD,mul_nonneg->aqE,mul_eq_zero->aqF,intCast_mul->aqG,mul_pos->aqH
abbrev oneE:Ex:=.leaf 4607182418800017408
abbrev twoE:Ex:=.leaf 4611686018427387904
theorem apB{r t:Rat}(hr:0<r):∃u v:Rat,u*(1+t*t)=r*(1-t*t)/\v*(1+t*t)=2*r*t/\u*u+v*v=r*r/\0<r+u/\u<=r/\(u=r->v=0):=by
 have ht:0<=t*t:=by
  rcases(Rat.le_total:(0:Rat)<=t\/t<=0)with h|h
  . exact aqE h h
  . have:=aqE (a:=-t) (b:=-t) (by grind) (by grind);grind
 have hn:0<1+t*t:=by grind
 generalize hN:1+t*t=n at*;have h0:n≠0:=by grind
 refine⟨r*(1-t*t)/n,2*r*t/n,aqD h0,aqD h0,?_⟩;have e1:r*(1-t*t)/n*n=r*(1-t*t):=aqD h0;have e2:2*r*t/n*n=2*r*t:=aqD h0;generalize r*(1-t*t)/n=u at*;generalize 2*r*t/n=v at*;have cancel:∀{x y:Rat},x*n=y*n->x=y:=fun{x y} h=>by
  have h2:(x-y)*n=0:=by grind
  rcases aqF.1 h2 with h3|h3
  . grind
  . exact absurd h3 h0
 have hrt:0<=r*(t*t):=aqE (by grind) ht;refine⟨?_,?_,?_,fun e=> ?_⟩
 . apply cancel;apply cancel
   have:(u*u+v*v)*n*n=(u*n)*(u*n)+(v*n)*(v*n):=by grind
   rw[this,e1,e2];grind
 . apply Classical.byContradiction;intro h
   have h1:0<=-(r+u)*n:=aqE (by grind) (by grind);have h2:(r+u)*n=2*r:=by grind
   grind
 . apply Classical.byContradiction;intro h
   have h1:0<(u-r)*n:=aqH (by grind) hn;have h2:(u-r)*n=-(2*(r*(t*t))):=by grind
   grind
 . apply cancel
   rw[e2];have h1:r*(t*t)=0:=by grind
   rcases aqF.1 h1 with h3|h3
   . grind
   . rcases aqF.1 h3 with h4|h4<;>grind
theorem apC{x y r t:Int}(hx:x.natAbs<2^5)(hy:y.natAbs<2^5)(hr:0<r/\r<=20)(ht:t.natAbs<2^5):
 ∃q1 q2:Int,q1<=0/\q2<=0/\∀A B R K S N DX DY PX PY:Ex,A=li x->B=li y->R=.root (li (r*r))->K=li r->S=li t->N=.add oneE (.mul S S)->DX=.div (.mul K (.sub oneE (.mul S S))) N->DY=.div (.mul (.mul twoE K) S) N->PX=.add A DX->PY=.add B DY->
  iJ PT (aoA PX PY (fl x) (fl y) (fl (r*r))) 0/\iJ PT (aoA (midE A PX) (midE B PY) (fl x) (fl y) (fl (r*r))) (-1)/\iJ PT (aoA (.add PX DX) (.add PY DY) (fl x) (fl y) (fl (r*r))) 1/\
  ajI PT (.sub A R) B PX PY q1/\ajI PT PX PY (.add A R) B q2:=by
 have hrr:(r*r).natAbs<2^9:=by
  have h1:r*r<=20*20:=Int.mul_le_mul hr.2 hr.2 (by omega) (by omega);have h2:0<=r*r:=Int.mul_nonneg (by omega) (by omega);omega
 have hrq:(0:Rat)<(r:Rat):=Rat.intCast_pos.2 hr.1;obtain⟨u,v,h1,h2,h3,h4,h5,h6⟩:=apB (t:=(t:Rat)) hrq;have hL:Lok [.root (li (r*r))]:=by
  refine Fit.lok Lok.nil (anY (L:=[]) 9 hrr (by omega)) (by decide) ?_;rw[Re.zero_rat];refine Re.rat_le.2 ?_;rw[aqG];exact aqE (by grind) (by grind)
 have a:=anY (L:=[.root (li (r*r))]) 5 hx (by omega);have b:=anY (L:=[.root (li (r*r))]) 5 hy (by omega);have k:=anY (L:=[.root (li (r*r))]) 5 (k:=r) (by omega) (by omega);have s:=anY (L:=[.root (li (r*r))]) 5 ht (by omega);have c:=anY (L:=[.root (li (r*r))]) 9 hrr (by omega);have one:=apL (L:=[.root (li (r*r))]);have two:=ao2 (L:=[.root (li (r*r))]);have R:=c.rroot (q:=(r:Rat)) (by grind) (by rw[aqG]) (List.mem_singleton.2 rfl);have n:=one.radd (s.rmul s);have hn0:(1:Rat)+(t:Rat)*t≠0:=by
  intro e;rw[e]at h1 h2;grind
 have dx:=Fit.rdiv hL (k.rmul (one.rsub (s.rmul s))) n hn0 h1;have dy:=Fit.rdiv hL ((two.rmul k).rmul s) n hn0 h2;have px:=a.radd dx;have py:=b.radd dy;have two0:(2:Rat)≠0:=by decide
 have mx:=Fit.rdiv hL (a.radd px) two two0 (z:=x+u/2) (by grind);have my:=Fit.rdiv hL (b.radd py) two two0 (z:=y+v/2) (by grind);have hrr2:((r*r:Int):Rat)=(r:Rat)*r:=aqG ..;have s1:=((((px.rsub a).rmul (px.rsub a)).radd ((py.rsub b).rmul (py.rsub b))).rsub c).zero (P:=PT) (by rw[hrr2];grind) (by kernel_rfl);have s2:=((((mx.rsub a).rmul (mx.rsub a)).radd ((my.rsub b).rmul (my.rsub b))).rsub c).neg (P:=PT) (by
  rw[hrr2];have:=aqH hrq hrq;grind) (by kernel_rfl)
 have ox:=px.radd dx;have oy:=py.radd dy;have s3:=((((ox.rsub a).rmul (ox.rsub a)).radd ((oy.rsub b).rmul (oy.rsub b))).rsub c).pos (P:=PT) (by
  rw[hrr2];have:=aqH hrq hrq;grind) (by kernel_rfl)
 have s4:=((a.rsub R).rsub px).neg (P:=PT) (by grind) (by kernel_rfl);have s5:∃q2:Int,q2<=0/\ajI PT (.add (li x) (.div (.mul (li r) (.sub oneE (.mul (li t) (li t)))) (.add oneE (.mul (li t) (li t))))) (.add (li y) (.div (.mul (.mul twoE (li r)) (li t)) (.add oneE (.mul (li t) (li t))))) (.add (li x) (.root (li (r*r)))) (li y) q2:=by
  by_cases e:u=r
  . exact⟨0,by omega,0,0,trivial,(px.rsub (a.radd R)).zero (by grind) (by kernel_rfl),fun _=>⟨trivial,(py.rsub b).zero (by rw[h6 e];grind) (by kernel_rfl)⟩,rfl⟩
  . exact⟨-1,by omega,-1,0,trivial,(px.rsub (a.radd R)).neg (by grind) (by kernel_rfl),fun h=>by omega,rfl⟩
 obtain⟨q2,k1,k2⟩:=s5;refine⟨-1,q2,by omega,k1,?_⟩;rintro A B R K S N DX DY PX PY rfl rfl rfl rfl rfl rfl rfl rfl rfl rfl;exact⟨s1,s2,s3,⟨-1,0,trivial,s4,fun h=>by omega,rfl⟩,k2⟩
end Go.Proofs.YtgodkfgnhpnhcaaGreatDoor
namespace Go.Proofs.YtgodkfgnhpnhcaaGreatDoor
open Go.RowKit Go.Maps
open Int renaming tmod_lt_of_pos->aqI,lt_tmod_of_pos->aqJ,mul_nonneg->aqK
variable{k:Int}{j:Nat}
theorem ao6{n d:Int}(k:Int)(hn:0<n/\n<1000000)(hd:0<=d/\d<1000000):∃K:Int,IntKind.i64.wrap (k.tmod n+n)=k.tmod n+n/\IntKind.i64.wrap (d+(k.tmod n+n).tmod n)=K/\d<=K/\K<d+n:=by
 have h1:=aqJ k hn.1;have h2:=aqI k hn.1;have h3:0<=(k.tmod n+n).tmod n:=Int.tmod_nonneg _ (by omega);have h4:=aqI (k.tmod n+n) hn.1;exact⟨_,IntWalk.i64_in _ (by omega),IntWalk.i64_in _ (by omega),by omega,by omega⟩
theorem aoM{n:Int}(k:Int)(hn:0<n):∃K:Int,(∀w,(binOp .rem 3 (.int .i64 k) (.int .i64 n)).run Tryz.prog w=.ok (.int .i64 K) w)/\-n<K/\K<n:=
 ⟨_,fun w=>aeC (by omega) w,aqJ k hn,aqI k hn⟩
theorem apD{a b:Int}(h:IntKind.i64.wrap (a*b)=a*b)(w:World):(binOp .mul 3 (.int .i64 a) (.int .i64 b)).run Tryz.prog w=.ok (.int .i64 (a*b)) w:=by
 simp[go_sem,h]
theorem apV{n:Int}(h0:0<=k)(h:k<=n):0<=k*k/\k*k<=n*n:=⟨aqK h0 h0,Int.mul_le_mul h h h0 (by omega)⟩
theorem aoB(h:k.natAbs<2^53):FlOk (fl k):=⟨(aoG h).1,(aoG h).2.1⟩
theorem aoS(h:k.natAbs<2^53)(h0:0<=k):0<=fv (fl k):=by
 rw[(aoG h).2.2];exact aqK h0 (Int.natCast_nonneg _)
theorem ao7{w:World}{g i b:Nat}(hb:w.heap[b]? =some (.cells #[.pointer (some ⟨g,0,none⟩),.int .i64 (i:Int),.pointer (some ⟨g,0,none⟩),.int .i64 (j:Int)] 27)):NumsP w (.slice (some ⟨b,0,none⟩) 2 2) g [i,j]:=by
 obtain⟨c0,c1,c2,c3⟩:=bH hb;refine⟨b,2,rfl,by simp,fun m x hx=> ?_⟩
 match m,hx with
 |0,hx=>simp at hx;subst hx;exact⟨c0,c1⟩
 |1,hx=>simp at hx;subst hx;exact⟨c2,c3⟩
 |m+2,hx=>simp at hx
theorem apO{ns:List Nd}{y z:Ex}{k:Nat}(hy:Is ns y j)(hz:Is ns z k):∀(m x:Nat) e,[j,k][m]? =some x->[y,z][m]? =some e->Is ns e x:=fun m x e h1 h2=>by
 match m,h1,h2 with
 |0,h1,h2=>simp at h1 h2;subst h1;subst h2;exact hy
 |1,h1,h2=>simp at h1 h2;subst h1;subst h2;exact hz
 |m+2,h1,h2=>simp at h1
section
variable{S:Spec Ex}{w0:Bs}{g c0 i:Nat}(hM:c0+S.total<=20000){m n p t:Nat}{x y z:Ex}{B:Blk}(hx:(m,x)∈S.know)(hy:(n,y)∈S.know)(hz:(p,z)∈S.know)(px:S.pre i m=true)(py:S.pre i n=true)(pz:S.pre i p=true)
 (hB:B∈S.blocks) (pB:S.pre i B.b=true) (hI:B.init=[.v (.pointer (some ⟨g,0,none⟩)),.id n,.v (.pointer (some ⟨g,0,none⟩)),.id p]) (hT:B.T=27) (hst:B.st=none) (hc:S.cost i=2) (hv:S.val i=numS g t) (ht:S.cr t=some i)
include hM hx hy hz px py pz hB pB hI hT hst hc hv ht
theorem apP(hk:S.made i=[(t,.mul (.mul x y) z)]):fI S w0 g c0 i 24 (fun ν=>#[numV g (ν m),.slice (some ⟨ν B.b,0,none⟩) 2 2]):=
 jG hM (d:=1) hc hv ht hk fun lst ν c w hD hl h=>by
  have hb:=h.at (vV (S:=S) (ν:=ν) hB (pre_on pB hD));unfold Blk.obj Blk.cont at hb;rw[hst,hI,hT]at hb;obtain⟨ns,hs,hK⟩:=h;exact(akW (l:=[ν n,ν p]) (es:=[y,z]) hs.st (ao7 hb) rfl (by simp) (hK _ (dS hx (pre_on px hD))) (apO (hK _ (dS hy (pre_on py hD))) (hK _ (dS hz (pre_on pz hD)))) (fun _ _=>trivial) (by simp;omega)).mono fun _ _ hr=>jF hs hK hr
end
end Go.Proofs.YtgodkfgnhpnhcaaGreatDoor
