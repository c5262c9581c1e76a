/- A part of the proof: contracts of functions and plain laws (EX0). -/
import Derived.Test.YtebdolonckjpiaaGreatDoorK15
import Derived.Test.YtebdolonckjpiaaGreatDoorK16
import Derived.Test.YtebdolonckjpiaaGreatDoorK18
import Derived.Test.YtebdolonckjpiaaGreatDoorK19
import Derived.Test.YtebdolonckjpiaaGreatDoorK29
import Derived.Test.YtebdolonckjpiaaGreatDoorK31
import Derived.Test.YtebdolonckjpiaaGreatDoorK34
import Derived.Test.YtebdolonckjpiaaGreatDoorK35
set_option linter.unusedVariables false
set_option linter.unusedSimpArgs false
set_option maxHeartbeats 25600000
set_option maxRecDepth 100000
namespace Go.Proofs.YtebdolonckjpiaaGreatDoor
theorem ao8{P:Ex->Prop}{ns ns':List Nd}{a:Ex}{i k:Nat}(h:AllIs P ns)(ha:Is ns a i)(hn:ns'[k]? =some ⟨5,0,i,0⟩)(hns:ns'=ns\/ns'=ns++[⟨5,0,i,0⟩])(hP:P (.root a)):
 Is ns' (.root a) k/\AllIs P ns'/\ns<+:ns':=by
 by_cases hkl:k<ns.length
 . have hnk:ns[k]? =some ⟨5,0,i,0⟩:=by
    rcases hns with rfl|rfl
    . exact hn
    . rwa[List.getElem?_append_left hkl]at hn
   have hb4:i<k:=by
    rcases h.before hnk with ⟨h0,-⟩|⟨h0,-⟩|⟨-,-,-,i',e1,h1⟩
    . simp at h0
    . rcases h0 with h0|h0|h0|h0<;>simp at h0
    . simp at e1;omega
   have hI:Is ns (.root a) k:=⟨i,hnk,hb4,ha⟩;rcases hns with rfl|rfl
   . exact⟨hI,h,List.prefix_rfl⟩
   . have hp:ns<+:ns++[⟨5,0,i,0⟩]:=⟨_,rfl⟩
     exact⟨hI.mono hp,h.snoc (e:=.root a) ⟨i,by simp,ha.lt,ha.mono hp⟩ hP,hp⟩
 . rcases hns with rfl|rfl
   . exact absurd (List.getElem?_eq_some_iff.1 hn).1 hkl
   . have hp:ns<+:ns++[⟨5,0,i,0⟩]:=⟨_,rfl⟩
     have:k=ns.length:=by have:=(List.getElem?_eq_some_iff.1 hn).1;simp at this;omega
     subst this;have hI:Is (ns++[⟨5,0,i,0⟩]) (.root a) ns.length:=⟨i,hn,ha.lt,ha.mono hp⟩;exact⟨hI,h.snoc hI hP,hp⟩
end Go.Proofs.YtebdolonckjpiaaGreatDoor
namespace Go.Proofs.YtebdolonckjpiaaGreatDoor
open Go.RowKit Go.Maps
section
variable{P:Ex->Prop}{B N:Nat}{w w':World}{g:Nat}{ns ns':List Nd}
end
theorem div_put{P:Ex->Prop}{B N:Nat}{w:World}{g i j:Nat}{ns:List Nd}{a b:Ex}(hs:St P B N w g ns)(hN:N<20000)(ha:Is ns a i)(hb:Is ns b j)(hP:P (.div a b)):
 Calls Tryz.prog 36 #[.pointer (some ⟨g,0,none⟩),.int .i64 (i:Int),.int .i64 (j:Int)] w (RetE P B (N+1) w g ns idV (.div a b)):=by
 have HP:=hdd (qD (n:=⟨4,0,i,j⟩) hs.dag (adE (Or.inr (Or.inr (Or.inr rfl))) ha.lt hb.lt hs.dag.len) (by simp) (by have:=hs.room;omega));have HR:Hid (∀(w':World) (k:Nat) (ns':List Nd),DagP w' g ns'->ns'[k]? =some ⟨4,0,i,j⟩->(ns'=ns\/ns'=ns++[⟨4,0,i,j⟩])->DS g w w'->RetE P B (N+1) w g ns idV (.div a b) (.returned (.int .i64 (k:Int))) w'):=
  hdd fun w' k ns' h1 h2 h3 h4=>ah5 (mk:=idV) hs (Or.inr (Or.inr (Or.inr rfl))) ha hb hP h1 h2 h3 h4
 clear hs hN ha hb hP;dsimp only at HP;go_enter Tryz.func36,Tryz.ntmps36
 go_wp2_with fail
 refine HP.out.mono ?_;rintro e w2⟨k,ns',rfl,hd2,hi,hns,hs⟩;have HF:=hdd (HR.out _ _ _ hd2 hi hns hs);clear hd2 hi hns hs;go_wp2;go_ret;exact HF.out
theorem ao9{P:Ex->Prop}{B N:Nat}{w:World}{g i:Nat}{ns:List Nd}{a:Ex}(hs:St P B N w g ns)(hN:N<20000)(ha:Is ns a i)(hP:P (.root a)):
 Calls Tryz.prog 32 #[.pointer (some ⟨g,0,none⟩),.int .i64 (i:Int)] w (RetE P B (N+1) w g ns idV (.root a)):=by
 have hnd:NdIn ⟨5,0,i,0⟩ ns.length:=by
  have h1:=ha.lt;have h2:=hs.dag.len;refine⟨Or.inr (Or.inr ⟨rfl,rfl,?_,rfl⟩),?_,?_,?_⟩
  . simp;omega
  . intro h;simp at h
  . intro _;simp;omega
  . intro _ h;simp at h
 have HP:=hdd (qD (n:=⟨5,0,i,0⟩) hs.dag hnd (by simp) (by have:=hs.room;omega));have HS:=hdd hs;have HA:=hdd ha;have HE:=hdd hP;clear hs hN ha hP hnd;dsimp only at HP;go_enter Tryz.func32,Tryz.ntmps32
 go_wp2_with fail
 refine HP.out.mono ?_;rintro e w2⟨k,ns',rfl,hd2,hi,hns,hs⟩;have HR:Hid (RetE P B (N+1) w g ns idV (.root a) (.returned (idV k)) w2):=hdd (by
  obtain⟨q1,q2,q3⟩:=ao8 HS.out.all HA.out hi hns HE.out;refine⟨k,ns',rfl,HS.out.step hd2 q2 hs ?_,q3,q1,hs⟩;have:=HS.out.room;rcases hns with rfl|rfl
  . omega
  . simp;omega)
 unfold idV at HR;clear hd2 hi hns hs;go_wp2;go_ret;exact HR.out
theorem aoL{w:World}{g k:Nat}{ns:List Nd}(hd:DagP w g ns)(hk:k<ns.length):
 Calls Tryz.prog 65 #[.agg #[.pointer (some ⟨g,0,none⟩),.int .i64 (k:Int)],.slice none 0 0] w (RetV w (.bool true)):=by
 obtain⟨w1,hw1,hb1,hs1,b1⟩:=pro1 w (.cells #[.pointer (some ⟨g,0,none⟩),.int .i64 (k:Int)] 27);obtain⟨c0,c1,-,-⟩:=aC b1;have HV:=hdd (qE (hd.below hb1) hk);have HB:=hdd hb1;clear hd hk hb1 hs1 b1;go_enter Tryz.func65,Tryz.ntmps65
 go_wp2_with fail
 refine HV.out.mono ?_;rintro e w2⟨rfl,hb2⟩;have HB2:=hdd (aB HB.out hb2);clear hb2;go_wp2_with fail
 go_loopw [12] (fun i wr=>i=.int .i64 0/\Hid (wr=w2)) (fun _ _=>0)
 case atStart=>exact⟨rfl,hdd rfl⟩
 case round=>
  obtain⟨rfl,HW⟩:=hrel;obtain rfl:=HW.out;clear HW;go_wp2;go_ret;exact⟨rfl,HB2.out⟩
theorem apA{P:Ex->Prop}{B N:Nat}{w:World}{g i:Nat}{ns:List Nd}{a:Ex}(hs:St P B N w g ns)(hN:N<20000)(ha:Is ns a i)(hP:P (.root a)):
 Calls Tryz.prog 18 #[numV g i] w (RetE P B (N+1) w g ns (numV g) (.root a)):=by
 obtain⟨w4,hw4,hb4,hs4,b1,b2⟩:=pro2 w (.cells #[.pointer (some ⟨g,0,none⟩),.int .i64 (i:Int)] 27) (.cells #[.pointer none,.int .i64 0] 27);have HG:=hdd (aoL (hs.dag.below hb4) ha.lt);have HOP:Hid (∀w',Below w.heap.size w w'->Calls Tryz.prog 32 #[.pointer (some ⟨g,0,none⟩),.int .i64 (i:Int)] w' (RetE P B (N+1) w' g ns idV (.root a))):=hdd fun w' h=>ao9 (hs.below h) hN ha hP;have HAW:Hid (∀w' (c:Nat),Below w.heap.size w w'->w.heap.size<=c->¬DagB w' g c):=hdd fun w' c h=>hs.away h;have HGL:=hdd hs.dag.glt;have HBL:=hdd hs.hB;obtain⟨e0,e1,-,-⟩:=aC b1;have HB4:=hdd hb4;have B3:=hdd b2;clear hs hN ha hP hb4 b1 b2 hs4;go_enter Tryz.func18,Tryz.ntmps18
 go_wp2_with fail
 refine HG.out.mono ?_;rintro e w5⟨rfl,hb5⟩;have hb5d:Below w4.heap.size w4 w5.drew:=aB hb5 (Below.refl _ _).drew;replace e0:=cbl e0 hb5d;replace e1:=cbl e1 hb5d;have HB5:=hdd (aB HB4.out hb5d);have B5:=hdd (hbl B3.out hb5d);clear hb5 hb5d hw4;have n1:w.heap.size+1≠w.heap.size:=by omega
 have n2:w.heap.size≠w.heap.size+1:=by omega
 go_wp2_with fail
 go_region_held3 (fun w'=>w'.cell? ⟨w.heap.size,0,none⟩=some (.pointer (some ⟨g,0,none⟩))/\w'.cell? ⟨w.heap.size,1,none⟩=some (.int .i64 (i:Int))) (go_keep)
  (first
  |(go_at_call 32
    refine(HOP.out _ HB5.out).mono ?_;rintro e w6⟨k,ns',rfl,h1,h2,h3,h4⟩;have e0:=h4.cell e0 (HAW.out _ _ HB5.out (by simp));have e1:=h4.cell e1 (HAW.out _ _ HB5.out (by simp));have hlt5:w.heap.size+1<w5.drew.heap.size:=aH B5.out;have B6:=(h4.heap (b:=w.heap.size+1) hlt5 (HAW.out _ _ HB5.out (by omega))).trans B5.out;obtain⟨r0,r1,f0,f1⟩:=aC B6;have HF:Hid (FoldSt P B (N+1) w g ns (.root a) k ((w6.setCell ⟨w.heap.size+1,0,none⟩ (.pointer (some ⟨g,0,none⟩))).setCell ⟨w.heap.size+1,1,none⟩ (.int .i64 (k:Int)))):=
     hdd (FoldSt.set2 (w0:=w) ⟨ns',h1,h2,h3,h4⟩ (Or.inr trivial) HGL.out HB5.out (by omega) (HAW.out _ _ HB5.out (by omega)) hlt5 (by have:=HBL.out;omega) _ _)
    have HX:=hdd (set2 B6 (.pointer (some ⟨g,0,none⟩)) (.int .i64 (k:Int)));clear h1 h2 h3 h4 B6 hlt5))
 go_wp2;obtain⟨x0,x1,-,-⟩:=aC HX.out;refine bodyPost_ret (v:=.agg #[_,_]) (by simp[results,Tryz.results18,go_sem,x0,x1];first|exact⟨rfl,rfl⟩|rfl) rfl ?_;exact HF.out.ret (numV g)
section
variable{α:Type}{a:α}{l:List α}
end
section
variable{s:Bs}{w0 w1 W W':World}{g N M:Nat}{K:List (Ex×Nat)}{l l':List (Nat×Obj)}
end
def RtO(s:Bs)(g N:Nat)(K:List (Ex×Nat))(l:List (Nat×Obj))(x:Ex)(e:Ending)(W':World):Prop:=∃k:Nat,e=.returned (.int .i64 (k:Int))/\Run s g N ((x,k)::K) l W'
section
variable{s:Bs}{W W':World}{g N M:Nat}{K:List (Ex×Nat)}{l:List (Nat×Obj)}{x y:Ex}{ns:List Nd}
end
section
variable{s:Bs}{W:World}{g N i j k m b v:Nat}{K:List (Ex×Nat)}{l:List (Nat×Obj)}{x y:Ex}{q:Int}
theorem Run.sqrt (h:Run s g N K l W)(hN:N<20000)(hx:(x,i)∈K):Calls Tryz.prog 18 #[numV g i] W (RtR s g (N+1) K l (.root x)):=by
 obtain⟨ns,hs,hK⟩:=h;exact(apA hs.st hN (hK _ hx) trivial).mono fun _ _ hr=>o8 hs hK hr
theorem Run.cmp (h:Run s g N K l W)(hN:N<20000)(hx:(x,i)∈K)(hy:(y,j)∈K)(hS:gY PT (.sub x y) q):Calls Tryz.prog 46 #[numV g i,numV g j] W (RtA s g (N+1) K l (.tuple #[.int .i64 q,.nilIface])):=by
 obtain⟨ns,hs,hK⟩:=h;exact(adH hs.st hN (hK _ hx) (hK _ hy) trivial hS).mono fun _ _ hr=>uR hs hK hr
variable{px py qx qy rx ry:Ex}{i' j' k':Nat}
end
end Go.Proofs.YtebdolonckjpiaaGreatDoor
namespace Go.Proofs.YtebdolonckjpiaaGreatDoor
open Go.RowKit Go.Maps Go.Stop Go.Extern
inductive ErK(S:Nat->Prop)(w:World):Nat->Value->Int->Prop
 |kind {k:Int}:1<=k->k<=7->ErK S w 0 (.iface 140 (.int .i64 k)) k
 |inn {n b:Nat} {v:Value} {k:Int}:S b->w.cell? ⟨b,1,none⟩=some v->ErK S w n v k->ErK S w (n+1) (.iface 223 (.pointer (some ⟨b,0,none⟩))) k
 |att {n b:Nat} {v:Value} {k:Int}:S b->w.cell? ⟨b,1,none⟩=some v->ErK S w n v k->ErK S w (n+1) (.iface 188 (.pointer (some ⟨b,0,none⟩))) k
abbrev apT(w w':World)(b:Nat):Prop:=w.heap.size<=b/\b<w'.heap.size
def RetErr(w:World)(v:Value)(k:Int)(e:Ending)(w':World):Prop:=∃er n,e=.returned (.tuple #[v,er])/\n<=1000/\ErK (apT w w') w' n er k/\Below w.heap.size w w'
end Go.Proofs.YtebdolonckjpiaaGreatDoor
namespace Go.Proofs.YtebdolonckjpiaaGreatDoor
theorem apM{u v e:Rat}(hu:0<=u)(hv:0<=v)(he:0<=e)(h:u*u-v*v<=e*e):u-v<=e:=by
 apply Classical.byContradiction;intro hc;have h1:0<(u-v-e)*(u+v+e):=Rat.mul_pos (by grind) (by grind);have h2:0<=v*e:=Rat.mul_nonneg hv he;grind
theorem apB{M W P H V T:Int}{a r:Bl}(hP:1<=P)(h:Acc M W a)(hM:M<=2*H)(hV:2*V<=W)(w1:T<=V-1)(w2:T<=P-H-4)(hr:rG a P=some r):Acc (H+2) T r:=by
 unfold rG at hr
 split at hr
 . cases hr
 . rename_i hs
   injection hr with hr;subst hr;obtain⟨k1,k2,k3⟩:=nI a;obtain⟨q,q',q1,q2,q3,q4,q5,q6,-,q8,q9,q10⟩:=aaW (bD a) (-1) hP k1;obtain⟨u,u',u1,u2,u3,u4,u5,-,u7,u8,u9,u10⟩:=aaW a.hi 1 hP (by omega);have hp1:=jZ (show-P<=0 by omega);rw[lI]at hp1;have hH:=bU H;have eH:p2 (2*H)=p2 H*p2 H:=by rw[<-dD];congr 1;omega
   have root_am:∀x y:Rat,0<=x->x*x<=y->y<=p2 M->x<=p2 H:=by
    intro x y h1 h2 h3;have:=jZ hM;have:=apM (u:=x) (v:=0) (e:=p2 H) h1 Rat.le_refl (by grind) (by grind);grind
   have hlo:rv (bD a)<=p2 M:=by rcases k3 with g|g<;>rw[g]<;>first|exact h.1.2|(have:=bU M;grind)
   have lq:=root_am q _ q1 q3 hlo;have lu:=root_am u _ u1 u3 h.2.1.2;have step:∀x x':Rat,0<=x->x<=p2 H->x'-x<=x*p2 (-P)->x'<=p2 (H+1):=by
    intro x x' h1 h2 h3;have:=Rat.mul_nonneg (a:=x) (b:=1-p2 (-P)) h1 (by grind);rw[iT];grind
   have lq':=step q q' q1 lq q8;have lu':=step u u' u1 lu u8;have hH1:=bU (H+1);have aq:Am (H+1) q:=⟨by grind,by have:=jZ (show H<=H+1 by omega);grind⟩;have aq':Am (H+1) q':=⟨by grind,lq'⟩;have au:Am (H+1) u:=⟨by grind,by have:=jZ (show H<=H+1 by omega);grind⟩;have au':Am (H+1) u':=⟨by grind,lu'⟩;have e2:H+1+1=H+2:=by omega
   have m1:=q9.am hP aq;have m2:=u10.am hP au';rw[e2]at m1 m2;refine⟨m1,m2,?_⟩;show rv (aO a.hi P 1)-rv (aO (bD a) P (-1))<=p2 (-T);have b1:=(q10.bd aq').2;have b2:=(u9.bd au).1;have hw:rv a.hi-rv (bD a)<=p2 (-W):=by have:=h.2.2;grind
   have hV2:=jZ (show-W<=-V+-V by omega);rw[dD]at hV2;have hpV:=bU (-V);have hd:=apM (u:=u) (v:=q') (e:=p2 (-V)) u1 (by grind) (by grind) (by grind);have g1:=half (a:=-V) (b:=-T) (by omega);have g2:=quarter (a:=H+1+1-P) (b:=-T) (by omega);grind
end Go.Proofs.YtebdolonckjpiaaGreatDoor
namespace Go.Proofs.YtebdolonckjpiaaGreatDoor
open Re (rat)
section
variable{L:List Ex}{P:Int}{a b:Ex}{x y z:Re}{c d:Ct}
theorem Vl.root (hP:1<=P)(h:Vl L P a x c)(h0:0<=y)(hy:y*y=x)(hm:Ex.root a∈L):Vl L P (.root a) y (amS P c):=by
 obtain⟨r,h1,h2,h3,h4⟩:=h.le hP;have:=h.hu;have:=h.hl;have:=h.hs;obtain⟨q,hq,-⟩:=akW hP h3 h0 hy;refine⟨h.den.root h0 hy,h.fin,⟨hm,h.roots⟩,⟨q,by unfold gH;rw[h1];exact hq,?_⟩,?_,?_,by simp only[cK,amS];omega⟩
 . exact apB (H:=(c.M+1)/2) (V:=c.W/2) hP h2 (by omega) (by omega) (by simp only[amS];omega) (by simp only[amS];omega) hq
 . simp only[uE,amS];split<;>simp only<;>omega
 . simp only[uE,amS];split<;>simp only<;>omega
end
end Go.Proofs.YtebdolonckjpiaaGreatDoor
namespace Go.Proofs.YtebdolonckjpiaaGreatDoor
open Go.RowKit Go.Maps
open Re (rat ofI ofN)
theorem AllGd.root {a:Ex}{K j:Nat}{v:Re}(h:AllGd a)(hG:Gd K j a v):AllGd (.root a):=
 ⟨fun x y s=>by cases s with|root s=>exact h.1 x y s,fun x s=>by cases s with|refl=>exact⟨_,_,_,hG⟩|root s=>exact h.2 x s⟩
section
variable{L:List Ex}{a b:Ex}{x y z:Re}{k m n:Nat}
end
section
variable{L:List Ex}{b:Nat}{x:Int}
end
section
variable{L:List Ex}{s t:Sh}{a b:Ex}{x y z:Re}
theorem Fit.root (h:Fit L s a x)(h0:0<=y)(hy:y*y=x)(hm:Ex.root a∈L):Fit L (.root s) (.root a) y:=fun k=>by
 simp only[Sh.ok,Bool.and_eq_true]at k;have h:=h k.1;exact⟨Vl.root (by omega) h.vl h0 hy hm,by have:=h.cost;simp only[bX,Sh.cost];omega,h.gd.root (h.good k.2)⟩
end
section
variable{L:List Ex}{s t:Sh}{a b:Ex}{p q:Rat}
theorem Fit.rroot (h:Fit L s a (rat p))(h0:0<=q)(hq:q*q=p)(hm:Ex.root a∈L):Fit L (.root s) (.root a) (rat q):=
 Fit.root h (by rw[Re.zero_rat];exact Re.rat_le.2 h0) (by rw[<-Re.rat_mul,hq]) hm
end
end Go.Proofs.YtebdolonckjpiaaGreatDoor
namespace Go.Proofs
open Go.Shelf
def Tryz.lays21_ren:Go.Shelf.Ren:=⟨fun|21=>120|27=>180|28=>181|35=>230|39=>266|n=>n,fun|0=>0|3=>3|4=>4|22=>22|n=>n,fun|n=>n⟩
theorem Tryz.lays21:Lays2.n21 Tryz.prog Tryz.lays21_ren:={
 mixed:=by kernel_rfl
 f21:=Tryz.func120.trans (congrArg some (by kernel_rfl))
 f27:=Tryz.func180.trans (congrArg some (by kernel_rfl))
 f28:=Tryz.func181.trans (congrArg some (by kernel_rfl))
 f35:=Tryz.func230.trans (congrArg some (by kernel_rfl))
 f39:=Tryz.func266.trans (congrArg some (by kernel_rfl))
 t0:=Tryz.underlying0
 a0:=Tryz.isAgg0
 z0:=Tryz.sizeOf0
 v0:=Tryz.zeroValue0
 t3:=Tryz.underlying3
 a3:=Tryz.isAgg3
 z3:=Tryz.sizeOf3
 v3:=Tryz.zeroValue3
 t4:=Tryz.underlying4
 a4:=Tryz.isAgg4
 z4:=Tryz.sizeOf4
 v4:=Tryz.zeroValue4
 t22:=Tryz.underlying22
 a22:=Tryz.isAgg22
 z22:=Tryz.sizeOf22
 v22:=Tryz.zeroValue22
 i3:=by kernel_rfl}
end Go.Proofs
namespace Go.Proofs.YtebdolonckjpiaaGreatDoor
open Go.RowKit Go.Maps
open Go.Builtin renaming zeroCells->apY
open List renaming length_singleton->apV,length_append->apW,mem_cons_self->apX,append_assoc->ap0,nodup_cons->ap1,mem_cons_of_mem->ap2,length->ap3
open Nat renaming zero_add->apZ
variable{T:TypeId}
def RowI(v:Value)(o:List Nat)(lr:List (Nat×Obj)):Prop:=
 (o=[]/\v=.slice none 0 0/\lr=[])\/∃(r:Nat) (sp:List Value),v=.slice (some ⟨r,0,none⟩) o.length (o.length+sp.length)/\lr=[(r,.cells (bI o++sp).toArray 3)]/\o.length+sp.length<=9223372036854775807
theorem anR{b:Nat}{T:TypeId}:∀(vs pre mid post:List Value) (w:World),w.heap[b]? =some (.cells (pre++(mid++post)).toArray T (0,0))->mid.length=vs.length->(w.setCells b pre.length vs).heap[b]? =some (.cells (pre++(vs++post)).toArray T (0,0))
 |[],pre,[],post,w,h,_=>h
 |[],_,_::_,_,_,_,e=>by simp at e
 |_::_,_,[],_,_,_,e=>by simp at e
 |v::vs,pre,m::mid,post,w,h,e=>by
  have h1:=amF (k:=pre.length) (v:=v) h;have e1:(pre++(m::mid++post)).set pre.length v=(pre++[v])++(mid++post):=by simp
  rw[e1]at h1;have h2:=anR vs (pre++[v]) mid post _ h1 (by simpa using e);rw[apW,apV,ap0]at h2;exact h2
theorem anQ{b:Nat}:∀(vs:List Value) (k:Nat) (w:World),w.grownBy (w.setCells b k vs) (some b)
 |[],_,w=>adA w _
 |v::vs,k,w=>grownBy_trans (grownBy_set (adA w _) v) (anQ vs (k+1) _)
theorem frzI{w:World}{b:Nat}{cs:Array Value}(h:w.heap[b]? =some (.cells cs T (0,0)))(k:Nat):w.frozen? ⟨b,k,none⟩=false:=by simp[World.frozen?,h]
theorem aoC{l:List Nat}:∀u∈bI l,u.oneCell'=true:=fun u h=>by
 obtain⟨x,-,rfl⟩:=List.mem_map.1 h;rfl
section
variable{s:Bs}{g N vb i at':Nat}{K:List (Ex×Nat)}{l lr:List (Nat×Obj)}{W:World}{v:Value}{o:List Nat}
def InsR(s:Bs)(g N:Nat)(K:List (Ex×Nat))(l:List (Nat×Obj))(o:List Nat)(e:Ending)(W':World):Prop:=∃v' lr',e=.returned v'/\RowI v' o lr'/\Run s g N K (lr'++l) W'
theorem ao1{arr Z:Array Value}{o':List Nat}{c:Nat}(hR:Run s g N K l W)(hT:T=3)(ha:arr=(bI o').toArray++Z)(hc:c=o'.length+Z.size)(hm:c<=9223372036854775807):InsR s g N K l o' (.returned (.slice (some ⟨W.heap.size,0,none⟩) o'.length c)) (W.drew.alloc (.cells arr T)):=by
 subst hT;have hz:Z.toList.length=Z.size:=by simp
 refine⟨_,[(W.heap.size,.cells arr 3)],rfl,Or.inr ⟨W.heap.size,Z.toList,by rw[hc,hz],?_,by omega⟩,hR.drew.alloc _⟩;rw[ha,<-List.toArray_appendList];simp
theorem aoA(n:Nat):(apY (Value.int .i64 0).cells n).size=n:=by rw[size_zeroCells];exact Nat.mul_one n
theorem aoZ(hR:Run s g N K ((vb,.cells #[.int .i64 (i:Int)] 3)::(lr++l)) W)(hv:RowI v o lr)(hat:at'<=o.length)(hn:o.length<1000):
 Calls Tryz.prog 120 #[v,.int .i64 (at':Int),.slice (some ⟨vb,0,none⟩) 1 1] W (InsR s g N K l (o.take at'++i::o.drop at')):=by
 have hb:=hR.at (apX ..);have hvs:∀j u,[Value.int .i64 (i:Int)][j]? =some u->W.cell? ⟨vb,0+j,none⟩=some u:=fun j u hj=>by rw[apZ];exact oQ (cs:=[.int .i64 (i:Int)]) hb hj
 have h1v:∀u∈[Value.int .i64 (i:Int)],u.oneCell'=true:=fun u hu=>by rw[List.mem_singleton.1 hu];rfl
 have hg:∀old T,o.length+1<=grownCap W (o.length+1) old T/\grownCap W (o.length+1) old T<=9223372036854775807:=fun old T=>⟨grownCap_ge ..,by
  have:=grownCap_le_maxLen W (o.length+1) old T (by unfold maxLen;omega);unfold maxLen at this;omega⟩
 have hnd:=hR.nodup;rw[List.map_cons]at hnd;have hR1:=hR.sub (l':=lr++l) (fun p hp=>ap2 _ hp) (ap1.1 hnd).2;have hl1:=hR.sub (l':=l) (fun p hp=>ap2 _ (List.mem_append.2 (Or.inr hp))) (by have:=(ap1.1 hnd).2;rw[List.map_append]at this;exact(List.nodup_append.1 this).2.1);rcases hv with ⟨rfl,rfl,rfl⟩|⟨r,sp,rfl,rfl,hm⟩
 . obtain rfl:at'=0:=by simpa using hat
   refine(Any2.slices_Insert_int_end_grow Tryz.lays21 none 0 0 vb 0 1 1 [] [.int .i64 (i:Int)] W (by omega) (by omega) (by omega) (by omega) rfl rfl (fun _=>rfl) (fun _ h=>by cases h) hvs h1v).mono ?_;rintro e W'⟨rfl,rfl⟩;have hk:=hg 0 (Tryz.lays21_ren.t 3);exact ao1 (o':=[i]) hl1 rfl rfl (by rw[aoA];simp at hk|-;omega) hk.2
 . have hr:=hR1.at (apX ..)
   have hcs:∀j u,(bI o)[j]? =some u->W.cell? ⟨r,0+j,none⟩=some u:=fun j u hj=>by
    rw[apZ];refine oQ hr ?_;rw[List.getElem?_append_left (List.getElem?_eq_some_iff.1 hj).1];exact hj
   have hvr:vb≠r:=fun e=>(ap1.1 hnd).1 (by rw[e];simp);by_cases hend:at'=o.length
   . subst hend
     have e0:o.take o.length++i::o.drop o.length=o++[i]:=by simp
     rw[e0]
     cases sp with
     |nil=>
      refine(Any2.slices_Insert_int_end_grow Tryz.lays21 (some ⟨r,0,none⟩) o.length (o.length+0) vb 0 1 1 (bI o) [.int .i64 (i:Int)] W (by omega) (by omega) (by omega) (by omega) (lG o) rfl (fun h=>by cases h) (fun a ha j u hj=>by
       obtain rfl:=Option.some.inj ha;rw[Addr.add_lit];exact hcs j u hj) hvs h1v).mono ?_
      rintro e W'⟨rfl,rfl⟩;have hk:=hg (o.length+0) (Tryz.lays21_ren.t 3);have h:=ao1 (o':=o++[i]) (T:=Tryz.lays21_ren.t 3) (c:=grownCap W (o.length+1) (o.length+0) (Tryz.lays21_ren.t 3)) (Z:=apY (Value.int .i64 0).cells (grownCap W (o.length+1) (o.length+0) (Tryz.lays21_ren.t 3)-(o.length+1))) hl1 rfl rfl (by rw[aoA,apW,apV];omega) hk.2;rw[apW,apV,<-aaI]at h;exact h
     |cons z sp=>
      have hz:∀j,j<1->W.cell? ⟨r,0+o.length+j,none⟩=some z:=fun j hj=>by
       obtain rfl:j=0:=by omega
       rw[apZ,Nat.add_zero];refine oQ hr ?_;rw[List.getElem?_append_right (by rw[lG];exact Nat.le_refl _),lG,Nat.sub_self];rfl
      refine(Any2.slices_Insert_int_end_room Tryz.lays21 r 0 o.length (o.length+(z::sp).length) vb 0 1 1 [.int .i64 (i:Int)] W (by omega) (by simp) (by omega) rfl (fun j hj=>by rw[hz j hj];rfl) (fun j _=>frzI hr _) hvs h1v).mono ?_;rintro e W'⟨rfl,rfl⟩;have h2:=anR [Value.int .i64 (i:Int)] (bI o) [z] sp W hr rfl;rw[lG]at h2;have h3:=hR1.write (anQ [Value.int .i64 (i:Int)] o.length W) h2;rw[apZ];exact⟨_,[(r,.cells (bI o++([Value.int .i64 (i:Int)]++sp)).toArray 3)],rfl,Or.inr ⟨r,sp,by simp;omega,by rw[<-ap0,aaI],by simp at hm|-;omega⟩,h3⟩
   . have hlt:at'<o.length:=by omega
     have e1:bI o=bI (o.take at')++bI (o.drop at'):=by rw[<-uL,List.take_append_drop]
     have e2:(bI o).drop at'=bI (o.drop at'):=by simp[bI]
     have e3:(bI o).take at'=bI (o.take at'):=by simp[bI]
     have e4:(o.take at'++i::o.drop at').length=o.length+1:=by simp;omega
     have e5:bI (o.take at'++i::o.drop at')=bI (o.take at')++(.int .i64 (i:Int)::bI (o.drop at')):=by rw[uL];rfl
     have l1:(bI (o.take at')).length=at':=by rw[lG,List.length_take];omega
     have l2:(bI (o.drop at')).length=o.length-at':=by rw[lG,List.length_drop]
     cases sp with
     |nil=>
      refine(Any2.slices_Insert_int_grow Tryz.lays21 r 0 o.length (o.length+0) at' vb 0 1 1 (bI o) [.int .i64 (i:Int)] W hlt (by omega) (by omega) (by omega) (by omega) (lG o) rfl hcs hvs aoC h1v).mono ?_;rintro e W'⟨rfl,rfl⟩;obtain⟨c,hc⟩:∃c,grownCap W (o.length+1) (o.length+0) (Tryz.lays21_ren.t 3)=c:=⟨_,rfl⟩;have hk:=hg (o.length+0) (Tryz.lays21_ren.t 3);rw[hc]at hk|-;obtain⟨Z1,hZ1⟩:∃Z,(apY (Value.int .i64 0).cells (o.length+1-at')).toList=Z:=⟨_,rfl⟩;obtain⟨Z2,hZ2⟩:∃Z,(apY (Value.int .i64 0).cells (c-(o.length+1))).toList=Z:=⟨_,rfl⟩;have z1:Z1.length=o.length+1-at':=by rw[<-hZ1,Array.length_toList,aoA]
      have z2:Z2.length=c-(o.length+1):=by rw[<-hZ2,Array.length_toList,aoA]
      obtain⟨y,Z3,rfl⟩:∃y Z,Z1=y::Z:=by
       cases Z1 with
       |nil=>simp at z1;omega
       |cons y Z=>exact⟨y,Z,rfl⟩
      have ha:((bI o).take at').toArray++apY (Value.int .i64 0).cells (o.length+1-at')++apY (Value.int .i64 0).cells (c-(o.length+1))=(bI (o.take at')++([y]++(Z3++Z2))).toArray:=by
       apply Array.toList_inj.1;rw[Array.toList_append,Array.toList_append,hZ1,hZ2,e3];simp
      rw[ha,e2];have r1:=(hl1.alloc (.cells (bI (o.take at')++([y]++(Z3++Z2))).toArray (Tryz.lays21_ren.t 3))).drew;have h1:=anR [Value.int .i64 (i:Int)] (bI (o.take at')) [y] (Z3++Z2) _ (r1.at (apX ..)) rfl;rw[l1]at h1;have r2:=(r1.write (anQ [Value.int .i64 (i:Int)] at' _) h1).drew;have h2:=anR (bI (o.drop at')) (bI (o.take at')++[Value.int .i64 (i:Int)]) Z3 Z2 _ (T:=Tryz.lays21_ren.t 3) (by rw[ap0];exact r2.at (apX ..)) (by simp at z1;omega);rw[apW,l1,apV]at h2;have r3:=r2.write (anQ (bI (o.drop at')) (at'+1) _) h2;exact⟨_,[(W.heap.size,.cells (bI (o.take at')++[Value.int .i64 (i:Int)]++(bI (o.drop at')++Z2)).toArray 3)],rfl,Or.inr ⟨W.heap.size,Z2,by rw[e4,z2];congr 1;omega,by rw[e5];simp,by rw[e4,z2];omega⟩,r3⟩
     |cons z sp=>
      obtain⟨x,rest,hx⟩:∃x rest,o.drop at'=x::rest:=by
       cases h:o.drop at' with
       |nil=>have:=congrArg ap3 h;simp at this;omega
       |cons x rest=>exact⟨x,rest,rfl⟩
      have hsz:∀j,j<o.length+1->(W.cell? ⟨r,0+j,none⟩).isSome=true:=fun j hj=>by
       rw[apZ];have hj2:j<(bI o++z::sp).length:=by rw[apW,lG,List.length_cons];omega
       rw[oQ hr (List.getElem?_eq_getElem hj2)];rfl
      refine(Any2.slices_Insert_int_shift Tryz.lays21 r 0 o.length (o.length+(z::sp).length) at' vb 0 1 1 (bI o) [.int .i64 (i:Int)] W hlt (by omega) (by simp) (by omega) hvr (lG o) rfl hcs hsz (fun j _=>frzI hr _) hvs aoC h1v 3 3 1 (bI o++z::sp).toArray.size (by simp[World.shape?,hb]) (by simp[World.shape?,hr]) (by simp) (frzI hb _) (frzI hb _)).mono ?_;rintro e W'⟨rfl,rfl⟩;rw[e2];have r1:=hR1.drew;have hl3:rest.length=o.length-at'-1:=by have:=congrArg ap3 hx;simp at this;omega
      have h1:=anR (bI (o.drop at')) (bI (o.take at')++[Value.int .i64 (x:Int)]) (bI rest++[z]) sp _ (T:=3) (by
       have:=r1.at (apX ..);rw[e1,hx]at this;rw[this]
       congr 2
       simp[bI]) (by rw[l2,apW,lG,apV];omega)
      rw[apW,l1,apV]at h1;have r2:=r1.write (anQ (bI (o.drop at')) (at'+1) _) h1;have h2:=anR [Value.int .i64 (i:Int)] (bI (o.take at')) [Value.int .i64 (x:Int)] (bI (o.drop at')++sp) _ (T:=3) (by have:=r2.at (apX ..);rw[ap0]at this;exact this) rfl;rw[l1]at h2;have r3:=r2.write (anQ [Value.int .i64 (i:Int)] at' _) h2;rw[apZ,apZ];exact⟨_,[(r,.cells (bI (o.take at')++([Value.int .i64 (i:Int)]++(bI (o.drop at')++sp))).toArray 3)],rfl,Or.inr ⟨r,sp,by rw[e4];simp;omega,by rw[e5];simp,by rw[e4];simp at hm|-;omega⟩,r3⟩
end
end Go.Proofs.YtebdolonckjpiaaGreatDoor
namespace Go.Proofs.YtebdolonckjpiaaGreatDoor
open List renaming mem_cons_self->ap4,mem_cons_of_mem->ap5,mem_singleton->ap6,mem_cons->ap7,cons_append->ap8,mem_append->ap9,flatten_cons->aqA,reverse_cons->aqB,append_assoc->aqC,getLast?_cons_cons->aqD,mem_reverse->aqE,length_cons->aqF,nil_append->aqG,append_nil->aqH
variable{v:Nat->Int}
def anU(v:Nat->Int)(i:Nat):List Nat->List Nat
 |[]=>[i]
 |x::xs=>if v i<v x/\∀y∈xs,v i<v y then i::x::xs else x::anU v i xs
def rkIns(v:Nat->Int)(i:Nat):List (List Nat)->List (List Nat)
 |[]=>[[i]]
 |[]::gs=>rkIns v i gs
 |(x::g)::gs=>if v i<v x then[i]::(x::g)::gs else if v i=v x then(x::g++[i])::gs else(x::g)::rkIns v i gs
def RkGood(v:Nat->Int):List (List Nat)->Prop
 |[]=>True
 |g::gs=>g≠[]/\(∀x∈g,∀y∈g,v x=v y)/\(∀x∈g,∀h∈gs,∀y∈h,v x<v y)/\RkGood v gs
theorem an7{v:Nat->Int}{i:Nat}:∀{gs:List (List Nat)} {h:List Nat} {y:Nat},h∈rkIns v i gs->y∈h->y=i\/∃h'∈gs,y∈h'
 |[],h,y,h1,h2=>by
  simp only[rkIns,ap6]at h1;subst h1;exact Or.inl (ap6.1 h2)
 |[]::gs,h,y,h1,h2=>by
  rw[rkIns]at h1;rcases an7 h1 h2 with e|⟨h',a,b⟩
  . exact Or.inl e
  . exact Or.inr ⟨h',ap5 _ a,b⟩
 |(x::g)::gs,h,y,h1,h2=>by
  rw[rkIns]at h1
  split at h1
  . rcases ap7.1 h1 with rfl|h1
    . exact Or.inl (ap6.1 h2)
    . exact Or.inr ⟨h,h1,h2⟩
  . split at h1
    . rcases ap7.1 h1 with rfl|h1
      . rcases ap9.1 h2 with h2|h2
        . exact Or.inr ⟨_,ap4 ..,h2⟩
        . exact Or.inl (ap6.1 h2)
      . exact Or.inr ⟨h,ap5 _ h1,h2⟩
    . rcases ap7.1 h1 with rfl|h1
      . exact Or.inr ⟨_,ap4 ..,h2⟩
      . rcases an7 h1 h2 with e|⟨h',a,b⟩
        . exact Or.inl e
        . exact Or.inr ⟨h',ap5 _ a,b⟩
theorem RkGood.rkIns {v:Nat->Int}{i:Nat}:∀{gs:List (List Nat)},RkGood v gs->RkGood v (rkIns v i gs)
 |[],_=>⟨by simp,by simp,by simp,trivial⟩
 |[]::gs,h=>absurd rfl h.1
 |(x::g)::gs,⟨h1,h2,h3,h4⟩=>by
  rw[YtebdolonckjpiaaGreatDoor.rkIns];have hx:∀y∈x::g,v y=v x:=fun y hy=>h2 y hy x (ap4 ..)
  split
  . rename_i hl
    refine⟨by simp,by simp,fun a ha b hb y hy=> ?_,h1,h2,h3,h4⟩;rw[ap6.1 ha];rcases ap7.1 hb with rfl|hb
    . rw[hx y hy];exact hl
    . exact Int.lt_trans hl (h3 x (ap4 ..) b hb y hy)
  . split
    . rename_i hl he
      refine⟨by simp,fun a ha b hb=> ?_,fun a ha b hb y hy=> ?_,h4⟩
      . have e:∀c∈x::g++[i],v c=v x:=fun c hc=>by
         rcases ap9.1 hc with hc|hc
         . exact hx c hc
         . rw[ap6.1 hc];exact he
        rw[e a ha,e b hb]
      . have e:v a=v x:=by
         rcases ap9.1 ha with hc|hc
         . exact hx a hc
         . rw[ap6.1 hc];exact he
        rw[e];exact h3 x (ap4 ..) b hb y hy
    . rename_i hl he
      refine⟨h1,h2,fun a ha b hb y hy=> ?_,RkGood.rkIns h4⟩;rcases an7 hb hy with rfl|⟨h',c,d⟩
      . rw[hx a ha];omega
      . exact h3 a ha h' c y d
theorem aoD{v:Nat->Int}{i:Nat}{x:Nat}{g:List Nat}:∀{gs:List (List Nat)},(∀h∈gs,h≠[])->(∀h∈gs,∀y∈h,v y<v x)->
 rkIns v i (gs++[x::g])=if v x<=v i then gs++rkIns v i [x::g]else rkIns v i gs++[x::g]
 |[],_,_=>by
  simp only[aqG]
  split
  . rfl
  . rename_i h
    simp only[rkIns,if_pos (show v i<v x by omega)];rfl
 |[]::gs,h,_=>absurd rfl (h [] (ap4 ..))
 |(y::t)::gs,h1,h2=>by
  have hy:=h2 _ (ap4 ..) y (ap4 ..);have ih:=aoD (v:=v) (i:=i) (x:=x) (g:=g) (gs:=gs) (fun h hh=>h1 h (ap5 _ hh)) (fun h hh=>h2 h (ap5 _ hh));rw[ap8,YtebdolonckjpiaaGreatDoor.rkIns];by_cases hx:v x<=v i
  . rw[if_pos hx]at ih|-
    rw[if_neg (show¬v i<v y by omega),if_neg (show¬v i=v y by omega),ih];rfl
  . rw[if_neg hx]at ih|-
    rw[YtebdolonckjpiaaGreatDoor.rkIns];by_cases a:v i<v y
    . rw[if_pos a,if_pos a];rfl
    . rw[if_neg a,if_neg a]
      by_cases b:v i=v y
      . rw[if_pos b,if_pos b];rfl
      . rw[if_neg b,if_neg b,ih];rfl
theorem RkGood.ne :∀{gs:List (List Nat)},RkGood v gs->∀h∈gs,h≠[]
 |[],_,_,hh=>by cases hh
 |g::gs,⟨h1,_,_,h4⟩,h,hh=>by
  rcases ap7.1 hh with rfl|hh
  . exact h1
  . exact h4.ne h hh
theorem aoM{v:Nat->Int}{i:Nat}:∀{gs:List (List Nat)},RkGood v gs->rkIns (fun j=>-v j) i gs.reverse=(rkIns v i gs).reverse
 |[],_=>rfl
 |[]::gs,h=>absurd rfl h.1
 |(x::t)::gs,⟨_,_,h3,h4⟩=>by
  have ih:=aoM (i:=i) h4;have e0:rkIns v i ((x::t)::gs)=if v i<v x then[i]::(x::t)::gs else if v i=v x then(x::t++[i])::gs else(x::t)::rkIns v i gs:=by rw[YtebdolonckjpiaaGreatDoor.rkIns]
  have e1:rkIns (fun j=>-v j) i [x::t]=if-v i< -v x then[[i],x::t]else if-v i=-v x then[x::t++[i]]else[x::t,[i]]:=by rw[YtebdolonckjpiaaGreatDoor.rkIns];rfl
  have e2:=aoD (v:=fun j=>-v j) (i:=i) (x:=x) (g:=t) (gs:=gs.reverse) (fun h hh=>h4.ne h (aqE.1 hh)) (fun h hh y hy=>by
   have:=h3 x (ap4 ..) h (aqE.1 hh) y hy;show-v y< -v x;omega)
  rw[aqB,e2,e0,e1];by_cases a:v i<v x
  . rw[if_pos (show-v x<=-v i by omega),if_pos a,if_neg (show¬-v i< -v x by omega),if_neg (show¬-v i=-v x by omega)]
    simp
  . rw[if_neg a]
    by_cases b:v i=v x
    . rw[if_pos (show-v x<=-v i by omega),if_pos b,if_neg (show¬-v i< -v x by omega),if_pos (show-v i=-v x by omega),aqB]
    . rw[if_neg (show¬-v x<=-v i by omega),if_neg b,ih,aqB]
theorem aoE{v:Nat->Int}{i:Nat}:∀{t r:List Nat},(∀y∈t,v y<=v i)->anU v i (t++r)=t++anU v i r
 |[],_,_=>rfl
 |y::t,r,h=>by
  have:=h y (ap4 ..);rw[ap8,anU,if_neg (fun k=>by have:=k.1;omega),aoE (fun z hz=>h z (ap5 _ hz))];rfl
theorem an8{i:Nat}:∀{r:List Nat},(∀y∈r,v i<v y)->anU v i r=i::r
 |[],_=>rfl
 |y::r,h=>by rw[anU,if_pos ⟨h y (ap4 ..),fun z hz=>h z (ap5 _ hz)⟩]
theorem aoN{v:Nat->Int}{i:Nat}:∀{gs:List (List Nat)},RkGood v gs->anU v i gs.flatten=(rkIns v i gs).flatten
 |[],_=>rfl
 |[]::gs,h=>absurd rfl h.1
 |(x::t)::gs,⟨_,h2,h3,h4⟩=>by
  have hx:∀y∈x::t,v y=v x:=fun y hy=>h2 y hy x (ap4 ..);have hr:∀y∈gs.flatten,v x<v y:=fun y hy=>by
   obtain⟨h,a,b⟩:=List.mem_flatten.1 hy;exact h3 x (ap4 ..) h a y b
  rw[YtebdolonckjpiaaGreatDoor.rkIns,aqA];by_cases a:v i<v x
  . rw[if_pos a,an8 (fun y hy=>by
     rcases ap9.1 hy with hy|hy
     . rw[hx y hy];exact a
     . have:=hr y hy;omega)];rfl
  . rw[if_neg a,aoE (fun y hy=>by rw[hx y hy];omega)]
    by_cases b:v i=v x
    . rw[if_pos b,an8 (fun y hy=>by have:=hr y hy;omega),aqA,aqC];rfl
    . rw[if_neg b,aoN h4,aqA]
def anN(v:Nat->Int):Nat->List Nat
 |0=>[]
 |m+1=>anU v m (anN v m)
def anP(v:Nat->Int):Nat->List (List Nat)
 |0=>[]
 |m+1=>rkIns v m (anP v m)
theorem anS(v:Nat->Int):∀m,RkGood v (anP v m)
 |0=>trivial
 |m+1=>(anS v m).rkIns
theorem an2(v:Nat->Int):∀m,anN v m=(anP v m).flatten
 |0=>rfl
 |m+1=>by rw[anN,an2 v m,aoN (anS v m)];rfl
theorem aoO(v:Nat->Int):∀m,anP (fun j=>-v j) m=(anP v m).reverse
 |0=>rfl
 |m+1=>by rw[anP,aoO v m,aoM (anS v m)];rfl
def an1(v:Nat->Int)(gs:List (List Nat))(p:Option Nat)(i:Nat):List (List Nat):=
 match p with
 |none=>gs++[[i]]
 |some j=>if v i=v j then gs.dropLast++[(gs.getLast?.getD [])++[i]]else gs++[[i]]
def anY(v:Nat->Int):List (List Nat)->Option Nat->List Nat->List (List Nat)
 |gs,_,[]=>gs
 |gs,p,i::is=>anY v (an1 v gs p i) (some i) is
theorem aoF{v:Nat->Int}:∀{t r h:List Nat} {gs:List (List Nat)} {j:Nat},(∀y∈t,v y=v j)->∃j',v j'=v j/\anY v (gs++[h]) (some j) (t++r)=anY v (gs++[h++t]) (some j') r
 |[],r,h,gs,j,_=>⟨j,rfl,by rw[aqH];rfl⟩
 |y::t,r,h,gs,j,hy=>by
  have e:=hy y (ap4 ..);obtain⟨j',h1,h2⟩:=aoF (v:=v) (t:=t) (r:=r) (h:=h++[y]) (gs:=gs) (j:=y) (fun z hz=>by rw[hy z (ap5 _ hz),e]);refine⟨j',by rw[h1,e],?_⟩;rw[ap8,anY];simp only[an1,if_pos e,List.dropLast_concat,List.getLast?_concat,Option.getD_some];rw[h2,aqC];rfl
theorem aoG{v:Nat->Int}:∀{gs g0:List (List Nat)} {p:Option Nat},RkGood v gs->(∀j,p=some j->∀h∈gs,∀y∈h,v j<v y)->anY v g0 p gs.flatten=g0++gs
 |[],g0,p,_,_=>by rw[aqH];rfl
 |[]::gs,_,_,h,_=>absurd rfl h.1
 |(x::t)::gs,g0,p,⟨_,h2,h3,h4⟩,hp=>by
  have e:an1 v g0 p x=g0++[[x]]:=by
   cases p with
   |none=>rfl
   |some j=>
    have:=hp j rfl _ (ap4 ..) x (ap4 ..);simp only[an1];rw[if_neg (by omega)]
  obtain⟨j',h5,h6⟩:=aoF (v:=v) (t:=t) (r:=gs.flatten) (h:=[x]) (gs:=g0) (j:=x) (fun y hy=>h2 y (ap5 _ hy) x (ap4 ..));rw[aqA,ap8,anY,e,h6,aoG h4 (fun j hj h hh y hy=>by
   cases hj;rw[h5];exact h3 x (ap4 ..) h hh y hy),aqC];rfl
theorem ao4(v:Nat->Int)(m:Nat):anY v [] none (anN v m)=anP v m:=by
 rw[an2,aoG (anS v m) (fun _ h=>by cases h),aqG]
theorem aoW{v:Nat->Int}{i:Nat}:∀{p q:List Nat},(∀y∈q,v i<v y)->(∀z,p.getLast? =some z->¬v i<v z)->anU v i (p++q)=p++i::q
 |[],q,hq,_=>an8 hq
 |x::p,q,hq,hp=>by
  have ih:=aoW (p:=p) hq (fun z hz=>hp z (by
   cases p with
   |nil=>simp at hz
   |cons y p=>rw[aqD];exact hz))
  rw[ap8,anU,if_neg,ih]; · rfl
  rintro⟨h1,h2⟩
  cases p with
  |nil=>exact hp x rfl h1
  |cons y p=>
   obtain⟨z,hz⟩:∃z,(y::p).getLast? =some z:=by
    cases h:(y::p).getLast? with
    |none=>simp at h
    |some z=>exact⟨z,rfl⟩
   exact hp z (by rw[aqD];exact hz) (h2 z (ap9.2 (Or.inl (List.mem_of_getLast? hz))))
theorem aoP{v:Nat->Int}{i:Nat}:∀{l:List Nat},(anU v i l).length=l.length+1
 |[]=>rfl
 |x::l=>by
  rw[anU]
  split
  . rfl
  . rw[aqF,aoP,aqF]
theorem anO(v:Nat->Int):∀m,(anN v m).length=m
 |0=>rfl
 |m+1=>by rw[anN,aoP,anO v m]
theorem aoQ{v:Nat->Int}{i y:Nat}:∀{l:List Nat},y∈anU v i l->y=i\/y∈l
 |[],h=>Or.inl (ap6.1 h)
 |x::l,h=>by
  rw[anU]at h
  split at h
  . exact ap7.1 h
  . rcases ap7.1 h with rfl|h
    . exact Or.inr (ap4 ..)
    . rcases aoQ h with h|h
      . exact Or.inl h
      . exact Or.inr (ap5 _ h)
theorem an3(v:Nat->Int):∀m,∀y∈anN v m,y<m
 |0,y,h=>by cases h
 |m+1,y,h=>by
  rcases aoQ h with rfl|h
  . exact Nat.lt_succ_self _
  . exact Nat.lt_succ_of_lt (an3 v m y h)
end Go.Proofs.YtebdolonckjpiaaGreatDoor
namespace Go.Proofs.YtebdolonckjpiaaGreatDoor
open Go.RowKit Go.Maps
open Go.IntWalk renaming i64_in->aqU
open Go.Value renaming oneCell'->aqY
open Go.Value.slice renaming injEq->aqT
open List renaming getElem?_eq_getElem->aqI,length_singleton->aqJ,mem_cons_self->aqK,length_append->aqL,append_assoc->aqM,mem_append->aqN,mem_cons_of_mem->aqO,sublist_append_right->aqQ,sublist_cons_self->aqR,mem_of_getElem?->aqS,nodup_cons->aqV,perm_append_comm_assoc->aqW,drop_eq_getElem_cons->aqX,map_cons->aqZ,drop_eq_nil_of_le->aq0,getLast?_concat->aq2,mem_singleton->aq3,length_cons->aq7,mem_map->aq9
open Nat renaming zero_le->aqP,lt_or_ge->aq5,succ_mul->aq6,le_refl->aq8
open Option.some renaming inj->aq1,injEq->aq4
variable{j q r x:Nat}{u:Value}
def numL(g:Nat):List Nat->List Value
 |[]=>[]
 |k::ks=>.pointer (some ⟨g,0,none⟩)::.int .i64 (k:Int)::numL g ks
theorem an4{g k:Nat}:∀{ids:List Nat} {sp:List Value} {j:Nat},ids[j]? =some k->(numL g ids++sp)[j*2]? =some (.pointer (some ⟨g,0,none⟩))/\(numL g ids++sp)[j*2+1]? =some (.int .i64 (k:Int))
 |[],_,_,h=>by simp at h
 |x::ids,sp,0,h=>by
  obtain rfl:x=k:=by simpa using h
  exact⟨rfl,rfl⟩
 |x::ids,sp,j+1,h=>by
  have:=an4 (g:=g) (sp:=sp) (show ids[j]? =some k by simpa using h);rw[show(j+1)*2=j*2+1+1 by omega];exact this
def RowN(g:Nat)(v:Value)(ids:List Nat)(lr:List (Nat×Obj)):Prop:=
 (ids=[]/\v=.slice none 0 0/\lr=[])\/∃(b c:Nat) (sp:List Value),v=.slice (some ⟨b,0,none⟩) ids.length c/\lr=[(b,.cells (numL g ids++sp).toArray 27)]
section
variable{s:Bs}{g N b c m k:Nat}{K:List (Ex×Nat)}{l lr:List (Nat×Obj)}{W:World}{v:Value}{ids:List Nat}{sp:List Value}
theorem apN(hR:Run s g N K ([(b,.cells (numL g ids++sp).toArray 27)]++l) W)(h:ids[m]? =some k):W.cell? ⟨b,m*2,none⟩=some (.pointer (some ⟨g,0,none⟩))/\W.cell? ⟨b,m*2+1,none⟩=some (.int .i64 (k:Int)):=by
 have h0:=hR.at (aqK ..);exact⟨oQ h0 (an4 h).1,oQ h0 (an4 h).2⟩
theorem ao5(hR:Run s g N K (lr++l) W)(hv:RowN g v ids lr)(hl:ids.length<=100)(hq:∀k∈ids,∃x q,(x,k)∈K/\gY PT x q):
 Calls Tryz.prog 119 #[v] W (fun e W'=>e=.returned .nilIface/\Run s g N K (lr++l) W'):=by
 rcases hv with ⟨rfl,rfl,rfl⟩|⟨b,c,sp,rfl,rfl⟩
 . have HR:=hdd hR
   clear hR hl hq;go_enter Tryz.func119,Tryz.ntmps119
   go_wp2_with fail
   refine wp_loop_rounds 1 ?_;rw[rounds_succ];go_wp2;go_ret;exact⟨rfl,HR.out⟩
 . have HR:=hdd hR;have HQ:=hdd hq
   have hlI:(ids.length:Int)<=100:=by omega
   clear hR hq;go_enter Tryz.func119,Tryz.ntmps119
   go_wp2_with fail
   go_loopw [9] (fun i wr=>∃m:Nat,m<=ids.length/\i=.int .i64 (m:Int)/\Hid (Run s g N K ([(b,.cells (numL g ids++sp).toArray 27)]++l) wr)) (fun i _=>((ids.length:Int)-intOf i).toNat)
   case atStart=>exact⟨0,aqP _,rfl,HR⟩
   case round=>
    obtain⟨m,hm,rfl,HF⟩:=hrel;rcases aq5 m ids.length with hlt|hge
    . obtain⟨x,hx⟩:∃x,ids[m]? =some x:=⟨_,aqI hlt⟩
      obtain⟨e,q,he,hS⟩:=HQ.out x (aqS hx);obtain⟨x0,x1⟩:=apN HF.out hx;have hkI:(m:Int)<(ids.length:Int):=by omega
      have hk0:(0:Int)<=(m:Int):=by omega
      have HLT:=hdd hlt;have HC:=hdd (Run.sign (HF.out.alloc (.cells #[.pointer (some ⟨g,0,none⟩),.int .i64 (x:Int)] 27)) he hS);clear hx he hS HF hlt;go_wp2_with fail
      refine HC.out.mono ?_;rintro e2 w2⟨rfl,hR2⟩;have HR2:=hdd (hR2.sub (fun p hp=>aqO _ hp) (aqV.1 (by have:=hR2.nodup;rwa[aqZ]at this)).2);clear hR2 HC x0 x1;go_wp2_with fail
      go_roundw
      case rel=>exact⟨m+1,by have:=HLT.out;omega,by go_num,HR2⟩
      case measure=>have:=HLT.out;simp[intOf];omega
    . have hme:m=ids.length:=by omega
      subst hme;clear hm hge;go_wp2;go_ret;exact⟨rfl,HF.out⟩
end
def aoH(K:List (Ex×Nat))(κ:Nat->Int)(ids:List Nat):Prop:=
 (∀k∈ids,∃x q,(x,k)∈K/\gY PT x q)/\∀i j ki kj,ids[i]? =some ki->ids[j]? =some kj->∃x y,(x,ki)∈K/\(y,kj)∈K/\gY PT (.sub x y) (κ i-κ j).sign
theorem RowI.slice {v:Value}{o:List Nat}{lr:List (Nat×Obj)}(h:RowI v o lr):∃p c,v=.slice p o.length c:=by
 rcases h with ⟨rfl,rfl,-⟩|⟨r,sp,rfl,-,-⟩
 . exact⟨none,0,rfl⟩
 . exact⟨_,_,rfl⟩
theorem RowI.at {s:Bs}{g N:Nat}{K:List (Ex×Nat)}{l lr:List (Nat×Obj)}{W:World}{p:Option Addr}{n c:Nat}{o:List Nat}(h:RowI (.slice p n c) o lr)(hR:Run s g N K (lr++l) W)(hx:o[j]? =some x):∃r,p=some ⟨r,0,none⟩/\W.cell? ⟨r,j,none⟩=some (.int .i64 (x:Int)):=by
 rcases h with ⟨rfl,-,-⟩|⟨r,sp,e,rfl,-⟩
 . simp at hx
 . simp only[aqT]at e
   refine⟨r,e.1,oQ (hR.at (aqK ..)) ?_⟩;have hj:j<(bI o).length:=by rw[lG];exact(List.getElem?_eq_some_iff.1 hx).1
   rw[List.getElem?_append_left hj];simp[bI,hx]
theorem RowI.cell {s:Bs}{g N:Nat}{K:List (Ex×Nat)}{l lr:List (Nat×Obj)}{W:World}{n c:Nat}{o:List Nat}(h:RowI (.slice (some ⟨r,0,none⟩) n c) o lr)(hR:Run s g N K (lr++l) W)(hx:o[j]? =some x):W.cell? ⟨r,j,none⟩=some (.int .i64 (x:Int)):=by
 obtain⟨r',e,hc⟩:=h.at hR hx;obtain rfl:r=r':=by simpa using e
 exact hc
theorem apC{a b k:Int}(h:-1000000000000<a-b/\a-b<1000000000000)(e:k=a-b)(w:World):(binOp .sub 3 (.int .i64 a) (.int .i64 b)).run Tryz.prog w=.ok (.int .i64 k) w:=by
 have h1:=aqU (a-b) (by omega);rw[e];simp[go_sem,h1]
section
variable{s:Bs}{g N:Nat}{K:List (Ex×Nat)}{l lr:List (Nat×Obj)}{W:World}{v:Value}{ids:List Nat}{κ:Nat->Int}
theorem row_in{b m k:Nat}{L:List (Nat×Obj)}{sp:List Value}(hR:Run s g N K L W)(hm:(b,.cells (numL g ids++sp).toArray 27)∈L)(h:ids[m]? =some k):W.cell? ⟨b,m*2,none⟩=some (.pointer (some ⟨g,0,none⟩))/\W.cell? ⟨b,m*2+1,none⟩=some (.int .i64 (k:Int)):=by
 have h0:=hR.at hm;exact⟨oQ h0 (an4 h).1,oQ h0 (an4 h).2⟩
theorem aoX{M m w1 at':Nat}{a:Obj}{lm L:List (Nat×Obj)}(hR:Run s g M K ((w1,a)::(lm++L)) W)(hv:RowI v (anN κ m) lm)(hat:at'<=m)(h1:∀y∈(anN κ m).drop at',κ m<κ y)(h2:∀z,((anN κ m).take at').getLast? =some z->¬κ m<κ z)(hm:m<1000):
 Calls Tryz.prog 120 #[v,.int .i64 (at':Int),.slice (some ⟨W.heap.size,0,none⟩) 1 1] (W.alloc (.cells #[.int .i64 (m:Int)] 3)) (InsR s g M K L (anN κ (m+1))):=by
 have e:anN κ (m+1)=(anN κ m).take at'++m::(anN κ m).drop at':=by
  rw[anN,<-aoW h1 h2,List.take_append_drop]
 rw[e];have hnd:=hR.nodup;rw[aqZ]at hnd;exact aoZ ((hR.sub (fun p hp=>aqO _ hp) (aqV.1 hnd).2).alloc _) hv (by rw[anO];exact hat) (by rw[anO];exact hm)
def OrdR(s:Bs)(g N:Nat)(K:List (Ex×Nat))(l:List (Nat×Obj))(κ:Nat->Int)(n:Nat)(e:Ending)(W':World):Prop:=∃v' lr',e=.returned (.tuple #[v',.nilIface])/\RowI v' (anN κ n) lr'/\Run s g (N+n*n) K (lr'++l) W'
theorem ao6(hR:Run s g N K (lr++l) W)(hv:RowN g v ids lr)(hl:ids.length<=100)(hN:N+ids.length*ids.length<=20000)(hq:aoH K κ ids):
 Calls Tryz.prog 68 #[v] W (OrdR s g N K (lr++l) κ ids.length):=by
 have HS:=hdd (ao5 hR hv hl hq.1);rcases hv with ⟨rfl,rfl,rfl⟩|⟨b,c,sp,rfl,rfl⟩
 . clear hR hl hq hN
   go_enter Tryz.func68,Tryz.ntmps68
   go_wp2_with fail
   refine HS.out.mono ?_;rintro e w2⟨rfl,hR2⟩;have HR:=hdd hR2;clear hR2 HS;go_wp2_with fail
   refine wp_loop_rounds 1 ?_;rw[rounds_succ];go_wp2
   go_ret2
   exact⟨_,[],rfl,Or.inl ⟨rfl,rfl,rfl⟩,HR.out⟩
 . have HQ:=hdd hq.2;have HN:=hdd hN
   have hlI:(ids.length:Int)<=100:=by omega
   clear hR hq hN;go_enter Tryz.func68,Tryz.ntmps68
   go_wp2_with fail
   refine HS.out.mono ?_;rintro e w2⟨rfl,hR2⟩;have HR:=hdd hR2;clear hR2 HS;go_wp2_with fail
   go_loopw [5,18] (fun v i wr=>∃(m:Nat) (lm:List (Nat×Obj)),m<=ids.length/\i=.int .i64 (m:Int)/\RowI v (anN κ m) lm/\Hid (Run s g (N+m*ids.length) K (lm++([(b,.cells (numL g ids++sp).toArray 27)]++l)) wr)) (fun _ i _=>((ids.length:Int)-intOf i).toNat)
   case atStart=>exact⟨0,[],aqP _,rfl,Or.inl ⟨rfl,rfl,rfl⟩,hdd (HR.out.more (by omega))⟩
   case round=>
    obtain⟨m,lm,hm,rfl,hrow,HF⟩:=hrel;rcases aq5 m ids.length with hlt|hge
    . obtain⟨x,hx⟩:∃x,ids[m]? =some x:=⟨_,aqI hlt⟩
      obtain⟨pa,ca,rfl⟩:=hrow.slice;have hRo:=hdd hrow;rw[anO]at hRo|-;obtain⟨x0,x1⟩:=row_in HF.out (aqN.2 (Or.inr (aqK ..))) hx;obtain⟨w5,hw5,hb5,hs5,b5⟩:=pro1 wr (.cells #[.pointer (some ⟨g,0,none⟩),.int .i64 (x:Int)] 27);have R5:Hid (Run s g (N+m*ids.length) K ((wr.heap.size,.cells #[.pointer (some ⟨g,0,none⟩),.int .i64 (x:Int)] 27)::(lm++([(b,.cells (numL g ids++sp).toArray 27)]++l))) w5):=hdd (hw5▸HF.out.alloc _);have hkI:(m:Int)<(ids.length:Int):=by omega
      have hk0:(0:Int)<=(m:Int):=by omega
      have HLT:=hdd hlt;have HX:=hdd hx;clear hrow HF hb5 hs5 b5 hlt hx;go_wp2_with fail
      generalize hq1:wr.heap.size=w1 at R5|-
      go_loopw [8] (fun a wr=>∃at':Nat,at'<=m/\a=.int .i64 (at':Int)/\Hid ((∀y∈(anN κ m).drop at',κ m<κ y)/\Run s g (N+m*ids.length+(m-at')) K ((w1,.cells #[.pointer (some ⟨g,0,none⟩),.int .i64 (x:Int)] 27)::(lm++([(b,.cells (numL g ids++sp).toArray 27)]++l))) wr)) (fun a _=>(intOf a).toNat)
      case atStart=>exact⟨m,aq8 _,rfl,hdd ⟨fun y hy=>(by rw[aq0 (by rw[anO];exact aq8 _)]at hy;cases hy),R5.out.more (by omega)⟩⟩
      case round=>
       obtain⟨at',ha,rfl,HI⟩:=hrel;have HHA:=hdd ha
       cases at' with
       |zero=>
        have HB:Hid (m*ids.length+ids.length=(m+1)*ids.length):=hdd (aq6 _ _).symm;have HI2:=hdd (aoX (at':=0) HI.out.2 hRo.out (aqP _) HI.out.1 (fun z hz=>by simp at hz) (by have:=HLT.out;omega));clear HI;go_wp2_with fail
        refine HI2.out.mono ?_;rintro e8 w8⟨v8,l8,rfl,hv8,hR8⟩;have HV8:=hdd hv8;have HR8:=hdd hR8;clear hv8 hR8 HI2;go_wp2_with fail
        go_roundw
        case rel=>exact⟨m+1,l8,by have:=HLT.out;omega,by go_num,HV8.out,hdd (HR8.out.more (by have h3:=HB.out;have h4:=HHA.out;have h5:=HLT.out;omega))⟩
        case measure=>have:=HLT.out;simp[intOf];omega
       |succ t=>
        obtain⟨y,hy⟩:∃y,(anN κ m)[t]? =some y:=⟨_,aqI (by rw[anO];omega)⟩;have hym:=an3 κ m y (aqS hy);obtain⟨ky,hky⟩:∃k,ids[y]? =some k:=⟨_,aqI (by have:=HLT.out;omega)⟩;obtain⟨e1,e2,he1,he2,hS⟩:=HQ.out m y x ky HX.out hky;have RD:=hdd HI.out.2.drew;obtain⟨r,rfl,c0⟩:=hRo.out.at (RD.out.sub (l':=lm++([(b,.cells (numL g ids++sp).toArray 27)]++l)) (fun p hp=>aqO _ hp) (aqV.1 (by have:=RD.out.nodup;rwa[aqZ]at this)).2) hy;obtain⟨d0,d1⟩:=row_in RD.out (aqO _ (aqN.2 (Or.inr (aqK ..)))) hky;have q0:=RD.out.at (aqK ..);have f0:=oQ (k:=0) (v:=.pointer (some ⟨g,0,none⟩)) q0 rfl;have f1:=oQ (k:=1) (v:=.int .i64 (x:Int)) q0 rfl;have hN2:=HN.out;have HC:=hdd (RD.out.cmp (by have:=HLT.out;have h3:m*ids.length+ids.length<=ids.length*ids.length:=(by rw[<-aq6];exact Nat.mul_le_mul_right _ (by omega));omega) he1 he2 hS);obtain⟨q,hqq⟩:∃q,(κ m-κ y).sign=q:=⟨_,rfl⟩
        rw[hqq]at HC;have HQQ:=hdd hqq;have HYM:=hdd hym;have HY:=hdd hy;have hyI:(y:Int)<(ids.length:Int):=by have:=HLT.out;omega
        have hy0:(0:Int)<=(y:Int):=by omega
        have htI:(t:Int)<(m:Int):=by omega
        have ht0:(0:Int)<=(t:Int):=by omega
        have HKY:=hdd hky;obtain⟨A,hA⟩:∃A,((t+1:Nat):Int)=A:=⟨_,rfl⟩;rw[hA];have hA1:(0:Int)<A:=by omega
        have hsb:=apC (a:=A) (b:=1) (k:=(t:Int)) (by have:=HLT.out;omega) (by omega);have hwr:IntKind.i64.wrap (A-1)=(t:Int):=by rw[aqU _ (by have:=HLT.out;omega)];omega
        have HA:=hdd hA;clear hA;clear he1 he2 hS q0 hky hN2 hqq hym hy;go_wp2_with fail
        go_region_held3 (fun w'=>w'.cell? ⟨r,t,none⟩=some (.int .i64 (y:Int))/\w'.cell? ⟨b,y*2,none⟩=some (.pointer (some ⟨g,0,none⟩))/\w'.cell? ⟨b,y*2+1,none⟩=some (.int .i64 (ky:Int))/\w'.cell? ⟨w1,0,none⟩=some (.pointer (some ⟨g,0,none⟩))/\w'.cell? ⟨w1,1,none⟩=some (.int .i64 (x:Int))) (go_keep)
         (first
         |(go_at_call 46
           with_reducible refine HC.out.mono ?_
           rintro e w6⟨rfl,hR6⟩;have R6:=hdd hR6;have c0:=hRo.out.cell (R6.out.sub (l':=lm++([(b,.cells (numL g ids++sp).toArray 27)]++l)) (fun p hp=>aqO _ hp) (aqV.1 (by have:=R6.out.nodup;rwa[aqZ]at this)).2) HY.out;obtain⟨d0,d1⟩:=row_in R6.out (aqO _ (aqN.2 (Or.inr (aqK ..)))) HKY.out;have q0:=R6.out.at (aqK ..);have f0:=oQ (k:=0) (v:=.pointer (some ⟨g,0,none⟩)) q0 rfl;have f1:=oQ (k:=1) (v:=.int .i64 (x:Int)) q0 rfl;clear q0;clear hR6))
        have HB:Hid (m*ids.length+ids.length=(m+1)*ids.length):=hdd (aq6 _ _).symm;by_cases hq:q<0
        . have h1:decide (0<=q)=false:=decide_eq_false (by omega)
          have h2:decide (q>=0)=false:=decide_eq_false (by omega);have HT:Hid ((∀z∈(anN κ m).drop t,κ m<κ z)/\Run s g (N+m*ids.length+(m-t)) K ((w1,.cells #[.pointer (some ⟨g,0,none⟩),.int .i64 (x:Int)] 27)::(lm++([(b,.cells (numL g ids++sp).toArray 27)]++l))) w6):=hdd ⟨fun z hz=>by
           have hk:κ m<κ y:=by
            have:=HQQ.out;rcases Int.lt_trichotomy (κ m-κ y) 0 with h|h|h
            . omega
            . rw[h]at this;simp at this;omega
            . rw[Int.sign_eq_one_of_pos h]at this;omega
           rw[aqX (by rw[anO];have:=htI;omega)]at hz;rcases List.mem_cons.1 hz with rfl|hz
           . have e3:=HY.out
             rw[aqI (by rw[anO];have:=htI;omega)]at e3;rw[aq1 e3];exact hk
           . exact HI.out.1 z hz,R6.out.more (by have:=htI;omega)⟩
          clear HI R6 RD c0 d0 d1 f0 f1 HC;go_wp2_with fail
          go_roundw
          case rel=>exact⟨t,by have:=htI;omega,rfl,HT⟩
          case measure=>have:=HA.out;simp[intOf];omega
        . have h1:decide (0<=q)=true:=decide_eq_true (by omega)
          have h2:decide (q>=0)=true:=decide_eq_true (by omega);have HI2:=hdd (aoX (at':=t+1) R6.out hRo.out HHA.out HI.out.1 (fun z hz=>by
           have e3:(anN κ m).take (t+1)=(anN κ m).take t++[y]:=by rw[List.take_add_one,HY.out];rfl
           rw[e3,aq2]at hz;obtain rfl:=aq1 hz;intro hk;have:=HQQ.out;rw[Int.sign_eq_neg_one_of_neg (by omega)]at this;omega) (by have:=HLT.out;omega))
          rw[HA.out]at HI2;clear HI R6 RD c0 d0 d1 f0 f1 HC;go_wp2_with fail
          refine HI2.out.mono ?_;rintro e8 w8⟨v8,l8,rfl,hv8,hR8⟩;have HV8:=hdd hv8;have HR8:=hdd hR8;clear hv8 hR8 HI2;go_wp2_with fail
          go_roundw
          case rel=>exact⟨m+1,l8,by have:=HLT.out;omega,by go_num,HV8.out,hdd (HR8.out.more (by have h3:=HB.out;have h4:=HHA.out;have h5:=HLT.out;omega))⟩
          case measure=>have:=HLT.out;simp[intOf];omega
    . have hme:m=ids.length:=by omega
      subst hme;obtain⟨pa,ca,rfl⟩:=hrow.slice;have HO:=hdd hrow;clear hm hge hrow;go_wp2
      go_ret2
      exact⟨_,lm,rfl,HO.out,HF.out⟩
end
section
variable{s:Bs}{g N:Nat}{K:List (Ex×Nat)}{l l':List (Nat×Obj)}{W W':World}{b bb nb:Nat}{o O O':Obj}
theorem Run.keeps (h:Run s g N K l W)(hb:Below W.heap.size W W')(lb:List (Nat×Obj))(ho:∀p∈lb,W'.heap[p.1]? =some p.2/\W.heap.size<=p.1)(hnd:(lb.map (·.1)).Nodup):Run s g N K (lb++l) W':=by
 obtain⟨ns',hs,hK⟩:=h;have h':=hs.below hb;refine⟨ns',⟨h'.grew,fun p hp=> ?_,h'.hw,?_⟩,hK⟩
 . rcases aqN.1 hp with hp|hp
   . obtain⟨q1,q2⟩:=ho p hp
     exact⟨q1,fun hd=>by have:=hs.grew.1.dag.dagB ((DagB.congr (hb.block g hs.grew.1.dag.glt)).1 hd);omega,Nat.le_trans hs.grew.2.2.size q2⟩
   . exact h'.kept p hp
 . rw[List.map_append,List.nodup_append]
   refine⟨hnd,h'.nodup,fun a ha b hb' e=> ?_⟩;obtain⟨p,hp,rfl⟩:=aq9.1 ha;obtain⟨q,hq,rfl⟩:=aq9.1 hb';have:=hs.lt hq;have:=(ho p hp).2;omega
end
section
variable{s:Bs}{g N n n' sz g0 cap:Nat}{K:List (Ex×Nat)}{L lr:List (Nat×Obj)}{W w':World}{v:Value}{xs xs':List Value}{T:TypeId}
theorem OwnR.cell {c:Nat}(h:OwnR T 1 (.slice (some ⟨r,0,none⟩) n c) n xs lr)(hR:Run s g N K (lr++L) W)(hu:xs[q]? =some u):W.cell? ⟨r,q,none⟩=some u/\∀k,W.frozen? ⟨r,k,none⟩=false:=by
 rcases h.2 with ⟨e,-⟩|⟨r',cap,cur,e,rfl,h1,h2,h3,h4⟩
 . simp at e
 . simp only[aqT,aq4,Addr.mk.injEq]at e
   obtain⟨⟨rfl,-⟩,-,rfl⟩:=e;have hr:=hR.at (aqK ..);refine⟨oQ (cs:=cur.toList) (by simpa using hr) ?_,frzI hr⟩;rw[<-h4,List.getElem?_take]at hu
   split at hu
   . exact hu
   . cases hu
theorem OwnR.set {c:Nat}(h:OwnR T 1 (.slice (some ⟨r,0,none⟩) n c) n xs lr)(hR:Run s g N K (lr++L) W):∃lr',OwnR T 1 (.slice (some ⟨r,0,none⟩) n c) n (xs.set q u) lr'/\Run s g N K (lr'++L) (W.setCell ⟨r,q,none⟩ u):=by
 rcases h.2 with ⟨e,-⟩|⟨r',cap,cur,e,rfl,h1,h2,h3,h4⟩
 . simp at e
 . simp only[aqT,aq4,Addr.mk.injEq]at e
   obtain⟨⟨rfl,-⟩,-,rfl⟩:=e;have hr:=hR.at (aqK ..);have hs:=amF (k:=q) (v:=u) (cs:=cur.toList) (by simpa using hr);refine⟨[(r,.cells (cur.toList.set q u).toArray T)],⟨by rw[List.length_set];exact h.1,Or.inr ⟨r,c,_,rfl,rfl,h1,h2,by simpa using h3,?_⟩⟩,Run.write hR (grownBy_set (adA W _) u) hs⟩;rw[<-h4,List.take_set]
end
def RowsG:List Value->List (List Nat)->List (Nat×Obj)->Prop
 |[],[],l=>l=[]
 |v::vs,o::gs,l=>∃l1 l2,l=l1++l2/\OwnR 3 1 v o.length (bI o) l1/\RowsG vs gs l2
 |_,_,_=>False
theorem RowsG.len:∀{vs:List Value} {gs:List (List Nat)} {l:List (Nat×Obj)},RowsG vs gs l->vs.length=gs.length
 |[],[],_,_=>rfl
 |_::vs,_::gs,_,⟨_,_,_,_,h⟩=>by rw[aq7,aq7,RowsG.len h]
 |[],_::_,_,h=>h.elim
 |_::_,[],_,h=>h.elim
theorem RowsG.snoc {v:Value}{o:List Nat}{l1:List (Nat×Obj)}(h1:OwnR 3 1 v o.length (bI o) l1):∀{vs:List Value} {gs:List (List Nat)} {l:List (Nat×Obj)},RowsG vs gs l->RowsG (vs++[v]) (gs++[o]) (l++l1)
 |[],[],_,h=>by
  subst h;exact⟨l1,[],by simp,h1,rfl⟩
 |_::vs,_::gs,_,⟨a,b,e,h2,h3⟩=>⟨a,b++l1,by rw[e,aqM],h2,RowsG.snoc h1 h3⟩
 |[],_::_,_,h=>h.elim
 |_::_,[],_,h=>h.elim
theorem RowsG.last {o:List Nat}:∀{vs:List Value} {gs:List (List Nat)} {l:List (Nat×Obj)},RowsG vs (gs++[o]) l->∃vs0 v l0 l1,vs=vs0++[v]/\l=l0++l1/\RowsG vs0 gs l0/\OwnR 3 1 v o.length (bI o) l1
 |[],[],_,h=>h.elim
 |[],_::_,_,h=>h.elim
 |v::[],[],_,⟨a,b,e,h2,h3⟩=>by
  obtain rfl:b=[]:=h3;exact⟨[],v,[],a,rfl,by rw[e];simp,rfl,h2⟩
 |_::_::_,[],_,⟨_,_,_,_,h3⟩=>h3.elim
 |v::vs,x::gs,_,⟨a,b,e,h2,h3⟩=>by
  obtain⟨vs0,w,l0,l1,rfl,rfl,h4,h5⟩:=RowsG.last (gs:=gs) h3;exact⟨v::vs0,w,a++l0,l1,rfl,by rw[e,aqM],⟨a,l0,rfl,h2,h4⟩,h5⟩
theorem ao2:Tryz.prog.underlying 33=some (.slice 22):=by kernel_rfl
theorem apH:(Tryz.prog.info? 22).map (fun i=>(i.zero,i.size,i.bytes))=some (some (.slice none 0 0),1,24):=by kernel_rfl
theorem rot3{α:Type}(a b c d:List α):(a++(b++(c++d))).Perm (c++(a++(b++d))):=
 (List.Perm.append_left a (aqW b c d)).trans (aqW a c (b++d))
section
variable{s:Bs}{g N:Nat}{K:List (Ex×Nat)}{l lr:List (Nat×Obj)}{W:World}{v:Value}{ids:List Nat}{κ:Nat->Int}
def GrpV(v:Value)(gs:List (List Nat))(lr:List (Nat×Obj)):Prop:=∃vs lo lg,OwnR 22 1 v gs.length vs lo/\RowsG vs gs lg/\lr=lo++lg
def GrpR(s:Bs)(g N:Nat)(K:List (Ex×Nat))(l:List (Nat×Obj))(κ:Nat->Int)(n:Nat)(e:Ending)(W':World):Prop:=∃v' lr',e=.returned (.tuple #[v',.nilIface])/\GrpV v' (anP κ n) lr'/\Run s g (N+n*n+n) K (lr'++l) W'
def anZ(o:List Nat)(k:Nat):Option Nat:=if k=0 then none else o[k-1]?
def CSt(s:Bs)(g N:Nat)(K:List (Ex×Nat))(L:List (Nat×Obj))(κ:Nat->Int)(n k i r cap M:Nat)(vs0:List Value)(pl:Option Addr)(gl:List Nat)(cl:Nat)(la lb lq:List (Nat×Obj))(gs0:List (List Nat))(W:World):Prop:=
 M=gs0.length+1/\OwnR 22 1 (.slice (some ⟨r,0,none⟩) M cap) M (vs0++[.slice pl gl.length cl]) lq/\RowsG vs0 gs0 la/\OwnR 3 1 (.slice pl gl.length cl) gl.length (bI gl) lb/\Run s g N K (lq++(la++(lb++L))) W/\
 anY κ (gs0++[gl++[i]]) (anZ (anN κ n) (k+1)) ((anN κ n).drop (k+1))=anP κ n/\gs0.length<=k/\(∀o∈gs0,o.length<=k)/\gl.length<=k
theorem aoI(hR:Run s g N K (lr++l) W)(hv:RowN g v ids lr)(hl:ids.length<=100)(hN:N+ids.length*ids.length+ids.length<=20000)(hq:aoH K κ ids):
 Calls Tryz.prog 22 #[v] W (GrpR s g N K (lr++l) κ ids.length):=by
 have HS:=hdd (ao6 hR hv hl (by omega) hq);have hrow:(∃b c sp,v=.slice (some ⟨b,0,none⟩) ids.length c/\lr=[(b,.cells (numL g ids++sp).toArray 27)])\/ids.length=0:=by
  rcases hv with ⟨rfl,-,-⟩|⟨b,c,sp,h1,h2⟩
  . exact Or.inr rfl
  . exact Or.inl ⟨b,c,sp,h1,h2⟩
 have HQ:=hdd hq.2;have HN:=hdd hN;have HROW:=hdd hrow;obtain⟨i0,hi0,hz0,hz1,hz2⟩:=info_parts lW;obtain⟨j0,hj0,hy0,hy1,hy2⟩:=info_parts apH;have HI0:=hdd hi0;have HZ0:=hdd hz0;have HZ1:=hdd hz1;have HZ2:=hdd hz2;have HJ0:=hdd hj0;have HY0:=hdd hy0;have HY1:=hdd hy1;have HY2:=hdd hy2;have hlI:(ids.length:Int)<=100:=by omega
 clear hR hN hv hq hrow hi0 hz0 hz1 hz2 hj0 hy0 hy1 hy2;go_enter Tryz.func22,Tryz.ntmps22
 go_wp2_with fail
 refine HS.out.mono ?_;rintro e w2⟨vo,lo,rfl,hvo,hR2⟩;have HVO:=hdd hvo;obtain⟨pa,ca,rfl⟩:=hvo.slice;rw[anO]at HVO|-;have HR:=hdd hR2;clear hR2 HS hvo;go_wp2_with fail
 go_loopw [6,23] (fun v i wr=>∃(k:Nat) (gs:List (List Nat)) (lg:List (Nat×Obj)),k<=ids.length/\i=.int .i64 (k:Int)/\GrpV v gs lg/\(gs.length<=k/\∀o∈gs,o.length<=k)/\anY κ gs (anZ (anN κ ids.length) k) ((anN κ ids.length).drop k)=anP κ ids.length/\(0<k->gs≠[])/\Hid (Run s g (N+ids.length*ids.length+k) K (lg++(lo++(lr++l))) wr)) (fun _ i _=>((ids.length:Int)-intOf i).toNat)
 case atStart=>exact⟨0,[],[],aqP _,rfl,⟨[],[],[],OwnR.nil _ _,rfl,rfl⟩,⟨aqP _,fun o h=>by cases h⟩,ao4 κ ids.length,fun h=>absurd h (by omega),HR⟩
 case round=>
  obtain⟨k,gs,lg,hk,rfl,hgv,hgl,hall,hne,HF⟩:=hrel;have HGL:=hdd hgl;clear hgl;rcases aq5 k ids.length with hlt|hge
  . obtain⟨i,hi⟩:∃i,(anN κ ids.length)[k]? =some i:=⟨_,aqI (by rw[anO];exact hlt)⟩
    have him:=an3 κ _ i (aqS hi);have hpos:0<ids.length:=by omega
    obtain⟨b,c,sp,rfl,rfl⟩:=HROW.out.resolve_right (by omega);have HD:Hid (anY κ (an1 κ gs (anZ (anN κ ids.length) k) i) (anZ (anN κ ids.length) (k+1)) ((anN κ ids.length).drop (k+1))=anP κ ids.length):=hdd (by
     have e:(anN κ ids.length).drop k=i::(anN κ ids.length).drop (k+1):=by
      rw[aqX (by rw[anO];exact hlt)];rw[aqI (by rw[anO];exact hlt)]at hi;rw[aq1 hi]
     rw[e,anY]at hall;have e2:anZ (anN κ ids.length) (k+1)=some i:=by unfold anZ;rw[if_neg (by omega)];exact hi
     rw[e2];exact hall)
    obtain⟨vs,l1,l2,h1,h2,rfl⟩:=hgv;obtain⟨pg,cg,rfl⟩:=h1.slice;have HO1:=hdd h1;have HG2:=hdd h2;obtain⟨ra,rfl,c0⟩:=HVO.out.at (HF.out.subl (l':=lo++([(b,.cells (numL g ids++sp).toArray 27)]++l)) (aqQ _ _)) hi;have hkI:(k:Int)<(ids.length:Int):=by omega
    have hk0:(0:Int)<=(k:Int):=by omega
    have HLT:=hdd hlt;have HIM:=hdd him;have HI:=hdd hi;have HNE:=hdd hne;clear hall h1 h2 hlt him hi hne
    cases k with
    |zero=>
     obtain⟨w5,hw5,hb5,hs5,b5⟩:=pro1 wr (.cells #[.slice none 0 0] 22);have R5:Hid (Run s g (N+ids.length*ids.length+0) K ((wr.heap.size,.cells #[.slice none 0 0] 22)::((l1++l2)++(lo++([(b,.cells (numL g ids++sp).toArray 27)]++l)))) w5):=hdd (hw5▸HF.out.alloc _);have R6:=hdd (R5.out.subl (l':=l1++(l2++(lo++([(b,.cells (numL g ids++sp).toArray 27)]++l)))) (by rw[<-aqM];exact aqR _ _));have HC5:=hdd (dU b5);have HOW:=hdd (HO1.out.own R6.out);clear hb5 hs5 b5
     go_upto_region 16 with (first
      |(at_builtin
        go_loud (
        refine wpList_append_lies _ rfl _ _ 33 rfl 0 22 j0 (.slice none 0 0) 1 24 ao2 HJ0.out HY0.out HY1.out HY2.out rfl (by decide) _ gs.length vs rfl HOW.out ⟨wr.heap.size,0,none⟩ 1 1 [.slice none 0 0] rfl rfl HC5.out (by simp[aqY]) (by decide) (by have:=HGL.out.1;unfold maxLen;omega) (by have:=HGL.out.1;omega) (aqP _) w5.heap.size rfl ?_;intro r cap w6 hown6 hgrow6 hat6 hlt6;have HA6:=hdd (And.intro hown6 (And.intro hgrow6 hat6));clear hown6 hgrow6 hat6 hlt6)))
     obtain⟨lq,ho6,hR6⟩:=HO1.out.grow R6.out HA6.out.1 HA6.out.2.1 HA6.out.2.2;have HC:Hid (CSt s g (N+ids.length*ids.length+(0+1)) K (lo++([(b,.cells (numL g ids++sp).toArray 27)]++l)) κ ids.length 0 i r cap (gs.length+1) vs none [] 0 l2 [] lq gs w6):=hdd ⟨rfl,ho6,HG2.out,OwnR.nil _ _,hR6.more (by omega),by
      have:=HD.out;rw[show an1 κ gs (anZ (anN κ ids.length) 0) i=gs++[[i]] from rfl]at this;exact this,HGL.out.1,HGL.out.2,aqP _⟩
     generalize gs.length+1=M at HC|-;clear ho6 hR6 HA6 HOW HC5 R5 R6 hw5 HG2 HO1 HF HD HGL HNE;obtain⟨gs0,gl,vs0,pl,cl,la,lb,HC⟩:∃gs0 gl vs0 pl cl la lb,Hid (CSt s g (N+ids.length*ids.length+(0+1)) K (lo++([(b,.cells (numL g ids++sp).toArray 27)]++l)) κ ids.length 0 i r cap M vs0 pl gl cl la lb lq gs0 w6):=⟨gs,[],vs,none,0,l2,[],HC⟩;generalize w6=Wc at HC|-;have hM1:=HC.out.1;have hgk:=HC.out.2.2.2.2.2.2.1;have hwm:IntKind.i64.wrap ((M:Int)-1)=(gs0.length:Int):=by rw[aqU _ (by have:=HLT.out;omega)];omega
     have hqM:(gs0.length:Int)<(M:Int):=by omega
     have hq0:(0:Int)<=(gs0.length:Int):=by omega
     have hvl:(vs0++[Value.slice pl gl.length cl])[gs0.length]? =some (.slice pl gl.length cl):=by rw[<-HC.out.2.2.1.len];simp
     obtain⟨c1,-⟩:=HC.out.2.1.cell HC.out.2.2.2.2.1 hvl;obtain⟨w7,hw7,hb7,hs7,b7⟩:=pro1 Wc (.cells #[.int .i64 (i:Int)] 3);have c2:=cbl c1 hb7;have R7:Hid (Run s g (N+ids.length*ids.length+(0+1)) K ((Wc.heap.size,.cells #[.int .i64 (i:Int)] 3)::(lq++(la++(lb++(lo++([(b,.cells (numL g ids++sp).toArray 27)]++l)))))) w7):=hdd (hw7▸HC.out.2.2.2.2.1.alloc _);have R8:=hdd (Run.perm (R7.out.subl (aqR _ _)) (rot3 lq la lb _).symm);have HC7:=hdd (dU b7);have HOL:=hdd (HC.out.2.2.2.1.own R8.out);have HVL:=hdd hvl;clear hb7 hs7 b7 hvl;have hgl2:=HC.out.2.2.2.2.2.2.2.2;have hkn:=HLT.out;go_wp2_with (first
      |(at_builtin
        go_loud (
        refine wpList_append_lies _ rfl _ _ 22 rfl 0 3 i0 (.int .i64 0) 1 8 gG HI0.out HZ0.out HZ1.out HZ2.out rfl (by decide) _ gl.length (bI gl) rfl HOL.out ⟨Wc.heap.size,0,none⟩ 1 1 [.int .i64 (i:Int)] rfl rfl HC7.out (by simp[aqY]) (by decide) (by unfold maxLen;omega) (by omega) (aqP _) w7.heap.size rfl ?_;intro r2 cap2 w8 hown8 hgrow8 hat8 hlt8;obtain⟨lb2,ho8,hR8⟩:=HC.out.2.2.2.1.grow R8.out hown8 hgrow8 hat8;have HO8:=hdd ho8;have R9:=hdd (Run.perm hR8 (rot3 lq la lb2 _));obtain⟨c3,z3⟩:=HC.out.2.1.cell R9.out HVL.out;clear hown8 hgrow8 hat8 hlt8 ho8 hR8)))
     obtain⟨lq2,hq1,hq2⟩:=HC.out.2.1.set (q:=gs0.length) (u:=.slice (some ⟨r2,0,none⟩) (gl.length+1) cap2) R9.out;have HQ1:=hdd hq1;have HQ2:=hdd hq2;clear hq1 hq2 c3 z3 R9 R8 R7 HOL HC7 c1 c2
     go_roundw
     case rel=>
      obtain⟨d1,-,d3,-,-,d6,d7,d8,d9⟩:=HC.out;refine⟨0+1,gs0++[gl++[i]],lq2++(la++lb2),by omega,by go_num,⟨(vs0++[Value.slice pl gl.length cl]).set gs0.length (.slice (some ⟨r2,0,none⟩) (gl.length+1) cap2),lq2,la++lb2,?_,?_,rfl⟩,⟨by rw[aqL,aqJ];omega,fun o ho=> ?_⟩,d6,fun _=>by simp,hdd (by rw[aqM,aqM];exact HQ2.out)⟩
      . rw[aqL,aqJ,<-d1];exact HQ1.out
      . have e:(vs0++[Value.slice pl gl.length cl]).set gs0.length (.slice (some ⟨r2,0,none⟩) (gl.length+1) cap2)=vs0++[.slice (some ⟨r2,0,none⟩) (gl.length+1) cap2]:=by rw[<-d3.len];simp
        rw[e];refine RowsG.snoc ?_ d3;have:=HO8.out;rw[aaI]at this;rw[aqL,aqJ];exact this
      . rcases aqN.1 ho with ho|ho
        . have:=d8 o ho;omega
        . rw[aq3.1 ho,aqL,aqJ];omega
     case measure=>simp[intOf];omega
    |succ t=>
     obtain⟨j,hj⟩:∃j,(anN κ ids.length)[t]? =some j:=⟨_,aqI (by rw[anO];have:=HLT.out;omega)⟩;have hjm:=an3 κ _ j (aqS hj);obtain⟨ki,hki⟩:∃k,ids[i]? =some k:=⟨_,aqI HIM.out⟩;obtain⟨kj,hkj⟩:∃k,ids[j]? =some k:=⟨_,aqI hjm⟩;obtain⟨e1,e2,he1,he2,hS⟩:=HQ.out i j ki kj hki hkj;obtain⟨q,hqq⟩:∃q,(κ i-κ j).sign=q:=⟨_,rfl⟩;rw[hqq]at hS;have RD:=hdd HF.out.drew;have hin:(b,.cells (numL g ids++sp).toArray 27)∈(l1++l2)++(lo++([(b,.cells (numL g ids++sp).toArray 27)]++l)):=aqN.2 (Or.inr (aqN.2 (Or.inr (aqK ..))));have b0:=HVO.out.cell (RD.out.subl (l':=lo++([(b,.cells (numL g ids++sp).toArray 27)]++l)) (aqQ _ _)) hj;obtain⟨d0,d1⟩:=row_in RD.out hin hki;obtain⟨f0,f1⟩:=row_in RD.out hin hkj;have HCM:=hdd (RD.out.cmp (by have:=HLT.out;have:=HN.out;omega) he1 he2 hS);have hiI:(i:Int)<(ids.length:Int):=by have:=HIM.out;omega
     have hi0:(0:Int)<=(i:Int):=by omega
     have hjI:(j:Int)<(ids.length:Int):=by omega
     have hj0:(0:Int)<=(j:Int):=by omega
     have htI:(t:Int)<(ids.length:Int):=by have:=HLT.out;omega
     have ht0:(0:Int)<=(t:Int):=by omega
     have HIN:=hdd hin;have HKI:=hdd hki;have HKJ:=hdd hkj;have HJ:=hdd hj;have HQQ:=hdd hqq;obtain⟨A,hA⟩:∃A,((t+1:Nat):Int)=A:=⟨_,rfl⟩;rw[hA];have hA1:(0:Int)<A:=by omega
     have hwr:IntKind.i64.wrap (A-1)=(t:Int):=by rw[aqU _ (by have:=HLT.out;omega)];omega
     have hAI:A<(ids.length:Int):=by omega
     have hA0:(0:Int)<=A:=by omega
     have hAt:A.toNat=t+1:=by omega
     have HA:=hdd hA;clear hA he1 he2 hS hin hki hkj hj hqq hjm hkI hk0
     go_upto_region 10 with fail
     go_region_held3 (fun w'=>w'.cell? ⟨ra,t,none⟩=some (.int .i64 (j:Int))/\w'.cell? ⟨b,i*2,none⟩=some (.pointer (some ⟨g,0,none⟩))/\w'.cell? ⟨b,i*2+1,none⟩=some (.int .i64 (ki:Int))/\w'.cell? ⟨b,j*2,none⟩=some (.pointer (some ⟨g,0,none⟩))/\w'.cell? ⟨b,j*2+1,none⟩=some (.int .i64 (kj:Int))) (go_keep)
      (first
      |(go_at_call 46
        with_reducible refine HCM.out.mono ?_
        rintro e wm⟨rfl,hR6⟩;have RM:=hdd hR6;have b0:=HVO.out.cell (RM.out.subl (l':=(lo++([(b,.cells (numL g ids++sp).toArray 27)]++l))) (aqQ _ _)) HJ.out;obtain⟨d0,d1⟩:=row_in RM.out HIN.out HKI.out;obtain⟨f0,f1⟩:=row_in RM.out HIN.out HKJ.out;clear hR6))
     clear b0 d0 d1 f0 f1 c0 RD HCM HIN HKI HKJ HF hAt;by_cases hq:q=0
     case' pos=>
      have h1:(q==0)=true:=beq_iff_eq.2 hq;obtain⟨gs0,gl,hgg⟩:∃gs0 gl,gs=gs0++[gl]:=by
       have h5:=HNE.out (by omega);exact⟨gs.dropLast,gs.getLast h5,(List.dropLast_concat_getLast h5).symm⟩
      obtain⟨vs0,vl,la,lb,e5,e6,h7,h8⟩:=RowsG.last (hgg▸HG2.out);obtain⟨pl,cl,rfl⟩:=h8.slice;obtain⟨r,rfl⟩:∃r,pg=some ⟨r,0,none⟩:=by
       rcases HO1.out.2 with ⟨-,h5,-⟩|⟨r,cap,cur,h5,-⟩
       . rw[hgg]at h5;simp at h5
       . simp only[aqT]at h5;exact⟨r,h5.1⟩
      have HC:Hid (CSt s g (N+ids.length*ids.length+(t+1+1)) K (lo++([(b,.cells (numL g ids++sp).toArray 27)]++l)) κ ids.length (t+1) i r cg gs.length vs0 pl gl cl la lb l1 gs0 wm):=hdd ⟨by rw[hgg,aqL,aqJ],e5▸HO1.out,h7,h8,by
       have:=RM.out;rw[e6,aqM,aqM]at this;exact this.more (by omega),by
       have:=HD.out;rw[show an1 κ gs (anZ (anN κ ids.length) (t+1)) i=gs0++[gl++[i]] by
        rw[show anZ (anN κ ids.length) (t+1)=some j from HJ.out,hgg];have h5:=HQQ.out;simp only[an1,List.dropLast_concat,aq2,Option.getD_some];rw[if_pos (by have:=Int.sign_eq_zero_iff_zero.1 (h5.trans hq);omega)]]at this
       exact this,by have:=HGL.out.1;rw[hgg,aqL,aqJ]at this;omega,fun o ho=>HGL.out.2 o (by rw[hgg];exact aqN.2 (Or.inl ho)),HGL.out.2 gl (by rw[hgg];simp)⟩
      clear e5 e6 h7 h8
      go_upto_region 16 with fail
      obtain⟨M,cap,lq,hM,hcap,HC⟩:∃M cap lq,gs.length=M/\cg=cap/\Hid (CSt s g (N+ids.length*ids.length+(t+1+1)) K (lo++([(b,.cells (numL g ids++sp).toArray 27)]++l)) κ ids.length (t+1) i r cap M vs0 pl gl cl la lb lq gs0 wm):=⟨_,_,l1,rfl,rfl,HC⟩;simp only[hM,hcap];clear hM hcap hgg;generalize wm=Wc at HC|-
     case' neg=>
      have h1:(q==0)=false:=beq_eq_false_iff_ne.2 hq;obtain⟨w5,hw5,hb5,hs5,b5⟩:=pro1 wm (.cells #[.slice none 0 0] 22);have R5:Hid (Run s g (N+ids.length*ids.length+(t+1)+1) K ((wm.heap.size,.cells #[.slice none 0 0] 22)::((l1++l2)++(lo++([(b,.cells (numL g ids++sp).toArray 27)]++l)))) w5):=hdd (hw5▸RM.out.alloc _);have R6:=hdd (R5.out.subl (l':=l1++(l2++(lo++([(b,.cells (numL g ids++sp).toArray 27)]++l)))) (by rw[<-aqM];exact aqR _ _));have HC5:=hdd (dU b5);have HOW:=hdd (HO1.out.own R6.out);clear hb5 hs5 b5
      go_upto_region 16 with (first
       |(at_builtin
         go_loud (
         refine wpList_append_lies _ rfl _ _ 33 rfl 0 22 j0 (.slice none 0 0) 1 24 ao2 HJ0.out HY0.out HY1.out HY2.out rfl (by decide) _ gs.length vs rfl HOW.out ⟨wm.heap.size,0,none⟩ 1 1 [.slice none 0 0] rfl rfl HC5.out (by simp[aqY]) (by decide) (by have:=HGL.out.1;unfold maxLen;omega) (by have:=HGL.out.1;omega) (aqP _) w5.heap.size rfl ?_;intro r cap w6 hown6 hgrow6 hat6 hlt6;have HA6:=hdd (And.intro hown6 (And.intro hgrow6 hat6));clear hown6 hgrow6 hat6 hlt6)))
      obtain⟨lq,ho6,hR6⟩:=HO1.out.grow R6.out HA6.out.1 HA6.out.2.1 HA6.out.2.2;have HC:Hid (CSt s g (N+ids.length*ids.length+(t+1+1)) K (lo++([(b,.cells (numL g ids++sp).toArray 27)]++l)) κ ids.length (t+1) i r cap (gs.length+1) vs none [] 0 l2 [] lq gs w6):=hdd ⟨rfl,ho6,HG2.out,OwnR.nil _ _,hR6.more (by omega),by
       have:=HD.out;rw[show an1 κ gs (anZ (anN κ ids.length) (t+1)) i=gs++[[i]] by
        rw[show anZ (anN κ ids.length) (t+1)=some j from HJ.out];have h5:=HQQ.out;simp only[an1];rw[if_neg (fun e=>hq (by rw[<-h5,e,Int.sub_self];rfl))]]at this
       exact this,HGL.out.1,HGL.out.2,aqP _⟩
      clear ho6 hR6 HA6 HOW HC5 R5 R6 hw5;obtain⟨M,gs0,gl,vs0,pl,cl,la,lb,hM,HC⟩:∃M gs0 gl vs0 pl cl la lb,gs.length+1=M/\Hid (CSt s g (N+ids.length*ids.length+(t+1+1)) K (lo++([(b,.cells (numL g ids++sp).toArray 27)]++l)) κ ids.length (t+1) i r cap M vs0 pl gl cl la lb lq gs0 w6):=⟨_,gs,[],vs,none,0,l2,[],rfl,HC⟩;simp only[hM];clear hM;generalize w6=Wc at HC|-
     all_goals (
      clear hq h1 HD HGL HNE HG2 HO1 HQQ HJ RM;have hM1:=HC.out.1;have hgk:=HC.out.2.2.2.2.2.2.1;have hwm:IntKind.i64.wrap ((M:Int)-1)=(gs0.length:Int):=by rw[aqU _ (by have:=HLT.out;omega)];omega
      have hqM:(gs0.length:Int)<(M:Int):=by omega
      have hq0:(0:Int)<=(gs0.length:Int):=by omega
      have hvl:(vs0++[Value.slice pl gl.length cl])[gs0.length]? =some (.slice pl gl.length cl):=by rw[<-HC.out.2.2.1.len];simp
      obtain⟨c1,-⟩:=HC.out.2.1.cell HC.out.2.2.2.2.1 hvl;obtain⟨w7,hw7,hb7,hs7,b7⟩:=pro1 Wc (.cells #[.int .i64 (i:Int)] 3);have c2:=cbl c1 hb7;have R7:Hid (Run s g (N+ids.length*ids.length+(t+1+1)) K ((Wc.heap.size,.cells #[.int .i64 (i:Int)] 3)::(lq++(la++(lb++(lo++([(b,.cells (numL g ids++sp).toArray 27)]++l)))))) w7):=hdd (hw7▸HC.out.2.2.2.2.1.alloc _);have R8:=hdd (Run.perm (R7.out.subl (aqR _ _)) (rot3 lq la lb _).symm);have HC7:=hdd (dU b7);have HOL:=hdd (HC.out.2.2.2.1.own R8.out);have HVL:=hdd hvl;clear hb7 hs7 b7 hvl;have hgl2:=HC.out.2.2.2.2.2.2.2.2;have hkn:=HLT.out;go_wp2_with (first
       |(at_builtin
         go_loud (
         refine wpList_append_lies _ rfl _ _ 22 rfl 0 3 i0 (.int .i64 0) 1 8 gG HI0.out HZ0.out HZ1.out HZ2.out rfl (by decide) _ gl.length (bI gl) rfl HOL.out ⟨Wc.heap.size,0,none⟩ 1 1 [.int .i64 (i:Int)] rfl rfl HC7.out (by simp[aqY]) (by decide) (by unfold maxLen;omega) (by omega) (aqP _) w7.heap.size rfl ?_;intro r2 cap2 w8 hown8 hgrow8 hat8 hlt8;obtain⟨lb2,ho8,hR8⟩:=HC.out.2.2.2.1.grow R8.out hown8 hgrow8 hat8;have HO8:=hdd ho8;have R9:=hdd (Run.perm hR8 (rot3 lq la lb2 _));obtain⟨c3,z3⟩:=HC.out.2.1.cell R9.out HVL.out;clear hown8 hgrow8 hat8 hlt8 ho8 hR8)))
      obtain⟨lq2,hq1,hq2⟩:=HC.out.2.1.set (q:=gs0.length) (u:=.slice (some ⟨r2,0,none⟩) (gl.length+1) cap2) R9.out;have HQ1:=hdd hq1;have HQ2:=hdd hq2;clear hq1 hq2 c3 z3 R9 R8 R7 HOL HC7 c1 c2
      go_roundw
      case rel=>
       obtain⟨d1,-,d3,-,-,d6,d7,d8,d9⟩:=HC.out;refine⟨t+1+1,gs0++[gl++[i]],lq2++(la++lb2),by omega,(by rw[<-HA.out];go_num),⟨(vs0++[Value.slice pl gl.length cl]).set gs0.length (.slice (some ⟨r2,0,none⟩) (gl.length+1) cap2),lq2,la++lb2,?_,?_,rfl⟩,⟨by rw[aqL,aqJ];omega,fun o ho=> ?_⟩,d6,fun _=>by simp,hdd (by rw[aqM,aqM];exact HQ2.out)⟩
       . rw[aqL,aqJ,<-d1];exact HQ1.out
       . have e:(vs0++[Value.slice pl gl.length cl]).set gs0.length (.slice (some ⟨r2,0,none⟩) (gl.length+1) cap2)=vs0++[.slice (some ⟨r2,0,none⟩) (gl.length+1) cap2]:=by rw[<-d3.len];simp
         rw[e];refine RowsG.snoc ?_ d3;have:=HO8.out;rw[aaI]at this;rw[aqL,aqJ];exact this
       . rcases aqN.1 ho with ho|ho
         . have:=d8 o ho;omega
         . rw[aq3.1 ho,aqL,aqJ];omega
      case measure=>have:=HA.out;simp[intOf];omega
      )
  . have hke:k=ids.length:=by omega
    subst hke;obtain⟨vs,l1,l2,h1,h2,h3⟩:=id hgv;obtain⟨pg,cg,rfl⟩:=h1.slice;have HGV:Hid (GrpV (.slice pg gs.length cg) (anP κ ids.length) lg):=hdd (by
     rw[aq0 (by rw[anO];exact aq8 _)]at hall;have hall:gs=anP κ ids.length:=hall;rw[<-hall];exact hgv)
    clear hgv hall hne h1 h2 h3 hk hge;go_wp2
    go_ret2
    exact⟨_,lg,rfl,HGV.out,HF.out.subl (List.Sublist.append (List.Sublist.refl _) (aqQ _ _))⟩
end
end Go.Proofs.YtebdolonckjpiaaGreatDoor
