/- A part of the proof: contracts of functions and plain laws (EX0). -/
import Derived.Test.YtjdgaogkioabeaaGreatDoorK12
import Derived.Test.YtjdgaogkioabeaaGreatDoorK14
import Derived.Test.YtjdgaogkioabeaaGreatDoorK15
import Derived.Test.YtjdgaogkioabeaaGreatDoorK16
import Derived.Test.YtjdgaogkioabeaaGreatDoorK18
import Derived.Test.YtjdgaogkioabeaaGreatDoorK27
import Derived.Test.YtjdgaogkioabeaaGreatDoorK30
import Derived.Test.YtjdgaogkioabeaaGreatDoorK33
set_option linter.unusedVariables false
set_option linter.unusedSimpArgs false
set_option maxHeartbeats 25600000
set_option maxRecDepth 100000
namespace Go.Proofs.YtjdgaogkioabeaaGreatDoor
section
open Go.ChangeShapes Go.WideShapes Go.ChangeAt Go.RowKit
open Go.DataW renaming trod->arG,trod_int->arH,Trod->arI
variable{e t:TypeId}
section
variable{H:Type}{enc:TypeId×Value->H}{P:Program}{w:World}{base:Nat}{spare:Nat->Bool}{held:Bool}
theorem aq5{fuel:Nat}{c0 c1:Value}{x:DataW H×List MemPlace}(ht:P.underlying t=some (.array 2 e))(hce:P.cellsOf e=1)
 (h:arG enc P w base spare held fuel t [c0,c1]=some x):
 ∃y0 y1 n,x=(.agg [y0.1,y1.1],y0.2++y1.2)/\arG enc P w base spare held n e [c0]=some y0/\arG enc P w base spare held n e [c1]=some y1:=by
 cases fuel with
 |zero=>simp[arG]at h
 |succ n=>
  unfold arG at h;rw[ht]at h;have r2:List.range 2=[0,1]:=rfl;simp[r2,hce]at h;obtain⟨_,h⟩:=h
  cases h0:arG enc P w base spare held n e [c0]with
  |none=>simp[h0]at h
  |some y0=>
   cases h1:arG enc P w base spare held n e [c1]with
   |none=>simp[h0,h1]at h
   |some y1=>
    simp[h0,h1]at h;exact⟨y0,y1,n,h.symm,h0,h1⟩
abbrev arC(k:IntKind)(a b:Int):DataW H:=.agg [.lit (.int k a),.lit (.int k b)]
theorem aqY{r:Reach}{b0:Nat}{k:IntKind}{v:Value}{d:DataW H}{ps:List MemPlace}(ht:P.underlying t=some (.array 2 e))(he:P.underlying e=some (.int k))(hct:P.cellsOf t=2)(hce:P.cellsOf e=1)
 (hval:Value.okWide P w r b0 t v) (hd:arI enc P w base spare held t v d ps):
 ∃a b,v=.agg #[.int k a,.int k b]/\d=arC k a b/\ps=[]/\(Lit.int k a).wf=true/\(Lit.int k b).wf=true:=by
 obtain⟨cs,rfl,hsz,-⟩:∃cs,v=.agg cs/\cs.size=P.cellsOf t/\Row.okWide P w r b0 t cs:=by
  simpa[Value.okWide,ht]using hval
 rw[hct]at hsz;obtain⟨l⟩:=cs
 match l,hsz with
 |[c0,c1],_=>
  obtain⟨fuel,hf⟩:=hd;obtain⟨y0,y1,m,hx,hy0,hy1⟩:=aq5 ht hce hf;obtain⟨x0,e0,rfl,w0⟩:=arH he hy0;obtain⟨x1,e1,rfl,w1⟩:=arH he hy1;simp at e0 e1;subst e0 e1;simp only[Prod.mk.injEq]at hx;exact⟨x0,x1,rfl,hx.1,by simpa using hx.2,w0,w1⟩
theorem aqZ{k:IntKind}{a b:Int}(ht:P.underlying t=some (.array 2 e))(he:P.underlying e=some (.int k))(hct:P.cellsOf t=2)(hce:P.cellsOf e=1)(wa:(Lit.int k a).wf=true)(wb:(Lit.int k b).wf=true):
 arI enc P w base spare held t (.agg #[.int k a,.int k b]) (arC k a b) []:=
 ⟨2,by simp[arG,Value.cells,ht,he,hct,hce,wa,wb,show List.range 2=[0,1] from rfl]⟩
end
theorem pair_cells:Tryz.prog.cellsOf 56=2:=by kernel_rfl
end
section
open Go.RowKit Go.Maps
variable{a b:Ex}{i j:Nat}
section
variable{P:Ex->Prop}{B N:Nat}{w w':World}{g:Nat}{ns ns':List Nd}
end
theorem aq9{P:Ex->Prop}{B N:Nat}{w:World}{g:Nat}{ns:List Nd}(hs:St P B N w g ns)(hN:N<20000)(ha:Is ns a i)(hb:Is ns b j)(hP:P (.div a b)):
 Calls Tryz.prog 92 #[.pointer (some ⟨g,0,none⟩),.int .i64 (i:Int),.int .i64 (j:Int)] w (RetE P B (N+1) w g ns idV (.div a b)):=by
 have HP:=hdd (rA (n:=⟨4,0,i,j⟩) hs.dag (ae7 (Or.inr (Or.inr (Or.inr rfl))) ha.lt hb.lt hs.dag.len) (by simp) (by have:=hs.room;omega));have HR:Hid (∀(w':World) (k:Nat) (ns':List Nd),DagP w' g ns'->ns'[k]? =some ⟨4,0,i,j⟩->(ns'=ns\/ns'=ns++[⟨4,0,i,j⟩])->DS g w w'->RetE P B (N+1) w g ns idV (.div a b) (.returned (.int .i64 (k:Int))) w'):=
  hdd fun w' k ns' h1 h2 h3 h4=>aj7 (mk:=idV) hs (Or.inr (Or.inr (Or.inr rfl))) ha hb hP h1 h2 h3 h4
 clear hs hN ha hb hP;dsimp only at HP;go_enter Tryz.func92,Tryz.ntmps92
 go_wp2_with fail
 refine HP.out.mono ?_;rintro e w2⟨k,ns',rfl,hd2,hi,hns,hs⟩;have HF:=hdd (HR.out _ _ _ hd2 hi hns hs);clear hd2 hi hns hs;go_wp2;go_ret;exact HF.out
theorem arA{P:Ex->Prop}{B N:Nat}{w:World}{g:Nat}{ns:List Nd}(hs:St P B N w g ns)(hN:N<20000)(ha:Is ns a i)(hb:Is ns b j)(hP:P (.div a b)):
 Calls Tryz.prog 74 #[numV g i,numV g j] w (RetE P B (N+1) w g ns (numV g) (.div a b)):=by
 obtain⟨w3,hw3,hb3,hs3,b1,b2,b3⟩:=pro3 w (.cells #[.pointer (some ⟨g,0,none⟩),.int .i64 (i:Int)] 34) (.cells #[.pointer (some ⟨g,0,none⟩),.int .i64 (j:Int)] 34) (.cells #[.pointer none,.int .i64 0] 34);obtain⟨w4,hw4,hb4,hs4,b4⟩:=pro1 w3 (.cells #[.pointer (some ⟨g,0,none⟩),.int .i64 (j:Int)] 34);have h34:=aB hb3 hb4;have HG:=hdd (vR (hs.dag.below h34) ha.lt (vS b4) (fun x hx=>by simp at hx;subst hx;exact hb.lt));have HOP:Hid (∀w',Below w.heap.size w w'->Calls Tryz.prog 92 #[.pointer (some ⟨g,0,none⟩),.int .i64 (i:Int),.int .i64 (j:Int)] w' (RetE P B (N+1) w' g ns idV (.div a b))):=hdd fun w' h=>aq9 (hs.below h) hN ha hb hP;have HAW:Hid (∀w' (c:Nat),Below w.heap.size w w'->w.heap.size<=c->¬DagB w' g c):=hdd fun w' c h=>hs.away h;have HGL:=hdd hs.dag.glt;have HBL:=hdd hs.hB;obtain⟨c0,c1,-,-⟩:=aC b1;obtain⟨d0,d1,-,-⟩:=aC b2;have HB4:=hdd h34;have B3:=hdd (hbl b3 hb4);have HSZ:Hid (w.heap.size+2<w4.heap.size):=hdd (by omega);have e0:=cbl c0 hb4;have e1:=cbl c1 hb4
 have e2:=cbl d0 hb4;have e3:=cbl d1 hb4;clear hs hN ha hb hP hb3 hb4 h34 b1 b2 b3 b4 hs3 hs4;go_enter Tryz.func74,Tryz.ntmps74
 go_wp2_with fail
 refine HG.out.mono ?_;rintro e w5⟨rfl,hb5⟩;have hb5d:Below w4.heap.size w4 w5.drew:=aB hb5 (Below.refl _ _).drew;replace e0:=cbl e0 hb5d;replace e1:=cbl e1 hb5d;replace e2:=cbl e2 hb5d;replace e3:=cbl e3 hb5d;have HB5:=hdd (aB HB4.out hb5d);have B5:=hdd (hbl B3.out hb5d);have HSZ5:Hid (w.heap.size+2<w5.drew.heap.size):=hdd (by have:=hb5d.size;have:=HSZ.out;omega);clear hb5 hb5d c0 c1 d0 d1 hw3 hw4;have n1:w.heap.size+1+1≠w.heap.size:=by omega
 have n2:w.heap.size≠w.heap.size+1+1:=by omega
 go_wp2_with fail
 go_region_held3 (fun w'=>w'.cell? ⟨w.heap.size,0,none⟩=some (.pointer (some ⟨g,0,none⟩))/\w'.cell? ⟨w.heap.size,1,none⟩=some (.int .i64 (i:Int))/\w'.cell? ⟨w.heap.size+1,1,none⟩=some (.int .i64 (j:Int))) (go_keep)
  (first
  |(go_at_call 92
    refine(HOP.out _ HB5.out).mono ?_;rintro e w6⟨k,ns',rfl,h1,h2,h3,h4⟩;have e0:=h4.cell e0 (HAW.out _ _ HB5.out (by simp));have e1:=h4.cell e1 (HAW.out _ _ HB5.out (by simp));have e3:=h4.cell e3 (HAW.out _ _ HB5.out (by simp));have B6:=(h4.heap (b:=w.heap.size+2) HSZ5.out (HAW.out _ _ HB5.out (by omega))).trans B5.out;obtain⟨r0,r1,f0,f1⟩:=aC B6;have HF:Hid (FoldSt P B (N+1) w g ns (.div a b) k ((w6.setCell ⟨w.heap.size+2,0,none⟩ (.pointer (some ⟨g,0,none⟩))).setCell ⟨w.heap.size+2,1,none⟩ (.int .i64 (k:Int)))):=
     hdd (FoldSt.set2 (w0:=w) ⟨ns',h1,h2,h3,h4⟩ (Or.inr trivial) HGL.out HB5.out (by omega) (HAW.out _ _ HB5.out (by omega)) HSZ5.out (by have:=HBL.out;omega) _ _)
    have HX:=hdd (set2 B6 (.pointer (some ⟨g,0,none⟩)) (.int .i64 (k:Int)));clear h1 h2 h3 h4 B6))
 go_wp2;obtain⟨x0,x1,-,-⟩:=aC HX.out;refine bodyPost_ret (v:=.agg #[_,_]) (by simp[results,Tryz.results74,go_sem,x0,x1];first|exact⟨rfl,rfl⟩|rfl) rfl ?_;exact HF.out.ret (numV g)
end
section
open Go.RowKit Go.Maps Go.Stop Go.Extern
theorem aq7{w:World}{k a b c k' a' b' c':_}(h1:∀w,Calls Tryz.prog 27 #[curV k a b c] w (RetV w .nilIface))(h2:∀w,Calls Tryz.prog 27 #[curV k' a' b' c'] w (RetV w .nilIface)):Calls Tryz.prog 55 #[curV k a b c,curV k' a' b' c'] w (RetV w .nilIface):=by
 obtain⟨w2,hw2,hb2,hs2,b1,b2⟩:=pro2 w (curO k a b c) (curO k' a' b' c');obtain⟨c0,c1,c2,c3⟩:=aD b1;obtain⟨d0,d1,d2,d3⟩:=aD b2;have HB:=hdd hb2;have H1:=hdd h1;have H2:=hdd h2;clear hb2 hs2 b1 b2 h1 h2;go_enter Tryz.func55,Tryz.ntmps55
 go_wp2_with fail
 refine(H1.out _).mono ?_;rintro e w3⟨rfl,hb⟩;have HB3:=hdd (HB.out.trans (hb.mono HB.out.size));replace d0:=cbl d0 hb;replace d1:=cbl d1 hb;replace d2:=cbl d2 hb;replace d3:=cbl d3 hb;clear hb c0 c1 c2 c3 hw2;go_wp2_with fail
 refine(H2.out _).mono ?_;rintro e w4⟨rfl,hb⟩;have HB4:=hdd (HB3.out.trans (hb.mono HB3.out.size));clear hb;go_wp2;go_ret;exact⟨rfl,HB4.out⟩
end
section
open Go.RowKit Go.Maps
section
variable{α:Type}{a:α}{l:List α}
end
section
variable{s:Bs}{w0 w1 W W':World}{g N M:Nat}{K:List (Ex×Nat)}{l l':List (Nat×Obj)}
end
section
variable{s:Bs}{W W':World}{g N M:Nat}{K:List (Ex×Nat)}{l:List (Nat×Obj)}{x y:Ex}{ns:List Nd}
end
section
variable{s:Bs}{W:World}{g N i j k m b v:Nat}{K:List (Ex×Nat)}{l:List (Nat×Obj)}{x y:Ex}{q:Int}
theorem Run.div2 (h:Run s g N K l W)(hN:N<20000)(hx:(x,i)∈K)(hy:(y,j)∈K):Calls Tryz.prog 74 #[numV g i,numV g j] W (RtR s g (N+1) K l (.div x y)):=by
 obtain⟨ns,hs,hK⟩:=h;exact(arA hs.st hN (hK _ hx) (hK _ hy) trivial).mono fun _ _ hr=>qD hs hK hr
variable{px py qx qy rx ry:Ex}{i' j' k':Nat}
end
section
variable{S:Spec Ex}{w0:Bs}{g c0:Nat}{a0:Act}{ν0:Nat->Nat}{i:Nat}{Q:Exit->Act->World->Prop}
variable(hM:c0+S.total<=20000){m n m' n' m2 n2 t t':Nat}{x y x' y' x2 y2:Ex}{q:Int}
include hM
section
variable(hx:(m,x)∈S.know)(hy:(n,y)∈S.know)(px:S.pre i m=true)(py:S.pre i n=true)
include hx px
include hy py
theorem arD(hc:S.cost i=1)(hv:S.val i=numS g t)(ht:S.cr t=some i)(hk:S.made i=[(t,.div x y)]):lV S w0 g c0 i 74 (fun ν=>#[numV g (ν m),numV g (ν n)]):=
 qE hM (d:=0) hc hv ht hk fun lst ν c w hD hl h=>h.div2 hl (qB hx (pre_on px hD)) (qB hy (pre_on py hD))
section
variable(hx':(m',x')∈S.know)(hy':(n',y')∈S.know)(px':S.pre i m'=true)(py':S.pre i n'=true)
include hx' hy' px' py'
end
end
end
end
section
open Rat renaming mul_nonneg->arJ,mul_pos->arK
variable{G:Int}
def Far(G:Int)(x:Rat):Prop:=p2 (-G)<=x\/x<=-p2 (-G)
theorem aqT{M:Int}{x y t:Rat}(hx:Am M x)(hy:Far G y)(e:t*y=x):Am (M+G) t:=by
 have hp:=bV (-G);have e1:p2 (M+G)*p2 (-G)=p2 M:=by rw[<-dD];congr 1;omega
 have hM:=bV (M+G);obtain⟨h1,h2⟩:=hx;have s1:0<=p2 (M+G):=by grind
 constructor
 . apply Classical.byContradiction;intro hc
   rcases hy with hy|hy
   . have a1:=arK (a:=-p2 (M+G)-t) (b:=p2 (-G)) (by grind) hp
     have a2:=arJ (a:=-t) (b:=y-p2 (-G)) (by grind) (by grind);grind
   . have a1:=arK (a:=-p2 (M+G)-t) (b:=p2 (-G)) (by grind) hp
     have a2:=arJ (a:=-t) (b:=-y-p2 (-G)) (by grind) (by grind);grind
 . apply Classical.byContradiction;intro hc
   rcases hy with hy|hy
   . have a1:=arK (a:=t-p2 (M+G)) (b:=p2 (-G)) (by grind) hp
     have a2:=arJ (a:=t) (b:=y-p2 (-G)) (by grind) (by grind);grind
   . have a1:=arK (a:=t-p2 (M+G)) (b:=p2 (-G)) (by grind) hp
     have a2:=arJ (a:=t) (b:=-y-p2 (-G)) (by grind) (by grind);grind
theorem arB{Ma Mb Wa Wb P W:Int}{a b r:Bl}(hP:1<=P)(h:Acc Ma Wa a)(k:Acc Mb Wb b)(ha:rv a.lo<=rv a.hi)(hb:rv b.lo<=rv b.hi)(f1:Far G (rv b.lo))(f2:Far G (rv b.hi))
 (w1:W<=Wa-G-2) (w2:W<=Wb-Ma-2*G-2) (w3:W<=P-Ma-G-3) (hr:quoB a b P=some r):Acc (Ma+G+1) W r:=by
 unfold quoB at hr
 split at hr
 . rename_i hs
   injection hr with hr;subst hr;have n1:b.lo.man≠0:=by rcases jR hs with g|g<;>omega
   have n2:b.hi.man≠0:=by rcases jR hs with g|g<;>omega
   have v1:rv b.lo≠0:=fun g=>n1 ((bE _).2.2.1 g);have v2:rv b.hi≠0:=fun g=>n2 ((bE _).2.2.1 g);obtain⟨t1,e1⟩:=uC (rv a.hi) (rv b.hi) v2;obtain⟨t2,e2⟩:=uC (rv a.hi) (rv b.lo) v1;obtain⟨t3,e3⟩:=uC (rv a.lo) (rv b.hi) v2;obtain⟨t4,e4⟩:=uC (rv a.lo) (rv b.lo) v1;have hl:=(nD (quoD a.hi b.hi P (-1)) (quoD a.hi b.lo P (-1)) (quoD a.lo b.hi P (-1)) (quoD a.lo b.lo P (-1))).2.2.2.2;have hh:=(nE (quoD a.hi b.hi P 1) (quoD a.hi b.lo P 1) (quoD a.lo b.hi P 1) (quoD a.lo b.lo P 1)).2.2.2.2;have A1:=aqT h.2.1 f2 e1;have A2:=aqT h.2.1 f1 e2;have A3:=aqT h.1 f2 e3;have A4:=aqT h.1 f1 e4
   -- each end is near one of the quotients
   have near:∀(m:Dy) (dir:Int),(m=quoD a.hi b.hi P dir\/m=quoD a.hi b.lo P dir\/m=quoD a.lo b.hi P dir\/m=quoD a.lo b.lo P dir)->∃t x y:Rat,(x=rv a.lo\/x=rv a.hi)/\(y=rv b.lo\/y=rv b.hi)/\t*y=x/\Am (Ma+G) t/\Err P (rv m) t:=by
    intro m dir hm;rcases hm with hm|hm|hm|hm<;>rw[hm]
    . exact⟨t1,_,_,Or.inr rfl,Or.inr rfl,e1,A1,(kG _ _ dir hP n2 e1).2.2⟩
    . exact⟨t2,_,_,Or.inr rfl,Or.inl rfl,e2,A2,(kG _ _ dir hP n1 e2).2.2⟩
    . exact⟨t3,_,_,Or.inl rfl,Or.inr rfl,e3,A3,(kG _ _ dir hP n2 e3).2.2⟩
    . exact⟨t4,_,_,Or.inl rfl,Or.inl rfl,e4,A4,(kG _ _ dir hP n1 e4).2.2⟩
   obtain⟨t,x,y,hx,hy,et,At,Et⟩:=near (kH a b P) (-1) hl;obtain⟨t',x',y',hx',hy',et',At',Et'⟩:=near (kI a b P) 1 hh;refine⟨Et.am hP At,Et'.am hP At',?_⟩;have b1:=(Et.bd At).2;have b2:=(Et'.bd At').1;show rv (kI a b P)-rv (kH a b P)<=p2 (-W);have wx:=wW h ha x' x hx' hx;have wy:=wW k hb y y' hy hy'
   -- (t' - t) * y' = x' - x + t * (y - y')
   have hy2:Far G y':=by rcases hy' with g|g<;>rw[g]<;>assumption
   have A5:=Am.mul At (N:=-Wb) (y:=y-y') wy;have hd:Am (max (-Wa) (Ma+G+-Wb)+1) (x'-x+t*(y-y')):=by
    refine Am.add (Am.mono (M:=-Wa) wx (by omega)) (A5.mono (by omega))
   have A6:=aqT hd hy2 (t:=t'-t) (by grind);have q1:=half (a:=max (-Wa) (Ma+G+-Wb)+1+G) (b:=-W) (by omega);have q3:=quarter (a:=Ma+G+1-P) (b:=-W) (by omega);have:=A6.2;grind
 . cases hr
end
section
open Re (rat)
section
variable{L:List Ex}{P:Int}{a b:Ex}{x y z:Re}{c d:Ct}
theorem Vl.far (hL:Lok L)(h:Vl L P a x c)(h0:x≠0):rat (p2 (-ctG L.length c+1))<=Re.ab x:=by
 refine Re.le_trans (Re.rat_le.2 (mF ?_)) (anN hL h.den h.roots h0);unfold ctG;have h1:max (uE a).1 (uE a).2<=max c.u c.l:=by have:=h.hu;have:=h.hl;omega
 have:=Nat.mul_le_mul_right (2^L.length) h1;omega
theorem Vl.div (hP:1<=P)(hL:Lok L)(h:Vl L P a x c)(k:Vl L P b y d)(h0:y≠0)(hz:z*y=x)(hW:ctG L.length d<=d.W):Vl L P (.div a b) z (ap7 P L.length c d):=by
 obtain⟨r,h1,h2,h3,h4⟩:=h.le hP;obtain⟨t,k1,k2,k3,k4⟩:=k.le hP;have:=h.hu;have:=h.hl;have:=h.hs;have:=k.hu;have:=k.hl;have:=k.hs;have hf:=apI k3 k2 (k.far hL h0) hW;obtain⟨q,hq⟩:=quo_some hf r P;refine⟨h.den.div k.den h0 hz,⟨h.fin,k.fin⟩,⟨h.roots,k.roots⟩,⟨q,by unfold gL;rw[h1,k1];exact hq,?_⟩,by simp only[uE,ap7];omega,by simp only[uE,ap7];omega,by simp only[bZ,ap7];omega⟩;refine arB (G:=ctG L.length d) hP h2 k2 h4 k4 ?_ ?_ (by simp only[ap7];omega) (by simp only[ap7];omega) (by simp only[ap7];omega) hq
 . rcases hf with g|g
   . exact Or.inl g.1
   . exact Or.inr g.1
 . rcases hf with g|g
   . exact Or.inl g.2
   . exact Or.inr g.2
theorem Lok.nil:Lok []:=⟨trivial,fun r hr=>by cases hr⟩
end
end
section
open Go.RowKit Go.Maps
open Re (rat ofI ofN)
theorem AllGd.div {a b:Ex}{K j:Nat}{v:Re}(h:AllGd a)(k:AllGd b)(hG:Gd K j b v):AllGd (.div a b):=
 ⟨fun x y s=>by cases s with|refl=>exact⟨_,_,_,hG⟩|divL s=>exact h.1 x y s|divR s=>exact k.1 x y s,fun x s=>by cases s with|divL s=>exact h.2 x s|divR s=>exact k.2 x s⟩
section
variable{L:List Ex}{a b:Ex}{x y z:Re}{k m n:Nat}
end
section
variable{L:List Ex}{b:Nat}{x:Int}
end
section
variable{L:List Ex}{s t:Sh}{a b:Ex}{x y z:Re}
theorem Fit.div (hL:Lok L)(h:Fit L s a x)(g:Fit L t b y)(h0:y≠0)(hz:z*y=x):Fit L (.div s t) (.div a b) z:=fun k=>by
 simp only[Sh.ok,Bool.and_eq_true]at k;have h:=h k.1;have g:=g k.2.1;exact⟨Vl.div (by omega) hL h.vl g.vl h0 hz (of_decide_eq_true k.2.2.2),by have:=h.cost;have:=g.cost;simp only[dE,Sh.cost];omega,h.gd.div g.gd (g.good k.2.2.1)⟩
end
section
variable{L:List Ex}{s t:Sh}{a b:Ex}{p q:Rat}
theorem Fit.rdiv (hL:Lok L)(h:Fit L s a (rat p))(g:Fit L t b (rat q))(h0:q≠0){z:Rat}(hz:z*q=p):Fit L (.div s t) (.div a b) (rat z):=
 Fit.div hL h g (fun e=>h0 (Re.rat_inj.1 (e.trans Re.zero_rat))) (by rw[<-Re.rat_mul,hz])
end
end
section
open Go.RowKit Go.Maps
open List renaming setIfInBounds_toArray->arL,set->arM
variable{r:Bool}{q:Int}{ca cb cc cd da db dc g:Nat}
theorem aqP(hca:FlOk ca)(hcb:FlOk cb)(hcc:FlOk cc)(hcd:FlOk cd):FnOk 71 g 7 #[.pointer (some ⟨g,0,none⟩),.float .f64 ca,.float .f64 cb,.float .f64 cc,.float .f64 cd] [] (fun ks=>numV g (ks.getD 0 0)) [kU ca cb cc cd]:=FnOk.of fun w B ns N hR hN=>by
 have R1:=hdd hR;clear hR;go_enter Tryz.func71,Tryz.ntmps71
 go_upto_region 0 with fail
 refine Spec.run (S:=⟨_,fun i=>([.w (.c (.ptr 0 0))]:List SV).getD i noS,fun n=>([some 0]:List (Option Nat)).getD n none,
  [],[⟨0,34,[.v (.pointer none),.v (.int .i64 0)],none⟩],
  fun i=>([0]:List Nat).getD i 0,fun i=>([[]]:List (List Nat)).getD i [],[]⟩)
  (W:=runW ⟨w,B,ns⟩ g) (ν0:=fun n=>([]:List Nat).getD n 0) (c0:=N)
  (fs:=fun ν=>[(10,.pointer (some ⟨(ν 0),0,none⟩))]) 1 N [] []
  ⟨Spec.wf_of (by kernel_rfl),lU (by kernel_rfl),iU trivial⟩ R1.out (Run.nodup R1.out) (by omega)
  (fun b hM=>aA cO
    (dI b m0)) ?_
 intro ν W2 hν hR;replace hR:Run ⟨w,B,ns⟩ g N [] [((ν 0),.cells #[.pointer none,.int .i64 0] 34)] W2:=hR;clear hν;generalize ν 0=b1 at hR|-;have R2:=hdd hR;clear hR R1;simp only[putL,arL,arM]
 go_upto_region 1 with fail
 refine Spec.run (S:=⟨_,fun i=>([.w (.c (.v (.pointer (some ⟨g,0,none⟩)))),.w (.c (.v (.float .f64 ca))),numS g 1,.w (.c (.v (.pointer (some ⟨g,0,none⟩)))),.w (.c (.v (.float .f64 cb))),numS g 2,.w (.c (.sl 3 1)),numS g 4,.w (.c (.v (.pointer (some ⟨g,0,none⟩)))),.w (.c (.v (.float .f64 cc))),numS g 5,.w (.c (.v (.pointer (some ⟨g,0,none⟩)))),.w (.c (.v (.float .f64 cd))),numS g 6,.w (.c (.sl 7 1)),numS g 8,numS g 9,noS]:List SV).getD i noS,fun n=>([none,some 2,some 5,some 6,some 7,some 10,some 13,some 14,some 15,some 16]:List (Option Nat)).getD n none,
  [(1,(.leaf ca)),(2,(.leaf cb)),(4,(.mul (.leaf ca) (.leaf cb))),(5,(.leaf cc)),(6,(.leaf cd)),(8,(.mul (.leaf cc) (.leaf cd))),(9,(.sub (.mul (.leaf ca) (.leaf cb)) (.mul (.leaf cc) (.leaf cd))))],[⟨0,34,[.v (.pointer none),.v (.int .i64 0)],some (17,numC g 9)⟩,⟨3,34,numC g 2,none⟩,⟨7,34,numC g 6,none⟩],
  fun i=>([0,0,1,0,0,1,0,1,0,0,1,0,0,1,0,1,1,0]:List Nat).getD i 0,fun i=>([[],[],[0,1],[],[],[3,4],[3,4,5],[0,1,2,3,4,5,6],[],[],[8,9],[],[],[11,12],[11,12,13],[8,9,10,11,12,13,14],[0,1,2,3,4,5,6,7,8,9,10,11,12,13,14,15],[0,1,2,3,4,5,6,7,8,9,10,11,12,13,14,15,16]]:List (List Nat)).getD i [],[(0,.w (.c (.v (.pointer (some ⟨g,0,none⟩))))),(1,.w (.c (.v (.float .f64 ca)))),(2,.w (.c (.v (.float .f64 cb)))),(3,.w (.c (.v (.float .f64 cc)))),(4,.w (.c (.v (.float .f64 cd)))),(10,.w (.c (.ptr 0 0)))]⟩)
  (W:=runW ⟨w,B,ns⟩ g) (ν0:=fun n=>([b1]:List Nat).getD n 0) (c0:=N)
  (fs:=fun ν=>[(11,.pointer (some ⟨g,0,none⟩)),(12,(.float .f64 ca)),(13,numV g (ν 1)),(14,.pointer (some ⟨g,0,none⟩)),(15,(.float .f64 cb)),(16,numV g (ν 2)),(17,.slice (some ⟨(ν 3),0,none⟩) 1 1),(18,numV g (ν 4)),(19,.pointer (some ⟨g,0,none⟩)),(20,(.float .f64 cc)),(21,numV g (ν 5)),(22,.pointer (some ⟨g,0,none⟩)),(23,(.float .f64 cd)),(24,numV g (ν 6)),(25,.slice (some ⟨(ν 7),0,none⟩) 1 1),(26,numV g (ν 8)),(27,numV g (ν 9))]) 18 (N+7) [] []
  ⟨Spec.wf_of (by kernel_rfl),lU (by kernel_rfl),iU ⟨rfl,rfl,rfl,rfl,rfl,rfl,trivial⟩⟩ R2.out (Run.nodup R2.out) (by omega)
  (fun b hM=>aA (aA (aA (aA (aA (aA (aA (aA (aA (aA (aA (aA (aA (aA (aA (aA (aA (aA cO
    (aJ b))
    (aJ b))
    (bG b (c_of hM hca.1 hca.2 rfl rfl rfl rfl)))
    (aJ b))
    (aJ b))
    (bG b (c_of hM hcb.1 hcb.2 rfl rfl rfl rfl)))
    (iT b m1))
    (bG b (sG hM m0 m1 rfl rfl m1 rfl rfl rfl rfl rfl rfl rfl rfl)))
    (aJ b))
    (aJ b))
    (bG b (c_of hM hcc.1 hcc.2 rfl rfl rfl rfl)))
    (aJ b))
    (aJ b))
    (bG b (c_of hM hcd.1 hcd.2 rfl rfl rfl rfl)))
    (iT b m2))
    (bG b (sG hM m3 m4 rfl rfl m2 rfl rfl rfl rfl rfl rfl rfl rfl)))
    (bG b (oK hM m2 m5 rfl rfl rfl rfl rfl rfl)))
    (jI b 2 m0)) ?_
 intro ν W3 hν hR;replace hR:Run ⟨w,B,ns⟩ g (N+7) [((.leaf ca),ν 1),((.leaf cb),ν 2),((.mul (.leaf ca) (.leaf cb)),ν 4),((.leaf cc),ν 5),((.leaf cd),ν 6),((.mul (.leaf cc) (.leaf cd)),ν 8),((.sub (.mul (.leaf ca) (.leaf cb)) (.mul (.leaf cc) (.leaf cd))),ν 9)] [((ν 0),numO g (ν 9)),((ν 3),numO g (ν 2)),((ν 7),numO g (ν 6))] W3:=hR;have e0:ν 0=b1:=hν 0 rfl;simp only[e0]at hR|-;clear hν e0;generalize ν 1=n2 at hR|-;generalize ν 2=n3 at hR|-;generalize ν 3=b4 at hR|-;generalize ν 4=n5 at hR|-;generalize ν 5=n6 at hR|-;generalize ν 6=n7 at hR|-;generalize ν 7=b8 at hR|-;generalize ν 8=n9 at hR|-;generalize ν 9=n10 at hR|-;have R3:=hdd hR;clear hR R2;simp only[putL,arL,arM];go_wp2;obtain⟨x0,x1,-,-⟩:=aC (R3.out.at m0);refine bodyPost_ret (v:=.agg #[_,_]) (by simp[results,Tryz.results71,go_sem,x0,x1];first|exact⟨rfl,rfl⟩|rfl) rfl ?_;exact⟨[n10],rfl,rfl,_,R3.out.few (eQ [6])⟩
theorem aq8(hca:FlOk ca)(hcb:FlOk cb)(hcc:FlOk cc)(hcd:FlOk cd)(hS:fK PT (kU ca cb cc cd) q)(hr:(q==0)=r):FnOk 54 g 7 #[.pointer (some ⟨g,0,none⟩),.float .f64 ca,.float .f64 cb,.float .f64 cc,.float .f64 cd] [] (fun ks=>.tuple #[.bool r,.nilIface]) []:=FnOk.of fun w B ns N hR hN=>by
 have R1:=hdd hR;clear hR;go_enter Tryz.func54,Tryz.ntmps54
 go_upto_region 0 with fail
 refine Spec.run (S:=⟨_,fun i=>([.w (.c (.v (Value.bool false))),.w (.c (.v Value.nilIface))]:List SV).getD i noS,fun n=>([]:List (Option Nat)).getD n none,
  [],[],
  fun i=>([0,0]:List Nat).getD i 0,fun i=>([[],[]]:List (List Nat)).getD i [],[]⟩)
  (W:=runW ⟨w,B,ns⟩ g) (ν0:=fun n=>([]:List Nat).getD n 0) (c0:=N)
  (fs:=fun ν=>[(10,(Value.bool false)),(11,Value.nilIface)]) 2 N [] []
  ⟨Spec.wf_of (by kernel_rfl),lU (by kernel_rfl),iU trivial⟩ R1.out (Run.nodup R1.out) (by omega)
  (fun b hM=>aA (aA cO
    (aJ b))
    (aJ b)) ?_
 intro ν W2 hν hR;replace hR:Run ⟨w,B,ns⟩ g N [] [] W2:=hR;clear hν;have R2:=hdd hR;clear hR R1;simp only[putL,arL,arM]
 go_upto_region 1 with fail
 refine Spec.run (S:=⟨_,fun i=>([.w (.c (.v (.pointer (some ⟨g,0,none⟩)))),.w (.c (.v (.float .f64 ca))),.w (.c (.v (.float .f64 cb))),.w (.c (.v (.float .f64 cc))),.w (.c (.v (.float .f64 cd))),numS g 0,.tup [.c (.v (.int .i64 q)),.c (.v .nilIface)],.tup [.c (.v (.int .i64 q)),.c (.v .nilIface)],.w (.c (.v (.int .i64 q))),.w (.c (.v .nilIface)),.w (.c (.v (.int .i64 q))),.w (.c (.v .nilIface))]:List SV).getD i noS,fun n=>([some 5]:List (Option Nat)).getD n none,
  [(0,(kU ca cb cc cd))],[],
  fun i=>([0,0,0,0,0,7,0,0,0,0,0,0]:List Nat).getD i 0,fun i=>([[],[],[],[],[],[0,1,2,3,4],[0,1,2,3,4,5],[0,1,2,3,4,5,6],[0,1,2,3,4,5,6,7],[0,1,2,3,4,5,6,7],[0,1,2,3,4,5,6,7,8],[0,1,2,3,4,5,6,7,9]]:List (List Nat)).getD i [],[(0,.w (.c (.v (.pointer (some ⟨g,0,none⟩))))),(1,.w (.c (.v (.float .f64 ca)))),(2,.w (.c (.v (.float .f64 cb)))),(3,.w (.c (.v (.float .f64 cc)))),(4,.w (.c (.v (.float .f64 cd))))]⟩)
  (W:=runW ⟨w,B,ns⟩ g) (ν0:=fun n=>([]:List Nat).getD n 0) (c0:=N)
  (fs:=fun ν=>[(15,.pointer (some ⟨g,0,none⟩)),(16,(.float .f64 ca)),(17,(.float .f64 cb)),(18,(.float .f64 cc)),(19,(.float .f64 cd)),(20,numV g (ν 0)),(21,.tuple #[(.int .i64 q),.nilIface]),(14,.tuple #[(.int .i64 q),.nilIface]),(22,(.int .i64 q)),(23,.nilIface),(12,(.int .i64 q)),(13,.nilIface)]) 12 (N+7) [] []
  ⟨Spec.wf_of (by kernel_rfl),lU (by kernel_rfl),iU ⟨rfl,rfl,rfl,rfl,rfl,trivial⟩⟩ R2.out (Run.nodup R2.out) (by omega)
  (fun b hM=>aA (aA (aA (aA (aA (aA (aA (aA (aA (aA (aA (aA cO
    (aJ b))
    (aJ b))
    (aJ b))
    (aJ b))
    (aJ b))
    (bG b (c_fn (ix:=[]) (ts:=[0]) hM (fun ν=>aqP ⟨hca.1,hca.2⟩ ⟨hcb.1,hcb.2⟩ ⟨hcc.1,hcc.2⟩ ⟨hcd.1,hcd.2⟩))))
    (bG b (akP hM m0 rfl rfl rfl rfl hS)))
    (aJ b))
    (aJ b))
    (aJ b))
    (aJ b))
    (aJ b)) ?_
 intro ν W3 hν hR;replace hR:Run ⟨w,B,ns⟩ g (N+7) [((kU ca cb cc cd),ν 0)] [] W3:=hR;clear hν;generalize ν 0=n1 at hR|-;have R3:=hdd hR;clear hR R2;simp only[putL,arL,arM];have HF:Hid (afG w B ns g (N+7) (fun _=>.tuple #[.bool r,.nilIface]) [] (.returned (.tuple #[.bool r,.nilIface])) W3):=hdd ⟨[],rfl,rfl,_,R3.out.few (eQ [])⟩;clear R3;go_wp2
 go_ret2
 exact HF.out
theorem aq0(h1:kS ca cb cc)(h2:kS da db dc)(hS:fK PT (kU ca db cb da) q)(hr:(q==0)=r):FnOk 53 g 7 #[.pointer (some ⟨g,0,none⟩),curV 1 ca cb cc,curV 1 da db dc] [] (fun ks=>.tuple #[.bool r,.nilIface]) []:=FnOk.of fun w B ns N hR hN=>by
 have R1:=hdd hR;clear hR;go_enter Tryz.func53,Tryz.ntmps53
 go_upto_region 0 with fail
 refine Spec.run (S:=⟨_,fun i=>([.w (.c (.ptr 0 0)),.w (.c (.ptr 1 0)),.w (.c (.v (Value.bool false))),.w (.c (.v Value.nilIface))]:List SV).getD i noS,fun n=>([some 0,some 1]:List (Option Nat)).getD n none,
  [],[⟨0,32,[.v (.int .i64 1),.v (.float .f64 ca),.v (.float .f64 cb),.v (.float .f64 cc)],none⟩,⟨1,32,[.v (.int .i64 1),.v (.float .f64 da),.v (.float .f64 db),.v (.float .f64 dc)],none⟩],
  fun i=>([0,0,0,0]:List Nat).getD i 0,fun i=>([[],[],[],[]]:List (List Nat)).getD i [],[(1,.w (.agg ([.v (.int .i64 1),.v (.float .f64 ca),.v (.float .f64 cb),.v (.float .f64 cc)]))),(2,.w (.agg ([.v (.int .i64 1),.v (.float .f64 da),.v (.float .f64 db),.v (.float .f64 dc)])))]⟩)
  (W:=runW ⟨w,B,ns⟩ g) (ν0:=fun n=>([]:List Nat).getD n 0) (c0:=N)
  (fs:=fun ν=>[(4,.pointer (some ⟨(ν 0),0,none⟩)),(5,.pointer (some ⟨(ν 1),0,none⟩)),(6,(Value.bool false)),(7,Value.nilIface)]) 4 N [] []
  ⟨Spec.wf_of (by kernel_rfl),lU (by kernel_rfl),iU ⟨rfl,rfl,trivial⟩⟩ R1.out (Run.nodup R1.out) (by omega)
  (fun b hM=>aA (aA (aA (aA cO
    (dI b m0))
    (dI b m1))
    (aJ b))
    (aJ b)) ?_
 intro ν W2 hν hR;replace hR:Run ⟨w,B,ns⟩ g N [] [((ν 0),.cells #[(.int .i64 1),(.float .f64 ca),(.float .f64 cb),(.float .f64 cc)] 32),((ν 1),.cells #[(.int .i64 1),(.float .f64 da),(.float .f64 db),(.float .f64 dc)] 32)] W2:=hR;clear hν;generalize ν 0=b1 at hR|-;generalize ν 1=b2 at hR|-;have R2:=hdd hR;clear hR R1;simp only[putL,arL,arM]
 go_upto_region 1 with fail
 refine Spec.run (S:=⟨_,fun i=>([.w (.agg ([.v (.int .i64 1),.v (.float .f64 ca),.v (.float .f64 cb),.v (.float .f64 cc)])),.w (.agg ([.v (.int .i64 1),.v (.float .f64 da),.v (.float .f64 db),.v (.float .f64 dc)])),.w (.c (.v .nilIface)),.w (.c (.v .nilIface))]:List SV).getD i noS,fun n=>([none,none]:List (Option Nat)).getD n none,
  [],[⟨0,32,[.v (.int .i64 1),.v (.float .f64 ca),.v (.float .f64 cb),.v (.float .f64 cc)],none⟩,⟨1,32,[.v (.int .i64 1),.v (.float .f64 da),.v (.float .f64 db),.v (.float .f64 dc)],none⟩],
  fun i=>([0,0,0,0]:List Nat).getD i 0,fun i=>([[],[],[0,1],[0,1,2]]:List (List Nat)).getD i [],[(4,.w (.c (.ptr 0 0))),(5,.w (.c (.ptr 1 0)))]⟩)
  (W:=runW ⟨w,B,ns⟩ g) (ν0:=fun n=>([b1,b2]:List Nat).getD n 0) (c0:=N)
  (fs:=fun ν=>[(9,.agg #[(.int .i64 1),(.float .f64 ca),(.float .f64 cb),(.float .f64 cc)]),(10,.agg #[(.int .i64 1),(.float .f64 da),(.float .f64 db),(.float .f64 dc)]),(11,.nilIface),(8,.nilIface)]) 4 N [] []
  ⟨Spec.wf_of (by kernel_rfl),lU (by kernel_rfl),iU ⟨rfl,rfl,trivial⟩⟩ R2.out (Run.nodup R2.out) (by omega)
  (fun b hM=>aA (aA (aA (aA cO
    (dO b 4 m0))
    (dO b 4 m1))
    (bG b (apB hM rfl rfl rfl (fun w=>ah5 h1 h2))))
    (aJ b)) ?_
 intro ν W3 hν hR;replace hR:Run ⟨w,B,ns⟩ g N [] [((ν 0),.cells #[(.int .i64 1),(.float .f64 ca),(.float .f64 cb),(.float .f64 cc)] 32),((ν 1),.cells #[(.int .i64 1),(.float .f64 da),(.float .f64 db),(.float .f64 dc)] 32)] W3:=hR;have e0:ν 0=b1:=hν 0 rfl;have e1:ν 1=b2:=hν 1 rfl;simp only[e0,e1]at hR|-;clear hν e0 e1;have R3:=hdd hR;clear hR R2;simp only[putL,arL,arM]
 go_upto_region 4 with fail
 refine Spec.run (S:=⟨_,fun i=>([.w (.c (.v (.pointer (some ⟨g,0,none⟩)))),.w (.c (.ptr 0 1)),.w (.c (.v (.float .f64 ca))),.w (.c (.ptr 1 2)),.w (.c (.v (.float .f64 db))),.w (.c (.ptr 0 2)),.w (.c (.v (.float .f64 cb))),.w (.c (.ptr 1 1)),.w (.c (.v (.float .f64 da))),.tup [.c (.v (.bool r)),.c (.v .nilIface)],.w (.c (.v (.bool r))),.w (.c (.v .nilIface)),.w (.c (.v (.bool r))),.w (.c (.v .nilIface))]:List SV).getD i noS,fun n=>([none,none]:List (Option Nat)).getD n none,
  [],[⟨0,32,[.v (.int .i64 1),.v (.float .f64 ca),.v (.float .f64 cb),.v (.float .f64 cc)],none⟩,⟨1,32,[.v (.int .i64 1),.v (.float .f64 da),.v (.float .f64 db),.v (.float .f64 dc)],none⟩],
  fun i=>([0,0,0,0,0,0,0,0,0,7,0,0,0,0]:List Nat).getD i 0,fun i=>([[],[],[1],[],[3],[],[5],[],[7],[0,1,2,3,4,5,6,7,8],[0,1,2,3,4,5,6,7,8,9],[0,1,2,3,4,5,6,7,8,9],[0,1,2,3,4,5,6,7,8,9,10],[0,1,2,3,4,5,6,7,8,9,11]]:List (List Nat)).getD i [],[(0,.w (.c (.v (.pointer (some ⟨g,0,none⟩))))),(4,.w (.c (.ptr 0 0))),(5,.w (.c (.ptr 1 0)))]⟩)
  (W:=runW ⟨w,B,ns⟩ g) (ν0:=fun n=>([b1,b2]:List Nat).getD n 0) (c0:=N)
  (fs:=fun ν=>[(15,.pointer (some ⟨g,0,none⟩)),(16,.pointer (some ⟨(ν 0),1,none⟩)),(17,(.float .f64 ca)),(18,.pointer (some ⟨(ν 1),2,none⟩)),(19,(.float .f64 db)),(20,.pointer (some ⟨(ν 0),2,none⟩)),(21,(.float .f64 cb)),(22,.pointer (some ⟨(ν 1),1,none⟩)),(23,(.float .f64 da)),(24,.tuple #[(.bool r),.nilIface]),(25,(.bool r)),(26,.nilIface),(6,(.bool r)),(7,.nilIface)]) 14 (N+7) [] []
  ⟨Spec.wf_of (by kernel_rfl),lU (by kernel_rfl),iU ⟨rfl,rfl,rfl,trivial⟩⟩ R3.out (Run.nodup R3.out) (by omega)
  (fun b hM=>aA (aA (aA (aA (aA (aA (aA (aA (aA (aA (aA (aA (aA (aA cO
    (aJ b))
    (aJ b))
    (dS b m0))
    (aJ b))
    (dS b m1))
    (aJ b))
    (dS b m0))
    (aJ b))
    (dS b m1))
    (bG b (c_fn (ix:=[]) (ts:=[]) hM (fun ν=>aq8 ⟨h1.1.1,h1.1.2⟩ ⟨h2.2.1.1,h2.2.1.2⟩ ⟨h1.2.1.1,h1.2.1.2⟩ ⟨h2.1.1,h2.1.2⟩ hS hr))))
    (aJ b))
    (aJ b))
    (aJ b))
    (aJ b)) ?_
 intro ν W4 hν hR;replace hR:Run ⟨w,B,ns⟩ g (N+7) [] [((ν 0),.cells #[(.int .i64 1),(.float .f64 ca),(.float .f64 cb),(.float .f64 cc)] 32),((ν 1),.cells #[(.int .i64 1),(.float .f64 da),(.float .f64 db),(.float .f64 dc)] 32)] W4:=hR;have e0:ν 0=b1:=hν 0 rfl;have e1:ν 1=b2:=hν 1 rfl;simp only[e0,e1]at hR|-;clear hν e0 e1;have R4:=hdd hR;clear hR R3;simp only[putL,arL,arM];have HF:Hid (afG w B ns g (N+7) (fun _=>.tuple #[.bool r,.nilIface]) [] (.returned (.tuple #[.bool r,.nilIface])) W4):=hdd ⟨[],rfl,rfl,_,R4.out.few (eQ [])⟩;clear R4;go_wp2
 go_ret2
 exact HF.out
theorem aq2(h1:kS ca cb cc)(h2:kS da db dc)(hS:fK PT (kU ca db cb da) q)(hq:(q==0)=false):FnOk 72 g 30 #[.pointer (some ⟨g,0,none⟩),curV 1 ca cb cc,curV 1 da db dc] [] (fun ks=>.tuple #[bD g (ks.getD 0 0) (ks.getD 1 0),.nilIface]) [.div (kU cc db dc cb) (kU ca db cb da),.div (kU ca dc da cc) (kU ca db cb da)]:=FnOk.of fun w B ns N hR hN=>by
 have R1:=hdd hR;clear hR;go_enter Tryz.func72,Tryz.ntmps72
 go_upto_region 0 with fail
 refine Spec.run (S:=⟨_,fun i=>([.w (.c (.ptr 0 0)),.w (.c (.ptr 1 0)),.w (.c (.ptr 2 0)),.w (.c (.v Value.nilIface))]:List SV).getD i noS,fun n=>([some 0,some 1,some 2]:List (Option Nat)).getD n none,
  [],[⟨0,32,[.v (.int .i64 1),.v (.float .f64 ca),.v (.float .f64 cb),.v (.float .f64 cc)],none⟩,⟨1,32,[.v (.int .i64 1),.v (.float .f64 da),.v (.float .f64 db),.v (.float .f64 dc)],none⟩,⟨2,36,[.v (.pointer none),.v (.int .i64 0),.v (.pointer none),.v (.int .i64 0)],none⟩],
  fun i=>([0,0,0,0]:List Nat).getD i 0,fun i=>([[],[],[],[]]:List (List Nat)).getD i [],[(1,.w (.agg ([.v (.int .i64 1),.v (.float .f64 ca),.v (.float .f64 cb),.v (.float .f64 cc)]))),(2,.w (.agg ([.v (.int .i64 1),.v (.float .f64 da),.v (.float .f64 db),.v (.float .f64 dc)])))]⟩)
  (W:=runW ⟨w,B,ns⟩ g) (ν0:=fun n=>([]:List Nat).getD n 0) (c0:=N)
  (fs:=fun ν=>[(4,.pointer (some ⟨(ν 0),0,none⟩)),(5,.pointer (some ⟨(ν 1),0,none⟩)),(6,.pointer (some ⟨(ν 2),0,none⟩)),(7,Value.nilIface)]) 4 N [] []
  ⟨Spec.wf_of (by kernel_rfl),lU (by kernel_rfl),iU ⟨rfl,rfl,trivial⟩⟩ R1.out (Run.nodup R1.out) (by omega)
  (fun b hM=>aA (aA (aA (aA cO
    (dI b m0))
    (dI b m1))
    (dI b m2))
    (aJ b)) ?_
 intro ν W2 hν hR;replace hR:Run ⟨w,B,ns⟩ g N [] [((ν 0),.cells #[(.int .i64 1),(.float .f64 ca),(.float .f64 cb),(.float .f64 cc)] 32),((ν 1),.cells #[(.int .i64 1),(.float .f64 da),(.float .f64 db),(.float .f64 dc)] 32),((ν 2),.cells #[.pointer none,.int .i64 0,.pointer none,.int .i64 0] 36)] W2:=hR;clear hν;generalize ν 0=b1 at hR|-;generalize ν 1=b2 at hR|-;generalize ν 2=b3 at hR|-;have R2:=hdd hR;clear hR R1;simp only[putL,arL,arM]
 go_upto_region 1 with fail
 refine Spec.run (S:=⟨_,fun i=>([.w (.c (.v (.pointer (some ⟨g,0,none⟩)))),.w (.agg ([.v (.int .i64 1),.v (.float .f64 ca),.v (.float .f64 cb),.v (.float .f64 cc)])),.w (.agg ([.v (.int .i64 1),.v (.float .f64 da),.v (.float .f64 db),.v (.float .f64 dc)])),.tup [.c (.v (.bool false)),.c (.v .nilIface)],.tup [.c (.v (.bool false)),.c (.v .nilIface)],.w (.c (.v (.bool false))),.w (.c (.v .nilIface)),.w (.c (.v (.bool false))),.w (.c (.v .nilIface))]:List SV).getD i noS,fun n=>([none,none,none]:List (Option Nat)).getD n none,
  [],[⟨0,32,[.v (.int .i64 1),.v (.float .f64 ca),.v (.float .f64 cb),.v (.float .f64 cc)],none⟩,⟨1,32,[.v (.int .i64 1),.v (.float .f64 da),.v (.float .f64 db),.v (.float .f64 dc)],none⟩,⟨2,36,[.v (.pointer none),.v (.int .i64 0),.v (.pointer none),.v (.int .i64 0)],none⟩],
  fun i=>([0,0,0,7,0,0,0,0,0]:List Nat).getD i 0,fun i=>([[],[],[],[0,1,2],[0,1,2,3],[0,1,2,3,4],[0,1,2,3,4],[0,1,2,3,4,5],[0,1,2,3,4,6]]:List (List Nat)).getD i [],[(0,.w (.c (.v (.pointer (some ⟨g,0,none⟩))))),(4,.w (.c (.ptr 0 0))),(5,.w (.c (.ptr 1 0)))]⟩)
  (W:=runW ⟨w,B,ns⟩ g) (ν0:=fun n=>([b1,b2,b3]:List Nat).getD n 0) (c0:=N)
  (fs:=fun ν=>[(14,.pointer (some ⟨g,0,none⟩)),(15,.agg #[(.int .i64 1),(.float .f64 ca),(.float .f64 cb),(.float .f64 cc)]),(16,.agg #[(.int .i64 1),(.float .f64 da),(.float .f64 db),(.float .f64 dc)]),(17,.tuple #[(.bool false),.nilIface]),(13,.tuple #[(.bool false),.nilIface]),(18,(.bool false)),(19,.nilIface),(8,(.bool false)),(9,.nilIface)]) 9 (N+7) [] []
  ⟨Spec.wf_of (by kernel_rfl),lU (by kernel_rfl),iU ⟨rfl,rfl,rfl,trivial⟩⟩ R2.out (Run.nodup R2.out) (by omega)
  (fun b hM=>aA (aA (aA (aA (aA (aA (aA (aA (aA cO
    (aJ b))
    (dO b 4 m0))
    (dO b 4 m1))
    (bG b (c_fn (ix:=[]) (ts:=[]) hM (fun ν=>aq0 h1 h2 hS hq))))
    (aJ b))
    (aJ b))
    (aJ b))
    (aJ b))
    (aJ b)) ?_
 intro ν W3 hν hR;replace hR:Run ⟨w,B,ns⟩ g (N+7) [] [((ν 0),.cells #[(.int .i64 1),(.float .f64 ca),(.float .f64 cb),(.float .f64 cc)] 32),((ν 1),.cells #[(.int .i64 1),(.float .f64 da),(.float .f64 db),(.float .f64 dc)] 32),((ν 2),.cells #[.pointer none,.int .i64 0,.pointer none,.int .i64 0] 36)] W3:=hR;have e0:ν 0=b1:=hν 0 rfl;have e1:ν 1=b2:=hν 1 rfl;have e2:ν 2=b3:=hν 2 rfl;simp only[e0,e1,e2]at hR|-;clear hν e0 e1 e2;have R3:=hdd hR;clear hR R2;simp only[putL,arL,arM]
 go_upto_region 6 with fail
 refine Spec.run (S:=⟨_,fun i=>([.w (.c (.v (.pointer (some ⟨g,0,none⟩)))),.w (.c (.ptr 0 1)),.w (.c (.v (.float .f64 ca))),.w (.c (.ptr 1 2)),.w (.c (.v (.float .f64 db))),.w (.c (.ptr 0 2)),.w (.c (.v (.float .f64 cb))),.w (.c (.ptr 1 1)),.w (.c (.v (.float .f64 da))),numS g 3,.w (.c (.ptr 4 0)),noS]:List SV).getD i noS,fun n=>([none,none,none,some 9,some 10]:List (Option Nat)).getD n none,
  [(3,(kU ca db cb da))],[⟨0,32,[.v (.int .i64 1),.v (.float .f64 ca),.v (.float .f64 cb),.v (.float .f64 cc)],none⟩,⟨1,32,[.v (.int .i64 1),.v (.float .f64 da),.v (.float .f64 db),.v (.float .f64 dc)],none⟩,⟨2,36,[.v (.pointer none),.v (.int .i64 0),.v (.pointer none),.v (.int .i64 0)],none⟩,⟨4,34,[.v (.pointer none),.v (.int .i64 0)],some (11,numC g 3)⟩],
  fun i=>([0,0,0,0,0,0,0,0,0,7,0,0]:List Nat).getD i 0,fun i=>([[],[],[1],[],[3],[],[5],[],[7],[0,1,2,3,4,5,6,7,8],[],[0,1,2,3,4,5,6,7,8,9,10]]:List (List Nat)).getD i [],[(0,.w (.c (.v (.pointer (some ⟨g,0,none⟩))))),(4,.w (.c (.ptr 0 0))),(5,.w (.c (.ptr 1 0)))]⟩)
  (W:=runW ⟨w,B,ns⟩ g) (ν0:=fun n=>([b1,b2,b3]:List Nat).getD n 0) (c0:=(N+7))
  (fs:=fun ν=>[(27,.pointer (some ⟨g,0,none⟩)),(28,.pointer (some ⟨(ν 0),1,none⟩)),(29,(.float .f64 ca)),(30,.pointer (some ⟨(ν 1),2,none⟩)),(31,(.float .f64 db)),(32,.pointer (some ⟨(ν 0),2,none⟩)),(33,(.float .f64 cb)),(34,.pointer (some ⟨(ν 1),1,none⟩)),(35,(.float .f64 da)),(36,numV g (ν 3)),(10,.pointer (some ⟨(ν 4),0,none⟩))]) 12 (N+14) [] []
  ⟨Spec.wf_of (by kernel_rfl),lU (by kernel_rfl),iU ⟨rfl,rfl,rfl,trivial⟩⟩ R3.out (Run.nodup R3.out) (by omega)
  (fun b hM=>aA (aA (aA (aA (aA (aA (aA (aA (aA (aA (aA (aA cO
    (aJ b))
    (aJ b))
    (dS b m0))
    (aJ b))
    (dS b m1))
    (aJ b))
    (dS b m0))
    (aJ b))
    (dS b m1))
    (bG b (c_fn (ix:=[]) (ts:=[3]) hM (fun ν=>aqP ⟨h1.1.1,h1.1.2⟩ ⟨h2.2.1.1,h2.2.1.2⟩ ⟨h1.2.1.1,h1.2.1.2⟩ ⟨h2.1.1,h2.1.2⟩))))
    (dI b m3))
    (jI b 2 m3)) ?_
 intro ν W4 hν hR;replace hR:Run ⟨w,B,ns⟩ g (N+14) [((kU ca db cb da),ν 3)] [((ν 0),.cells #[(.int .i64 1),(.float .f64 ca),(.float .f64 cb),(.float .f64 cc)] 32),((ν 1),.cells #[(.int .i64 1),(.float .f64 da),(.float .f64 db),(.float .f64 dc)] 32),((ν 2),.cells #[.pointer none,.int .i64 0,.pointer none,.int .i64 0] 36),((ν 4),numO g (ν 3))] W4:=hR;have e0:ν 0=b1:=hν 0 rfl;have e1:ν 1=b2:=hν 1 rfl;have e2:ν 2=b3:=hν 2 rfl;simp only[e0,e1,e2]at hR|-;clear hν e0 e1 e2;generalize ν 3=n4 at hR|-;generalize ν 4=b5 at hR|-;have R4:=hdd hR;clear hR R3;simp only[putL,arL,arM]
 go_upto_region 7 with fail
 refine Spec.run (S:=⟨_,fun i=>([.w (.c (.v (.pointer (some ⟨g,0,none⟩)))),.w (.c (.ptr 0 3)),.w (.c (.v (.float .f64 cc))),.w (.c (.ptr 1 2)),.w (.c (.v (.float .f64 db))),.w (.c (.ptr 1 3)),.w (.c (.v (.float .f64 dc))),.w (.c (.ptr 0 2)),.w (.c (.v (.float .f64 cb))),numS g 5,.w (.c (.ptr 6 0)),noS]:List SV).getD i noS,fun n=>([none,none,none,none,none,some 9,some 10]:List (Option Nat)).getD n none,
  [(3,(kU ca db cb da)),(5,(kU cc db dc cb))],[⟨0,32,[.v (.int .i64 1),.v (.float .f64 ca),.v (.float .f64 cb),.v (.float .f64 cc)],none⟩,⟨1,32,[.v (.int .i64 1),.v (.float .f64 da),.v (.float .f64 db),.v (.float .f64 dc)],none⟩,⟨2,36,[.v (.pointer none),.v (.int .i64 0),.v (.pointer none),.v (.int .i64 0)],none⟩,⟨4,34,numC g 3,none⟩,⟨6,34,[.v (.pointer none),.v (.int .i64 0)],some (11,numC g 5)⟩],
  fun i=>([0,0,0,0,0,0,0,0,0,7,0,0]:List Nat).getD i 0,fun i=>([[],[],[1],[],[3],[],[5],[],[7],[0,1,2,3,4,5,6,7,8],[],[0,1,2,3,4,5,6,7,8,9,10]]:List (List Nat)).getD i [],[(0,.w (.c (.v (.pointer (some ⟨g,0,none⟩))))),(4,.w (.c (.ptr 0 0))),(5,.w (.c (.ptr 1 0)))]⟩)
  (W:=runW ⟨w,B,ns⟩ g) (ν0:=fun n=>([b1,b2,b3,n4,b5]:List Nat).getD n 0) (c0:=(N+14))
  (fs:=fun ν=>[(37,.pointer (some ⟨g,0,none⟩)),(38,.pointer (some ⟨(ν 0),3,none⟩)),(39,(.float .f64 cc)),(40,.pointer (some ⟨(ν 1),2,none⟩)),(41,(.float .f64 db)),(42,.pointer (some ⟨(ν 1),3,none⟩)),(43,(.float .f64 dc)),(44,.pointer (some ⟨(ν 0),2,none⟩)),(45,(.float .f64 cb)),(46,numV g (ν 5)),(11,.pointer (some ⟨(ν 6),0,none⟩))]) 12 (N+21) [] []
  ⟨Spec.wf_of (by kernel_rfl),lU (by kernel_rfl),iU ⟨rfl,rfl,rfl,trivial⟩⟩ R4.out (Run.nodup R4.out) (by omega)
  (fun b hM=>aA (aA (aA (aA (aA (aA (aA (aA (aA (aA (aA (aA cO
    (aJ b))
    (aJ b))
    (dS b m0))
    (aJ b))
    (dS b m1))
    (aJ b))
    (dS b m1))
    (aJ b))
    (dS b m0))
    (bG b (c_fn (ix:=[]) (ts:=[5]) hM (fun ν=>aqP ⟨h1.2.2.1.1,h1.2.2.1.2⟩ ⟨h2.2.1.1,h2.2.1.2⟩ ⟨h2.2.2.1.1,h2.2.2.1.2⟩ ⟨h1.2.1.1,h1.2.1.2⟩))))
    (dI b m4))
    (jI b 2 m4)) ?_
 intro ν W5 hν hR;replace hR:Run ⟨w,B,ns⟩ g (N+21) [((kU ca db cb da),ν 3),((kU cc db dc cb),ν 5)] [((ν 0),.cells #[(.int .i64 1),(.float .f64 ca),(.float .f64 cb),(.float .f64 cc)] 32),((ν 1),.cells #[(.int .i64 1),(.float .f64 da),(.float .f64 db),(.float .f64 dc)] 32),((ν 2),.cells #[.pointer none,.int .i64 0,.pointer none,.int .i64 0] 36),((ν 4),numO g (ν 3)),((ν 6),numO g (ν 5))] W5:=hR;have e0:ν 0=b1:=hν 0 rfl;have e1:ν 1=b2:=hν 1 rfl;have e2:ν 2=b3:=hν 2 rfl;have e3:ν 3=n4:=hν 3 rfl;have e4:ν 4=b5:=hν 4 rfl;simp only[e0,e1,e2,e3,e4]at hR|-;clear hν e0 e1 e2 e3 e4;generalize ν 5=n6 at hR|-;generalize ν 6=b7 at hR|-;have R5:=hdd hR;clear hR R4;simp only[putL,arL,arM]
 go_upto_region 8 with fail
 refine Spec.run (S:=⟨_,fun i=>([.w (.c (.v (.pointer (some ⟨g,0,none⟩)))),.w (.c (.ptr 0 1)),.w (.c (.v (.float .f64 ca))),.w (.c (.ptr 1 3)),.w (.c (.v (.float .f64 dc))),.w (.c (.ptr 1 1)),.w (.c (.v (.float .f64 da))),.w (.c (.ptr 0 3)),.w (.c (.v (.float .f64 cc))),numS g 7,.w (.c (.ptr 8 0)),noS]:List SV).getD i noS,fun n=>([none,none,none,none,none,none,none,some 9,some 10]:List (Option Nat)).getD n none,
  [(3,(kU ca db cb da)),(5,(kU cc db dc cb)),(7,(kU ca dc da cc))],[⟨0,32,[.v (.int .i64 1),.v (.float .f64 ca),.v (.float .f64 cb),.v (.float .f64 cc)],none⟩,⟨1,32,[.v (.int .i64 1),.v (.float .f64 da),.v (.float .f64 db),.v (.float .f64 dc)],none⟩,⟨2,36,[.v (.pointer none),.v (.int .i64 0),.v (.pointer none),.v (.int .i64 0)],none⟩,⟨4,34,numC g 3,none⟩,⟨6,34,numC g 5,none⟩,⟨8,34,[.v (.pointer none),.v (.int .i64 0)],some (11,numC g 7)⟩],
  fun i=>([0,0,0,0,0,0,0,0,0,7,0,0]:List Nat).getD i 0,fun i=>([[],[],[1],[],[3],[],[5],[],[7],[0,1,2,3,4,5,6,7,8],[],[0,1,2,3,4,5,6,7,8,9,10]]:List (List Nat)).getD i [],[(0,.w (.c (.v (.pointer (some ⟨g,0,none⟩))))),(4,.w (.c (.ptr 0 0))),(5,.w (.c (.ptr 1 0)))]⟩)
  (W:=runW ⟨w,B,ns⟩ g) (ν0:=fun n=>([b1,b2,b3,n4,b5,n6,b7]:List Nat).getD n 0) (c0:=(N+21))
  (fs:=fun ν=>[(47,.pointer (some ⟨g,0,none⟩)),(48,.pointer (some ⟨(ν 0),1,none⟩)),(49,(.float .f64 ca)),(50,.pointer (some ⟨(ν 1),3,none⟩)),(51,(.float .f64 dc)),(52,.pointer (some ⟨(ν 1),1,none⟩)),(53,(.float .f64 da)),(54,.pointer (some ⟨(ν 0),3,none⟩)),(55,(.float .f64 cc)),(56,numV g (ν 7)),(12,.pointer (some ⟨(ν 8),0,none⟩))]) 12 (N+28) [] []
  ⟨Spec.wf_of (by kernel_rfl),lU (by kernel_rfl),iU ⟨rfl,rfl,rfl,trivial⟩⟩ R5.out (Run.nodup R5.out) (by omega)
  (fun b hM=>aA (aA (aA (aA (aA (aA (aA (aA (aA (aA (aA (aA cO
    (aJ b))
    (aJ b))
    (dS b m0))
    (aJ b))
    (dS b m1))
    (aJ b))
    (dS b m1))
    (aJ b))
    (dS b m0))
    (bG b (c_fn (ix:=[]) (ts:=[7]) hM (fun ν=>aqP ⟨h1.1.1,h1.1.2⟩ ⟨h2.2.2.1.1,h2.2.2.1.2⟩ ⟨h2.1.1,h2.1.2⟩ ⟨h1.2.2.1.1,h1.2.2.1.2⟩))))
    (dI b m5))
    (jI b 2 m5)) ?_
 intro ν W6 hν hR;replace hR:Run ⟨w,B,ns⟩ g (N+28) [((kU ca db cb da),ν 3),((kU cc db dc cb),ν 5),((kU ca dc da cc),ν 7)] [((ν 0),.cells #[(.int .i64 1),(.float .f64 ca),(.float .f64 cb),(.float .f64 cc)] 32),((ν 1),.cells #[(.int .i64 1),(.float .f64 da),(.float .f64 db),(.float .f64 dc)] 32),((ν 2),.cells #[.pointer none,.int .i64 0,.pointer none,.int .i64 0] 36),((ν 4),numO g (ν 3)),((ν 6),numO g (ν 5)),((ν 8),numO g (ν 7))] W6:=hR;have e0:ν 0=b1:=hν 0 rfl;have e1:ν 1=b2:=hν 1 rfl;have e2:ν 2=b3:=hν 2 rfl;have e3:ν 3=n4:=hν 3 rfl;have e4:ν 4=b5:=hν 4 rfl;have e5:ν 5=n6:=hν 5 rfl;have e6:ν 6=b7:=hν 6 rfl;simp only[e0,e1,e2,e3,e4,e5,e6]at hR|-;clear hν e0 e1 e2 e3 e4 e5 e6;generalize ν 7=n8 at hR|-;generalize ν 8=b9 at hR|-;have R6:=hdd hR;clear hR R5;simp only[putL,arL,arM]
 go_upto_region 9 with fail
 refine Spec.run (S:=⟨_,fun i=>([numS g 3,numS g 1,numS g 7,numS g 5,numS g 1,numS g 8,ab5 g 7 8,noS,.w (.c (.v Value.nilIface))]:List SV).getD i noS,fun n=>([none,none,none,none,none,none,none,some 2,some 5]:List (Option Nat)).getD n none,
  [(1,(kU ca db cb da)),(3,(kU cc db dc cb)),(5,(kU ca dc da cc)),(7,(.div (kU cc db dc cb) (kU ca db cb da))),(8,(.div (kU ca dc da cc) (kU ca db cb da)))],[⟨0,36,[.v (.pointer none),.v (.int .i64 0),.v (.pointer none),.v (.int .i64 0)],some (7,jP g 7 8)⟩,⟨2,34,numC g 1,none⟩,⟨4,34,numC g 3,none⟩,⟨6,34,numC g 5,none⟩],
  fun i=>([0,0,1,0,0,1,0,0,0]:List Nat).getD i 0,fun i=>([[],[],[0,1],[],[],[3,4],[0,1,2,3,4,5],[0,1,2,3,4,5,6],[]]:List (List Nat)).getD i [],[(11,.w (.c (.ptr 4 0))),(10,.w (.c (.ptr 2 0))),(12,.w (.c (.ptr 6 0))),(6,.w (.c (.ptr 0 0)))]⟩)
  (W:=runW ⟨w,B,ns⟩ g) (ν0:=fun n=>([b3,n4,b5,n6,b7,n8,b9]:List Nat).getD n 0) (c0:=(N+28))
  (fs:=fun ν=>[(57,numV g (ν 3)),(58,numV g (ν 1)),(59,numV g (ν 7)),(60,numV g (ν 5)),(61,numV g (ν 1)),(62,numV g (ν 8)),(63,bD g (ν 7) (ν 8)),(7,Value.nilIface)]) 9 (N+30) [] [false,false]
  ⟨Spec.wf_of (by kernel_rfl),lU (by kernel_rfl),iU ⟨rfl,rfl,rfl,rfl,trivial⟩⟩ R6.out (Run.nodup R6.out) (by omega)
  (fun b hM=>aA (aA (aA (aA (aA (aA (aA (aA (aA cO
    (dO b 2 m2))
    (dO b 2 m1))
    (bG b (arD hM m1 m0 rfl rfl rfl rfl rfl rfl)))
    (dO b 2 m3))
    (dO b 2 m1))
    (bG b (arD hM m2 m0 rfl rfl rfl rfl rfl rfl)))
    (aJ b))
    (jI b 4 m0))
    (aJ b)) ?_
 intro ν W7 hν hR;replace hR:Run ⟨w,B,ns⟩ g (N+30) [((kU ca db cb da),ν 1),((kU cc db dc cb),ν 3),((kU ca dc da cc),ν 5),((.div (kU cc db dc cb) (kU ca db cb da)),ν 7),((.div (kU ca dc da cc) (kU ca db cb da)),ν 8)] [((ν 0),dN g (ν 7) (ν 8)),((ν 2),numO g (ν 1)),((ν 4),numO g (ν 3)),((ν 6),numO g (ν 5))] W7:=hR;have e0:ν 0=b3:=hν 0 rfl;have e1:ν 1=n4:=hν 1 rfl;have e2:ν 2=b5:=hν 2 rfl;have e3:ν 3=n6:=hν 3 rfl;have e4:ν 4=b7:=hν 4 rfl;have e5:ν 5=n8:=hν 5 rfl;have e6:ν 6=b9:=hν 6 rfl;simp only[e0,e1,e2,e3,e4,e5,e6]at hR|-;clear hν e0 e1 e2 e3 e4 e5 e6;generalize ν 7=n10 at hR|-;generalize ν 8=n11 at hR|-;have R7:=hdd hR;clear hR R6;simp only[putL,arL,arM];go_wp2;obtain⟨x0,x1,x2,x3⟩:=aD (R7.out.at m0);refine bodyPost_ret (v:=.tuple #[.agg #[_,_,_,_],.nilIface]) (by simp[results,Tryz.results72,go_sem,x0,x1,x2,x3];first|exact⟨rfl,rfl,rfl,rfl⟩|rfl) rfl ?_;exact⟨[n10,n11],rfl,rfl,_,R7.out.few (eQ [3,4])⟩
end
end Go.Proofs.YtjdgaogkioabeaaGreatDoor
