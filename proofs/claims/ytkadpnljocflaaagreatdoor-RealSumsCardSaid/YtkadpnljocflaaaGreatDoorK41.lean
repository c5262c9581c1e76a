/- A part of the proof: contracts of functions and plain laws (EX0, LawK, LawF, LawP, LawI, LawT, GtA, FlA, FlB, FlC, FlD, FlE, FlF, FlG, GtB). -/
import Derived.Test.YtkadpnljocflaaaGreatDoorK09
import Derived.Test.YtkadpnljocflaaaGreatDoorK19
import Derived.Test.YtkadpnljocflaaaGreatDoorK24
import Derived.Test.YtkadpnljocflaaaGreatDoorK27
import Derived.Test.YtkadpnljocflaaaGreatDoorK30
import Derived.Test.YtkadpnljocflaaaGreatDoorK31
import Derived.Test.YtkadpnljocflaaaGreatDoorRows
import Derived.Test.YtkadpnljocflaaaGreatDoorK25
import Derived.ProofKit
import Derived.OpenShut
import Derived.LaidMore
import Derived.Lay
import Derived.Lib.LaidTab
import Derived.Stop.Joined
import Derived.Deep.Slices
import Derived.Test.YtkadpnljocflaaaGreatDoorK32
import Derived.Test.YtkadpnljocflaaaGreatDoorK22
import Derived.LaidEql
import Derived.Lib.IfaceEq
import Derived.Stop.Asserts
import Derived.Recover
import Derived.Defers
import Derived.Laws.StructEq
set_option linter.unusedVariables false
set_option linter.unusedSimpArgs false
set_option linter.unnecessarySimpa false
set_option maxHeartbeats 25600000
set_option maxRecDepth 100000
namespace Go.Proofs.YtkadpnljocflaaaGreatDoor
section
open Rat renaming mul_nonneg->amP,mul_pos->amQ
variable{a b:Bl}{G M Ma Mb N P W Wa Wb:Int}{x y:Rat}
section
variable{f g:Nat->Rat}
end
namespace Re
theorem add_comm(x y:Re):x+y=y+x:=by
 induction x using ind with|_ a
 induction y using ind with|_ b
 rw[add_mk,add_mk];exact same fun n=>by simp only[addC_f];grind
theorem add_assoc(x y z:Re):x+y+z=x+(y+z):=by
 induction x using ind with|_ a
 induction y using ind with|_ b
 induction z using ind with|_ c
 simp only[add_mk];exact same fun n=>by simp only[addC_f];grind
end Re
theorem Am.mul (h:Am M x)(k:Am N y):Am (M+N) (x*y):=by
 obtain⟨h1,h2⟩:=h;obtain⟨k1,k2⟩:=k;unfold Am;rw[bZ];have a1:=amP (a:=p2 M-x) (b:=p2 N+y) (by grind) (by grind);have a2:=amP (a:=p2 M+x) (b:=p2 N-y) (by grind) (by grind);have a3:=amP (a:=p2 M-x) (b:=p2 N-y) (by grind) (by grind);have a4:=amP (a:=p2 M+x) (b:=p2 N+y) (by grind) (by grind);constructor<;>grind
theorem alD{p:Rat->Prop}{m a b c d:Dy}(h:m=a\/m=b\/m=c\/m=d)(pa:p (rv a))(pb:p (rv b))(pc:p (rv c))(pd:p (rv d)):p (rv m):=by
 rcases h with h|h|h|h<;>rw[h]<;>assumption
theorem alI{x' y':Rat}{V:Int}(hx:Am M x)(hy:Am N y')(h1:-p2 (-W)<=x-x')(h2:x-x'<=p2 (-W))(k1:-p2 (-V)<=y-y')(k2:y-y'<=p2 (-V)):x*y-x'*y'<=p2 (M-V)+p2 (N-W):=by
 have a:=(Am.mul hx (N:=-V) (y:=y-y') ⟨k1,k2⟩).2;have b:=(Am.mul hy (N:=-W) (y:=x-x') ⟨h1,h2⟩).2;rw[show M+-V=M-V from by omega]at a;rw[show N+-W=N-W from by omega]at b;have:x*y-x'*y'=x*(y-y')+y'*(x-x'):=by grind
 rw[this];grind
theorem akS(h:Acc M W b)(hle:rv b.lo<=rv b.hi):∀x y:Rat,(x=rv b.lo\/x=rv b.hi)->(y=rv b.lo\/y=rv b.hi)->-p2 (-W)<=x-y/\x-y<=p2 (-W):=by
 have:=h.2.2;have:=bC (-W);intro x y hx hy;rcases hx with hx|hx<;>rcases hy with hy|hy<;>rw[hx,hy]<;>constructor<;>grind
theorem al0(hP:1<=P)(h:Acc Ma Wa a)(k:Acc Mb Wb b)(ha:rv a.lo<=rv a.hi)(hb:rv b.lo<=rv b.hi)(w1:W<=Wa-Mb-2)(w2:W<=Wb-Ma-2)(w3:W<=P-Ma-Mb-3):Acc (Ma+Mb+1) W (mulB a b P):=by
 have m1:=h.1.mul k.1;have m2:=h.1.mul k.2.1;have m3:=h.2.1.mul k.1;have m4:=h.2.1.mul k.2.1;have hl:=(oG (mulD a.hi b.hi) (mulD a.hi b.lo) (mulD a.lo b.hi) (mulD a.lo b.lo)).2.2.2.2;have hh:=(oH (mulD a.hi b.hi) (mulD a.hi b.lo) (mulD a.lo b.hi) (mulD a.lo b.lo)).2.2.2.2;have ml:Am (Ma+Mb) (rv (aiZ a b)):=alD (p:=Am (Ma+Mb)) hl (by rw[wQ];exact m4) (by rw[wQ];exact m3) (by rw[wQ];exact m2) (by rw[wQ];exact m1);have mh:Am (Ma+Mb) (rv (ai0 a b)):=alD (p:=Am (Ma+Mb)) hh (by rw[wQ];exact m4) (by rw[wQ];exact m3) (by rw[wQ];exact m2) (by rw[wQ];exact m1);have e1:=vE (aiZ a b) (-1) hP;have e2:=vE (ai0 a b) 1 hP;refine⟨e1.am hP ml,e2.am hP mh,?_⟩;have b1:=(e1.bd ml).2;have b2:=(e2.bd mh).1;show rv (aM (ai0 a b) P 1)-rv (aM (aiZ a b) P (-1))<=p2 (-W);have hd:rv (ai0 a b)-rv (aiZ a b)<=p2 (Ma-Wb)+p2 (Mb-Wa):=by
  have wa:=akS h ha;have wb:=akS k hb;have key:∀x x' y y':Rat,(x=rv a.lo\/x=rv a.hi)->(x'=rv a.lo\/x'=rv a.hi)->(y=rv b.lo\/y=rv b.hi)->(y'=rv b.lo\/y'=rv b.hi)->x*y-x'*y'<=p2 (Ma-Wb)+p2 (Mb-Wa):=by
   intro x x' y y' hx hx' hy hy';have ax:Am Ma x:=by rcases hx with g|g<;>rw[g]<;>first|exact h.1|exact h.2.1
   have ay:Am Mb y':=by rcases hy' with g|g<;>rw[g]<;>first|exact k.1|exact k.2.1
   exact alI ax ay (wa x x' hx hx').1 (wa x x' hx hx').2 (wb y y' hy hy').1 (wb y y' hy hy').2
  refine alD (p:=fun v=>v-rv (aiZ a b)<=_) hh ?_ ?_ ?_ ?_<;>refine alD (p:=fun v=>_-v<=_) hl ?_ ?_ ?_ ?_<;>simp only[wQ]<;>
   exact key _ _ _ _ (by first|exact Or.inl rfl|exact Or.inr rfl) (by first|exact Or.inl rfl|exact Or.inr rfl) (by first|exact Or.inl rfl|exact Or.inr rfl) (by first|exact Or.inl rfl|exact Or.inr rfl)
 have q1:=quarter (a:=Ma-Wb) (b:=-W) (by omega);have q2:=quarter (a:=Mb-Wa) (b:=-W) (by omega);have q3:=quarter (a:=Ma+Mb+1-P) (b:=-W) (by omega);grind
def Far(G:Int)(x:Rat):Prop:=p2 (-G)<=x\/x<=-p2 (-G)
theorem akU{t:Rat}(hx:Am M x)(hy:Far G y)(e:t*y=x):Am (M+G) t:=by
 have hp:=bC (-G);have e1:p2 (M+G)*p2 (-G)=p2 M:=by rw[<-bZ];congr 1;omega
 have hM:=bC (M+G);obtain⟨h1,h2⟩:=hx;have s1:0<=p2 (M+G):=by grind
 constructor
 . apply Classical.byContradiction;intro hc
   rcases hy with hy|hy
   . have a1:=amQ (a:=-p2 (M+G)-t) (b:=p2 (-G)) (by grind) hp
     have a2:=amP (a:=-t) (b:=y-p2 (-G)) (by grind) (by grind);grind
   . have a1:=amQ (a:=-p2 (M+G)-t) (b:=p2 (-G)) (by grind) hp
     have a2:=amP (a:=-t) (b:=-y-p2 (-G)) (by grind) (by grind);grind
 . apply Classical.byContradiction;intro hc
   rcases hy with hy|hy
   . have a1:=amQ (a:=t-p2 (M+G)) (b:=p2 (-G)) (by grind) hp
     have a2:=amP (a:=t) (b:=y-p2 (-G)) (by grind) (by grind);grind
   . have a1:=amQ (a:=t-p2 (M+G)) (b:=p2 (-G)) (by grind) hp
     have a2:=amP (a:=t) (b:=-y-p2 (-G)) (by grind) (by grind);grind
theorem al1{r:Bl}(hP:1<=P)(h:Acc Ma Wa a)(k:Acc Mb Wb b)(ha:rv a.lo<=rv a.hi)(hb:rv b.lo<=rv b.hi)(f1:Far G (rv b.lo))(f2:Far G (rv b.hi))
 (w1:W<=Wa-G-2) (w2:W<=Wb-Ma-2*G-2) (w3:W<=P-Ma-G-3) (hr:quoB a b P=some r):Acc (Ma+G+1) W r:=by
 unfold quoB at hr
 split at hr
 . rename_i hs
   injection hr with hr;subst hr;have n1:b.lo.man≠0:=by rcases iZ hs with g|g<;>omega
   have n2:b.hi.man≠0:=by rcases iZ hs with g|g<;>omega
   have v1:rv b.lo≠0:=fun g=>n1 ((aW _).2.2.1 g);have v2:rv b.hi≠0:=fun g=>n2 ((aW _).2.2.1 g);obtain⟨t1,e1⟩:=qU (rv a.hi) (rv b.hi) v2;obtain⟨t2,e2⟩:=qU (rv a.hi) (rv b.lo) v1;obtain⟨t3,e3⟩:=qU (rv a.lo) (rv b.hi) v2;obtain⟨t4,e4⟩:=qU (rv a.lo) (rv b.lo) v1;have hl:=(oG (quoD a.hi b.hi P (-1)) (quoD a.hi b.lo P (-1)) (quoD a.lo b.hi P (-1)) (quoD a.lo b.lo P (-1))).2.2.2.2;have hh:=(oH (quoD a.hi b.hi P 1) (quoD a.hi b.lo P 1) (quoD a.lo b.hi P 1) (quoD a.lo b.lo P 1)).2.2.2.2;have A1:=akU h.2.1 f2 e1;have A2:=akU h.2.1 f1 e2;have A3:=akU h.1 f2 e3;have A4:=akU h.1 f1 e4
   -- each end is near one of the quotients
   have near:∀(m:Dy) (dir:Int),(m=quoD a.hi b.hi P dir\/m=quoD a.hi b.lo P dir\/m=quoD a.lo b.hi P dir\/m=quoD a.lo b.lo P dir)->∃t x y:Rat,(x=rv a.lo\/x=rv a.hi)/\(y=rv b.lo\/y=rv b.hi)/\t*y=x/\Am (Ma+G) t/\Err P (rv m) t:=by
    intro m dir hm;rcases hm with hm|hm|hm|hm<;>rw[hm]
    . exact⟨t1,_,_,Or.inr rfl,Or.inr rfl,e1,A1,(jG _ _ dir hP n2 e1).2.2⟩
    . exact⟨t2,_,_,Or.inr rfl,Or.inl rfl,e2,A2,(jG _ _ dir hP n1 e2).2.2⟩
    . exact⟨t3,_,_,Or.inl rfl,Or.inr rfl,e3,A3,(jG _ _ dir hP n2 e3).2.2⟩
    . exact⟨t4,_,_,Or.inl rfl,Or.inl rfl,e4,A4,(jG _ _ dir hP n1 e4).2.2⟩
   obtain⟨t,x,y,hx,hy,et,At,Et⟩:=near (jH a b P) (-1) hl;obtain⟨t',x',y',hx',hy',et',At',Et'⟩:=near (jI a b P) 1 hh;refine⟨Et.am hP At,Et'.am hP At',?_⟩;have b1:=(Et.bd At).2;have b2:=(Et'.bd At').1;show rv (jI a b P)-rv (jH a b P)<=p2 (-W);have wx:=akS h ha x' x hx' hx;have wy:=akS k hb y y' hy hy'
   -- (t' - t) * y' = x' - x + t * (y - y')
   have hy2:Far G y':=by rcases hy' with g|g<;>rw[g]<;>assumption
   have A5:=Am.mul At (N:=-Wb) (y:=y-y') wy;have hd:Am (max (-Wa) (Ma+G+-Wb)+1) (x'-x+t*(y-y')):=by
    refine Am.add (Am.mono (M:=-Wa) wx (by omega)) (A5.mono (by omega))
   have A6:=akU hd hy2 (t:=t'-t) (by grind);have q1:=half (a:=max (-Wa) (Ma+G+-Wb)+1+G) (b:=-W) (by omega);have q3:=quarter (a:=Ma+G+1-P) (b:=-W) (by omega);have:=A6.2;grind
 . cases hr
end
section
open Re (rat)
section
variable{L:List Ex}{P:Int}{a b:Ex}{x y z:Re}{c d:Ct}
theorem Vl.mul (hP:1<=P)(h:Vl L P a x c)(k:Vl L P b y d):Vl L P (.mul a b) (x*y) (akJ P c d):=by
 obtain⟨r,h1,h2,h3,h4⟩:=h.le hP;obtain⟨t,k1,k2,k3,k4⟩:=k.le hP;have:=h.hu;have:=h.hl;have:=h.hs;have:=k.hu;have:=k.hl;have:=k.hs;refine⟨h.den.mul k.den,⟨h.fin,k.fin⟩,⟨h.roots,k.roots⟩,⟨mulB r t P,by unfold dB;rw[h1,k1];rfl,?_⟩,by simp only[uE,akJ];omega,by simp only[uE,akJ];omega,by simp only[bN,akJ];omega⟩;exact al0 hP h2 k2 h4 k4 (by simp only[akJ];omega) (by simp only[akJ];omega) (by simp only[akJ];omega)
theorem Vl.far (hL:Lok L)(h:Vl L P a x c)(h0:x≠0):rat (p2 (-ctG L.length c+1))<=Re.ab x:=by
 refine Re.le_trans (Re.rat_le.2 (iC ?_)) (ah4 hL h.den h.roots h0);unfold ctG;have h1:max (uE a).1 (uE a).2<=max c.u c.l:=by have:=h.hu;have:=h.hl;omega
 have:=Nat.mul_le_mul_right (2^L.length) h1;omega
theorem Vl.div (hP:1<=P)(hL:Lok L)(h:Vl L P a x c)(k:Vl L P b y d)(h0:y≠0)(hz:z*y=x)(hW:ctG L.length d<=d.W):Vl L P (.div a b) z (akK P L.length c d):=by
 obtain⟨r,h1,h2,h3,h4⟩:=h.le hP;obtain⟨t,k1,k2,k3,k4⟩:=k.le hP;have:=h.hu;have:=h.hl;have:=h.hs;have:=k.hu;have:=k.hl;have:=k.hs;have hf:=ajX k3 k2 (k.far hL h0) hW;obtain⟨q,hq⟩:=quo_some hf r P;refine⟨h.den.div k.den h0 hz,⟨h.fin,k.fin⟩,⟨h.roots,k.roots⟩,⟨q,by unfold dB;rw[h1,k1];exact hq,?_⟩,by simp only[uE,akK];omega,by simp only[uE,akK];omega,by simp only[bN,akK];omega⟩;refine al1 (G:=ctG L.length d) hP h2 k2 h4 k4 ?_ ?_ (by simp only[akK];omega) (by simp only[akK];omega) (by simp only[akK];omega) hq
 . rcases hf with g|g
   . exact Or.inl g.1
   . exact Or.inr g.1
 . rcases hf with g|g
   . exact Or.inl g.2
   . exact Or.inr g.2
theorem Lok.cons (hL:Lok L)(h:Vl L P a x c)(h0:0<=x):Lok (.root a::L):=by
 obtain⟨s,s1,s2⟩:=Re.exists_sqrt h0;refine⟨⟨hL.1,a,rfl,h.roots⟩,fun r hr=> ?_⟩;rcases List.mem_cons.1 hr with hr|hr
 . rw[hr];exact⟨s,h.den.root s1 s2⟩
 . exact hL.2 r hr
theorem Lok.nil:Lok []:=⟨trivial,fun r hr=>by cases hr⟩
end
end
section
open Go.RowKit Go.Maps
variable{a b e0:Ex}{l:List Nat}{i j:Nat}{v:Value}
section
variable{P:Ex->Prop}{B N:Nat}{w w':World}{g:Nat}{ns ns':List Nd}
theorem St.more {M:Nat}(h:St P B N w g ns)(hM:N<=M):St P B M w g ns:=⟨h.dag,h.all,h.hi,h.tab,h.tb,h.hB,Nat.le_trans h.room hM⟩
end
theorem al2{P:Ex->Prop}{B N:Nat}{w:World}{g:Nat}{ns:List Nd}(hs:St P B N w g ns)(hN:N<20000)(ha:Is ns a i)(hb:Is ns b j)(hP:P (.div a b)):
 Calls Tryz.prog 45 #[.pointer (some ⟨g,0,none⟩),.int .i64 (i:Int),.int .i64 (j:Int)] w (RetE P B (N+1) w g ns idV (.div a b)):=by
 have HP:=hdd (mM (n:=⟨4,0,i,j⟩) hs.dag (ab9 (Or.inr (Or.inr (Or.inr rfl))) ha.lt hb.lt hs.dag.len) (by simp) (by have:=hs.room;omega));have HR:Hid (∀(w':World) (k:Nat) (ns':List Nd),DagP w' g ns'->ns'[k]? =some ⟨4,0,i,j⟩->(ns'=ns\/ns'=ns++[⟨4,0,i,j⟩])->DS g w w'->RetE P B (N+1) w g ns idV (.div a b) (.returned (.int .i64 (k:Int))) w'):=
  hdd fun w' k ns' h1 h2 h3 h4=>agL (mk:=idV) hs (Or.inr (Or.inr (Or.inr rfl))) ha hb hP h1 h2 h3 h4
 clear hs hN ha hb hP;dsimp only at HP;go_enter Tryz.func45,Tryz.ntmps45
 go_wp2_with fail
 refine HP.out.mono ?_;rintro e w2⟨k,ns',rfl,hd2,hi,hns,hs⟩;have HF:=hdd (HR.out _ _ _ hd2 hi hns hs);clear hd2 hi hns hs;go_wp2;go_ret;exact HF.out
theorem St.madeN {P:Ex->Prop}{w':World}{g:Nat}{B:Nat}(hT:Tab w')(htb:0<B)(hB:B<=w'.heap.size)(h1:w'.heap[g]? =some (.cells #[.slice none 0 0,.map none] 65 (0,0)))(hg:B<=g):St P B 0 w' g []:=by
 refine⟨Or.inr ⟨.slice none 0 0,h1,World.ownsRow_nil _ _ _ _,by simp[Value.ownBlock],by simp,by simp⟩,fun k hk=>by simp at hk,?_,hT,htb,hB,by simp⟩;rintro b(rfl|⟨v,mo,T,e,hb⟩)
 . exact hg
 . rw[h1]at e
   simp only[Option.some.injEq,Obj.cells.injEq,Array.mk.injEq,List.cons.injEq,Value.map.injEq,and_true]at e;obtain⟨⟨rfl,rfl⟩,-⟩:=e;rcases hb with hb|hb
   . simp[Value.ownBlock]at hb
   . cases hb
theorem alL{P:Ex->Prop}{B N:Nat}{w:World}{g:Nat}{ns:List Nd}{i0:Nat}{es:List Ex}(hs:St P B N w g ns)(hl:IntsD g w v (i0::l))(hlen:l.length=es.length)(h0:0<l.length)
 (he0:Is ns e0 i0) (hes:∀(m x:Nat) e,l[m]? =some x->es[m]? =some e->Is ns e x) (hP:∀m,m<es.length->P (iH 3 e0 (es.take (m+1)))) (hN:N+l.length<=20000):
 Calls Tryz.prog 40 #[.pointer (some ⟨g,0,none⟩),v] w (RetE P B (N+l.length) w g ns idV (iH 3 e0 es)):=by
 have HF:=hdd (agN hs (Or.inr rfl) hl hlen h0 he0 hes hP hN);obtain⟨b,c,rfl,hc1,hc2,hn,hbl,hcell⟩:=id hl;simp only[List.length_cons]at*;have hl1:(1:Int)<=(l.length:Int):=by omega
 have hl2:(l.length:Int)<=20000:=by omega
 have hq:((l.length:Int)+1==0)=false:=beq_eq_false_iff_ne.2 (by omega);have hq2:(((l.length+1:Nat):Int)==0)=false:=beq_eq_false_iff_ne.2 (by omega);clear hs hl he0 hes hP hlen hn hbl hcell hc1 hc2 h0 hN;go_enter Tryz.func40,Tryz.ntmps40
 go_wp2_with fail
 refine HF.out.mono ?_;rintro e w2⟨k,ns',rfl,h⟩;have HR:=hdd h;clear h;unfold idV;go_wp2;go_ret;exact⟨k,ns',rfl,HR.out⟩
theorem alM{P:Ex->Prop}{B:Nat}{w:World}(hT:Tab w)(htb:0<B)(hB:B<=w.heap.size):
 Calls Tryz.prog 6 #[.bool false] w (agP P B w):=by
 obtain⟨w1,hw1,hb1,hs1,b1⟩:=pro1 w (.cells #[.slice none 0 0,.map none] 65);obtain⟨c0,c1,f0,f1⟩:=aB b1;have HR:Hid (agP P B w (.returned (.pointer (some ⟨w.heap.size,0,none⟩))) w1):=hdd
  ⟨_,rfl,St.madeN (hT.below hb1) htb (Nat.le_trans hB hb1.size) b1 hB,hb1,Nat.le_refl _⟩
 clear hT htb hB hb1 b1 hs1;go_enter Tryz.func6,Tryz.ntmps6
 go_wp2;go_ret;exact HR.out
theorem al3{P:Ex->Prop}{B N:Nat}{w:World}{g:Nat}{ns:List Nd}(hs:St P B N w g ns)(hN:N<20000)(ha:Is ns a i)(hb:Is ns b j)(hP:P (.div a b)):
 Calls Tryz.prog 19 #[numV g i,numV g j] w (RetE P B (N+1) w g ns (numV g) (.div a b)):=by
 obtain⟨w3,hw3,hb3,hs3,b1,b2,b3⟩:=pro3 w (.cells #[.pointer (some ⟨g,0,none⟩),.int .i64 (i:Int)] 33) (.cells #[.pointer (some ⟨g,0,none⟩),.int .i64 (j:Int)] 33) (.cells #[.pointer none,.int .i64 0] 33);obtain⟨w4,hw4,hb4,hs4,b4⟩:=pro1 w3 (.cells #[.pointer (some ⟨g,0,none⟩),.int .i64 (j:Int)] 33);have h34:=aA hb3 hb4;have HG:=hdd (zN (hs.dag.below h34) ha.lt (agS b4) (fun x hx=>by simp at hx;subst hx;exact hb.lt));have HOP:Hid (∀w',Below w.heap.size w w'->Calls Tryz.prog 45 #[.pointer (some ⟨g,0,none⟩),.int .i64 (i:Int),.int .i64 (j:Int)] w' (RetE P B (N+1) w' g ns idV (.div a b))):=hdd fun w' h=>al2 (hs.below h) hN ha hb hP;have HAW:Hid (∀w' (c:Nat),Below w.heap.size w w'->w.heap.size<=c->¬DagB w' g c):=hdd fun w' c h=>hs.away h;have HGL:=hdd hs.dag.glt;have HBL:=hdd hs.hB;obtain⟨c0,c1,-,-⟩:=aB b1;obtain⟨d0,d1,-,-⟩:=aB b2;have HB4:=hdd h34;have B3:=hdd (aD b3 hb4 (aC b3));have HSZ:Hid (w.heap.size+2<w4.heap.size):=hdd (by omega);have e0:=cbl c0 hb4
 have e1:=cbl c1 hb4;have e2:=cbl d0 hb4;have e3:=cbl d1 hb4;clear hs hN ha hb hP hb3 hb4 h34 b1 b2 b3 b4 hs3 hs4;go_enter Tryz.func19,Tryz.ntmps19
 go_wp2_with fail
 refine HG.out.mono ?_;rintro e w5⟨rfl,hb5⟩;have hb5d:Below w4.heap.size w4 w5.drew:=aA hb5 (Below.refl _ _).drew;replace e0:=cbl e0 hb5d;replace e1:=cbl e1 hb5d;replace e2:=cbl e2 hb5d;replace e3:=cbl e3 hb5d;have HB5:=hdd (aA HB4.out hb5d);have B5:=hdd (aD B3.out hb5d (aC B3.out));have HSZ5:Hid (w.heap.size+2<w5.drew.heap.size):=hdd (by have:=hb5d.size;have:=HSZ.out;omega);clear hb5 hb5d c0 c1 d0 d1 hw3 hw4;have n1:w.heap.size+1+1≠w.heap.size:=by omega
 have n2:w.heap.size≠w.heap.size+1+1:=by omega
 go_wp2_with fail
 go_region_held3 (fun w'=>w'.cell? ⟨w.heap.size,0,none⟩=some (.pointer (some ⟨g,0,none⟩))/\w'.cell? ⟨w.heap.size,1,none⟩=some (.int .i64 (i:Int))/\w'.cell? ⟨w.heap.size+1,1,none⟩=some (.int .i64 (j:Int))) (go_keep)
  (first
  |(go_at_call 45
    refine(HOP.out _ HB5.out).mono ?_;rintro e w6⟨k,ns',rfl,h1,h2,h3,h4⟩;have e0:=h4.cell e0 (HAW.out _ _ HB5.out (by simp));have e1:=h4.cell e1 (HAW.out _ _ HB5.out (by simp));have e3:=h4.cell e3 (HAW.out _ _ HB5.out (by simp));have B6:=(h4.heap (b:=w.heap.size+2) HSZ5.out (HAW.out _ _ HB5.out (by omega))).trans B5.out;obtain⟨r0,r1,f0,f1⟩:=aB B6;have HF:Hid (FoldSt P B (N+1) w g ns (.div a b) k ((w6.setCell ⟨w.heap.size+2,0,none⟩ (.pointer (some ⟨g,0,none⟩))).setCell ⟨w.heap.size+2,1,none⟩ (.int .i64 (k:Int)))):=
     hdd (FoldSt.set2 (w0:=w) ⟨ns',h1,h2,h3,h4⟩ (Or.inr trivial) HGL.out HB5.out (by omega) (HAW.out _ _ HB5.out (by omega)) HSZ5.out (by have:=HBL.out;omega) _ _)
    have HX:=hdd (set2 B6 (.pointer (some ⟨g,0,none⟩)) (.int .i64 (k:Int)));clear h1 h2 h3 h4 B6))
 go_wp2;obtain⟨x0,x1,-,-⟩:=aB HX.out;refine bodyPost_ret (v:=.agg #[_,_]) (by simp[results,Tryz.results19,go_sem,x0,x1];first|exact⟨rfl,rfl⟩|rfl) rfl ?_;exact HF.out.ret (numV g)
theorem al4{P:Ex->Prop}{B N:Nat}{w:World}{g:Nat}{ns:List Nd}{es:List Ex}(hs:St P B N w g ns)(hl:NumsP w v g l)(hlen:l.length=es.length)(h0:0<l.length)
 (he0:Is ns e0 i) (hes:∀(m x:Nat) e,l[m]? =some x->es[m]? =some e->Is ns e x) (hP:∀m,m<es.length->P (iH 3 e0 (es.take (m+1)))) (hN:N+l.length<=20000):
 Calls Tryz.prog 16 #[numV g i,v] w (RetE P B (N+l.length) w g ns (numV g) (iH 3 e0 es)):=by
 obtain⟨w2,hw2,hb2,hs2,b1,b2⟩:=pro2 w (.cells #[.pointer (some ⟨g,0,none⟩),.int .i64 (i:Int)] 33) (.cells #[.pointer none,.int .i64 0] 33);have hll:∀x∈l,x<ns.length:=fun x hx=>by
  obtain⟨m,hm⟩:=List.getElem?_of_mem hx;have hml:=(List.getElem?_eq_some_iff.1 hm).1;exact(hes m x es[m] hm (List.getElem?_eq_getElem (by omega))).lt
 have HG:=hdd (zN (hs.dag.below hb2) he0.lt (hl.below hb2) hll);have HIDS:Hid (∀w',Below w.heap.size w w'->Calls Tryz.prog 39 #[.agg #[.pointer (some ⟨g,0,none⟩),.int .i64 (i:Int)],v] w' (aa7 w' (i::l))):=hdd fun w' h=>aiF (hl.below h);have HAW:Hid (∀w' (c:Nat),Below w.heap.size w w'->w.heap.size<=c->¬DagB w' g c):=hdd fun w' c h=>hs.away h;have HOP:Hid (∀w' v' (q:Nat),Below w.heap.size w w'->w.heap.size<=q->IntsP (fun b=>q<=b) w' v' (i::l)->Calls Tryz.prog 40 #[.pointer (some ⟨g,0,none⟩),v'] w' (RetE P B (N+l.length) w' g ns idV (iH 3 e0 es))):=
  hdd fun w' v' q h hq hi=>by
   obtain⟨b,c,q1,q2,q3,q4,q5,q6⟩:=hi;exact alL (hs.below h) ⟨b,c,q1,q2,q3,hs.away h (Nat.le_trans hq q4),q5,q6⟩ hlen h0 he0 hes hP hN
 have HGL:=hdd hs.dag.glt;have HBL:=hdd hs.hB;obtain⟨e0',e1',-,-⟩:=aB b1;have HB2:=hdd hb2;have B2:=hdd b2;have HSZ:Hid (w.heap.size+1<w2.heap.size):=hdd (by omega);obtain⟨bv,cv,rfl,-⟩:=id hl;clear hs hl hlen h0 he0 hes hP hN hll hb2 hs2 b1 b2;go_enter Tryz.func16,Tryz.ntmps16
 go_wp2_with fail
 refine HG.out.mono ?_;rintro e w5⟨rfl,hb5⟩;have hb5d:Below w2.heap.size w2 w5.drew:=aA hb5 (Below.refl _ _).drew;replace e0':=cell_below e0' hb5d nlr;replace e1':=cell_below e1' hb5d nlr;have HB5:=hdd (aA HB2.out hb5d);have B5:=hdd (aD B2.out hb5d (aC B2.out));clear hb5 hb5d;have n1:w.heap.size+1≠w.heap.size:=by omega
 have n2:w.heap.size≠w.heap.size+1:=by omega
 go_wp2_with fail
 go_region_held3 (fun w'=>w'.cell? ⟨w.heap.size,0,none⟩=some (.pointer (some ⟨g,0,none⟩))/\w'.cell? ⟨w.heap.size,1,none⟩=some (.int .i64 (i:Int))) (go_keep)
  (first
  |(go_at_call 39
    refine(HIDS.out _ HB5.out).mono ?_;rintro e w6⟨hb6,v6,rfl,hi6⟩;have e0':=cell_below e0' hb6 nlr;have e1':=cell_below e1' hb6 nlr;have HB6:=hdd (aA HB5.out hb6);have B6:=hdd (aD B5.out hb6 (aC B5.out));have HADD:=hdd (HOP.out w6 v6 _ HB6.out HB5.out.size hi6);obtain⟨b6,c6,rfl,-⟩:=hi6;clear hb6)
  |(go_at_call 40
    refine HADD.out.mono ?_;rintro e w7⟨k,ns',rfl,h1,h2,h3,h4⟩;have e0':=h4.cell e0' (HAW.out _ _ HB6.out (by simp));have e1':=h4.cell e1' (HAW.out _ _ HB6.out (by simp));have hlt6:w.heap.size+1<w6.heap.size:=aC B6.out;have B7:=(h4.heap (b:=w.heap.size+1) hlt6 (HAW.out _ _ HB6.out (by omega))).trans B6.out;obtain⟨r0,r1,f0,f1⟩:=aB B7;have HF:Hid (FoldSt P B (N+l.length) w g ns (iH 3 e0 es) k ((w7.setCell ⟨w.heap.size+1,0,none⟩ (.pointer (some ⟨g,0,none⟩))).setCell ⟨w.heap.size+1,1,none⟩ (.int .i64 (k:Int)))):=
     hdd (FoldSt.set2 (w0:=w) ⟨ns',h1,h2,h3,h4⟩ (Or.inr trivial) HGL.out HB6.out (by omega) (HAW.out _ _ HB6.out (by omega)) hlt6 (by have:=HBL.out;omega) _ _)
    have HX:=hdd (set2 B7 (.pointer (some ⟨g,0,none⟩)) (.int .i64 (k:Int)));clear h1 h2 h3 h4 B7 hlt6))
 go_wp2;obtain⟨x0,x1,-,-⟩:=aB HX.out;refine bodyPost_ret (v:=.agg #[_,_]) (by simp[results,Tryz.results16,go_sem,x0,x1];first|exact⟨rfl,rfl⟩|rfl) rfl ?_;exact HF.out.ret (numV g)
end
section
open Go.RowKit Go.Maps
open Re (rat ofI ofN)
theorem AllGd.mul {a b:Ex}(h:AllGd a)(k:AllGd b):AllGd (.mul a b):=
 ⟨fun x y s=>by cases s with|mulL s=>exact h.1 x y s|mulR s=>exact k.1 x y s,fun x s=>by cases s with|mulL s=>exact h.2 x s|mulR s=>exact k.2 x s⟩
theorem AllGd.div {a b:Ex}{K j:Nat}{v:Re}(h:AllGd a)(k:AllGd b)(hG:Gd K j b v):AllGd (.div a b):=
 ⟨fun x y s=>by cases s with|refl=>exact⟨_,_,_,hG⟩|divL s=>exact h.1 x y s|divR s=>exact k.1 x y s,fun x s=>by cases s with|divL s=>exact h.2 x s|divR s=>exact k.2 x s⟩
section
variable{L:List Ex}{a b:Ex}{x y z:Re}{k m n:Nat}
end
section
variable{L:List Ex}{b:Nat}{x:Int}
end
end
section
open Go.RowKit Go.Maps
section
variable{P:Ex->Prop}{B N M:Nat}{w W W':World}{g:Nat}{ns ns' ns'':List Nd}{l:List (Nat×Obj)}
theorem Stg.more (h:Stg P B N w g ns W ns' l)(hM:N<=M):Stg P B M w g ns W ns' l:=⟨⟨h.grew.1.more hM,h.grew.2⟩,h.kept,h.hw,h.nodup⟩
end
section
variable{P:Ex->Prop}{B N M:Nat}{w W W':World}{g i j b v:Nat}{ns ns' ns'':List Nd}{l:List (Nat×Obj)}{x y:Ex}
end
section
variable{α:Type}{a:α}{l:List α}
end
section
variable{s:Bs}{w0 w1 W W':World}{g N M:Nat}{K:List (Ex×Nat)}{l l':List (Nat×Obj)}
theorem Run.more (h:Run s g N K l W)(hM:N<=M):Run s g M K l W:=by obtain⟨ns',hs,hK⟩:=h;exact⟨ns',hs.more hM,hK⟩
end
section
variable{s:Bs}{W W':World}{g N M:Nat}{K:List (Ex×Nat)}{l:List (Nat×Obj)}{x y:Ex}{ns:List Nd}
end
section
variable{s:Bs}{W:World}{g N i j k m b v:Nat}{K:List (Ex×Nat)}{l:List (Nat×Obj)}{x y:Ex}{q:Int}
theorem Run.sub2 (h:Run s g N K l W)(hN:N<20000)(hx:(x,i)∈K)(hy:(y,j)∈K):Calls Tryz.prog 17 #[numV g i,numV g j] W (RtR s g (N+1) K l (.sub x y)):=by
 obtain⟨ns,hs,hK⟩:=h;exact(aiG hs.st hN (hK _ hx) (hK _ hy) trivial).mono fun _ _ hr=>oO hs hK hr
theorem Run.div2 (h:Run s g N K l W)(hN:N<20000)(hx:(x,i)∈K)(hy:(y,j)∈K):Calls Tryz.prog 19 #[numV g i,numV g j] W (RtR s g (N+1) K l (.div x y)):=by
 obtain⟨ns,hs,hK⟩:=h;exact(al3 hs.st hN (hK _ hx) (hK _ hy) trivial).mono fun _ _ hr=>oO hs hK hr
theorem Run.sign (h:Run s g N K l W)(hx:(x,i)∈K)(hS:lK PT x q):Calls Tryz.prog 18 #[numV g i] W (RtA s g N K l (.tuple #[.int .i64 q,.nilIface])):=by
 obtain⟨ns,hs,hK⟩:=h;exact(zP hs.st (hK _ hx) hS).mono fun _ _ hr=>⟨hr.1,ns,hs.below hr.2,hK⟩
variable{px py qx qy rx ry:Ex}{i' j' k':Nat}
end
theorem alN{w0 w1:World}{l:List (Nat×Obj)}(hb1:Below w0.heap.size w0 w1)(hk:∀p∈l,w1.heap[p.1]? =some p.2/\w0.heap.size<=p.1)(hn:(l.map (·.1)).Nodup)(hT:Tab w0)(htb:0<w0.heap.size):
 Calls Tryz.prog 6 #[.bool false] w1 (fun e W=>∃g,e=.returned (.pointer (some ⟨g,0,none⟩))/\Run (bs w0) g 0 [] l W):=by
 refine(alM (P:=PT) (hT.below hb1) (Nat.lt_of_lt_of_le htb hb1.size) nlr).mono ?_;rintro e W⟨g,rfl,hs,hb,-⟩;exact⟨g,rfl,Run.start hb1 hk hn htb hs hb⟩
end
section
open Go.RowKit Go.Maps
open Re (rat ofI ofN)
section
variable{L:List Ex}{s t:Sh}{a b:Ex}{x y z:Re}
theorem Fit.mul (h:Fit L s a x)(g:Fit L t b y):Fit L (.mul s t) (.mul a b) (x*y):=fun k=>by
 simp only[Sh.ok,Bool.and_eq_true]at k;have h:=h k.1;have g:=g k.2;exact⟨Vl.mul (by omega) h.vl g.vl,by have:=h.cost;have:=g.cost;simp only[cK,Sh.cost];omega,h.gd.mul g.gd,by have:=h.rt;have:=g.rt;simp only[rtE,Sh.rt];omega⟩
theorem Fit.div (hL:Lok L)(h:Fit L s a x)(g:Fit L t b y)(h0:y≠0)(hz:z*y=x):Fit L (.div s t) (.div a b) z:=fun k=>by
 simp only[Sh.ok,Bool.and_eq_true]at k;have h:=h k.1;have g:=g k.2.1;exact⟨Vl.div (by omega) hL h.vl g.vl h0 hz (of_decide_eq_true k.2.2.2),by have:=h.cost;have:=g.cost;simp only[cK,Sh.cost];omega,h.gd.div g.gd (g.good k.2.2.1),by have:=h.rt;have:=g.rt;simp only[rtE,Sh.rt];omega⟩
theorem Fit.lok (hL:Lok L)(h:Fit L s a x)(hs:s.ok L.length=true)(h0:0<=x):Lok (.root a::L):=hL.cons (h hs).vl h0
end
end
section
open Go.RowKit
section
variable{P:Program}{w:World}{b off:Nat}{T:TypeId}{cs:List Value}
theorem alE{k:Nat}{v:Value}(h:w.heap[b]? =some (.cells cs.toArray T (0,0)))(hv:cs[k]? =some v):w.cell? ⟨b,k,none⟩=some v:=by
 simp[World.cell?,h,hv]
end
end
section
open Go.RowKit Go.Maps
open Re (rat ofI ofN)
section
variable{L:List Ex}{A B C D A' B' C':Ex}{a b c d a' b' c':Re}{i j k l i' j' k':Nat}
end
theorem amN:fv 4607182418800017408=(1:Int)*(U74:Int):=by kernel_rfl
theorem akV{L:List Ex}:Fit L (.leaf 1 0) (.leaf 4607182418800017408) (rat 1):=Fit.leaf 1 (by decide) (by decide) amN (by decide)
section
variable{L:List Ex}{s t:Sh}{a b:Ex}{p q:Rat}
end
end
section
open Go.RowKit Go.Maps
open List renaming mem_cons_of_mem->amR,mem_cons_self->amS,mem_singleton->amT,nodup_cons->amU,mem_cons->amV,map_cons->amW
section
variable{s:Bs}{g N:Nat}{K:List (Ex×Nat)}{l l':List (Nat×Obj)}{W W':World}{b bb nb:Nat}{o O O':Obj}
theorem Run.board {ln:List (Nat×Obj)}(h:Run s g N K ((bb,O)::l) W)(hg:W.grownBy W' (some bb))(hO:W'.heap[bb]? =some O')(hn:∀p∈ln,W'.heap[p.1]? =some p.2/\W.heap.size<=p.1)(hd:ln.length<=1):Run s g N K ((bb,O')::(ln++l)) W':=by
 obtain⟨ns',hs,hK⟩:=h;have hw:=hs.write hg hO;refine⟨ns',⟨hw.grew,fun p hp=> ?_,hw.hw,?_⟩,hK⟩
 . rcases amV.1 hp with rfl|hp
   . exact hw.kept _ (amS ..)
   . rcases List.mem_append.1 hp with hp|hp
     . obtain⟨q1,q2⟩:=hn p hp
       have hgb:some g≠some bb:=fun e=>(hs.kept (bb,O) (by simp)).2.1 (Or.inl (Option.some.inj e).symm);exact⟨q1,fun hd=>by have:=hs.grew.1.dag.dagB ((DagB.congr (hg.block g hs.grew.1.dag.glt hgb)).1 hd);omega,Nat.le_trans hs.grew.2.2.size q2⟩
     . exact hw.kept p (amR _ hp)
 . have hnd:=hw.nodup
   match ln,hn,hd with
   |[],_,_=>exact hnd
   |[q],hn,_=>
    obtain⟨-,q2⟩:=hn q (amT.2 rfl);have hlt:∀p∈(bb,O)::l,p.1<W.heap.size:=fun p hp=>hs.lt hp;simp only[amW,amU,List.cons_append,List.nil_append]at hnd|-;refine⟨fun hm=> ?_,fun hm=> ?_,hnd.2⟩
    . rcases amV.1 hm with e|hm
      . have:=hlt (bb,O) (by simp);simp only at this;omega
      . exact hnd.1 hm
    . obtain⟨p,hp,e⟩:=List.mem_map.1 hm
      have:=hlt p (amR _ hp);omega
end
theorem Run.subl {s:Bs}{g N:Nat}{K:List (Ex×Nat)}{l l':List (Nat×Obj)}{W:World}(h:Run s g N K l W)(hs:l'.Sublist l):Run s g N K l' W:=h.sub (fun _ hp=>hs.subset hp) (h.nodup.sublist (hs.map _))
def OwnR(T:TypeId)(sz:Nat)(v:Value)(n:Nat)(xs:List Value)(lr:List (Nat×Obj)):Prop:=
 xs.length=n*sz/\((v=.slice none 0 0/\n=0/\lr=[])\/∃(r cap:Nat) (cur:Array Value),v=.slice (some ⟨r,0,none⟩) n cap/\lr=[(r,.cells cur T)]/\n<=cap/\cap<=maxLen/\cur.size=cap*sz/\cur.toList.take (n*sz)=xs)
theorem OwnR.nil (T:TypeId)(sz:Nat):OwnR T sz (.slice none 0 0) 0 [] []:=⟨by simp,Or.inl ⟨rfl,rfl,rfl⟩⟩
section
variable{s:Bs}{g N n n' sz g0 cap:Nat}{K:List (Ex×Nat)}{L lr:List (Nat×Obj)}{W w':World}{v:Value}{xs xs':List Value}{T:TypeId}
theorem OwnR.slice (h:OwnR T sz v n xs lr):∃p c,v=.slice p n c:=by
 rcases h.2 with ⟨rfl,rfl,-⟩|⟨r,c,cur,rfl,-⟩
 . exact⟨none,0,rfl⟩
 . exact⟨_,_,rfl⟩
theorem OwnR.own (h:OwnR T sz v n xs lr)(hR:Run s g N K (lr++L) W):W.ownsRow 0 T sz v n xs:=by
 refine⟨h.1,?_⟩;rcases h.2 with ⟨rfl,rfl,-⟩|⟨r,c,cur,rfl,rfl,h1,h2,h3,h4⟩
 . exact .inl ⟨rfl,rfl⟩
 . exact .inr ⟨r,c,cur,rfl,Nat.zero_le _,hR.at (amS ..),h1,h2,h3,h4⟩
theorem OwnR.grow (h:OwnR T sz v n xs lr)(hR:Run s g N K (lr++L) W)(hown:w'.ownsRow 0 T sz (.slice (some ⟨g0,0,none⟩) n' cap) n' xs')(hg:W.grownBy w' v.ownBlock)(hat:v.ownBlock=some g0\/g0=W.heap.size):
 ∃lr',OwnR T sz (.slice (some ⟨g0,0,none⟩) n' cap) n' xs' lr'/\Run s g N K (lr'++L) w':=by
 obtain⟨hx,hy⟩:=hown;rcases hy with ⟨e,-⟩|⟨g1,c1,cur,e,-,hgg,h1,h2,h3,h4⟩
 . simp at e
 . simp only[Value.slice.injEq,Option.some.injEq,Addr.mk.injEq]at e
   obtain⟨⟨rfl,-⟩,-,rfl⟩:=e;refine⟨[(g0,.cells cur T)],⟨hx,Or.inr ⟨g0,cap,cur,rfl,rfl,h1,h2,h3,h4⟩⟩,?_⟩;rcases h.2 with ⟨rfl,-,rfl⟩|⟨r,c,cur',rfl,rfl,-⟩
   . rcases hat with e|rfl
     . simp[Value.ownBlock]at e
     . exact Run.keep hR ⟨hg.os,hg.tape,hg.output,hg.size,fun b hb=>hg.block b hb (by simp[Value.ownBlock])⟩ hgg nlr
   . rcases hat with e|rfl
     . obtain rfl:r=g0:=by simpa[Value.ownBlock]using e
       exact Run.write hR hg hgg
     . have hl:=hR.at (amS ..)
       obtain⟨o',ho'⟩:∃o',w'.heap[r]? =some o':=⟨_,Array.getElem?_eq_getElem (Nat.lt_of_lt_of_le (aC hl) hg.size)⟩;have h5:=Run.board (ln:=[(W.heap.size,.cells cur T)]) hR hg ho' (fun p hp=>by
        obtain rfl:=amT.1 hp;exact⟨hgg,Nat.le_refl _⟩) nlr
       exact h5.sub (fun p hp=>amR _ hp) (amU.1 (by have:=h5.nodup;rwa[amW]at this)).2
end
section
variable{s:Bs}{g N n sz:Nat}{K:List (Ex×Nat)}{L lr:List (Nat×Obj)}{W:World}{v:Value}{xs:List Value}{T:TypeId}
end
section
variable{s:Bs}{g N n sz:Nat}{K:List (Ex×Nat)}{L lr:List (Nat×Obj)}{W:World}{v:Value}{xs:List Value}{T:TypeId}
end
end
section
open Go.ChangeShapes Go.WideShapes Go.ChangeAt Go.RowKit
variable{W:World}
def amH : List (String × DataW Unit) := [("math/bits.deBruijn64tab", Rows.laid_math_bits_deBruijn64tab)]
theorem al5:ownKnob Tryz.prog.godebug=none:=by kernel_rfl
theorem ak2 : Tryz.prog.globalNamed "math/bits.deBruijn64tab" = some 0 := by kernel_rfl
theorem alO:(Tryz.prog.globals[0]?).map (·.type)=some 244:=by kernel_rfl
theorem al6:Tryz.prog.underlying 244=some (.array 64 5):=by kernel_rfl
theorem amJ:Tryz.prog.underlying 5=some (.int .u8):=by kernel_rfl
theorem alP:Tryz.prog.cellsOf 5=1:=by kernel_rfl
theorem alJ:Tryz.prog.cellsOf 244=64:=by kernel_rfl
def tabZ:List Int:=Lib.deBruijn64tab.map fun(x:Nat)=>(x:Int)
theorem al7 : amH = [("math/bits.deBruijn64tab", Lib.tabData .u8 tabZ)] := by kernel_rfl
theorem ak6(h:laidMetH Tryz.prog amH W):Tab W:=by
 rw[MakeChecks.laidMetH_plain _ _ _ (by kernel_rfl),al7]at h;have hT:=Lib.tabIs_of_head ak2 alO al6 amJ alP alJ h;intro j hj;have hl:tabZ.length=Lib.deBruijn64tab.length:=by simp[tabZ]
 have:=hT.cell ak2 j (by omega);rw[this];have e:tabZ.getD j 0=((Lib.deBruijn64tab.getD j 0:Nat):Int):=by
  simp only[tabZ,List.getD_eq_getElem?_getD,List.getElem?_map];rw[List.getElem?_eq_getElem hj];rfl
 rw[e]
theorem amK(h:Tab W):0<W.heap.size:=World.block_lt_of_cell? W _ (h 0 (by decide))
section
variable{H:Type}{enc:TypeId×Value->H}
theorem alK{f:Func}{s:ChangeSpec}{W':World}{args:Array Value}{ds:List (DataW H)}{before:List MemPlace}
 (hW:DataW.Whole enc Tryz.prog f.params.toList s.vars false W args.toList ds [] before) (hv:s.vars=[]) (hr:f.resultTypes=#[4]) (hs:s.fn H (ds++[])={results:=[.lit (.bool true)],args:=ds})
 (hargs:∀sp:Nat->Bool,(∀p∈before,sp p.block=true)->DataW.TrodAll enc Tryz.prog W' 0 sp true f.params.toList args.toList ds before) (hb:Below W.heap.size W W'):
 s.post enc Tryz.prog f false true false false W args (.bool true) W':=by
 have hlt:∀p∈before,p.block<W.heap.size:=fun p hp=>hW.lt p hp;have hold:∀p∈before,(fun b=>decide (b<W.heap.size)) p.block=true:=fun p hp=>by simpa using hlt p hp
 have hres:∀(b:Nat) (sp:Nat->Bool) (hd:Bool),DataW.TrodAll enc Tryz.prog W' b sp hd f.resultTypes.toList ((Value.bool true).resultList f.resultTypes.size) [.lit (.bool true)] []:=by
  intro b sp hd;rw[hr];exact trodAll_cons_mk (shut_bool Tryz.underlying4 _) trodAll_mk0
 have hvars:∀sp:Nat->Bool,DataW.TrodVars enc Tryz.prog W' sp s.vars [] []:=fun sp=>by rw[hv];rfl
 refine⟨ds,[],before,[],before,[],hW,?_,?_,?_,?_,fun h=>by cases h⟩
 . rw[hs];exact hres _ _ _
 . rw[hs];exact hargs _ hold
 . rw[hs];exact hvars _
 . refine World.keptBut_mono (fun p hp=> ?_) (hb.frame (· ∈before))
   exact⟨hp,by simpa using hp⟩
end
section
variable{H:Type}{enc:TypeId×Value->H}{P:Program}{w:World}{base:Nat}{spare:Nat->Bool}{held:Bool}
end
section
variable{H:Type}{enc:TypeId×Value->H}{P:Program}{w:World}{base:Nat}{spare:Nat->Bool}{held:Bool}
end
theorem ak3:Tryz.prog.cellsOf 3=1:=by kernel_rfl
end
section
open Go.ChangeShapes Go.WideShapes Go.ChangeAt Go.RowKit Go.Deep
open Go.DataW renaming trod->amX,trod_int->amZ,Trod->am0
open List.cons renaming injEq->amY
section
variable{H:Type}{enc:TypeId×Value->H}{P:Program}{w w':World}{sp:Nat->Bool}{t e e1:TypeId}{v:Value}{d:DataW H}{ps:List MemPlace}{k:IntKind}
def amI(enc:TypeId×Value->H)(P:Program)(e:TypeId):Prop:=∀(n:Nat) (w w':World) (b b':Nat) (sp sp':Nat->Bool) (cs:List Value) (x:DataW H×List MemPlace),amX enc P w b sp true n e cs=some x->x.2=[]/\amX enc P w' b' sp' true n e cs=some x
theorem alQ(he:P.underlying e=some (.int k)):amI enc P e:=by
 intro n w w' b b' sp sp' cs x h;obtain⟨z,rfl,rfl,hw⟩:=amZ he h
 cases n with
 |zero=>simp[amX]at h
 |succ n=>exact⟨rfl,by simp[amX,he,hw]⟩
theorem alC{b n:Nat}{a:Addr}{cs:List Value}(hh:∀b,b<w.heap.size->w'.heap[b]? =w.heap[b]?)(h:w.cells? b a n=some cs)(hlt:n=0\/a.block<w.heap.size):w'.cells? b a n=some cs:=by
 rw[<-h];unfold World.cells?;rcases hlt with rfl|hlt
 . rfl
 . split
   . congr 1
     funext i
     unfold World.cell?;have e:(a.add i).block=a.block:=by unfold Addr.add;split<;>rfl
     rw[e,hh _ hlt]
   . rfl
theorem amL(ht:P.underlying t=some (.slice e))(hf:amI enc P e)(hpos:0<P.cellsOf e)(hh:∀b,b<w.heap.size->w'.heap[b]? =w.heap[b]?)(h:am0 enc P w 0 (fun _=>true) true t v d ps)(hb:∀p∈ps,p.block<w.heap.size)(hsp:∀p∈ps,sp p.block=true):am0 enc P w' 0 sp true t v d ps:=by
 obtain⟨fuel,h⟩:=h;show∃n,amX enc P w' 0 sp true n t v.cells.toList=some (d,ps);rcases open_slice ht h with ⟨hc,hx⟩|⟨a,len,cap,m,n,D,Pl,hc,h0,hl,hm,hmm,hx,hi⟩
 . rw[hc,hx];exact shut_slice_nil ht
 . rw[hc]
   obtain rfl:m=cap:=by simpa using hmm
   simp only[Prod.mk.injEq]at hx;have hPl:∀i,i<m->Pl i=[]:=fun i hlt=>by
    obtain⟨cs,-,h2⟩:=hi i hlt;exact(hf _ _ w' _ 0 _ sp _ _ h2).1
   have hin:∀i,i<m->MemPlace.cell a.block (a.off+0)∈ps:=fun i hlt=>by
    rw[hx.2];refine List.mem_append_left _ ?_;unfold MemPlace.row;exact List.mem_map.2 ⟨0,List.mem_range.2 (Nat.mul_pos (by omega) hpos),rfl⟩
   have hread:∀i,i<m->∃cs n,w'.cells? 0 (a.add (i*P.cellsOf e)) (P.cellsOf e)=some cs/\amX enc P w' 0 sp true n e cs=some (D i,Pl i):=fun i hlt=>by
    obtain⟨cs,h1,h2⟩:=hi i hlt;refine⟨cs,n,alC hh h1 (Or.inr ?_),(hf _ _ w' _ 0 _ sp _ _ h2).2⟩;have:=hb _ (hin i hlt);have e:(a.add (i*P.cellsOf e)).block=a.block:=by unfold Addr.add;split<;>rfl
    rw[e];exact this
   rw[hx.1,hx.2]
   cases hs:sp a.block with
   |true=>exact shut_slice_whole_cells ht (Nat.zero_le _) hl hm hs D Pl hread
   |false=>
    have h0:m=0:=by
     rcases Nat.eq_zero_or_pos m with h|h
     . exact h
     . have:=hsp _ (hin 0 h);rw[show(MemPlace.cell a.block (a.off+0)).block=a.block from rfl]at this;rw[hs]at this;cases this
    subst h0;obtain rfl:len=0:=by omega
    have:=shut_slice_cells (enc:=enc) (held:=true) ht (Nat.zero_le _) (Nat.le_refl 0) hm hs D Pl (fun i hi=>by omega) (w:=w') (base:=0);simpa using this
theorem al8{r:Reach}{b0:Nat}(ht:P.underlying t=some (.slice e))(he:P.underlying e=some (.int k))(hce:P.cellsOf e=1)(hval:Value.okWide P w r b0 t v)(h:am0 enc P w 0 (fun _=>true) true t v d ps):
 ∃(p:Option Addr) (xs:List Int) (c:Nat),v=.slice p xs.length c/\∀j x,xs[j]? =some x->∃lb lo,p=some ⟨lb,lo,none⟩/\w.cell? ⟨lb,lo+j,none⟩=some (.int k x):=by
 obtain⟨fuel,h⟩:=h;have hv:v.cells.toList=[v]:=by
  unfold Value.okWide at hval;rw[ht]at hval
  cases v with
  |agg cs=>simp[Cell.okWide,Cell.ok,ht]at hval
  |_=>rfl
 rw[hv]at h;rcases open_slice1 ht hce h with ⟨hc,-⟩|⟨a,len,cap,m,n,V,D,Pl,hc,-,hl,-,hmm,-,hi⟩
 . simp only[amY,and_true]at hc
   exact⟨none,[],0,hc,fun j x hj=>by simp at hj⟩
 . simp only[amY,and_true]at hc
   simp only[if_true]at hmm;subst hmm;have hall:∀i,i<len->∃z:Int,w.cell? (a.add i)=some (.int k z):=fun i hlt=>by
    obtain⟨h1,h2⟩:=hi i (by omega);obtain⟨z,h3,-,-⟩:=amZ he h2;simp only[amY,and_true]at h3;exact⟨z,by rw[h1,h3]⟩
   obtain⟨f,hf⟩:=choose_lt hall;refine⟨some a,(List.range len).map f,m,by simpa using hc,fun j x hj=> ?_⟩;simp only[List.getElem?_map,Option.map_eq_some_iff]at hj;obtain⟨i,hj,rfl⟩:=hj;have hlt:j<len:=by
    have:=(List.getElem?_eq_some_iff.1 hj).1;simpa using this
   rw[List.getElem?_range hlt]at hj;obtain rfl:=Option.some.inj hj;obtain⟨b,off,spot⟩:=a;have hspot:spot=none:=by
    have:=World.cell?_spot (hf 0 (by omega));simpa[Addr.add]using this
   subst hspot;exact⟨b,off,rfl,by rw[<-Go.WideShapes.add_plain];exact hf j hlt⟩
end
end
section
open Go.ChangeShapes Go.WideShapes Go.ChangeAt Go.RowKit
variable{W:World}
def akW : List (String × DataW Unit) := [("math/bits.deBruijn32tab", Rows.laid_math_bits_deBruijn32tab), ("math/bits.deBruijn64tab", Rows.laid_math_bits_deBruijn64tab), ("internal/strconv.uint64pow10", Rows.laid_internal_strconv_uint64pow10)]
theorem ak4{P:Program}{x:String×DataW Unit}{r:List (String×DataW Unit)}(h:laidMet P (x::r) W):laidMet P r W:=by
 obtain⟨ps,⟨g,t,cs,fuel,p,q,h1,h2,h3,h4,h5,rfl⟩,hn,hr⟩:=h;exact⟨q,h5,(List.nodup_append.1 hn).2.1,fun b off hm=>hr b off (List.mem_append_right _ hm)⟩
theorem ak7{P:Program}{x:String×DataW Unit}{r:List (String×DataW Unit)}(h:laidMet P (x::r) W):laidMet P [x] W:=by
 obtain⟨ps,⟨g,t,cs,fuel,p,q,h1,h2,h3,h4,h5,rfl⟩,hn,hr⟩:=h;refine⟨MemPlace.row ⟨g,0,none⟩ cs.size++p++[],⟨g,t,cs,fuel,p,[],h1,h2,h3,h4,rfl,rfl⟩,?_,fun b off hm=>hr b off ?_⟩
 . rw[List.append_nil];exact(List.nodup_append.1 hn).1
 . rw[List.append_nil]at hm;exact List.mem_append_left _ hm
theorem ak5(h:laidMetH Tryz.prog akW W):Tab W:=by
 rw[MakeChecks.laidMetH_plain _ _ _ (by kernel_rfl)]at h;refine ak6 ?_;rw[MakeChecks.laidMetH_plain _ _ _ (by kernel_rfl)];exact ak7 (ak4 h)
end
section
open Go.RowKit Go.Maps Go.Stop Go.Extern
open Re (rat ofI ofN)
def nmL(g:Nat):List Nat->List Value
 |[]=>[]
 |k::ks=>.pointer (some ⟨g,0,none⟩)::.int .i64 (k:Int)::nmL g ks
theorem alR{g k:Nat}:∀{ids:List Nat} {sp:List Value} {j:Nat},ids[j]? =some k->(nmL g ids++sp)[j*2]? =some (.pointer (some ⟨g,0,none⟩))/\(nmL g ids++sp)[j*2+1]? =some (.int .i64 (k:Int))
 |[],_,_,h=>by simp at h
 |x::ids,sp,0,h=>by
  obtain rfl:x=k:=by simpa using h
  exact⟨rfl,rfl⟩
 |x::ids,sp,j+1,h=>by
  have:=alR (g:=g) (sp:=sp) (show ids[j]? =some k by simpa using h);rw[show(j+1)*2=j*2+1+1 by omega];exact this
theorem alF{g k:Nat}:∀{ids:List Nat},nmL g (ids++[k])=nmL g ids++[.pointer (some ⟨g,0,none⟩),.int .i64 (k:Int)]
 |[]=>rfl
 |x::ids=>by show _::_::nmL g (ids++[k])=_;rw[alF];rfl
section
variable{s:Bs}{g N n cap r:Nat}{K:List (Ex×Nat)}{l:List (Nat×Obj)}{W:World}{ids:List Nat}{sp:List Value}{V:Nat->Int}{X:Nat->Ex}
end
end
section
open Go.RowKit Go.Maps Go.Stop Go.Extern

end
end Go.Proofs.YtkadpnljocflaaaGreatDoor
