/- A part of the proof: contracts of functions and plain laws (TrC, SrA, SrB). -/
import Derived.Test.YtjaafolhfihegaaGreatDoorU35
import Derived.Test.YtjaafolhfihegaaGreatDoorU36
set_option linter.unusedVariables false
set_option linter.unusedSimpArgs false
set_option maxHeartbeats 25600000
set_option maxRecDepth 100000
namespace Go.Proofs.YtjaafolhfihegaaGreatDoor
open Re (rat)
variable{a b e:Ex}{B E P:Int}{ns:List Nd}{i:Nat}
theorem fF{k k':Int}{i' j j':Nat}(h:(some (⟨k,0,i,j⟩:Nd))=some ⟨k',0,i',j'⟩):k=k'/\i=i'/\j=j':=by
 injection h with h;injection h with h1 h2 h3 h4;exact⟨h1,by omega,by omega⟩
theorem Is.det :∀{e:Ex} {k:Nat},Is ns e k->∀{e':Ex},Is ns e' k->e=e':=by
 intro e
 induction e with
 |leaf v=>
  intro k h e' h';have h:ns[k]? =some ⟨0,v,0,0⟩:=h
  cases e' with
  |leaf v'=>have h':ns[k]? =some ⟨0,v',0,0⟩:=h';rw[h]at h';injection h' with h';injection h' with _ h';rw[h']
  |root a=>obtain⟨i,q,-⟩:=h';rw[h]at q;injection q with q;injection q with q;simp at q
  |add a b=>obtain⟨i,j,q,-⟩:=h';rw[h]at q;injection q with q;injection q with q;simp at q
  |sub a b=>obtain⟨i,j,q,-⟩:=h';rw[h]at q;injection q with q;injection q with q;simp at q
  |mul a b=>obtain⟨i,j,q,-⟩:=h';rw[h]at q;injection q with q;injection q with q;simp at q
  |div a b=>obtain⟨i,j,q,-⟩:=h';rw[h]at q;injection q with q;injection q with q;simp at q
 |root a iha=>
  intro k h e' h';obtain⟨i,h1,h2,h3⟩:=h
  cases e' with
  |leaf v'=>have h':ns[k]? =some ⟨0,v',0,0⟩:=h';rw[h1]at h';injection h' with h';injection h' with h';simp at h'
  |root a'=>obtain⟨i',q,q2,q3⟩:=h';rw[h1]at q;obtain⟨-,rfl,-⟩:=fF (j:=0) (j':=0) q;rw[iha h3 q3]
  |add a b=>obtain⟨i',j,q,-⟩:=h';rw[h1]at q;have:=(fF (j:=0) q).1;simp at this
  |sub a b=>obtain⟨i',j,q,-⟩:=h';rw[h1]at q;have:=(fF (j:=0) q).1;simp at this
  |mul a b=>obtain⟨i',j,q,-⟩:=h';rw[h1]at q;have:=(fF (j:=0) q).1;simp at this
  |div a b=>obtain⟨i',j,q,-⟩:=h';rw[h1]at q;have:=(fF (j:=0) q).1;simp at this
 |add a b iha ihb=>
  intro k h e' h';obtain⟨i,j,h1,h2,h3,h4,h5⟩:=h
  cases e' with
  |leaf v'=>have h':ns[k]? =some ⟨0,v',0,0⟩:=h';rw[h1]at h';injection h' with h';injection h' with h';simp at h'
  |root a'=>obtain⟨i',q,-⟩:=h';rw[h1]at q;have:=(fF (j':=0) q).1;simp at this
  |add a' b'=>obtain⟨i',j',q,q2,q3,q4,q5⟩:=h';rw[h1]at q;obtain⟨-,rfl,rfl⟩:=fF q;rw[iha h4 q4,ihb h5 q5]
  |sub a b=>obtain⟨i',j,q,-⟩:=h';rw[h1]at q;have:=(fF q).1;simp at this
  |mul a b=>obtain⟨i',j,q,-⟩:=h';rw[h1]at q;have:=(fF q).1;simp at this
  |div a b=>obtain⟨i',j,q,-⟩:=h';rw[h1]at q;have:=(fF q).1;simp at this
 |sub a b iha ihb=>
  intro k h e' h';obtain⟨i,j,h1,h2,h3,h4,h5⟩:=h
  cases e' with
  |leaf v'=>have h':ns[k]? =some ⟨0,v',0,0⟩:=h';rw[h1]at h';injection h' with h';injection h' with h';simp at h'
  |root a'=>obtain⟨i',q,-⟩:=h';rw[h1]at q;have:=(fF (j':=0) q).1;simp at this
  |sub a' b'=>obtain⟨i',j',q,q2,q3,q4,q5⟩:=h';rw[h1]at q;obtain⟨-,rfl,rfl⟩:=fF q;rw[iha h4 q4,ihb h5 q5]
  |add a b=>obtain⟨i',j,q,-⟩:=h';rw[h1]at q;have:=(fF q).1;simp at this
  |mul a b=>obtain⟨i',j,q,-⟩:=h';rw[h1]at q;have:=(fF q).1;simp at this
  |div a b=>obtain⟨i',j,q,-⟩:=h';rw[h1]at q;have:=(fF q).1;simp at this
 |mul a b iha ihb=>
  intro k h e' h';obtain⟨i,j,h1,h2,h3,h4,h5⟩:=h
  cases e' with
  |leaf v'=>have h':ns[k]? =some ⟨0,v',0,0⟩:=h';rw[h1]at h';injection h' with h';injection h' with h';simp at h'
  |root a'=>obtain⟨i',q,-⟩:=h';rw[h1]at q;have:=(fF (j':=0) q).1;simp at this
  |mul a' b'=>obtain⟨i',j',q,q2,q3,q4,q5⟩:=h';rw[h1]at q;obtain⟨-,rfl,rfl⟩:=fF q;rw[iha h4 q4,ihb h5 q5]
  |add a b=>obtain⟨i',j,q,-⟩:=h';rw[h1]at q;have:=(fF q).1;simp at this
  |sub a b=>obtain⟨i',j,q,-⟩:=h';rw[h1]at q;have:=(fF q).1;simp at this
  |div a b=>obtain⟨i',j,q,-⟩:=h';rw[h1]at q;have:=(fF q).1;simp at this
 |div a b iha ihb=>
  intro k h e' h';obtain⟨i,j,h1,h2,h3,h4,h5⟩:=h
  cases e' with
  |leaf v'=>have h':ns[k]? =some ⟨0,v',0,0⟩:=h';rw[h1]at h';injection h' with h';injection h' with h';simp at h'
  |root a'=>obtain⟨i',q,-⟩:=h';rw[h1]at q;have:=(fF (j':=0) q).1;simp at this
  |div a' b'=>obtain⟨i',j',q,q2,q3,q4,q5⟩:=h';rw[h1]at q;obtain⟨-,rfl,rfl⟩:=fF q;rw[iha h4 q4,ihb h5 q5]
  |add a b=>obtain⟨i',j,q,-⟩:=h';rw[h1]at q;have:=(fF q).1;simp at this
  |sub a b=>obtain⟨i',j,q,-⟩:=h';rw[h1]at q;have:=(fF q).1;simp at this
  |mul a b=>obtain⟨i',j,q,-⟩:=h';rw[h1]at q;have:=(fF q).1;simp at this
inductive SubE:Ex->Ex->Prop
 |refl (a:Ex):SubE a a
 |addL {x a b:Ex} (h:SubE x a):SubE x (.add a b)
 |addR {x a b:Ex} (h:SubE x b):SubE x (.add a b)
 |subL {x a b:Ex} (h:SubE x a):SubE x (.sub a b)
 |subR {x a b:Ex} (h:SubE x b):SubE x (.sub a b)
 |mulL {x a b:Ex} (h:SubE x a):SubE x (.mul a b)
 |mulR {x a b:Ex} (h:SubE x b):SubE x (.mul a b)
 |divL {x a b:Ex} (h:SubE x a):SubE x (.div a b)
 |divR {x a b:Ex} (h:SubE x b):SubE x (.div a b)
 |root {x a:Ex} (h:SubE x a):SubE x (.root a)
theorem SubE.trans {c:Ex}(h:SubE a b)(k:SubE b c):SubE a c:=by
 induction k with
 |refl=>exact h
 |addL _ ih=>exact .addL ih
 |addR _ ih=>exact .addR ih
 |subL _ ih=>exact .subL ih
 |subR _ ih=>exact .subR ih
 |mulL _ ih=>exact .mulL ih
 |mulR _ ih=>exact .mulR ih
 |divL _ ih=>exact .divL ih
 |divR _ ih=>exact .divR ih
 |root _ ih=>exact .root ih
theorem SubE.fin (h:SubE a b)(hf:FinE b):FinE a:=by
 induction h with
 |refl=>exact hf
 |addL _ ih=>exact ih hf.1
 |addR _ ih=>exact ih hf.2
 |subL _ ih=>exact ih hf.1
 |subR _ ih=>exact ih hf.2
 |mulL _ ih=>exact ih hf.1
 |mulR _ ih=>exact ih hf.2
 |divL _ ih=>exact ih hf.1
 |divR _ ih=>exact ih hf.2
 |root _ ih=>exact ih hf
theorem SubE.den (h:SubE a b):∀{v:Re},DenR b v->∃u,DenR a u:=by
 induction h with
 |refl=>intro v hv;exact⟨v,hv⟩
 |addL _ ih=>intro v hv;cases hv with|add ha hb=>exact ih ha
 |addR _ ih=>intro v hv;cases hv with|add ha hb=>exact ih hb
 |subL _ ih=>intro v hv;cases hv with|sub ha hb=>exact ih ha
 |subR _ ih=>intro v hv;cases hv with|sub ha hb=>exact ih hb
 |mulL _ ih=>intro v hv;cases hv with|mul ha hb=>exact ih ha
 |mulR _ ih=>intro v hv;cases hv with|mul ha hb=>exact ih hb
 |divL _ ih=>intro v hv;cases hv with|div ha hb _ _=>exact ih ha
 |divR _ ih=>intro v hv;cases hv with|div ha hb _ _=>exact ih hb
 |root _ ih=>intro v hv;cases hv with|root ha _ _=>exact ih ha
theorem SubE.size (hP:1<=P)(h:SubE a b):cZ P a<=cZ P b:=by
 induction h with
 |refl=>exact Int.le_refl _
 |@addL a b _ ih=>have:=iN hP b;simp only[cZ];omega
 |@addR a b _ ih=>have:=iN hP a;simp only[cZ];omega
 |@subL a b _ ih=>have:=iN hP b;simp only[cZ];omega
 |@subR a b _ ih=>have:=iN hP a;simp only[cZ];omega
 |@mulL a b _ ih=>have:=iN hP b;simp only[cZ];omega
 |@mulR a b _ ih=>have:=iN hP a;simp only[cZ];omega
 |@divL a b _ ih=>have:=iN hP b;simp only[cZ];omega
 |@divR a b _ ih=>have:=iN hP a;simp only[cZ];omega
 |@root a _ ih=>simp only[cZ];omega
noncomputable def balT(ns:List Nd)(P:Int)(i:Nat):Option Bl:=by
 classical exact if h:∃a,Is ns a i then gT h.choose P else none
theorem gI(h:Is ns a i):balT ns P i=gT a P:=by
 unfold balT;have hex:∃a,Is ns a i:=⟨a,h⟩;rw[dif_pos hex,hex.choose_spec.det h]
theorem alQ{d:Dy}(hB:B<=400000)(hE:E<=4000000)(h:Sz B E d):SmQ d/\Canon d/\FitD d:=by
 obtain⟨h1,h2,h3⟩:=h;have hq:SmQ d:=by
  by_cases h0:d.man=0
  . have he:d.exp=0:=by
     have h1':mkDy d.man d.exp=d:=h1;rw[h0,bH]at h1';exact(congrArg Dy.exp h1').symm
    exact⟨by omega,by omega,by omega⟩
  . have:=h3 h0;have:=mO h0
    exact⟨by omega,by omega,by omega⟩
 refine⟨hq,h1,hq,?_⟩;by_cases h0:d.man=0
 . unfold topD;rw[if_pos h0];decide
 . have:=h3 h0;have:=mO h0;omega
theorem alR{b:Bl}(hB:B<=400000)(hE:E<=4000000)(h:SzB B E b):Okb b/\FitD b.lo/\FitD b.hi:=by
 obtain⟨a1,a2,a3⟩:=alQ hB hE h.1;obtain⟨b1,b2,b3⟩:=alQ hB hE h.2;exact⟨⟨⟨a1,b1⟩,a2,b2⟩,a3,b3⟩
def Part(ns:List Nd)(e:Ex)(i:Nat):Prop:=∃a,SubE a e/\Is ns a i
theorem bA(i:Nat):((i:Int)).toNat=i:=Int.toNat_natCast i
theorem aa2:ClS ns (Part ns e):=by
 intro x n ⟨a,hs,hi⟩ hn o ho
 cases a with
 |leaf v=>
  have hi:ns[x]? =some ⟨0,v,0,0⟩:=hi;rw[hn]at hi;cases hi
  simp[opsN]at ho
 |root a=>
  obtain⟨i,q,-,q3⟩:=hi;rw[hn]at q;cases q
  simp[opsN]at ho;subst ho;rw[bA];exact⟨a,(SubE.root (SubE.refl a)).trans hs,q3⟩
 |add a b=>
  obtain⟨i,j,q,-,-,q4,q5⟩:=hi;rw[hn]at q;cases q
  simp[opsN]at ho;rcases ho with rfl|rfl<;>rw[bA]
  . exact⟨a,(SubE.addL (SubE.refl a)).trans hs,q4⟩
  . exact⟨b,(SubE.addR (SubE.refl b)).trans hs,q5⟩
 |sub a b=>
  obtain⟨i,j,q,-,-,q4,q5⟩:=hi;rw[hn]at q;cases q
  simp[opsN]at ho;rcases ho with rfl|rfl<;>rw[bA]
  . exact⟨a,(SubE.subL (SubE.refl a)).trans hs,q4⟩
  . exact⟨b,(SubE.subR (SubE.refl b)).trans hs,q5⟩
 |mul a b=>
  obtain⟨i,j,q,-,-,q4,q5⟩:=hi;rw[hn]at q;cases q
  simp[opsN]at ho;rcases ho with rfl|rfl<;>rw[bA]
  . exact⟨a,(SubE.mulL (SubE.refl a)).trans hs,q4⟩
  . exact⟨b,(SubE.mulR (SubE.refl b)).trans hs,q5⟩
 |div a b=>
  obtain⟨i,j,q,-,-,q4,q5⟩:=hi;rw[hn]at q;cases q
  simp[opsN]at ho;rcases ho with rfl|rfl<;>rw[bA]
  . exact⟨a,(SubE.divL (SubE.refl a)).trans hs,q4⟩
  . exact⟨b,(SubE.divR (SubE.refl b)).trans hs,q5⟩
theorem ah4{x:Re}{b:Bl}(h:In x b)(h0:0<=x):0<=b.hi.man:=by
 have h1:=Re.le_trans h0 h.2;rw[Re.zero_rat,Re.rat_le]at h1;rcases Int.lt_or_le b.hi.man 0 with g|g
 . have:=(bK b.hi).2.1.2 g;grind
 . exact g
theorem aqD{v:Re}(hf:FinE e)(hd:DenR e v)(hs:cZ P e<=4000000)(hP:1<=P/\P<=65536):GB ns (Part ns e) (balT ns P) P:=by
 refine⟨aa2,?_,?_,?_,?_⟩
 . intro x n ⟨a,hsub,hi⟩ hn
   rw[gI hi]
   cases a with
   |leaf v=>
    have hi:ns[x]? =some ⟨0,v,0,0⟩:=hi;rw[hn]at hi;cases hi;rfl
   |root a=>
    obtain⟨i,q,-,q3⟩:=hi;rw[hn]at q;cases q
    simp only[bA,gI q3];rfl
   |add a b=>
    obtain⟨i,j,q,-,-,q4,q5⟩:=hi;rw[hn]at q;cases q
    simp only[bA,gI q4,gI q5];rfl
   |sub a b=>
    obtain⟨i,j,q,-,-,q4,q5⟩:=hi;rw[hn]at q;cases q
    simp only[bA,gI q4,gI q5];rfl
   |mul a b=>
    obtain⟨i,j,q,-,-,q4,q5⟩:=hi;rw[hn]at q;cases q
    simp only[bA,gI q4,gI q5];rfl
   |div a b=>
    obtain⟨i,j,q,-,-,q4,q5⟩:=hi;rw[hn]at q;cases q
    simp only[bA,gI q4,gI q5];rfl
 . intro x b ⟨a,hsub,hi⟩ hb
   rw[gI hi]at hb;have h1:=xP hP.1 (hsub.fin hf) hb;have h2:=hsub.size hP.1;exact alR (by omega) (by omega) h1
 . intro x n ⟨a,hsub,hi⟩ hn h0
   cases a with
   |leaf v=>
    have hi:ns[x]? =some ⟨0,v,0,0⟩:=hi;rw[hn]at hi;cases hi
    obtain⟨h1,h2,h3⟩:=hsub.fin hf;exact⟨h2,h1,(alQ (by omega) (by omega) h3).1.smD⟩
   |root a=>obtain⟨i,q,-⟩:=hi;rw[hn]at q;cases q;simp at h0
   |add a b=>obtain⟨i,j,q,-⟩:=hi;rw[hn]at q;cases q;simp at h0
   |sub a b=>obtain⟨i,j,q,-⟩:=hi;rw[hn]at q;cases q;simp at h0
   |mul a b=>obtain⟨i,j,q,-⟩:=hi;rw[hn]at q;cases q;simp at h0
   |div a b=>obtain⟨i,j,q,-⟩:=hi;rw[hn]at q;cases q;simp at h0
 . intro x n ⟨a,hsub,hi⟩ hn h5 b hb
   cases a with
   |leaf v=>
    have hi:ns[x]? =some ⟨0,v,0,0⟩:=hi;rw[hn]at hi;cases hi;simp at h5
   |root a=>
    obtain⟨i,q,-,q3⟩:=hi;rw[hn]at q;cases q
    simp only[bA,gI q3]at hb;obtain⟨u,hu⟩:=hsub.den hd
    cases hu with
    |root ha h0 hs'=>
     refine ah4 (nR hP.1 ha hb) ?_;rw[<-hs'];exact Re.sq_nonneg u
   |add a b=>obtain⟨i,j,q,-⟩:=hi;rw[hn]at q;cases q;simp at h5
   |sub a b=>obtain⟨i,j,q,-⟩:=hi;rw[hn]at q;cases q;simp at h5
   |mul a b=>obtain⟨i,j,q,-⟩:=hi;rw[hn]at q;cases q;simp at h5
   |div a b=>obtain⟨i,j,q,-⟩:=hi;rw[hn]at q;cases q;simp at h5
end Go.Proofs.YtjaafolhfihegaaGreatDoor
namespace Go.Proofs.YtjaafolhfihegaaGreatDoor
open Go.RowKit Go.Maps
instance(x:Dy)(sep:Int):Decidable (iO x sep):=by unfold iO;infer_instance
theorem ac5{p:Nat->Prop}{v:Value}{d:Dy}{sep:Int}{w:World}(hx:DyP p w v d)(hs:SmQ d)(hsp:0<=sep/\sep<=1099511627776):Calls Tryz.prog 141 #[v,.int .i64 sep] w (RetW w (decide (iO d sep))):=by
 obtain⟨b,A,n,c,rfl,h⟩:=hx;obtain⟨w1,hw1,hb1,hs1,b1⟩:=pro1 w (.cells #[Value.bool b,.slice A n c,.int .i64 d.exp] 225);have HB:=hdd hb1;obtain⟨c0,c1,c2,-,-,-⟩:=cells3 b1;have D1:Hid (DyP p w1 (.agg #[.bool b,.slice A n c,.int .i64 d.exp]) d):=hdd ⟨_,_,_,_,rfl,h.below hb1⟩;have HSM:=hdd hs;have hwr:IntKind.i64.wrap (-sep)=-sep:=wrap_i64 (by omega);clear h hb1 b1 hs1 hs;go_enter Tryz.func141,Tryz.ntmps141
 go_wp2_with fail
 refine(dH D1.out).mono ?_;rintro r w3⟨rfl,hb⟩;replace c0:=cbl c0 hb;replace c1:=cbl c1 hb;replace c2:=cbl c2 hb;replace D1:=hdd (D1.out.below hb);replace HB:=hdd (HB.out.trans (hb.mono HB.out.size));clear hb hw1;by_cases hz:d.man<=0
 . have HF:Hid (RetW w (decide (iO d sep)) (.returned (.bool true)) w3):=hdd ⟨by rw[show decide (iO d sep)=true from decide_eq_true (Or.inl hz)],HB.out⟩
   have hsg:d.man.sign<=0:=by
    rcases Int.lt_or_eq_of_le hz with h|h
    . rw[Int.sign_eq_neg_one_iff_neg.2 h];decide
    . rw[h];decide
   generalize decide (iO d sep)=res at*;go_wp2;go_ret;exact HF.out
 . have hsg:¬(d.man.sign<=0):=by
    rw[Int.sign_eq_one_iff_pos.2 (by omega)];decide
   have hsg2:0<d.man:=by omega
   go_wp2_with fail
   refine(rF D1.out (by have:=HSM.out.2;omega)).mono ?_;rintro r w4⟨rfl,hb⟩;have HF:Hid (RetW w (decide (iO d sep)) (.returned (.bool (decide (d.man<=0)||decide (topD d<=-sep)))) w4):=hdd ⟨by
    rw[show decide (iO d sep)=(decide (d.man<=0)||decide (topD d<=-sep)) from by
     by_cases h1:d.man<=0<;>by_cases h2:topD d<=-sep<;>simp[iO,h1,h2]],HB.out.trans (hb.mono HB.out.size)⟩
   generalize decide (iO d sep)=res at*;clear hb;generalize topD d=T at*;go_wp2;go_ret;exact HF.out
end Go.Proofs.YtjaafolhfihegaaGreatDoor
namespace Go.Proofs.YtjaafolhfihegaaGreatDoor
open Go.RowKit Go.Maps
open Re (rat)
open Nat renaming lt_or_eq_of_le->bh8,pow_le_pow_right->bh9,le_refl->biA
variable{g j:Nat}{w:World}
theorem aoJ{T:TypeId}{a b c:Value}(h:w.heap[g]? =some (.cells #[a,b,c] T (0,0)))(d e:Value):
 (w.setCell ⟨g,0,none⟩ d).heap[g]? =some (.cells #[d,b,c] T (0,0))/\(w.setCell ⟨g,1,none⟩ e).heap[g]? =some (.cells #[a,e,c] T (0,0)):=by
 have hg:g<w.heap.size:=(Array.getElem?_eq_some_iff.1 h).1;have h':w.heap[g]=.cells #[a,b,c] T (0,0):=(Array.getElem?_eq_some_iff.1 h).2;constructor<;>simp[World.setCell,hg,Array.getElem_modify,h']
def aoK(w:World)(s:Int)(e:Ending)(w':World):Prop:=Below w.heap.size w w'/\∃v,e=.returned (.tuple #[.int .i64 s,v,.bool true])
def Rec(w0 w:World)(A B:Nat)(sep n:Int):Prop:=Below w0.heap.size w0 w/\w0.heap.size<=A/\w0.heap.size<=B/\A≠B/\w.heap[A]? =some (.cells #[.int .i64 0,.int .i64 0,.int .i64 0] 203 (0,0))/\
 ∃b:Int,w.heap[B]? =some (.cells #[.int .i64 n,.int .i64 b,.int .i64 sep] 203 (0,0))
structure Fnd(e:Ex)(v:Re)(sep:Int)(j:Nat):Prop where
 den:DenR e v
 fin:FinE e
 size:cZ (32*2^j) e<=4000000
 hj:j<=11
 hit:∃b M W,gT e (32*2^j)=some b/\Acc M W b/\sep+1<=W
 far:v≠0->rat (p2 (-sep+1))<=Re.ab v
theorem ac6{k:Nat}(h:k<=j)(hj:j<=11):(1:Int)<=32*2^k/\(32*2^k:Int)<=32*2^j/\(32*2^j:Int)<=65536:=by
 have h1:2^k<=2^j:=bh9 (by omega) h;have h2:2^j<=2^11:=bh9 (by omega) hj;have h3:=Nat.two_pow_pos k;have e1:((2:Int)^k)=((2^k:Nat):Int):=by simp
 have e2:((2:Int)^j)=((2^j:Nat):Int):=by simp
 rw[e1,e2];have:(2:Nat)^11=2048:=by decide
 omega
theorem ac7{root:Nat}{sep:Int}{ns:List Nd}{e:Ex}{v:Re}(hd:DagP w g ns)(ok:OkNs ns)(hlf:iU ns)(hro:iV ns)(hI:Is ns e root)(hF:Fnd e v sep j)(hT:Tab w)(hsp:0<=sep/\sep<=1099511627776):
 Calls Tryz.prog 125 #[.pointer (some ⟨g,0,none⟩),.int .i64 (root:Int),.int .i64 32,.int .i64 sep,.bool true] w (aoK w (Re.sgn v)):=by
 obtain⟨w1,hw1,hb1,hs1,b1⟩:=pro1 w (.cells #[.int .i64 0,.int .i64 0,.int .i64 0] 203);obtain⟨w2,hw2,hb2,hs2,b2⟩:=pro1 w1 (.cells #[.int .i64 0,.int .i64 0,.int .i64 0] 203);obtain⟨a0,a1,a2,a3,a4,a5⟩:=cells3 b2;have g1:=set3 b2 (.int .i64 0) (.int .i64 0) (.int .i64 sep);have h12:=(bR (w:=w2) (g:=w1.heap.size) (i:=w.heap.size) (by omega) (.int .i64 0) (.int .i64 0) (.int .i64 sep)).trans (hbl b1 hb2);have hbb:=(((aC hb1 hb2).setCell (p:=⟨w1.heap.size,0,none⟩) (by simp;omega) (.int .i64 0)).setCell (p:=⟨w1.heap.size,1,none⟩) (by simp;omega) (.int .i64 0)).setCell (p:=⟨w1.heap.size,2,none⟩) (by simp;omega) (.int .i64 sep);have HREC:Rec w (((w2.setCell ⟨w1.heap.size,0,none⟩ (.int .i64 0)).setCell ⟨w1.heap.size,1,none⟩ (.int .i64 0)).setCell ⟨w1.heap.size,2,none⟩ (.int .i64 sep)) w.heap.size w1.heap.size sep 0:=⟨hbb,biA _,by omega,by omega,h12,0,g1⟩;generalize hw3:((w2.setCell ⟨w1.heap.size,0,none⟩ (.int .i64 0)).setCell ⟨w1.heap.size,1,none⟩ (.int .i64 0)).setCell ⟨w1.heap.size,2,none⟩ (.int .i64 sep)=w3 at HREC
 have HR3:=hdd HREC;have HD:=hdd hd;have HOK:=hdd ok;have HLF:=hdd hlf;have HRO:=hdd hro;have HI:=hdd hI;have HF:=hdd hF;have HT:=hdd hT;have HSP:=hdd hsp;clear HREC hbb h12 g1 b1 b2 hb1 hb2 hs1 hs2 hd ok hlf hro hI hF hT hsp;go_enter Tryz.func125,Tryz.ntmps125
 go_wp2_with fail
 clear a0 a1 a2 a3 a4 a5 hw1 hw2 hw3
 go_loopw [14] (fun i wr=>∃k:Nat,k<=j/\i=.int .i64 (32*2^k)/\Hid (Rec w wr w.heap.size w1.heap.size sep (k:Int))) (fun i _=>(65536-intOf i).toNat)
 case atStart=>exact⟨0,Nat.zero_le _,by simp,HR3⟩
 case round=>
  obtain⟨k,hk,rfl,HR⟩:=hrel;clear HR3;obtain⟨q1,q2,q3,q4,q5,b,q6⟩:=HR.out;obtain⟨n,hn⟩:∃n:Int,(k:Int)=n:=⟨_,rfl⟩;rw[hn]at q6;have hn9:0<=n/\n<=1000:=by have:=HF.out.hj;omega
  obtain⟨hp1,hp2,hp3⟩:=ac6 hk HF.out.hj;obtain⟨p,hp⟩:∃p:Int,32*2^k=p:=⟨_,rfl⟩;rw[hp]at hp1 hp2|-;have HPK:=hdd hp;obtain⟨c0,c1,c2,c3,c4,c5⟩:=cells3 q6;have hwn:IntKind.i64.wrap (n+1)=n+1:=wrap_i64 (by omega);obtain⟨w4,hw4⟩:∃w4,wr.setCell ⟨w1.heap.size,0,none⟩ (.int .i64 (n+1))=w4:=⟨_,rfl⟩;have r1:w4.heap[w1.heap.size]? =some (.cells #[.int .i64 (n+1),.int .i64 b,.int .i64 sep] 203 (0,0)):=by rw[<-hw4];exact(aoJ q6 _ (.int .i64 0)).1
  obtain⟨d0,d1,d2,d3,d4,d5⟩:=cells3 r1;obtain⟨w5,hw5⟩:∃w5,w4.setCell ⟨w1.heap.size,1,none⟩ (.int .i64 p)=w5:=⟨_,rfl⟩;have r2:w5.heap[w1.heap.size]? =some (.cells #[.int .i64 (n+1),.int .i64 p,.int .i64 sep] 203 (0,0)):=by rw[<-hw5];exact(aoJ r1 (.int .i64 0) _).2
  have r3:w5.heap[w.heap.size]? =some (.cells #[.int .i64 0,.int .i64 0,.int .i64 0] 203 (0,0)):=by
   rw[<-hw5,<-hw4,Below.heap_setCell _ _ _ _ (by simp;omega),Below.heap_setCell _ _ _ _ (by simp;omega)];exact q5
  have r4:Below w.heap.size w w5:=by rw[<-hw5,<-hw4];exact(q1.setCell (by simp;omega) _).setCell (by simp;omega) _
  have hpq:(1:Int)<=p/\p<=65536:=by omega
  have hgb:=aqD (ns:=ns) (P:=p) HF.out.fin HF.out.den (Int.le_trans (zR (by omega) hp2 e) HF.out.size) hpq;have HNE:=hdd (ah2 (HD.out.below r4) HOK.out HLF.out HRO.out hgb ⟨e,SubE.refl e,HI.out⟩ HI.out.lt (HT.out.below r4) hpq);rw[gI HI.out]at HNE;have HA:=hdd r3;have HBK:=hdd r2;have HB5:=hdd r4;have HNN:=hdd hn;have HKJ:=hdd hk;have HPP:=hdd hpq;have HQ4:=hdd q4;have HQ3:=hdd q3;clear q1 q2 q3 q4 q5 q6 r1 r2 r3 r4 hgb HR hn hp hp2 hp3 hn9;go_wp2_with fail
  refine HNE.out.mono ?_;rintro e' w6 hret
  cases hnear:gT e p with
  |none=>
   rw[hnear]at hret;obtain⟨hb6,rfl⟩:=hret;have HLT:Hid (k<j):=hdd (by
    have h1:=HKJ.out;rcases bh8 h1 with h|h
    . exact h
    . exfalso
      obtain⟨b',M,W,z1,-,-⟩:=HF.out.hit;rw[<-h,HPK.out,hnear]at z1;cases z1)
   obtain⟨w7,hw7,⟨u0,u1,u2,u3,u4,u5⟩,⟨s0,s1,s2,s3,s4,s5⟩,w8,hw8,hb8,hs8⟩:=new6 w6 227 (.bool false) (.slice none 0 0) (.int .i64 0) (.bool false) (.slice none 0 0) (.int .i64 0) (.bool false) (.slice none 0 0) (.int .i64 0) (.bool false) (.slice none 0 0) (.int .i64 0);have HB8:=hdd (aC hb6 hb8);clear hb6 hb8 hs8 hnear c0 c1 c2 c3 c4 c5 d0 d1 d2 d3 d4 d5;have hnx:(2*p<65536\/2*p=65536)/\2*p=32*2^(k+1):=by
    obtain⟨z1,z2,z3⟩:=ac6 (show k+1<=j from HLT.out) HF.out.hj;have e1:(32:Int)*2^(k+1)=2*p:=by rw[<-HPK.out,Int.pow_succ];omega
    omega
   have hge:¬((65536:Int)<=p):=by have:=HPP.out;omega
   have hw2p:IntKind.i64.wrap (2*p)=2*p:=wrap_i64 (by have:=HPP.out;omega);have hmin:min (2*p) 65536=2*p:=by omega
   have HNX:=hdd hnx;have HRN:Hid (Rec w w8 w.heap.size w1.heap.size sep ((k+1:Nat):Int)):=hdd ⟨HB5.out.trans (HB8.out.mono HB5.out.size),biA _,HQ3.out,HQ4.out,hbl HA.out HB8.out,p,by have h9:=hbl HBK.out HB8.out;rw[show((k+1:Nat):Int)=n+1 from by have:=HNN.out;omega];exact h9⟩;clear hnx;go_wp2
   go_roundw
   case rel=>exact⟨k+1,HLT.out,by rw[HNX.out.2],HRN⟩
   case measure=>have:=HNX.out;have:=HPP.out;simp[intOf];omega
  |some bb=>
   rw[hnear]at hret;obtain⟨hb6,vb,rfl,hbal⟩:=hret;obtain⟨e1,A1,n1,k1,e2,A2,n2,k2,rfl,i1,i2⟩:=id hbal;obtain⟨w7,hw7,⟨u0,u1,u2,u3,u4,u5⟩,⟨s0,s1,s2,s3,s4,s5⟩,w8,hw8,hb8,hs8⟩:=new6 w6 227 (.bool false) (.slice none 0 0) (.int .i64 0) (.bool false) (.slice none 0 0) (.int .i64 0) (.bool e1) (.slice A1 n1 k1) (.int .i64 bb.lo.exp) (.bool e2) (.slice A2 n2 k2) (.int .i64 bb.hi.exp);obtain⟨x0,x1,x2,x3,x4,x5⟩:=aJ hs8;have HX8:=hdd hs8;have HSG:=hdd (p8 (w:=w8) (hbal.below hb8));have HB8:=hdd (aC hb6 hb8);have HI1:=hdd (i1.below hb8);have HI2:=hdd (i2.below hb8);have HIN:=hdd (nR HPP.out.1 HF.out.den hnear);have hsz:=alR (by have:=HPP.out;omega) (Int.le_trans (zR HPP.out.1 (by have:=ac6 HKJ.out HF.out.hj;have:=HPK.out;omega) e) HF.out.size) (xP HPP.out.1 HF.out.fin hnear);have HSZ:=hdd hsz;have HNR:=hdd hnear;clear hb6 hb8 hs8 hbal i1 i2 hnear hsz c0 c1 c2 c3 c4 c5 d0 d1 d2 d3 d4 d5;go_wp2_with fail
   refine HSG.out.mono ?_;rintro e' w9⟨rfl,hb9⟩;have HB9:=hdd (aC HB8.out hb9);have HX9:=hdd (hbl HX8.out hb9);replace HI1:=hdd (HI1.out.below hb9);replace HI2:=hdd (HI2.out.below hb9);clear hb9 x0 x1 x2 x3 x4 x5 u0 u1 u2 u3 u4 u5 s0 s1 s2 s3 s4 s5 hw7 hw8 HSG
   cases hok:sgOk bb
   . obtain⟨x0,x1,x2,x3,x4,x5⟩:=aJ HX9.out
     have HNT:=hdd (xA (d:=bb.lo) ⟨_,_,_,_,rfl,HI1.out⟩ (HT.out.below (HB5.out.trans (HB9.out.mono HB5.out.size))) (by have:=HSZ.out.1.1.1.1;omega) (by have:=HSZ.out.1.1.1.2;omega));generalize sgB bb=sg0 at*;go_wp2_with fail
     refine HNT.out.mono ?_;rintro e' w10⟨hb10,vn,rfl,hnz⟩;obtain⟨e3,A3,n3,k3,rfl,hnz⟩:=hnz;have HB10:=hdd (aC HB9.out hb10);have HX10:=hdd (hbl HX9.out hb10);replace HI2:=hdd (HI2.out.below hb10);have HTY:=hdd (ac5 (d:=notD bb.lo) (sep:=sep) ⟨_,_,_,_,rfl,hnz⟩ (rO HSZ.out.1.2.1 HSZ.out.1.1.1) HSP.out);clear hb10 hnz HNT x0 x1 x2 x3 x4 x5;by_cases ht1:iO (notD bb.lo) sep
     . rw[decide_eq_true ht1]at HTY
       go_wp2_with fail
       refine HTY.out.mono ?_;rintro e' w11⟨rfl,hb11⟩;have HB11:=hdd (aC HB10.out hb11);have HX11:=hdd (hbl HX10.out hb11);obtain⟨x0,x1,x2,x3,x4,x5⟩:=aJ HX11.out;have HTZ:=hdd (ac5 (d:=bb.hi) (sep:=sep) ⟨_,_,_,_,rfl,HI2.out.below hb11⟩ HSZ.out.1.1.2 HSP.out);clear hb11 HTY;by_cases ht2:iO bb.hi sep
       . rw[decide_eq_true ht2]at HTZ
         have HZERO:Hid (v=0):=hdd (ah3 HIN.out ht1 ht2 HF.out.far);go_wp2_with fail
         refine HTZ.out.mono ?_;rintro e' w12⟨rfl,hb12⟩;have HB12:=hdd (aC HB11.out hb12);clear hb12 HTZ ht1 ht2 x0 x1 x2 x3 x4 x5;have hB9:=hbl HBK.out HB12.out;have hA9:=hbl HA.out HB12.out;obtain⟨y0,y1,y2,-,-,-⟩:=cells3 hB9;obtain⟨z0,z1,z2,z3,z4,z5⟩:=cells3 hA9;have g3:=set3 hA9 (.int .i64 (n+1)) (.int .i64 p) (.int .i64 sep);have hbw:=HB5.out.trans (HB12.out.mono HB5.out.size);have HFF:=hdd g3;have HRR:=hdd (((hbw.setCell (p:=⟨w.heap.size,0,none⟩) nlr (.int .i64 (n+1))).setCell (p:=⟨w.heap.size,1,none⟩) nlr (.int .i64 p)).setCell (p:=⟨w.heap.size,2,none⟩) nlr (.int .i64 sep)).drew;clear hB9 hA9 g3 hbw;go_wp2
         go_region
         all_goals
          go_wp2;obtain⟨f0,f1,f2,-,-,-⟩:=cells3 HFF.out;refine bodyPost_ret (v:=.tuple #[_,.agg #[_,_,_],_]) (by simp[results,Tryz.results125,go_sem,f0,f1,f2];first|exact⟨rfl,⟨rfl,rfl,rfl⟩,rfl⟩|rfl) rfl ?_;rw[HZERO.out,Re.sgn_zero];exact⟨HRR.out,_,rfl⟩
       . rw[decide_eq_false ht2]at HTZ
         have HLT:Hid (k<j):=hdd (by
          rcases bh8 HKJ.out with h|h
          . exact h
          . exfalso
            obtain⟨b',M,W,z1,z2,z3⟩:=HF.out.hit;rw[<-h,HPK.out,HNR.out]at z1;cases z1
            rcases xS HIN.out z2 z3 HF.out.far with z|z
            . unfold sgOk at hok;rw[decide_eq_true z]at hok;cases hok
            . exact ht2 z.2)
         go_wp2_with fail
         refine HTZ.out.mono ?_;rintro e' w12⟨rfl,hb12⟩;have HB12:=hdd (aC HB11.out hb12);clear hb12 HTZ ht1 ht2 x0 x1 x2 x3 x4 x5;have hnx:(2*p<65536\/2*p=65536)/\2*p=32*2^(k+1):=by
          obtain⟨z1,z2,z3⟩:=ac6 (show k+1<=j from HLT.out) HF.out.hj;have e1:(32:Int)*2^(k+1)=2*p:=by rw[<-HPK.out,Int.pow_succ];omega
          omega
         have hge:¬((65536:Int)<=p):=by have:=HPP.out;omega
         have hw2p:IntKind.i64.wrap (2*p)=2*p:=wrap_i64 (by have:=HPP.out;omega);have hmin:min (2*p) 65536=2*p:=by omega
         have HNX:=hdd hnx;have HRN:Hid (Rec w w12 w.heap.size w1.heap.size sep ((k+1:Nat):Int)):=hdd ⟨HB5.out.trans (HB12.out.mono HB5.out.size),biA _,HQ3.out,HQ4.out,hbl HA.out HB12.out,p,by have h9:=hbl HBK.out HB12.out;rw[show((k+1:Nat):Int)=n+1 from by have:=HNN.out;omega];exact h9⟩;clear hnx;go_wp2
         go_roundw
         case rel=>exact⟨k+1,HLT.out,by rw[HNX.out.2],HRN⟩
         case measure=>have:=HNX.out;have:=HPP.out;simp[intOf];omega
     . rw[decide_eq_false ht1]at HTY
       have HLT:Hid (k<j):=hdd (by
        rcases bh8 HKJ.out with h|h
        . exact h
        . exfalso
          obtain⟨b',M,W,z1,z2,z3⟩:=HF.out.hit;rw[<-h,HPK.out,HNR.out]at z1;cases z1
          rcases xS HIN.out z2 z3 HF.out.far with z|z
          . unfold sgOk at hok;rw[decide_eq_true z]at hok;cases hok
          . exact ht1 z.1)
       go_wp2_with fail
       refine HTY.out.mono ?_;rintro e' w11⟨rfl,hb11⟩;have HB11:=hdd (aC HB10.out hb11);clear hb11 HTY ht1;have hnx:(2*p<65536\/2*p=65536)/\2*p=32*2^(k+1):=by
        obtain⟨z1,z2,z3⟩:=ac6 (show k+1<=j from HLT.out) HF.out.hj;have e1:(32:Int)*2^(k+1)=2*p:=by rw[<-HPK.out,Int.pow_succ];omega
        omega
       have hge:¬((65536:Int)<=p):=by have:=HPP.out;omega
       have hw2p:IntKind.i64.wrap (2*p)=2*p:=wrap_i64 (by have:=HPP.out;omega);have hmin:min (2*p) 65536=2*p:=by omega
       have HNX:=hdd hnx;have HRN:Hid (Rec w w11 w.heap.size w1.heap.size sep ((k+1:Nat):Int)):=hdd ⟨HB5.out.trans (HB11.out.mono HB5.out.size),biA _,HQ3.out,HQ4.out,hbl HA.out HB11.out,p,by have h9:=hbl HBK.out HB11.out;rw[show((k+1:Nat):Int)=n+1 from by have:=HNN.out;omega];exact h9⟩;clear hnx;go_wp2
       go_roundw
       case rel=>exact⟨k+1,HLT.out,by rw[HNX.out.2],HRN⟩
       case measure=>have:=HNX.out;have:=HPP.out;simp[intOf];omega
   . have HSIG:Hid (sgB bb=Re.sgn v):=hdd (by
      have hs:bb.lo.man.sign=bb.hi.man.sign:=of_decide_eq_true hok;unfold sgB;rw[if_pos hs];exact(anT HIN.out hs).symm)
     generalize sgB bb=sg0 at*;have hB9:=hbl HBK.out HB9.out;have hA9:=hbl HA.out HB9.out;obtain⟨y0,y1,y2,-,-,-⟩:=cells3 hB9;obtain⟨z0,z1,z2,z3,z4,z5⟩:=cells3 hA9;have g3:=set3 hA9 (.int .i64 (n+1)) (.int .i64 p) (.int .i64 sep);have hbw:=HB5.out.trans (HB9.out.mono HB5.out.size);have HFF:=hdd g3;have HRR:=hdd (((hbw.setCell (p:=⟨w.heap.size,0,none⟩) nlr (.int .i64 (n+1))).setCell (p:=⟨w.heap.size,1,none⟩) nlr (.int .i64 p)).setCell (p:=⟨w.heap.size,2,none⟩) nlr (.int .i64 sep)).drew;clear hB9 hA9 g3 hbw;go_wp2
     go_region
     all_goals
      go_wp2;obtain⟨f0,f1,f2,-,-,-⟩:=cells3 HFF.out;refine bodyPost_ret (v:=.tuple #[_,.agg #[_,_,_],_]) (by simp[results,Tryz.results125,go_sem,f0,f1,f2];first|exact⟨rfl,⟨rfl,rfl,rfl⟩,rfl⟩|rfl) rfl ?_;rw[<-HSIG.out];exact⟨HRR.out,_,rfl⟩
end Go.Proofs.YtjaafolhfihegaaGreatDoor
