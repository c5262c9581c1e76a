/- A part of the proof: contracts of functions and plain laws (Ex, WalkC, WalkD). -/
import Derived.Test.YtaojpfcboainmaaGreatDoorK11
import Derived.Test.YtaojpfcboainmaaGreatDoorK13
import Derived.Test.YtaojpfcboainmaaGreatDoorK08
import Derived.Test.YtaojpfcboainmaaGreatDoorShelfS
import Derived.Sort.OwnSortedInts
set_option linter.unusedVariables false
set_option linter.unusedSimpArgs false
set_option maxHeartbeats 25600000
set_option maxRecDepth 100000
namespace Go.Proofs.YtaojpfcboainmaaGreatDoor
open List renaming getElem?_eq_some_iff->azO,getElem?_append_left->azP,prefix_rfl->azQ
variable{ns ns':List Nd}{i j k:Nat}{n:Nd}
inductive Ex where
 |leaf (v:Nat)
 |add (a b:Ex)
 |sub (a b:Ex)
 |mul (a b:Ex)
 |div (a b:Ex)
 |root (a:Ex)
def Is(ns:List Nd):Ex->Nat->Prop
 | .leaf v,k=>ns[k]? =some ⟨0,v,0,0⟩
 | .add a b,k=>∃i j:Nat,ns[k]? =some ⟨1,0,i,j⟩/\i<k/\j<k/\Is ns a i/\Is ns b j
 | .sub a b,k=>∃i j:Nat,ns[k]? =some ⟨2,0,i,j⟩/\i<k/\j<k/\Is ns a i/\Is ns b j
 | .mul a b,k=>∃i j:Nat,ns[k]? =some ⟨3,0,i,j⟩/\i<k/\j<k/\Is ns a i/\Is ns b j
 | .div a b,k=>∃i j:Nat,ns[k]? =some ⟨4,0,i,j⟩/\i<k/\j<k/\Is ns a i/\Is ns b j
 | .root a,k=>∃i:Nat,ns[k]? =some ⟨5,0,i,0⟩/\i<k/\Is ns a i
theorem Is.lt {e:Ex}(h:Is ns e k):k<ns.length:=by
 cases e<;>simp only[Is]at h
 . exact(azO.1 h).1
 all_goals first
  |(obtain⟨i,j,h,-⟩:=h;exact(azO.1 h).1)
  |(obtain⟨i,h,-⟩:=h;exact(azO.1 h).1)
theorem jU(hp:ns<+:ns')(h:ns[k]? =some n):ns'[k]? =some n:=by
 obtain⟨l,rfl⟩:=hp;rw[azP (azO.1 h).1];exact h
theorem Is.mono (hp:ns<+:ns'):∀{e:Ex} {k:Nat},Is ns e k->Is ns' e k:=by
 intro e
 induction e with
 |leaf v=>intro k h;exact jU hp h
 |add a b iha ihb=>intro k h;obtain⟨i,j,h1,h2,h3,h4,h5⟩:=h;exact⟨i,j,jU hp h1,h2,h3,iha h4,ihb h5⟩
 |sub a b iha ihb=>intro k h;obtain⟨i,j,h1,h2,h3,h4,h5⟩:=h;exact⟨i,j,jU hp h1,h2,h3,iha h4,ihb h5⟩
 |mul a b iha ihb=>intro k h;obtain⟨i,j,h1,h2,h3,h4,h5⟩:=h;exact⟨i,j,jU hp h1,h2,h3,iha h4,ihb h5⟩
 |div a b iha ihb=>intro k h;obtain⟨i,j,h1,h2,h3,h4,h5⟩:=h;exact⟨i,j,jU hp h1,h2,h3,iha h4,ihb h5⟩
 |root a iha=>intro k h;obtain⟨i,h1,h2,h3⟩:=h;exact⟨i,jU hp h1,h2,iha h3⟩
def AllIs(P:Ex->Prop)(ns:List Nd):Prop:=∀k,k<ns.length->∃e,Is ns e k/\P e
def opE(kind:Int)(a b:Ex):Ex:=if kind=1 then .add a b else if kind=2 then .sub a b else if kind=3 then .mul a b else .div a b
def vP(kind:Int):Prop:=kind=1\/kind=2\/kind=3\/kind=4
theorem Is.opE {kind:Int}(hk:vP kind){a b:Ex}(h:ns[k]? =some ⟨kind,0,i,j⟩)(hi:i<k)(hj:j<k)(ha:Is ns a i)(hb:Is ns b j):Is ns (opE kind a b) k:=by
 rcases hk with rfl|rfl|rfl|rfl<;>exact⟨i,j,h,hi,hj,ha,hb⟩
theorem AllIs.before {P:Ex->Prop}(h:AllIs P ns)(hn:ns[k]? =some n):(n.kind=0/\n.a=0/\n.b=0)\/(vP n.kind/\n.val=0/\∃i j:Nat,n.a=i/\n.b=j/\i<k/\j<k)\/(n.kind=5/\n.val=0/\n.b=0/\∃i:Nat,n.a=i/\i<k):=by
 obtain⟨e,he,-⟩:=h k (azO.1 hn).1
 cases e with
 |leaf v=>simp only[Is,hn]at he;cases he;exact Or.inl ⟨rfl,rfl,rfl⟩
 |root a=>obtain⟨i,h1,h2,h3⟩:=he;rw[hn]at h1;cases h1;exact Or.inr (Or.inr ⟨rfl,rfl,rfl,i,rfl,h2⟩)
 |add a b=>obtain⟨i,j,h1,h2,h3,-⟩:=he;rw[hn]at h1;cases h1;exact Or.inr (Or.inl ⟨Or.inl rfl,rfl,i,j,rfl,rfl,h2,h3⟩)
 |sub a b=>obtain⟨i,j,h1,h2,h3,-⟩:=he;rw[hn]at h1;cases h1;exact Or.inr (Or.inl ⟨Or.inr (Or.inl rfl),rfl,i,j,rfl,rfl,h2,h3⟩)
 |mul a b=>obtain⟨i,j,h1,h2,h3,-⟩:=he;rw[hn]at h1;cases h1;exact Or.inr (Or.inl ⟨Or.inr (Or.inr (Or.inl rfl)),rfl,i,j,rfl,rfl,h2,h3⟩)
 |div a b=>obtain⟨i,j,h1,h2,h3,-⟩:=he;rw[hn]at h1;cases h1;exact Or.inr (Or.inl ⟨Or.inr (Or.inr (Or.inr rfl)),rfl,i,j,rfl,rfl,h2,h3⟩)
theorem AllIs.snoc {P:Ex->Prop}(h:AllIs P ns){e:Ex}(he:Is (ns++[n]) e ns.length)(hP:P e):AllIs P (ns++[n]):=by
 intro k hk;rw[List.length_append]at hk;by_cases hkn:k<ns.length
 . obtain⟨e,h1,h2⟩:=h k hkn
   exact⟨e,h1.mono ⟨[n],rfl⟩,h2⟩
 . have:k=ns.length:=by simp at hk;omega
   subst this;exact⟨e,he,hP⟩
theorem aoN{P:Ex->Prop}{kind:Int}(hk:vP kind){a b:Ex}(h:AllIs P ns)(ha:Is ns a i)(hb:Is ns b j)(hn:ns'[k]? =some ⟨kind,0,i,j⟩)(hns:ns'=ns\/ns'=ns++[⟨kind,0,i,j⟩])(hP:P (opE kind a b)):
 Is ns' (Go.Proofs.YtaojpfcboainmaaGreatDoor.opE kind a b) k/\AllIs P ns'/\ns<+:ns':=by
 by_cases hkl:k<ns.length
 . have hnk:ns[k]? =some ⟨kind,0,i,j⟩:=by
    rcases hns with rfl|rfl
    . exact hn
    . rwa[azP hkl]at hn
   have hb4:i<k/\j<k:=by
    rcases h.before hnk with ⟨h0,-⟩|⟨-,-,i',j',e1,e2,h1,h2⟩|⟨h5,-⟩
    . rcases hk with rfl|rfl|rfl|rfl<;>simp at h0
    . simp at e1 e2;omega
    . rcases hk with rfl|rfl|rfl|rfl<;>simp at h5
   have hI:Is ns (Go.Proofs.YtaojpfcboainmaaGreatDoor.opE kind a b) k:=Is.opE hk hnk hb4.1 hb4.2 ha hb;rcases hns with rfl|rfl
   . exact⟨hI,h,azQ⟩
   . have hp:ns<+:ns++[⟨kind,0,i,j⟩]:=⟨_,rfl⟩
     exact⟨hI.mono hp,h.snoc (Is.opE hk (by simp) ha.lt hb.lt (ha.mono hp) (hb.mono hp)) hP,hp⟩
 . rcases hns with rfl|rfl
   . exact absurd (azO.1 hn).1 hkl
   . have hp:ns<+:ns++[⟨kind,0,i,j⟩]:=⟨_,rfl⟩
     have:k=ns.length:=by have:=(azO.1 hn).1;simp at this;omega
     subst this;have hI:=Is.opE hk hn ha.lt hb.lt (ha.mono hp) (hb.mono hp);exact⟨hI,h.snoc hI hP,hp⟩
theorem ajH{P:Ex->Prop}{v:Nat}(h:AllIs P ns)(hn:ns'[k]? =some ⟨0,v,0,0⟩)(hns:ns'=ns\/ns'=ns++[⟨0,v,0,0⟩])(hP:P (.leaf v)):
 Is ns' (.leaf v) k/\AllIs P ns'/\ns<+:ns':=by
 rcases hns with rfl|rfl
 . exact⟨hn,h,azQ⟩
 . exact⟨hn,h.snoc (show Is _ (.leaf v) _ by simp[Is]) hP,⟨_,rfl⟩⟩
theorem ajI{P:Ex->Prop}{a:Ex}(h:AllIs P ns)(ha:Is ns a i)(hn:ns'[k]? =some ⟨5,0,i,0⟩)(hns:ns'=ns\/ns'=ns++[⟨5,0,i,0⟩])(hP:P (.root a)):
 Is ns' (.root a) k/\AllIs P ns'/\ns<+:ns':=by
 by_cases hkl:k<ns.length
 . have hnk:ns[k]? =some ⟨5,0,i,0⟩:=by
    rcases hns with rfl|rfl
    . exact hn
    . rwa[azP hkl]at hn
   have hb4:i<k:=by
    rcases h.before hnk with ⟨h0,-⟩|⟨h0,-⟩|⟨-,-,-,i',e1,h1⟩
    . simp at h0
    . rcases h0 with h0|h0|h0|h0<;>simp at h0
    . simp at e1;omega
   have hI:Is ns (.root a) k:=⟨i,hnk,hb4,ha⟩;rcases hns with rfl|rfl
   . exact⟨hI,h,azQ⟩
   . have hp:ns<+:ns++[⟨5,0,i,0⟩]:=⟨_,rfl⟩
     exact⟨hI.mono hp,h.snoc (e:=.root a) ⟨i,by simp,ha.lt,ha.mono hp⟩ hP,hp⟩
 . rcases hns with rfl|rfl
   . exact absurd (azO.1 hn).1 hkl
   . have hp:ns<+:ns++[⟨5,0,i,0⟩]:=⟨_,rfl⟩
     have:k=ns.length:=by have:=(azO.1 hn).1;simp at this;omega
     subst this;have hI:Is (ns++[⟨5,0,i,0⟩]) (.root a) ns.length:=⟨i,hn,ha.lt,ha.mono hp⟩;exact⟨hI,h.snoc hI hP,hp⟩
end Go.Proofs.YtaojpfcboainmaaGreatDoor
namespace Go.Proofs.YtaojpfcboainmaaGreatDoor
open Go.RowKit Go.Maps
open Go.Value renaming ownBlock->azS
open List renaming mem_cons_of_mem->azT,mem_cons->azU,getElem?_eq_getElem->azV,mem_append->azW,mem_singleton->azX,length_append->azY,getElem?_eq_some_iff->azZ,mem_of_getElem?->az0,map_congr_left->az1,pairwise_cons->az2,append_assoc->az3,not_mem_nil->az4,map_map->az5,map_id->az6
open Option.some renaming inj->azR
variable{o:Int}{l st0:List Nat}{ns:List Nd}{B b g gv i j mb x:Nat}{n:Nd}{v:Value}{w:World}
theorem rP:∀(n:Nat) (l:List Nat),l.Nodup->(∀x∈l,x<n)->l.length<=n:=by
 intro n
 induction n with
 |zero=>intro l _ h;cases l with
  |nil=>simp
  |cons x l=>have:=h x (by simp);omega
 |succ n ih=>
  intro l hn h;have h1:=ih (l.erase n) (hn.erase n) (fun x hx=>by
   have hx':=(hn.mem_erase_iff).1 hx;have:=h x hx'.2;have:=hx'.1;omega)
  have h2:=List.length_erase (a:=n) (l:=l)
  split at h2<;>omega
def ClS(ns:List Nd)(S:Nat->Prop):Prop:=∀(x:Nat) n,S x->ns[x]? =some n->∀o∈opsN n,S o.toNat
structure PI(ns:List Nd)(root:Nat)(vis st found:List Nat):Prop where
 nd:(found++st).Nodup
 mem:∀x,x∈vis↔x∈found\/x∈st
 lt:∀x∈vis,x<ns.length
 rt:root∈vis
 le:∀x∈vis,x<=root
 mn:∀S:Nat->Prop,ClS ns S->S root->∀x∈vis,S x
def Cl(ns:List Nd)(vis xs:List Nat):Prop:=∀x∈xs,∀n,ns[x]? =some n->∀o∈opsN n,∃y∈vis,(y:Int)=o
theorem Cl.mono {vis vis' xs:List Nat}(h:Cl ns vis xs)(hs:∀x∈vis,x∈vis'):Cl ns vis' xs:=fun x hx n hn o ho=>by
 obtain⟨y,hy,e⟩:=h x hx n hn o ho;exact⟨y,hs y hy,e⟩
theorem PI.len {root:Nat}{vis st found:List Nat}(h:PI ns root vis st found):found.length+st.length<=ns.length:=by
 have:=rP ns.length (found++st) h.nd (fun x hx=>h.lt x ((h.mem x).2 (azW.1 hx)));simpa using this
theorem PI.push {root:Nat}{vis st found:List Nat}(h:PI ns root vis st found)(hi:i<ns.length)(hle:i<=root)(hS:∀S:Nat->Prop,ClS ns S->S root->S i)(hv:¬i∈vis):PI ns root (i::vis) (st++[i]) found:=by
 refine⟨?_,?_,?_,azT _ h.rt,fun x hx=>(azU.1 hx).elim (fun e=>by rw[e];exact hle) (h.le x),fun S hc hr x hx=>(azU.1 hx).elim (fun e=>by rw[e];exact hS S hc hr) (h.mn S hc hr x)⟩
 . rw[<-az3]
   refine List.nodup_append.2 ⟨h.nd,by simp,?_⟩;intro a ha b hb;simp only[azX]at hb;subst hb;rintro rfl;exact hv ((h.mem a).2 (azW.1 ha))
 . intro x
   simp only[azU,azW,az4,or_false];have:=h.mem x;constructor
   . rintro(h1|h1)
     . exact Or.inr (Or.inr h1)
     . rcases this.1 h1 with h2|h2
       . exact Or.inl h2
       . exact Or.inr (Or.inl h2)
   . rintro(h1|h1|h1)
     . exact Or.inr (this.2 (Or.inl h1))
     . exact Or.inr (this.2 (Or.inr h1))
     . exact Or.inl h1
 . intro x hx
   rcases azU.1 hx with rfl|hx
   . exact hi
   . exact h.lt x hx
theorem PI.pop {root:Nat}{vis st found:List Nat}(h:PI ns root vis (st++[i]) found):PI ns root vis st (found++[i]):=by
 refine⟨?_,?_,h.lt,h.rt,h.le,h.mn⟩
 . have:=h.nd
   refine(List.Perm.nodup_iff ?_).1 this;rw[az3];exact List.Perm.append_left _ List.perm_append_comm
 . intro x
   rw[h.mem x];simp only[azW,azX];constructor
   . rintro(h1|h1|h1)
     . exact Or.inl (Or.inl h1)
     . exact Or.inr h1
     . exact Or.inl (Or.inr h1)
   . rintro((h1|h1)|h1)
     . exact Or.inl h1
     . exact Or.inr (Or.inr h1)
     . exact Or.inr (Or.inl h1)
structure BS(w0 wr:World)(sv fv:Value)(vis st found:List Nat):Prop where
 bel:Below w0.heap.size w0 wr
 vs:VS wr (w0.heap.size+2) w0.heap.size (w0.heap.size+1) sv vis st
 svB:∀b,sv.ownBlock=some b->w0.heap.size<=b
 own:wr.ownsRow w0.heap.size 3 1 fv found.length (bT found)
 f0:fv.ownBlock≠some w0.heap.size
 f1:fv.ownBlock≠some (w0.heap.size+1)
 f2:fv.ownBlock≠some (w0.heap.size+2)
 sf:∀b,fv.ownBlock=some b->sv.ownBlock≠some b
section
variable{w0 wr w':World}{sv fv:Value}{vis st found:List Nat}
theorem VS.lts {gs:Nat}{sv:Value}{vis st:List Nat}(h:VS w gv gs mb sv vis st):gv<w.heap.size/\gs<w.heap.size/\mb<w.heap.size/\∀b,sv.ownBlock=some b->b<w.heap.size:=by
 obtain⟨m,h1,h2,h3,h4,h5,-⟩:=h;exact⟨aG h1,aG h2,h3.lt,kM h5⟩
theorem VS.below {w':World}{gs:Nat}{sv:Value}{vis st:List Nat}(h:VS w gv gs mb sv vis st)(hb:Below w.heap.size w w'):VS w' gv gs mb sv vis st:=by
 obtain⟨m,h1,h2,h3,h4,h5,h6,h7,h8,h9,h10,h11⟩:=h;exact⟨m,hbl h1 hb,hbl h2 hb,h3.below hb h3.lt,h4,h5.kept (bQ (row:=none) hb) (qK sv),h6,h7,h8,h9,h10,h11⟩
theorem qL{w':World}{base:Nat}{e:TypeId}{size:Nat}{n:Nat}{xs:List Value}(h:w.ownsRow base e size v n xs)(hb:∀b,v.ownBlock=some b->w'.heap[b]? =w.heap[b]?):w'.ownsRow base e size v n xs:=by
 obtain⟨h1,h2⟩:=h;refine⟨h1,?_⟩;rcases h2 with h2|⟨g,cap,cur,rfl,h3,h4,h5⟩
 . exact Or.inl h2
 . exact Or.inr ⟨g,cap,cur,rfl,h3,(hb g rfl).trans h4,h5⟩
theorem BS.below (h:BS w0 wr sv fv vis st found)(hb:Below wr.heap.size wr w'):BS w0 w' sv fv vis st found:=
 ⟨h.bel.trans (hb.mono h.bel.size),h.vs.below hb,h.svB,h.own.kept (bQ (row:=none) hb) (qK fv),h.f0,h.f1,h.f2,h.sf⟩
theorem BS.visit {e:Ending}(h:BS w0 wr sv fv vis st found)(hp:oH wr (w0.heap.size+2) w0.heap.size (w0.heap.size+1) sv vis st i e w'):
 e=.returned (.tuple #[])/\wr.heap.size<=w'.heap.size/\∃sv',(if i∈vis then BS w0 w' sv' fv vis st found else BS w0 w' sv' fv (i::vis) (st++[i]) found)/\
  ∀b (o:Obj),w0.heap.size+2<b->wr.heap[b]? =some o->sv.ownBlock≠some b->w'.heap[b]? =some o/\sv'.ownBlock≠some b:=by
 obtain⟨rfl,hf,sv',hs,hv⟩:=hp;have hl:=h.vs.lts;have hfb:∀b,fv.ownBlock=some b->b<wr.heap.size:=kM h.own;have hbel:Below w0.heap.size w0 w':=h.bel.trans (hf.below h.bel.size (fun b hb=>by
  rcases hb with rfl|rfl|hb
  . omega
  . omega
  . exact h.svB b hb))
 have hkeep:∀b,b<wr.heap.size->b≠w0.heap.size->b≠w0.heap.size+1->sv.ownBlock≠some b->w'.heap[b]? =wr.heap[b]? :=fun b hb h1 h2 h3=>hf.block b hb (fun hs=>by
  rcases hs with hs|hs|hs
  . exact h1 hs
  . exact h2 hs
  . exact h3 hs)
 have hown:w'.ownsRow w0.heap.size 3 1 fv found.length (bT found):=qL h.own fun b hb=>hkeep b (hfb b hb) (fun e=>h.f0 (by rw[hb,e])) (fun e=>h.f1 (by rw[hb,e])) (h.sf b hb);have hsB:∀b,sv'.ownBlock=some b->w0.heap.size<=b:=fun b hb=>by
  rcases hs with hs|⟨b',hs,hlt⟩
  . exact h.svB b (by rw[<-hs];exact hb)
  . rw[hs]at hb;have:=azR hb;have:=h.bel.size;omega
 have hsf:∀b,fv.ownBlock=some b->sv'.ownBlock≠some b:=fun b hb=>by
  rcases hs with hs|⟨b',hs,hlt⟩
  . rw[hs];exact h.sf b hb
  . rw[hs];intro e;have:=azR e;have:=hfb b hb;omega
 refine⟨rfl,hf.size,sv',?_,fun b o hb ho hne=>⟨(hkeep b (aG ho) (by omega) (by omega) hne).trans ho,fun e=> ?_⟩⟩
 . by_cases hi:i∈vis
   . rw[if_pos hi]at hv|-
     exact⟨hbel,hv,hsB,hown,h.f0,h.f1,h.f2,hsf⟩
   . rw[if_neg hi]at hv|-
     exact⟨hbel,hv,hsB,hown,h.f0,h.f1,h.f2,hsf⟩
 . rcases hs with hs|⟨b',hs,hlt⟩
   . exact hne (by rw[<-hs];exact e)
   . rw[hs]at e;have:=azR e;have:=aG ho;omega
theorem BS.cells (h:BS w0 wr sv fv vis st found):wr.cell? ⟨w0.heap.size,0,none⟩=some sv/\wr.frozen? ⟨w0.heap.size,0,none⟩=false/\wr.cell? ⟨w0.heap.size+2,0,none⟩=some (.map (some (w0.heap.size+1))):=by
 obtain⟨m,h1,h2,-⟩:=h.vs;exact⟨by simp[World.cell?,h2],by simp[World.frozen?,h2],by simp[World.cell?,h1]⟩
theorem mG(l:List Nat):(bT l).length=l.length:=by simp[bT]
theorem vQ(l m:List Nat):bT (l++m)=bT l++bT m:=by simp[bT]
theorem BS.top (h:BS w0 wr sv fv vis (st0++[x]) found):∃b cap,sv=.slice (some ⟨b,0,none⟩) (st0.length+1) cap/\st0.length+1<=cap/\cap<=maxLen/\wr.cell? ⟨b,st0.length,none⟩=some (.int .i64 (x:Int)):=by
 obtain⟨m,h1,h2,h3,h4,h5,-⟩:=h.vs;rcases id h5.2 with ⟨-,h0⟩|⟨b,cap,cur,rfl,-,hb,hn,hc,hsz,hcur⟩
 . simp at h0
 . rw[azY]at h5 hn
   refine⟨b,cap,by simp,hn,hc,?_⟩;have:=h5.cellAt st0.length (by simp);rw[this,vQ,List.getElem?_append_right (by rw[mG];exact Nat.le_refl _),mG];simp[bT]
theorem BS.pop {cap:Nat}(h:BS w0 wr (.slice (some ⟨b,0,none⟩) (st0.length+1) cap) fv vis (st0++[x]) found):
 BS w0 (wr.setCell ⟨w0.heap.size,0,none⟩ (.slice (some ⟨b,0,none⟩) st0.length cap)) (.slice (some ⟨b,0,none⟩) st0.length cap) fv vis st0 found:=by
 obtain⟨m,h1,h2,h3,h4,h5,h6,h7,h8,h9,h10,h11⟩:=h.vs;have hne:∀{k:Nat},k≠w0.heap.size->(wr.setCell ⟨w0.heap.size,0,none⟩ (.slice (some ⟨b,0,none⟩) st0.length cap)).heap[k]? =wr.heap[k]? :=fun hk=>Below.heap_setCell _ _ _ _ (by simpa using hk);have hb0:b≠w0.heap.size:=fun e=>h9 (by rw[e];rfl);refine⟨h.bel.setCell (by simp) _,⟨m,(hne (by omega)).trans h1,?_,h3.keep (hne (by omega)),h4,?_,h6,h7,h8,h9,h10,h11⟩,h.svB,qL h.own fun k hk=>hne (fun e=>h.f0 (by rw[hk,e])),h.f0,h.f1,h.f2,h.sf⟩
 . have hg':=aG h2
   have h':wr.heap[w0.heap.size]=.cells #[.slice (some ⟨b,0,none⟩) (st0.length+1) cap] 140 (0,0):=(Array.getElem?_eq_some_iff.1 h2).2;simp[World.setCell,hg',Array.getElem_modify,h']
 . have h5':(wr.setCell ⟨w0.heap.size,0,none⟩ (.slice (some ⟨b,0,none⟩) st0.length cap)).ownsRow 0 3 1 (.slice (some ⟨b,0,none⟩) (st0.length+1) cap) (st0++[x]).length (bT (st0++[x])):=qL h5 fun k hk=>hne (by
    have:b=k:=azR hk;omega)
   obtain⟨e1,e2⟩:=h5';refine⟨by simp[bT],Or.inr ?_⟩;rcases e2 with ⟨e2,-⟩|⟨g,cap',cur,e2,e3,e4,e5,e6,e7,e8⟩
   . injection e2 with e2;cases e2
   . injection e2 with e2 _ e9
     cases e2;subst e9
     refine⟨b,cap,cur,rfl,e3,e4,by simp at e5;omega,e6,e7,?_⟩;have:=congrArg (List.take st0.length) e8;rw[List.take_take,vQ,List.take_append_of_le_length (by rw[mG];exact Nat.le_refl _)]at this;simp at this|-;rw[this,List.take_of_length_le (by rw[mG];exact Nat.le_refl _)]
theorem BS.app {w2 w3:World}{cap:Nat}(h:BS w0 wr sv fv vis st found)(hb:Below wr.heap.size wr w2)(hO:w3.ownsRow w0.heap.size 3 1 (.slice (some ⟨g,0,none⟩) (found.length+1) cap) (found.length+1) (bT found++[.int .i64 (x:Int)]))
 (hg:w2.grownBy w3 fv.ownBlock) (hat:fv.ownBlock=some g\/g=w2.heap.size):BS w0 w3 sv (.slice (some ⟨g,0,none⟩) (found.length+1) cap) vis st (found++[x]):=by
 have h2:=h.below hb;obtain⟨l1,l2,l3,l4⟩:=h2.vs.lts;obtain⟨m,h1,h2',h3,h4,h5,h6,h7,h8,h9,h10,h11⟩:=h2.vs;have hkeep:∀b,b<w2.heap.size->fv.ownBlock≠some b->w3.heap[b]? =w2.heap[b]? :=fun b hb hn=>hg.block b hb (fun e=>hn e.symm);have hgB:w0.heap.size<=g:=by
  rcases hat with h'|h'
  . exact(h2.own.lt g h').1
  . have:=h2.bel.size;omega
 refine⟨⟨hg.os.trans h2.bel.os,hg.tape.trans h2.bel.tape,hg.output.trans h2.bel.output,Nat.le_trans h2.bel.size hg.size,fun k hk=>(hkeep k (by have:=h2.bel.size;omega) (fun e=>by have:=(h2.own.lt k e).1;omega)).trans (h2.bel.block k hk)⟩,
  ⟨m,(hkeep _ l1 h2.f2).trans h1,(hkeep _ l2 h2.f0).trans h2',h3.keep (hkeep _ l3 h2.f1),h4,qL h5 fun k hk=>hkeep k (l4 k hk) (fun e=>h2.sf k e hk),h6,h7,h8,h9,h10,h11⟩,h2.svB,?_,?_,?_,?_,?_⟩
 . simpa[bT]using hO
 . intro e
   have:g=w0.heap.size:=azR e;rcases hat with h'|h'
   . exact h2.f0 (by rw[h',this])
   . omega
 . intro e
   have:g=w0.heap.size+1:=azR e;rcases hat with h'|h'
   . exact h2.f1 (by rw[h',this])
   . omega
 . intro e
   have:g=w0.heap.size+2:=azR e;rcases hat with h'|h'
   . exact h2.f2 (by rw[h',this])
   . omega
 . intro b hb' hsv
   have:g=b:=azR hb';subst this;rcases hat with h'|h'
   . exact h2.sf g h' hsv
   . have:=l4 g hsv;omega
end
def OkNs(ns:List Nd):Prop:=∀(i:Nat) n,ns[i]? =some n->(n.kind=0\/n.kind=5\/(1<=n.kind/\n.kind<=4))/\∀o∈opsN n,0<=o/\o<i
def IntsP(p:Nat->Prop)(w:World)(v:Value)(l:List Nat):Prop:=
 ∃b c,v=.slice (some ⟨b,0,none⟩) l.length c/\l.length<=c/\c<=maxLen/\p b/\b<w.heap.size/\∀k x,l[k]? =some x->w.cell? ⟨b,k,none⟩=some (.int .i64 ((x:Nat):Int))
theorem IntsP.below {p:Nat->Prop}{w':World}(h:IntsP p w v l)(hb:Below w.heap.size w w'):IntsP p w' v l:=by
 obtain⟨b,c,e,h1,h2,h3,h4,h5⟩:=h;exact⟨b,c,e,h1,h2,h3,Nat.lt_of_lt_of_le h4 hb.size,fun k x hx=>cbl (h5 k x hx) hb⟩
structure IsB(ns:List Nd)(root:Nat)(l:List Nat):Prop where
 srt:l.Pairwise (· < ·)
 rt:root∈l
 lt:∀x∈l,x<ns.length
 cl:Cl ns l l
 le:∀x∈l,x<=root
 mn:∀S:Nat->Prop,ClS ns S->S root->∀x∈l,S x
theorem adO:∀{l m:List Nat},l.Pairwise (· < ·)->m.Pairwise (· < ·)->(∀x,x∈l↔x∈m)->l=m:=by
 intro l
 induction l with
 |nil=>intro m _ _ h;cases m with
  |nil=>rfl
  |cons y m=>have:=(h y).2 (by simp);simp at this
 |cons x l ih=>
  intro m hl hm h
  cases m with
  |nil=>have:=(h x).1 (by simp);simp at this
  |cons y m=>
   obtain⟨l1,l2⟩:=az2.1 hl;obtain⟨m1,m2⟩:=az2.1 hm;have hxy:x=y:=by
    rcases azU.1 ((h x).1 (by simp))with e|e
    . exact e
    . rcases azU.1 ((h y).2 (by simp))with e'|e'
      . exact e'.symm
      . have:=m1 x e;have:=l1 y e';omega
   subst hxy
   congr 1
   refine ih l2 m2 fun z=>⟨fun hz=> ?_,fun hz=> ?_⟩
   . rcases azU.1 ((h z).1 (azT _ hz))with e|e
     . have:=l1 z hz;omega
     . exact e
   . rcases azU.1 ((h z).2 (azT _ hz))with e|e
     . have:=m1 z hz;omega
     . exact e
theorem IsB.unique {root:Nat}{m:List Nat}(h:IsB ns root l)(k:IsB ns root m):l=m:=by
 have key:∀{l m:List Nat},IsB ns root l->IsB ns root m->∀x∈l,x∈m:=fun{l m} h k x hx=>
  h.mn (· ∈m) (fun z n hz hn o ho=>by
   obtain⟨y,hy,e⟩:=k.cl z hz n hn o ho;have:o.toNat=y:=by omega
   rw[this];exact hy) k.rt x hx
 exact adO h.srt k.srt fun x=>⟨key h k x,key k h x⟩
def qM(w:World)(ns:List Nd)(root:Nat)(e:Ending)(w':World):Prop:=
 Below w.heap.size w w'/\∃v l,e=.returned v/\IntsP (fun b=>w.heap.size<=b) w' v l/\IsB ns root l
theorem ajJ(w:World):∃w3,((w.alloc (.cells #[Value.slice none 0 0] 140)).alloc (.map #[] 0)).alloc (.cells #[Value.map none] 174)=w3/\w3.cell? ⟨w.heap.size+2,0,none⟩=some (.map none)/\w3.frozen? ⟨w.heap.size+2,0,none⟩=false/\
 BS w (w3.setCell ⟨w.heap.size+2,0,none⟩ (.map (some (w.heap.size+1)))) (.slice none 0 0) (.slice none 0 0) [] [] []:=by
 obtain⟨w3,h,hb,hs,b1,b2,b3⟩:=pro3 w (.cells #[Value.slice none 0 0] 140) (.map #[] 0) (.cells #[Value.map none] 174);refine⟨w3,h,by simp[World.cell?,b3],by simp[World.frozen?,b3],?_⟩;have hne:∀{k:Nat},k≠w.heap.size+2->(w3.setCell ⟨w.heap.size+2,0,none⟩ (.map (some (w.heap.size+1)))).heap[k]? =w3.heap[k]? :=fun hk=>Below.heap_setCell _ _ _ _ (by simpa using hk);refine⟨hb.setCell (by simp) _,⟨fun _=>none,?_,(hne (by omega)).trans b1,MapP.made (es:=#[]) ((hne (by omega)).trans b2),by simp,World.ownsRow_nil _ _ _ _,by omega,by omega,by omega,by simp[azS],by simp[azS],by simp[azS]⟩,by simp[azS],World.ownsRow_nil _ _ _ _,by simp[azS],by simp[azS],by simp[azS],by simp[azS]⟩;have hg':=aG b3;have h':w3.heap[w.heap.size+2]=.cells #[Value.map none] 174 (0,0):=(Array.getElem?_eq_some_iff.1 b3).2;simp[World.setCell,hg',Array.getElem_modify,h']
theorem ajK{cap:Nat}(h:w.ownsRow B 3 1 (.slice (some ⟨b,0,none⟩) l.length cap) l.length (bT l))(hl:l.length<=20000):
 Calls Tryz.prog 121 #[.slice (some ⟨b,0,none⟩) l.length cap] w (fun e w'=>e=.returned (.tuple #[])/\w.grownBy w' (some b)/\∃l',l'.Perm l/\l'.Pairwise (· <= ·)/\w'.ownsRow B 3 1 (.slice (some ⟨b,0,none⟩) l.length cap) l.length (bT l')):=by
 obtain⟨h1,h2⟩:=h;rcases h2 with ⟨h2,-⟩|⟨g,cap',cur,e2,hB,hb,hn,hc,hsz,hcur⟩
 . cases h2
 injection e2 with e2 _ e3
 cases e2;subst e3
 have hlen:(l.map (fun(x:Nat)=>(x:Int))).length=l.length:=by simp
 have hcells:bT l=(l.map (fun(x:Nat)=>(x:Int))).map (Value.int .i64):=by simp[bT]
 have hH:=Go.holds_of_blockI (ss:=l.map (fun(x:Nat)=>(x:Int))) hb (by rw[hlen,<-hcells,<-hcur,Nat.mul_one]);have hcall:=Tryz.slices_Sort_int b 0 cap (l.map (fun(x:Nat)=>(x:Int))) w hH (aG hb) (by rw[hlen];omega);rw[hlen]at hcall;refine hcall.mono ?_;rintro e w'⟨rfl,n,os,rfl⟩;refine⟨rfl,Go.grownBy_sortedI _,?_⟩;obtain⟨ts,hts⟩:∃ts,ts=(l.map (fun(x:Nat)=>(x:Int))).mergeSort (fun x y=>decide (x<=y)):=⟨_,rfl⟩;have hperm:ts.Perm (l.map (fun(x:Nat)=>(x:Int))):=by rw[hts];exact List.mergeSort_perm _ _
 have hsort:ts.Pairwise (fun a b=>decide (a<=b)=true):=by
  rw[hts];exact List.pairwise_mergeSort (fun a b c h1 h2=>by simp at*;omega) (fun a b=>by simp;omega) _
 rw[<-hts];have hnn:∀x∈ts,0<=x:=fun x hx=>by
  obtain⟨y,-,rfl⟩:=List.mem_map.1 (hperm.mem_iff.1 hx);omega
 have hmap:(ts.map Int.toNat).map (fun(x:Nat)=>(x:Int))=ts:=by
  rw[az5];refine(az1 fun x hx=> ?_).trans (az6 _);have:=hnn x hx;simp;omega
 refine⟨ts.map Int.toNat,?_,?_,?_⟩
 . have h3:=hperm.map Int.toNat
   rw[az5]at h3;refine h3.trans (List.Perm.of_eq ?_);exact(az1 fun x _=>by simp).trans (az6 _)
 . rw[List.pairwise_map]
   refine hsort.imp fun{a b} h=> ?_;simp at h;omega
 . have h3:=Go.ownsRow_sortedI (n:=n) (os:=os) (ss:=l.map (fun(x:Nat)=>(x:Int))) (ts:=ts) hperm.length_eq hB hb (by rw[hlen];exact hn) hc hsz
   rw[hlen]at h3;have h4:bT (ts.map Int.toNat)=ts.map (Value.int .i64):=by
    conv=>rhs;rw[<-hmap]
    simp[bT]
   rw[h4];exact h3
def lenOf:Value->Nat| .slice _ n _=>n|_=>0
theorem agP(h:w.ownsRow B 3 1 v l.length (bT l)):lenOf v=l.length:=by
 rcases h.2 with ⟨rfl,h0⟩|⟨g,cap,cur,rfl,-⟩
 . rw[h0];rfl
 . rfl
theorem aoO(h:(opsN n)[j]? =some o):(j=0/\o=(ops2 n).1)\/(j=1/\o=(ops2 n).2):=by
 unfold opsN at h;unfold ops2
 split at h
 . simp at h
 . rename_i h0
   rw[if_neg h0]
   split at h
   . rename_i h5
     rw[if_pos h5]
     cases j with
     |zero=>simp at h;exact Or.inl ⟨rfl,h.symm⟩
     |succ j=>simp at h
   . rename_i h5
     rw[if_neg h5]
     match j,h with
     |0,h=>simp at h;exact Or.inl ⟨rfl,h.symm⟩
     |1,h=>simp at h;exact Or.inr ⟨rfl,h.symm⟩
     |j+2,h=>simp at h
theorem uA(n:Nd):(opsN n).length<=2:=by unfold opsN;split<;>(try split)<;>simp
theorem abK{T:TypeId}(h:w.heap[b]? =some (.cells #[.int .i64 (ops2 n).1,.int .i64 (ops2 n).2] T (0,0)))(ho:(opsN n)[j]? =some o):w.cell? ⟨b,j,none⟩=some (.int .i64 o):=by
 obtain⟨c0,c1,-,-⟩:=aF h;rcases aoO ho with ⟨rfl,rfl⟩|⟨rfl,rfl⟩
 . exact c0
 . exact c1
theorem adP(st:List Nat):st=[]\/∃st0 x,st=st0++[x]:=by
 rcases List.eq_nil_or_concat st with h|⟨a,b,h⟩
 . exact Or.inl h
 . exact Or.inr ⟨a,b,by rw[h,List.concat_eq_append]⟩
theorem fO(hd:DagP w g ns)(hi:ns[i]? =some n):
 Calls Tryz.prog 89 #[.pointer (some ⟨g,0,none⟩),.int .i64 i] w (fun e w'=>e=.returned (.tuple #[.agg #[.int .i64 n.kind,.float .f64 n.val,.int .i64 n.a,.int .i64 n.b],.bool true])/\Below w.heap.size w w'):=abH hd hi
theorem new4(w:World)(T:TypeId)(z0 z1 z2 z3 a b c d:Value):∃w1,w.alloc (.cells #[z0,z1,z2,z3] T)=w1/\w1.cell? ⟨w.heap.size,0,none⟩=some z0/\w1.cell? ⟨w.heap.size,1,none⟩=some z1/\w1.cell? ⟨w.heap.size,2,none⟩=some z2/\w1.cell? ⟨w.heap.size,3,none⟩=some z3/\
 w1.frozen? ⟨w.heap.size,0,none⟩=false/\w1.frozen? ⟨w.heap.size,1,none⟩=false/\w1.frozen? ⟨w.heap.size,2,none⟩=false/\w1.frozen? ⟨w.heap.size,3,none⟩=false/\
 ∃w2,(((w1.setCell ⟨w.heap.size,0,none⟩ a).setCell ⟨w.heap.size,1,none⟩ b).setCell ⟨w.heap.size,2,none⟩ c).setCell ⟨w.heap.size,3,none⟩ d=w2/\Below w.heap.size w w2/\w2.heap[w.heap.size]? =some (.cells #[a,b,c,d] T (0,0)):=by
 obtain⟨w1,h,hb,hs,b1⟩:=pro1 w (.cells #[z0,z1,z2,z3] T);obtain⟨c0,c1,c2,c3⟩:=aW b1;obtain⟨f0,f1,f2,f3⟩:=vM b1;have g1:=hb.setCell (p:=⟨w.heap.size,0,none⟩) nlr a;have g2:=g1.setCell (p:=⟨w.heap.size,1,none⟩) nlr b;have g3:=g2.setCell (p:=⟨w.heap.size,2,none⟩) nlr c;have g4:=g3.setCell (p:=⟨w.heap.size,3,none⟩) nlr d;exact⟨w1,h,c0,c1,c2,c3,f0,f1,f2,f3,_,rfl,g4,set4 b1 a b c d⟩
theorem new2(w:World)(T:TypeId)(z0 z1 a b:Value):∃w1,w.alloc (.cells #[z0,z1] T)=w1/\w1.cell? ⟨w.heap.size,0,none⟩=some z0/\w1.cell? ⟨w.heap.size,1,none⟩=some z1/\
 w1.frozen? ⟨w.heap.size,0,none⟩=false/\w1.frozen? ⟨w.heap.size,1,none⟩=false/\
 ∃w2,(w1.setCell ⟨w.heap.size,0,none⟩ a).setCell ⟨w.heap.size,1,none⟩ b=w2/\Below w.heap.size w w2/\w2.heap[w.heap.size]? =some (.cells #[a,b] T (0,0)):=by
 obtain⟨w1,h,hb,hs,b1⟩:=pro1 w (.cells #[z0,z1] T);obtain⟨c0,c1,f0,f1⟩:=aF b1;have g1:=hb.setCell (p:=⟨w.heap.size,0,none⟩) nlr a;have g2:=g1.setCell (p:=⟨w.heap.size,1,none⟩) nlr b;exact⟨w1,h,c0,c1,f0,f1,_,rfl,g2,set2 b1 a b⟩
theorem agQ{wr w9:World}{root gf capf:Nat}{sv:Value}{vis found l':List Nat}(hB:BS w wr sv (.slice (some ⟨gf,0,none⟩) found.length capf) vis [] found)(hP:PI ns root vis [] found)(hC:Cl ns vis found)
 (hgr:wr.grownBy w9 (some gf)) (hperm:l'.Perm found) (hs:l'.Pairwise (· <= ·)) (hown:w9.ownsRow w.heap.size 3 1 (.slice (some ⟨gf,0,none⟩) found.length capf) found.length (bT l')):
 qM w ns root (.returned (.slice (some ⟨gf,0,none⟩) found.length capf)) w9:=by
 have hnd:l'.Nodup:=by
  have:=hP.nd;rw[List.append_nil]at this;exact hperm.nodup_iff.2 this
 have hmem:∀x,x∈l'↔x∈vis:=fun x=>by rw[hperm.mem_iff,hP.mem x];simp
 have hgB:w.heap.size<=gf:=(hB.own.lt gf rfl).1;refine⟨hB.bel.trans ⟨hgr.os,hgr.tape,hgr.output,hgr.size,fun k hk=>hgr.block k (Nat.lt_of_lt_of_le hk hB.bel.size) (fun e=>by have:=azR e;omega)⟩,_,l',rfl,?_,?_,(hmem root).2 hP.rt,fun x hx=>hP.lt x ((hmem x).1 hx),?_,fun x hx=>hP.le x ((hmem x).1 hx),fun S hc hr x hx=>hP.mn S hc hr x ((hmem x).1 hx)⟩
 . rcases hown.2 with ⟨h,-⟩|⟨g,cap,cur,e2,h1,h2,h3,h4,h5,h6⟩
   . cases h
   injection e2 with e2 _ e3
   cases e2;subst e3
   refine⟨gf,capf,by rw[hperm.length_eq],by rw[hperm.length_eq];exact h3,h4,hgB,aG h2,fun k x hx=> ?_⟩;have hk:=(azZ.1 hx).1;rw[hperm.length_eq]at hk;rw[hown.cellAt k (by omega)];simp[bT,hx]
 . have:=List.Pairwise.and hs hnd
   exact this.imp fun{a b} h=>by have:=h.1;have:=h.2;omega
 . intro x hx n hn o ho
   obtain⟨y,hy,e⟩:=hC x (hperm.mem_iff.1 hx) n hn o ho;exact⟨y,(hmem y).2 hy,e⟩
theorem jV{root b0:Nat}(hd:DagP w g ns)(ok:OkNs ns)(hr:root<ns.length)(hb0:w.heap[b0]? =some (.cells #[.int .i64 (root:Int)] 3 (0,0))):
 Calls Tryz.prog 104 #[.pointer (some ⟨g,0,none⟩),.slice (some ⟨b0,0,none⟩) 1 1] w (qM w ns root):=by
 obtain⟨w3,hw3,k0,k1,hbs⟩:=ajJ w;have HBS:=hdd hbs;have HD:=hdd hd;have HOK:=hdd ok;have HRL:=hdd hr;have HB0:=hdd hb0;have HLN:=hdd hd.len;obtain⟨nr,hnr⟩:∃n,ns[root]? =some n:=⟨_,azV hr⟩;have HNR:=hdd hnr;clear hbs hd ok hr hb0 hnr;have hmm:=@run_makeMap Tryz.prog;go_enter Tryz.func104,Tryz.ntmps104
 go_wp2_with fail
 go_loopw [24] (fun i wr=>∃k:Int,(0<=k/\k<=1)/\i=.int .i64 k/\Hid (∃sv,BS w wr sv (.slice none 0 0) (if k=0 then[]else[root]) (if k=0 then[]else[root]) [])) (fun i _=>(1-intOf i).toNat)
 case atStart=>exact⟨0,by omega,rfl,hdd ⟨_,HBS.out⟩⟩
 case round=>
  obtain⟨kk,hkk,rfl,HR2⟩:=hrel;rcases(show kk=0\/kk=1 by omega)with rfl|rfl
  . obtain⟨sv,hB⟩:=HR2.out
    simp only[if_true]at hB;have cb0:wr.cell? ⟨b0,0,none⟩=some (.int .i64 (root:Int)):=by
     have:=hbl HB0.out hB.bel;simp[World.cell?,this]
    have HN:=hdd (fO (HD.out.below hB.bel) HNR.out);have HB:=hdd hB;have hst:=aY;clear hB;go_wp2_with fail
    refine HN.out.mono ?_;rintro e w5⟨rfl,hb5⟩;obtain⟨w6,hw6,z0,z1,z2,z3,y0,y1,y2,y3,w7,hw7,hb7,hs7⟩:=new4 w5 109 (.int .i64 0) (.float .f64 0) (.int .i64 0) (.int .i64 0) (.int .i64 nr.kind) (.float .f64 nr.val) (.int .i64 nr.a) (.int .i64 nr.b);have hB7:=HB.out.below (aC hb5 hb7);have HB7:=hdd hB7;have HVI:=hdd (yM (i:=root) hB7.vs (by have:=HRL.out;have:=HLN.out;omega) (by simp));clear hB7 hb7 hs7 hb5 cb0;go_wp2_with fail
    refine HVI.out.mono ?_;rintro e w8 hp;obtain⟨rfl,hsz8,sv8,hB8,-⟩:=HB7.out.visit hp;simp only[az4,if_false,List.nil_append]at hB8;have HB8:=hdd hB8;clear hp hB8 z0 z1 z2 z3 y0 y1 y2 y3 hw6 hw7;go_wp2
    go_roundw
    case rel=>exact⟨1,by omega,by go_num,hdd ⟨sv8,by simp;exact HB8.out⟩⟩
    case measure=>simp[intOf]
  . obtain⟨sv,hB⟩:=HR2.out
    simp only[show¬((1:Int)=0) from by decide,if_false]at hB;have HB:=hdd hB;clear hB HR2;go_wp2_with fail
    go_loopw [5] (fun fv wr=>∃sv vis st found,Hid (BS w wr sv fv vis st found)/\Hid (PI ns root vis st found)/\Hid (Cl ns vis found)) (fun fv _=>ns.length-lenOf fv)
    case atStart=>exact⟨sv,[root],[root],[],HB,hdd ⟨by simp,by simp,by have:=HRL.out;simpa using this,by simp,by simp,fun S _ hr x hx=>by simp at hx;rw[hx];exact hr⟩,hdd (by intro x hx;simp at hx)⟩
    case round=>
     clear HB;obtain⟨sv,vis,st,found,HB,HPI,HCL⟩:=hrel;rcases adP st with rfl|⟨st0,x,rfl⟩
     . have hne:0<found.length:=by
        have:=(HPI.out.mem root).1 HPI.out.rt;rcases this with h|h
        . exact List.length_pos_of_mem h
        . simp at h
       obtain⟨gf,capf,hfv,hgB,hgl⟩:=HB.out.own.form hne;have HFV:=hdd hfv;obtain⟨cs,fs,-⟩:=HB.out.cells;have hsv:∃A c,sv=.slice A 0 c:=by
        obtain⟨m,-,-,-,-,h5,-⟩:=HB.out.vs;rcases h5.2 with ⟨h,-⟩|⟨gg,cc,-,h,-⟩
        . exact⟨none,0,h⟩
        . exact⟨_,cc,h⟩
       obtain⟨As,csv,rfl⟩:=hsv;subst hfv;have HSO:=hdd (ajK HB.out.own (by have:=HPI.out.len;have:=HLN.out;omega));clear hgB hgl hne;go_wp2_with fail
       refine HSO.out.mono ?_;rintro e w9⟨rfl,hgr,l',hperm,hsorted,hown⟩;have HRES:Hid (qM w ns root (.returned (.slice (some ⟨gf,0,none⟩) found.length capf)) w9):=hdd (agQ HB.out HPI.out HCL.out hgr hperm hsorted hown);clear hgr hperm hsorted hown cs fs;go_wp2;go_ret;exact HRES.out
     . have HLF:=hdd (agP HB.out.own)
       obtain⟨b,cap,rfl,hc1,hc2,hcell⟩:=HB.out.top;obtain⟨cs,fs,-⟩:=HB.out.cells;obtain⟨w4,hw4⟩:∃w4,wr.setCell ⟨w.heap.size,0,none⟩ (.slice (some ⟨b,0,none⟩) st0.length cap)=w4:=⟨_,rfl⟩;have HB4:Hid (BS w w4 (.slice (some ⟨b,0,none⟩) st0.length cap) _ vis st0 found):=hdd (hw4▸HB.out.pop);obtain⟨w5,hw5,hb5,hs5,q5⟩:=pro1 w4 (.cells #[.int .i64 (x:Int)] 3);have HB45:=hdd hb5;have HQ5:=hdd q5;have HST:=hdd (show found.length<=1000000 by have:=HPI.out.len;have:=HLN.out;omega);have hpos:(0:Int)<((st0.length+1:Nat):Int):=by omega
       have hidx:((st0.length+1:Nat):Int)-1=(st0.length:Int):=by omega
       have hle:(st0.length:Int)<=(cap:Int):=by omega
       have hsl:(st0.length:Int)<=20000:=by have:=HPI.out.len;have:=HLN.out;rw[azY]at*;simp at*;omega
       have HPO:=hdd HPI.out.pop;have hxl:x<ns.length:=HPO.out.lt x ((HPO.out.mem x).2 (Or.inl (by simp)));obtain⟨nx,hnx⟩:∃n,ns[x]? =some n:=⟨_,azV hxl⟩;have HNX:=hdd hnx;have HXL:=hdd hxl;have HPX:Hid (∀S:Nat->Prop,ClS ns S->S root->S x):=hdd (fun S hc hr=>HPO.out.mn S hc hr x ((HPO.out.mem x).2 (Or.inl (by simp))));have HXR:=hdd (HPO.out.le x ((HPO.out.mem x).2 (Or.inl (by simp))));have HC2:=hdd hc2;clear hb5 q5 hnx hxl;obtain⟨i0,hi0,hz0,hz1,hz2⟩:=info_parts vN;go_wp2_with (first
        |(at_builtin
          refine wpList_append_lies _ rfl _ _ 140 rfl w.heap.size 3 i0 (.int .i64 0) 1 8 nC hi0 hz0 hz1 hz2 rfl (by decide) _ found.length (bT found) rfl (HB4.out.own.kept (bQ HB45.out) (qK _)) ⟨w4.heap.size,0,none⟩ 1 1 [.int .i64 (x:Int)] rfl rfl (jR HQ5.out) (by simp[Value.oneCell']) (by decide) (aeP HST.out) (yL HST.out) (Nat.le_trans HB4.out.bel.size HB45.out.size) w5.heap.size rfl ?_;intro g6 cap6 w6 hown6 hgrow6 hat6 hlt6;have HB6:=hdd (HB4.out.app HB45.out hown6 hgrow6 hat6);clear hown6 hgrow6 hat6 hlt6))
       clear hw4 hw5 hs5 cs fs hcell hpos hidx hle hsl hz0 hz1 hz2 hi0 HB45 HQ5 HB4 HB;have HN:=hdd (fO (HD.out.below HB6.out.bel) HNX.out);have hst:=aY;refine HN.out.mono ?_;rintro e w7⟨rfl,hb7⟩;obtain⟨w8,hw8,z0,z1,z2,z3,y0,y1,y2,y3,w9,hw9,hb9,hs9⟩:=new4 w7 109 (.int .i64 0) (.float .f64 0) (.int .i64 0) (.int .i64 0) (.int .i64 nx.kind) (.float .f64 nx.val) (.int .i64 nx.a) (.int .i64 nx.b);obtain⟨x0,x1,x2,x3⟩:=aW hs9;have HB9:=hdd (HB6.out.below (aC hb7 hb9));have HPA:Hid (Calls Tryz.prog 120 #[.agg #[.int .i64 nx.kind,.float .f64 nx.val,.int .i64 nx.a,.int .i64 nx.b]] w9 (fun e w'=>e=.returned (.tuple #[.agg #[.int .i64 (ops2 nx).1,.int .i64 (ops2 nx).2],.int .i64 ((opsN nx).length:Nat)])/\Below w9.heap.size w9 w')):=hdd (yK (n:=nx));clear hb7 hb9 hs9;go_wp2_with fail
       refine HPA.out.mono ?_;rintro e w10⟨rfl,hb10⟩;obtain⟨w11,hw11,p0,p1,r0,r1,w12,hw12,hb12,hs12⟩:=new2 w10 63 (.int .i64 0) (.int .i64 0) (.int .i64 (ops2 nx).1) (.int .i64 (ops2 nx).2);have HB12:=hdd (HB9.out.below (aC hb10 hb12));have HS12:=hdd hs12;have hcnt:(0:Int)<=((opsN nx).length:Int):=by omega
       have hcnt2:((opsN nx).length:Int)<=2:=by have:=uA nx;omega
       have HW10:Hid (w.heap.size+2<w10.heap.size):=hdd (by have:=HB9.out.vs.lts.1;have:=hb10.size;omega);have HSB:Hid ((Value.slice (some ⟨b,0,none⟩) st0.length cap).ownBlock≠some w10.heap.size):=hdd (fun e=>by have:=HB9.out.vs.lts.2.2.2 _ e;have:=hb10.size;omega);clear hb10 hb12 hs12 z0 z1 z2 z3 y0 y1 y2 y3 hw8 hw9 x0 x1 x2 x3;go_wp2_with fail
       go_loopw [71] (fun j wr=>∃jn:Nat,jn<=(opsN nx).length/\j=.int .i64 (jn:Int)/\∃sv vis st,Hid (BS w wr sv (.slice (some ⟨g6,0,none⟩) (found.length+1) cap6) vis st (found++[x]))/\Hid (PI ns root vis st (found++[x]))/\Hid (Cl ns vis found)/\Hid (∀k o,k<jn->(opsN nx)[k]? =some o->∃y∈vis,(y:Int)=o)/\Hid (wr.heap[w10.heap.size]? =some (.cells #[.int .i64 (ops2 nx).1,.int .i64 (ops2 nx).2] 63 (0,0))/\sv.ownBlock≠some w10.heap.size)) (fun j _=>((opsN nx).length-intOf j).toNat)
       case atStart=>exact⟨0,Nat.zero_le _,rfl,_,vis,st0,HB12,HPO,HCL,hdd (fun k o hk=>absurd hk (by omega)),hdd ⟨HS12.out,HSB.out⟩⟩
       case round=>
        clear HPO HCL HB12 HS12 HSB HB9 HB6 HPA HN;obtain⟨jn,hjn,rfl,sv3,vis3,st3,HB3,HP3,HC3,HO3,HK3⟩:=hrel;rcases Nat.lt_or_ge jn (opsN nx).length with hlt|hge
        . obtain⟨o,ho⟩:∃o,(opsN nx)[jn]? =some o:=⟨_,azV hlt⟩
          have hop:=(HOK.out x nx HNX.out).2 o (az0 ho);obtain⟨y,hy⟩:∃y:Nat,(y:Int)=o:=⟨o.toNat,by omega⟩;have hyl:y<ns.length:=by have:=HXL.out;omega
          have co:=abK HK3.out.1 ho;rw[<-hy]at co;have HVI:=hdd (yM (i:=y) HB3.out.vs (by have:=HLN.out;omega) (by have:=HP3.out.len;have:=HLN.out;omega));have hltI:(jn:Int)<((opsN nx).length:Int):=by omega
          have HY:=hdd hy;have HYL:=hdd hyl;have HYR:Hid (y<=root):=hdd (by have:=HXR.out;omega);have HOO:=hdd ho;have HLT:=hdd hlt;have hj0:(0:Int)<=(jn:Int):=by omega
          clear hy hyl hop ho hlt;go_wp2_with fail
          refine HVI.out.mono ?_;rintro e w13 hp;obtain⟨rfl,hsz13,sv4,hB13,hfar⟩:=HB3.out.visit hp;obtain⟨k1,k2⟩:=hfar _ _ HW10.out HK3.out.1 HK3.out.2;have HK4:=hdd (And.intro k1 k2);have HREL:Hid (∃sv vis st,BS w w13 sv (.slice (some ⟨g6,0,none⟩) (found.length+1) cap6) vis st (found++[x])/\PI ns root vis st (found++[x])/\Cl ns vis found/\(∀k o,k<jn+1->(opsN nx)[k]? =some o->∃y∈vis,(y:Int)=o)/\(w13.heap[w10.heap.size]? =some (.cells #[.int .i64 (ops2 nx).1,.int .i64 (ops2 nx).2] 63 (0,0))/\sv.ownBlock≠some w10.heap.size)):=hdd (by
           by_cases hv:y∈vis3
           . rw[if_pos hv]at hB13
             refine⟨sv4,vis3,st3,hB13,HP3.out,HC3.out,fun k o' hk ho'=> ?_,HK4.out⟩;rcases Nat.lt_or_ge k jn with h|h
             . exact HO3.out k o' h ho'
             . have:k=jn:=by omega
               subst this;rw[HOO.out]at ho';exact⟨y,hv,by rw[HY.out];exact azR ho'⟩
           . rw[if_neg hv]at hB13
             refine⟨sv4,y::vis3,st3++[y],hB13,HP3.out.push HYL.out HYR.out (fun S hc hr=>by have h9:=hc x nx (HPX.out S hc hr) HNX.out o (az0 HOO.out);rwa[show o.toNat=y from by have:=HY.out;omega]at h9) hv,HC3.out.mono (fun z hz=>azT _ hz),fun k o' hk ho'=> ?_,HK4.out⟩;rcases Nat.lt_or_ge k jn with h|h
             . obtain⟨z,hz,e⟩:=HO3.out k o' h ho'
               exact⟨z,azT _ hz,e⟩
             . have:k=jn:=by omega
               subst this;rw[HOO.out]at ho';exact⟨y,List.mem_cons_self,by rw[HY.out];exact azR ho'⟩)
          clear hp hB13 hfar k1 k2 co;go_wp2
          go_roundw
          case rel=>
           obtain⟨sv5,vis5,st5,r1,r2,r3,r4,r5⟩:=HREL.out;exact⟨jn+1,by have:=HLT.out;omega,by go_num,sv5,vis5,st5,hdd r1,hdd r2,hdd r3,hdd r4,hdd r5⟩
          case measure=>have:=HLT.out;simp[intOf];omega
        . have hje:jn=(opsN nx).length:=by omega
          subst hje;have HCL4:Hid (Cl ns vis3 (found++[x])):=hdd (by
           intro z hz n hn o ho;rcases azW.1 hz with hz|hz
           . exact HC3.out z hz n hn o ho
           . simp only[azX]at hz
             subst hz;rw[HNX.out]at hn
             cases hn
             obtain⟨k,hk⟩:=List.getElem?_of_mem ho;exact HO3.out k o (azZ.1 hk).1 hk)
          have hmeas:ns.length-lenOf (.slice (some ⟨g6,0,none⟩) (found.length+1) cap6)<ns.length-found.length:=by
           have:=HP3.out.len;simp only[lenOf,azY,List.length_cons,List.length_nil]at*;omega
          have HME:=hdd hmeas;clear hmeas hge hjn;go_wp2
          go_roundw
          case rel=>exact⟨sv3,vis3,st3,found++[x],HB3,HP3,HCL4⟩
          case measure=>rw[HLF.out];exact HME.out
end Go.Proofs.YtaojpfcboainmaaGreatDoor
