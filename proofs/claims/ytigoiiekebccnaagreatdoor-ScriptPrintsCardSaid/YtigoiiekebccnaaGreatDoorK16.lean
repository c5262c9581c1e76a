/- A part of the proof: contracts of functions and plain laws (WalkC, WalkD, DagE). -/
import Derived.Test.YtigoiiekebccnaaGreatDoorK14
import Derived.Test.YtigoiiekebccnaaGreatDoorK08
import Derived.Test.YtigoiiekebccnaaGreatDoorShelfS
import Derived.Sort.OwnSortedInts
import Derived.Test.YtigoiiekebccnaaGreatDoorK15
set_option linter.unusedVariables false
set_option linter.unusedSimpArgs false
set_option linter.unnecessarySimpa false
set_option maxHeartbeats 25600000
set_option maxRecDepth 100000
namespace Go.Proofs.YtigoiiekebccnaaGreatDoor
open Go.RowKit Go.Maps
open Go.Value renaming ownBlock->baD
open Go.World renaming ownsRow_nil->baM,cell?->baP,frozen?->baW,setCell->baX
open List renaming mem_cons_of_mem->baE,mem_cons->baF,getElem?_eq_getElem->baG,mem_append->baH,mem_singleton->baI,length_append->baJ,getElem?_eq_some_iff->baL,mem_of_getElem?->baO,map_congr_left->baQ,pairwise_cons->baR,append_assoc->baS,not_mem_nil->baU,map_map->baY,map_id->baZ
open Nat renaming lt_of_lt_of_le->baK,le_trans->baN,lt_or_ge->baT,le_refl->baV
open Option.some renaming inj->baC,injEq->ba0
variable{a:Ex}{o:Int}{l st0:List Nat}{b gv i j mb x:Nat}{n:Nd}{v:Value}
theorem qX:∀(n:Nat) (l:List Nat),l.Nodup->(∀x∈l,x<n)->l.length<=n:=by
 intro n
 induction n with
 |zero=>intro l _ h;cases l with
  |nil=>simp
  |cons x l=>have:=h x (by simp);omega
 |succ n ih=>
  intro l hn h;have h1:=ih (l.erase n) (hn.erase n) (fun x hx=>by
   have hx':=(hn.mem_erase_iff).1 hx;have:=h x hx'.2;have:=hx'.1;omega)
  have h2:=List.length_erase (a:=n) (l:=l)
  split at h2<;>omega
def ClS(ns:List Nd)(S:Nat->Prop):Prop:=∀(x:Nat) n,S x->ns[x]? =some n->∀o∈opsN n,S o.toNat
structure PI(ns:List Nd)(root:Nat)(vis st found:List Nat):Prop where
 nd:(found++st).Nodup
 mem:∀x,x∈vis↔x∈found\/x∈st
 lt:∀x∈vis,x<ns.length
 rt:root∈vis
 le:∀x∈vis,x<=root
 mn:∀S:Nat->Prop,ClS ns S->S root->∀x∈vis,S x
def Cl(ns:List Nd)(vis xs:List Nat):Prop:=∀x∈xs,∀n,ns[x]? =some n->∀o∈opsN n,∃y∈vis,(y:Int)=o
theorem Cl.mono {ns:List Nd}{vis vis' xs:List Nat}(h:Cl ns vis xs)(hs:∀x∈vis,x∈vis'):Cl ns vis' xs:=fun x hx n hn o ho=>by
 obtain⟨y,hy,e⟩:=h x hx n hn o ho;exact⟨y,hs y hy,e⟩
theorem PI.len {ns:List Nd}{root:Nat}{vis st found:List Nat}(h:PI ns root vis st found):found.length+st.length<=ns.length:=by
 have:=qX ns.length (found++st) h.nd (fun x hx=>h.lt x ((h.mem x).2 (baH.1 hx)));simpa using this
theorem PI.push {ns:List Nd}{root:Nat}{vis st found:List Nat}(h:PI ns root vis st found)(hi:i<ns.length)(hle:i<=root)(hS:∀S:Nat->Prop,ClS ns S->S root->S i)(hv:¬i∈vis):PI ns root (i::vis) (st++[i]) found:=by
 refine⟨?_,?_,?_,baE _ h.rt,fun x hx=>(baF.1 hx).elim (fun e=>by rw[e];exact hle) (h.le x),fun S hc hr x hx=>(baF.1 hx).elim (fun e=>by rw[e];exact hS S hc hr) (h.mn S hc hr x)⟩
 . rw[<-baS]
   refine List.nodup_append.2 ⟨h.nd,by simp,?_⟩;intro a ha b hb;simp only[baI]at hb;subst hb;rintro rfl;exact hv ((h.mem a).2 (baH.1 ha))
 . intro x
   simp only[baF,baH,baU,or_false];have:=h.mem x;constructor
   . rintro(h1|h1)
     . exact Or.inr (Or.inr h1)
     . rcases this.1 h1 with h2|h2
       . exact Or.inl h2
       . exact Or.inr (Or.inl h2)
   . rintro(h1|h1|h1)
     . exact Or.inr (this.2 (Or.inl h1))
     . exact Or.inr (this.2 (Or.inr h1))
     . exact Or.inl h1
 . intro x hx
   rcases baF.1 hx with rfl|hx
   . exact hi
   . exact h.lt x hx
theorem PI.pop {ns:List Nd}{root:Nat}{vis st found:List Nat}(h:PI ns root vis (st++[i]) found):PI ns root vis st (found++[i]):=by
 refine⟨?_,?_,h.lt,h.rt,h.le,h.mn⟩
 . have:=h.nd
   refine(List.Perm.nodup_iff ?_).1 this;rw[baS];exact List.Perm.append_left _ List.perm_append_comm
 . intro x
   rw[h.mem x];simp only[baH,baI];constructor
   . rintro(h1|h1|h1)
     . exact Or.inl (Or.inl h1)
     . exact Or.inr h1
     . exact Or.inl (Or.inr h1)
   . rintro((h1|h1)|h1)
     . exact Or.inl h1
     . exact Or.inr (Or.inr h1)
     . exact Or.inr (Or.inl h1)
structure BS(w0 wr:World)(sv fv:Value)(vis st found:List Nat):Prop where
 bel:Below w0.heap.size w0 wr
 vs:VS wr (w0.heap.size+2) w0.heap.size (w0.heap.size+1) sv vis st
 svB:∀b,sv.ownBlock=some b->w0.heap.size<=b
 own:wr.ownsRow w0.heap.size 3 1 fv found.length (bE found)
 f0:fv.ownBlock≠some w0.heap.size
 f1:fv.ownBlock≠some (w0.heap.size+1)
 f2:fv.ownBlock≠some (w0.heap.size+2)
 sf:∀b,fv.ownBlock=some b->sv.ownBlock≠some b
section
variable{w0 wr w':World}{sv fv:Value}{vis st found:List Nat}
theorem VS.lts {w:World}{gs:Nat}{sv:Value}{vis st:List Nat}(h:VS w gv gs mb sv vis st):gv<w.heap.size/\gs<w.heap.size/\mb<w.heap.size/\∀b,sv.ownBlock=some b->b<w.heap.size:=by
 obtain⟨m,h1,h2,h3,h4,h5,-⟩:=h;exact⟨aD h1,aD h2,h3.lt,fT h5⟩
theorem VS.below {w w':World}{gs:Nat}{sv:Value}{vis st:List Nat}(h:VS w gv gs mb sv vis st)(hb:Below w.heap.size w w'):VS w' gv gs mb sv vis st:=by
 obtain⟨m,h1,h2,h3,h4,h5,h6,h7,h8,h9,h10,h11⟩:=h;exact⟨m,hbl h1 hb,hbl h2 hb,h3.below hb h3.lt,h4,h5.kept (aH (row:=none) hb) (pO sv),h6,h7,h8,h9,h10,h11⟩
theorem pQ{w w':World}{base:Nat}{e:TypeId}{size:Nat}{n:Nat}{xs:List Value}(h:w.ownsRow base e size v n xs)(hb:∀b,v.ownBlock=some b->w'.heap[b]? =w.heap[b]?):w'.ownsRow base e size v n xs:=by
 obtain⟨h1,h2⟩:=h;refine⟨h1,?_⟩;rcases h2 with h2|⟨g,cap,cur,rfl,h3,h4,h5⟩
 . exact Or.inl h2
 . exact Or.inr ⟨g,cap,cur,rfl,h3,(hb g rfl).trans h4,h5⟩
theorem BS.below (h:BS w0 wr sv fv vis st found)(hb:Below wr.heap.size wr w'):BS w0 w' sv fv vis st found:=
 ⟨h.bel.trans (hb.mono h.bel.size),h.vs.below hb,h.svB,h.own.kept (aH (row:=none) hb) (pO fv),h.f0,h.f1,h.f2,h.sf⟩
theorem BS.visit {e:Ending}(h:BS w0 wr sv fv vis st found)(hp:nJ wr (w0.heap.size+2) w0.heap.size (w0.heap.size+1) sv vis st i e w'):
 e=.returned (.tuple #[])/\wr.heap.size<=w'.heap.size/\∃sv',(if i∈vis then BS w0 w' sv' fv vis st found else BS w0 w' sv' fv (i::vis) (st++[i]) found)/\
  ∀b (o:Obj),w0.heap.size+2<b->wr.heap[b]? =some o->sv.ownBlock≠some b->w'.heap[b]? =some o/\sv'.ownBlock≠some b:=by
 obtain⟨rfl,hf,sv',hs,hv⟩:=hp;have hl:=h.vs.lts;have hfb:∀b,fv.ownBlock=some b->b<wr.heap.size:=fT h.own;have hbel:Below w0.heap.size w0 w':=h.bel.trans (hf.below h.bel.size (fun b hb=>by
  rcases hb with rfl|rfl|hb
  . omega
  . omega
  . exact h.svB b hb))
 have hkeep:∀b,b<wr.heap.size->b≠w0.heap.size->b≠w0.heap.size+1->sv.ownBlock≠some b->w'.heap[b]? =wr.heap[b]? :=fun b hb h1 h2 h3=>hf.block b hb (fun hs=>by
  rcases hs with hs|hs|hs
  . exact h1 hs
  . exact h2 hs
  . exact h3 hs)
 have hown:w'.ownsRow w0.heap.size 3 1 fv found.length (bE found):=pQ h.own fun b hb=>hkeep b (hfb b hb) (fun e=>h.f0 (by rw[hb,e])) (fun e=>h.f1 (by rw[hb,e])) (h.sf b hb);have hsB:∀b,sv'.ownBlock=some b->w0.heap.size<=b:=fun b hb=>by
  rcases hs with hs|⟨b',hs,hlt⟩
  . exact h.svB b (by rw[<-hs];exact hb)
  . rw[hs]at hb;have:=baC hb;have:=h.bel.size;omega
 have hsf:∀b,fv.ownBlock=some b->sv'.ownBlock≠some b:=fun b hb=>by
  rcases hs with hs|⟨b',hs,hlt⟩
  . rw[hs];exact h.sf b hb
  . rw[hs];intro e;have:=baC e;have:=hfb b hb;omega
 refine⟨rfl,hf.size,sv',?_,fun b o hb ho hne=>⟨(hkeep b (aD ho) (by omega) (by omega) hne).trans ho,fun e=> ?_⟩⟩
 . by_cases hi:i∈vis
   . rw[if_pos hi]at hv|-
     exact⟨hbel,hv,hsB,hown,h.f0,h.f1,h.f2,hsf⟩
   . rw[if_neg hi]at hv|-
     exact⟨hbel,hv,hsB,hown,h.f0,h.f1,h.f2,hsf⟩
 . rcases hs with hs|⟨b',hs,hlt⟩
   . exact hne (by rw[<-hs];exact e)
   . rw[hs]at e;have:=baC e;have:=aD ho;omega
theorem BS.cells (h:BS w0 wr sv fv vis st found):wr.cell? ⟨w0.heap.size,0,none⟩=some sv/\wr.frozen? ⟨w0.heap.size,0,none⟩=false/\wr.cell? ⟨w0.heap.size+2,0,none⟩=some (.map (some (w0.heap.size+1))):=by
 obtain⟨m,h1,h2,-⟩:=h.vs;exact⟨by simp[baP,h2],by simp[baW,h2],by simp[baP,h1]⟩
theorem kW(l:List Nat):(bE l).length=l.length:=by simp[bE]
theorem vE(l m:List Nat):bE (l++m)=bE l++bE m:=by simp[bE]
theorem BS.top (h:BS w0 wr sv fv vis (st0++[x]) found):∃b cap,sv=.slice (some ⟨b,0,none⟩) (st0.length+1) cap/\st0.length+1<=cap/\cap<=maxLen/\wr.cell? ⟨b,st0.length,none⟩=some (.int .i64 (x:Int)):=by
 obtain⟨m,h1,h2,h3,h4,h5,-⟩:=h.vs;rcases id h5.2 with ⟨-,h0⟩|⟨b,cap,cur,rfl,-,hb,hn,hc,hsz,hcur⟩
 . simp at h0
 . rw[baJ]at h5 hn
   refine⟨b,cap,by simp,hn,hc,?_⟩;have:=h5.cellAt st0.length (by simp);rw[this,vE,List.getElem?_append_right (by rw[kW];exact baV _),kW];simp[bE]
theorem BS.pop {cap:Nat}(h:BS w0 wr (.slice (some ⟨b,0,none⟩) (st0.length+1) cap) fv vis (st0++[x]) found):
 BS w0 (wr.setCell ⟨w0.heap.size,0,none⟩ (.slice (some ⟨b,0,none⟩) st0.length cap)) (.slice (some ⟨b,0,none⟩) st0.length cap) fv vis st0 found:=by
 obtain⟨m,h1,h2,h3,h4,h5,h6,h7,h8,h9,h10,h11⟩:=h.vs;have hne:∀{k:Nat},k≠w0.heap.size->(wr.setCell ⟨w0.heap.size,0,none⟩ (.slice (some ⟨b,0,none⟩) st0.length cap)).heap[k]? =wr.heap[k]? :=fun hk=>Below.heap_setCell _ _ _ _ (by simpa using hk);have hb0:b≠w0.heap.size:=fun e=>h9 (by rw[e];rfl);refine⟨h.bel.setCell (by simp) _,⟨m,(hne (by omega)).trans h1,?_,h3.keep (hne (by omega)),h4,?_,h6,h7,h8,h9,h10,h11⟩,h.svB,pQ h.own fun k hk=>hne (fun e=>h.f0 (by rw[hk,e])),h.f0,h.f1,h.f2,h.sf⟩
 . have hg':=aD h2
   have h':wr.heap[w0.heap.size]=.cells #[.slice (some ⟨b,0,none⟩) (st0.length+1) cap] 25 (0,0):=(Array.getElem?_eq_some_iff.1 h2).2;simp[baX,hg',Array.getElem_modify,h']
 . have h5':(wr.setCell ⟨w0.heap.size,0,none⟩ (.slice (some ⟨b,0,none⟩) st0.length cap)).ownsRow 0 3 1 (.slice (some ⟨b,0,none⟩) (st0.length+1) cap) (st0++[x]).length (bE (st0++[x])):=pQ h5 fun k hk=>hne (by
    have:b=k:=baC hk;omega)
   obtain⟨e1,e2⟩:=h5';refine⟨by simp[bE],Or.inr ?_⟩;rcases e2 with ⟨e2,-⟩|⟨g,cap',cur,e2,e3,e4,e5,e6,e7,e8⟩
   . injection e2 with e2;cases e2
   . injection e2 with e2 _ e9
     cases e2;subst e9
     refine⟨b,cap,cur,rfl,e3,e4,by simp at e5;omega,e6,e7,?_⟩;have:=congrArg (List.take st0.length) e8;rw[List.take_take,vE,List.take_append_of_le_length (by rw[kW];exact baV _)]at this;simp at this|-;rw[this,List.take_of_length_le (by rw[kW];exact baV _)]
theorem BS.app {w2 w3:World}{g cap:Nat}(h:BS w0 wr sv fv vis st found)(hb:Below wr.heap.size wr w2)(hO:w3.ownsRow w0.heap.size 3 1 (.slice (some ⟨g,0,none⟩) (found.length+1) cap) (found.length+1) (bE found++[.int .i64 (x:Int)]))
 (hg:w2.grownBy w3 fv.ownBlock) (hat:fv.ownBlock=some g\/g=w2.heap.size):BS w0 w3 sv (.slice (some ⟨g,0,none⟩) (found.length+1) cap) vis st (found++[x]):=by
 have h2:=h.below hb;obtain⟨l1,l2,l3,l4⟩:=h2.vs.lts;obtain⟨m,h1,h2',h3,h4,h5,h6,h7,h8,h9,h10,h11⟩:=h2.vs;have hkeep:∀b,b<w2.heap.size->fv.ownBlock≠some b->w3.heap[b]? =w2.heap[b]? :=fun b hb hn=>hg.block b hb (fun e=>hn e.symm);have hgB:w0.heap.size<=g:=by
  rcases hat with h'|h'
  . exact(h2.own.lt g h').1
  . have:=h2.bel.size;omega
 refine⟨⟨hg.os.trans h2.bel.os,hg.tape.trans h2.bel.tape,hg.output.trans h2.bel.output,baN h2.bel.size hg.size,fun k hk=>(hkeep k (by have:=h2.bel.size;omega) (fun e=>by have:=(h2.own.lt k e).1;omega)).trans (h2.bel.block k hk)⟩,
  ⟨m,(hkeep _ l1 h2.f2).trans h1,(hkeep _ l2 h2.f0).trans h2',h3.keep (hkeep _ l3 h2.f1),h4,pQ h5 fun k hk=>hkeep k (l4 k hk) (fun e=>h2.sf k e hk),h6,h7,h8,h9,h10,h11⟩,h2.svB,?_,?_,?_,?_,?_⟩
 . simpa[bE]using hO
 . intro e
   have:g=w0.heap.size:=baC e;rcases hat with h'|h'
   . exact h2.f0 (by rw[h',this])
   . omega
 . intro e
   have:g=w0.heap.size+1:=baC e;rcases hat with h'|h'
   . exact h2.f1 (by rw[h',this])
   . omega
 . intro e
   have:g=w0.heap.size+2:=baC e;rcases hat with h'|h'
   . exact h2.f2 (by rw[h',this])
   . omega
 . intro b hb' hsv
   have:g=b:=baC hb';subst this;rcases hat with h'|h'
   . exact h2.sf g h' hsv
   . have:=l4 g hsv;omega
end
def OkNs(ns:List Nd):Prop:=∀(i:Nat) n,ns[i]? =some n->(n.kind=0\/n.kind=5\/(1<=n.kind/\n.kind<=4))/\∀o∈opsN n,0<=o/\o<i
def IntsP(p:Nat->Prop)(w:World)(v:Value)(l:List Nat):Prop:=
 ∃b c,v=.slice (some ⟨b,0,none⟩) l.length c/\l.length<=c/\c<=maxLen/\p b/\b<w.heap.size/\∀k x,l[k]? =some x->w.cell? ⟨b,k,none⟩=some (.int .i64 ((x:Nat):Int))
theorem IntsP.below {p:Nat->Prop}{w w':World}(h:IntsP p w v l)(hb:Below w.heap.size w w'):IntsP p w' v l:=by
 obtain⟨b,c,e,h1,h2,h3,h4,h5⟩:=h;exact⟨b,c,e,h1,h2,h3,baK h4 hb.size,fun k x hx=>cbl (h5 k x hx) hb⟩
structure IsB(ns:List Nd)(root:Nat)(l:List Nat):Prop where
 srt:l.Pairwise (· < ·)
 rt:root∈l
 lt:∀x∈l,x<ns.length
 cl:Cl ns l l
 le:∀x∈l,x<=root
 mn:∀S:Nat->Prop,ClS ns S->S root->∀x∈l,S x
theorem adS:∀{l m:List Nat},l.Pairwise (· < ·)->m.Pairwise (· < ·)->(∀x,x∈l↔x∈m)->l=m:=by
 intro l
 induction l with
 |nil=>intro m _ _ h;cases m with
  |nil=>rfl
  |cons y m=>have:=(h y).2 (by simp);simp at this
 |cons x l ih=>
  intro m hl hm h
  cases m with
  |nil=>have:=(h x).1 (by simp);simp at this
  |cons y m=>
   obtain⟨l1,l2⟩:=baR.1 hl;obtain⟨m1,m2⟩:=baR.1 hm;have hxy:x=y:=by
    rcases baF.1 ((h x).1 (by simp))with e|e
    . exact e
    . rcases baF.1 ((h y).2 (by simp))with e'|e'
      . exact e'.symm
      . have:=m1 x e;have:=l1 y e';omega
   subst hxy
   congr 1
   refine ih l2 m2 fun z=>⟨fun hz=> ?_,fun hz=> ?_⟩
   . rcases baF.1 ((h z).1 (baE _ hz))with e|e
     . have:=l1 z hz;omega
     . exact e
   . rcases baF.1 ((h z).2 (baE _ hz))with e|e
     . have:=m1 z hz;omega
     . exact e
theorem IsB.unique {ns:List Nd}{root:Nat}{m:List Nat}(h:IsB ns root l)(k:IsB ns root m):l=m:=by
 have key:∀{l m:List Nat},IsB ns root l->IsB ns root m->∀x∈l,x∈m:=fun{l m} h k x hx=>
  h.mn (· ∈m) (fun z n hz hn o ho=>by
   obtain⟨y,hy,e⟩:=k.cl z hz n hn o ho;have:o.toNat=y:=by omega
   rw[this];exact hy) k.rt x hx
 exact adS h.srt k.srt fun x=>⟨key h k x,key k h x⟩
def pR(w:World)(ns:List Nd)(root:Nat)(e:Ending)(w':World):Prop:=
 Below w.heap.size w w'/\∃v l,e=.returned v/\IntsP (fun b=>w.heap.size<=b) w' v l/\IsB ns root l
theorem ajY(w:World):∃w3,((w.alloc (.cells #[Value.slice none 0 0] 25)).alloc (.map #[] 0)).alloc (.cells #[Value.map none] 343)=w3/\w3.cell? ⟨w.heap.size+2,0,none⟩=some (.map none)/\w3.frozen? ⟨w.heap.size+2,0,none⟩=false/\
 BS w (w3.setCell ⟨w.heap.size+2,0,none⟩ (.map (some (w.heap.size+1)))) (.slice none 0 0) (.slice none 0 0) [] [] []:=by
 obtain⟨w3,h,hb,hs,b1,b2,b3⟩:=pro3 w (.cells #[Value.slice none 0 0] 25) (.map #[] 0) (.cells #[Value.map none] 343);refine⟨w3,h,by simp[baP,b3],by simp[baW,b3],?_⟩;have hne:∀{k:Nat},k≠w.heap.size+2->(w3.setCell ⟨w.heap.size+2,0,none⟩ (.map (some (w.heap.size+1)))).heap[k]? =w3.heap[k]? :=fun hk=>Below.heap_setCell _ _ _ _ (by simpa using hk);refine⟨hb.setCell (by simp) _,⟨fun _=>none,?_,(hne (by omega)).trans b1,MapP.made (es:=#[]) ((hne (by omega)).trans b2),by simp,baM _ _ _ _,by omega,by omega,by omega,by simp[baD],by simp[baD],by simp[baD]⟩,by simp[baD],baM _ _ _ _,by simp[baD],by simp[baD],by simp[baD],by simp[baD]⟩;have hg':=aD b3;have h':w3.heap[w.heap.size+2]=.cells #[Value.map none] 343 (0,0):=(Array.getElem?_eq_some_iff.1 b3).2;simp[baX,hg',Array.getElem_modify,h']
theorem ajZ{w:World}{B cap:Nat}(h:w.ownsRow B 3 1 (.slice (some ⟨b,0,none⟩) l.length cap) l.length (bE l))(hl:l.length<=20000):
 Calls Tryz.prog 245 #[.slice (some ⟨b,0,none⟩) l.length cap] w (fun e w'=>e=.returned (.tuple #[])/\w.grownBy w' (some b)/\∃l',l'.Perm l/\l'.Pairwise (· <= ·)/\w'.ownsRow B 3 1 (.slice (some ⟨b,0,none⟩) l.length cap) l.length (bE l')):=by
 obtain⟨h1,h2⟩:=h;rcases h2 with ⟨h2,-⟩|⟨g,cap',cur,e2,hB,hb,hn,hc,hsz,hcur⟩
 . cases h2
 injection e2 with e2 _ e3
 cases e2;subst e3
 have hlen:(l.map (fun(x:Nat)=>(x:Int))).length=l.length:=by simp
 have hcells:bE l=(l.map (fun(x:Nat)=>(x:Int))).map (Value.int .i64):=by simp[bE]
 have hH:=Go.holds_of_blockI (ss:=l.map (fun(x:Nat)=>(x:Int))) hb (by rw[hlen,<-hcells,<-hcur,Nat.mul_one]);have hcall:=Tryz.slices_Sort_int b 0 cap (l.map (fun(x:Nat)=>(x:Int))) w hH (aD hb) (by rw[hlen];omega);rw[hlen]at hcall;refine hcall.mono ?_;rintro e w'⟨rfl,n,os,rfl⟩;refine⟨rfl,Go.grownBy_sortedI _,?_⟩;obtain⟨ts,hts⟩:∃ts,ts=(l.map (fun(x:Nat)=>(x:Int))).mergeSort (fun x y=>decide (x<=y)):=⟨_,rfl⟩;have hperm:ts.Perm (l.map (fun(x:Nat)=>(x:Int))):=by rw[hts];exact List.mergeSort_perm _ _
 have hsort:ts.Pairwise (fun a b=>decide (a<=b)=true):=by
  rw[hts];exact List.pairwise_mergeSort (fun a b c h1 h2=>by simp at*;omega) (fun a b=>by simp;omega) _
 rw[<-hts];have hnn:∀x∈ts,0<=x:=fun x hx=>by
  obtain⟨y,-,rfl⟩:=List.mem_map.1 (hperm.mem_iff.1 hx);omega
 have hmap:(ts.map Int.toNat).map (fun(x:Nat)=>(x:Int))=ts:=by
  rw[baY];refine(baQ fun x hx=> ?_).trans (baZ _);have:=hnn x hx;simp;omega
 refine⟨ts.map Int.toNat,?_,?_,?_⟩
 . have h3:=hperm.map Int.toNat
   rw[baY]at h3;refine h3.trans (List.Perm.of_eq ?_);exact(baQ fun x _=>by simp).trans (baZ _)
 . rw[List.pairwise_map]
   refine hsort.imp fun{a b} h=> ?_;simp at h;omega
 . have h3:=Go.ownsRow_sortedI (n:=n) (os:=os) (ss:=l.map (fun(x:Nat)=>(x:Int))) (ts:=ts) hperm.length_eq hB hb (by rw[hlen];exact hn) hc hsz
   rw[hlen]at h3;have h4:bE (ts.map Int.toNat)=ts.map (Value.int .i64):=by
    conv=>rhs;rw[<-hmap]
    simp[bE]
   rw[h4];exact h3
def lenOf:Value->Nat| .slice _ n _=>n|_=>0
theorem agM{w:World}{B:Nat}(h:w.ownsRow B 3 1 v l.length (bE l)):lenOf v=l.length:=by
 rcases h.2 with ⟨rfl,h0⟩|⟨g,cap,cur,rfl,-⟩
 . rw[h0];rfl
 . rfl
theorem aoL(h:(opsN n)[j]? =some o):(j=0/\o=(ops2 n).1)\/(j=1/\o=(ops2 n).2):=by
 unfold opsN at h;unfold ops2
 split at h
 . simp at h
 . rename_i h0
   rw[if_neg h0]
   split at h
   . rename_i h5
     rw[if_pos h5]
     cases j with
     |zero=>simp at h;exact Or.inl ⟨rfl,h.symm⟩
     |succ j=>simp at h
   . rename_i h5
     rw[if_neg h5]
     match j,h with
     |0,h=>simp at h;exact Or.inl ⟨rfl,h.symm⟩
     |1,h=>simp at h;exact Or.inr ⟨rfl,h.symm⟩
     |j+2,h=>simp at h
theorem tJ(n:Nd):(opsN n).length<=2:=by unfold opsN;split<;>(try split)<;>simp
theorem abN{w:World}{T:TypeId}(h:w.heap[b]? =some (.cells #[.int .i64 (ops2 n).1,.int .i64 (ops2 n).2] T (0,0)))(ho:(opsN n)[j]? =some o):w.cell? ⟨b,j,none⟩=some (.int .i64 o):=by
 obtain⟨c0,c1,-,-⟩:=aB h;rcases aoL ho with ⟨rfl,rfl⟩|⟨rfl,rfl⟩
 . exact c0
 . exact c1
theorem adT(st:List Nat):st=[]\/∃st0 x,st=st0++[x]:=by
 rcases List.eq_nil_or_concat st with h|⟨a,b,h⟩
 . exact Or.inl h
 . exact Or.inr ⟨a,b,by rw[h,List.concat_eq_append]⟩
theorem eP{w:World}{g:Nat}{ns:List Nd}(hd:DagP w g ns)(hi:ns[i]? =some n):
 Calls Tryz.prog 171 #[.pointer (some ⟨g,0,none⟩),.int .i64 i] w (fun e w'=>e=.returned (.tuple #[.agg #[.int .i64 n.kind,.float .f64 n.val,.int .i64 n.a,.int .i64 n.b],.bool true])/\Below w.heap.size w w'):=abC hd hi
theorem new4(w:World)(T:TypeId)(z0 z1 z2 z3 a b c d:Value):∃w1,w.alloc (.cells #[z0,z1,z2,z3] T)=w1/\w1.cell? ⟨w.heap.size,0,none⟩=some z0/\w1.cell? ⟨w.heap.size,1,none⟩=some z1/\w1.cell? ⟨w.heap.size,2,none⟩=some z2/\w1.cell? ⟨w.heap.size,3,none⟩=some z3/\
 w1.frozen? ⟨w.heap.size,0,none⟩=false/\w1.frozen? ⟨w.heap.size,1,none⟩=false/\w1.frozen? ⟨w.heap.size,2,none⟩=false/\w1.frozen? ⟨w.heap.size,3,none⟩=false/\
 ∃w2,(((w1.setCell ⟨w.heap.size,0,none⟩ a).setCell ⟨w.heap.size,1,none⟩ b).setCell ⟨w.heap.size,2,none⟩ c).setCell ⟨w.heap.size,3,none⟩ d=w2/\Below w.heap.size w w2/\w2.heap[w.heap.size]? =some (.cells #[a,b,c,d] T (0,0)):=by
 obtain⟨w1,h,hb,hs,b1⟩:=pro1 w (.cells #[z0,z1,z2,z3] T);obtain⟨c0,c1,c2,c3⟩:=bP b1;obtain⟨f0,f1,f2,f3⟩:=ajJ b1;have g1:=hb.setCell (p:=⟨w.heap.size,0,none⟩) nlr a;have g2:=g1.setCell (p:=⟨w.heap.size,1,none⟩) nlr b;have g3:=g2.setCell (p:=⟨w.heap.size,2,none⟩) nlr c;have g4:=g3.setCell (p:=⟨w.heap.size,3,none⟩) nlr d;exact⟨w1,h,c0,c1,c2,c3,f0,f1,f2,f3,_,rfl,g4,set4 b1 a b c d⟩
theorem new2(w:World)(T:TypeId)(z0 z1 a b:Value):∃w1,w.alloc (.cells #[z0,z1] T)=w1/\w1.cell? ⟨w.heap.size,0,none⟩=some z0/\w1.cell? ⟨w.heap.size,1,none⟩=some z1/\
 w1.frozen? ⟨w.heap.size,0,none⟩=false/\w1.frozen? ⟨w.heap.size,1,none⟩=false/\
 ∃w2,(w1.setCell ⟨w.heap.size,0,none⟩ a).setCell ⟨w.heap.size,1,none⟩ b=w2/\Below w.heap.size w w2/\w2.heap[w.heap.size]? =some (.cells #[a,b] T (0,0)):=by
 obtain⟨w1,h,hb,hs,b1⟩:=pro1 w (.cells #[z0,z1] T);obtain⟨c0,c1,f0,f1⟩:=aB b1;have g1:=hb.setCell (p:=⟨w.heap.size,0,none⟩) nlr a;have g2:=g1.setCell (p:=⟨w.heap.size,1,none⟩) nlr b;exact⟨w1,h,c0,c1,f0,f1,_,rfl,g2,set2 b1 a b⟩
theorem agN{w wr w9:World}{ns:List Nd}{root gf capf:Nat}{sv:Value}{vis found l':List Nat}(hB:BS w wr sv (.slice (some ⟨gf,0,none⟩) found.length capf) vis [] found)(hP:PI ns root vis [] found)(hC:Cl ns vis found)
 (hgr:wr.grownBy w9 (some gf)) (hperm:l'.Perm found) (hs:l'.Pairwise (· <= ·)) (hown:w9.ownsRow w.heap.size 3 1 (.slice (some ⟨gf,0,none⟩) found.length capf) found.length (bE l')):
 pR w ns root (.returned (.slice (some ⟨gf,0,none⟩) found.length capf)) w9:=by
 have hnd:l'.Nodup:=by
  have:=hP.nd;rw[List.append_nil]at this;exact hperm.nodup_iff.2 this
 have hmem:∀x,x∈l'↔x∈vis:=fun x=>by rw[hperm.mem_iff,hP.mem x];simp
 have hgB:w.heap.size<=gf:=(hB.own.lt gf rfl).1;refine⟨hB.bel.trans ⟨hgr.os,hgr.tape,hgr.output,hgr.size,fun k hk=>hgr.block k (baK hk hB.bel.size) (fun e=>by have:=baC e;omega)⟩,_,l',rfl,?_,?_,(hmem root).2 hP.rt,fun x hx=>hP.lt x ((hmem x).1 hx),?_,fun x hx=>hP.le x ((hmem x).1 hx),fun S hc hr x hx=>hP.mn S hc hr x ((hmem x).1 hx)⟩
 . rcases hown.2 with ⟨h,-⟩|⟨g,cap,cur,e2,h1,h2,h3,h4,h5,h6⟩
   . cases h
   injection e2 with e2 _ e3
   cases e2;subst e3
   refine⟨gf,capf,by rw[hperm.length_eq],by rw[hperm.length_eq];exact h3,h4,hgB,aD h2,fun k x hx=> ?_⟩;have hk:=(baL.1 hx).1;rw[hperm.length_eq]at hk;rw[hown.cellAt k (by omega)];simp[bE,hx]
 . have:=List.Pairwise.and hs hnd
   exact this.imp fun{a b} h=>by have:=h.1;have:=h.2;omega
 . intro x hx n hn o ho
   obtain⟨y,hy,e⟩:=hC x (hperm.mem_iff.1 hx) n hn o ho;exact⟨y,(hmem y).2 hy,e⟩
theorem jC{w:World}{g root b0:Nat}{ns:List Nd}(hd:DagP w g ns)(ok:OkNs ns)(hr:root<ns.length)(hb0:w.heap[b0]? =some (.cells #[.int .i64 (root:Int)] 3 (0,0))):
 Calls Tryz.prog 248 #[.pointer (some ⟨g,0,none⟩),.slice (some ⟨b0,0,none⟩) 1 1] w (pR w ns root):=by
 obtain⟨w3,hw3,k0,k1,hbs⟩:=ajY w;have HBS:=hdd hbs;have HD:=hdd hd;have HOK:=hdd ok;have HRL:=hdd hr;have HB0:=hdd hb0;have HLN:=hdd hd.len;obtain⟨nr,hnr⟩:∃n,ns[root]? =some n:=⟨_,baG hr⟩;have HNR:=hdd hnr;clear hbs hd ok hr hb0 hnr;have hmm:=@run_makeMap Tryz.prog;go_enter Tryz.func248,Tryz.ntmps248
 go_wp2_with fail
 go_loopw [24] (fun i wr=>∃k:Int,(0<=k/\k<=1)/\i=.int .i64 k/\Hid (∃sv,BS w wr sv (.slice none 0 0) (if k=0 then[]else[root]) (if k=0 then[]else[root]) [])) (fun i _=>(1-intOf i).toNat)
 case atStart=>exact⟨0,by omega,rfl,hdd ⟨_,HBS.out⟩⟩
 case round=>
  obtain⟨kk,hkk,rfl,HR2⟩:=hrel;rcases(show kk=0\/kk=1 by omega)with rfl|rfl
  . obtain⟨sv,hB⟩:=HR2.out
    simp only[if_true]at hB;have cb0:wr.cell? ⟨b0,0,none⟩=some (.int .i64 (root:Int)):=by
     have:=hbl HB0.out hB.bel;simp[baP,this]
    have HN:=hdd (eP (HD.out.below hB.bel) HNR.out);have HB:=hdd hB;have hst:=aU;clear hB;go_wp2_with fail
    refine HN.out.mono ?_;rintro e w5⟨rfl,hb5⟩;obtain⟨w6,hw6,z0,z1,z2,z3,y0,y1,y2,y3,w7,hw7,hb7,hs7⟩:=new4 w5 206 (.int .i64 0) (.float .f64 0) (.int .i64 0) (.int .i64 0) (.int .i64 nr.kind) (.float .f64 nr.val) (.int .i64 nr.a) (.int .i64 nr.b);have hB7:=HB.out.below (aA hb5 hb7);have HB7:=hdd hB7;have HVI:=hdd (x8 (i:=root) hB7.vs (by have:=HRL.out;have:=HLN.out;omega) (by simp));clear hB7 hb7 hs7 hb5 cb0;go_wp2_with fail
    refine HVI.out.mono ?_;rintro e w8 hp;obtain⟨rfl,hsz8,sv8,hB8,-⟩:=HB7.out.visit hp;simp only[baU,if_false,List.nil_append]at hB8;have HB8:=hdd hB8;clear hp hB8 z0 z1 z2 z3 y0 y1 y2 y3 hw6 hw7;go_wp2
    go_roundw
    case rel=>exact⟨1,by omega,by go_num,hdd ⟨sv8,by simp;exact HB8.out⟩⟩
    case measure=>simp[intOf]
  . obtain⟨sv,hB⟩:=HR2.out
    simp only[show¬((1:Int)=0) from by decide,if_false]at hB;have HB:=hdd hB;clear hB HR2;go_wp2_with fail
    go_loopw [5] (fun fv wr=>∃sv vis st found,Hid (BS w wr sv fv vis st found)/\Hid (PI ns root vis st found)/\Hid (Cl ns vis found)) (fun fv _=>ns.length-lenOf fv)
    case atStart=>exact⟨sv,[root],[root],[],HB,hdd ⟨by simp,by simp,by have:=HRL.out;simpa using this,by simp,by simp,fun S _ hr x hx=>by simp at hx;rw[hx];exact hr⟩,hdd (by intro x hx;simp at hx)⟩
    case round=>
     clear HB;obtain⟨sv,vis,st,found,HB,HPI,HCL⟩:=hrel;rcases adT st with rfl|⟨st0,x,rfl⟩
     . have hne:0<found.length:=by
        have:=(HPI.out.mem root).1 HPI.out.rt;rcases this with h|h
        . exact List.length_pos_of_mem h
        . simp at h
       obtain⟨gf,capf,hfv,hgB,hgl⟩:=HB.out.own.form hne;have HFV:=hdd hfv;obtain⟨cs,fs,-⟩:=HB.out.cells;have hsv:∃A c,sv=.slice A 0 c:=by
        obtain⟨m,-,-,-,-,h5,-⟩:=HB.out.vs;rcases h5.2 with ⟨h,-⟩|⟨gg,cc,-,h,-⟩
        . exact⟨none,0,h⟩
        . exact⟨_,cc,h⟩
       obtain⟨As,csv,rfl⟩:=hsv;subst hfv;have HSO:=hdd (ajZ HB.out.own (by have:=HPI.out.len;have:=HLN.out;omega));clear hgB hgl hne;go_wp2_with fail
       refine HSO.out.mono ?_;rintro e w9⟨rfl,hgr,l',hperm,hsorted,hown⟩;have HRES:Hid (pR w ns root (.returned (.slice (some ⟨gf,0,none⟩) found.length capf)) w9):=hdd (agN HB.out HPI.out HCL.out hgr hperm hsorted hown);clear hgr hperm hsorted hown cs fs;go_wp2;go_ret;exact HRES.out
     . have HLF:=hdd (agM HB.out.own)
       obtain⟨b,cap,rfl,hc1,hc2,hcell⟩:=HB.out.top;obtain⟨cs,fs,-⟩:=HB.out.cells;obtain⟨w4,hw4⟩:∃w4,wr.setCell ⟨w.heap.size,0,none⟩ (.slice (some ⟨b,0,none⟩) st0.length cap)=w4:=⟨_,rfl⟩;have HB4:Hid (BS w w4 (.slice (some ⟨b,0,none⟩) st0.length cap) _ vis st0 found):=hdd (hw4▸HB.out.pop);obtain⟨w5,hw5,hb5,hs5,q5⟩:=pro1 w4 (.cells #[.int .i64 (x:Int)] 3);have HB45:=hdd hb5;have HQ5:=hdd q5;have HST:=hdd (show found.length<=1000000 by have:=HPI.out.len;have:=HLN.out;omega);have hpos:(0:Int)<((st0.length+1:Nat):Int):=by omega
       have hidx:((st0.length+1:Nat):Int)-1=(st0.length:Int):=by omega
       have hle:(st0.length:Int)<=(cap:Int):=by omega
       have hsl:(st0.length:Int)<=20000:=by have:=HPI.out.len;have:=HLN.out;rw[baJ]at*;simp at*;omega
       have HPO:=hdd HPI.out.pop;have hxl:x<ns.length:=HPO.out.lt x ((HPO.out.mem x).2 (Or.inl (by simp)));obtain⟨nx,hnx⟩:∃n,ns[x]? =some n:=⟨_,baG hxl⟩;have HNX:=hdd hnx;have HXL:=hdd hxl;have HPX:Hid (∀S:Nat->Prop,ClS ns S->S root->S x):=hdd (fun S hc hr=>HPO.out.mn S hc hr x ((HPO.out.mem x).2 (Or.inl (by simp))));have HXR:=hdd (HPO.out.le x ((HPO.out.mem x).2 (Or.inl (by simp))));have HC2:=hdd hc2;clear hb5 q5 hnx hxl;obtain⟨i0,hi0,hz0,hz1,hz2⟩:=info_parts pM;go_wp2_with (first
        |(at_builtin
          refine wpList_append_lies _ rfl _ _ 25 rfl w.heap.size 3 i0 (.int .i64 0) 1 8 kK hi0 hz0 hz1 hz2 rfl (by decide) _ found.length (bE found) rfl (HB4.out.own.kept (aH HB45.out) (pO _)) ⟨w4.heap.size,0,none⟩ 1 1 [.int .i64 (x:Int)] rfl rfl (dM HQ5.out) (by simp[Value.oneCell']) (by decide) (aeY HST.out) (xZ HST.out) (baN HB4.out.bel.size HB45.out.size) w5.heap.size rfl ?_;intro g6 cap6 w6 hown6 hgrow6 hat6 hlt6;have HB6:=hdd (HB4.out.app HB45.out hown6 hgrow6 hat6);clear hown6 hgrow6 hat6 hlt6))
       clear hw4 hw5 hs5 cs fs hcell hpos hidx hle hsl hz0 hz1 hz2 hi0 HB45 HQ5 HB4 HB;have HN:=hdd (eP (HD.out.below HB6.out.bel) HNX.out);have hst:=aU;refine HN.out.mono ?_;rintro e w7⟨rfl,hb7⟩;obtain⟨w8,hw8,z0,z1,z2,z3,y0,y1,y2,y3,w9,hw9,hb9,hs9⟩:=new4 w7 206 (.int .i64 0) (.float .f64 0) (.int .i64 0) (.int .i64 0) (.int .i64 nx.kind) (.float .f64 nx.val) (.int .i64 nx.a) (.int .i64 nx.b);obtain⟨x0,x1,x2,x3⟩:=bP hs9;have HB9:=hdd (HB6.out.below (aA hb7 hb9));have HPA:Hid (Calls Tryz.prog 295 #[.agg #[.int .i64 nx.kind,.float .f64 nx.val,.int .i64 nx.a,.int .i64 nx.b]] w9 (fun e w'=>e=.returned (.tuple #[.agg #[.int .i64 (ops2 nx).1,.int .i64 (ops2 nx).2],.int .i64 ((opsN nx).length:Nat)])/\Below w9.heap.size w9 w')):=hdd (xY (n:=nx));clear hb7 hb9 hs9;go_wp2_with fail
       refine HPA.out.mono ?_;rintro e w10⟨rfl,hb10⟩;obtain⟨w11,hw11,p0,p1,r0,r1,w12,hw12,hb12,hs12⟩:=new2 w10 276 (.int .i64 0) (.int .i64 0) (.int .i64 (ops2 nx).1) (.int .i64 (ops2 nx).2);have HB12:=hdd (HB9.out.below (aA hb10 hb12));have HS12:=hdd hs12;have hcnt:(0:Int)<=((opsN nx).length:Int):=by omega
       have hcnt2:((opsN nx).length:Int)<=2:=by have:=tJ nx;omega
       have HW10:Hid (w.heap.size+2<w10.heap.size):=hdd (by have:=HB9.out.vs.lts.1;have:=hb10.size;omega);have HSB:Hid ((Value.slice (some ⟨b,0,none⟩) st0.length cap).ownBlock≠some w10.heap.size):=hdd (fun e=>by have:=HB9.out.vs.lts.2.2.2 _ e;have:=hb10.size;omega);clear hb10 hb12 hs12 z0 z1 z2 z3 y0 y1 y2 y3 hw8 hw9 x0 x1 x2 x3;go_wp2_with fail
       go_loopw [71] (fun j wr=>∃jn:Nat,jn<=(opsN nx).length/\j=.int .i64 (jn:Int)/\∃sv vis st,Hid (BS w wr sv (.slice (some ⟨g6,0,none⟩) (found.length+1) cap6) vis st (found++[x]))/\Hid (PI ns root vis st (found++[x]))/\Hid (Cl ns vis found)/\Hid (∀k o,k<jn->(opsN nx)[k]? =some o->∃y∈vis,(y:Int)=o)/\Hid (wr.heap[w10.heap.size]? =some (.cells #[.int .i64 (ops2 nx).1,.int .i64 (ops2 nx).2] 276 (0,0))/\sv.ownBlock≠some w10.heap.size)) (fun j _=>((opsN nx).length-intOf j).toNat)
       case atStart=>exact⟨0,Nat.zero_le _,rfl,_,vis,st0,HB12,HPO,HCL,hdd (fun k o hk=>absurd hk (by omega)),hdd ⟨HS12.out,HSB.out⟩⟩
       case round=>
        clear HPO HCL HB12 HS12 HSB HB9 HB6 HPA HN;obtain⟨jn,hjn,rfl,sv3,vis3,st3,HB3,HP3,HC3,HO3,HK3⟩:=hrel;rcases baT jn (opsN nx).length with hlt|hge
        . obtain⟨o,ho⟩:∃o,(opsN nx)[jn]? =some o:=⟨_,baG hlt⟩
          have hop:=(HOK.out x nx HNX.out).2 o (baO ho);obtain⟨y,hy⟩:∃y:Nat,(y:Int)=o:=⟨o.toNat,by omega⟩;have hyl:y<ns.length:=by have:=HXL.out;omega
          have co:=abN HK3.out.1 ho;rw[<-hy]at co;have HVI:=hdd (x8 (i:=y) HB3.out.vs (by have:=HLN.out;omega) (by have:=HP3.out.len;have:=HLN.out;omega));have hltI:(jn:Int)<((opsN nx).length:Int):=by omega
          have HY:=hdd hy;have HYL:=hdd hyl;have HYR:Hid (y<=root):=hdd (by have:=HXR.out;omega);have HOO:=hdd ho;have HLT:=hdd hlt;have hj0:(0:Int)<=(jn:Int):=by omega
          clear hy hyl hop ho hlt;go_wp2_with fail
          refine HVI.out.mono ?_;rintro e w13 hp;obtain⟨rfl,hsz13,sv4,hB13,hfar⟩:=HB3.out.visit hp;obtain⟨k1,k2⟩:=hfar _ _ HW10.out HK3.out.1 HK3.out.2;have HK4:=hdd (And.intro k1 k2);have HREL:Hid (∃sv vis st,BS w w13 sv (.slice (some ⟨g6,0,none⟩) (found.length+1) cap6) vis st (found++[x])/\PI ns root vis st (found++[x])/\Cl ns vis found/\(∀k o,k<jn+1->(opsN nx)[k]? =some o->∃y∈vis,(y:Int)=o)/\(w13.heap[w10.heap.size]? =some (.cells #[.int .i64 (ops2 nx).1,.int .i64 (ops2 nx).2] 276 (0,0))/\sv.ownBlock≠some w10.heap.size)):=hdd (by
           by_cases hv:y∈vis3
           . rw[if_pos hv]at hB13
             refine⟨sv4,vis3,st3,hB13,HP3.out,HC3.out,fun k o' hk ho'=> ?_,HK4.out⟩;rcases baT k jn with h|h
             . exact HO3.out k o' h ho'
             . have:k=jn:=by omega
               subst this;rw[HOO.out]at ho';exact⟨y,hv,by rw[HY.out];exact baC ho'⟩
           . rw[if_neg hv]at hB13
             refine⟨sv4,y::vis3,st3++[y],hB13,HP3.out.push HYL.out HYR.out (fun S hc hr=>by have h9:=hc x nx (HPX.out S hc hr) HNX.out o (baO HOO.out);rwa[show o.toNat=y from by have:=HY.out;omega]at h9) hv,HC3.out.mono (fun z hz=>baE _ hz),fun k o' hk ho'=> ?_,HK4.out⟩;rcases baT k jn with h|h
             . obtain⟨z,hz,e⟩:=HO3.out k o' h ho'
               exact⟨z,baE _ hz,e⟩
             . have:k=jn:=by omega
               subst this;rw[HOO.out]at ho';exact⟨y,List.mem_cons_self,by rw[HY.out];exact baC ho'⟩)
          clear hp hB13 hfar k1 k2 co;go_wp2
          go_roundw
          case rel=>
           obtain⟨sv5,vis5,st5,r1,r2,r3,r4,r5⟩:=HREL.out;exact⟨jn+1,by have:=HLT.out;omega,by go_num,sv5,vis5,st5,hdd r1,hdd r2,hdd r3,hdd r4,hdd r5⟩
          case measure=>have:=HLT.out;simp[intOf];omega
        . have hje:jn=(opsN nx).length:=by omega
          subst hje;have HCL4:Hid (Cl ns vis3 (found++[x])):=hdd (by
           intro z hz n hn o ho;rcases baH.1 hz with hz|hz
           . exact HC3.out z hz n hn o ho
           . simp only[baI]at hz
             subst hz;rw[HNX.out]at hn
             cases hn
             obtain⟨k,hk⟩:=List.getElem?_of_mem ho;exact HO3.out k o (baL.1 hk).1 hk)
          have hmeas:ns.length-lenOf (.slice (some ⟨g6,0,none⟩) (found.length+1) cap6)<ns.length-found.length:=by
           have:=HP3.out.len;simp only[lenOf,baJ,List.length_cons,List.length_nil]at*;omega
          have HME:=hdd hmeas;clear hmeas hge hjn;go_wp2
          go_roundw
          case rel=>exact⟨sv3,vis3,st3,found++[x],HB3,HP3,HCL4⟩
          case measure=>rw[HLF.out];exact HME.out
structure St(P:Ex->Prop)(B N:Nat)(w:World)(g:Nat)(ns:List Nd):Prop where
 dag:DagP w g ns
 all:AllIs P ns
 hi:aeZ B g w
 tab:Tab w
 tb:6<B
 hB:B<=w.heap.size
 room:ns.length<=N
section
variable{P:Ex->Prop}{B N:Nat}{w w':World}{g:Nat}{ns ns':List Nd}
theorem Tab.step (h:Tab w)(hw:w'.heap[6]? =w.heap[6]?):Tab w':=by
 intro j hj;exact(World.cell?_of_block (w:=w) (w':=w') hw).trans (h j hj)
theorem St.below (h:St P B N w g ns)(hb:Below w.heap.size w w'):St P B N w' g ns:=
 ⟨h.dag.below hb,h.all,(DS.of_below h.dag.glt hb).hi h.hB h.hi,h.tab.below hb,h.tb,baN h.hB hb.size,h.room⟩
theorem St.step {M:Nat}(h:St P B N w g ns)(hd:DagP w' g ns')(ha:AllIs P ns')(hs:DS g w w')(hM:ns'.length<=M):St P B M w' g ns':=
 ⟨hd,ha,hs.hi h.hB h.hi,h.tab.step (hs.heap (baK h.tb h.hB) (fun hb=>by have:=h.hi _ hb;have:=h.tb;omega)),h.tb,baN h.hB hs.size,hM⟩
end
def RetE(P:Ex->Prop)(B N:Nat)(w:World)(g:Nat)(ns:List Nd)(mk:Nat->Value)(x:Ex)(e:Ending)(w':World):Prop:=
 ∃(k:Nat) (ns':List Nd),e=.returned (mk k)/\St P B N w' g ns'/\ns<+:ns'/\Is ns' x k/\DS g w w'
abbrev idV(k:Nat):Value:=.int .i64 (k:Int)
theorem ae0{kind:Int}(hk:vD kind){len:Nat}(hi:i<len)(hj:j<len)(hl:len<=20000):NdIn ⟨kind,0,i,j⟩ len:=by
 refine⟨Or.inr (Or.inl ⟨hk,rfl,?_,?_⟩),?_,?_,?_⟩
 . simp;omega
 . simp;omega
 . intro h;rcases hk with rfl|rfl|rfl|rfl<;>simp at h
 . intro _;simp;omega
 . intro _ _;simp;omega
theorem nN{w:World}{g:Nat}{ns:List Nd}(hd:DagP w g ns)(hn:NdIn n ns.length)(hv:n.val<18446744073709551616)(hl:ns.length<20000):
 Calls Tryz.prog 124 #[.pointer (some ⟨g,0,none⟩),.agg #[.int .i64 n.kind,.float .f64 n.val,.int .i64 n.a,.int .i64 n.b]] w
  (fun e w'=>∃(i:Nat) (ns':List Nd),e=.returned (.int .i64 (i:Int))/\DagP w' g ns'/\ns'[i]? =some n/\(ns'=ns\/ns'=ns++[n])/\DS g w w'):=by
 obtain⟨kind,val,na,nb⟩:=n;obtain⟨w1,hw1,hb1,hs1,b1⟩:=pro1 w (.cells #[.int .i64 kind,.float .f64 val,.int .i64 na,.int .i64 nb] 206);obtain⟨c0,c1,c2,c3⟩:=bP b1;have HP:=hdd (amO (hd.below hb1) hn hv hl);have HS:=hdd (DS.of_below hd.glt hb1);unfold iL at HP;clear hd hn hv hl hb1 hs1 b1;go_enter Tryz.func124,Tryz.ntmps124
 go_wp2_with fail
 refine HP.out.mono ?_;rintro e w2⟨i,ns',rfl,hd2,hi,hns,hs⟩;have HR:=hdd (And.intro hd2 (And.intro hi (And.intro hns (HS.out.trans hs))));clear hd2 hi hns hs;go_wp2;go_ret;exact⟨i,ns',rfl,HR.out⟩
theorem aj0{P:Ex->Prop}{B N:Nat}{w:World}{g:Nat}{ns:List Nd}{v:Nat}(hs:St P B N w g ns)(hN:N<20000)(hv:v<18446744073709551616)(hf:fin v)(hP:P (.leaf v)):
 Calls Tryz.prog 122 #[.pointer (some ⟨g,0,none⟩),.float .f64 v] w (RetE P B (N+1) w g ns idV (.leaf v)):=by
 have HP:=hdd (nN (n:=⟨0,v,0,0⟩) hs.dag ⟨Or.inl ⟨rfl,rfl,rfl⟩,fun _=>hf,fun h=>absurd rfl h,fun h=>absurd rfl h⟩ hv (by have:=hs.room;omega));have HS:=hdd hs;have HE:=hdd hP;clear hs hN hv hf hP;dsimp only at HP;go_enter Tryz.func122,Tryz.ntmps122
 go_wp2_with fail
 refine HP.out.mono ?_;rintro e w2⟨k,ns',rfl,hd2,hi,hns,hs⟩;have HR:Hid (RetE P B (N+1) w g ns idV (.leaf v) (.returned (idV k)) w2):=hdd (by
  obtain⟨q1,q2,q3⟩:=ajW HS.out.all hi hns HE.out;refine⟨k,ns',rfl,HS.out.step hd2 q2 hs ?_,q3,q1,hs⟩;have:=HS.out.room;rcases hns with rfl|rfl
  . omega
  . simp;omega)
 unfold idV at HR;clear hd2 hi hns hs;go_wp2;go_ret;exact HR.out
theorem aj1{P:Ex->Prop}{B N:Nat}{w w':World}{g k:Nat}{ns ns':List Nd}{kind:Int}{b:Ex}{mk:Nat->Value}(hs:St P B N w g ns)(hk:vD kind)(ha:Is ns a i)(hb:Is ns b j)(hP:P (opE kind a b))
 (hd2:DagP w' g ns') (hi:ns'[k]? =some ⟨kind,0,i,j⟩) (hns:ns'=ns\/ns'=ns++[⟨kind,0,i,j⟩]) (hds:DS g w w'):RetE P B (N+1) w g ns mk (opE kind a b) (.returned (mk k)) w':=by
 obtain⟨q1,q2,q3⟩:=aoK hk hs.all ha hb hi hns hP;refine⟨k,ns',rfl,hs.step hd2 q2 hds ?_,q3,q1,hds⟩;have:=hs.room;rcases hns with rfl|rfl
 . omega
 . simp;omega
theorem amP{P:Ex->Prop}{B N:Nat}{w:World}{g:Nat}{ns:List Nd}{b:Ex}(hs:St P B N w g ns)(hN:N<20000)(ha:Is ns a i)(hb:Is ns b j)(hP:P (.sub a b)):
 Calls Tryz.prog 145 #[.pointer (some ⟨g,0,none⟩),.int .i64 (i:Int),.int .i64 (j:Int)] w (RetE P B (N+1) w g ns idV (.sub a b)):=by
 have HP:=hdd (nN (n:=⟨2,0,i,j⟩) hs.dag (ae0 (Or.inr (Or.inl rfl)) ha.lt hb.lt hs.dag.len) (by simp) (by have:=hs.room;omega));have HR:Hid (∀(w':World) (k:Nat) (ns':List Nd),DagP w' g ns'->ns'[k]? =some ⟨2,0,i,j⟩->(ns'=ns\/ns'=ns++[⟨2,0,i,j⟩])->DS g w w'->RetE P B (N+1) w g ns idV (.sub a b) (.returned (.int .i64 (k:Int))) w'):=
  hdd fun w' k ns' h1 h2 h3 h4=>aj1 (mk:=idV) hs (Or.inr (Or.inl rfl)) ha hb hP h1 h2 h3 h4
 clear hs hN ha hb hP;dsimp only at HP;go_enter Tryz.func145,Tryz.ntmps145
 go_wp2_with fail
 refine HP.out.mono ?_;rintro e w2⟨k,ns',rfl,hd2,hi,hns,hs⟩;have HF:=hdd (HR.out _ _ _ hd2 hi hns hs);clear hd2 hi hns hs;go_wp2;go_ret;exact HF.out
theorem aj2{P:Ex->Prop}{B N:Nat}{w:World}{g:Nat}{ns:List Nd}(hs:St P B N w g ns)(hN:N<20000)(ha:Is ns a i)(hP:P (.root a)):
 Calls Tryz.prog 147 #[.pointer (some ⟨g,0,none⟩),.int .i64 (i:Int)] w (RetE P B (N+1) w g ns idV (.root a)):=by
 have hnd:NdIn ⟨5,0,i,0⟩ ns.length:=by
  have h1:=ha.lt;have h2:=hs.dag.len;refine⟨Or.inr (Or.inr ⟨rfl,rfl,?_,rfl⟩),?_,?_,?_⟩
  . simp;omega
  . intro h;simp at h
  . intro _;simp;omega
  . intro _ h;simp at h
 have HP:=hdd (nN (n:=⟨5,0,i,0⟩) hs.dag hnd (by simp) (by have:=hs.room;omega));have HS:=hdd hs;have HA:=hdd ha;have HE:=hdd hP;clear hs hN ha hP hnd;dsimp only at HP;go_enter Tryz.func147,Tryz.ntmps147
 go_wp2_with fail
 refine HP.out.mono ?_;rintro e w2⟨k,ns',rfl,hd2,hi,hns,hs⟩;have HR:Hid (RetE P B (N+1) w g ns idV (.root a) (.returned (idV k)) w2):=hdd (by
  obtain⟨q1,q2,q3⟩:=ajX HS.out.all HA.out hi hns HE.out;refine⟨k,ns',rfl,HS.out.step hd2 q2 hs ?_,q3,q1,hs⟩;have:=HS.out.room;rcases hns with rfl|rfl
  . omega
  . simp;omega)
 unfold idV at HR;clear hd2 hi hns hs;go_wp2;go_ret;exact HR.out
theorem St.made {P:Ex->Prop}{w':World}{g:Nat}{B:Nat}(hT:Tab w')(htb:6<B)(hB:B<=w'.heap.size)(h1:w'.heap[g]? =some (.cells #[.slice none 0 0,.map (some mb)] 153 (0,0)))(h2:w'.heap[mb]? =some (.map #[] 0))(hne:mb≠g)(hg:B<=g)(hm:B<=mb):St P B 0 w' g []:=by
 refine⟨Or.inl ⟨.slice none 0 0,mb,fun _=>none,h1,baM _ _ _ _,MapP.made (es:=#[]) h2,⟨by simp,by simp⟩,by simp[baD],hne,by simp[baD],by simp,by simp⟩,fun k hk=>by simp at hk,?_,hT,htb,hB,by simp⟩;rintro b(rfl|⟨v,mb',T,e,hb⟩)
 . exact hg
 . rw[h1]at e
   simp only[ba0,Obj.cells.injEq,Array.mk.injEq,List.cons.injEq,Value.map.injEq,and_true]at e;obtain⟨⟨rfl,rfl⟩,-⟩:=e;rcases hb with hb|hb
   . simp[baD]at hb
   . cases hb;exact hm
end Go.Proofs.YtigoiiekebccnaaGreatDoor
