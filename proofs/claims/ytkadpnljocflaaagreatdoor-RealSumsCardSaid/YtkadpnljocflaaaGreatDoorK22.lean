/- A part of the proof: contracts of functions and plain laws (WalkB, WalkC, WalkD). -/
import Derived.Test.YtkadpnljocflaaaGreatDoorK21
import Derived.Test.YtkadpnljocflaaaGreatDoorK08
import Derived.Test.YtkadpnljocflaaaGreatDoorShelfS
import Derived.Sort.OwnSortedInts
set_option linter.unusedVariables false
set_option linter.unusedSimpArgs false
set_option linter.unnecessarySimpa false
set_option maxHeartbeats 25600000
set_option maxRecDepth 100000
namespace Go.Proofs.YtkadpnljocflaaaGreatDoor
open Go.RowKit Go.Maps
open _root_.Array renaming getElem?_eq_some_iff->awV,getElem_modify->awZ
open Go.RowKit.Below renaming heap_setCell->awU
open Go.Value renaming ownBlock->awS,oneCell'->axE
open Go.World renaming cell?->awT,setCell->aw3,frozen?->aw6,ownsRow_nil->aw9
open List renaming mem_cons_of_mem->awQ,mem_cons->awR,getElem?_eq_getElem->awW,mem_append->awY,mem_singleton->aw0,length_append->aw1,getElem?_eq_some_iff->aw2,mem_of_getElem?->aw4,map_congr_left->aw5,pairwise_cons->aw7,append_assoc->aw8,not_mem_nil->axC,map_map->axF,map_id->axH
open Nat renaming lt_of_lt_of_le->awX,le_trans->axA,lt_or_ge->axB,le_refl->axD,zero_le->axG
open Option.some renaming inj->awP
variable{o:Int}{l st0:List Nat}{ns:List Nd}{B g gv i j mb n x:Nat}{S:Nat->Prop}{T:TypeId}{v:Value}{a b w w1 w2 w3:World}
structure Fr(S:Nat->Prop)(w w':World):Prop where
 os:w'.os=w.os
 tape:w'.tape=w.tape
 output:w'.output=w.output
 size:w.heap.size<=w'.heap.size
 block:∀b,b<w.heap.size->¬S b->w'.heap[b]? =w.heap[b]?
theorem Fr.of_below {w':World}(h:Below w.heap.size w w'):Fr S w w':=⟨h.os,h.tape,h.output,h.size,fun b hb _=>h.block b hb⟩
theorem Fr.trans {c:World}(h:Fr S a b)(k:Fr S b c):Fr S a c:=
 ⟨k.os.trans h.os,k.tape.trans h.tape,k.output.trans h.output,axA h.size k.size,fun i hi hs=>(k.block i (awX hi h.size) hs).trans (h.block i hi hs)⟩
theorem Fr.of_grown {row:Option Nat}(h:a.grownBy b row)(hs:∀i,row=some i->S i):Fr S a b:=
 ⟨h.os,h.tape,h.output,h.size,fun i hi h'=>h.block i hi (fun e=>h' (hs i e.symm))⟩
theorem Fr.setCell (h:Fr S a b)(hg:S g)(u:Value):Fr S a (b.setCell ⟨g,i,none⟩ u):=
 ⟨h.os,h.tape,h.output,by simpa[aw3]using h.size,fun k hk hs=>by
   rw[awU _ _ _ _ (fun e=>hs (by simp at e;rw[e];exact hg))];exact h.block k hk hs⟩
theorem Fr.below (h:Fr S a b)(hB:B<=a.heap.size)(hS:∀i,S i->B<=i):Below B a b:=
 ⟨h.os,h.tape,h.output,h.size,fun i hi=>h.block i (awX hi hB) (fun hs=>by have:=hS i hs;omega)⟩
def VB(gs mb:Nat)(sv:Value)(b:Nat):Prop:=b=gs\/b=mb\/sv.ownBlock=some b
def mI(w:World)(gv gs mb:Nat)(sv:Value)(vis st:List Nat)(i:Nat)(e:Ending)(w':World):Prop:=
 e=.returned (.tuple #[])/\Fr (VB gs mb sv) w w'/\∃sv',(sv'.ownBlock=sv.ownBlock\/∃b,sv'.ownBlock=some b/\w.heap.size<=b)/\
  (if i∈vis then VS w' gv gs mb sv' vis st else VS w' gv gs mb sv' (i::vis) (st++[i]))
theorem oJ(sv:Value):sv.ownBlock=none\/sv.ownBlock≠none:=by
 cases sv.ownBlock
 . exact Or.inl rfl
 . exact Or.inr (by simp)
theorem iN{u:Value}(h:w.heap[g]? =some (.cells #[u] T (0,0))):∀j x,[u][j]? =some x->w.cell? ((⟨g,0,none⟩:Addr).add j)=some x:=by
 intro j x hx
 cases j with
 |zero=>simp at hx;subst hx;simp[awT,Addr.add,h]
 |succ j=>simp at hx
theorem ab1(h:n<=1000000):n+1<=maxLen:=by unfold maxLen;omega
theorem vH(h:n<=1000000):(n+1)*8<=140737488355328:=by omega
theorem aa1{gs:Nat}{sv:Value}(h:w1.heap[gs]? =some (.cells #[sv] T (0,0)))(hb:Below w1.heap.size w1 w2)(hg:w2.grownBy w3 sv.ownBlock)(hn:sv.ownBlock≠some gs):w3.cell? ⟨gs,0,none⟩=some sv/\w3.frozen? ⟨gs,0,none⟩=false:=by
 have h2:=hbl h hb;have h3:=(hg.block gs (aC h2) (fun e=>hn e.symm)).trans h2;exact⟨by simp[awT,h3],by simp[aw6,h3]⟩
theorem adL{gs cap:Nat}{sv:Value}{vis st:List Nat}{m m':Value->Option Value}(hV:VS w gv gs mb sv vis st)(hnv:¬i∈vis)(hM:MapP Tryz.prog 3 w mb m)(h4:∀j:Nat,m (.int .i64 (j:Int))=if j∈vis then some (.int .i64 1)else none)
 (h6:gv≠gs) (h7:mb≠gs) (h8:mb≠gv) (h9:sv.ownBlock≠some gs) (h10:sv.ownBlock≠some gv) (h11:sv.ownBlock≠some mb)
 (hu:Upd m (.int .i64 (i:Int)) (some (.int .i64 1)) m') (hM1:MapP Tryz.prog 3 w1 mb m') (hgr:w.grownBy w1 (some mb)) (hsz:w1.heap.size=w.heap.size) (hb2:Below w1.heap.size w1 w2)
 (hO:w3.ownsRow 0 3 1 (.slice (some ⟨g,0,none⟩) (st.length+1) cap) (st.length+1) (bD st++[.int .i64 (i:Int)])) (hg3:w2.grownBy w3 sv.ownBlock) (hat:sv.ownBlock=some g\/g=w2.heap.size):
 mI w gv gs mb sv vis st i (.returned (.tuple #[])) (w3.setCell ⟨gs,0,none⟩ (.slice (some ⟨g,0,none⟩) (st.length+1) cap)):=by
 obtain⟨m0,q1,q2,-⟩:=hV;have hs2:=hb2.size;have lgv:=aC q1;have lgs:=aC q2;have lmb:=hM.lt;have hg_gs:g≠gs:=fun e=>hat.elim (fun h=>h9 (by rw[<-e];exact h)) (fun h=>by omega);have hg_gv:g≠gv:=fun e=>hat.elim (fun h=>h10 (by rw[<-e];exact h)) (fun h=>by omega);have hg_mb:g≠mb:=fun e=>hat.elim (fun h=>h11 (by rw[<-e];exact h)) (fun h=>by omega);have far:∀b,b<w.heap.size->b≠mb->sv.ownBlock≠some b->w3.heap[b]? =w.heap[b]? :=fun b hb h1 h2=>
  (hg3.block b (by omega) (fun e=>h2 e.symm)).trans ((hb2.block b (by omega)).trans (hgr.block b hb (fun e=>h1 (awP e))))
 have e1:=(far gv lgv (fun e=>h8 e.symm) h10).trans q1;have e2:=(far gs lgs (fun e=>h7 e.symm) h9).trans q2;have eM:w3.heap[mb]? =w1.heap[mb]? :=(hg3.block mb (by omega) (fun e=>h11 e.symm)).trans (hb2.block mb (by omega));refine⟨rfl,?_,.slice (some ⟨g,0,none⟩) (st.length+1) cap,?_,?_⟩
 . refine Fr.setCell ?_ (Or.inl rfl) _
   refine(Fr.of_grown hgr (fun b e=>Or.inr (Or.inl (awP e).symm))).trans ((Fr.of_below hb2).trans (Fr.of_grown hg3 (fun b e=>Or.inr (Or.inr e))))
 . rcases hat with h|h
   . exact Or.inl (by rw[h];rfl)
   . exact Or.inr ⟨g,rfl,by omega⟩
 . rw[if_neg hnv]
   refine⟨m',?_,?_,?_,?_,?_,h6,h7,h8,?_,?_,?_⟩
   . rw[awU _ _ _ _ (by simpa using h6)];exact e1
   . have hg':gs<w3.heap.size:=aC e2
     have h':w3.heap[gs]=.cells #[sv] 42 (0,0):=(awV.1 e2).2;simp[aw3,hg',awZ,h']
   . exact hM1.keep ((by rw[awU _ _ _ _ (by simpa using h7)];exact eM))
   . intro j
     by_cases hj:j=i
     . subst hj;rw[hu.1];simp
     . rw[hu.2 _ (fun e=>hj (by injection e with _ e;omega)),h4 j]
       by_cases hjv:j∈vis
       . rw[if_pos hjv,if_pos (awQ _ hjv)]
       . rw[if_neg hjv,if_neg (fun h=>(awR.1 h).elim hj hjv)]
   . have hk:=hO.kept (grownBy_set (World.grownBy.refl w3 (some gs)) (i:=0) (.slice (some ⟨g,0,none⟩) (st.length+1) cap)) (Or.inr (fun e=>hg_gs (awP e)))
     simpa[bD]using hk
   . exact fun e=>hg_gs (awP e)
   . exact fun e=>hg_gv (awP e)
   . exact fun e=>hg_mb (awP e)
theorem vI{gs:Nat}{sv:Value}{vis st:List Nat}(h:VS w gv gs mb sv vis st)(hi:i<=1000000)(hst:st.length<=1000000):
 Calls Tryz.prog 149 #[.int .i64 i,.pointer (some ⟨gv,0,none⟩),.pointer (some ⟨gs,0,none⟩)] w (mI w gv gs mb sv vis st i):=by
 obtain⟨m,h1,h2,h3,h4,h5,h6,h7,h8,h9,h10,h11⟩:=id h;have HV:=hdd h;have H3:=hdd h3;have H5:=hdd h5;have c1:w.cell? ⟨gv,0,none⟩=some (.map (some mb)):=by simp[awT,h1]
 have c2:w.cell? ⟨gs,0,none⟩=some sv:=by simp[awT,h2]
 have hkey:keyOf Tryz.prog 3 (.int .i64 (i:Int))=some (.int .i64 (i:Int)):=jJ (by omega);have h4i:=h4 i;have HST:=hdd hst;have H4:=hdd h4;have HVI:=hdd hi;by_cases hv:i∈vis
 . rw[if_pos hv]at h4i
   have HP:Hid (mI w gv gs mb sv vis st i (.returned (.tuple #[])) w):=hdd ⟨rfl,Fr.of_below (Below.refl _ _),sv,Or.inl rfl,by rw[if_pos hv];exact HV.out⟩;clear h h1 h2 h3 h4 h5 h6 h7 h8 h9 h10 h11 hv hi hst;go_enter Tryz.func149,Tryz.ntmps149
   have hv2:(m (.int .i64 (i:Int))).getD (.int .i64 0)=.int .i64 1:=by rw[h4i];rfl
   go_wp2_with (first
    |(at_lookup
      refine aU _ rfl _ _ _ rfl _ _ aK bT (dV _) mb m rfl H3.out (.int .i64 (i:Int)) _ rfl hkey (.int .i64 1) hv2 ?_))
   go_end0
   exact HP.out
 . rw[if_neg hv]at h4i
   have HNV:=hdd hv;obtain⟨i0,hi0,hz0,hz1,hz2⟩:=info_parts tL;have hv2:(m (.int .i64 (i:Int))).getD (.int .i64 0)=.int .i64 0:=by rw[h4i];rfl
   obtain⟨m',hu⟩:=jQ m (.int .i64 (i:Int)) (some (.int .i64 1));have HC:∀w1,w.grownBy w1 (some mb)->w1.heap[gv]? =some (.cells #[.map (some mb)] 166 (0,0))/\w1.heap[gs]? =some (.cells #[sv] 42 (0,0))/\w1.cell? ⟨gv,0,none⟩=some (.map (some mb))/\w1.cell? ⟨gs,0,none⟩=some sv:=by
    intro w1 hg;have e1:=(hg.block gv (aC h1) (fun e=>h8 (awP e).symm)).trans h1;have e2:=(hg.block gs (aC h2) (fun e=>h7 (awP e).symm)).trans h2;exact⟨e1,e2,by simp[awT,e1],by simp[awT,e2]⟩
   have HCC:=hdd HC;have H6:=hdd h6;have H7:=hdd h7;have H8:=hdd h8;have H9:=hdd h9;have HU:=hdd hu;have HKEY:=hdd hkey;have HV2:=hdd hv2;have H10:=hdd h10;have H11:=hdd h11;clear h h4i h10 h11 hst h4 hi h5 h3 HC h1 h2 h6 h7 h8 h9 hu hkey hv2 hv;go_enter Tryz.func149,Tryz.ntmps149
   go_wp2_with (first
    |(at_lookup
      refine aU _ rfl _ _ _ rfl _ _ aK bT (dV _) mb m rfl H3.out (.int .i64 (i:Int)) _ rfl HKEY.out (.int .i64 0) HV2.out ?_)
    |(at_mapUpdate
      refine dP _ rfl _ _ _ _ rfl _ _ aK bT mb m m' rfl H3.out (.int .i64 (i:Int)) (.int .i64 1) _ rfl rfl HKEY.out HU.out ?_;intro w1 HM1 hgr hsz;obtain⟨g1,g2,d1,d2⟩:=HCC.out w1 hgr;have HG1:=hdd g1;have HG2:=hdd g2;have HGR:=hdd hgr;have HSZ:=hdd hsz;have HO1:=hdd (H5.out.kept hgr (Or.inr H11.out));obtain⟨w2,hw2,hb2,hs2,q2⟩:=pro1 w1 (.cells #[.int .i64 (i:Int)] 3);have HB2:=hdd hb2;have HS2:=hdd hs2;have HQ2:=hdd q2;have d1:=cbl d1 hb2;have d2:=cbl d2 hb2;clear g1 g2 hgr hsz hb2 hs2 q2)
    |(at_builtin
      go_loud (
      refine wpList_append_lies _ rfl _ _ 42 rfl 0 3 i0 (.int .i64 0) 1 8 lF hi0 hz0 hz1 hz2 rfl (by decide) sv st.length (bD st) rfl (HO1.out.kept (aY HB2.out) (oJ sv)) ⟨w1.heap.size,0,none⟩ 1 1 [.int .i64 (i:Int)] rfl rfl (iN HQ2.out) (by simp[axE]) (by decide) (ab1 HST.out) (vH HST.out) (axG _) w2.heap.size rfl ?_;intro g cap w3 hown3 hgrow3 hat hlt;obtain⟨x2,f2⟩:=aa1 HG2.out HB2.out hgrow3 H9.out;have HO3:=hdd hown3;have HG3:=hdd hgrow3;have HAT:=hdd hat;clear hown3 hgrow3 hat hlt)))
   go_end0
   exact adL HV.out HNV.out H3.out H4.out H6.out H7.out H8.out H9.out H10.out H11.out HU.out HM1.out HGR.out HSZ.out HB2.out HO3.out HG3.out HAT.out
theorem pK:∀(n:Nat) (l:List Nat),l.Nodup->(∀x∈l,x<n)->l.length<=n:=by
 intro n
 induction n with
 |zero=>intro l _ h;cases l with
  |nil=>simp
  |cons x l=>have:=h x (by simp);omega
 |succ n ih=>
  intro l hn h;have h1:=ih (l.erase n) (hn.erase n) (fun x hx=>by
   have hx':=(hn.mem_erase_iff).1 hx;have:=h x hx'.2;have:=hx'.1;omega)
  have h2:=List.length_erase (a:=n) (l:=l)
  split at h2<;>omega
def ClS(ns:List Nd)(S:Nat->Prop):Prop:=∀(x:Nat) n,S x->ns[x]? =some n->∀o∈opsN n,S o.toNat
structure PI(ns:List Nd)(root:Nat)(vis st found:List Nat):Prop where
 nd:(found++st).Nodup
 mem:∀x,x∈vis↔x∈found\/x∈st
 lt:∀x∈vis,x<ns.length
 rt:root∈vis
 le:∀x∈vis,x<=root
 mn:∀S:Nat->Prop,ClS ns S->S root->∀x∈vis,S x
def Cl(ns:List Nd)(vis xs:List Nat):Prop:=∀x∈xs,∀n,ns[x]? =some n->∀o∈opsN n,∃y∈vis,(y:Int)=o
theorem Cl.mono {vis vis' xs:List Nat}(h:Cl ns vis xs)(hs:∀x∈vis,x∈vis'):Cl ns vis' xs:=fun x hx n hn o ho=>by
 obtain⟨y,hy,e⟩:=h x hx n hn o ho;exact⟨y,hs y hy,e⟩
theorem PI.len {root:Nat}{vis st found:List Nat}(h:PI ns root vis st found):found.length+st.length<=ns.length:=by
 have:=pK ns.length (found++st) h.nd (fun x hx=>h.lt x ((h.mem x).2 (awY.1 hx)));simpa using this
theorem PI.push {root:Nat}{vis st found:List Nat}(h:PI ns root vis st found)(hi:i<ns.length)(hle:i<=root)(hS:∀S:Nat->Prop,ClS ns S->S root->S i)(hv:¬i∈vis):PI ns root (i::vis) (st++[i]) found:=by
 refine⟨?_,?_,?_,awQ _ h.rt,fun x hx=>(awR.1 hx).elim (fun e=>by rw[e];exact hle) (h.le x),fun S hc hr x hx=>(awR.1 hx).elim (fun e=>by rw[e];exact hS S hc hr) (h.mn S hc hr x)⟩
 . rw[<-aw8]
   refine List.nodup_append.2 ⟨h.nd,by simp,?_⟩;intro a ha b hb;simp only[aw0]at hb;subst hb;rintro rfl;exact hv ((h.mem a).2 (awY.1 ha))
 . intro x
   simp only[awR,awY,axC,or_false];have:=h.mem x;constructor
   . rintro(h1|h1)
     . exact Or.inr (Or.inr h1)
     . rcases this.1 h1 with h2|h2
       . exact Or.inl h2
       . exact Or.inr (Or.inl h2)
   . rintro(h1|h1|h1)
     . exact Or.inr (this.2 (Or.inl h1))
     . exact Or.inr (this.2 (Or.inr h1))
     . exact Or.inl h1
 . intro x hx
   rcases awR.1 hx with rfl|hx
   . exact hi
   . exact h.lt x hx
theorem PI.pop {root:Nat}{vis st found:List Nat}(h:PI ns root vis (st++[i]) found):PI ns root vis st (found++[i]):=by
 refine⟨?_,?_,h.lt,h.rt,h.le,h.mn⟩
 . have:=h.nd
   refine(List.Perm.nodup_iff ?_).1 this;rw[aw8];exact List.Perm.append_left _ List.perm_append_comm
 . intro x
   rw[h.mem x];simp only[awY,aw0];constructor
   . rintro(h1|h1|h1)
     . exact Or.inl (Or.inl h1)
     . exact Or.inr h1
     . exact Or.inl (Or.inr h1)
   . rintro((h1|h1)|h1)
     . exact Or.inl h1
     . exact Or.inr (Or.inr h1)
     . exact Or.inr (Or.inl h1)
structure BS(w0 wr:World)(sv fv:Value)(vis st found:List Nat):Prop where
 bel:Below w0.heap.size w0 wr
 vs:VS wr (w0.heap.size+2) w0.heap.size (w0.heap.size+1) sv vis st
 svB:∀b,sv.ownBlock=some b->w0.heap.size<=b
 own:wr.ownsRow w0.heap.size 3 1 fv found.length (bD found)
 f0:fv.ownBlock≠some w0.heap.size
 f1:fv.ownBlock≠some (w0.heap.size+1)
 f2:fv.ownBlock≠some (w0.heap.size+2)
 sf:∀b,fv.ownBlock=some b->sv.ownBlock≠some b
section
variable{w0 wr w':World}{sv fv:Value}{vis st found:List Nat}
theorem VS.lts {gs:Nat}{sv:Value}{vis st:List Nat}(h:VS w gv gs mb sv vis st):gv<w.heap.size/\gs<w.heap.size/\mb<w.heap.size/\∀b,sv.ownBlock=some b->b<w.heap.size:=by
 obtain⟨m,h1,h2,h3,h4,h5,-⟩:=h;exact⟨aC h1,aC h2,h3.lt,iF h5⟩
theorem VS.below {w':World}{gs:Nat}{sv:Value}{vis st:List Nat}(h:VS w gv gs mb sv vis st)(hb:Below w.heap.size w w'):VS w' gv gs mb sv vis st:=by
 obtain⟨m,h1,h2,h3,h4,h5,h6,h7,h8,h9,h10,h11⟩:=h;exact⟨m,hbl h1 hb,hbl h2 hb,h3.below hb h3.lt,h4,h5.kept (aY (row:=none) hb) (oJ sv),h6,h7,h8,h9,h10,h11⟩
theorem oK{w':World}{base:Nat}{e:TypeId}{size:Nat}{xs:List Value}(h:w.ownsRow base e size v n xs)(hb:∀b,v.ownBlock=some b->w'.heap[b]? =w.heap[b]?):w'.ownsRow base e size v n xs:=by
 obtain⟨h1,h2⟩:=h;refine⟨h1,?_⟩;rcases h2 with h2|⟨g,cap,cur,rfl,h3,h4,h5⟩
 . exact Or.inl h2
 . exact Or.inr ⟨g,cap,cur,rfl,h3,(hb g rfl).trans h4,h5⟩
theorem BS.below (h:BS w0 wr sv fv vis st found)(hb:Below wr.heap.size wr w'):BS w0 w' sv fv vis st found:=
 ⟨h.bel.trans (hb.mono h.bel.size),h.vs.below hb,h.svB,h.own.kept (aY (row:=none) hb) (oJ fv),h.f0,h.f1,h.f2,h.sf⟩
theorem BS.visit {e:Ending}(h:BS w0 wr sv fv vis st found)(hp:mI wr (w0.heap.size+2) w0.heap.size (w0.heap.size+1) sv vis st i e w'):
 e=.returned (.tuple #[])/\wr.heap.size<=w'.heap.size/\∃sv',(if i∈vis then BS w0 w' sv' fv vis st found else BS w0 w' sv' fv (i::vis) (st++[i]) found)/\
  ∀b (o:Obj),w0.heap.size+2<b->wr.heap[b]? =some o->sv.ownBlock≠some b->w'.heap[b]? =some o/\sv'.ownBlock≠some b:=by
 obtain⟨rfl,hf,sv',hs,hv⟩:=hp;have hl:=h.vs.lts;have hfb:∀b,fv.ownBlock=some b->b<wr.heap.size:=iF h.own;have hbel:Below w0.heap.size w0 w':=h.bel.trans (hf.below h.bel.size (fun b hb=>by
  rcases hb with rfl|rfl|hb
  . omega
  . omega
  . exact h.svB b hb))
 have hkeep:∀b,b<wr.heap.size->b≠w0.heap.size->b≠w0.heap.size+1->sv.ownBlock≠some b->w'.heap[b]? =wr.heap[b]? :=fun b hb h1 h2 h3=>hf.block b hb (fun hs=>by
  rcases hs with hs|hs|hs
  . exact h1 hs
  . exact h2 hs
  . exact h3 hs)
 have hown:w'.ownsRow w0.heap.size 3 1 fv found.length (bD found):=oK h.own fun b hb=>hkeep b (hfb b hb) (fun e=>h.f0 (by rw[hb,e])) (fun e=>h.f1 (by rw[hb,e])) (h.sf b hb);have hsB:∀b,sv'.ownBlock=some b->w0.heap.size<=b:=fun b hb=>by
  rcases hs with hs|⟨b',hs,hlt⟩
  . exact h.svB b (by rw[<-hs];exact hb)
  . rw[hs]at hb;have:=awP hb;have:=h.bel.size;omega
 have hsf:∀b,fv.ownBlock=some b->sv'.ownBlock≠some b:=fun b hb=>by
  rcases hs with hs|⟨b',hs,hlt⟩
  . rw[hs];exact h.sf b hb
  . rw[hs];intro e;have:=awP e;have:=hfb b hb;omega
 refine⟨rfl,hf.size,sv',?_,fun b o hb ho hne=>⟨(hkeep b (aC ho) (by omega) (by omega) hne).trans ho,fun e=> ?_⟩⟩
 . by_cases hi:i∈vis
   . rw[if_pos hi]at hv|-
     exact⟨hbel,hv,hsB,hown,h.f0,h.f1,h.f2,hsf⟩
   . rw[if_neg hi]at hv|-
     exact⟨hbel,hv,hsB,hown,h.f0,h.f1,h.f2,hsf⟩
 . rcases hs with hs|⟨b',hs,hlt⟩
   . exact hne (by rw[<-hs];exact e)
   . rw[hs]at e;have:=awP e;have:=aC ho;omega
theorem BS.cells (h:BS w0 wr sv fv vis st found):wr.cell? ⟨w0.heap.size,0,none⟩=some sv/\wr.frozen? ⟨w0.heap.size,0,none⟩=false/\wr.cell? ⟨w0.heap.size+2,0,none⟩=some (.map (some (w0.heap.size+1))):=by
 obtain⟨m,h1,h2,-⟩:=h.vs;exact⟨by simp[awT,h2],by simp[aw6,h2],by simp[awT,h1]⟩
theorem kQ(l:List Nat):(bD l).length=l.length:=by simp[bD]
theorem tN(l m:List Nat):bD (l++m)=bD l++bD m:=by simp[bD]
theorem BS.top (h:BS w0 wr sv fv vis (st0++[x]) found):∃b cap,sv=.slice (some ⟨b,0,none⟩) (st0.length+1) cap/\st0.length+1<=cap/\cap<=maxLen/\wr.cell? ⟨b,st0.length,none⟩=some (.int .i64 (x:Int)):=by
 obtain⟨m,h1,h2,h3,h4,h5,-⟩:=h.vs;rcases id h5.2 with ⟨-,h0⟩|⟨b,cap,cur,rfl,-,hb,hn,hc,hsz,hcur⟩
 . simp at h0
 . rw[aw1]at h5 hn
   refine⟨b,cap,by simp,hn,hc,?_⟩;have:=h5.cellAt st0.length (by simp);rw[this,tN,List.getElem?_append_right (by rw[kQ];exact axD _),kQ];simp[bD]
theorem BS.pop {b cap:Nat}(h:BS w0 wr (.slice (some ⟨b,0,none⟩) (st0.length+1) cap) fv vis (st0++[x]) found):
 BS w0 (wr.setCell ⟨w0.heap.size,0,none⟩ (.slice (some ⟨b,0,none⟩) st0.length cap)) (.slice (some ⟨b,0,none⟩) st0.length cap) fv vis st0 found:=by
 obtain⟨m,h1,h2,h3,h4,h5,h6,h7,h8,h9,h10,h11⟩:=h.vs;have hne:∀{k:Nat},k≠w0.heap.size->(wr.setCell ⟨w0.heap.size,0,none⟩ (.slice (some ⟨b,0,none⟩) st0.length cap)).heap[k]? =wr.heap[k]? :=fun hk=>awU _ _ _ _ (by simpa using hk);have hb0:b≠w0.heap.size:=fun e=>h9 (by rw[e];rfl);refine⟨h.bel.setCell (by simp) _,⟨m,(hne (by omega)).trans h1,?_,h3.keep (hne (by omega)),h4,?_,h6,h7,h8,h9,h10,h11⟩,h.svB,oK h.own fun k hk=>hne (fun e=>h.f0 (by rw[hk,e])),h.f0,h.f1,h.f2,h.sf⟩
 . have hg':=aC h2
   have h':wr.heap[w0.heap.size]=.cells #[.slice (some ⟨b,0,none⟩) (st0.length+1) cap] 42 (0,0):=(awV.1 h2).2;simp[aw3,hg',awZ,h']
 . have h5':(wr.setCell ⟨w0.heap.size,0,none⟩ (.slice (some ⟨b,0,none⟩) st0.length cap)).ownsRow 0 3 1 (.slice (some ⟨b,0,none⟩) (st0.length+1) cap) (st0++[x]).length (bD (st0++[x])):=oK h5 fun k hk=>hne (by
    have:b=k:=awP hk;omega)
   obtain⟨e1,e2⟩:=h5';refine⟨by simp[bD],Or.inr ?_⟩;rcases e2 with ⟨e2,-⟩|⟨g,cap',cur,e2,e3,e4,e5,e6,e7,e8⟩
   . injection e2 with e2;cases e2
   . injection e2 with e2 _ e9
     cases e2;subst e9
     refine⟨b,cap,cur,rfl,e3,e4,by simp at e5;omega,e6,e7,?_⟩;have:=congrArg (List.take st0.length) e8;rw[List.take_take,tN,List.take_append_of_le_length (by rw[kQ];exact axD _)]at this;simp at this|-;rw[this,List.take_of_length_le (by rw[kQ];exact axD _)]
theorem BS.app {cap:Nat}(h:BS w0 wr sv fv vis st found)(hb:Below wr.heap.size wr w2)(hO:w3.ownsRow w0.heap.size 3 1 (.slice (some ⟨g,0,none⟩) (found.length+1) cap) (found.length+1) (bD found++[.int .i64 (x:Int)]))
 (hg:w2.grownBy w3 fv.ownBlock) (hat:fv.ownBlock=some g\/g=w2.heap.size):BS w0 w3 sv (.slice (some ⟨g,0,none⟩) (found.length+1) cap) vis st (found++[x]):=by
 have h2:=h.below hb;obtain⟨l1,l2,l3,l4⟩:=h2.vs.lts;obtain⟨m,h1,h2',h3,h4,h5,h6,h7,h8,h9,h10,h11⟩:=h2.vs;have hkeep:∀b,b<w2.heap.size->fv.ownBlock≠some b->w3.heap[b]? =w2.heap[b]? :=fun b hb hn=>hg.block b hb (fun e=>hn e.symm);have hgB:w0.heap.size<=g:=by
  rcases hat with h'|h'
  . exact(h2.own.lt g h').1
  . have:=h2.bel.size;omega
 refine⟨⟨hg.os.trans h2.bel.os,hg.tape.trans h2.bel.tape,hg.output.trans h2.bel.output,axA h2.bel.size hg.size,fun k hk=>(hkeep k (by have:=h2.bel.size;omega) (fun e=>by have:=(h2.own.lt k e).1;omega)).trans (h2.bel.block k hk)⟩,
  ⟨m,(hkeep _ l1 h2.f2).trans h1,(hkeep _ l2 h2.f0).trans h2',h3.keep (hkeep _ l3 h2.f1),h4,oK h5 fun k hk=>hkeep k (l4 k hk) (fun e=>h2.sf k e hk),h6,h7,h8,h9,h10,h11⟩,h2.svB,?_,?_,?_,?_,?_⟩
 . simpa[bD]using hO
 . intro e
   have:g=w0.heap.size:=awP e;rcases hat with h'|h'
   . exact h2.f0 (by rw[h',this])
   . omega
 . intro e
   have:g=w0.heap.size+1:=awP e;rcases hat with h'|h'
   . exact h2.f1 (by rw[h',this])
   . omega
 . intro e
   have:g=w0.heap.size+2:=awP e;rcases hat with h'|h'
   . exact h2.f2 (by rw[h',this])
   . omega
 . intro b hb' hsv
   have:g=b:=awP hb';subst this;rcases hat with h'|h'
   . exact h2.sf g h' hsv
   . have:=l4 g hsv;omega
end
def OkNs(ns:List Nd):Prop:=∀(i:Nat) n,ns[i]? =some n->(n.kind=0\/n.kind=5\/(1<=n.kind/\n.kind<=4))/\∀o∈opsN n,0<=o/\o<i
def IntsP(p:Nat->Prop)(w:World)(v:Value)(l:List Nat):Prop:=
 ∃b c,v=.slice (some ⟨b,0,none⟩) l.length c/\l.length<=c/\c<=maxLen/\p b/\b<w.heap.size/\∀k x,l[k]? =some x->w.cell? ⟨b,k,none⟩=some (.int .i64 ((x:Nat):Int))
theorem IntsP.below {p:Nat->Prop}{w':World}(h:IntsP p w v l)(hb:Below w.heap.size w w'):IntsP p w' v l:=by
 obtain⟨b,c,e,h1,h2,h3,h4,h5⟩:=h;exact⟨b,c,e,h1,h2,h3,awX h4 hb.size,fun k x hx=>cbl (h5 k x hx) hb⟩
structure IsB(ns:List Nd)(root:Nat)(l:List Nat):Prop where
 srt:l.Pairwise (· < ·)
 rt:root∈l
 lt:∀x∈l,x<ns.length
 cl:Cl ns l l
 le:∀x∈l,x<=root
 mn:∀S:Nat->Prop,ClS ns S->S root->∀x∈l,S x
theorem aa2:∀{l m:List Nat},l.Pairwise (· < ·)->m.Pairwise (· < ·)->(∀x,x∈l↔x∈m)->l=m:=by
 intro l
 induction l with
 |nil=>intro m _ _ h;cases m with
  |nil=>rfl
  |cons y m=>have:=(h y).2 (by simp);simp at this
 |cons x l ih=>
  intro m hl hm h
  cases m with
  |nil=>have:=(h x).1 (by simp);simp at this
  |cons y m=>
   obtain⟨l1,l2⟩:=aw7.1 hl;obtain⟨m1,m2⟩:=aw7.1 hm;have hxy:x=y:=by
    rcases awR.1 ((h x).1 (by simp))with e|e
    . exact e
    . rcases awR.1 ((h y).2 (by simp))with e'|e'
      . exact e'.symm
      . have:=m1 x e;have:=l1 y e';omega
   subst hxy
   congr 1
   refine ih l2 m2 fun z=>⟨fun hz=> ?_,fun hz=> ?_⟩
   . rcases awR.1 ((h z).1 (awQ _ hz))with e|e
     . have:=l1 z hz;omega
     . exact e
   . rcases awR.1 ((h z).2 (awQ _ hz))with e|e
     . have:=m1 z hz;omega
     . exact e
theorem IsB.unique {root:Nat}{m:List Nat}(h:IsB ns root l)(k:IsB ns root m):l=m:=by
 have key:∀{l m:List Nat},IsB ns root l->IsB ns root m->∀x∈l,x∈m:=fun{l m} h k x hx=>
  h.mn (· ∈m) (fun z n hz hn o ho=>by
   obtain⟨y,hy,e⟩:=k.cl z hz n hn o ho;have:o.toNat=y:=by omega
   rw[this];exact hy) k.rt x hx
 exact aa2 h.srt k.srt fun x=>⟨key h k x,key k h x⟩
def oL(w:World)(ns:List Nd)(root:Nat)(e:Ending)(w':World):Prop:=
 Below w.heap.size w w'/\∃v l,e=.returned v/\IntsP (fun b=>w.heap.size<=b) w' v l/\IsB ns root l
theorem af8(w:World):∃w3,((w.alloc (.cells #[Value.slice none 0 0] 42)).alloc (.map #[] 0)).alloc (.cells #[Value.map none] 166)=w3/\w3.cell? ⟨w.heap.size+2,0,none⟩=some (.map none)/\w3.frozen? ⟨w.heap.size+2,0,none⟩=false/\
 BS w (w3.setCell ⟨w.heap.size+2,0,none⟩ (.map (some (w.heap.size+1)))) (.slice none 0 0) (.slice none 0 0) [] [] []:=by
 obtain⟨w3,h,hb,hs,b1,b2,b3⟩:=pro3 w (.cells #[Value.slice none 0 0] 42) (.map #[] 0) (.cells #[Value.map none] 166);refine⟨w3,h,by simp[awT,b3],by simp[aw6,b3],?_⟩;have hne:∀{k:Nat},k≠w.heap.size+2->(w3.setCell ⟨w.heap.size+2,0,none⟩ (.map (some (w.heap.size+1)))).heap[k]? =w3.heap[k]? :=fun hk=>awU _ _ _ _ (by simpa using hk);refine⟨hb.setCell (by simp) _,⟨fun _=>none,?_,(hne (by omega)).trans b1,MapP.made (es:=#[]) ((hne (by omega)).trans b2),by simp,aw9 _ _ _ _,by omega,by omega,by omega,by simp[awS],by simp[awS],by simp[awS]⟩,by simp[awS],aw9 _ _ _ _,by simp[awS],by simp[awS],by simp[awS],by simp[awS]⟩;have hg':=aC b3;have h':w3.heap[w.heap.size+2]=.cells #[Value.map none] 166 (0,0):=(awV.1 b3).2;simp[aw3,hg',awZ,h']
theorem af9{b cap:Nat}(h:w.ownsRow B 3 1 (.slice (some ⟨b,0,none⟩) l.length cap) l.length (bD l))(hl:l.length<=20000):
 Calls Tryz.prog 151 #[.slice (some ⟨b,0,none⟩) l.length cap] w (fun e w'=>e=.returned (.tuple #[])/\w.grownBy w' (some b)/\∃l',l'.Perm l/\l'.Pairwise (· <= ·)/\w'.ownsRow B 3 1 (.slice (some ⟨b,0,none⟩) l.length cap) l.length (bD l')):=by
 obtain⟨h1,h2⟩:=h;rcases h2 with ⟨h2,-⟩|⟨g,cap',cur,e2,hB,hb,hn,hc,hsz,hcur⟩
 . cases h2
 injection e2 with e2 _ e3
 cases e2;subst e3
 have hlen:(l.map (fun(x:Nat)=>(x:Int))).length=l.length:=by simp
 have hcells:bD l=(l.map (fun(x:Nat)=>(x:Int))).map (Value.int .i64):=by simp[bD]
 have hH:=Go.holds_of_blockI (ss:=l.map (fun(x:Nat)=>(x:Int))) hb (by rw[hlen,<-hcells,<-hcur,Nat.mul_one]);have hcall:=Tryz.slices_Sort_int b 0 cap (l.map (fun(x:Nat)=>(x:Int))) w hH (aC hb) (by rw[hlen];omega);rw[hlen]at hcall;refine hcall.mono ?_;rintro e w'⟨rfl,n,os,rfl⟩;refine⟨rfl,Go.grownBy_sortedI _,?_⟩;obtain⟨ts,hts⟩:∃ts,ts=(l.map (fun(x:Nat)=>(x:Int))).mergeSort (fun x y=>decide (x<=y)):=⟨_,rfl⟩;have hperm:ts.Perm (l.map (fun(x:Nat)=>(x:Int))):=by rw[hts];exact List.mergeSort_perm _ _
 have hsort:ts.Pairwise (fun a b=>decide (a<=b)=true):=by
  rw[hts];exact List.pairwise_mergeSort (fun a b c h1 h2=>by simp at*;omega) (fun a b=>by simp;omega) _
 rw[<-hts];have hnn:∀x∈ts,0<=x:=fun x hx=>by
  obtain⟨y,-,rfl⟩:=List.mem_map.1 (hperm.mem_iff.1 hx);omega
 have hmap:(ts.map Int.toNat).map (fun(x:Nat)=>(x:Int))=ts:=by
  rw[axF];refine(aw5 fun x hx=> ?_).trans (axH _);have:=hnn x hx;simp;omega
 refine⟨ts.map Int.toNat,?_,?_,?_⟩
 . have h3:=hperm.map Int.toNat
   rw[axF]at h3;refine h3.trans (List.Perm.of_eq ?_);exact(aw5 fun x _=>by simp).trans (axH _)
 . rw[List.pairwise_map]
   refine hsort.imp fun{a b} h=> ?_;simp at h;omega
 . have h3:=Go.ownsRow_sortedI (n:=n) (os:=os) (ss:=l.map (fun(x:Nat)=>(x:Int))) (ts:=ts) hperm.length_eq hB hb (by rw[hlen];exact hn) hc hsz
   rw[hlen]at h3;have h4:bD (ts.map Int.toNat)=ts.map (Value.int .i64):=by
    conv=>rhs;rw[<-hmap]
    simp[bD]
   rw[h4];exact h3
def lenOf:Value->Nat| .slice _ n _=>n|_=>0
theorem adM(h:w.ownsRow B 3 1 v l.length (bD l)):lenOf v=l.length:=by
 rcases h.2 with ⟨rfl,h0⟩|⟨g,cap,cur,rfl,-⟩
 . rw[h0];rfl
 . rfl
theorem ajW{n:Nd}(h:(opsN n)[j]? =some o):(j=0/\o=(ops2 n).1)\/(j=1/\o=(ops2 n).2):=by
 unfold opsN at h;unfold ops2
 split at h
 . simp at h
 . rename_i h0
   rw[if_neg h0]
   split at h
   . rename_i h5
     rw[if_pos h5]
     cases j with
     |zero=>simp at h;exact Or.inl ⟨rfl,h.symm⟩
     |succ j=>simp at h
   . rename_i h5
     rw[if_neg h5]
     match j,h with
     |0,h=>simp at h;exact Or.inl ⟨rfl,h.symm⟩
     |1,h=>simp at h;exact Or.inr ⟨rfl,h.symm⟩
     |j+2,h=>simp at h
theorem rA(n:Nd):(opsN n).length<=2:=by unfold opsN;split<;>(try split)<;>simp
theorem y8{b:Nat}{n:Nd}(h:w.heap[b]? =some (.cells #[.int .i64 (ops2 n).1,.int .i64 (ops2 n).2] T (0,0)))(ho:(opsN n)[j]? =some o):w.cell? ⟨b,j,none⟩=some (.int .i64 o):=by
 obtain⟨c0,c1,-,-⟩:=aB h;rcases ajW ho with ⟨rfl,rfl⟩|⟨rfl,rfl⟩
 . exact c0
 . exact c1
theorem aa3(st:List Nat):st=[]\/∃st0 x,st=st0++[x]:=by
 rcases List.eq_nil_or_concat st with h|⟨a,b,h⟩
 . exact Or.inl h
 . exact Or.inr ⟨a,b,by rw[h,List.concat_eq_append]⟩
theorem eO{n:Nd}(hd:DagP w g ns)(hi:ns[i]? =some n):
 Calls Tryz.prog 61 #[.pointer (some ⟨g,0,none⟩),.int .i64 i] w (fun e w'=>e=.returned (.tuple #[.agg #[.int .i64 n.kind,.float .f64 n.val,.int .i64 n.a,.int .i64 n.b],.bool true])/\Below w.heap.size w w'):=y7 hd hi
theorem new4(w:World)(T:TypeId)(z0 z1 z2 z3 a b c d:Value):∃w1,w.alloc (.cells #[z0,z1,z2,z3] T)=w1/\w1.cell? ⟨w.heap.size,0,none⟩=some z0/\w1.cell? ⟨w.heap.size,1,none⟩=some z1/\w1.cell? ⟨w.heap.size,2,none⟩=some z2/\w1.cell? ⟨w.heap.size,3,none⟩=some z3/\
 w1.frozen? ⟨w.heap.size,0,none⟩=false/\w1.frozen? ⟨w.heap.size,1,none⟩=false/\w1.frozen? ⟨w.heap.size,2,none⟩=false/\w1.frozen? ⟨w.heap.size,3,none⟩=false/\
 ∃w2,(((w1.setCell ⟨w.heap.size,0,none⟩ a).setCell ⟨w.heap.size,1,none⟩ b).setCell ⟨w.heap.size,2,none⟩ c).setCell ⟨w.heap.size,3,none⟩ d=w2/\Below w.heap.size w w2/\w2.heap[w.heap.size]? =some (.cells #[a,b,c,d] T (0,0)):=by
 obtain⟨w1,h,hb,hs,b1⟩:=pro1 w (.cells #[z0,z1,z2,z3] T);obtain⟨c0,c1,c2,c3⟩:=bM b1;obtain⟨f0,f1,f2,f3⟩:=af7 b1;have g1:=hb.setCell (p:=⟨w.heap.size,0,none⟩) nlr a;have g2:=g1.setCell (p:=⟨w.heap.size,1,none⟩) nlr b;have g3:=g2.setCell (p:=⟨w.heap.size,2,none⟩) nlr c;have g4:=g3.setCell (p:=⟨w.heap.size,3,none⟩) nlr d;exact⟨w1,h,c0,c1,c2,c3,f0,f1,f2,f3,_,rfl,g4,set4 b1 a b c d⟩
theorem new2(w:World)(T:TypeId)(z0 z1 a b:Value):∃w1,w.alloc (.cells #[z0,z1] T)=w1/\w1.cell? ⟨w.heap.size,0,none⟩=some z0/\w1.cell? ⟨w.heap.size,1,none⟩=some z1/\
 w1.frozen? ⟨w.heap.size,0,none⟩=false/\w1.frozen? ⟨w.heap.size,1,none⟩=false/\
 ∃w2,(w1.setCell ⟨w.heap.size,0,none⟩ a).setCell ⟨w.heap.size,1,none⟩ b=w2/\Below w.heap.size w w2/\w2.heap[w.heap.size]? =some (.cells #[a,b] T (0,0)):=by
 obtain⟨w1,h,hb,hs,b1⟩:=pro1 w (.cells #[z0,z1] T);obtain⟨c0,c1,f0,f1⟩:=aB b1;have g1:=hb.setCell (p:=⟨w.heap.size,0,none⟩) nlr a;have g2:=g1.setCell (p:=⟨w.heap.size,1,none⟩) nlr b;exact⟨w1,h,c0,c1,f0,f1,_,rfl,g2,set2 b1 a b⟩
theorem adN{wr w9:World}{root gf capf:Nat}{sv:Value}{vis found l':List Nat}(hB:BS w wr sv (.slice (some ⟨gf,0,none⟩) found.length capf) vis [] found)(hP:PI ns root vis [] found)(hC:Cl ns vis found)
 (hgr:wr.grownBy w9 (some gf)) (hperm:l'.Perm found) (hs:l'.Pairwise (· <= ·)) (hown:w9.ownsRow w.heap.size 3 1 (.slice (some ⟨gf,0,none⟩) found.length capf) found.length (bD l')):
 oL w ns root (.returned (.slice (some ⟨gf,0,none⟩) found.length capf)) w9:=by
 have hnd:l'.Nodup:=by
  have:=hP.nd;rw[List.append_nil]at this;exact hperm.nodup_iff.2 this
 have hmem:∀x,x∈l'↔x∈vis:=fun x=>by rw[hperm.mem_iff,hP.mem x];simp
 have hgB:w.heap.size<=gf:=(hB.own.lt gf rfl).1;refine⟨hB.bel.trans ⟨hgr.os,hgr.tape,hgr.output,hgr.size,fun k hk=>hgr.block k (awX hk hB.bel.size) (fun e=>by have:=awP e;omega)⟩,_,l',rfl,?_,?_,(hmem root).2 hP.rt,fun x hx=>hP.lt x ((hmem x).1 hx),?_,fun x hx=>hP.le x ((hmem x).1 hx),fun S hc hr x hx=>hP.mn S hc hr x ((hmem x).1 hx)⟩
 . rcases hown.2 with ⟨h,-⟩|⟨g,cap,cur,e2,h1,h2,h3,h4,h5,h6⟩
   . cases h
   injection e2 with e2 _ e3
   cases e2;subst e3
   refine⟨gf,capf,by rw[hperm.length_eq],by rw[hperm.length_eq];exact h3,h4,hgB,aC h2,fun k x hx=> ?_⟩;have hk:=(aw2.1 hx).1;rw[hperm.length_eq]at hk;rw[hown.cellAt k (by omega)];simp[bD,hx]
 . have:=List.Pairwise.and hs hnd
   exact this.imp fun{a b} h=>by have:=h.1;have:=h.2;omega
 . intro x hx n hn o ho
   obtain⟨y,hy,e⟩:=hC x (hperm.mem_iff.1 hx) n hn o ho;exact⟨y,(hmem y).2 hy,e⟩
theorem iT{root b0:Nat}(hd:DagP w g ns)(ok:OkNs ns)(hr:root<ns.length)(hb0:w.heap[b0]? =some (.cells #[.int .i64 (root:Int)] 3 (0,0))):
 Calls Tryz.prog 102 #[.pointer (some ⟨g,0,none⟩),.slice (some ⟨b0,0,none⟩) 1 1] w (oL w ns root):=by
 obtain⟨w3,hw3,k0,k1,hbs⟩:=af8 w;have HBS:=hdd hbs;have HD:=hdd hd;have HOK:=hdd ok;have HRL:=hdd hr;have HB0:=hdd hb0;have HLN:=hdd hd.len;obtain⟨nr,hnr⟩:∃n,ns[root]? =some n:=⟨_,awW hr⟩;have HNR:=hdd hnr;clear hbs hd ok hr hb0 hnr;have hmm:=@run_makeMap Tryz.prog;go_enter Tryz.func102,Tryz.ntmps102
 go_wp2_with fail
 go_loopw [24] (fun i wr=>∃k:Int,(0<=k/\k<=1)/\i=.int .i64 k/\Hid (∃sv,BS w wr sv (.slice none 0 0) (if k=0 then[]else[root]) (if k=0 then[]else[root]) [])) (fun i _=>(1-intOf i).toNat)
 case atStart=>exact⟨0,by omega,rfl,hdd ⟨_,HBS.out⟩⟩
 case round=>
  obtain⟨kk,hkk,rfl,HR2⟩:=hrel;rcases(show kk=0\/kk=1 by omega)with rfl|rfl
  . obtain⟨sv,hB⟩:=HR2.out
    simp only[if_true]at hB;have cb0:wr.cell? ⟨b0,0,none⟩=some (.int .i64 (root:Int)):=by
     have:=hbl HB0.out hB.bel;simp[awT,this]
    have HN:=hdd (eO (HD.out.below hB.bel) HNR.out);have HB:=hdd hB;have hst:=aT;clear hB;go_wp2_with fail
    refine HN.out.mono ?_;rintro e w5⟨rfl,hb5⟩;obtain⟨w6,hw6,z0,z1,z2,z3,y0,y1,y2,y3,w7,hw7,hb7,hs7⟩:=new4 w5 87 (.int .i64 0) (.float .f64 0) (.int .i64 0) (.int .i64 0) (.int .i64 nr.kind) (.float .f64 nr.val) (.int .i64 nr.a) (.int .i64 nr.b);have hB7:=HB.out.below (aA hb5 hb7);have HB7:=hdd hB7;have HVI:=hdd (vI (i:=root) hB7.vs (by have:=HRL.out;have:=HLN.out;omega) (by simp));clear hB7 hb7 hs7 hb5 cb0;go_wp2_with fail
    refine HVI.out.mono ?_;rintro e w8 hp;obtain⟨rfl,hsz8,sv8,hB8,-⟩:=HB7.out.visit hp;simp only[axC,if_false,List.nil_append]at hB8;have HB8:=hdd hB8;clear hp hB8 z0 z1 z2 z3 y0 y1 y2 y3 hw6 hw7;go_wp2
    go_roundw
    case rel=>exact⟨1,by omega,by go_num,hdd ⟨sv8,by simp;exact HB8.out⟩⟩
    case measure=>simp[intOf]
  . obtain⟨sv,hB⟩:=HR2.out
    simp only[show¬((1:Int)=0) from by decide,if_false]at hB;have HB:=hdd hB;clear hB HR2;go_wp2_with fail
    go_loopw [5] (fun fv wr=>∃sv vis st found,Hid (BS w wr sv fv vis st found)/\Hid (PI ns root vis st found)/\Hid (Cl ns vis found)) (fun fv _=>ns.length-lenOf fv)
    case atStart=>exact⟨sv,[root],[root],[],HB,hdd ⟨by simp,by simp,by have:=HRL.out;simpa using this,by simp,by simp,fun S _ hr x hx=>by simp at hx;rw[hx];exact hr⟩,hdd (by intro x hx;simp at hx)⟩
    case round=>
     clear HB;obtain⟨sv,vis,st,found,HB,HPI,HCL⟩:=hrel;rcases aa3 st with rfl|⟨st0,x,rfl⟩
     . have hne:0<found.length:=by
        have:=(HPI.out.mem root).1 HPI.out.rt;rcases this with h|h
        . exact List.length_pos_of_mem h
        . simp at h
       obtain⟨gf,capf,hfv,hgB,hgl⟩:=HB.out.own.form hne;have HFV:=hdd hfv;obtain⟨cs,fs,-⟩:=HB.out.cells;have hsv:∃A c,sv=.slice A 0 c:=by
        obtain⟨m,-,-,-,-,h5,-⟩:=HB.out.vs;rcases h5.2 with ⟨h,-⟩|⟨gg,cc,-,h,-⟩
        . exact⟨none,0,h⟩
        . exact⟨_,cc,h⟩
       obtain⟨As,csv,rfl⟩:=hsv;subst hfv;have HSO:=hdd (af9 HB.out.own (by have:=HPI.out.len;have:=HLN.out;omega));clear hgB hgl hne;go_wp2_with fail
       refine HSO.out.mono ?_;rintro e w9⟨rfl,hgr,l',hperm,hsorted,hown⟩;have HRES:Hid (oL w ns root (.returned (.slice (some ⟨gf,0,none⟩) found.length capf)) w9):=hdd (adN HB.out HPI.out HCL.out hgr hperm hsorted hown);clear hgr hperm hsorted hown cs fs;go_wp2;go_ret;exact HRES.out
     . have HLF:=hdd (adM HB.out.own)
       obtain⟨b,cap,rfl,hc1,hc2,hcell⟩:=HB.out.top;obtain⟨cs,fs,-⟩:=HB.out.cells;obtain⟨w4,hw4⟩:∃w4,wr.setCell ⟨w.heap.size,0,none⟩ (.slice (some ⟨b,0,none⟩) st0.length cap)=w4:=⟨_,rfl⟩;have HB4:Hid (BS w w4 (.slice (some ⟨b,0,none⟩) st0.length cap) _ vis st0 found):=hdd (hw4▸HB.out.pop);obtain⟨w5,hw5,hb5,hs5,q5⟩:=pro1 w4 (.cells #[.int .i64 (x:Int)] 3);have HB45:=hdd hb5;have HQ5:=hdd q5;have HST:=hdd (show found.length<=1000000 by have:=HPI.out.len;have:=HLN.out;omega);have hpos:(0:Int)<((st0.length+1:Nat):Int):=by omega
       have hidx:((st0.length+1:Nat):Int)-1=(st0.length:Int):=by omega
       have hle:(st0.length:Int)<=(cap:Int):=by omega
       have hsl:(st0.length:Int)<=20000:=by have:=HPI.out.len;have:=HLN.out;rw[aw1]at*;simp at*;omega
       have HPO:=hdd HPI.out.pop;have hxl:x<ns.length:=HPO.out.lt x ((HPO.out.mem x).2 (Or.inl (by simp)));obtain⟨nx,hnx⟩:∃n,ns[x]? =some n:=⟨_,awW hxl⟩;have HNX:=hdd hnx;have HXL:=hdd hxl;have HPX:Hid (∀S:Nat->Prop,ClS ns S->S root->S x):=hdd (fun S hc hr=>HPO.out.mn S hc hr x ((HPO.out.mem x).2 (Or.inl (by simp))));have HXR:=hdd (HPO.out.le x ((HPO.out.mem x).2 (Or.inl (by simp))));have HC2:=hdd hc2;clear hb5 q5 hnx hxl;obtain⟨i0,hi0,hz0,hz1,hz2⟩:=info_parts tL;go_wp2_with (first
        |(at_builtin
          refine wpList_append_lies _ rfl _ _ 42 rfl w.heap.size 3 i0 (.int .i64 0) 1 8 lF hi0 hz0 hz1 hz2 rfl (by decide) _ found.length (bD found) rfl (HB4.out.own.kept (aY HB45.out) (oJ _)) ⟨w4.heap.size,0,none⟩ 1 1 [.int .i64 (x:Int)] rfl rfl (iN HQ5.out) (by simp[axE]) (by decide) (ab1 HST.out) (vH HST.out) (axA HB4.out.bel.size HB45.out.size) w5.heap.size rfl ?_;intro g6 cap6 w6 hown6 hgrow6 hat6 hlt6;have HB6:=hdd (HB4.out.app HB45.out hown6 hgrow6 hat6);clear hown6 hgrow6 hat6 hlt6))
       clear hw4 hw5 hs5 cs fs hcell hpos hidx hle hsl hz0 hz1 hz2 hi0 HB45 HQ5 HB4 HB;have HN:=hdd (eO (HD.out.below HB6.out.bel) HNX.out);have hst:=aT;refine HN.out.mono ?_;rintro e w7⟨rfl,hb7⟩;obtain⟨w8,hw8,z0,z1,z2,z3,y0,y1,y2,y3,w9,hw9,hb9,hs9⟩:=new4 w7 87 (.int .i64 0) (.float .f64 0) (.int .i64 0) (.int .i64 0) (.int .i64 nx.kind) (.float .f64 nx.val) (.int .i64 nx.a) (.int .i64 nx.b);obtain⟨x0,x1,x2,x3⟩:=bM hs9;have HB9:=hdd (HB6.out.below (aA hb7 hb9));have HPA:Hid (Calls Tryz.prog 150 #[.agg #[.int .i64 nx.kind,.float .f64 nx.val,.int .i64 nx.a,.int .i64 nx.b]] w9 (fun e w'=>e=.returned (.tuple #[.agg #[.int .i64 (ops2 nx).1,.int .i64 (ops2 nx).2],.int .i64 ((opsN nx).length:Nat)])/\Below w9.heap.size w9 w')):=hdd (vG (n:=nx));clear hb7 hb9 hs9;go_wp2_with fail
       refine HPA.out.mono ?_;rintro e w10⟨rfl,hb10⟩;obtain⟨w11,hw11,p0,p1,r0,r1,w12,hw12,hb12,hs12⟩:=new2 w10 221 (.int .i64 0) (.int .i64 0) (.int .i64 (ops2 nx).1) (.int .i64 (ops2 nx).2);have HB12:=hdd (HB9.out.below (aA hb10 hb12));have HS12:=hdd hs12;have hcnt:(0:Int)<=((opsN nx).length:Int):=by omega
       have hcnt2:((opsN nx).length:Int)<=2:=by have:=rA nx;omega
       have HW10:Hid (w.heap.size+2<w10.heap.size):=hdd (by have:=HB9.out.vs.lts.1;have:=hb10.size;omega);have HSB:Hid ((Value.slice (some ⟨b,0,none⟩) st0.length cap).ownBlock≠some w10.heap.size):=hdd (fun e=>by have:=HB9.out.vs.lts.2.2.2 _ e;have:=hb10.size;omega);clear hb10 hb12 hs12 z0 z1 z2 z3 y0 y1 y2 y3 hw8 hw9 x0 x1 x2 x3;go_wp2_with fail
       go_loopw [71] (fun j wr=>∃jn:Nat,jn<=(opsN nx).length/\j=.int .i64 (jn:Int)/\∃sv vis st,Hid (BS w wr sv (.slice (some ⟨g6,0,none⟩) (found.length+1) cap6) vis st (found++[x]))/\Hid (PI ns root vis st (found++[x]))/\Hid (Cl ns vis found)/\Hid (∀k o,k<jn->(opsN nx)[k]? =some o->∃y∈vis,(y:Int)=o)/\Hid (wr.heap[w10.heap.size]? =some (.cells #[.int .i64 (ops2 nx).1,.int .i64 (ops2 nx).2] 221 (0,0))/\sv.ownBlock≠some w10.heap.size)) (fun j _=>((opsN nx).length-intOf j).toNat)
       case atStart=>exact⟨0,axG _,rfl,_,vis,st0,HB12,HPO,HCL,hdd (fun k o hk=>absurd hk (by omega)),hdd ⟨HS12.out,HSB.out⟩⟩
       case round=>
        clear HPO HCL HB12 HS12 HSB HB9 HB6 HPA HN;obtain⟨jn,hjn,rfl,sv3,vis3,st3,HB3,HP3,HC3,HO3,HK3⟩:=hrel;rcases axB jn (opsN nx).length with hlt|hge
        . obtain⟨o,ho⟩:∃o,(opsN nx)[jn]? =some o:=⟨_,awW hlt⟩
          have hop:=(HOK.out x nx HNX.out).2 o (aw4 ho);obtain⟨y,hy⟩:∃y:Nat,(y:Int)=o:=⟨o.toNat,by omega⟩;have hyl:y<ns.length:=by have:=HXL.out;omega
          have co:=y8 HK3.out.1 ho;rw[<-hy]at co;have HVI:=hdd (vI (i:=y) HB3.out.vs (by have:=HLN.out;omega) (by have:=HP3.out.len;have:=HLN.out;omega));have hltI:(jn:Int)<((opsN nx).length:Int):=by omega
          have HY:=hdd hy;have HYL:=hdd hyl;have HYR:Hid (y<=root):=hdd (by have:=HXR.out;omega);have HOO:=hdd ho;have HLT:=hdd hlt;have hj0:(0:Int)<=(jn:Int):=by omega
          clear hy hyl hop ho hlt;go_wp2_with fail
          refine HVI.out.mono ?_;rintro e w13 hp;obtain⟨rfl,hsz13,sv4,hB13,hfar⟩:=HB3.out.visit hp;obtain⟨k1,k2⟩:=hfar _ _ HW10.out HK3.out.1 HK3.out.2;have HK4:=hdd (And.intro k1 k2);have HREL:Hid (∃sv vis st,BS w w13 sv (.slice (some ⟨g6,0,none⟩) (found.length+1) cap6) vis st (found++[x])/\PI ns root vis st (found++[x])/\Cl ns vis found/\(∀k o,k<jn+1->(opsN nx)[k]? =some o->∃y∈vis,(y:Int)=o)/\(w13.heap[w10.heap.size]? =some (.cells #[.int .i64 (ops2 nx).1,.int .i64 (ops2 nx).2] 221 (0,0))/\sv.ownBlock≠some w10.heap.size)):=hdd (by
           by_cases hv:y∈vis3
           . rw[if_pos hv]at hB13
             refine⟨sv4,vis3,st3,hB13,HP3.out,HC3.out,fun k o' hk ho'=> ?_,HK4.out⟩;rcases axB k jn with h|h
             . exact HO3.out k o' h ho'
             . have:k=jn:=by omega
               subst this;rw[HOO.out]at ho';exact⟨y,hv,by rw[HY.out];exact awP ho'⟩
           . rw[if_neg hv]at hB13
             refine⟨sv4,y::vis3,st3++[y],hB13,HP3.out.push HYL.out HYR.out (fun S hc hr=>by have h9:=hc x nx (HPX.out S hc hr) HNX.out o (aw4 HOO.out);rwa[show o.toNat=y from by have:=HY.out;omega]at h9) hv,HC3.out.mono (fun z hz=>awQ _ hz),fun k o' hk ho'=> ?_,HK4.out⟩;rcases axB k jn with h|h
             . obtain⟨z,hz,e⟩:=HO3.out k o' h ho'
               exact⟨z,awQ _ hz,e⟩
             . have:k=jn:=by omega
               subst this;rw[HOO.out]at ho';exact⟨y,List.mem_cons_self,by rw[HY.out];exact awP ho'⟩)
          clear hp hB13 hfar k1 k2 co;go_wp2
          go_roundw
          case rel=>
           obtain⟨sv5,vis5,st5,r1,r2,r3,r4,r5⟩:=HREL.out;exact⟨jn+1,by have:=HLT.out;omega,by go_num,sv5,vis5,st5,hdd r1,hdd r2,hdd r3,hdd r4,hdd r5⟩
          case measure=>have:=HLT.out;simp[intOf];omega
        . have hje:jn=(opsN nx).length:=by omega
          subst hje;have HCL4:Hid (Cl ns vis3 (found++[x])):=hdd (by
           intro z hz n hn o ho;rcases awY.1 hz with hz|hz
           . exact HC3.out z hz n hn o ho
           . simp only[aw0]at hz
             subst hz;rw[HNX.out]at hn
             cases hn
             obtain⟨k,hk⟩:=List.getElem?_of_mem ho;exact HO3.out k o (aw2.1 hk).1 hk)
          have hmeas:ns.length-lenOf (.slice (some ⟨g6,0,none⟩) (found.length+1) cap6)<ns.length-found.length:=by
           have:=HP3.out.len;simp only[lenOf,aw1,List.length_cons,List.length_nil]at*;omega
          have HME:=hdd hmeas;clear hmeas hge hjn;go_wp2
          go_roundw
          case rel=>exact⟨sv3,vis3,st3,found++[x],HB3,HP3,HCL4⟩
          case measure=>rw[HLF.out];exact HME.out
end Go.Proofs.YtkadpnljocflaaaGreatDoor
