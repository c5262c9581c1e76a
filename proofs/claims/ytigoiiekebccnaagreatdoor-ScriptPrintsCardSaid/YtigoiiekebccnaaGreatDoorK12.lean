/- A part of the proof: contracts of functions and plain laws (Map, DagA, DagB, ScA, ScP). -/
import Derived.Test.YtigoiiekebccnaaGreatDoorK01
import Derived.Maps.OwnSet
import Derived.Test.YtigoiiekebccnaaGreatDoorK11
import Derived.Test.YtigoiiekebccnaaGreatDoorK08
import Derived.Laws.Strings
import Derived.Lib.ItoaNum
import Derived.Lib.FieldsP
import Derived.Lib.Split
import Derived.Lib.SplitLaws
import Derived.Lib.IndexBytes
import Derived.Lib.TrimByte
import Derived.Lib.Join
import Derived.Laws.RangeString
set_option linter.unusedVariables false
set_option linter.unusedSimpArgs false
set_option linter.unnecessarySimpa false
set_option maxHeartbeats 25600000
set_option maxRecDepth 100000
namespace Go.Proofs.YtigoiiekebccnaaGreatDoor
section
open Go.RowKit Go.Maps Go.ChangeMaps
open _root_.Array renaming toList_push->ayK
open Go.MapKept renaming run_getObj_map->ayE,run_setObj_map->ayI
open Go.Result renaming andThen->ayF
open List renaming mem_iff_getElem?->ayG,getElem?_eq_some_iff->ayH,mem_singleton->ayJ,mem_eraseIdx_iff_getElem?->ayL,mem_of_getElem?->ayM,getElem?_set->ayN,mem_append->ayO,eraseIdx_sublist->ayP
variable{m':Value->Option Value}
def MapP(P:Program)(k:TypeId)(w:World)(b:Nat)(m:Value->Option Value):Prop:=
 ∃es clock,w.heap[b]? =some (.map es clock)/\(∀e∈es.toList,∃l,keyOf P k e.key=some l)/\(es.toList.map (·.key)).Nodup/\(∀e∈es.toList,m e.key=some e.val)/\∀key,(∀e∈es.toList,e.key≠key)->m key=none
def Upd(m:Value->Option Value)(key:Value)(o:Option Value)(m':Value->Option Value):Prop:=m' key=o/\∀x,x≠key->m' x=m x
theorem kF(m:Value->Option Value)(key:Value)(o:Option Value):∃m',Upd m key o m':=by
 classical
 exact⟨fun x=>if x=key then o else m x,by simp,fun x hx=>by simp[hx]⟩
section
variable{P:Program}{k e t:TypeId}{w w':World}{b:Nat}{m:Value->Option Value}
theorem MapP.lt (h:MapP P k w b m):b<w.heap.size:=by obtain⟨es,clock,hb,-⟩:=h;exact(Array.getElem?_eq_some_iff.1 hb).1
theorem MapP.keep (h:MapP P k w b m)(hb:w'.heap[b]? =w.heap[b]?):MapP P k w' b m:=by
 obtain⟨es,clock,h1,h2⟩:=h;exact⟨es,clock,hb.trans h1,h2⟩
theorem MapP.below {B:Nat}(h:MapP P k w b m)(hb:Below B w w')(hB:b<B):MapP P k w' b m:=h.keep (hb.block b hB)
theorem MapP.made {es:Array MapEntry}(h:w.heap[b]? =some (.map #[] 0)):MapP P k w b (fun _=>none):=
 ⟨#[],0,h,by simp,by simp,by simp,by simp⟩
theorem MapP.look (h:MapP P k w b m)(K:Keyed P k)(ht:P.underlying t=some (.map k e)){z:Value}(hz:(zeroValue e).run P w=.ok z w){key:Value}{kl:Lit}(hkey:keyOf P k key=some kl)(c:Bool):
 (Instr.lookup t (.map (some b)) key c).run P w=.ok (if c then .tuple #[(m key).getD z,.bool (m key).isSome]else(m key).getD z) w:=by
 obtain⟨es,clock,hb,hk,hn,hm,h0⟩:=h;rcases K.find w hkey es.toList hk with ⟨h1,h2⟩|⟨j,e0,h1,h2,h3⟩
 . rw[h0 key h2]
   simp[Instr.lookup,run_underlying ht,ayE hb,K.check w _ hkey,h1,hz,ayF]
 . have:=hm e0 (ayM h2)
   rw[h3]at this;rw[this];simp[Instr.lookup,run_underlying ht,ayE hb,K.check w _ hkey,h1,ayF]
theorem abA{es:List MapEntry}(hn:(es.map (·.key)).Nodup){j i:Nat}{a c:MapEntry}(hj:es[j]? =some a)(hi:es[i]? =some c)(h:a.key=c.key):j=i:=by
 obtain⟨j1,j2⟩:=ayH.1 hj;obtain⟨i1,i2⟩:=ayH.1 hi;have hp:=List.pairwise_iff_getElem.1 hn;rcases Nat.lt_trichotomy j i with hji|hji|hji
 . exact(hp j i (by simpa using j1) (by simpa using i1) hji (by simp[j2,i2,h])).elim
 . exact hji
 . exact(hp i j (by simpa using i1) (by simpa using j1) hji (by simp[j2,i2,h])).elim
theorem MapP.store (h:MapP P k w b m)(K:Keyed P k)(ht:P.underlying t=some (.map k e)){key val:Value}{kl:Lit}(hkey:keyOf P k key=some kl)(hu:Upd m key (some val) m'):
 ∃w',(Instr.mapUpdate t (.map (some b)) key val).run P w=.ok () w'/\MapP P k w' b m'/\w.grownBy w' (some b)/\w'.heap.size=w.heap.size:=by
 obtain⟨es,clock,hb,hk,hn,hm,h0⟩:=h;obtain⟨u1,u2⟩:=hu;have grown:∀o,w.grownBy (setBlock w b o) (some b):=fun o=>⟨rfl,rfl,rfl,by simp[setBlock],fun i _ hi=>heap_setBlock_other hb _ (fun e=>hi (by rw[e]))⟩;rcases K.find w hkey es.toList hk with ⟨h1,h2⟩|⟨j,e0,h1,h2,h3⟩
 . refine⟨setBlock w b (.map (es.push ⟨key,val,clock⟩) (clock+1)),?_,⟨_,_,heap_setBlock_same hb _,?_,?_,?_,?_⟩,grown _,by simp[setBlock]⟩
   . simp[Instr.mapUpdate,run_underlying ht,ayE hb,K.check w false hkey,h1,ayI _ hb,ayF,setBlock]
   . intro x hx
     simp only[ayK,ayO,ayJ]at hx;rcases hx with hx|rfl
     . exact hk x hx
     . exact⟨kl,hkey⟩
   . simp only[ayK,List.map_append,List.map_cons,List.map_nil]
     refine List.nodup_append.2 ⟨hn,by simp,?_⟩;intro a ha c hc;obtain⟨x,hx,rfl⟩:=List.mem_map.1 ha;simp only[ayJ]at hc;subst hc;exact h2 x hx
   . intro x hx
     simp only[ayK,ayO,ayJ]at hx;rcases hx with hx|rfl
     . rw[u2 _ (h2 x hx)];exact hm x hx
     . exact u1
   . intro x hx
     simp only[ayK,ayO,ayJ]at hx;have hxk:x≠key:=fun hh=>hx ⟨key,val,clock⟩ (Or.inr rfl) hh.symm;rw[u2 _ hxk];exact h0 x fun y hy=>hx y (Or.inl hy)
 . have hj:es[j]? =some e0:=by simpa using h2
   have hlist:(es.modify j (fun e'=>{e' with key:=key,val:=val})).toList=es.toList.set j {e0 with key:=key,val:=val}:=by rw[Array.toList_modify,modify_eq_set _ _ _ _ h2]
   refine⟨setBlock w b (.map (es.modify j (fun e'=>{e' with key:=key,val:=val})) clock),?_,⟨_,_,heap_setBlock_same hb _,?_,?_,?_,?_⟩,grown _,by simp[setBlock]⟩
   . simp[Instr.mapUpdate,run_underlying ht,ayE hb,K.check w false hkey,h1,hj,h3,K.stays w hkey,ayI _ hb,ayF,setBlock]
   . intro x hx
     rw[hlist]at hx;rcases List.mem_or_eq_of_mem_set hx with hx|rfl
     . exact hk x hx
     . exact⟨kl,hkey⟩
   . rw[hlist,List.map_set]
     have:(es.toList.map (·.key)).set j key=es.toList.map (·.key):=by
      apply List.ext_getElem?;intro i;rw[ayN]
      split
      . rename_i hij
        subst hij
        split
        . rw[List.getElem?_map,h2,<-h3];rfl
        . rename_i hlt;rw[List.getElem?_eq_none (by omega)]
      . rfl
     rw[this];exact hn
   . intro x hx
     rw[hlist]at hx;obtain⟨i,hi⟩:=ayG.1 hx;rw[ayN]at hi
     split at hi
     . split at hi
       . cases hi;exact u1
       . cases hi
     . rename_i hij
       rw[u2]
       . exact hm x (ayM hi)
       . intro hh
         exact hij (abA hn h2 hi (by rw[h3,hh]))
   . intro x hx
     rw[hlist]at hx;have hxk:x≠key:=fun hh=>hx {e0 with key:=key,val:=val} (ayG.2 ⟨j,List.getElem?_set_self (ayH.1 h2).1⟩) hh.symm;rw[u2 _ hxk];refine h0 x fun y hy=> ?_;obtain⟨i,hi⟩:=ayG.1 hy;by_cases hij:j=i
     . subst hij;rw[h2]at hi;cases hi;rw[h3];exact fun hh=>hxk hh.symm
     . exact hx y (ayG.2 ⟨i,by rw[ayN,if_neg hij];exact hi⟩)
theorem MapP.drop (h:MapP P k w b m)(K:Keyed P k)(ht:P.underlying t=some (.map k e)){key:Value}{kl:Lit}(hkey:keyOf P k key=some kl)(ty:TypeId)(hu:Upd m key none m'):
 ∃w',(Builtin.delete_ #[t,k] ty #[.map (some b),key]).run P w=.ok (.tuple #[]) w'/\MapP P k w' b m'/\w.grownBy w' (some b)/\w'.heap.size=w.heap.size:=by
 obtain⟨es,clock,hb,hk,hn,hm,h0⟩:=h;obtain⟨u1,u2⟩:=hu;have grown:∀o,w.grownBy (setBlock w b o) (some b):=fun o=>⟨rfl,rfl,rfl,by simp[setBlock],fun i _ hi=>heap_setBlock_other hb _ (fun e=>hi (by rw[e]))⟩;rcases K.find w hkey es.toList hk with ⟨h1,h2⟩|⟨j,e0,h1,h2,h3⟩
 . refine⟨setBlock w b (.map es clock),?_,⟨_,_,heap_setBlock_same hb _,hk,hn,?_,?_⟩,grown _,by simp[setBlock]⟩
   . simp[Builtin.delete_,run_underlying ht,ayE hb,K.check w _ hkey,h1,ayI _ hb,ayF,setBlock]
   . intro x hx;rw[u2 _ (h2 x hx)];exact hm x hx
   . intro x hx
     by_cases hxk:x=key
     . rw[hxk];exact u1
     . rw[u2 _ hxk];exact h0 x hx
 . have hjl:j<es.toList.length:=(ayH.1 h2).1
   have hjs:j<es.size:=by simpa using hjl
   have hsub:(es.eraseIdxIfInBounds j).toList=es.toList.eraseIdx j:=by
    unfold Array.eraseIdxIfInBounds;rw[dif_pos hjs];simp
   refine⟨setBlock w b (.map (es.eraseIdxIfInBounds j) clock),?_,⟨_,_,heap_setBlock_same hb _,?_,?_,?_,?_⟩,grown _,by simp[setBlock]⟩
   . simp[Builtin.delete_,run_underlying ht,ayE hb,K.check w _ hkey,h1,ayI _ hb,ayF,setBlock]
   . intro x hx
     rw[hsub]at hx;exact hk x ((ayP _ _).subset hx)
   . rw[hsub]
     exact hn.sublist ((ayP _ _).map _)
   . intro x hx
     rw[hsub]at hx;obtain⟨i,hne,hi⟩:=ayL.1 hx;rw[u2]
     . exact hm x (ayM hi)
     . intro hh
       exact hne (abA hn hi h2 (by rw[h3,hh]))
   . intro x hx
     rw[hsub]at hx;by_cases hxk:x=key
     . rw[hxk];exact u1
     . rw[u2 _ hxk]
       refine h0 x fun y hy=> ?_;obtain⟨i,hi⟩:=ayG.1 hy;by_cases hij:i=j
       . subst hij;rw[h2]at hi;cases hi;rw[h3];exact fun hh=>hxk hh.symm
       . exact hx y (ayL.2 ⟨i,hij,hi⟩)
end
section
variable{P:Program}(w:World){ops:Array Oper}{rest:List Oper}{o:Oper}{a:Act}{Q:Exit->Act->World->Prop}
theorem rW(hg:o.guard=none)(mo x:Operand)(t:TypeId)(c:Bool)(hop:o.op=Op.lookup t mo x c)
 (k e:TypeId) (K:Keyed P k) (ht:P.underlying t=some (.map k e)) {z:Value} (hz:(zeroValue e).run P w=.ok z w) (b:Nat) (m:Value->Option Value)
 (hm:a.eval mo=.map (some b)) (hown:MapP P k w b m) (key:Value) (kl:Lit) (hx:a.eval x=key) (hkey:keyOf P k key=some kl)
 (hK:wpList P ops Q rest (a.put o.dst (if c then .tuple #[(m key).getD z,.bool (m key).isSome]else(m key).getD z)) w):
 wpList P ops Q (o::rest) a w:=by
 refine wpList_plain hg fun K' hK'=> ?_;have hrun:=hown.look K ht hz hkey c;generalize (if c then Value.tuple #[(m key).getD z,.bool (m key).isSome]else(m key).getD z)=R at hrun hK;unfold Oper.wp;simp[execOp,hop,hm,hx,hrun,ayF];exact hK' _ _ hK
theorem aV(hg:o.guard=none)(mo x:Operand)(t:TypeId)(hop:o.op=Op.lookup t mo x false)
 (k e:TypeId) (K:Keyed P k) (ht:P.underlying t=some (.map k e)) {z:Value} (hz:(zeroValue e).run P w=.ok z w) (b:Nat) (m:Value->Option Value)
 (hm:a.eval mo=.map (some b)) (hown:MapP P k w b m) (key:Value) (kl:Lit) (hx:a.eval x=key) (hkey:keyOf P k key=some kl) (v:Value) (hv:(m key).getD z=v)
 (hK:wpList P ops Q rest (a.put o.dst v) w):
 wpList P ops Q (o::rest) a w:=
 rW w hg mo x t false hop k e K ht hz b m hm hown key kl hx hkey (by rw[hv];exact hK)
theorem iX(hg:o.guard=none)(mo x:Operand)(t:TypeId)(hop:o.op=Op.lookup t mo x true)
 (k e:TypeId) (K:Keyed P k) (ht:P.underlying t=some (.map k e)) {z:Value} (hz:(zeroValue e).run P w=.ok z w) (b:Nat) (m:Value->Option Value)
 (hm:a.eval mo=.map (some b)) (hown:MapP P k w b m) (key:Value) (kl:Lit) (hx:a.eval x=key) (hkey:keyOf P k key=some kl) (v:Value) (hv:(m key).getD z=v) (c:Bool) (hc:(m key).isSome=c)
 (hK:wpList P ops Q rest (a.put o.dst (.tuple #[v,.bool c])) w):
 wpList P ops Q (o::rest) a w:=
 rW w hg mo x t true hop k e K ht hz b m hm hown key kl hx hkey (by rw[hv,hc];exact hK)
theorem dR(hg:o.guard=none)(mo x v:Operand)(t:TypeId)(hop:o.op=Op.mapUpdate t mo x v)
 (k e:TypeId) (K:Keyed P k) (ht:P.underlying t=some (.map k e)) (b:Nat) (m m':Value->Option Value)
 (hm:a.eval mo=.map (some b)) (hown:MapP P k w b m) (key val:Value) (kl:Lit) (hx:a.eval x=key) (hv:a.eval v=val) (hkey:keyOf P k key=some kl) (hu:Upd m key (some val) m')
 (hK:∀w',Hid (MapP P k w' b m')->w.grownBy w' (some b)->w'.heap.size=w.heap.size->wpList P ops Q rest (a.put o.dst undef) w'):
 wpList P ops Q (o::rest) a w:=by
 refine wpList_plain hg fun K' hK'=> ?_;obtain⟨w',hrun,r1,r2,r3⟩:=hown.store K ht hkey hu;unfold Oper.wp;simp[execOp,hop,hm,hx,hv,hrun,ayF];exact hK' _ _ (hK w' (hdd r1) r2 r3)
theorem abB(hg:o.guard=none)(mo x:Operand)(t k:TypeId)(hop:o.op=Op.call {callee:=Callee.builtin Builtin.delete,args:=#[mo,x],argTypes:=#[t,k]})
 (e:TypeId) (K:Keyed P k) (ht:P.underlying t=some (.map k e)) (b:Nat) (m m':Value->Option Value)
 (hm:a.eval mo=.map (some b)) (hown:MapP P k w b m) (key:Value) (kl:Lit) (hx:a.eval x=key) (hkey:keyOf P k key=some kl) (hu:Upd m key none m')
 (hK:∀w',Hid (MapP P k w' b m')->w.grownBy w' (some b)->w'.heap.size=w.heap.size->wpList P ops Q rest (a.put o.dst (.tuple #[])) w'):
 wpList P ops Q (o::rest) a w:=by
 refine wpList_plain hg fun K' hK'=> ?_;obtain⟨w',hrun,r1,r2,r3⟩:=hown.drop K ht hkey o.type hu;unfold Oper.wp;simp[execOp,hop,resolve,invoke,builtin,hm,hx,hrun,ayF];exact hK' _ _ (hK w' (hdd r1) r2 r3)
end
end
section
open Go.RowKit Go.Maps
open List renaming getElem?_eq_some_iff->ayQ
variable{ns:List Nd}{xs:List Value}{base g i:Nat}{n:Nd}{T e:TypeId}{a b c d v:Value}{w w':World}
def dV(n:Nd):List Value:=[.int .i64 n.kind,.float .f64 n.val,.int .i64 n.a,.int .i64 n.b]
def bT(ns:List Nd):List Value:=ns.flatMap dV
def keyV(n:Nd):Value:=.agg #[.int .i64 n.kind,.int .i64 n.a,.int .i64 n.b,.int .u64 (n.val:Int)]
theorem zF(h:ns[i]? =some n)(j:Nat)(hj:j<4):(bT ns)[i*4+j]? =(dV n)[j]? :=by
 induction ns generalizing i with
 |nil=>simp at h
 |cons m ns ih=>
  have e:bT (m::ns)=dV m++bT ns:=by simp[bT]
  rw[e]
  cases i with
  |zero=>
   simp at h;subst h;rw[List.getElem?_append_left (by simp[dV];omega)];simp
  |succ i=>
   rw[List.getElem?_append_right (by simp[dV];omega)];have:(i+1)*4+j-(dV m).length=i*4+j:=by simp[dV];omega
   rw[this];exact ih (by simpa using h)
def anW(ns:List Nd)(m:Value->Option Value):Prop:=
 (∀key val,m key=some val->∃(i:Nat) (n:Nd),ns[i]? =some n/\val=.int .i64 (i:Int)/\keyV n=key)/\∀(i:Nat) (n:Nd),ns[i]? =some n->m (keyV n)=some (.int .i64 (i:Int))
def DagM(w:World)(g:Nat)(ns:List Nd):Prop:=
 ∃v mb m,w.heap[g]? =some (.cells #[v,.map (some mb)] 153 (0,0))/\w.ownsRow 0 206 4 v ns.length (bT ns)/\MapP Tryz.prog 318 w mb m/\
  anW ns m/\v.ownBlock≠some g/\mb≠g/\v.ownBlock≠some mb/\ns.length<=20000/\∀n∈ns,n.val<18446744073709551616
def DagN(w:World)(g:Nat)(ns:List Nd):Prop:=
 ∃v,w.heap[g]? =some (.cells #[v,.map none] 153 (0,0))/\w.ownsRow 0 206 4 v ns.length (bT ns)/\v.ownBlock≠some g/\ns.length<=20000/\∀n∈ns,n.val<18446744073709551616
def DagP(w:World)(g:Nat)(ns:List Nd):Prop:=DagM w g ns\/DagN w g ns
theorem fT{size:Nat}{n:Nat}(h:w.ownsRow base e size v n xs):∀k,v.ownBlock=some k->k<w.heap.size:=fun k hk=>(h.lt k hk).2
theorem vB{size:Nat}{n:Nat}(h:w.ownsRow base e size v n xs)(hb:Below w.heap.size w w'):w'.ownsRow base e size v n xs:=by
 refine h.kept (aH (row:=none) hb) ?_
 cases hv:v.ownBlock
 . exact Or.inl rfl
 . exact Or.inr (by simp)
theorem DagP.below (h:DagP w g ns)(hb:Below w.heap.size w w'):DagP w' g ns:=by
 rcases h with ⟨v,mb,m,h1,h2,h3,h4,h5,h6,h7,h8,h9⟩|⟨v,h1,h2,h3⟩
 . exact Or.inl ⟨v,mb,m,hbl h1 hb,vB h2 hb,h3.below hb h3.lt,h4,h5,h6,h7,h8,h9⟩
 . exact Or.inr ⟨v,hbl h1 hb,vB h2 hb,h3⟩
theorem DagP.row (h:DagP w g ns):∃v mo,w.heap[g]? =some (.cells #[v,.map mo] 153 (0,0))/\w.ownsRow 0 206 4 v ns.length (bT ns)/\v.ownBlock≠some g/\ns.length<=20000/\∀n∈ns,n.val<18446744073709551616:=by
 rcases h with ⟨v,mb,m,h1,h2,h3,h4,h5,h6,h7,h8,h9⟩|⟨v,h1,h2,h3⟩
 . exact⟨v,_,h1,h2,h5,h8,h9⟩
 . exact⟨v,_,h1,h2,h3⟩
theorem DagP.len (h:DagP w g ns):ns.length<=20000:=by obtain⟨v,mo,h1,h2,h3,h4,h5⟩:=h.row;exact h4
theorem DagP.val (h:DagP w g ns)(hi:ns[i]? =some n):n.val<18446744073709551616:=by obtain⟨v,mo,h1,h2,h3,h4,h5⟩:=h.row;exact h5 n (List.mem_of_getElem? hi)
theorem DagP.glt (h:DagP w g ns):g<w.heap.size:=by obtain⟨v,mo,h1,-⟩:=h.row;exact aD h1
theorem DagP.slice (h:DagP w g ns):∃A c,w.cell? ⟨g,0,none⟩=some (.slice A ns.length c)/\ns.length<=c/\c<=maxLen/\
 ∀i n,ns[i]? =some n->∃r,A=some ⟨r,0,none⟩/\∀j u,(dV n)[j]? =some u->w.cell? ⟨r,i*4+j,none⟩=some u:=by
 obtain⟨v,mo,h1,h2,-⟩:=h.row;obtain⟨c0,-,-,-⟩:=aB h1;rcases id h2.2 with ⟨rfl,hn⟩|⟨r,cap,cur,rfl,hr,hh,hcap,hmax,hsz,hcur⟩
 . refine⟨none,0,by rw[hn];exact c0,by omega,by unfold maxLen;omega,fun i n hi=> ?_⟩
   have:=(ayQ.1 hi).1;omega
 . refine⟨some ⟨r,0,none⟩,cap,c0,hcap,hmax,fun i n hi=>⟨r,rfl,fun j u hu=> ?_⟩⟩
   have hj:j<4:=by have:=(ayQ.1 hu).1;simpa[dV]using this
   have hi':=(ayQ.1 hi).1;rw[h2.cellAt (i*4+j) (by omega),zF hi j hj];exact hu
theorem zG(hd:DagP w g ns)(hi:i<ns.length):
 Calls Tryz.prog 226 #[.pointer (some ⟨g,0,none⟩),.int .i64 i] w (fun e w'=>e=.returned (.bool true)/\w=w'):=by
 obtain⟨A,c,c0,-,-,-⟩:=hd.slice;have h0:(0:Int)<=(i:Int):=by omega
 have h1:(i:Int)<(ns.length:Int):=by omega
 clear hd;go_enter Tryz.func226,Tryz.ntmps226
 go_wp2;go_ret;exact⟨rfl,rfl⟩
theorem ajJ(h:w.heap[g]? =some (.cells #[a,b,c,d] T (0,0))):
 w.frozen? ⟨g,0,none⟩=false/\w.frozen? ⟨g,1,none⟩=false/\w.frozen? ⟨g,2,none⟩=false/\w.frozen? ⟨g,3,none⟩=false:=by
 refine⟨?_,?_,?_,?_⟩<;>simp[World.frozen?,h]
theorem set4(h:w.heap[g]? =some (.cells #[a,b,c,d] T (0,0)))(u v x y:Value):
 ((((w.setCell ⟨g,0,none⟩ u).setCell ⟨g,1,none⟩ v).setCell ⟨g,2,none⟩ x).setCell ⟨g,3,none⟩ y).heap[g]? =some (.cells #[u,v,x,y] T (0,0)):=by
 have hg:g<w.heap.size:=(Array.getElem?_eq_some_iff.1 h).1;have h':w.heap[g]=.cells #[a,b,c,d] T (0,0):=(Array.getElem?_eq_some_iff.1 h).2;simp[World.setCell,hg,Array.getElem_modify,h']
theorem abC(hd:DagP w g ns)(hi:ns[i]? =some n):
 Calls Tryz.prog 171 #[.pointer (some ⟨g,0,none⟩),.int .i64 i] w (fun e w'=>e=.returned (.tuple #[iL n,.bool true])/\Below w.heap.size w w'):=by
 obtain⟨w1,hw1,hb1,hs1,b1⟩:=pro1 w (.cells #[.int .i64 0,.float .f64 0,.int .i64 0,.int .i64 0] 206);have hlt:=(ayQ.1 hi).1;have HD1:=hdd (hd.below hb1);obtain⟨A,c,c0,hc1,hc2,hel⟩:=HD1.out.slice;obtain⟨r,rfl,hcell⟩:=hel i n hi;have HH:=hdd (zG (w:=w1) (i:=i) HD1.out hlt);have HB:=hdd hb1;have B1:=hdd b1;obtain⟨d0,d1,d2,d3⟩:=bP b1;obtain⟨f0,f1,f2,f3⟩:=ajJ b1;obtain⟨kind,val,na,nb⟩:=n;have e0:w1.cell? ⟨r,i*4,none⟩=some (.int .i64 kind):=hcell 0 _ rfl;have e1:=hcell 1 _ rfl;have e2:=hcell 2 _ rfl;have e3:=hcell 3 _ rfl;have h0:(0:Int)<=(i:Int):=by omega
 have h1:(i:Int)<(ns.length:Int):=by omega
 have hst:=aU;have S1:=hdd (set4 b1 (.int .i64 kind) (.float .f64 val) (.int .i64 na) (.int .i64 nb));clear hd hel hcell hb1 hs1 hi hc1 hc2 b1;unfold iL;dsimp only at e0 e1 e2 e3|-;go_enter Tryz.func171,Tryz.ntmps171
 go_wp2_with fail
 refine HH.out.mono ?_;rintro e w2⟨rfl,hw⟩;obtain rfl:=hw;go_wp2_with fail
 go_wp2;obtain⟨x0,x1,x2,x3⟩:=bP S1.out;refine bodyPost_ret (v:=.tuple #[.agg #[_,_,_,_],_]) (by simp[results,Tryz.results171,go_sem,x0,x1,x2,x3];first|exact⟨⟨rfl,rfl,rfl,rfl⟩,rfl⟩|rfl) rfl ?_;exact⟨rfl,(((HB.out.setCell (by simp) _).setCell (by simp) _).setCell (by simp) _).setCell (by simp) _⟩
def RetV(w:World)(v:Value)(e:Ending)(w':World):Prop:=e=.returned v/\Below w.heap.size w w'
theorem xV:Calls Tryz.prog 228 #[.agg #[.int .i64 n.kind,.float .f64 n.val,.int .i64 n.a,.int .i64 n.b]] w (RetV w (keyV n)):=by
 obtain⟨kind,val,na,nb⟩:=n;unfold keyV;obtain⟨w1,hw1,hb1,hs1,b1⟩:=pro1 w (.cells #[.int .i64 kind,.float .f64 val,.int .i64 na,.int .i64 nb] 206);obtain⟨w2,hw2,hb2,hs2,b2⟩:=pro1 w1 (.cells #[.int .i64 0,.int .i64 0,.int .i64 0,.int .u64 0] 318);obtain⟨c0,c1,c2,c3⟩:=bP (hbl b1 hb2);obtain⟨d0,d1,d2,d3⟩:=bP b2;obtain⟨f0,f1,f2,f3⟩:=ajJ b2;have HFF:=hdd (set4 b2 (.int .i64 kind) (.int .i64 na) (.int .i64 nb) (.int .u64 (val:Int)));have hk:w.heap.size<=w1.heap.size:=hb1.size;have HB:=hdd ((((((aA hb1 hb2).setCell (p:=⟨w1.heap.size,0,none⟩) hk (.int .i64 kind)).setCell (p:=⟨w1.heap.size,1,none⟩) hk (.int .i64 na)).setCell (p:=⟨w1.heap.size,2,none⟩) hk (.int .i64 nb)).setCell (p:=⟨w1.heap.size,3,none⟩) hk (.int .u64 (val:Int))).drew);have hne:w.heap.size≠w1.heap.size:=by omega
 have hbits:=eB val;clear hb1 hb2 hs1 hs2 b1 b2 hk;go_enter Tryz.func228,Tryz.ntmps228
 go_wp2
 go_region
 all_goals
  go_wp2;obtain⟨x0,x1,x2,x3⟩:=bP HFF.out;refine bodyPost_ret (v:=.agg #[_,_,_,_]) (by simp[results,Tryz.results228,go_sem,x0,x1,x2,x3];first|exact⟨rfl,rfl,rfl,rfl⟩|rfl) rfl ?_;exact⟨rfl,HB.out⟩
theorem tH{v:Int}(h:0<=v/\v<=65535):Calls Tryz.prog 317 #[.int .i64 v] w (RetV w (.bool true)):=by
 have h1:=h.1;have h2:=h.2;go_enter Tryz.func317,Tryz.ntmps317
 go_wp2;go_ret;exact⟨rfl,Below.refl _ _⟩
def NdOk(n:Nd):Prop:=n.kind=0/\n.a=0/\n.b=0\/(n.kind=1\/n.kind=2\/n.kind=3\/n.kind=4)/\n.val=0/\(0<=n.a/\n.a<=65535)/\(0<=n.b/\n.b<=65535)\/n.kind=5/\n.val=0/\(0<=n.a/\n.a<=65535)/\n.b=0
theorem agC(h:NdOk n):Calls Tryz.prog 276 #[.agg #[.int .i64 n.kind,.float .f64 n.val,.int .i64 n.a,.int .i64 n.b]] w (RetV w (.bool true)):=by
 obtain⟨kind,val,na,nb⟩:=n;obtain⟨w1,hw1,hb1,hs1,b1⟩:=pro1 w (.cells #[.int .i64 kind,.float .f64 val,.int .i64 na,.int .i64 nb] 206);obtain⟨c0,c1,c2,c3⟩:=bP b1;have HB:=hdd hb1;have hbits:=eB;clear hb1 hs1 b1;rcases h with ⟨h1,h2,h3⟩|⟨h1,h2,h3,h4⟩|⟨h1,h2,h3,h4⟩
 . simp only at h1 h2 h3
   subst h1;subst h2;subst h3;go_enter Tryz.func276,Tryz.ntmps276
   go_wp2;go_ret;exact⟨rfl,HB.out⟩
 . simp only at h1 h2 h3 h4
   subst h2;have HA:Hid (∀w',Calls Tryz.prog 317 #[.int .i64 na] w' (RetV w' (.bool true))):=hdd fun w'=>tH h3;have HB2:Hid (∀w',Calls Tryz.prog 317 #[.int .i64 nb] w' (RetV w' (.bool true))):=hdd fun w'=>tH h4;clear h3 h4;rcases h1 with rfl|rfl|rfl|rfl
   all_goals
    go_enter Tryz.func276,Tryz.ntmps276
    go_wp2_with fail
    refine(HA.out _).mono ?_;rintro e w3⟨rfl,hb3⟩;replace c0:=cbl c0 hb3;replace c1:=cbl c1 hb3;replace c2:=cbl c2 hb3;replace c3:=cbl c3 hb3;have HB3:=hdd (aA HB.out hb3);clear hb3;go_wp2_with fail
    refine(HB2.out _).mono ?_;rintro e w4⟨rfl,hb4⟩;have HB4:=hdd (aA HB3.out hb4);clear hb4;go_wp2;go_ret;exact⟨rfl,HB4.out⟩
 . simp only at h1 h2 h3 h4
   subst h2;subst h1;subst h4;have HA:Hid (∀w',Calls Tryz.prog 317 #[.int .i64 na] w' (RetV w' (.bool true))):=hdd fun w'=>tH h3;have HB2:Hid (∀w',Calls Tryz.prog 317 #[.int .i64 0] w' (RetV w' (.bool true))):=hdd fun w'=>tH (by omega);clear h3;go_enter Tryz.func276,Tryz.ntmps276
   go_wp2_with fail
   refine(HA.out _).mono ?_;rintro e w3⟨rfl,hb3⟩;replace c0:=cbl c0 hb3;replace c1:=cbl c1 hb3;replace c2:=cbl c2 hb3;replace c3:=cbl c3 hb3;have HB3:=hdd (aA HB.out hb3);clear hb3;go_wp2_with fail
   refine(HB2.out _).mono ?_;rintro e w4⟨rfl,hb4⟩;have HB4:=hdd (aA HB3.out hb4);clear hb4;go_wp2;go_ret;exact⟨rfl,HB4.out⟩
theorem aeU{i:Int}(hd:DagP w g ns)(h0:0<=i)(hi:i<ns.length):
 Calls Tryz.prog 226 #[.pointer (some ⟨g,0,none⟩),.int .i64 i] w (RetV w (.bool true)):=by
 have:=zG (i:=i.toNat) hd (by omega);rw[Int.toNat_of_nonneg h0]at this;exact this.mono fun e w' h=>⟨h.1,h.2▸Below.refl _ _⟩
def NdIn(n:Nd)(len:Nat):Prop:=NdOk n/\(n.kind=0->fin n.val)/\(n.kind≠0->(0<=n.a/\n.a<len))/\(n.kind≠0->n.kind≠5->(0<=n.b/\n.b<len))
theorem xW(hd:DagP w g ns)(hn:NdIn n ns.length)(hv:n.val<18446744073709551616):
 Calls Tryz.prog 227 #[.pointer (some ⟨g,0,none⟩),.agg #[.int .i64 n.kind,.float .f64 n.val,.int .i64 n.a,.int .i64 n.b]] w (RetV w (.bool true)):=by
 obtain⟨kind,val,na,nb⟩:=n;obtain⟨ok,hf,ha,hb⟩:=hn;simp only at hf ha hb hv;obtain⟨w1,hw1,hb1,hs1,b1⟩:=pro1 w (.cells #[.int .i64 kind,.float .f64 val,.int .i64 na,.int .i64 nb] 206);obtain⟨c0,c1,c2,c3⟩:=bP b1;have HV:=hdd (agC (w:=w1) ok);have HB:=hdd hb1;have hk:kind=0\/kind=5\/(kind=1\/kind=2\/kind=3\/kind=4):=by
  rcases ok with h|h|h
  . exact Or.inl h.1
  . exact Or.inr (Or.inr h.1)
  . exact Or.inr (Or.inl h.1)
 have HD:=hdd hd;have HHA:Hid (kind≠0->∀w',Below w.heap.size w w'->Calls Tryz.prog 226 #[.pointer (some ⟨g,0,none⟩),.int .i64 na] w' (RetV w' (.bool true))):=hdd fun h w' hb=>aeU (hd.below hb) (ha h).1 (ha h).2;have HHB:Hid (kind≠0->kind≠5->∀w',Below w.heap.size w w'->Calls Tryz.prog 226 #[.pointer (some ⟨g,0,none⟩),.int .i64 nb] w' (RetV w' (.bool true))):=hdd fun h h5 w' hk=>aeU (hd.below hk) (hb h h5).1 (hb h h5).2;have HF:Hid (kind=0->∀w',Calls Tryz.prog 229 #[.float .f64 val] w' (RetB w' true)):=hdd fun h w'=>by have:=jG (w:=w') hv;rwa[decide_eq_true (hf h)]at this
 clear hd ha hb hf hb1 hs1 b1 ok hv;rcases hk with rfl|rfl|rfl|rfl|rfl|rfl
 all_goals
  go_enter Tryz.func227,Tryz.ntmps227
  go_wp2_with fail
  refine HV.out.mono ?_;rintro e w3⟨rfl,hb3⟩;replace c0:=cbl c0 hb3;replace c1:=cbl c1 hb3;replace c2:=cbl c2 hb3;replace c3:=cbl c3 hb3;have HB3:=hdd (aA HB.out hb3);clear hb3;go_wp2_with fail
 . refine(HF.out trivial _).mono ?_
   rintro e w4⟨rfl,hw⟩;obtain rfl:=hw;go_wp2;go_ret;exact⟨rfl,HB3.out⟩
 . refine(HHA.out (by decide) _ HB3.out).mono ?_
   rintro e w4⟨rfl,hb4⟩;have HB4:=hdd (aA HB3.out hb4);clear hb4;go_wp2;go_ret;exact⟨rfl,HB4.out⟩
 all_goals
  refine(HHA.out (by decide) _ HB3.out).mono ?_;rintro e w4⟨rfl,hb4⟩;replace c0:=cbl c0 hb4;replace c1:=cbl c1 hb4;replace c2:=cbl c2 hb4;replace c3:=cbl c3 hb4;have HB4:=hdd (aA HB3.out hb4);clear hb4;go_wp2_with fail
  refine(HHB.out (by decide) (by decide) _ HB4.out).mono ?_;rintro e w5⟨rfl,hb5⟩;have HB5:=hdd (aA HB4.out hb5);clear hb5;go_wp2;go_ret;exact⟨rfl,HB5.out⟩
end
section
open Go.RowKit
open Decidable renaming em->ayR
open Go.RowKit.Below renaming refl->ayS
open List renaming not_mem_nil->ayT,mem_cons->ayU,take_length->ayV
variable{x:Int}{xs:List Int}{m:Nat}{v:Value}{w:World}
def wTab:List (List UInt8×Int):=[([99,111,117,110,116],0),([105,110,116],1),([114,111,111,116],1),([115,105,103,110],1),([102,108,111,111,114],1),([118,101,114,116],1),([102,114,97,99],2),([97,100,100],2),([115,117,98],2),([109,117,108],2),([100,105,118],2),([99,109,112],2),([109,101,101,116],2),([108,105,110,101],7),([99,105,114,99],7)]
def shpL(l:List UInt8):Int:=((wTab.find? fun p=>l==p.1).map (·.2)).getD (-1)
def shpW(s:ByteArray):Int:=shpL s.data.toList
theorem ajK{s:ByteArray}{l:List UInt8}(h:s.data.toList=l):s=⟨l.toArray⟩:=by
 subst h;cases s;simp
theorem nI(s:ByteArray):(∃p∈wTab,s=⟨p.1.toArray⟩)\/((∀p∈wTab,(s.toList==p.1)=false)/\shpW s=-1):=by
 rcases hf:wTab.find? (fun p=>s.data.toList==p.1)with _|p
 . have h:=List.find?_eq_none.1 hf
   refine Or.inr ⟨fun p hp=>by rw[ByteArray.toList_eq];simpa using h p hp,?_⟩;unfold shpW shpL;rw[hf];rfl
 . exact Or.inl ⟨p,List.mem_of_find?_eq_some hf,ajK (by simpa using List.find?_some hf)⟩
theorem ajL(s:ByteArray)(w:World):Calls Tryz.prog 41 #[.string s] w (RetV w (.int .i64 (shpW s))):=by
 rcases nI s with ⟨p,hp,rfl⟩|⟨h,hv⟩
 . simp only[wTab,ayU,ayT,or_false]at hp
   rcases hp with rfl|rfl|rfl|rfl|rfl|rfl|rfl|rfl|rfl|rfl|rfl|rfl|rfl|rfl|rfl
   all_goals
    dsimp only;go_enter Tryz.func41,Tryz.ntmps41
    go_wp2;go_ret;exact⟨rfl,ayS _ _⟩
 . rw[hv]
   have h0:(s.toList==[99,111,117,110,116])=false:=h ([99,111,117,110,116],0) (by simp[wTab]);have h1:(s.toList==[105,110,116])=false:=h ([105,110,116],1) (by simp[wTab]);have h2:(s.toList==[114,111,111,116])=false:=h ([114,111,111,116],1) (by simp[wTab]);have h3:(s.toList==[115,105,103,110])=false:=h ([115,105,103,110],1) (by simp[wTab]);have h4:(s.toList==[102,108,111,111,114])=false:=h ([102,108,111,111,114],1) (by simp[wTab]);have h5:(s.toList==[118,101,114,116])=false:=h ([118,101,114,116],1) (by simp[wTab]);have h6:(s.toList==[102,114,97,99])=false:=h ([102,114,97,99],2) (by simp[wTab]);have h7:(s.toList==[97,100,100])=false:=h ([97,100,100],2) (by simp[wTab]);have h8:(s.toList==[115,117,98])=false:=h ([115,117,98],2) (by simp[wTab]);have h9:(s.toList==[109,117,108])=false:=h ([109,117,108],2) (by simp[wTab]);have h10:(s.toList==[100,105,118])=false:=h ([100,105,118],2) (by simp[wTab]);have h11:(s.toList==[99,109,112])=false:=h ([99,109,112],2) (by simp[wTab]);have h12:(s.toList==[109,101,101,116])=false:=h ([109,101,101,116],2) (by simp[wTab])
   have h13:(s.toList==[108,105,110,101])=false:=h ([108,105,110,101],7) (by simp[wTab]);have h14:(s.toList==[99,105,114,99])=false:=h ([99,105,114,99],7) (by simp[wTab]);clear h;go_enter Tryz.func41,Tryz.ntmps41
   go_wp2;go_ret;exact⟨rfl,ayS _ _⟩
theorem agD(s:ByteArray)(w:World):Calls Tryz.prog 35 #[.string s] w (RetV w (.int .i64 (shpW s))):=by
 rcases nI s with ⟨p,hp,rfl⟩|⟨h,hv⟩
 . simp only[wTab,ayU,ayT,or_false]at hp
   rcases hp with rfl|rfl|rfl|rfl|rfl|rfl|rfl|rfl|rfl|rfl|rfl|rfl|rfl|rfl|rfl
   all_goals
    dsimp only;go_enter Tryz.func35,Tryz.ntmps35
    go_wp2;go_ret;exact⟨rfl,ayS _ _⟩
 . rw[hv]
   have h0:(s.toList==[99,111,117,110,116])=false:=h ([99,111,117,110,116],0) (by simp[wTab]);have h1:(s.toList==[105,110,116])=false:=h ([105,110,116],1) (by simp[wTab]);have h2:(s.toList==[114,111,111,116])=false:=h ([114,111,111,116],1) (by simp[wTab]);have h3:(s.toList==[115,105,103,110])=false:=h ([115,105,103,110],1) (by simp[wTab]);have h4:(s.toList==[102,108,111,111,114])=false:=h ([102,108,111,111,114],1) (by simp[wTab]);have h5:(s.toList==[118,101,114,116])=false:=h ([118,101,114,116],1) (by simp[wTab]);have h6:(s.toList==[102,114,97,99])=false:=h ([102,114,97,99],2) (by simp[wTab]);have h7:(s.toList==[97,100,100])=false:=h ([97,100,100],2) (by simp[wTab]);have h8:(s.toList==[115,117,98])=false:=h ([115,117,98],2) (by simp[wTab]);have h9:(s.toList==[109,117,108])=false:=h ([109,117,108],2) (by simp[wTab]);have h10:(s.toList==[100,105,118])=false:=h ([100,105,118],2) (by simp[wTab]);have h11:(s.toList==[99,109,112])=false:=h ([99,109,112],2) (by simp[wTab]);have h12:(s.toList==[109,101,101,116])=false:=h ([109,101,101,116],2) (by simp[wTab])
   have h13:(s.toList==[108,105,110,101])=false:=h ([108,105,110,101],7) (by simp[wTab]);have h14:(s.toList==[99,105,114,99])=false:=h ([99,105,114,99],7) (by simp[wTab]);clear h;go_enter Tryz.func35,Tryz.ntmps35
   go_wp2;go_ret;exact⟨rfl,ayS _ _⟩
def IntS(w:World)(v:Value)(xs:List Int):Prop:=∃p c,v=.slice p xs.length c/\xs.length<=c/\c<=maxLen/\∀(j:Nat) x,xs[j]? =some x->∃b o,p=some ⟨b,o,none⟩/\w.cell? ⟨b,o+j,none⟩=some (.int .i64 x)
theorem IntS.below {w':World}(h:IntS w v xs)(hb:Below w.heap.size w w'):IntS w' v xs:=by
 obtain⟨p,c,e,h1,h2,h3⟩:=h;refine⟨p,c,e,h1,h2,fun j x hx=> ?_⟩;obtain⟨b,o,q1,q2⟩:=h3 j x hx;exact⟨b,o,q1,cbl q2 hb⟩
def inR(x:Int):Bool:=decide (-1000000<=x)&&decide (x<=1000000)
def dE(s:ByteArray)(xs:List Int):Bool:=xs.all inR&&shpW s==(xs.length:Int)
theorem abD(hx:xs[m]? =some x):(xs.take (m+1)).all inR=((xs.take m).all inR&&inR x):=by
 rw[List.take_add_one,hx];simp
theorem abE{s:ByteArray}(hx:xs[m]? =some x)(h:inR x=false):dE s xs=false:=by
 unfold dE;rw[show xs.all inR=false from List.all_eq_false.2 ⟨x,List.mem_of_getElem? hx,by simp[h]⟩,Bool.false_and]
theorem fE{n k:Nat}(h:k<n):((n:Int)-((k+1:Nat):Int)).toNat<((n:Int)-(k:Int)).toNat:=by omega
theorem xX(s:ByteArray):-1<=shpW s/\shpW s<=7:=by
 rcases nI s with ⟨p,hp,rfl⟩|⟨h,hv⟩
 . simp only[wTab,ayU,ayT,or_false]at hp
   rcases hp with rfl|rfl|rfl|rfl|rfl|rfl|rfl|rfl|rfl|rfl|rfl|rfl|rfl|rfl|rfl<;>decide
 . omega
theorem jH{s:ByteArray}(hv:IntS w v xs)(hl:xs.length<=1000000):Calls Tryz.prog 17 #[.agg #[.string s,v]] w (RetV w (.bool (dE s xs))):=by
 obtain⟨p,c,rfl,h1,h2,hc⟩:=id hv;obtain⟨w1,hw1,hb1,hs1,b1⟩:=pro1 w (.cells #[.string s,.slice p xs.length c] 27);obtain⟨c0,c1,-,-⟩:=aB b1;have HV:=hdd (hv.below hb1);have HB:=hdd hb1;have hlI:(xs.length:Int)<=1000000:=by omega
 have HF:Hid (∀(m:Nat) x,xs[m]? =some x->inR x=false->dE s xs=false):=hdd fun m x h1 h2=>abE h1 h2;have HE:Hid ((xs.take xs.length).all inR=true->dE s xs=(shpW s==(xs.length:Int))):=hdd fun h=>by unfold dE;rw[ayV]at h;rw[h,Bool.true_and]
 have HSZ:=hdd (ajL s);have HRG:=hdd (xX s);obtain⟨R,hR⟩:∃R,dE s xs=R:=⟨_,rfl⟩;rw[hR]at HF HE|-;obtain⟨S,hS⟩:∃S,shpW s=S:=⟨_,rfl⟩;rw[hS]at HE HSZ HRG;clear hv hc hb1 hs1 b1 h1 h2 hR hS;go_enter Tryz.func17,Tryz.ntmps17
 go_wp2_with fail
 go_loopw [9] (fun i wr=>∃m:Nat,m<=xs.length/\i=.int .i64 (m:Int)/\Hid ((xs.take m).all inR=true/\wr=w1)) (fun i _=>((xs.length:Int)-intOf i).toNat)
 case atStart=>exact⟨0,Nat.zero_le _,rfl,hdd ⟨rfl,rfl⟩⟩
 case round=>
  obtain⟨m,hm,rfl,HG⟩:=hrel;obtain⟨hall,rfl⟩:=HG.out;rcases Nat.lt_or_ge m xs.length with hlt|hge
  . obtain⟨x,hx⟩:∃x,xs[m]? =some x:=⟨_,List.getElem?_eq_getElem hlt⟩
    obtain⟨p',c',e',-,-,hcc⟩:=HV.out;obtain⟨b,o,rfl,ca⟩:=hcc m x hx;simp only[Value.slice.injEq]at e';obtain⟨rfl,-,-⟩:=e';have hmI:(m:Int)<(xs.length:Int):=Int.ofNat_lt.2 hlt;have hm0:(0:Int)<=(m:Int):=Int.natCast_nonneg _;have HL:=hdd (And.intro hlt hx);have HA:=hdd hall;have HBD:=hdd (HF.out m x hx);clear hx hlt hall HG hcc;rcases ayR (x< -1000000)with h3|h3
    . have h4:=HBD.out (by unfold inR;rw[decide_eq_false (by omega),Bool.false_and])
      subst h4;go_wp2;go_ret;exact⟨rfl,HB.out⟩
    . rcases ayR (1000000<x)with h4|h4
      . have h5:=HBD.out (by unfold inR;rw[decide_eq_false (p:=x<=1000000) (by omega),Bool.and_false])
        subst h5;go_wp2;go_ret;exact⟨rfl,HB.out⟩
      . have HN:=hdd (show(xs.take (m+1)).all inR=true by rw[abD HL.out.2,HA.out];unfold inR;rw[decide_eq_true (by omega),decide_eq_true (by omega)];rfl)
        go_wp2_with fail
        go_roundw
        case rel=>exact⟨m+1,HL.out.1,by go_num,hdd ⟨HN.out,trivial⟩⟩
        case measure=>exact fE HL.out.1
  . obtain rfl:m=xs.length:=Nat.le_antisymm hm hge
    have h5:=HE.out hall;clear hall HG hm hge;go_wp2_with fail
    refine(HSZ.out wr).mono ?_;rintro e w3⟨rfl,hb⟩;replace c0:=cbl c0 hb;replace c1:=cbl c1 hb;have HB3:=hdd (aA HB.out hb);clear hb;have hr:=HRG.out;rcases ayR (0<=S)with h6|h6
    . rcases h7:(S==(xs.length:Int))with _|_
      all_goals
       rw[h7]at h5;subst h5;go_wp2;go_ret;exact⟨by simp[h7],HB3.out⟩
    . have h7:(S==(xs.length:Int))=false:=beq_eq_false_iff_ne.2 (by omega)
      rw[h7]at h5;subst h5;go_wp2;go_ret;exact⟨rfl,HB3.out⟩
theorem abF{s:ByteArray}(hv:IntS w v xs)(hl:xs.length<=1000000):Calls Tryz.prog 13 #[.agg #[.string s,v]] w (RetV w (.bool (dE s xs))):=by
 obtain⟨p,c,rfl,h1,h2,hc⟩:=id hv;obtain⟨w1,hw1,hb1,hs1,b1⟩:=pro1 w (.cells #[.string s,.slice p xs.length c] 27);obtain⟨c0,c1,-,-⟩:=aB b1;replace c0:w1.drew.cell? ⟨w.heap.size,0,none⟩=some (.string s):=c0;replace c1:w1.drew.cell? ⟨w.heap.size,1,none⟩=some (.slice p xs.length c):=c1;have HV:=hdd (hv.below hb1);have HB:=hdd hb1;have hlI:(xs.length:Int)<=1000000:=by omega
 have HF:Hid (∀(m:Nat) x,xs[m]? =some x->inR x=false->dE s xs=false):=hdd fun m x h1 h2=>abE h1 h2;have HE:Hid ((xs.take xs.length).all inR=true->dE s xs=(shpW s==(xs.length:Int))):=hdd fun h=>by unfold dE;rw[ayV]at h;rw[h,Bool.true_and]
 have HNE:Hid ((shpW s==(xs.length:Int))=false->dE s xs=false):=hdd fun h=>by unfold dE;rw[h,Bool.and_false]
 have HSZ:=hdd (agD s);obtain⟨R,hR⟩:∃R,dE s xs=R:=⟨_,rfl⟩;rw[hR]at HF HE HNE|-;obtain⟨S,hS⟩:∃S,shpW s=S:=⟨_,rfl⟩;rw[hS]at HE HSZ HNE;clear hv hc hb1 hs1 b1 h1 h2 hR hS;go_enter Tryz.func13,Tryz.ntmps13
 go_wp2_with fail
 go_region_held3 (fun w'=>w'.cell? ⟨w.heap.size,0,none⟩=some (.string s)/\w'.cell? ⟨w.heap.size,1,none⟩=some (.slice p xs.length c)) (go_keep)
  (first
  |(go_at_call 35
    refine(HSZ.out _).mono ?_;rintro e w3⟨rfl,hb⟩;have c0:=cbl c0 hb;have c1:=cbl c1 hb;have HB3:=hdd (aA HB.out (aA (ayS _ _).drew hb));have HV3:=hdd (HV.out.below (aA (ayS _ _).drew hb));clear hb))
 rcases h7:(S==(xs.length:Int))with _|_
 . have h5:=HNE.out h7
   subst h5;have h8:(S != (xs.length:Int))=true:=by simp only[bne,h7,Bool.not_false]
   clear HF HE HNE HV HV3 hw1;go_wp2;go_ret;exact⟨rfl,HB3.out⟩
 have h8:(S != (xs.length:Int))=false:=by simp only[bne,h7,Bool.not_true]
 rw[h7]at HE;clear HNE hw1 h7;go_wp2_with fail
 go_loopw [3] (fun i wr=>∃m:Nat,m<=xs.length/\i=.int .i64 (m:Int)/\Hid ((xs.take m).all inR=true/\wr=w3)) (fun i _=>((xs.length:Int)-intOf i).toNat)
 case atStart=>exact⟨0,Nat.zero_le _,rfl,hdd ⟨rfl,rfl⟩⟩
 case round=>
  obtain⟨m,hm,rfl,HG⟩:=hrel;obtain⟨hall,rfl⟩:=HG.out;rcases Nat.lt_or_ge m xs.length with hlt|hge
  . obtain⟨x,hx⟩:∃x,xs[m]? =some x:=⟨_,List.getElem?_eq_getElem hlt⟩
    obtain⟨p',c',e',-,-,hcc⟩:=HV3.out;obtain⟨b,o,rfl,ca⟩:=hcc m x hx;simp only[Value.slice.injEq]at e';obtain⟨rfl,-,-⟩:=e';have hmI:(m:Int)<(xs.length:Int):=Int.ofNat_lt.2 hlt;have hm0:(0:Int)<=(m:Int):=Int.natCast_nonneg _;have HL:=hdd (And.intro hlt hx);have HA:=hdd hall;have HBD:=hdd (HF.out m x hx);clear hx hlt hall HG hcc;rcases ayR (x< -1000000)with h3|h3
    . have h4:=HBD.out (by unfold inR;rw[decide_eq_false (by omega),Bool.false_and])
      subst h4;go_wp2;go_ret;exact⟨rfl,HB3.out⟩
    . rcases ayR (1000000<x)with h4|h4
      . have h5:=HBD.out (by unfold inR;rw[decide_eq_false (p:=x<=1000000) (by omega),Bool.and_false])
        subst h5;go_wp2;go_ret;exact⟨rfl,HB3.out⟩
      . have HN:=hdd (show(xs.take (m+1)).all inR=true by rw[abD HL.out.2,HA.out];unfold inR;rw[decide_eq_true (by omega),decide_eq_true (by omega)];rfl)
        go_wp2_with fail
        go_roundw
        case rel=>exact⟨m+1,HL.out.1,by go_num,hdd ⟨HN.out,trivial⟩⟩
        case measure=>exact fE HL.out.1
  . obtain rfl:m=xs.length:=Nat.le_antisymm hm hge
    have h5:=HE.out hall;subst h5;clear hall HG hm hge;go_wp2;go_ret;exact⟨rfl,HB3.out⟩
end
section
open Go.Lib
open List renaming mem_cons_self->ayW,mem_cons_of_mem->ayX,mem_singleton->ayZ,intercalate->ay0,isPrefixOf->ay1,append_nil->ay2
open UInt8 renaming ofNat->ayY
def iR:List UInt8->Nat->Option Nat
 |[],n=>some n
 |b::t,n=>if b.toNat<48\/57<b.toNat then none else if 1000000<n*10+(b.toNat-48)then none else iR t (n*10+(b.toNat-48))
theorem qV(b:UInt8)(t:List UInt8)(n:Nat):iR (b::t) n=if b.toNat<48\/57<b.toNat then none else if 1000000<n*10+(b.toNat-48)then none else iR t (n*10+(b.toNat-48)):=rfl
def numL(l:List UInt8):Option Int:=
 match trimPrefix l [45]with
 |[]=>none
 |b::t=>if b.toNat=48/\(hasPrefix l [45]=true\/0<t.length)then none else(iR (b::t) 0).map fun(n:Nat)=>if hasPrefix l [45]=true then-(n:Int)else(n:Int)
theorem abG{k:Nat}(h:k<10):(ayY (48+k)).toNat=48+k:=by
 rw[UInt8.toNat_ofNat'];omega
theorem abH:∀(u:Nat),u<=1000000->∀rest,iR (decDigits u++rest) 0=iR rest u:=by
 intro u
 induction u using Nat.strongRecOn with
 |ind u ih=>
  intro hu rest;rw[decDigits]
  split
  . rename_i h
    show iR (ayY (48+u)::rest) 0=_;rw[qV,abG h,if_neg (by omega),if_neg (by omega),show 0*10+(48+u-48)=u by omega]
  . rename_i h
    rw[List.append_assoc,ih (u/10) (by omega) (by omega)];show iR (ayY (48+u%10)::rest) (u/10)=_;rw[qV,abG (by omega),if_neg (by omega),if_neg (by omega),show u/10*10+(48+u%10-48)=u by omega]
theorem pK:∀(u:Nat),∃b t,decDigits u=b::t/\(b.toNat=48->u=0/\t=[])/\∀c∈decDigits u,48<=c.toNat/\c.toNat<=57:=by
 intro u
 induction u using Nat.strongRecOn with
 |ind u ih=>
  rw[decDigits]
  split
  . rename_i h
    refine⟨_,_,rfl,fun e=>⟨by rw[abG h]at e;omega,rfl⟩,fun c hc=> ?_⟩;obtain rfl:=ayZ.1 hc;rw[abG h];omega
  . rename_i h
    obtain⟨b,t,e,h1,h2⟩:=ih (u/10) (by omega);refine⟨b,t++[ayY (48+u%10)],by rw[e];rfl,fun hb=> ?_,fun c hc=> ?_⟩
    . have:=(h1 hb).1;omega
    . rcases List.mem_append.1 hc with hc|hc
      . exact h2 c hc
      . obtain rfl:=ayZ.1 hc
        rw[abG (by omega)];omega
theorem adO(n:Int):itoa n≠[]/\∀c∈itoa n,c.toNat=45\/48<=c.toNat/\c.toNat<=57:=by
 unfold itoa
 split
 . obtain⟨b,t,e,h1,h2⟩:=pK n.natAbs
   refine⟨by simp,fun c hc=> ?_⟩;rcases List.mem_cons.1 hc with rfl|hc
   . exact Or.inl rfl
   . exact Or.inr (h2 c hc)
 . obtain⟨b,t,e,h1,h2⟩:=pK n.toNat
   exact⟨by rw[e];simp,fun c hc=>Or.inr (h2 c hc)⟩
theorem agE{n:Int}(h:-1000000<=n/\n<=1000000):numL (itoa n)=some n:=by
 unfold itoa
 split
 . rename_i h0
   obtain⟨b,t,e,h1,h2⟩:=pK n.natAbs;have hp:hasPrefix (45::decDigits n.natAbs) [45]=true:=by simp[hasPrefix,ay1]
   have ht:trimPrefix (45::decDigits n.natAbs) [45]=b::t:=by unfold trimPrefix;rw[if_pos hp,e];rfl
   have hd:=abH n.natAbs (by omega) [];rw[ay2,e]at hd;unfold numL;rw[ht,hp];simp only;rw[if_neg (by intro hc;have:=(h1 hc.1).1;omega),hd];simp[iR];omega
 . rename_i h0
   obtain⟨b,t,e,h1,h2⟩:=pK n.toNat;have hb:=h2 b (by rw[e];exact ayW ..);have hp:hasPrefix (decDigits n.toNat) [45]=false:=by
    rw[e];unfold hasPrefix ay1;rw[show((45:UInt8)==b)=false from beq_eq_false_iff_ne.2 (fun e=>by subst e;simp at hb)];rfl
   have ht:trimPrefix (decDigits n.toNat) [45]=b::t:=by unfold trimPrefix;rw[hp,e];rfl
   have hd:=abH n.toNat (by omega) [];rw[ay2,e]at hd;unfold numL;rw[ht,hp];simp only
   rw[if_neg (by rintro⟨hc,hc2⟩;rcases hc2 with hc2|hc2
                 . cases hc2
                 . have:=(h1 hc).2;subst this;simp at hc2),hd]
   simp[iR];omega
theorem amH{A B:List UInt8}(h:(10:UInt8)∉A):index (A++10::B) [10]=(A.length:Int):=by
 rw[index_one]
 induction A with
 |nil=>rfl
 |cons a A ih=>
  have ha:(a==(10:UInt8))=false:=beq_eq_false_iff_ne.2 fun e=>h (by rw[e];exact ayW ..);have ih:=ih fun hm=>h (ayX _ hm);show indexByte (a::(A++10::B)) 10=_;unfold indexByte;rw[ha,ih];have:((A.length:Int)==-1)=false:=beq_eq_false_iff_ne.2 (by omega);simp[this]
theorem aoJ{A:List UInt8}(h:(10:UInt8)∉A):index A [10]=-1:=by
 rw[index_one]
 induction A with
 |nil=>rfl
 |cons a A ih=>
  have ha:(a==(10:UInt8))=false:=beq_eq_false_iff_ne.2 fun e=>h (by rw[e];exact ayW ..);have ih:=ih fun hm=>h (ayX _ hm);unfold indexByte;rw[ha,ih];simp
theorem rX:∀(L:List (List UInt8)),L≠[]->(∀l∈L,(10:UInt8)∉l)->splitK [10] 0 (count ([10].intercalate L) [10]) ([10].intercalate L)=L
 |[],h,_=>absurd rfl h
 |[l],_,h=>by
  have hl:=h l (ayW ..);have e:[10].intercalate [l]=l:=by simp[ay0]
  rw[e,count_miss (aoJ hl)];rfl
 |l::m::L,_,h=>by
  have hl:=h l (ayW ..);have ih:=rX (m::L) (by simp) fun x hx=>h x (ayX _ hx);have e:[10].intercalate (l::m::L)=l++10::[10].intercalate (m::L):=by simp[ay0]
  have hi:=amH (B:=[10].intercalate (m::L)) hl;rw[e,count_hit (by simp) hi];have hd:(l++10::[10].intercalate (m::L)).drop (l.length+[(10:UInt8)].length)=[10].intercalate (m::L):=by
   rw[List.drop_append];simp
  rw[hd,Nat.add_comm 1];unfold splitK;have hne:(index (l++10::[10].intercalate (m::L)) [10]==-1)=false:=by rw[hi];exact beq_eq_false_iff_ne.2 (by omega)
  rw[hne,hi];simp only[Bool.false_eq_true,if_false,Int.toNat_natCast];rw[hd,ih];simp
end
end Go.Proofs.YtigoiiekebccnaaGreatDoor
