/- A part of the proof: contracts of functions and plain laws (Map, DagA, DagB, LawK, WalkA, WalkB). -/
import Derived.Test.YtjdgaogkioabeaaGreatDoorM01
import Derived.Maps.OwnSet
import Derived.Test.YtjdgaogkioabeaaGreatDoorM11
import Derived.Test.YtjdgaogkioabeaaGreatDoorM08
import Derived.Test.YtjdgaogkioabeaaGreatDoorRows
import Derived.ProofKit
import Derived.OpenShut
import Derived.LaidMore
import Derived.Lay
import Derived.Lib.LaidTab
import Derived.Stop.Joined
set_option linter.unusedVariables false
set_option linter.unusedSimpArgs false
set_option maxHeartbeats 25600000
set_option maxRecDepth 100000
namespace Go.Proofs.YtjdgaogkioabeaaGreatDoor
open Go.RowKit Go.Maps Go.ChangeMaps
open _root_.Array renaming toList_push->baO
open Go.MapKept renaming run_getObj_map->baI,run_setObj_map->baM
open Go.Result renaming andThen->baJ
open List renaming mem_iff_getElem?->baK,getElem?_eq_some_iff->baL,mem_singleton->baN,mem_eraseIdx_iff_getElem?->baP,mem_of_getElem?->baQ,getElem?_set->baR,mem_append->baS,eraseIdx_sublist->baT
variable{m':Value->Option Value}
def MapP(P:Program)(k:TypeId)(w:World)(b:Nat)(m:Value->Option Value):Prop:=
 ∃es clock,w.heap[b]? =some (.map es clock)/\(∀e∈es.toList,∃l,keyOf P k e.key=some l)/\(es.toList.map (·.key)).Nodup/\(∀e∈es.toList,m e.key=some e.val)/\∀key,(∀e∈es.toList,e.key≠key)->m key=none
def Upd(m:Value->Option Value)(key:Value)(o:Option Value)(m':Value->Option Value):Prop:=m' key=o/\∀x,x≠key->m' x=m x
theorem lI(m:Value->Option Value)(key:Value)(o:Option Value):∃m',Upd m key o m':=by
 classical
 exact⟨fun x=>if x=key then o else m x,by simp,fun x hx=>by simp[hx]⟩
section
variable{P:Program}{k e t:TypeId}{w w':World}{b:Nat}{m:Value->Option Value}
theorem MapP.lt (h:MapP P k w b m):b<w.heap.size:=by obtain⟨es,clock,hb,-⟩:=h;exact(Array.getElem?_eq_some_iff.1 hb).1
theorem MapP.keep (h:MapP P k w b m)(hb:w'.heap[b]? =w.heap[b]?):MapP P k w' b m:=by
 obtain⟨es,clock,h1,h2⟩:=h;exact⟨es,clock,hb.trans h1,h2⟩
theorem MapP.below {B:Nat}(h:MapP P k w b m)(hb:Below B w w')(hB:b<B):MapP P k w' b m:=h.keep (hb.block b hB)
theorem MapP.made {es:Array MapEntry}(h:w.heap[b]? =some (.map #[] 0)):MapP P k w b (fun _=>none):=
 ⟨#[],0,h,by simp,by simp,by simp,by simp⟩
theorem MapP.look (h:MapP P k w b m)(K:Keyed P k)(ht:P.underlying t=some (.map k e)){z:Value}(hz:(zeroValue e).run P w=.ok z w){key:Value}{kl:Lit}(hkey:keyOf P k key=some kl)(c:Bool):
 (Instr.lookup t (.map (some b)) key c).run P w=.ok (if c then .tuple #[(m key).getD z,.bool (m key).isSome]else(m key).getD z) w:=by
 obtain⟨es,clock,hb,hk,hn,hm,h0⟩:=h;rcases K.find w hkey es.toList hk with ⟨h1,h2⟩|⟨j,e0,h1,h2,h3⟩
 . rw[h0 key h2]
   simp[Instr.lookup,run_underlying ht,baI hb,K.check w _ hkey,h1,hz,baJ]
 . have:=hm e0 (baQ h2)
   rw[h3]at this;rw[this];simp[Instr.lookup,run_underlying ht,baI hb,K.check w _ hkey,h1,baJ]
theorem acM{es:List MapEntry}(hn:(es.map (·.key)).Nodup){j i:Nat}{a c:MapEntry}(hj:es[j]? =some a)(hi:es[i]? =some c)(h:a.key=c.key):j=i:=by
 obtain⟨j1,j2⟩:=baL.1 hj;obtain⟨i1,i2⟩:=baL.1 hi;have hp:=List.pairwise_iff_getElem.1 hn;rcases Nat.lt_trichotomy j i with hji|hji|hji
 . exact(hp j i (by simpa using j1) (by simpa using i1) hji (by simp[j2,i2,h])).elim
 . exact hji
 . exact(hp i j (by simpa using i1) (by simpa using j1) hji (by simp[j2,i2,h])).elim
theorem MapP.store (h:MapP P k w b m)(K:Keyed P k)(ht:P.underlying t=some (.map k e)){key val:Value}{kl:Lit}(hkey:keyOf P k key=some kl)(hu:Upd m key (some val) m'):
 ∃w',(Instr.mapUpdate t (.map (some b)) key val).run P w=.ok () w'/\MapP P k w' b m'/\w.grownBy w' (some b)/\w'.heap.size=w.heap.size:=by
 obtain⟨es,clock,hb,hk,hn,hm,h0⟩:=h;obtain⟨u1,u2⟩:=hu;have grown:∀o,w.grownBy (setBlock w b o) (some b):=fun o=>⟨rfl,rfl,rfl,by simp[setBlock],fun i _ hi=>heap_setBlock_other hb _ (fun e=>hi (by rw[e]))⟩;rcases K.find w hkey es.toList hk with ⟨h1,h2⟩|⟨j,e0,h1,h2,h3⟩
 . refine⟨setBlock w b (.map (es.push ⟨key,val,clock⟩) (clock+1)),?_,⟨_,_,heap_setBlock_same hb _,?_,?_,?_,?_⟩,grown _,by simp[setBlock]⟩
   . simp[Instr.mapUpdate,run_underlying ht,baI hb,K.check w false hkey,h1,baM _ hb,baJ,setBlock]
   . intro x hx
     simp only[baO,baS,baN]at hx;rcases hx with hx|rfl
     . exact hk x hx
     . exact⟨kl,hkey⟩
   . simp only[baO,List.map_append,List.map_cons,List.map_nil]
     refine List.nodup_append.2 ⟨hn,by simp,?_⟩;intro a ha c hc;obtain⟨x,hx,rfl⟩:=List.mem_map.1 ha;simp only[baN]at hc;subst hc;exact h2 x hx
   . intro x hx
     simp only[baO,baS,baN]at hx;rcases hx with hx|rfl
     . rw[u2 _ (h2 x hx)];exact hm x hx
     . exact u1
   . intro x hx
     simp only[baO,baS,baN]at hx;have hxk:x≠key:=fun hh=>hx ⟨key,val,clock⟩ (Or.inr rfl) hh.symm;rw[u2 _ hxk];exact h0 x fun y hy=>hx y (Or.inl hy)
 . have hj:es[j]? =some e0:=by simpa using h2
   have hlist:(es.modify j (fun e'=>{e' with key:=key,val:=val})).toList=es.toList.set j {e0 with key:=key,val:=val}:=by rw[Array.toList_modify,modify_eq_set _ _ _ _ h2]
   refine⟨setBlock w b (.map (es.modify j (fun e'=>{e' with key:=key,val:=val})) clock),?_,⟨_,_,heap_setBlock_same hb _,?_,?_,?_,?_⟩,grown _,by simp[setBlock]⟩
   . simp[Instr.mapUpdate,run_underlying ht,baI hb,K.check w false hkey,h1,hj,h3,K.stays w hkey,baM _ hb,baJ,setBlock]
   . intro x hx
     rw[hlist]at hx;rcases List.mem_or_eq_of_mem_set hx with hx|rfl
     . exact hk x hx
     . exact⟨kl,hkey⟩
   . rw[hlist,List.map_set]
     have:(es.toList.map (·.key)).set j key=es.toList.map (·.key):=by
      apply List.ext_getElem?;intro i;rw[baR]
      split
      . rename_i hij
        subst hij
        split
        . rw[List.getElem?_map,h2,<-h3];rfl
        . rename_i hlt;rw[List.getElem?_eq_none (by omega)]
      . rfl
     rw[this];exact hn
   . intro x hx
     rw[hlist]at hx;obtain⟨i,hi⟩:=baK.1 hx;rw[baR]at hi
     split at hi
     . split at hi
       . cases hi;exact u1
       . cases hi
     . rename_i hij
       rw[u2]
       . exact hm x (baQ hi)
       . intro hh
         exact hij (acM hn h2 hi (by rw[h3,hh]))
   . intro x hx
     rw[hlist]at hx;have hxk:x≠key:=fun hh=>hx {e0 with key:=key,val:=val} (baK.2 ⟨j,List.getElem?_set_self (baL.1 h2).1⟩) hh.symm;rw[u2 _ hxk];refine h0 x fun y hy=> ?_;obtain⟨i,hi⟩:=baK.1 hy;by_cases hij:j=i
     . subst hij;rw[h2]at hi;cases hi;rw[h3];exact fun hh=>hxk hh.symm
     . exact hx y (baK.2 ⟨i,by rw[baR,if_neg hij];exact hi⟩)
theorem MapP.drop (h:MapP P k w b m)(K:Keyed P k)(ht:P.underlying t=some (.map k e)){key:Value}{kl:Lit}(hkey:keyOf P k key=some kl)(ty:TypeId)(hu:Upd m key none m'):
 ∃w',(Builtin.delete_ #[t,k] ty #[.map (some b),key]).run P w=.ok (.tuple #[]) w'/\MapP P k w' b m'/\w.grownBy w' (some b)/\w'.heap.size=w.heap.size:=by
 obtain⟨es,clock,hb,hk,hn,hm,h0⟩:=h;obtain⟨u1,u2⟩:=hu;have grown:∀o,w.grownBy (setBlock w b o) (some b):=fun o=>⟨rfl,rfl,rfl,by simp[setBlock],fun i _ hi=>heap_setBlock_other hb _ (fun e=>hi (by rw[e]))⟩;rcases K.find w hkey es.toList hk with ⟨h1,h2⟩|⟨j,e0,h1,h2,h3⟩
 . refine⟨setBlock w b (.map es clock),?_,⟨_,_,heap_setBlock_same hb _,hk,hn,?_,?_⟩,grown _,by simp[setBlock]⟩
   . simp[Builtin.delete_,run_underlying ht,baI hb,K.check w _ hkey,h1,baM _ hb,baJ,setBlock]
   . intro x hx;rw[u2 _ (h2 x hx)];exact hm x hx
   . intro x hx
     by_cases hxk:x=key
     . rw[hxk];exact u1
     . rw[u2 _ hxk];exact h0 x hx
 . have hjl:j<es.toList.length:=(baL.1 h2).1
   have hjs:j<es.size:=by simpa using hjl
   have hsub:(es.eraseIdxIfInBounds j).toList=es.toList.eraseIdx j:=by
    unfold Array.eraseIdxIfInBounds;rw[dif_pos hjs];simp
   refine⟨setBlock w b (.map (es.eraseIdxIfInBounds j) clock),?_,⟨_,_,heap_setBlock_same hb _,?_,?_,?_,?_⟩,grown _,by simp[setBlock]⟩
   . simp[Builtin.delete_,run_underlying ht,baI hb,K.check w _ hkey,h1,baM _ hb,baJ,setBlock]
   . intro x hx
     rw[hsub]at hx;exact hk x ((baT _ _).subset hx)
   . rw[hsub]
     exact hn.sublist ((baT _ _).map _)
   . intro x hx
     rw[hsub]at hx;obtain⟨i,hne,hi⟩:=baP.1 hx;rw[u2]
     . exact hm x (baQ hi)
     . intro hh
       exact hne (acM hn hi h2 (by rw[h3,hh]))
   . intro x hx
     rw[hsub]at hx;by_cases hxk:x=key
     . rw[hxk];exact u1
     . rw[u2 _ hxk]
       refine h0 x fun y hy=> ?_;obtain⟨i,hi⟩:=baK.1 hy;by_cases hij:i=j
       . subst hij;rw[h2]at hi;cases hi;rw[h3];exact fun hh=>hxk hh.symm
       . exact hx y (baP.2 ⟨i,hij,hi⟩)
end
section
variable{P:Program}(w:World){ops:Array Oper}{rest:List Oper}{o:Oper}{a:Act}{Q:Exit->Act->World->Prop}
theorem tL(hg:o.guard=none)(mo x:Operand)(t:TypeId)(c:Bool)(hop:o.op=Op.lookup t mo x c)
 (k e:TypeId) (K:Keyed P k) (ht:P.underlying t=some (.map k e)) {z:Value} (hz:(zeroValue e).run P w=.ok z w) (b:Nat) (m:Value->Option Value)
 (hm:a.eval mo=.map (some b)) (hown:MapP P k w b m) (key:Value) (kl:Lit) (hx:a.eval x=key) (hkey:keyOf P k key=some kl)
 (hK:wpList P ops Q rest (a.put o.dst (if c then .tuple #[(m key).getD z,.bool (m key).isSome]else(m key).getD z)) w):
 wpList P ops Q (o::rest) a w:=by
 refine wpList_plain hg fun K' hK'=> ?_;have hrun:=hown.look K ht hz hkey c;generalize (if c then Value.tuple #[(m key).getD z,.bool (m key).isSome]else(m key).getD z)=R at hrun hK;unfold Oper.wp;simp[execOp,hop,hm,hx,hrun,baJ];exact hK' _ _ hK
theorem bF(hg:o.guard=none)(mo x:Operand)(t:TypeId)(hop:o.op=Op.lookup t mo x false)
 (k e:TypeId) (K:Keyed P k) (ht:P.underlying t=some (.map k e)) {z:Value} (hz:(zeroValue e).run P w=.ok z w) (b:Nat) (m:Value->Option Value)
 (hm:a.eval mo=.map (some b)) (hown:MapP P k w b m) (key:Value) (kl:Lit) (hx:a.eval x=key) (hkey:keyOf P k key=some kl) (v:Value) (hv:(m key).getD z=v)
 (hK:wpList P ops Q rest (a.put o.dst v) w):
 wpList P ops Q (o::rest) a w:=
 tL w hg mo x t false hop k e K ht hz b m hm hown key kl hx hkey (by rw[hv];exact hK)
theorem jO(hg:o.guard=none)(mo x:Operand)(t:TypeId)(hop:o.op=Op.lookup t mo x true)
 (k e:TypeId) (K:Keyed P k) (ht:P.underlying t=some (.map k e)) {z:Value} (hz:(zeroValue e).run P w=.ok z w) (b:Nat) (m:Value->Option Value)
 (hm:a.eval mo=.map (some b)) (hown:MapP P k w b m) (key:Value) (kl:Lit) (hx:a.eval x=key) (hkey:keyOf P k key=some kl) (v:Value) (hv:(m key).getD z=v) (c:Bool) (hc:(m key).isSome=c)
 (hK:wpList P ops Q rest (a.put o.dst (.tuple #[v,.bool c])) w):
 wpList P ops Q (o::rest) a w:=
 tL w hg mo x t true hop k e K ht hz b m hm hown key kl hx hkey (by rw[hv,hc];exact hK)
theorem eT(hg:o.guard=none)(mo x v:Operand)(t:TypeId)(hop:o.op=Op.mapUpdate t mo x v)
 (k e:TypeId) (K:Keyed P k) (ht:P.underlying t=some (.map k e)) (b:Nat) (m m':Value->Option Value)
 (hm:a.eval mo=.map (some b)) (hown:MapP P k w b m) (key val:Value) (kl:Lit) (hx:a.eval x=key) (hv:a.eval v=val) (hkey:keyOf P k key=some kl) (hu:Upd m key (some val) m')
 (hK:∀w',Hid (MapP P k w' b m')->w.grownBy w' (some b)->w'.heap.size=w.heap.size->wpList P ops Q rest (a.put o.dst undef) w'):
 wpList P ops Q (o::rest) a w:=by
 refine wpList_plain hg fun K' hK'=> ?_;obtain⟨w',hrun,r1,r2,r3⟩:=hown.store K ht hkey hu;unfold Oper.wp;simp[execOp,hop,hm,hx,hv,hrun,baJ];exact hK' _ _ (hK w' (hdd r1) r2 r3)
theorem acN(hg:o.guard=none)(mo x:Operand)(t k:TypeId)(hop:o.op=Op.call {callee:=Callee.builtin Builtin.delete,args:=#[mo,x],argTypes:=#[t,k]})
 (e:TypeId) (K:Keyed P k) (ht:P.underlying t=some (.map k e)) (b:Nat) (m m':Value->Option Value)
 (hm:a.eval mo=.map (some b)) (hown:MapP P k w b m) (key:Value) (kl:Lit) (hx:a.eval x=key) (hkey:keyOf P k key=some kl) (hu:Upd m key none m')
 (hK:∀w',Hid (MapP P k w' b m')->w.grownBy w' (some b)->w'.heap.size=w.heap.size->wpList P ops Q rest (a.put o.dst (.tuple #[])) w'):
 wpList P ops Q (o::rest) a w:=by
 refine wpList_plain hg fun K' hK'=> ?_;obtain⟨w',hrun,r1,r2,r3⟩:=hown.drop K ht hkey o.type hu;unfold Oper.wp;simp[execOp,hop,resolve,invoke,builtin,hm,hx,hrun,baJ];exact hK' _ _ (hK w' (hdd r1) r2 r3)
end
end Go.Proofs.YtjdgaogkioabeaaGreatDoor
namespace Go.Proofs.YtjdgaogkioabeaaGreatDoor
open Go.RowKit Go.Maps
open List renaming getElem?_eq_some_iff->baU
variable{ns:List Nd}{g i:Nat}{n:Nd}{T:TypeId}{a b c d:Value}{w:World}
def gJ(n:Nd):List Value:=[.int .i64 n.kind,.float .f64 n.val,.int .i64 n.a,.int .i64 n.b]
def fA(ns:List Nd):List Value:=ns.flatMap gJ
def keyV(n:Nd):Value:=.agg #[.int .i64 n.kind,.int .i64 n.a,.int .i64 n.b,.int .u64 (n.val:Int)]
theorem aaX(h:ns[i]? =some n)(j:Nat)(hj:j<4):(fA ns)[i*4+j]? =(gJ n)[j]? :=by
 induction ns generalizing i with
 |nil=>simp at h
 |cons m ns ih=>
  have e:fA (m::ns)=gJ m++fA ns:=by simp[fA]
  rw[e]
  cases i with
  |zero=>
   simp at h;subst h;rw[List.getElem?_append_left (by simp[gJ];omega)];simp
  |succ i=>
   rw[List.getElem?_append_right (by simp[gJ];omega)];have:(i+1)*4+j-(gJ m).length=i*4+j:=by simp[gJ];omega
   rw[this];exact ih (by simpa using h)
def KeyOk(ns:List Nd)(m:Value->Option Value):Prop:=
 (∀key val,m key=some val->∃(i:Nat) (n:Nd),ns[i]? =some n/\val=.int .i64 (i:Int)/\keyV n=key)/\∀(i:Nat) (n:Nd),ns[i]? =some n->m (keyV n)=some (.int .i64 (i:Int))
def Uniq(ns:List Nd):Prop:=∀(i j:Nat) (n:Nd),ns[i]? =some n->ns[j]? =some n->i=j
theorem KeyOk.uniq {m:Value->Option Value}(h:KeyOk ns m):Uniq ns:=by
 intro i j n hi hj;have h1:=h.2 i n hi;rw[h.2 j n hj]at h1;simp only[Option.some.injEq,Value.int.injEq,true_and]at h1;omega
def DagP(w:World)(g:Nat)(ns:List Nd):Prop:=
 ∃v mb m,w.heap[g]? =some (.cells #[v,.map (some mb)] 66 (0,0))/\w.ownsRow 0 102 4 v ns.length (fA ns)/\MapP Tryz.prog 166 w mb m/\
  KeyOk ns m/\v.ownBlock≠some g/\mb≠g/\v.ownBlock≠some mb/\ns.length<=20000/\∀n∈ns,n.val<18446744073709551616
theorem kJ{base:Nat}{e:TypeId}{size:Nat}{v:Value}{n:Nat}{xs:List Value}(h:w.ownsRow base e size v n xs):∀k,v.ownBlock=some k->k<w.heap.size:=fun k hk=>(h.lt k hk).2
theorem DagP.below {w':World}(h:DagP w g ns)(hb:Below w.heap.size w w'):DagP w' g ns:=by
 obtain⟨v,mb,m,h1,h2,h3,h4,h5,h6,h7,h8,h9⟩:=h;refine⟨v,mb,m,hbl h1 hb,h2.kept (aW (row:=none) hb) ?_,h3.below hb h3.lt,h4,h5,h6,h7,h8,h9⟩
 cases hv:v.ownBlock
 . exact Or.inl rfl
 . exact Or.inr (by simp)
theorem DagP.len (h:DagP w g ns):ns.length<=20000:=by obtain⟨v,mb,m,h1,h2,h3,h4,h5,h6,h7,h8,h9⟩:=h;exact h8
theorem DagP.val (h:DagP w g ns)(hi:ns[i]? =some n):n.val<18446744073709551616:=by obtain⟨v,mb,m,h1,h2,h3,h4,h5,h6,h7,h8,h9⟩:=h;exact h9 n (List.mem_of_getElem? hi)
theorem DagP.uniq (h:DagP w g ns):Uniq ns:=by obtain⟨v,mb,m,h1,h2,h3,h4,h5,h6,h7,h8,h9⟩:=h;exact h4.uniq
theorem DagP.glt (h:DagP w g ns):g<w.heap.size:=by obtain⟨v,mb,m,h1,-⟩:=h;exact aH h1
theorem DagP.slice (h:DagP w g ns):∃A c,w.cell? ⟨g,0,none⟩=some (.slice A ns.length c)/\ns.length<=c/\c<=maxLen/\
 ∀i n,ns[i]? =some n->∃r,A=some ⟨r,0,none⟩/\∀j u,(gJ n)[j]? =some u->w.cell? ⟨r,i*4+j,none⟩=some u:=by
 obtain⟨v,mb,m,h1,h2,-⟩:=h;obtain⟨c0,-,-,-⟩:=aD h1;rcases id h2.2 with ⟨rfl,hn⟩|⟨r,cap,cur,rfl,hr,hh,hcap,hmax,hsz,hcur⟩
 . refine⟨none,0,by rw[hn];exact c0,by omega,by unfold maxLen;omega,fun i n hi=> ?_⟩
   have:=(baU.1 hi).1;omega
 . refine⟨some ⟨r,0,none⟩,cap,c0,hcap,hmax,fun i n hi=>⟨r,rfl,fun j u hu=> ?_⟩⟩
   have hj:j<4:=by have:=(baU.1 hu).1;simpa[gJ]using this
   have hi':=(baU.1 hi).1;rw[h2.cellAt (i*4+j) (by omega),aaX hi j hj];exact hu
theorem aaY(hd:DagP w g ns)(hi:i<ns.length):
 Calls Tryz.prog 101 #[.pointer (some ⟨g,0,none⟩),.int .i64 i] w (fun e w'=>e=.returned (.bool true)/\w=w'):=by
 obtain⟨A,c,c0,-,-,-⟩:=hd.slice;have h0:(0:Int)<=(i:Int):=by omega
 have h1:(i:Int)<(ns.length:Int):=by omega
 clear hd;go_enter Tryz.func101,Tryz.ntmps101
 go_wp2;go_ret;exact⟨rfl,rfl⟩
theorem kK(h:w.heap[g]? =some (.cells #[a,b,c,d] T (0,0))):
 w.frozen? ⟨g,0,none⟩=false/\w.frozen? ⟨g,1,none⟩=false/\w.frozen? ⟨g,2,none⟩=false/\w.frozen? ⟨g,3,none⟩=false:=by
 refine⟨?_,?_,?_,?_⟩<;>simp[World.frozen?,h]
theorem set4(h:w.heap[g]? =some (.cells #[a,b,c,d] T (0,0)))(u v x y:Value):
 ((((w.setCell ⟨g,0,none⟩ u).setCell ⟨g,1,none⟩ v).setCell ⟨g,2,none⟩ x).setCell ⟨g,3,none⟩ y).heap[g]? =some (.cells #[u,v,x,y] T (0,0)):=by
 have hg:g<w.heap.size:=(Array.getElem?_eq_some_iff.1 h).1;have h':w.heap[g]=.cells #[a,b,c,d] T (0,0):=(Array.getElem?_eq_some_iff.1 h).2;simp[World.setCell,hg,Array.getElem_modify,h']
theorem acO(hd:DagP w g ns)(hi:ns[i]? =some n):
 Calls Tryz.prog 88 #[.pointer (some ⟨g,0,none⟩),.int .i64 i] w (fun e w'=>e=.returned (.tuple #[kI n,.bool true])/\Below w.heap.size w w'):=by
 obtain⟨w1,hw1,hb1,hs1,b1⟩:=pro1 w (.cells #[.int .i64 0,.float .f64 0,.int .i64 0,.int .i64 0] 102);have hlt:=(baU.1 hi).1;have HD1:=hdd (hd.below hb1);obtain⟨A,c,c0,hc1,hc2,hel⟩:=HD1.out.slice;obtain⟨r,rfl,hcell⟩:=hel i n hi;have HH:=hdd (aaY (w:=w1) (i:=i) HD1.out hlt);have HB:=hdd hb1;have B1:=hdd b1;obtain⟨d0,d1,d2,d3⟩:=aG b1;obtain⟨f0,f1,f2,f3⟩:=kK b1;obtain⟨kind,val,na,nb⟩:=n;have e0:w1.cell? ⟨r,i*4,none⟩=some (.int .i64 kind):=hcell 0 _ rfl;have e1:=hcell 1 _ rfl;have e2:=hcell 2 _ rfl;have e3:=hcell 3 _ rfl;have h0:(0:Int)<=(i:Int):=by omega
 have h1:(i:Int)<(ns.length:Int):=by omega
 have hst:=aL;have S1:=hdd (set4 b1 (.int .i64 kind) (.float .f64 val) (.int .i64 na) (.int .i64 nb));clear hd hel hcell hb1 hs1 hi hc1 hc2 b1;unfold kI;dsimp only at e0 e1 e2 e3|-;go_enter Tryz.func88,Tryz.ntmps88
 go_wp2_with fail
 refine HH.out.mono ?_;rintro e w2⟨rfl,hw⟩;obtain rfl:=hw;go_wp2_with fail
 go_wp2;obtain⟨x0,x1,x2,x3⟩:=aG S1.out;refine bodyPost_ret (v:=.tuple #[.agg #[_,_,_,_],_]) (by simp[results,Tryz.results88,go_sem,x0,x1,x2,x3];first|exact⟨⟨rfl,rfl,rfl,rfl⟩,rfl⟩|rfl) rfl ?_;exact⟨rfl,(((HB.out.setCell (by simp) _).setCell (by simp) _).setCell (by simp) _).setCell (by simp) _⟩
def RetV(w:World)(v:Value)(e:Ending)(w':World):Prop:=e=.returned v/\Below w.heap.size w w'
theorem ah8:Calls Tryz.prog 98 #[.agg #[.int .i64 n.kind,.float .f64 n.val,.int .i64 n.a,.int .i64 n.b]] w (RetV w (keyV n)):=by
 obtain⟨kind,val,na,nb⟩:=n;unfold keyV;obtain⟨w1,hw1,hb1,hs1,b1⟩:=pro1 w (.cells #[.int .i64 kind,.float .f64 val,.int .i64 na,.int .i64 nb] 102);obtain⟨w2,hw2,hb2,hs2,b2⟩:=pro1 w1 (.cells #[.int .i64 0,.int .i64 0,.int .i64 0,.int .u64 0] 166);obtain⟨c0,c1,c2,c3⟩:=aG (hbl b1 hb2);obtain⟨d0,d1,d2,d3⟩:=aG b2;obtain⟨f0,f1,f2,f3⟩:=kK b2;have HFF:=hdd (set4 b2 (.int .i64 kind) (.int .i64 na) (.int .i64 nb) (.int .u64 (val:Int)));have hk:w.heap.size<=w1.heap.size:=hb1.size;have HB:=hdd ((((((aC hb1 hb2).setCell (p:=⟨w1.heap.size,0,none⟩) hk (.int .i64 kind)).setCell (p:=⟨w1.heap.size,1,none⟩) hk (.int .i64 na)).setCell (p:=⟨w1.heap.size,2,none⟩) hk (.int .i64 nb)).setCell (p:=⟨w1.heap.size,3,none⟩) hk (.int .u64 (val:Int))).drew);have hne:w.heap.size≠w1.heap.size:=by omega
 have hbits:=fH val;clear hb1 hb2 hs1 hs2 b1 b2 hk;go_enter Tryz.func98,Tryz.ntmps98
 go_wp2
 go_region
 all_goals
  go_wp2;obtain⟨x0,x1,x2,x3⟩:=aG HFF.out;refine bodyPost_ret (v:=.agg #[_,_,_,_]) (by simp[results,Tryz.results98,go_sem,x0,x1,x2,x3];first|exact⟨rfl,rfl,rfl,rfl⟩|rfl) rfl ?_;exact⟨rfl,HB.out⟩
theorem uU{v:Int}(h:0<=v/\v<=65535):Calls Tryz.prog 122 #[.int .i64 v] w (RetV w (.bool true)):=by
 have h1:=h.1;have h2:=h.2;go_enter Tryz.func122,Tryz.ntmps122
 go_wp2;go_ret;exact⟨rfl,Below.refl _ _⟩
def NdOk(n:Nd):Prop:=n.kind=0/\n.a=0/\n.b=0\/(n.kind=1\/n.kind=2\/n.kind=3\/n.kind=4)/\n.val=0/\(0<=n.a/\n.a<=65535)/\(0<=n.b/\n.b<=65535)\/n.kind=5/\n.val=0/\(0<=n.a/\n.a<=65535)/\n.b=0
theorem ah9(h:NdOk n):Calls Tryz.prog 110 #[.agg #[.int .i64 n.kind,.float .f64 n.val,.int .i64 n.a,.int .i64 n.b]] w (RetV w (.bool true)):=by
 obtain⟨kind,val,na,nb⟩:=n;obtain⟨w1,hw1,hb1,hs1,b1⟩:=pro1 w (.cells #[.int .i64 kind,.float .f64 val,.int .i64 na,.int .i64 nb] 102);obtain⟨c0,c1,c2,c3⟩:=aG b1;have HB:=hdd hb1;have hbits:=fH;clear hb1 hs1 b1;rcases h with ⟨h1,h2,h3⟩|⟨h1,h2,h3,h4⟩|⟨h1,h2,h3,h4⟩
 . simp only at h1 h2 h3
   subst h1;subst h2;subst h3;go_enter Tryz.func110,Tryz.ntmps110
   go_wp2;go_ret;exact⟨rfl,HB.out⟩
 . simp only at h1 h2 h3 h4
   subst h2;have HA:Hid (∀w',Calls Tryz.prog 122 #[.int .i64 na] w' (RetV w' (.bool true))):=hdd fun w'=>uU h3;have HB2:Hid (∀w',Calls Tryz.prog 122 #[.int .i64 nb] w' (RetV w' (.bool true))):=hdd fun w'=>uU h4;clear h3 h4;rcases h1 with rfl|rfl|rfl|rfl
   all_goals
    go_enter Tryz.func110,Tryz.ntmps110
    go_wp2_with fail
    refine(HA.out _).mono ?_;rintro e w3⟨rfl,hb3⟩;replace c0:=cbl c0 hb3;replace c1:=cbl c1 hb3;replace c2:=cbl c2 hb3;replace c3:=cbl c3 hb3;have HB3:=hdd (aC HB.out hb3);clear hb3;go_wp2_with fail
    refine(HB2.out _).mono ?_;rintro e w4⟨rfl,hb4⟩;have HB4:=hdd (aC HB3.out hb4);clear hb4;go_wp2;go_ret;exact⟨rfl,HB4.out⟩
 . simp only at h1 h2 h3 h4
   subst h2;subst h1;subst h4;have HA:Hid (∀w',Calls Tryz.prog 122 #[.int .i64 na] w' (RetV w' (.bool true))):=hdd fun w'=>uU h3;have HB2:Hid (∀w',Calls Tryz.prog 122 #[.int .i64 0] w' (RetV w' (.bool true))):=hdd fun w'=>uU (by omega);clear h3;go_enter Tryz.func110,Tryz.ntmps110
   go_wp2_with fail
   refine(HA.out _).mono ?_;rintro e w3⟨rfl,hb3⟩;replace c0:=cbl c0 hb3;replace c1:=cbl c1 hb3;replace c2:=cbl c2 hb3;replace c3:=cbl c3 hb3;have HB3:=hdd (aC HB.out hb3);clear hb3;go_wp2_with fail
   refine(HB2.out _).mono ?_;rintro e w4⟨rfl,hb4⟩;have HB4:=hdd (aC HB3.out hb4);clear hb4;go_wp2;go_ret;exact⟨rfl,HB4.out⟩
theorem agB{i:Int}(hd:DagP w g ns)(h0:0<=i)(hi:i<ns.length):
 Calls Tryz.prog 101 #[.pointer (some ⟨g,0,none⟩),.int .i64 i] w (RetV w (.bool true)):=by
 have:=aaY (i:=i.toNat) hd (by omega);rw[Int.toNat_of_nonneg h0]at this;exact this.mono fun e w' h=>⟨h.1,h.2▸Below.refl _ _⟩
def NdIn(n:Nd)(len:Nat):Prop:=NdOk n/\(n.kind=0->fin n.val)/\(n.kind≠0->(0<=n.a/\n.a<len))/\(n.kind≠0->n.kind≠5->(0<=n.b/\n.b<len))
theorem aiA(hd:DagP w g ns)(hn:NdIn n ns.length)(hv:n.val<18446744073709551616):
 Calls Tryz.prog 97 #[.pointer (some ⟨g,0,none⟩),.agg #[.int .i64 n.kind,.float .f64 n.val,.int .i64 n.a,.int .i64 n.b]] w (RetV w (.bool true)):=by
 obtain⟨kind,val,na,nb⟩:=n;obtain⟨ok,hf,ha,hb⟩:=hn;simp only at hf ha hb hv;obtain⟨w1,hw1,hb1,hs1,b1⟩:=pro1 w (.cells #[.int .i64 kind,.float .f64 val,.int .i64 na,.int .i64 nb] 102);obtain⟨c0,c1,c2,c3⟩:=aG b1;have HV:=hdd (ah9 (w:=w1) ok);have HB:=hdd hb1;have hk:kind=0\/kind=5\/(kind=1\/kind=2\/kind=3\/kind=4):=by
  rcases ok with h|h|h
  . exact Or.inl h.1
  . exact Or.inr (Or.inr h.1)
  . exact Or.inr (Or.inl h.1)
 have HD:=hdd hd;have HHA:Hid (kind≠0->∀w',Below w.heap.size w w'->Calls Tryz.prog 101 #[.pointer (some ⟨g,0,none⟩),.int .i64 na] w' (RetV w' (.bool true))):=hdd fun h w' hb=>agB (hd.below hb) (ha h).1 (ha h).2;have HHB:Hid (kind≠0->kind≠5->∀w',Below w.heap.size w w'->Calls Tryz.prog 101 #[.pointer (some ⟨g,0,none⟩),.int .i64 nb] w' (RetV w' (.bool true))):=hdd fun h h5 w' hk=>agB (hd.below hk) (hb h h5).1 (hb h h5).2;have HF:Hid (kind=0->∀w',Calls Tryz.prog 63 #[.float .f64 val] w' (RetB w' true)):=hdd fun h w'=>by have:=fE (w:=w') hv;rwa[decide_eq_true (hf h)]at this
 clear hd ha hb hf hb1 hs1 b1 ok hv;rcases hk with rfl|rfl|rfl|rfl|rfl|rfl
 all_goals
  go_enter Tryz.func97,Tryz.ntmps97
  go_wp2_with fail
  refine HV.out.mono ?_;rintro e w3⟨rfl,hb3⟩;replace c0:=cbl c0 hb3;replace c1:=cbl c1 hb3;replace c2:=cbl c2 hb3;replace c3:=cbl c3 hb3;have HB3:=hdd (aC HB.out hb3);clear hb3;go_wp2_with fail
 . refine(HF.out trivial _).mono ?_
   rintro e w4⟨rfl,hw⟩;obtain rfl:=hw;go_wp2;go_ret;exact⟨rfl,HB3.out⟩
 . refine(HHA.out (by decide) _ HB3.out).mono ?_
   rintro e w4⟨rfl,hb4⟩;have HB4:=hdd (aC HB3.out hb4);clear hb4;go_wp2;go_ret;exact⟨rfl,HB4.out⟩
 all_goals
  refine(HHA.out (by decide) _ HB3.out).mono ?_;rintro e w4⟨rfl,hb4⟩;replace c0:=cbl c0 hb4;replace c1:=cbl c1 hb4;replace c2:=cbl c2 hb4;replace c3:=cbl c3 hb4;have HB4:=hdd (aC HB3.out hb4);clear hb4;go_wp2_with fail
  refine(HHB.out (by decide) (by decide) _ HB4.out).mono ?_;rintro e w5⟨rfl,hb5⟩;have HB5:=hdd (aC HB4.out hb5);clear hb5;go_wp2;go_ret;exact⟨rfl,HB5.out⟩
end Go.Proofs.YtjdgaogkioabeaaGreatDoor
namespace Go.Proofs.YtjdgaogkioabeaaGreatDoor
open Go.ChangeShapes Go.WideShapes Go.ChangeAt Go.RowKit
variable{W:World}
def pE : List (String × DataW Unit) := [("math/bits.deBruijn64tab", Rows.laid_math_bits_deBruijn64tab)]
theorem agC:ownKnob Tryz.prog.godebug=none:=by kernel_rfl
theorem zJ : Tryz.prog.globalNamed "math/bits.deBruijn64tab" = some 1 := by kernel_rfl
theorem ak4:(Tryz.prog.globals[1]?).map (·.type)=some 274:=by kernel_rfl
theorem an1:Tryz.prog.underlying 274=some (.array 64 5):=by kernel_rfl
theorem aqE:Tryz.prog.underlying 5=some (.int .u8):=by kernel_rfl
theorem ak5:Tryz.prog.cellsOf 5=1:=by kernel_rfl
theorem aiB:Tryz.prog.cellsOf 274=64:=by kernel_rfl
def tabZ:List Int:=Lib.deBruijn64tab.map fun(x:Nat)=>(x:Int)
theorem an2 : pE = [("math/bits.deBruijn64tab", Lib.tabData .u8 tabZ)] := by kernel_rfl
theorem tN(h:laidMetH Tryz.prog pE W):Tab W:=by
 rw[MakeChecks.laidMetH_plain _ _ _ (by kernel_rfl),an2]at h;have hT:=Lib.tabIs_of_head zJ ak4 an1 aqE ak5 aiB h;intro j hj;have hl:tabZ.length=Lib.deBruijn64tab.length:=by simp[tabZ]
 have:=hT.cell zJ j (by omega);rw[this];have e:tabZ.getD j 0=((Lib.deBruijn64tab.getD j 0:Nat):Int):=by
  simp only[tabZ,List.getD_eq_getElem?_getD,List.getElem?_map];rw[List.getElem?_eq_getElem hj];rfl
 rw[e]
theorem ak6(h:Tab W):1<W.heap.size:=World.block_lt_of_cell? W _ (h 0 (by decide))
section
variable{H:Type}{enc:TypeId×Value->H}
theorem zK{f:Func}{s:ChangeSpec}{W':World}{args:Array Value}{ds:List (DataW H)}{before:List MemPlace}
 (hW:DataW.Whole enc Tryz.prog f.params.toList s.vars false W args.toList ds [] before) (hv:s.vars=[]) (hr:f.resultTypes=#[4]) (hs:s.fn H (ds++[])={results:=[.lit (.bool true)],args:=ds})
 (hargs:∀sp:Nat->Bool,(∀p∈before,sp p.block=true)->DataW.TrodAll enc Tryz.prog W' 0 sp true f.params.toList args.toList ds before) (hb:Below W.heap.size W W'):
 s.post enc Tryz.prog f false true false false W args (.bool true) W':=by
 have hlt:∀p∈before,p.block<W.heap.size:=fun p hp=>hW.lt p hp;have hold:∀p∈before,(fun b=>decide (b<W.heap.size)) p.block=true:=fun p hp=>by simpa using hlt p hp
 have hres:∀(b:Nat) (sp:Nat->Bool) (hd:Bool),DataW.TrodAll enc Tryz.prog W' b sp hd f.resultTypes.toList ((Value.bool true).resultList f.resultTypes.size) [.lit (.bool true)] []:=by
  intro b sp hd;rw[hr];exact trodAll_cons_mk (shut_bool Tryz.underlying4 _) trodAll_mk0
 have hvars:∀sp:Nat->Bool,DataW.TrodVars enc Tryz.prog W' sp s.vars [] []:=fun sp=>by rw[hv];rfl
 refine⟨ds,[],before,[],before,[],hW,?_,?_,?_,?_,fun h=>by cases h⟩
 . rw[hs];exact hres _ _ _
 . rw[hs];exact hargs _ hold
 . rw[hs];exact hvars _
 . refine World.keptBut_mono (fun p hp=> ?_) (hb.frame (· ∈before))
   exact⟨hp,by simpa using hp⟩
end
end Go.Proofs.YtjdgaogkioabeaaGreatDoor
namespace Go.Proofs.YtjdgaogkioabeaaGreatDoor
open Go.RowKit Go.Maps
open Go.World renaming cell?->baW,setCell->baX
open Option.some renaming inj->baV
variable{st vis:List Nat}{g gv i mb n:Nat}{S:Nat->Prop}{T:TypeId}{sv:Value}{a b w w1 w2 w3:World}
def opsN(n:Nd):List Int:=if n.kind=0 then[]else if n.kind=5 then[n.a]else[n.a,n.b]
def ops2(n:Nd):Int×Int:=if n.kind=0 then(0,0)else if n.kind=5 then(n.a,0)else(n.a,n.b)
theorem zL{n:Nd}:Calls Tryz.prog 114 #[kI n] w (fun e w'=>e=.returned (.tuple #[.agg #[.int .i64 (ops2 n).1,.int .i64 (ops2 n).2],.int .i64 ((opsN n).length:Nat)])/\Below w.heap.size w w'):=by
 obtain⟨kind,val,na,nb⟩:=n;unfold kI;obtain⟨w2,hw2,hb2,hs2,b1,b2⟩:=pro2 w (.cells #[.int .i64 kind,.float .f64 val,.int .i64 na,.int .i64 nb] 102) (.cells #[.int .i64 0,.int .i64 0] 56);obtain⟨c0,c1,c2,c3⟩:=aG b1;obtain⟨d0,d1,d2,d3⟩:=aD b2;have HB:=hdd hb2;have S:=fun u v=>hdd (set2 b2 u v);clear hb2 b1 b2 hs2;by_cases h0:kind=0
 . subst h0
   simp only[ops2,opsN,if_true,List.length_nil];go_enter Tryz.func114,Tryz.ntmps114
   go_wp2;obtain⟨x0,x1,-,-⟩:=aD (S (.int .i64 0) (.int .i64 0)).out;refine bodyPost_ret (v:=.tuple #[.agg #[_,_],_]) (by simp[results,Tryz.results114,go_sem,x0,x1];first|exact⟨⟨rfl,rfl⟩,rfl⟩|rfl) rfl ?_;exact⟨rfl,(HB.out.setCell (by simp) _).setCell (by simp) _⟩
 . by_cases h5:kind=5
   . subst h5
     have e1:ops2 ⟨5,val,na,nb⟩=(na,0):=by simp[ops2]
     have e2:(opsN ⟨5,val,na,nb⟩).length=1:=by simp[opsN]
     rw[e1,e2];clear e1 e2 h0;go_enter Tryz.func114,Tryz.ntmps114
     go_wp2;obtain⟨x0,x1,-,-⟩:=aD (S (.int .i64 na) (.int .i64 0)).out;refine bodyPost_ret (v:=.tuple #[.agg #[_,_],_]) (by simp[results,Tryz.results114,go_sem,x0,x1];first|exact⟨⟨rfl,rfl⟩,rfl⟩|rfl) rfl ?_;exact⟨rfl,(HB.out.setCell (by simp) _).setCell (by simp) _⟩
   . have e1:ops2 ⟨kind,val,na,nb⟩=(na,nb):=by simp[ops2,h0,h5]
     have e2:(opsN ⟨kind,val,na,nb⟩).length=2:=by simp[opsN,h0,h5]
     rw[e1,e2];have t0:(kind==0)=false:=beq_eq_false_iff_ne.2 h0;have t5:(kind==5)=false:=beq_eq_false_iff_ne.2 h5;clear e1 e2 h0 h5;go_enter Tryz.func114,Tryz.ntmps114
     go_wp2;obtain⟨x0,x1,-,-⟩:=aD (S (.int .i64 na) (.int .i64 nb)).out;refine bodyPost_ret (v:=.tuple #[.agg #[_,_],_]) (by simp[results,Tryz.results114,go_sem,x0,x1];first|exact⟨⟨rfl,rfl⟩,rfl⟩|rfl) rfl ?_;exact⟨rfl,(HB.out.setCell (by simp) _).setCell (by simp) _⟩
theorem cB:Tryz.prog.underlying 174=some (.map 3 3):=by kernel_rfl
theorem aaZ:Tryz.prog.underlying 3=some (.int .i64):=by kernel_rfl
theorem nG:Tryz.prog.underlying 147=some (.slice 3):=by kernel_rfl
theorem aQ:Keyed Tryz.prog 3:=int_keyed aaZ
theorem wL:(Tryz.prog.info? 3).map (fun i=>(i.zero,i.size,i.bytes))=some (some (.int .i64 0),1,8):=by kernel_rfl
theorem fI(w:World):(zeroValue 3).run Tryz.prog w=.ok (.int .i64 0) w:=by kernel_rfl
theorem kL{i:Int}(h:-9223372036854775808<=i/\i<9223372036854775808):keyOf Tryz.prog 3 (.int .i64 i)=some (.int .i64 i):=keyOf_int_mk aaZ (by
 have e1:IntKind.i64.min=-9223372036854775808:=rfl;have e2:IntKind.i64.max=9223372036854775807:=rfl;simp[Lit.wf,e1,e2];omega)
def bO(l:List Nat):List Value:=l.map fun(x:Nat)=>Value.int .i64 (x:Int)
def VS(w:World)(gv gs mb:Nat)(sv:Value)(vis st:List Nat):Prop:=
 ∃m,w.heap[gv]? =some (.cells #[.map (some mb)] 174 (0,0))/\w.heap[gs]? =some (.cells #[sv] 147 (0,0))/\MapP Tryz.prog 3 w mb m/\
  (∀i:Nat,m (.int .i64 (i:Int))=if i∈vis then some (.int .i64 1)else none)/\w.ownsRow 0 3 1 sv st.length (bO st)/\gv≠gs/\mb≠gs/\mb≠gv/\sv.ownBlock≠some gs/\sv.ownBlock≠some gv/\sv.ownBlock≠some mb
structure Fr(S:Nat->Prop)(w w':World):Prop where
 os:w'.os=w.os
 tape:w'.tape=w.tape
 output:w'.output=w.output
 size:w.heap.size<=w'.heap.size
 block:∀b,b<w.heap.size->¬S b->w'.heap[b]? =w.heap[b]?
theorem Fr.of_below {w':World}(h:Below w.heap.size w w'):Fr S w w':=⟨h.os,h.tape,h.output,h.size,fun b hb _=>h.block b hb⟩
theorem Fr.trans {c:World}(h:Fr S a b)(k:Fr S b c):Fr S a c:=
 ⟨k.os.trans h.os,k.tape.trans h.tape,k.output.trans h.output,Nat.le_trans h.size k.size,fun i hi hs=>(k.block i (Nat.lt_of_lt_of_le hi h.size) hs).trans (h.block i hi hs)⟩
theorem Fr.of_grown {row:Option Nat}(h:a.grownBy b row)(hs:∀i,row=some i->S i):Fr S a b:=
 ⟨h.os,h.tape,h.output,h.size,fun i hi h'=>h.block i hi (fun e=>h' (hs i e.symm))⟩
theorem Fr.setCell (h:Fr S a b)(hg:S g)(u:Value):Fr S a (b.setCell ⟨g,i,none⟩ u):=
 ⟨h.os,h.tape,h.output,by simpa[baX]using h.size,fun k hk hs=>by
   rw[Below.heap_setCell _ _ _ _ (fun e=>hs (by simp at e;rw[e];exact hg))];exact h.block k hk hs⟩
theorem Fr.below {B:Nat}(h:Fr S a b)(hB:B<=a.heap.size)(hS:∀i,S i->B<=i):Below B a b:=
 ⟨h.os,h.tape,h.output,h.size,fun i hi=>h.block i (Nat.lt_of_lt_of_le hi hB) (fun hs=>by have:=hS i hs;omega)⟩
def VB(gs mb:Nat)(sv:Value)(b:Nat):Prop:=b=gs\/b=mb\/sv.ownBlock=some b
def oK(w:World)(gv gs mb:Nat)(sv:Value)(vis st:List Nat)(i:Nat)(e:Ending)(w':World):Prop:=
 e=.returned (.tuple #[])/\Fr (VB gs mb sv) w w'/\∃sv',(sv'.ownBlock=sv.ownBlock\/∃b,sv'.ownBlock=some b/\w.heap.size<=b)/\
  (if i∈vis then VS w' gv gs mb sv' vis st else VS w' gv gs mb sv' (i::vis) (st++[i]))
theorem qM(sv:Value):sv.ownBlock=none\/sv.ownBlock≠none:=by
 cases sv.ownBlock
 . exact Or.inl rfl
 . exact Or.inr (by simp)
theorem gK{u:Value}(h:w.heap[g]? =some (.cells #[u] T (0,0))):∀j x,[u][j]? =some x->w.cell? ((⟨g,0,none⟩:Addr).add j)=some x:=by
 intro j x hx
 cases j with
 |zero=>simp at hx;subst hx;simp[baW,Addr.add,h]
 |succ j=>simp at hx
theorem agD(h:n<=1000000):n+1<=maxLen:=by unfold maxLen;omega
theorem zM(h:n<=1000000):(n+1)*8<=140737488355328:=by omega
theorem ae2{gs:Nat}(h:w1.heap[gs]? =some (.cells #[sv] T (0,0)))(hb:Below w1.heap.size w1 w2)(hg:w2.grownBy w3 sv.ownBlock)(hn:sv.ownBlock≠some gs):w3.cell? ⟨gs,0,none⟩=some sv/\w3.frozen? ⟨gs,0,none⟩=false:=by
 have h2:=hbl h hb;have h3:=(hg.block gs (aH h2) (fun e=>hn e.symm)).trans h2;exact⟨by simp[baW,h3],by simp[World.frozen?,h3]⟩
theorem aiC{gs cap:Nat}{m m':Value->Option Value}(hV:VS w gv gs mb sv vis st)(hnv:¬i∈vis)(hM:MapP Tryz.prog 3 w mb m)(h4:∀j:Nat,m (.int .i64 (j:Int))=if j∈vis then some (.int .i64 1)else none)
 (h6:gv≠gs) (h7:mb≠gs) (h8:mb≠gv) (h9:sv.ownBlock≠some gs) (h10:sv.ownBlock≠some gv) (h11:sv.ownBlock≠some mb)
 (hu:Upd m (.int .i64 (i:Int)) (some (.int .i64 1)) m') (hM1:MapP Tryz.prog 3 w1 mb m') (hgr:w.grownBy w1 (some mb)) (hsz:w1.heap.size=w.heap.size) (hb2:Below w1.heap.size w1 w2)
 (hO:w3.ownsRow 0 3 1 (.slice (some ⟨g,0,none⟩) (st.length+1) cap) (st.length+1) (bO st++[.int .i64 (i:Int)])) (hg3:w2.grownBy w3 sv.ownBlock) (hat:sv.ownBlock=some g\/g=w2.heap.size):
 oK w gv gs mb sv vis st i (.returned (.tuple #[])) (w3.setCell ⟨gs,0,none⟩ (.slice (some ⟨g,0,none⟩) (st.length+1) cap)):=by
 obtain⟨m0,q1,q2,-⟩:=hV;have hs2:=hb2.size;have lgv:=aH q1;have lgs:=aH q2;have lmb:=hM.lt;have hg_gs:g≠gs:=fun e=>hat.elim (fun h=>h9 (by rw[<-e];exact h)) (fun h=>by omega);have hg_gv:g≠gv:=fun e=>hat.elim (fun h=>h10 (by rw[<-e];exact h)) (fun h=>by omega);have hg_mb:g≠mb:=fun e=>hat.elim (fun h=>h11 (by rw[<-e];exact h)) (fun h=>by omega);have far:∀b,b<w.heap.size->b≠mb->sv.ownBlock≠some b->w3.heap[b]? =w.heap[b]? :=fun b hb h1 h2=>
  (hg3.block b (by omega) (fun e=>h2 e.symm)).trans ((hb2.block b (by omega)).trans (hgr.block b hb (fun e=>h1 (baV e))))
 have e1:=(far gv lgv (fun e=>h8 e.symm) h10).trans q1;have e2:=(far gs lgs (fun e=>h7 e.symm) h9).trans q2;have eM:w3.heap[mb]? =w1.heap[mb]? :=(hg3.block mb (by omega) (fun e=>h11 e.symm)).trans (hb2.block mb (by omega));refine⟨rfl,?_,.slice (some ⟨g,0,none⟩) (st.length+1) cap,?_,?_⟩
 . refine Fr.setCell ?_ (Or.inl rfl) _
   refine(Fr.of_grown hgr (fun b e=>Or.inr (Or.inl (baV e).symm))).trans ((Fr.of_below hb2).trans (Fr.of_grown hg3 (fun b e=>Or.inr (Or.inr e))))
 . rcases hat with h|h
   . exact Or.inl (by rw[h];rfl)
   . exact Or.inr ⟨g,rfl,by omega⟩
 . rw[if_neg hnv]
   refine⟨m',?_,?_,?_,?_,?_,h6,h7,h8,?_,?_,?_⟩
   . rw[Below.heap_setCell _ _ _ _ (by simpa using h6)];exact e1
   . have hg':gs<w3.heap.size:=aH e2
     have h':w3.heap[gs]=.cells #[sv] 147 (0,0):=(Array.getElem?_eq_some_iff.1 e2).2;simp[baX,hg',Array.getElem_modify,h']
   . exact hM1.keep ((by rw[Below.heap_setCell _ _ _ _ (by simpa using h7)];exact eM))
   . intro j
     by_cases hj:j=i
     . subst hj;rw[hu.1];simp
     . rw[hu.2 _ (fun e=>hj (by injection e with _ e;omega)),h4 j]
       by_cases hjv:j∈vis
       . rw[if_pos hjv,if_pos (List.mem_cons_of_mem _ hjv)]
       . rw[if_neg hjv,if_neg (fun h=>(List.mem_cons.1 h).elim hj hjv)]
   . have hk:=hO.kept (grownBy_set (World.grownBy.refl w3 (some gs)) (i:=0) (.slice (some ⟨g,0,none⟩) (st.length+1) cap)) (Or.inr (fun e=>hg_gs (baV e)))
     simpa[bO]using hk
   . exact fun e=>hg_gs (baV e)
   . exact fun e=>hg_gv (baV e)
   . exact fun e=>hg_mb (baV e)
theorem zN{gs:Nat}(h:VS w gv gs mb sv vis st)(hi:i<=1000000)(hst:st.length<=1000000):
 Calls Tryz.prog 113 #[.int .i64 i,.pointer (some ⟨gv,0,none⟩),.pointer (some ⟨gs,0,none⟩)] w (oK w gv gs mb sv vis st i):=by
 obtain⟨m,h1,h2,h3,h4,h5,h6,h7,h8,h9,h10,h11⟩:=id h;have HV:=hdd h;have H3:=hdd h3;have H5:=hdd h5;have c1:w.cell? ⟨gv,0,none⟩=some (.map (some mb)):=by simp[baW,h1]
 have c2:w.cell? ⟨gs,0,none⟩=some sv:=by simp[baW,h2]
 have hkey:keyOf Tryz.prog 3 (.int .i64 (i:Int))=some (.int .i64 (i:Int)):=kL (by omega);have h4i:=h4 i;have HST:=hdd hst;have H4:=hdd h4;have HVI:=hdd hi;by_cases hv:i∈vis
 . rw[if_pos hv]at h4i
   have HP:Hid (oK w gv gs mb sv vis st i (.returned (.tuple #[])) w):=hdd ⟨rfl,Fr.of_below (Below.refl _ _),sv,Or.inl rfl,by rw[if_pos hv];exact HV.out⟩;clear h h1 h2 h3 h4 h5 h6 h7 h8 h9 h10 h11 hv hi hst;go_enter Tryz.func113,Tryz.ntmps113
   have hv2:(m (.int .i64 (i:Int))).getD (.int .i64 0)=.int .i64 1:=by rw[h4i];rfl
   go_wp2_with (first
    |(at_lookup
      refine bF _ rfl _ _ _ rfl _ _ aQ cB (fI _) mb m rfl H3.out (.int .i64 (i:Int)) _ rfl hkey (.int .i64 1) hv2 ?_))
   go_end0
   exact HP.out
 . rw[if_neg hv]at h4i
   have HNV:=hdd hv;obtain⟨i0,hi0,hz0,hz1,hz2⟩:=info_parts wL;have hv2:(m (.int .i64 (i:Int))).getD (.int .i64 0)=.int .i64 0:=by rw[h4i];rfl
   obtain⟨m',hu⟩:=lI m (.int .i64 (i:Int)) (some (.int .i64 1));have HC:∀w1,w.grownBy w1 (some mb)->w1.heap[gv]? =some (.cells #[.map (some mb)] 174 (0,0))/\w1.heap[gs]? =some (.cells #[sv] 147 (0,0))/\w1.cell? ⟨gv,0,none⟩=some (.map (some mb))/\w1.cell? ⟨gs,0,none⟩=some sv:=by
    intro w1 hg;have e1:=(hg.block gv (aH h1) (fun e=>h8 (baV e).symm)).trans h1;have e2:=(hg.block gs (aH h2) (fun e=>h7 (baV e).symm)).trans h2;exact⟨e1,e2,by simp[baW,e1],by simp[baW,e2]⟩
   have HCC:=hdd HC;have H6:=hdd h6;have H7:=hdd h7;have H8:=hdd h8;have H9:=hdd h9;have HU:=hdd hu;have HKEY:=hdd hkey;have HV2:=hdd hv2;have H10:=hdd h10;have H11:=hdd h11;clear h h4i h10 h11 hst h4 hi h5 h3 HC h1 h2 h6 h7 h8 h9 hu hkey hv2 hv;go_enter Tryz.func113,Tryz.ntmps113
   go_wp2_with (first
    |(at_lookup
      refine bF _ rfl _ _ _ rfl _ _ aQ cB (fI _) mb m rfl H3.out (.int .i64 (i:Int)) _ rfl HKEY.out (.int .i64 0) HV2.out ?_)
    |(at_mapUpdate
      refine eT _ rfl _ _ _ _ rfl _ _ aQ cB mb m m' rfl H3.out (.int .i64 (i:Int)) (.int .i64 1) _ rfl rfl HKEY.out HU.out ?_;intro w1 HM1 hgr hsz;obtain⟨g1,g2,d1,d2⟩:=HCC.out w1 hgr;have HG1:=hdd g1;have HG2:=hdd g2;have HGR:=hdd hgr;have HSZ:=hdd hsz;have HO1:=hdd (H5.out.kept hgr (Or.inr H11.out));obtain⟨w2,hw2,hb2,hs2,q2⟩:=pro1 w1 (.cells #[.int .i64 (i:Int)] 3);have HB2:=hdd hb2;have HS2:=hdd hs2;have HQ2:=hdd q2;have d1:=cbl d1 hb2;have d2:=cbl d2 hb2;clear g1 g2 hgr hsz hb2 hs2 q2)
    |(at_builtin
      go_loud (
      refine wpList_append_lies _ rfl _ _ 147 rfl 0 3 i0 (.int .i64 0) 1 8 nG hi0 hz0 hz1 hz2 rfl (by decide) sv st.length (bO st) rfl (HO1.out.kept (aW HB2.out) (qM sv)) ⟨w1.heap.size,0,none⟩ 1 1 [.int .i64 (i:Int)] rfl rfl (gK HQ2.out) (by simp[Value.oneCell']) (by decide) (agD HST.out) (zM HST.out) (Nat.zero_le _) w2.heap.size rfl ?_;intro g cap w3 hown3 hgrow3 hat hlt;obtain⟨x2,f2⟩:=ae2 HG2.out HB2.out hgrow3 H9.out;have HO3:=hdd hown3;have HG3:=hdd hgrow3;have HAT:=hdd hat;clear hown3 hgrow3 hat hlt)))
   go_end0
   exact aiC HV.out HNV.out H3.out H4.out H6.out H7.out H8.out H9.out H10.out H11.out HU.out HM1.out HGR.out HSZ.out HB2.out HO3.out HG3.out HAT.out
end Go.Proofs.YtjdgaogkioabeaaGreatDoor
