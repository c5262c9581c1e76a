/- A part of the proof: contracts of functions and plain laws (Map, DagA, DagB, LawK, LawF, LawP, LawQ, WalkA). -/
import Derived.Test.YtjdgaogkioabeaaGreatDoorK01
import Derived.Maps.OwnSet
import Derived.Test.YtjdgaogkioabeaaGreatDoorK11
import Derived.Test.YtjdgaogkioabeaaGreatDoorK08
import Derived.Test.YtjdgaogkioabeaaGreatDoorRows
import Derived.ProofKit
import Derived.OpenShut
import Derived.LaidMore
import Derived.Lay
import Derived.Lib.LaidTab
import Derived.Stop.Joined
set_option linter.unusedVariables false
set_option linter.unusedSimpArgs false
set_option maxHeartbeats 25600000
set_option maxRecDepth 100000
namespace Go.Proofs.YtjdgaogkioabeaaGreatDoor
section
open Go.RowKit Go.Maps Go.ChangeMaps
open _root_.Array renaming toList_push->azE
open Go.MapKept renaming run_getObj_map->ay8,run_setObj_map->azC
open Go.Result renaming andThen->ay9
open List renaming mem_iff_getElem?->azA,getElem?_eq_some_iff->azB,mem_singleton->azD,mem_eraseIdx_iff_getElem?->azF,mem_of_getElem?->azG,getElem?_set->azH,mem_append->azI,eraseIdx_sublist->azJ
variable{m':Value->Option Value}
def MapP(P:Program)(k:TypeId)(w:World)(b:Nat)(m:Value->Option Value):Prop:=
 ∃es clock,w.heap[b]? =some (.map es clock)/\(∀e∈es.toList,∃l,keyOf P k e.key=some l)/\(es.toList.map (·.key)).Nodup/\(∀e∈es.toList,m e.key=some e.val)/\∀key,(∀e∈es.toList,e.key≠key)->m key=none
def Upd(m:Value->Option Value)(key:Value)(o:Option Value)(m':Value->Option Value):Prop:=m' key=o/\∀x,x≠key->m' x=m x
theorem kR(m:Value->Option Value)(key:Value)(o:Option Value):∃m',Upd m key o m':=by
 classical
 exact⟨fun x=>if x=key then o else m x,by simp,fun x hx=>by simp[hx]⟩
section
variable{P:Program}{k e t:TypeId}{w w':World}{b:Nat}{m:Value->Option Value}
theorem MapP.lt (h:MapP P k w b m):b<w.heap.size:=by obtain⟨es,clock,hb,-⟩:=h;exact(Array.getElem?_eq_some_iff.1 hb).1
theorem MapP.keep (h:MapP P k w b m)(hb:w'.heap[b]? =w.heap[b]?):MapP P k w' b m:=by
 obtain⟨es,clock,h1,h2⟩:=h;exact⟨es,clock,hb.trans h1,h2⟩
theorem MapP.below {B:Nat}(h:MapP P k w b m)(hb:Below B w w')(hB:b<B):MapP P k w' b m:=h.keep (hb.block b hB)
theorem MapP.made {es:Array MapEntry}(h:w.heap[b]? =some (.map #[] 0)):MapP P k w b (fun _=>none):=
 ⟨#[],0,h,by simp,by simp,by simp,by simp⟩
theorem MapP.look (h:MapP P k w b m)(K:Keyed P k)(ht:P.underlying t=some (.map k e)){z:Value}(hz:(zeroValue e).run P w=.ok z w){key:Value}{kl:Lit}(hkey:keyOf P k key=some kl)(c:Bool):
 (Instr.lookup t (.map (some b)) key c).run P w=.ok (if c then .tuple #[(m key).getD z,.bool (m key).isSome]else(m key).getD z) w:=by
 obtain⟨es,clock,hb,hk,hn,hm,h0⟩:=h;rcases K.find w hkey es.toList hk with ⟨h1,h2⟩|⟨j,e0,h1,h2,h3⟩
 . rw[h0 key h2]
   simp[Instr.lookup,run_underlying ht,ay8 hb,K.check w _ hkey,h1,hz,ay9]
 . have:=hm e0 (azG h2)
   rw[h3]at this;rw[this];simp[Instr.lookup,run_underlying ht,ay8 hb,K.check w _ hkey,h1,ay9]
theorem abO{es:List MapEntry}(hn:(es.map (·.key)).Nodup){j i:Nat}{a c:MapEntry}(hj:es[j]? =some a)(hi:es[i]? =some c)(h:a.key=c.key):j=i:=by
 obtain⟨j1,j2⟩:=azB.1 hj;obtain⟨i1,i2⟩:=azB.1 hi;have hp:=List.pairwise_iff_getElem.1 hn;rcases Nat.lt_trichotomy j i with hji|hji|hji
 . exact(hp j i (by simpa using j1) (by simpa using i1) hji (by simp[j2,i2,h])).elim
 . exact hji
 . exact(hp i j (by simpa using i1) (by simpa using j1) hji (by simp[j2,i2,h])).elim
theorem MapP.store (h:MapP P k w b m)(K:Keyed P k)(ht:P.underlying t=some (.map k e)){key val:Value}{kl:Lit}(hkey:keyOf P k key=some kl)(hu:Upd m key (some val) m'):
 ∃w',(Instr.mapUpdate t (.map (some b)) key val).run P w=.ok () w'/\MapP P k w' b m'/\w.grownBy w' (some b)/\w'.heap.size=w.heap.size:=by
 obtain⟨es,clock,hb,hk,hn,hm,h0⟩:=h;obtain⟨u1,u2⟩:=hu;have grown:∀o,w.grownBy (setBlock w b o) (some b):=fun o=>⟨rfl,rfl,rfl,by simp[setBlock],fun i _ hi=>heap_setBlock_other hb _ (fun e=>hi (by rw[e]))⟩;rcases K.find w hkey es.toList hk with ⟨h1,h2⟩|⟨j,e0,h1,h2,h3⟩
 . refine⟨setBlock w b (.map (es.push ⟨key,val,clock⟩) (clock+1)),?_,⟨_,_,heap_setBlock_same hb _,?_,?_,?_,?_⟩,grown _,by simp[setBlock]⟩
   . simp[Instr.mapUpdate,run_underlying ht,ay8 hb,K.check w false hkey,h1,azC _ hb,ay9,setBlock]
   . intro x hx
     simp only[azE,azI,azD]at hx;rcases hx with hx|rfl
     . exact hk x hx
     . exact⟨kl,hkey⟩
   . simp only[azE,List.map_append,List.map_cons,List.map_nil]
     refine List.nodup_append.2 ⟨hn,by simp,?_⟩;intro a ha c hc;obtain⟨x,hx,rfl⟩:=List.mem_map.1 ha;simp only[azD]at hc;subst hc;exact h2 x hx
   . intro x hx
     simp only[azE,azI,azD]at hx;rcases hx with hx|rfl
     . rw[u2 _ (h2 x hx)];exact hm x hx
     . exact u1
   . intro x hx
     simp only[azE,azI,azD]at hx;have hxk:x≠key:=fun hh=>hx ⟨key,val,clock⟩ (Or.inr rfl) hh.symm;rw[u2 _ hxk];exact h0 x fun y hy=>hx y (Or.inl hy)
 . have hj:es[j]? =some e0:=by simpa using h2
   have hlist:(es.modify j (fun e'=>{e' with key:=key,val:=val})).toList=es.toList.set j {e0 with key:=key,val:=val}:=by rw[Array.toList_modify,modify_eq_set _ _ _ _ h2]
   refine⟨setBlock w b (.map (es.modify j (fun e'=>{e' with key:=key,val:=val})) clock),?_,⟨_,_,heap_setBlock_same hb _,?_,?_,?_,?_⟩,grown _,by simp[setBlock]⟩
   . simp[Instr.mapUpdate,run_underlying ht,ay8 hb,K.check w false hkey,h1,hj,h3,K.stays w hkey,azC _ hb,ay9,setBlock]
   . intro x hx
     rw[hlist]at hx;rcases List.mem_or_eq_of_mem_set hx with hx|rfl
     . exact hk x hx
     . exact⟨kl,hkey⟩
   . rw[hlist,List.map_set]
     have:(es.toList.map (·.key)).set j key=es.toList.map (·.key):=by
      apply List.ext_getElem?;intro i;rw[azH]
      split
      . rename_i hij
        subst hij
        split
        . rw[List.getElem?_map,h2,<-h3];rfl
        . rename_i hlt;rw[List.getElem?_eq_none (by omega)]
      . rfl
     rw[this];exact hn
   . intro x hx
     rw[hlist]at hx;obtain⟨i,hi⟩:=azA.1 hx;rw[azH]at hi
     split at hi
     . split at hi
       . cases hi;exact u1
       . cases hi
     . rename_i hij
       rw[u2]
       . exact hm x (azG hi)
       . intro hh
         exact hij (abO hn h2 hi (by rw[h3,hh]))
   . intro x hx
     rw[hlist]at hx;have hxk:x≠key:=fun hh=>hx {e0 with key:=key,val:=val} (azA.2 ⟨j,List.getElem?_set_self (azB.1 h2).1⟩) hh.symm;rw[u2 _ hxk];refine h0 x fun y hy=> ?_;obtain⟨i,hi⟩:=azA.1 hy;by_cases hij:j=i
     . subst hij;rw[h2]at hi;cases hi;rw[h3];exact fun hh=>hxk hh.symm
     . exact hx y (azA.2 ⟨i,by rw[azH,if_neg hij];exact hi⟩)
theorem MapP.drop (h:MapP P k w b m)(K:Keyed P k)(ht:P.underlying t=some (.map k e)){key:Value}{kl:Lit}(hkey:keyOf P k key=some kl)(ty:TypeId)(hu:Upd m key none m'):
 ∃w',(Builtin.delete_ #[t,k] ty #[.map (some b),key]).run P w=.ok (.tuple #[]) w'/\MapP P k w' b m'/\w.grownBy w' (some b)/\w'.heap.size=w.heap.size:=by
 obtain⟨es,clock,hb,hk,hn,hm,h0⟩:=h;obtain⟨u1,u2⟩:=hu;have grown:∀o,w.grownBy (setBlock w b o) (some b):=fun o=>⟨rfl,rfl,rfl,by simp[setBlock],fun i _ hi=>heap_setBlock_other hb _ (fun e=>hi (by rw[e]))⟩;rcases K.find w hkey es.toList hk with ⟨h1,h2⟩|⟨j,e0,h1,h2,h3⟩
 . refine⟨setBlock w b (.map es clock),?_,⟨_,_,heap_setBlock_same hb _,hk,hn,?_,?_⟩,grown _,by simp[setBlock]⟩
   . simp[Builtin.delete_,run_underlying ht,ay8 hb,K.check w _ hkey,h1,azC _ hb,ay9,setBlock]
   . intro x hx;rw[u2 _ (h2 x hx)];exact hm x hx
   . intro x hx
     by_cases hxk:x=key
     . rw[hxk];exact u1
     . rw[u2 _ hxk];exact h0 x hx
 . have hjl:j<es.toList.length:=(azB.1 h2).1
   have hjs:j<es.size:=by simpa using hjl
   have hsub:(es.eraseIdxIfInBounds j).toList=es.toList.eraseIdx j:=by
    unfold Array.eraseIdxIfInBounds;rw[dif_pos hjs];simp
   refine⟨setBlock w b (.map (es.eraseIdxIfInBounds j) clock),?_,⟨_,_,heap_setBlock_same hb _,?_,?_,?_,?_⟩,grown _,by simp[setBlock]⟩
   . simp[Builtin.delete_,run_underlying ht,ay8 hb,K.check w _ hkey,h1,azC _ hb,ay9,setBlock]
   . intro x hx
     rw[hsub]at hx;exact hk x ((azJ _ _).subset hx)
   . rw[hsub]
     exact hn.sublist ((azJ _ _).map _)
   . intro x hx
     rw[hsub]at hx;obtain⟨i,hne,hi⟩:=azF.1 hx;rw[u2]
     . exact hm x (azG hi)
     . intro hh
       exact hne (abO hn hi h2 (by rw[h3,hh]))
   . intro x hx
     rw[hsub]at hx;by_cases hxk:x=key
     . rw[hxk];exact u1
     . rw[u2 _ hxk]
       refine h0 x fun y hy=> ?_;obtain⟨i,hi⟩:=azA.1 hy;by_cases hij:i=j
       . subst hij;rw[h2]at hi;cases hi;rw[h3];exact fun hh=>hxk hh.symm
       . exact hx y (azF.2 ⟨i,hij,hi⟩)
end
section
variable{P:Program}(w:World){ops:Array Oper}{rest:List Oper}{o:Oper}{a:Act}{Q:Exit->Act->World->Prop}
theorem sD(hg:o.guard=none)(mo x:Operand)(t:TypeId)(c:Bool)(hop:o.op=Op.lookup t mo x c)
 (k e:TypeId) (K:Keyed P k) (ht:P.underlying t=some (.map k e)) {z:Value} (hz:(zeroValue e).run P w=.ok z w) (b:Nat) (m:Value->Option Value)
 (hm:a.eval mo=.map (some b)) (hown:MapP P k w b m) (key:Value) (kl:Lit) (hx:a.eval x=key) (hkey:keyOf P k key=some kl)
 (hK:wpList P ops Q rest (a.put o.dst (if c then .tuple #[(m key).getD z,.bool (m key).isSome]else(m key).getD z)) w):
 wpList P ops Q (o::rest) a w:=by
 refine wpList_plain hg fun K' hK'=> ?_;have hrun:=hown.look K ht hz hkey c;generalize (if c then Value.tuple #[(m key).getD z,.bool (m key).isSome]else(m key).getD z)=R at hrun hK;unfold Oper.wp;simp[execOp,hop,hm,hx,hrun,ay9];exact hK' _ _ hK
theorem aZ(hg:o.guard=none)(mo x:Operand)(t:TypeId)(hop:o.op=Op.lookup t mo x false)
 (k e:TypeId) (K:Keyed P k) (ht:P.underlying t=some (.map k e)) {z:Value} (hz:(zeroValue e).run P w=.ok z w) (b:Nat) (m:Value->Option Value)
 (hm:a.eval mo=.map (some b)) (hown:MapP P k w b m) (key:Value) (kl:Lit) (hx:a.eval x=key) (hkey:keyOf P k key=some kl) (v:Value) (hv:(m key).getD z=v)
 (hK:wpList P ops Q rest (a.put o.dst v) w):
 wpList P ops Q (o::rest) a w:=
 sD w hg mo x t false hop k e K ht hz b m hm hown key kl hx hkey (by rw[hv];exact hK)
theorem jF(hg:o.guard=none)(mo x:Operand)(t:TypeId)(hop:o.op=Op.lookup t mo x true)
 (k e:TypeId) (K:Keyed P k) (ht:P.underlying t=some (.map k e)) {z:Value} (hz:(zeroValue e).run P w=.ok z w) (b:Nat) (m:Value->Option Value)
 (hm:a.eval mo=.map (some b)) (hown:MapP P k w b m) (key:Value) (kl:Lit) (hx:a.eval x=key) (hkey:keyOf P k key=some kl) (v:Value) (hv:(m key).getD z=v) (c:Bool) (hc:(m key).isSome=c)
 (hK:wpList P ops Q rest (a.put o.dst (.tuple #[v,.bool c])) w):
 wpList P ops Q (o::rest) a w:=
 sD w hg mo x t true hop k e K ht hz b m hm hown key kl hx hkey (by rw[hv,hc];exact hK)
theorem eG(hg:o.guard=none)(mo x v:Operand)(t:TypeId)(hop:o.op=Op.mapUpdate t mo x v)
 (k e:TypeId) (K:Keyed P k) (ht:P.underlying t=some (.map k e)) (b:Nat) (m m':Value->Option Value)
 (hm:a.eval mo=.map (some b)) (hown:MapP P k w b m) (key val:Value) (kl:Lit) (hx:a.eval x=key) (hv:a.eval v=val) (hkey:keyOf P k key=some kl) (hu:Upd m key (some val) m')
 (hK:∀w',Hid (MapP P k w' b m')->w.grownBy w' (some b)->w'.heap.size=w.heap.size->wpList P ops Q rest (a.put o.dst undef) w'):
 wpList P ops Q (o::rest) a w:=by
 refine wpList_plain hg fun K' hK'=> ?_;obtain⟨w',hrun,r1,r2,r3⟩:=hown.store K ht hkey hu;unfold Oper.wp;simp[execOp,hop,hm,hx,hv,hrun,ay9];exact hK' _ _ (hK w' (hdd r1) r2 r3)
theorem abP(hg:o.guard=none)(mo x:Operand)(t k:TypeId)(hop:o.op=Op.call {callee:=Callee.builtin Builtin.delete,args:=#[mo,x],argTypes:=#[t,k]})
 (e:TypeId) (K:Keyed P k) (ht:P.underlying t=some (.map k e)) (b:Nat) (m m':Value->Option Value)
 (hm:a.eval mo=.map (some b)) (hown:MapP P k w b m) (key:Value) (kl:Lit) (hx:a.eval x=key) (hkey:keyOf P k key=some kl) (hu:Upd m key none m')
 (hK:∀w',Hid (MapP P k w' b m')->w.grownBy w' (some b)->w'.heap.size=w.heap.size->wpList P ops Q rest (a.put o.dst (.tuple #[])) w'):
 wpList P ops Q (o::rest) a w:=by
 refine wpList_plain hg fun K' hK'=> ?_;obtain⟨w',hrun,r1,r2,r3⟩:=hown.drop K ht hkey o.type hu;unfold Oper.wp;simp[execOp,hop,resolve,invoke,builtin,hm,hx,hrun,ay9];exact hK' _ _ (hK w' (hdd r1) r2 r3)
end
end
section
open Go.RowKit Go.Maps
open List renaming getElem?_eq_some_iff->azK
variable{ns:List Nd}{g i:Nat}{n:Nd}{T:TypeId}{a b c d:Value}{w:World}
def gD(n:Nd):List Value:=[.int .i64 n.kind,.float .f64 n.val,.int .i64 n.a,.int .i64 n.b]
def eP(ns:List Nd):List Value:=ns.flatMap gD
def keyV(n:Nd):Value:=.agg #[.int .i64 n.kind,.int .i64 n.a,.int .i64 n.b,.int .u64 (n.val:Int)]
theorem zU(h:ns[i]? =some n)(j:Nat)(hj:j<4):(eP ns)[i*4+j]? =(gD n)[j]? :=by
 induction ns generalizing i with
 |nil=>simp at h
 |cons m ns ih=>
  have e:eP (m::ns)=gD m++eP ns:=by simp[eP]
  rw[e]
  cases i with
  |zero=>
   simp at h;subst h;rw[List.getElem?_append_left (by simp[gD];omega)];simp
  |succ i=>
   rw[List.getElem?_append_right (by simp[gD];omega)];have:(i+1)*4+j-(gD m).length=i*4+j:=by simp[gD];omega
   rw[this];exact ih (by simpa using h)
def KeyOk(ns:List Nd)(m:Value->Option Value):Prop:=
 (∀key val,m key=some val->∃(i:Nat) (n:Nd),ns[i]? =some n/\val=.int .i64 (i:Int)/\keyV n=key)/\∀(i:Nat) (n:Nd),ns[i]? =some n->m (keyV n)=some (.int .i64 (i:Int))
def Uniq(ns:List Nd):Prop:=∀(i j:Nat) (n:Nd),ns[i]? =some n->ns[j]? =some n->i=j
theorem KeyOk.uniq {m:Value->Option Value}(h:KeyOk ns m):Uniq ns:=by
 intro i j n hi hj;have h1:=h.2 i n hi;rw[h.2 j n hj]at h1;simp only[Option.some.injEq,Value.int.injEq,true_and]at h1;omega
def DagP(w:World)(g:Nat)(ns:List Nd):Prop:=
 ∃v mb m,w.heap[g]? =some (.cells #[v,.map (some mb)] 66 (0,0))/\w.ownsRow 0 102 4 v ns.length (eP ns)/\MapP Tryz.prog 166 w mb m/\
  KeyOk ns m/\v.ownBlock≠some g/\mb≠g/\v.ownBlock≠some mb/\ns.length<=20000/\∀n∈ns,n.val<18446744073709551616
theorem jZ{base:Nat}{e:TypeId}{size:Nat}{v:Value}{n:Nat}{xs:List Value}(h:w.ownsRow base e size v n xs):∀k,v.ownBlock=some k->k<w.heap.size:=fun k hk=>(h.lt k hk).2
theorem DagP.below {w':World}(h:DagP w g ns)(hb:Below w.heap.size w w'):DagP w' g ns:=by
 obtain⟨v,mb,m,h1,h2,h3,h4,h5,h6,h7,h8,h9⟩:=h;refine⟨v,mb,m,hbl h1 hb,h2.kept (bI (row:=none) hb) ?_,h3.below hb h3.lt,h4,h5,h6,h7,h8,h9⟩
 cases hv:v.ownBlock
 . exact Or.inl rfl
 . exact Or.inr (by simp)
theorem DagP.len (h:DagP w g ns):ns.length<=20000:=by obtain⟨v,mb,m,h1,h2,h3,h4,h5,h6,h7,h8,h9⟩:=h;exact h8
theorem DagP.val (h:DagP w g ns)(hi:ns[i]? =some n):n.val<18446744073709551616:=by obtain⟨v,mb,m,h1,h2,h3,h4,h5,h6,h7,h8,h9⟩:=h;exact h9 n (List.mem_of_getElem? hi)
theorem DagP.uniq (h:DagP w g ns):Uniq ns:=by obtain⟨v,mb,m,h1,h2,h3,h4,h5,h6,h7,h8,h9⟩:=h;exact h4.uniq
theorem DagP.glt (h:DagP w g ns):g<w.heap.size:=by obtain⟨v,mb,m,h1,-⟩:=h;exact aG h1
theorem DagP.slice (h:DagP w g ns):∃A c,w.cell? ⟨g,0,none⟩=some (.slice A ns.length c)/\ns.length<=c/\c<=maxLen/\
 ∀i n,ns[i]? =some n->∃r,A=some ⟨r,0,none⟩/\∀j u,(gD n)[j]? =some u->w.cell? ⟨r,i*4+j,none⟩=some u:=by
 obtain⟨v,mb,m,h1,h2,-⟩:=h;obtain⟨c0,-,-,-⟩:=aC h1;rcases id h2.2 with ⟨rfl,hn⟩|⟨r,cap,cur,rfl,hr,hh,hcap,hmax,hsz,hcur⟩
 . refine⟨none,0,by rw[hn];exact c0,by omega,by unfold maxLen;omega,fun i n hi=> ?_⟩
   have:=(azK.1 hi).1;omega
 . refine⟨some ⟨r,0,none⟩,cap,c0,hcap,hmax,fun i n hi=>⟨r,rfl,fun j u hu=> ?_⟩⟩
   have hj:j<4:=by have:=(azK.1 hu).1;simpa[gD]using this
   have hi':=(azK.1 hi).1;rw[h2.cellAt (i*4+j) (by omega),zU hi j hj];exact hu
theorem zV(hd:DagP w g ns)(hi:i<ns.length):
 Calls Tryz.prog 101 #[.pointer (some ⟨g,0,none⟩),.int .i64 i] w (fun e w'=>e=.returned (.bool true)/\w=w'):=by
 obtain⟨A,c,c0,-,-,-⟩:=hd.slice;have h0:(0:Int)<=(i:Int):=by omega
 have h1:(i:Int)<(ns.length:Int):=by omega
 clear hd;go_enter Tryz.func101,Tryz.ntmps101
 go_wp2;go_ret;exact⟨rfl,rfl⟩
theorem sF(h:w.heap[g]? =some (.cells #[a,b,c,d] T (0,0))):
 w.frozen? ⟨g,0,none⟩=false/\w.frozen? ⟨g,1,none⟩=false/\w.frozen? ⟨g,2,none⟩=false/\w.frozen? ⟨g,3,none⟩=false:=by
 refine⟨?_,?_,?_,?_⟩<;>simp[World.frozen?,h]
theorem set4(h:w.heap[g]? =some (.cells #[a,b,c,d] T (0,0)))(u v x y:Value):
 ((((w.setCell ⟨g,0,none⟩ u).setCell ⟨g,1,none⟩ v).setCell ⟨g,2,none⟩ x).setCell ⟨g,3,none⟩ y).heap[g]? =some (.cells #[u,v,x,y] T (0,0)):=by
 have hg:g<w.heap.size:=(Array.getElem?_eq_some_iff.1 h).1;have h':w.heap[g]=.cells #[a,b,c,d] T (0,0):=(Array.getElem?_eq_some_iff.1 h).2;simp[World.setCell,hg,Array.getElem_modify,h']
theorem abQ(hd:DagP w g ns)(hi:ns[i]? =some n):
 Calls Tryz.prog 88 #[.pointer (some ⟨g,0,none⟩),.int .i64 i] w (fun e w'=>e=.returned (.tuple #[jY n,.bool true])/\Below w.heap.size w w'):=by
 obtain⟨w1,hw1,hb1,hs1,b1⟩:=pro1 w (.cells #[.int .i64 0,.float .f64 0,.int .i64 0,.int .i64 0] 102);have hlt:=(azK.1 hi).1;have HD1:=hdd (hd.below hb1);obtain⟨A,c,c0,hc1,hc2,hel⟩:=HD1.out.slice;obtain⟨r,rfl,hcell⟩:=hel i n hi;have HH:=hdd (zV (w:=w1) (i:=i) HD1.out hlt);have HB:=hdd hb1;have B1:=hdd b1;obtain⟨d0,d1,d2,d3⟩:=aD b1;obtain⟨f0,f1,f2,f3⟩:=sF b1;obtain⟨kind,val,na,nb⟩:=n;have e0:w1.cell? ⟨r,i*4,none⟩=some (.int .i64 kind):=hcell 0 _ rfl;have e1:=hcell 1 _ rfl;have e2:=hcell 2 _ rfl;have e3:=hcell 3 _ rfl;have h0:(0:Int)<=(i:Int):=by omega
 have h1:(i:Int)<(ns.length:Int):=by omega
 have hst:=aN;have S1:=hdd (set4 b1 (.int .i64 kind) (.float .f64 val) (.int .i64 na) (.int .i64 nb));clear hd hel hcell hb1 hs1 hi hc1 hc2 b1;unfold jY;dsimp only at e0 e1 e2 e3|-;go_enter Tryz.func88,Tryz.ntmps88
 go_wp2_with fail
 refine HH.out.mono ?_;rintro e w2⟨rfl,hw⟩;obtain rfl:=hw;go_wp2_with fail
 go_wp2;obtain⟨x0,x1,x2,x3⟩:=aD S1.out;refine bodyPost_ret (v:=.tuple #[.agg #[_,_,_,_],_]) (by simp[results,Tryz.results88,go_sem,x0,x1,x2,x3];first|exact⟨⟨rfl,rfl,rfl,rfl⟩,rfl⟩|rfl) rfl ?_;exact⟨rfl,(((HB.out.setCell (by simp) _).setCell (by simp) _).setCell (by simp) _).setCell (by simp) _⟩
def RetV(w:World)(v:Value)(e:Ending)(w':World):Prop:=e=.returned v/\Below w.heap.size w w'
theorem agW:Calls Tryz.prog 98 #[.agg #[.int .i64 n.kind,.float .f64 n.val,.int .i64 n.a,.int .i64 n.b]] w (RetV w (keyV n)):=by
 obtain⟨kind,val,na,nb⟩:=n;unfold keyV;obtain⟨w1,hw1,hb1,hs1,b1⟩:=pro1 w (.cells #[.int .i64 kind,.float .f64 val,.int .i64 na,.int .i64 nb] 102);obtain⟨w2,hw2,hb2,hs2,b2⟩:=pro1 w1 (.cells #[.int .i64 0,.int .i64 0,.int .i64 0,.int .u64 0] 166);obtain⟨c0,c1,c2,c3⟩:=aD (hbl b1 hb2);obtain⟨d0,d1,d2,d3⟩:=aD b2;obtain⟨f0,f1,f2,f3⟩:=sF b2;have HFF:=hdd (set4 b2 (.int .i64 kind) (.int .i64 na) (.int .i64 nb) (.int .u64 (val:Int)));have hk:w.heap.size<=w1.heap.size:=hb1.size;have HB:=hdd ((((((aB hb1 hb2).setCell (p:=⟨w1.heap.size,0,none⟩) hk (.int .i64 kind)).setCell (p:=⟨w1.heap.size,1,none⟩) hk (.int .i64 na)).setCell (p:=⟨w1.heap.size,2,none⟩) hk (.int .i64 nb)).setCell (p:=⟨w1.heap.size,3,none⟩) hk (.int .u64 (val:Int))).drew);have hne:w.heap.size≠w1.heap.size:=by omega
 have hbits:=fC val;clear hb1 hb2 hs1 hs2 b1 b2 hk;go_enter Tryz.func98,Tryz.ntmps98
 go_wp2
 go_region
 all_goals
  go_wp2;obtain⟨x0,x1,x2,x3⟩:=aD HFF.out;refine bodyPost_ret (v:=.agg #[_,_,_,_]) (by simp[results,Tryz.results98,go_sem,x0,x1,x2,x3];first|exact⟨rfl,rfl,rfl,rfl⟩|rfl) rfl ?_;exact⟨rfl,HB.out⟩
theorem tX{v:Int}(h:0<=v/\v<=65535):Calls Tryz.prog 122 #[.int .i64 v] w (RetV w (.bool true)):=by
 have h1:=h.1;have h2:=h.2;go_enter Tryz.func122,Tryz.ntmps122
 go_wp2;go_ret;exact⟨rfl,Below.refl _ _⟩
def NdOk(n:Nd):Prop:=n.kind=0/\n.a=0/\n.b=0\/(n.kind=1\/n.kind=2\/n.kind=3\/n.kind=4)/\n.val=0/\(0<=n.a/\n.a<=65535)/\(0<=n.b/\n.b<=65535)\/n.kind=5/\n.val=0/\(0<=n.a/\n.a<=65535)/\n.b=0
theorem agX(h:NdOk n):Calls Tryz.prog 110 #[.agg #[.int .i64 n.kind,.float .f64 n.val,.int .i64 n.a,.int .i64 n.b]] w (RetV w (.bool true)):=by
 obtain⟨kind,val,na,nb⟩:=n;obtain⟨w1,hw1,hb1,hs1,b1⟩:=pro1 w (.cells #[.int .i64 kind,.float .f64 val,.int .i64 na,.int .i64 nb] 102);obtain⟨c0,c1,c2,c3⟩:=aD b1;have HB:=hdd hb1;have hbits:=fC;clear hb1 hs1 b1;rcases h with ⟨h1,h2,h3⟩|⟨h1,h2,h3,h4⟩|⟨h1,h2,h3,h4⟩
 . simp only at h1 h2 h3
   subst h1;subst h2;subst h3;go_enter Tryz.func110,Tryz.ntmps110
   go_wp2;go_ret;exact⟨rfl,HB.out⟩
 . simp only at h1 h2 h3 h4
   subst h2;have HA:Hid (∀w',Calls Tryz.prog 122 #[.int .i64 na] w' (RetV w' (.bool true))):=hdd fun w'=>tX h3;have HB2:Hid (∀w',Calls Tryz.prog 122 #[.int .i64 nb] w' (RetV w' (.bool true))):=hdd fun w'=>tX h4;clear h3 h4;rcases h1 with rfl|rfl|rfl|rfl
   all_goals
    go_enter Tryz.func110,Tryz.ntmps110
    go_wp2_with fail
    refine(HA.out _).mono ?_;rintro e w3⟨rfl,hb3⟩;replace c0:=cbl c0 hb3;replace c1:=cbl c1 hb3;replace c2:=cbl c2 hb3;replace c3:=cbl c3 hb3;have HB3:=hdd (aB HB.out hb3);clear hb3;go_wp2_with fail
    refine(HB2.out _).mono ?_;rintro e w4⟨rfl,hb4⟩;have HB4:=hdd (aB HB3.out hb4);clear hb4;go_wp2;go_ret;exact⟨rfl,HB4.out⟩
 . simp only at h1 h2 h3 h4
   subst h2;subst h1;subst h4;have HA:Hid (∀w',Calls Tryz.prog 122 #[.int .i64 na] w' (RetV w' (.bool true))):=hdd fun w'=>tX h3;have HB2:Hid (∀w',Calls Tryz.prog 122 #[.int .i64 0] w' (RetV w' (.bool true))):=hdd fun w'=>tX (by omega);clear h3;go_enter Tryz.func110,Tryz.ntmps110
   go_wp2_with fail
   refine(HA.out _).mono ?_;rintro e w3⟨rfl,hb3⟩;replace c0:=cbl c0 hb3;replace c1:=cbl c1 hb3;replace c2:=cbl c2 hb3;replace c3:=cbl c3 hb3;have HB3:=hdd (aB HB.out hb3);clear hb3;go_wp2_with fail
   refine(HB2.out _).mono ?_;rintro e w4⟨rfl,hb4⟩;have HB4:=hdd (aB HB3.out hb4);clear hb4;go_wp2;go_ret;exact⟨rfl,HB4.out⟩
theorem ae4{i:Int}(hd:DagP w g ns)(h0:0<=i)(hi:i<ns.length):
 Calls Tryz.prog 101 #[.pointer (some ⟨g,0,none⟩),.int .i64 i] w (RetV w (.bool true)):=by
 have:=zV (i:=i.toNat) hd (by omega);rw[Int.toNat_of_nonneg h0]at this;exact this.mono fun e w' h=>⟨h.1,h.2▸Below.refl _ _⟩
def NdIn(n:Nd)(len:Nat):Prop:=NdOk n/\(n.kind=0->fin n.val)/\(n.kind≠0->(0<=n.a/\n.a<len))/\(n.kind≠0->n.kind≠5->(0<=n.b/\n.b<len))
theorem agY(hd:DagP w g ns)(hn:NdIn n ns.length)(hv:n.val<18446744073709551616):
 Calls Tryz.prog 97 #[.pointer (some ⟨g,0,none⟩),.agg #[.int .i64 n.kind,.float .f64 n.val,.int .i64 n.a,.int .i64 n.b]] w (RetV w (.bool true)):=by
 obtain⟨kind,val,na,nb⟩:=n;obtain⟨ok,hf,ha,hb⟩:=hn;simp only at hf ha hb hv;obtain⟨w1,hw1,hb1,hs1,b1⟩:=pro1 w (.cells #[.int .i64 kind,.float .f64 val,.int .i64 na,.int .i64 nb] 102);obtain⟨c0,c1,c2,c3⟩:=aD b1;have HV:=hdd (agX (w:=w1) ok);have HB:=hdd hb1;have hk:kind=0\/kind=5\/(kind=1\/kind=2\/kind=3\/kind=4):=by
  rcases ok with h|h|h
  . exact Or.inl h.1
  . exact Or.inr (Or.inr h.1)
  . exact Or.inr (Or.inl h.1)
 have HD:=hdd hd;have HHA:Hid (kind≠0->∀w',Below w.heap.size w w'->Calls Tryz.prog 101 #[.pointer (some ⟨g,0,none⟩),.int .i64 na] w' (RetV w' (.bool true))):=hdd fun h w' hb=>ae4 (hd.below hb) (ha h).1 (ha h).2;have HHB:Hid (kind≠0->kind≠5->∀w',Below w.heap.size w w'->Calls Tryz.prog 101 #[.pointer (some ⟨g,0,none⟩),.int .i64 nb] w' (RetV w' (.bool true))):=hdd fun h h5 w' hk=>ae4 (hd.below hk) (hb h h5).1 (hb h h5).2;have HF:Hid (kind=0->∀w',Calls Tryz.prog 63 #[.float .f64 val] w' (RetB w' true)):=hdd fun h w'=>by have:=eZ (w:=w') hv;rwa[decide_eq_true (hf h)]at this
 clear hd ha hb hf hb1 hs1 b1 ok hv;rcases hk with rfl|rfl|rfl|rfl|rfl|rfl
 all_goals
  go_enter Tryz.func97,Tryz.ntmps97
  go_wp2_with fail
  refine HV.out.mono ?_;rintro e w3⟨rfl,hb3⟩;replace c0:=cbl c0 hb3;replace c1:=cbl c1 hb3;replace c2:=cbl c2 hb3;replace c3:=cbl c3 hb3;have HB3:=hdd (aB HB.out hb3);clear hb3;go_wp2_with fail
 . refine(HF.out trivial _).mono ?_
   rintro e w4⟨rfl,hw⟩;obtain rfl:=hw;go_wp2;go_ret;exact⟨rfl,HB3.out⟩
 . refine(HHA.out (by decide) _ HB3.out).mono ?_
   rintro e w4⟨rfl,hb4⟩;have HB4:=hdd (aB HB3.out hb4);clear hb4;go_wp2;go_ret;exact⟨rfl,HB4.out⟩
 all_goals
  refine(HHA.out (by decide) _ HB3.out).mono ?_;rintro e w4⟨rfl,hb4⟩;replace c0:=cbl c0 hb4;replace c1:=cbl c1 hb4;replace c2:=cbl c2 hb4;replace c3:=cbl c3 hb4;have HB4:=hdd (aB HB3.out hb4);clear hb4;go_wp2_with fail
  refine(HHB.out (by decide) (by decide) _ HB4.out).mono ?_;rintro e w5⟨rfl,hb5⟩;have HB5:=hdd (aB HB4.out hb5);clear hb5;go_wp2;go_ret;exact⟨rfl,HB5.out⟩
end
section
open Go.ChangeShapes Go.WideShapes Go.ChangeAt Go.RowKit
open Go.DataW renaming trod->azL,trod_int->azM,TrodAll->azN,Trod->azO
variable{e t:TypeId}{W:World}
def yH : List (String × DataW Unit) := [("math/bits.deBruijn64tab", Rows.laid_math_bits_deBruijn64tab)]
theorem amP:ownKnob Tryz.prog.godebug=none:=by kernel_rfl
theorem yI : Tryz.prog.globalNamed "math/bits.deBruijn64tab" = some 1 := by kernel_rfl
theorem ajW:(Tryz.prog.globals[1]?).map (·.type)=some 274:=by kernel_rfl
theorem amQ:Tryz.prog.underlying 274=some (.array 64 5):=by kernel_rfl
theorem ao1:Tryz.prog.underlying 5=some (.int .u8):=by kernel_rfl
theorem ajX:Tryz.prog.cellsOf 5=1:=by kernel_rfl
theorem agZ:Tryz.prog.cellsOf 274=64:=by kernel_rfl
def tabZ:List Int:=Lib.deBruijn64tab.map fun(x:Nat)=>(x:Int)
theorem amR : yH = [("math/bits.deBruijn64tab", Lib.tabData .u8 tabZ)] := by kernel_rfl
theorem abR(h:laidMetH Tryz.prog yH W):Tab W:=by
 rw[MakeChecks.laidMetH_plain _ _ _ (by kernel_rfl),amR]at h;have hT:=Lib.tabIs_of_head yI ajW amQ ao1 ajX agZ h;intro j hj;have hl:tabZ.length=Lib.deBruijn64tab.length:=by simp[tabZ]
 have:=hT.cell yI j (by omega);rw[this];have e:tabZ.getD j 0=((Lib.deBruijn64tab.getD j 0:Nat):Int):=by
  simp only[tabZ,List.getD_eq_getElem?_getD,List.getElem?_map];rw[List.getElem?_eq_getElem hj];rfl
 rw[e]
theorem ao2(h:Tab W):1<W.heap.size:=World.block_lt_of_cell? W _ (h 0 (by decide))
section
variable{H:Type}{enc:TypeId×Value->H}
theorem ag0{f:Func}{s:ChangeSpec}{W':World}{args:Array Value}{ds:List (DataW H)}{before:List MemPlace}
 (hW:DataW.Whole enc Tryz.prog f.params.toList s.vars false W args.toList ds [] before) (hv:s.vars=[]) (hr:f.resultTypes=#[4]) (hs:s.fn H (ds++[])={results:=[.lit (.bool true)],args:=ds})
 (hargs:∀sp:Nat->Bool,(∀p∈before,sp p.block=true)->azN enc Tryz.prog W' 0 sp true f.params.toList args.toList ds before) (hb:Below W.heap.size W W'):
 s.post enc Tryz.prog f false true false false W args (.bool true) W':=by
 have hlt:∀p∈before,p.block<W.heap.size:=fun p hp=>hW.lt p hp;have hold:∀p∈before,(fun b=>decide (b<W.heap.size)) p.block=true:=fun p hp=>by simpa using hlt p hp
 have hres:∀(b:Nat) (sp:Nat->Bool) (hd:Bool),azN enc Tryz.prog W' b sp hd f.resultTypes.toList ((Value.bool true).resultList f.resultTypes.size) [.lit (.bool true)] []:=by
  intro b sp hd;rw[hr];exact trodAll_cons_mk (shut_bool Tryz.underlying4 _) trodAll_mk0
 have hvars:∀sp:Nat->Bool,DataW.TrodVars enc Tryz.prog W' sp s.vars [] []:=fun sp=>by rw[hv];rfl
 refine⟨ds,[],before,[],before,[],hW,?_,?_,?_,?_,fun h=>by cases h⟩
 . rw[hs];exact hres _ _ _
 . rw[hs];exact hargs _ hold
 . rw[hs];exact hvars _
 . refine World.keptBut_mono (fun p hp=> ?_) (hb.frame (· ∈before))
   exact⟨hp,by simpa using hp⟩
end
section
variable{H:Type}{enc:TypeId×Value->H}{P:Program}{w:World}{base:Nat}{spare:Nat->Bool}{held:Bool}
end
section
variable{H:Type}{enc:TypeId×Value->H}{P:Program}{w:World}{base:Nat}{spare:Nat->Bool}{held:Bool}
end
theorem yJ:Tryz.prog.cellsOf 3=1:=by kernel_rfl
section
variable{H:Type}{enc:TypeId×Value->H}{P:Program}{w:World}{base:Nat}{spare:Nat->Bool}{held:Bool}
theorem ag1{fuel:Nat}{c0 c1 c2 c3:Value}{x:DataW H×List MemPlace}(ht:P.underlying t=some (.array 4 e))(hce:P.cellsOf e=1)
 (h:azL enc P w base spare held fuel t [c0,c1,c2,c3]=some x):
 ∃y0 y1 y2 y3 n,x=(.agg [y0.1,y1.1,y2.1,y3.1],y0.2++(y1.2++(y2.2++y3.2)))/\azL enc P w base spare held n e [c0]=some y0/\azL enc P w base spare held n e [c1]=some y1/\azL enc P w base spare held n e [c2]=some y2/\azL enc P w base spare held n e [c3]=some y3:=by
 cases fuel with
 |zero=>simp[azL]at h
 |succ n=>
  unfold azL at h;rw[ht]at h;have r2:List.range 4=[0,1,2,3]:=rfl;simp[r2,hce]at h;obtain⟨_,h⟩:=h
  cases h0:azL enc P w base spare held n e [c0]with
  |none=>simp[h0]at h
  |some y0=>
   cases h1:azL enc P w base spare held n e [c1]with
   |none=>simp[h0,h1]at h
   |some y1=>
    cases h2:azL enc P w base spare held n e [c2]with
    |none=>simp[h0,h1,h2]at h
    |some y2=>
     cases h3:azL enc P w base spare held n e [c3]with
     |none=>simp[h0,h1,h2,h3]at h
     |some y3=>
      simp[h0,h1,h2,h3]at h;exact⟨y0,y1,y2,y3,n,h.symm,h0,h1,h2,h3⟩
abbrev an7(k:IntKind)(a b c d:Int):DataW H:=.agg [.lit (.int k a),.lit (.int k b),.lit (.int k c),.lit (.int k d)]
theorem adX{r:Reach}{b0:Nat}{k:IntKind}{v:Value}{d:DataW H}{ps:List MemPlace}(ht:P.underlying t=some (.array 4 e))(he:P.underlying e=some (.int k))(hct:P.cellsOf t=4)(hce:P.cellsOf e=1)
 (hval:Value.okWide P w r b0 t v) (hd:azO enc P w base spare held t v d ps):
 ∃a b c f,v=.agg #[.int k a,.int k b,.int k c,.int k f]/\d=an7 k a b c f/\ps=[]/\(Lit.int k a).wf=true/\(Lit.int k b).wf=true/\(Lit.int k c).wf=true/\(Lit.int k f).wf=true:=by
 obtain⟨cs,rfl,hsz,-⟩:∃cs,v=.agg cs/\cs.size=P.cellsOf t/\Row.okWide P w r b0 t cs:=by
  simpa[Value.okWide,ht]using hval
 rw[hct]at hsz;obtain⟨l⟩:=cs
 match l,hsz with
 |[c0,c1,c2,c3],_=>
  obtain⟨fuel,hf⟩:=hd;obtain⟨y0,y1,y2,y3,m,hx,hy0,hy1,hy2,hy3⟩:=ag1 ht hce hf;obtain⟨x0,e0,rfl,w0⟩:=azM he hy0;obtain⟨x1,e1,rfl,w1⟩:=azM he hy1;obtain⟨x2,e2,rfl,w2⟩:=azM he hy2;obtain⟨x3,e3,rfl,w3⟩:=azM he hy3;simp at e0 e1 e2 e3;subst e0 e1 e2 e3;simp only[Prod.mk.injEq]at hx;exact⟨x0,x1,x2,x3,rfl,hx.1,by simpa using hx.2,w0,w1,w2,w3⟩
theorem adY{k:IntKind}{a b c d:Int}(ht:P.underlying t=some (.array 4 e))(he:P.underlying e=some (.int k))(hct:P.cellsOf t=4)(hce:P.cellsOf e=1)(wa:(Lit.int k a).wf=true)(wb:(Lit.int k b).wf=true)(wc:(Lit.int k c).wf=true)(wd:(Lit.int k d).wf=true):
 azO enc P w base spare held t (.agg #[.int k a,.int k b,.int k c,.int k d]) (an7 k a b c d) []:=
 ⟨2,by simp[azL,Value.cells,ht,he,hct,hce,wa,wb,wc,wd,show List.range 4=[0,1,2,3] from rfl]⟩
end
theorem vL:Tryz.prog.cellsOf 22=4:=by kernel_rfl
end
section
open Go.RowKit Go.Maps
def opsN(n:Nd):List Int:=if n.kind=0 then[]else if n.kind=5 then[n.a]else[n.a,n.b]
def ops2(n:Nd):Int×Int:=if n.kind=0 then(0,0)else if n.kind=5 then(n.a,0)else(n.a,n.b)
theorem yK{n:Nd}{w:World}:Calls Tryz.prog 114 #[jY n] w (fun e w'=>e=.returned (.tuple #[.agg #[.int .i64 (ops2 n).1,.int .i64 (ops2 n).2],.int .i64 ((opsN n).length:Nat)])/\Below w.heap.size w w'):=by
 obtain⟨kind,val,na,nb⟩:=n;unfold jY;obtain⟨w2,hw2,hb2,hs2,b1,b2⟩:=pro2 w (.cells #[.int .i64 kind,.float .f64 val,.int .i64 na,.int .i64 nb] 102) (.cells #[.int .i64 0,.int .i64 0] 56);obtain⟨c0,c1,c2,c3⟩:=aD b1;obtain⟨d0,d1,d2,d3⟩:=aC b2;have HB:=hdd hb2;have S:=fun u v=>hdd (set2 b2 u v);clear hb2 b1 b2 hs2;by_cases h0:kind=0
 . subst h0
   simp only[ops2,opsN,if_true,List.length_nil];go_enter Tryz.func114,Tryz.ntmps114
   go_wp2;obtain⟨x0,x1,-,-⟩:=aC (S (.int .i64 0) (.int .i64 0)).out;refine bodyPost_ret (v:=.tuple #[.agg #[_,_],_]) (by simp[results,Tryz.results114,go_sem,x0,x1];first|exact⟨⟨rfl,rfl⟩,rfl⟩|rfl) rfl ?_;exact⟨rfl,(HB.out.setCell (by simp) _).setCell (by simp) _⟩
 . by_cases h5:kind=5
   . subst h5
     have e1:ops2 ⟨5,val,na,nb⟩=(na,0):=by simp[ops2]
     have e2:(opsN ⟨5,val,na,nb⟩).length=1:=by simp[opsN]
     rw[e1,e2];clear e1 e2 h0;go_enter Tryz.func114,Tryz.ntmps114
     go_wp2;obtain⟨x0,x1,-,-⟩:=aC (S (.int .i64 na) (.int .i64 0)).out;refine bodyPost_ret (v:=.tuple #[.agg #[_,_],_]) (by simp[results,Tryz.results114,go_sem,x0,x1];first|exact⟨⟨rfl,rfl⟩,rfl⟩|rfl) rfl ?_;exact⟨rfl,(HB.out.setCell (by simp) _).setCell (by simp) _⟩
   . have e1:ops2 ⟨kind,val,na,nb⟩=(na,nb):=by simp[ops2,h0,h5]
     have e2:(opsN ⟨kind,val,na,nb⟩).length=2:=by simp[opsN,h0,h5]
     rw[e1,e2];have t0:(kind==0)=false:=beq_eq_false_iff_ne.2 h0;have t5:(kind==5)=false:=beq_eq_false_iff_ne.2 h5;clear e1 e2 h0 h5;go_enter Tryz.func114,Tryz.ntmps114
     go_wp2;obtain⟨x0,x1,-,-⟩:=aC (S (.int .i64 na) (.int .i64 nb)).out;refine bodyPost_ret (v:=.tuple #[.agg #[_,_],_]) (by simp[results,Tryz.results114,go_sem,x0,x1];first|exact⟨⟨rfl,rfl⟩,rfl⟩|rfl) rfl ?_;exact⟨rfl,(HB.out.setCell (by simp) _).setCell (by simp) _⟩
theorem bY:Tryz.prog.underlying 174=some (.map 3 3):=by kernel_rfl
theorem zW:Tryz.prog.underlying 3=some (.int .i64):=by kernel_rfl
theorem mV:Tryz.prog.underlying 147=some (.slice 3):=by kernel_rfl
theorem aO:Keyed Tryz.prog 3:=int_keyed zW
theorem vM:(Tryz.prog.info? 3).map (fun i=>(i.zero,i.size,i.bytes))=some (some (.int .i64 0),1,8):=by kernel_rfl
theorem fD(w:World):(zeroValue 3).run Tryz.prog w=.ok (.int .i64 0) w:=by kernel_rfl
theorem kC{i:Int}(h:-9223372036854775808<=i/\i<9223372036854775808):keyOf Tryz.prog 3 (.int .i64 i)=some (.int .i64 i):=keyOf_int_mk zW (by
 have e1:IntKind.i64.min=-9223372036854775808:=rfl;have e2:IntKind.i64.max=9223372036854775807:=rfl;simp[Lit.wf,e1,e2];omega)
def bM(l:List Nat):List Value:=l.map fun(x:Nat)=>Value.int .i64 (x:Int)
def VS(w:World)(gv gs mb:Nat)(sv:Value)(vis st:List Nat):Prop:=
 ∃m,w.heap[gv]? =some (.cells #[.map (some mb)] 174 (0,0))/\w.heap[gs]? =some (.cells #[sv] 147 (0,0))/\MapP Tryz.prog 3 w mb m/\
  (∀i:Nat,m (.int .i64 (i:Int))=if i∈vis then some (.int .i64 1)else none)/\w.ownsRow 0 3 1 sv st.length (bM st)/\gv≠gs/\mb≠gs/\mb≠gv/\sv.ownBlock≠some gs/\sv.ownBlock≠some gv/\sv.ownBlock≠some mb
end
end Go.Proofs.YtjdgaogkioabeaaGreatDoor
