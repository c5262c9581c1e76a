/- A part of the proof: contracts of functions and plain laws (Map, DagA, DagB, LawK, LawF, LawP, LawA, WalkA). -/
import Derived.Test.YtaojpfcboainmaaGreatDoorK01
import Derived.Maps.OwnSet
import Derived.Test.YtaojpfcboainmaaGreatDoorK11
import Derived.Test.YtaojpfcboainmaaGreatDoorK08
import Derived.Test.YtaojpfcboainmaaGreatDoorRows
import Derived.ProofKit
import Derived.OpenShut
import Derived.LaidMore
import Derived.Lay
import Derived.Lib.LaidTab
import Derived.Stop.Joined
set_option linter.unusedVariables false
set_option linter.unusedSimpArgs false
set_option maxHeartbeats 25600000
set_option maxRecDepth 100000
namespace Go.Proofs.YtaojpfcboainmaaGreatDoor
open Go.RowKit Go.Maps Go.ChangeMaps
open _root_.Array renaming toList_push->ayT
open Go.MapKept renaming run_getObj_map->ayN,run_setObj_map->ayR
open Go.Result renaming andThen->ayO
open List renaming mem_iff_getElem?->ayP,getElem?_eq_some_iff->ayQ,mem_singleton->ayS,mem_eraseIdx_iff_getElem?->ayU,mem_of_getElem?->ayV,getElem?_set->ayW,mem_append->ayX,eraseIdx_sublist->ayY
variable{m':Value->Option Value}
def MapP(P:Program)(k:TypeId)(w:World)(b:Nat)(m:Value->Option Value):Prop:=
 ∃es clock,w.heap[b]? =some (.map es clock)/\(∀e∈es.toList,∃l,keyOf P k e.key=some l)/\(es.toList.map (·.key)).Nodup/\(∀e∈es.toList,m e.key=some e.val)/\∀key,(∀e∈es.toList,e.key≠key)->m key=none
def Upd(m:Value->Option Value)(key:Value)(o:Option Value)(m':Value->Option Value):Prop:=m' key=o/\∀x,x≠key->m' x=m x
theorem lI(m:Value->Option Value)(key:Value)(o:Option Value):∃m',Upd m key o m':=by
 classical
 exact⟨fun x=>if x=key then o else m x,by simp,fun x hx=>by simp[hx]⟩
section
variable{P:Program}{k e t:TypeId}{w w':World}{b:Nat}{m:Value->Option Value}
theorem MapP.lt (h:MapP P k w b m):b<w.heap.size:=by obtain⟨es,clock,hb,-⟩:=h;exact(Array.getElem?_eq_some_iff.1 hb).1
theorem MapP.keep (h:MapP P k w b m)(hb:w'.heap[b]? =w.heap[b]?):MapP P k w' b m:=by
 obtain⟨es,clock,h1,h2⟩:=h;exact⟨es,clock,hb.trans h1,h2⟩
theorem MapP.below {B:Nat}(h:MapP P k w b m)(hb:Below B w w')(hB:b<B):MapP P k w' b m:=h.keep (hb.block b hB)
theorem MapP.made {es:Array MapEntry}(h:w.heap[b]? =some (.map #[] 0)):MapP P k w b (fun _=>none):=
 ⟨#[],0,h,by simp,by simp,by simp,by simp⟩
theorem MapP.look (h:MapP P k w b m)(K:Keyed P k)(ht:P.underlying t=some (.map k e)){z:Value}(hz:(zeroValue e).run P w=.ok z w){key:Value}{kl:Lit}(hkey:keyOf P k key=some kl)(c:Bool):
 (Instr.lookup t (.map (some b)) key c).run P w=.ok (if c then .tuple #[(m key).getD z,.bool (m key).isSome]else(m key).getD z) w:=by
 obtain⟨es,clock,hb,hk,hn,hm,h0⟩:=h;rcases K.find w hkey es.toList hk with ⟨h1,h2⟩|⟨j,e0,h1,h2,h3⟩
 . rw[h0 key h2]
   simp[Instr.lookup,run_underlying ht,ayN hb,K.check w _ hkey,h1,hz,ayO]
 . have:=hm e0 (ayV h2)
   rw[h3]at this;rw[this];simp[Instr.lookup,run_underlying ht,ayN hb,K.check w _ hkey,h1,ayO]
theorem abF{es:List MapEntry}(hn:(es.map (·.key)).Nodup){j i:Nat}{a c:MapEntry}(hj:es[j]? =some a)(hi:es[i]? =some c)(h:a.key=c.key):j=i:=by
 obtain⟨j1,j2⟩:=ayQ.1 hj;obtain⟨i1,i2⟩:=ayQ.1 hi;have hp:=List.pairwise_iff_getElem.1 hn;rcases Nat.lt_trichotomy j i with hji|hji|hji
 . exact(hp j i (by simpa using j1) (by simpa using i1) hji (by simp[j2,i2,h])).elim
 . exact hji
 . exact(hp i j (by simpa using i1) (by simpa using j1) hji (by simp[j2,i2,h])).elim
theorem MapP.store (h:MapP P k w b m)(K:Keyed P k)(ht:P.underlying t=some (.map k e)){key val:Value}{kl:Lit}(hkey:keyOf P k key=some kl)(hu:Upd m key (some val) m'):
 ∃w',(Instr.mapUpdate t (.map (some b)) key val).run P w=.ok () w'/\MapP P k w' b m'/\w.grownBy w' (some b)/\w'.heap.size=w.heap.size:=by
 obtain⟨es,clock,hb,hk,hn,hm,h0⟩:=h;obtain⟨u1,u2⟩:=hu;have grown:∀o,w.grownBy (setBlock w b o) (some b):=fun o=>⟨rfl,rfl,rfl,by simp[setBlock],fun i _ hi=>heap_setBlock_other hb _ (fun e=>hi (by rw[e]))⟩;rcases K.find w hkey es.toList hk with ⟨h1,h2⟩|⟨j,e0,h1,h2,h3⟩
 . refine⟨setBlock w b (.map (es.push ⟨key,val,clock⟩) (clock+1)),?_,⟨_,_,heap_setBlock_same hb _,?_,?_,?_,?_⟩,grown _,by simp[setBlock]⟩
   . simp[Instr.mapUpdate,run_underlying ht,ayN hb,K.check w false hkey,h1,ayR _ hb,ayO,setBlock]
   . intro x hx
     simp only[ayT,ayX,ayS]at hx;rcases hx with hx|rfl
     . exact hk x hx
     . exact⟨kl,hkey⟩
   . simp only[ayT,List.map_append,List.map_cons,List.map_nil]
     refine List.nodup_append.2 ⟨hn,by simp,?_⟩;intro a ha c hc;obtain⟨x,hx,rfl⟩:=List.mem_map.1 ha;simp only[ayS]at hc;subst hc;exact h2 x hx
   . intro x hx
     simp only[ayT,ayX,ayS]at hx;rcases hx with hx|rfl
     . rw[u2 _ (h2 x hx)];exact hm x hx
     . exact u1
   . intro x hx
     simp only[ayT,ayX,ayS]at hx;have hxk:x≠key:=fun hh=>hx ⟨key,val,clock⟩ (Or.inr rfl) hh.symm;rw[u2 _ hxk];exact h0 x fun y hy=>hx y (Or.inl hy)
 . have hj:es[j]? =some e0:=by simpa using h2
   have hlist:(es.modify j (fun e'=>{e' with key:=key,val:=val})).toList=es.toList.set j {e0 with key:=key,val:=val}:=by rw[Array.toList_modify,modify_eq_set _ _ _ _ h2]
   refine⟨setBlock w b (.map (es.modify j (fun e'=>{e' with key:=key,val:=val})) clock),?_,⟨_,_,heap_setBlock_same hb _,?_,?_,?_,?_⟩,grown _,by simp[setBlock]⟩
   . simp[Instr.mapUpdate,run_underlying ht,ayN hb,K.check w false hkey,h1,hj,h3,K.stays w hkey,ayR _ hb,ayO,setBlock]
   . intro x hx
     rw[hlist]at hx;rcases List.mem_or_eq_of_mem_set hx with hx|rfl
     . exact hk x hx
     . exact⟨kl,hkey⟩
   . rw[hlist,List.map_set]
     have:(es.toList.map (·.key)).set j key=es.toList.map (·.key):=by
      apply List.ext_getElem?;intro i;rw[ayW]
      split
      . rename_i hij
        subst hij
        split
        . rw[List.getElem?_map,h2,<-h3];rfl
        . rename_i hlt;rw[List.getElem?_eq_none (by omega)]
      . rfl
     rw[this];exact hn
   . intro x hx
     rw[hlist]at hx;obtain⟨i,hi⟩:=ayP.1 hx;rw[ayW]at hi
     split at hi
     . split at hi
       . cases hi;exact u1
       . cases hi
     . rename_i hij
       rw[u2]
       . exact hm x (ayV hi)
       . intro hh
         exact hij (abF hn h2 hi (by rw[h3,hh]))
   . intro x hx
     rw[hlist]at hx;have hxk:x≠key:=fun hh=>hx {e0 with key:=key,val:=val} (ayP.2 ⟨j,List.getElem?_set_self (ayQ.1 h2).1⟩) hh.symm;rw[u2 _ hxk];refine h0 x fun y hy=> ?_;obtain⟨i,hi⟩:=ayP.1 hy;by_cases hij:j=i
     . subst hij;rw[h2]at hi;cases hi;rw[h3];exact fun hh=>hxk hh.symm
     . exact hx y (ayP.2 ⟨i,by rw[ayW,if_neg hij];exact hi⟩)
theorem MapP.drop (h:MapP P k w b m)(K:Keyed P k)(ht:P.underlying t=some (.map k e)){key:Value}{kl:Lit}(hkey:keyOf P k key=some kl)(ty:TypeId)(hu:Upd m key none m'):
 ∃w',(Builtin.delete_ #[t,k] ty #[.map (some b),key]).run P w=.ok (.tuple #[]) w'/\MapP P k w' b m'/\w.grownBy w' (some b)/\w'.heap.size=w.heap.size:=by
 obtain⟨es,clock,hb,hk,hn,hm,h0⟩:=h;obtain⟨u1,u2⟩:=hu;have grown:∀o,w.grownBy (setBlock w b o) (some b):=fun o=>⟨rfl,rfl,rfl,by simp[setBlock],fun i _ hi=>heap_setBlock_other hb _ (fun e=>hi (by rw[e]))⟩;rcases K.find w hkey es.toList hk with ⟨h1,h2⟩|⟨j,e0,h1,h2,h3⟩
 . refine⟨setBlock w b (.map es clock),?_,⟨_,_,heap_setBlock_same hb _,hk,hn,?_,?_⟩,grown _,by simp[setBlock]⟩
   . simp[Builtin.delete_,run_underlying ht,ayN hb,K.check w _ hkey,h1,ayR _ hb,ayO,setBlock]
   . intro x hx;rw[u2 _ (h2 x hx)];exact hm x hx
   . intro x hx
     by_cases hxk:x=key
     . rw[hxk];exact u1
     . rw[u2 _ hxk];exact h0 x hx
 . have hjl:j<es.toList.length:=(ayQ.1 h2).1
   have hjs:j<es.size:=by simpa using hjl
   have hsub:(es.eraseIdxIfInBounds j).toList=es.toList.eraseIdx j:=by
    unfold Array.eraseIdxIfInBounds;rw[dif_pos hjs];simp
   refine⟨setBlock w b (.map (es.eraseIdxIfInBounds j) clock),?_,⟨_,_,heap_setBlock_same hb _,?_,?_,?_,?_⟩,grown _,by simp[setBlock]⟩
   . simp[Builtin.delete_,run_underlying ht,ayN hb,K.check w _ hkey,h1,ayR _ hb,ayO,setBlock]
   . intro x hx
     rw[hsub]at hx;exact hk x ((ayY _ _).subset hx)
   . rw[hsub]
     exact hn.sublist ((ayY _ _).map _)
   . intro x hx
     rw[hsub]at hx;obtain⟨i,hne,hi⟩:=ayU.1 hx;rw[u2]
     . exact hm x (ayV hi)
     . intro hh
       exact hne (abF hn hi h2 (by rw[h3,hh]))
   . intro x hx
     rw[hsub]at hx;by_cases hxk:x=key
     . rw[hxk];exact u1
     . rw[u2 _ hxk]
       refine h0 x fun y hy=> ?_;obtain⟨i,hi⟩:=ayP.1 hy;by_cases hij:i=j
       . subst hij;rw[h2]at hi;cases hi;rw[h3];exact fun hh=>hxk hh.symm
       . exact hx y (ayU.2 ⟨i,hij,hi⟩)
end
section
variable{P:Program}(w:World){ops:Array Oper}{rest:List Oper}{o:Oper}{a:Act}{Q:Exit->Act->World->Prop}
theorem sI(hg:o.guard=none)(mo x:Operand)(t:TypeId)(c:Bool)(hop:o.op=Op.lookup t mo x c)
 (k e:TypeId) (K:Keyed P k) (ht:P.underlying t=some (.map k e)) {z:Value} (hz:(zeroValue e).run P w=.ok z w) (b:Nat) (m:Value->Option Value)
 (hm:a.eval mo=.map (some b)) (hown:MapP P k w b m) (key:Value) (kl:Lit) (hx:a.eval x=key) (hkey:keyOf P k key=some kl)
 (hK:wpList P ops Q rest (a.put o.dst (if c then .tuple #[(m key).getD z,.bool (m key).isSome]else(m key).getD z)) w):
 wpList P ops Q (o::rest) a w:=by
 refine wpList_plain hg fun K' hK'=> ?_;have hrun:=hown.look K ht hz hkey c;generalize (if c then Value.tuple #[(m key).getD z,.bool (m key).isSome]else(m key).getD z)=R at hrun hK;unfold Oper.wp;simp[execOp,hop,hm,hx,hrun,ayO];exact hK' _ _ hK
theorem bK(hg:o.guard=none)(mo x:Operand)(t:TypeId)(hop:o.op=Op.lookup t mo x false)
 (k e:TypeId) (K:Keyed P k) (ht:P.underlying t=some (.map k e)) {z:Value} (hz:(zeroValue e).run P w=.ok z w) (b:Nat) (m:Value->Option Value)
 (hm:a.eval mo=.map (some b)) (hown:MapP P k w b m) (key:Value) (kl:Lit) (hx:a.eval x=key) (hkey:keyOf P k key=some kl) (v:Value) (hv:(m key).getD z=v)
 (hK:wpList P ops Q rest (a.put o.dst v) w):
 wpList P ops Q (o::rest) a w:=
 sI w hg mo x t false hop k e K ht hz b m hm hown key kl hx hkey (by rw[hv];exact hK)
theorem jQ(hg:o.guard=none)(mo x:Operand)(t:TypeId)(hop:o.op=Op.lookup t mo x true)
 (k e:TypeId) (K:Keyed P k) (ht:P.underlying t=some (.map k e)) {z:Value} (hz:(zeroValue e).run P w=.ok z w) (b:Nat) (m:Value->Option Value)
 (hm:a.eval mo=.map (some b)) (hown:MapP P k w b m) (key:Value) (kl:Lit) (hx:a.eval x=key) (hkey:keyOf P k key=some kl) (v:Value) (hv:(m key).getD z=v) (c:Bool) (hc:(m key).isSome=c)
 (hK:wpList P ops Q rest (a.put o.dst (.tuple #[v,.bool c])) w):
 wpList P ops Q (o::rest) a w:=
 sI w hg mo x t true hop k e K ht hz b m hm hown key kl hx hkey (by rw[hv,hc];exact hK)
theorem eX(hg:o.guard=none)(mo x v:Operand)(t:TypeId)(hop:o.op=Op.mapUpdate t mo x v)
 (k e:TypeId) (K:Keyed P k) (ht:P.underlying t=some (.map k e)) (b:Nat) (m m':Value->Option Value)
 (hm:a.eval mo=.map (some b)) (hown:MapP P k w b m) (key val:Value) (kl:Lit) (hx:a.eval x=key) (hv:a.eval v=val) (hkey:keyOf P k key=some kl) (hu:Upd m key (some val) m')
 (hK:∀w',Hid (MapP P k w' b m')->w.grownBy w' (some b)->w'.heap.size=w.heap.size->wpList P ops Q rest (a.put o.dst undef) w'):
 wpList P ops Q (o::rest) a w:=by
 refine wpList_plain hg fun K' hK'=> ?_;obtain⟨w',hrun,r1,r2,r3⟩:=hown.store K ht hkey hu;unfold Oper.wp;simp[execOp,hop,hm,hx,hv,hrun,ayO];exact hK' _ _ (hK w' (hdd r1) r2 r3)
theorem abG(hg:o.guard=none)(mo x:Operand)(t k:TypeId)(hop:o.op=Op.call {callee:=Callee.builtin Builtin.delete,args:=#[mo,x],argTypes:=#[t,k]})
 (e:TypeId) (K:Keyed P k) (ht:P.underlying t=some (.map k e)) (b:Nat) (m m':Value->Option Value)
 (hm:a.eval mo=.map (some b)) (hown:MapP P k w b m) (key:Value) (kl:Lit) (hx:a.eval x=key) (hkey:keyOf P k key=some kl) (hu:Upd m key none m')
 (hK:∀w',Hid (MapP P k w' b m')->w.grownBy w' (some b)->w'.heap.size=w.heap.size->wpList P ops Q rest (a.put o.dst (.tuple #[])) w'):
 wpList P ops Q (o::rest) a w:=by
 refine wpList_plain hg fun K' hK'=> ?_;obtain⟨w',hrun,r1,r2,r3⟩:=hown.drop K ht hkey o.type hu;unfold Oper.wp;simp[execOp,hop,resolve,invoke,builtin,hm,hx,hrun,ayO];exact hK' _ _ (hK w' (hdd r1) r2 r3)
end
end Go.Proofs.YtaojpfcboainmaaGreatDoor
namespace Go.Proofs.YtaojpfcboainmaaGreatDoor
open Go.RowKit Go.Maps
open List renaming getElem?_eq_some_iff->ayZ
variable{ns:List Nd}{g i:Nat}{n:Nd}{T:TypeId}{a b c d:Value}{w:World}
def gJ(n:Nd):List Value:=[.int .i64 n.kind,.float .f64 n.val,.int .i64 n.a,.int .i64 n.b]
def fC(ns:List Nd):List Value:=ns.flatMap gJ
def keyV(n:Nd):Value:=.agg #[.int .i64 n.kind,.int .i64 n.a,.int .i64 n.b,.int .u64 (n.val:Int)]
theorem zS(h:ns[i]? =some n)(j:Nat)(hj:j<4):(fC ns)[i*4+j]? =(gJ n)[j]? :=by
 induction ns generalizing i with
 |nil=>simp at h
 |cons m ns ih=>
  have e:fC (m::ns)=gJ m++fC ns:=by simp[fC]
  rw[e]
  cases i with
  |zero=>
   simp at h;subst h;rw[List.getElem?_append_left (by simp[gJ];omega)];simp
  |succ i=>
   rw[List.getElem?_append_right (by simp[gJ];omega)];have:(i+1)*4+j-(gJ m).length=i*4+j:=by simp[gJ];omega
   rw[this];exact ih (by simpa using h)
def KeyOk(ns:List Nd)(m:Value->Option Value):Prop:=
 (∀key val,m key=some val->∃(i:Nat) (n:Nd),ns[i]? =some n/\val=.int .i64 (i:Int)/\keyV n=key)/\∀(i:Nat) (n:Nd),ns[i]? =some n->m (keyV n)=some (.int .i64 (i:Int))
def Uniq(ns:List Nd):Prop:=∀(i j:Nat) (n:Nd),ns[i]? =some n->ns[j]? =some n->i=j
theorem KeyOk.uniq {m:Value->Option Value}(h:KeyOk ns m):Uniq ns:=by
 intro i j n hi hj;have h1:=h.2 i n hi;rw[h.2 j n hj]at h1;simp only[Option.some.injEq,Value.int.injEq,true_and]at h1;omega
def DagP(w:World)(g:Nat)(ns:List Nd):Prop:=
 ∃v mb m,w.heap[g]? =some (.cells #[v,.map (some mb)] 70 (0,0))/\w.ownsRow 0 109 4 v ns.length (fC ns)/\MapP Tryz.prog 187 w mb m/\
  KeyOk ns m/\v.ownBlock≠some g/\mb≠g/\v.ownBlock≠some mb/\ns.length<=20000/\∀n∈ns,n.val<18446744073709551616
theorem kM{base:Nat}{e:TypeId}{size:Nat}{v:Value}{n:Nat}{xs:List Value}(h:w.ownsRow base e size v n xs):∀k,v.ownBlock=some k->k<w.heap.size:=fun k hk=>(h.lt k hk).2
theorem DagP.below {w':World}(h:DagP w g ns)(hb:Below w.heap.size w w'):DagP w' g ns:=by
 obtain⟨v,mb,m,h1,h2,h3,h4,h5,h6,h7,h8,h9⟩:=h;refine⟨v,mb,m,hbl h1 hb,h2.kept (bQ (row:=none) hb) ?_,h3.below hb h3.lt,h4,h5,h6,h7,h8,h9⟩
 cases hv:v.ownBlock
 . exact Or.inl rfl
 . exact Or.inr (by simp)
theorem DagP.len (h:DagP w g ns):ns.length<=20000:=by obtain⟨v,mb,m,h1,h2,h3,h4,h5,h6,h7,h8,h9⟩:=h;exact h8
theorem DagP.val (h:DagP w g ns)(hi:ns[i]? =some n):n.val<18446744073709551616:=by obtain⟨v,mb,m,h1,h2,h3,h4,h5,h6,h7,h8,h9⟩:=h;exact h9 n (List.mem_of_getElem? hi)
theorem DagP.uniq (h:DagP w g ns):Uniq ns:=by obtain⟨v,mb,m,h1,h2,h3,h4,h5,h6,h7,h8,h9⟩:=h;exact h4.uniq
theorem DagP.glt (h:DagP w g ns):g<w.heap.size:=by obtain⟨v,mb,m,h1,-⟩:=h;exact aG h1
theorem DagP.slice (h:DagP w g ns):∃A c,w.cell? ⟨g,0,none⟩=some (.slice A ns.length c)/\ns.length<=c/\c<=maxLen/\
 ∀i n,ns[i]? =some n->∃r,A=some ⟨r,0,none⟩/\∀j u,(gJ n)[j]? =some u->w.cell? ⟨r,i*4+j,none⟩=some u:=by
 obtain⟨v,mb,m,h1,h2,-⟩:=h;obtain⟨c0,-,-,-⟩:=aF h1;rcases id h2.2 with ⟨rfl,hn⟩|⟨r,cap,cur,rfl,hr,hh,hcap,hmax,hsz,hcur⟩
 . refine⟨none,0,by rw[hn];exact c0,by omega,by unfold maxLen;omega,fun i n hi=> ?_⟩
   have:=(ayZ.1 hi).1;omega
 . refine⟨some ⟨r,0,none⟩,cap,c0,hcap,hmax,fun i n hi=>⟨r,rfl,fun j u hu=> ?_⟩⟩
   have hj:j<4:=by have:=(ayZ.1 hu).1;simpa[gJ]using this
   have hi':=(ayZ.1 hi).1;rw[h2.cellAt (i*4+j) (by omega),zS hi j hj];exact hu
theorem zT(hd:DagP w g ns)(hi:i<ns.length):
 Calls Tryz.prog 102 #[.pointer (some ⟨g,0,none⟩),.int .i64 i] w (fun e w'=>e=.returned (.bool true)/\w=w'):=by
 obtain⟨A,c,c0,-,-,-⟩:=hd.slice;have h0:(0:Int)<=(i:Int):=by omega
 have h1:(i:Int)<(ns.length:Int):=by omega
 clear hd;go_enter Tryz.func102,Tryz.ntmps102
 go_wp2;go_ret;exact⟨rfl,rfl⟩
theorem vM(h:w.heap[g]? =some (.cells #[a,b,c,d] T (0,0))):
 w.frozen? ⟨g,0,none⟩=false/\w.frozen? ⟨g,1,none⟩=false/\w.frozen? ⟨g,2,none⟩=false/\w.frozen? ⟨g,3,none⟩=false:=by
 refine⟨?_,?_,?_,?_⟩<;>simp[World.frozen?,h]
theorem set4(h:w.heap[g]? =some (.cells #[a,b,c,d] T (0,0)))(u v x y:Value):
 ((((w.setCell ⟨g,0,none⟩ u).setCell ⟨g,1,none⟩ v).setCell ⟨g,2,none⟩ x).setCell ⟨g,3,none⟩ y).heap[g]? =some (.cells #[u,v,x,y] T (0,0)):=by
 have hg:g<w.heap.size:=(Array.getElem?_eq_some_iff.1 h).1;have h':w.heap[g]=.cells #[a,b,c,d] T (0,0):=(Array.getElem?_eq_some_iff.1 h).2;simp[World.setCell,hg,Array.getElem_modify,h']
theorem abH(hd:DagP w g ns)(hi:ns[i]? =some n):
 Calls Tryz.prog 89 #[.pointer (some ⟨g,0,none⟩),.int .i64 i] w (fun e w'=>e=.returned (.tuple #[kL n,.bool true])/\Below w.heap.size w w'):=by
 obtain⟨w1,hw1,hb1,hs1,b1⟩:=pro1 w (.cells #[.int .i64 0,.float .f64 0,.int .i64 0,.int .i64 0] 109);have hlt:=(ayZ.1 hi).1;have HD1:=hdd (hd.below hb1);obtain⟨A,c,c0,hc1,hc2,hel⟩:=HD1.out.slice;obtain⟨r,rfl,hcell⟩:=hel i n hi;have HH:=hdd (zT (w:=w1) (i:=i) HD1.out hlt);have HB:=hdd hb1;have B1:=hdd b1;obtain⟨d0,d1,d2,d3⟩:=aW b1;obtain⟨f0,f1,f2,f3⟩:=vM b1;obtain⟨kind,val,na,nb⟩:=n;have e0:w1.cell? ⟨r,i*4,none⟩=some (.int .i64 kind):=hcell 0 _ rfl;have e1:=hcell 1 _ rfl;have e2:=hcell 2 _ rfl;have e3:=hcell 3 _ rfl;have h0:(0:Int)<=(i:Int):=by omega
 have h1:(i:Int)<(ns.length:Int):=by omega
 have hst:=aY;have S1:=hdd (set4 b1 (.int .i64 kind) (.float .f64 val) (.int .i64 na) (.int .i64 nb));clear hd hel hcell hb1 hs1 hi hc1 hc2 b1;unfold kL;dsimp only at e0 e1 e2 e3|-;go_enter Tryz.func89,Tryz.ntmps89
 go_wp2_with fail
 refine HH.out.mono ?_;rintro e w2⟨rfl,hw⟩;obtain rfl:=hw;go_wp2_with fail
 go_wp2;obtain⟨x0,x1,x2,x3⟩:=aW S1.out;refine bodyPost_ret (v:=.tuple #[.agg #[_,_,_,_],_]) (by simp[results,Tryz.results89,go_sem,x0,x1,x2,x3];first|exact⟨⟨rfl,rfl,rfl,rfl⟩,rfl⟩|rfl) rfl ?_;exact⟨rfl,(((HB.out.setCell (by simp) _).setCell (by simp) _).setCell (by simp) _).setCell (by simp) _⟩
def RetV(w:World)(v:Value)(e:Ending)(w':World):Prop:=e=.returned v/\Below w.heap.size w w'
theorem agH:Calls Tryz.prog 116 #[.agg #[.int .i64 n.kind,.float .f64 n.val,.int .i64 n.a,.int .i64 n.b]] w (RetV w (keyV n)):=by
 obtain⟨kind,val,na,nb⟩:=n;unfold keyV;obtain⟨w1,hw1,hb1,hs1,b1⟩:=pro1 w (.cells #[.int .i64 kind,.float .f64 val,.int .i64 na,.int .i64 nb] 109);obtain⟨w2,hw2,hb2,hs2,b2⟩:=pro1 w1 (.cells #[.int .i64 0,.int .i64 0,.int .i64 0,.int .u64 0] 187);obtain⟨c0,c1,c2,c3⟩:=aW (hbl b1 hb2);obtain⟨d0,d1,d2,d3⟩:=aW b2;obtain⟨f0,f1,f2,f3⟩:=vM b2;have HFF:=hdd (set4 b2 (.int .i64 kind) (.int .i64 na) (.int .i64 nb) (.int .u64 (val:Int)));have hk:w.heap.size<=w1.heap.size:=hb1.size;have HB:=hdd ((((((aC hb1 hb2).setCell (p:=⟨w1.heap.size,0,none⟩) hk (.int .i64 kind)).setCell (p:=⟨w1.heap.size,1,none⟩) hk (.int .i64 na)).setCell (p:=⟨w1.heap.size,2,none⟩) hk (.int .i64 nb)).setCell (p:=⟨w1.heap.size,3,none⟩) hk (.int .u64 (val:Int))).drew);have hne:w.heap.size≠w1.heap.size:=by omega
 have hbits:=fG val;clear hb1 hb2 hs1 hs2 b1 b2 hk;go_enter Tryz.func116,Tryz.ntmps116
 go_wp2
 go_region
 all_goals
  go_wp2;obtain⟨x0,x1,x2,x3⟩:=aW HFF.out;refine bodyPost_ret (v:=.agg #[_,_,_,_]) (by simp[results,Tryz.results116,go_sem,x0,x1,x2,x3];first|exact⟨rfl,rfl,rfl,rfl⟩|rfl) rfl ?_;exact⟨rfl,HB.out⟩
theorem tY{v:Int}(h:0<=v/\v<=65535):Calls Tryz.prog 138 #[.int .i64 v] w (RetV w (.bool true)):=by
 have h1:=h.1;have h2:=h.2;go_enter Tryz.func138,Tryz.ntmps138
 go_wp2;go_ret;exact⟨rfl,Below.refl _ _⟩
def NdOk(n:Nd):Prop:=n.kind=0/\n.a=0/\n.b=0\/(n.kind=1\/n.kind=2\/n.kind=3\/n.kind=4)/\n.val=0/\(0<=n.a/\n.a<=65535)/\(0<=n.b/\n.b<=65535)\/n.kind=5/\n.val=0/\(0<=n.a/\n.a<=65535)/\n.b=0
theorem agI(h:NdOk n):Calls Tryz.prog 128 #[.agg #[.int .i64 n.kind,.float .f64 n.val,.int .i64 n.a,.int .i64 n.b]] w (RetV w (.bool true)):=by
 obtain⟨kind,val,na,nb⟩:=n;obtain⟨w1,hw1,hb1,hs1,b1⟩:=pro1 w (.cells #[.int .i64 kind,.float .f64 val,.int .i64 na,.int .i64 nb] 109);obtain⟨c0,c1,c2,c3⟩:=aW b1;have HB:=hdd hb1;have hbits:=fG;clear hb1 hs1 b1;rcases h with ⟨h1,h2,h3⟩|⟨h1,h2,h3,h4⟩|⟨h1,h2,h3,h4⟩
 . simp only at h1 h2 h3
   subst h1;subst h2;subst h3;go_enter Tryz.func128,Tryz.ntmps128
   go_wp2;go_ret;exact⟨rfl,HB.out⟩
 . simp only at h1 h2 h3 h4
   subst h2;have HA:Hid (∀w',Calls Tryz.prog 138 #[.int .i64 na] w' (RetV w' (.bool true))):=hdd fun w'=>tY h3;have HB2:Hid (∀w',Calls Tryz.prog 138 #[.int .i64 nb] w' (RetV w' (.bool true))):=hdd fun w'=>tY h4;clear h3 h4;rcases h1 with rfl|rfl|rfl|rfl
   all_goals
    go_enter Tryz.func128,Tryz.ntmps128
    go_wp2_with fail
    refine(HA.out _).mono ?_;rintro e w3⟨rfl,hb3⟩;replace c0:=cbl c0 hb3;replace c1:=cbl c1 hb3;replace c2:=cbl c2 hb3;replace c3:=cbl c3 hb3;have HB3:=hdd (aC HB.out hb3);clear hb3;go_wp2_with fail
    refine(HB2.out _).mono ?_;rintro e w4⟨rfl,hb4⟩;have HB4:=hdd (aC HB3.out hb4);clear hb4;go_wp2;go_ret;exact⟨rfl,HB4.out⟩
 . simp only at h1 h2 h3 h4
   subst h2;subst h1;subst h4;have HA:Hid (∀w',Calls Tryz.prog 138 #[.int .i64 na] w' (RetV w' (.bool true))):=hdd fun w'=>tY h3;have HB2:Hid (∀w',Calls Tryz.prog 138 #[.int .i64 0] w' (RetV w' (.bool true))):=hdd fun w'=>tY (by omega);clear h3;go_enter Tryz.func128,Tryz.ntmps128
   go_wp2_with fail
   refine(HA.out _).mono ?_;rintro e w3⟨rfl,hb3⟩;replace c0:=cbl c0 hb3;replace c1:=cbl c1 hb3;replace c2:=cbl c2 hb3;replace c3:=cbl c3 hb3;have HB3:=hdd (aC HB.out hb3);clear hb3;go_wp2_with fail
   refine(HB2.out _).mono ?_;rintro e w4⟨rfl,hb4⟩;have HB4:=hdd (aC HB3.out hb4);clear hb4;go_wp2;go_ret;exact⟨rfl,HB4.out⟩
theorem aeO{i:Int}(hd:DagP w g ns)(h0:0<=i)(hi:i<ns.length):
 Calls Tryz.prog 102 #[.pointer (some ⟨g,0,none⟩),.int .i64 i] w (RetV w (.bool true)):=by
 have:=zT (i:=i.toNat) hd (by omega);rw[Int.toNat_of_nonneg h0]at this;exact this.mono fun e w' h=>⟨h.1,h.2▸Below.refl _ _⟩
def NdIn(n:Nd)(len:Nat):Prop:=NdOk n/\(n.kind=0->fin n.val)/\(n.kind≠0->(0<=n.a/\n.a<len))/\(n.kind≠0->n.kind≠5->(0<=n.b/\n.b<len))
theorem agJ(hd:DagP w g ns)(hn:NdIn n ns.length)(hv:n.val<18446744073709551616):
 Calls Tryz.prog 115 #[.pointer (some ⟨g,0,none⟩),.agg #[.int .i64 n.kind,.float .f64 n.val,.int .i64 n.a,.int .i64 n.b]] w (RetV w (.bool true)):=by
 obtain⟨kind,val,na,nb⟩:=n;obtain⟨ok,hf,ha,hb⟩:=hn;simp only at hf ha hb hv;obtain⟨w1,hw1,hb1,hs1,b1⟩:=pro1 w (.cells #[.int .i64 kind,.float .f64 val,.int .i64 na,.int .i64 nb] 109);obtain⟨c0,c1,c2,c3⟩:=aW b1;have HV:=hdd (agI (w:=w1) ok);have HB:=hdd hb1;have hk:kind=0\/kind=5\/(kind=1\/kind=2\/kind=3\/kind=4):=by
  rcases ok with h|h|h
  . exact Or.inl h.1
  . exact Or.inr (Or.inr h.1)
  . exact Or.inr (Or.inl h.1)
 have HD:=hdd hd;have HHA:Hid (kind≠0->∀w',Below w.heap.size w w'->Calls Tryz.prog 102 #[.pointer (some ⟨g,0,none⟩),.int .i64 na] w' (RetV w' (.bool true))):=hdd fun h w' hb=>aeO (hd.below hb) (ha h).1 (ha h).2;have HHB:Hid (kind≠0->kind≠5->∀w',Below w.heap.size w w'->Calls Tryz.prog 102 #[.pointer (some ⟨g,0,none⟩),.int .i64 nb] w' (RetV w' (.bool true))):=hdd fun h h5 w' hk=>aeO (hd.below hk) (hb h h5).1 (hb h h5).2;have HF:Hid (kind=0->∀w',Calls Tryz.prog 65 #[.float .f64 val] w' (RetB w' true)):=hdd fun h w'=>by have:=fU (w:=w') hv;rwa[decide_eq_true (hf h)]at this
 clear hd ha hb hf hb1 hs1 b1 ok hv;rcases hk with rfl|rfl|rfl|rfl|rfl|rfl
 all_goals
  go_enter Tryz.func115,Tryz.ntmps115
  go_wp2_with fail
  refine HV.out.mono ?_;rintro e w3⟨rfl,hb3⟩;replace c0:=cbl c0 hb3;replace c1:=cbl c1 hb3;replace c2:=cbl c2 hb3;replace c3:=cbl c3 hb3;have HB3:=hdd (aC HB.out hb3);clear hb3;go_wp2_with fail
 . refine(HF.out trivial _).mono ?_
   rintro e w4⟨rfl,hw⟩;obtain rfl:=hw;go_wp2;go_ret;exact⟨rfl,HB3.out⟩
 . refine(HHA.out (by decide) _ HB3.out).mono ?_
   rintro e w4⟨rfl,hb4⟩;have HB4:=hdd (aC HB3.out hb4);clear hb4;go_wp2;go_ret;exact⟨rfl,HB4.out⟩
 all_goals
  refine(HHA.out (by decide) _ HB3.out).mono ?_;rintro e w4⟨rfl,hb4⟩;replace c0:=cbl c0 hb4;replace c1:=cbl c1 hb4;replace c2:=cbl c2 hb4;replace c3:=cbl c3 hb4;have HB4:=hdd (aC HB3.out hb4);clear hb4;go_wp2_with fail
  refine(HHB.out (by decide) (by decide) _ HB4.out).mono ?_;rintro e w5⟨rfl,hb5⟩;have HB5:=hdd (aC HB4.out hb5);clear hb5;go_wp2;go_ret;exact⟨rfl,HB5.out⟩
end Go.Proofs.YtaojpfcboainmaaGreatDoor
namespace Go.Proofs.YtaojpfcboainmaaGreatDoor
open Go.ChangeShapes Go.WideShapes Go.ChangeAt Go.RowKit
open Go.DataW renaming trod_int->ay0,TrodAll->ay1,Trod->ay2
variable{W:World}
def yI : List (String × DataW Unit) := [("math/bits.deBruijn64tab", Rows.laid_math_bits_deBruijn64tab)]
theorem amB:ownKnob Tryz.prog.godebug=none:=by kernel_rfl
theorem yJ : Tryz.prog.globalNamed "math/bits.deBruijn64tab" = some 1 := by kernel_rfl
theorem ajA:(Tryz.prog.globals[1]?).map (·.type)=some 278:=by kernel_rfl
theorem amC:Tryz.prog.underlying 278=some (.array 64 5):=by kernel_rfl
theorem aoJ:Tryz.prog.underlying 5=some (.int .u8):=by kernel_rfl
theorem ajB:Tryz.prog.cellsOf 5=1:=by kernel_rfl
theorem agK:Tryz.prog.cellsOf 278=64:=by kernel_rfl
def tabZ:List Int:=Lib.deBruijn64tab.map fun(x:Nat)=>(x:Int)
theorem amD : yI = [("math/bits.deBruijn64tab", Lib.tabData .u8 tabZ)] := by kernel_rfl
theorem abI(h:laidMetH Tryz.prog yI W):Tab W:=by
 rw[MakeChecks.laidMetH_plain _ _ _ (by kernel_rfl),amD]at h;have hT:=Lib.tabIs_of_head yJ ajA amC aoJ ajB agK h;intro j hj;have hl:tabZ.length=Lib.deBruijn64tab.length:=by simp[tabZ]
 have:=hT.cell yJ j (by omega);rw[this];have e:tabZ.getD j 0=((Lib.deBruijn64tab.getD j 0:Nat):Int):=by
  simp only[tabZ,List.getD_eq_getElem?_getD,List.getElem?_map];rw[List.getElem?_eq_getElem hj];rfl
 rw[e]
theorem aoK(h:Tab W):1<W.heap.size:=World.block_lt_of_cell? W _ (h 0 (by decide))
section
variable{H:Type}{enc:TypeId×Value->H}
theorem agL{f:Func}{s:ChangeSpec}{W':World}{args:Array Value}{ds:List (DataW H)}{before:List MemPlace}
 (hW:DataW.Whole enc Tryz.prog f.params.toList s.vars false W args.toList ds [] before) (hv:s.vars=[]) (hr:f.resultTypes=#[4]) (hs:s.fn H (ds++[])={results:=[.lit (.bool true)],args:=ds})
 (hargs:∀sp:Nat->Bool,(∀p∈before,sp p.block=true)->ay1 enc Tryz.prog W' 0 sp true f.params.toList args.toList ds before) (hb:Below W.heap.size W W'):
 s.post enc Tryz.prog f false true false false W args (.bool true) W':=by
 have hlt:∀p∈before,p.block<W.heap.size:=fun p hp=>hW.lt p hp;have hold:∀p∈before,(fun b=>decide (b<W.heap.size)) p.block=true:=fun p hp=>by simpa using hlt p hp
 have hres:∀(b:Nat) (sp:Nat->Bool) (hd:Bool),ay1 enc Tryz.prog W' b sp hd f.resultTypes.toList ((Value.bool true).resultList f.resultTypes.size) [.lit (.bool true)] []:=by
  intro b sp hd;rw[hr];exact trodAll_cons_mk (shut_bool Tryz.underlying4 _) trodAll_mk0
 have hvars:∀sp:Nat->Bool,DataW.TrodVars enc Tryz.prog W' sp s.vars [] []:=fun sp=>by rw[hv];rfl
 refine⟨ds,[],before,[],before,[],hW,?_,?_,?_,?_,fun h=>by cases h⟩
 . rw[hs];exact hres _ _ _
 . rw[hs];exact hargs _ hold
 . rw[hs];exact hvars _
 . refine World.keptBut_mono (fun p hp=> ?_) (hb.frame (· ∈before))
   exact⟨hp,by simpa using hp⟩
end
section
variable{H:Type}{enc:TypeId×Value->H}{P:Program}{w:World}{base:Nat}{spare:Nat->Bool}{held:Bool}
end
section
variable{H:Type}{enc:TypeId×Value->H}{P:Program}{w:World}{base:Nat}{spare:Nat->Bool}{held:Bool}
end
theorem dR:Tryz.prog.cellsOf 3=1:=by kernel_rfl
section
variable{H:Type}{enc:TypeId×Value->H}{P:Program}{w:World}{base:Nat}{spare:Nat->Bool}{held:Bool}{t:TypeId}{f0 f1 f2 f3 f4 f5 f6 f7:Field}{v:Value}{d:DataW H}{ps:List MemPlace}{r:Reach}{b0:Nat}{k:IntKind}
 (ht:P.underlying t=some (.struct #[f0,f1,f2,f3,f4,f5,f6,f7])) (o0:f0.offset=0) (o1:f1.offset=1) (o2:f2.offset=2) (o3:f3.offset=3) (o4:f4.offset=4) (o5:f5.offset=5) (o6:f6.offset=6) (o7:f7.offset=7)
   (k0:P.cellsOf f0.type=1) (k1:P.cellsOf f1.type=1) (k2:P.cellsOf f2.type=1) (k3:P.cellsOf f3.type=1) (k4:P.cellsOf f4.type=1) (k5:P.cellsOf f5.type=1) (k6:P.cellsOf f6.type=1) (k7:P.cellsOf f7.type=1) (hct:P.cellsOf t=8) (u0:P.underlying f0.type=some (.bool)) (u1:P.underlying f1.type=some (.int k)) (u2:P.underlying f2.type=some (.int k)) (u3:P.underlying f3.type=some (.int k)) (u4:P.underlying f4.type=some (.int k)) (u5:P.underlying f5.type=some (.int k)) (u6:P.underlying f6.type=some (.int k)) (u7:P.underlying f7.type=some (.int k))
include ht o0 o1 o2 o3 o4 o5 o6 o7 k0 k1 k2 k3 k4 k5 k6 k7 hct u0 u1 u2 u3 u4 u5 u6 u7
theorem aoL(hval:Value.okWide P w r b0 t v)(hd:ay2 enc P w base spare held t v d ps):
 ∃n0 n1 n2 n3 n4 n5 n6 n7,v=.agg #[.bool n0,.int k n1,.int k n2,.int k n3,.int k n4,.int k n5,.int k n6,.int k n7]/\d=.agg [.lit (.bool n0),.lit (.int k n1),.lit (.int k n2),.lit (.int k n3),.lit (.int k n4),.lit (.int k n5),.lit (.int k n6),.lit (.int k n7)]/\ps=[]/\(Lit.int k n1).wf=true/\(Lit.int k n2).wf=true/\(Lit.int k n3).wf=true/\(Lit.int k n4).wf=true/\(Lit.int k n5).wf=true/\(Lit.int k n6).wf=true/\(Lit.int k n7).wf=true:=by
 obtain⟨cs,rfl,hsz,-⟩:∃cs,v=.agg cs/\cs.size=P.cellsOf t/\Row.okWide P w r b0 t cs:=by
  simpa[Value.okWide,ht]using hval
 rw[hct]at hsz;obtain⟨l⟩:=cs
 match l,hsz with
 |[c0,c1,c2,c3,c4,c5,c6,c7],_=>
  obtain⟨fuel,hf⟩:=hd;obtain⟨xs,n,-,hx,-,hn,hs⟩:=DataW.trod_struct (cs:=[c0,c1,c2,c3,c4,c5,c6,c7]) ht hf
  match xs,hn with
  |[x0,x1,x2,x3,x4,x5,x6,x7],_=>
   have h0:=hs 0 f0 rfl;simp[o0,k0]at h0;have h1:=hs 1 f1 rfl;simp[o1,k1]at h1;have h2:=hs 2 f2 rfl;simp[o2,k2]at h2;have h3:=hs 3 f3 rfl;simp[o3,k3]at h3;have h4:=hs 4 f4 rfl;simp[o4,k4]at h4;have h5:=hs 5 f5 rfl;simp[o5,k5]at h5;have h6:=hs 6 f6 rfl;simp[o6,k6]at h6;have h7:=hs 7 f7 rfl;simp[o7,k7]at h7;obtain⟨n0,e0,rfl⟩:=DataW.trod_bool u0 h0;obtain⟨n1,e1,rfl,w1⟩:=ay0 u1 h1;obtain⟨n2,e2,rfl,w2⟩:=ay0 u2 h2;obtain⟨n3,e3,rfl,w3⟩:=ay0 u3 h3;obtain⟨n4,e4,rfl,w4⟩:=ay0 u4 h4;obtain⟨n5,e5,rfl,w5⟩:=ay0 u5 h5;obtain⟨n6,e6,rfl,w6⟩:=ay0 u6 h6;obtain⟨n7,e7,rfl,w7⟩:=ay0 u7 h7;simp at e0 e1 e2 e3 e4 e5 e6 e7;subst e0 e1 e2 e3 e4 e5 e6 e7;simp only[Prod.mk.injEq]at hx;exact⟨n0,n1,n2,n3,n4,n5,n6,n7,rfl,hx.1,by simpa using hx.2,w1,w2,w3,w4,w5,w6,w7⟩
theorem aoM{n0:Bool}{n1 n2 n3 n4 n5 n6 n7:Int}(w1:(Lit.int k n1).wf=true)(w2:(Lit.int k n2).wf=true)(w3:(Lit.int k n3).wf=true)(w4:(Lit.int k n4).wf=true)(w5:(Lit.int k n5).wf=true)(w6:(Lit.int k n6).wf=true)(w7:(Lit.int k n7).wf=true):
 ay2 enc P w base spare held t (.agg #[.bool n0,.int k n1,.int k n2,.int k n3,.int k n4,.int k n5,.int k n6,.int k n7]) (.agg [.lit (.bool n0),.lit (.int k n1),.lit (.int k n2),.lit (.int k n3),.lit (.int k n4),.lit (.int k n5),.lit (.int k n6),.lit (.int k n7)]) []:=
 ⟨2,by simp[DataW.trod,Value.cells,ht,hct,o0,o1,o2,o3,o4,o5,o6,o7,k0,k1,k2,k3,k4,k5,k6,k7,u0,u1,u2,u3,u4,u5,u6,u7,w1,w2,w3,w4,w5,w6,w7]⟩
end
end Go.Proofs.YtaojpfcboainmaaGreatDoor
namespace Go.Proofs.YtaojpfcboainmaaGreatDoor
open Go.RowKit Go.Maps
def opsN(n:Nd):List Int:=if n.kind=0 then[]else if n.kind=5 then[n.a]else[n.a,n.b]
def ops2(n:Nd):Int×Int:=if n.kind=0 then(0,0)else if n.kind=5 then(n.a,0)else(n.a,n.b)
theorem yK{n:Nd}{w:World}:Calls Tryz.prog 120 #[kL n] w (fun e w'=>e=.returned (.tuple #[.agg #[.int .i64 (ops2 n).1,.int .i64 (ops2 n).2],.int .i64 ((opsN n).length:Nat)])/\Below w.heap.size w w'):=by
 obtain⟨kind,val,na,nb⟩:=n;unfold kL;obtain⟨w2,hw2,hb2,hs2,b1,b2⟩:=pro2 w (.cells #[.int .i64 kind,.float .f64 val,.int .i64 na,.int .i64 nb] 109) (.cells #[.int .i64 0,.int .i64 0] 63);obtain⟨c0,c1,c2,c3⟩:=aW b1;obtain⟨d0,d1,d2,d3⟩:=aF b2;have HB:=hdd hb2;have S:=fun u v=>hdd (set2 b2 u v);clear hb2 b1 b2 hs2;by_cases h0:kind=0
 . subst h0
   simp only[ops2,opsN,if_true,List.length_nil];go_enter Tryz.func120,Tryz.ntmps120
   go_wp2;obtain⟨x0,x1,-,-⟩:=aF (S (.int .i64 0) (.int .i64 0)).out;refine bodyPost_ret (v:=.tuple #[.agg #[_,_],_]) (by simp[results,Tryz.results120,go_sem,x0,x1];first|exact⟨⟨rfl,rfl⟩,rfl⟩|rfl) rfl ?_;exact⟨rfl,(HB.out.setCell (by simp) _).setCell (by simp) _⟩
 . by_cases h5:kind=5
   . subst h5
     have e1:ops2 ⟨5,val,na,nb⟩=(na,0):=by simp[ops2]
     have e2:(opsN ⟨5,val,na,nb⟩).length=1:=by simp[opsN]
     rw[e1,e2];clear e1 e2 h0;go_enter Tryz.func120,Tryz.ntmps120
     go_wp2;obtain⟨x0,x1,-,-⟩:=aF (S (.int .i64 na) (.int .i64 0)).out;refine bodyPost_ret (v:=.tuple #[.agg #[_,_],_]) (by simp[results,Tryz.results120,go_sem,x0,x1];first|exact⟨⟨rfl,rfl⟩,rfl⟩|rfl) rfl ?_;exact⟨rfl,(HB.out.setCell (by simp) _).setCell (by simp) _⟩
   . have e1:ops2 ⟨kind,val,na,nb⟩=(na,nb):=by simp[ops2,h0,h5]
     have e2:(opsN ⟨kind,val,na,nb⟩).length=2:=by simp[opsN,h0,h5]
     rw[e1,e2];have t0:(kind==0)=false:=beq_eq_false_iff_ne.2 h0;have t5:(kind==5)=false:=beq_eq_false_iff_ne.2 h5;clear e1 e2 h0 h5;go_enter Tryz.func120,Tryz.ntmps120
     go_wp2;obtain⟨x0,x1,-,-⟩:=aF (S (.int .i64 na) (.int .i64 nb)).out;refine bodyPost_ret (v:=.tuple #[.agg #[_,_],_]) (by simp[results,Tryz.results120,go_sem,x0,x1];first|exact⟨⟨rfl,rfl⟩,rfl⟩|rfl) rfl ?_;exact⟨rfl,(HB.out.setCell (by simp) _).setCell (by simp) _⟩
theorem dC:Tryz.prog.underlying 174=some (.map 3 3):=by kernel_rfl
theorem zU:Tryz.prog.underlying 3=some (.int .i64):=by kernel_rfl
theorem nC:Tryz.prog.underlying 140=some (.slice 3):=by kernel_rfl
theorem aR:Keyed Tryz.prog 3:=int_keyed zU
theorem vN:(Tryz.prog.info? 3).map (fun i=>(i.zero,i.size,i.bytes))=some (some (.int .i64 0),1,8):=by kernel_rfl
theorem fH(w:World):(zeroValue 3).run Tryz.prog w=.ok (.int .i64 0) w:=by kernel_rfl
theorem kN{i:Int}(h:-9223372036854775808<=i/\i<9223372036854775808):keyOf Tryz.prog 3 (.int .i64 i)=some (.int .i64 i):=keyOf_int_mk zU (by
 have e1:IntKind.i64.min=-9223372036854775808:=rfl;have e2:IntKind.i64.max=9223372036854775807:=rfl;simp[Lit.wf,e1,e2];omega)
def bT(l:List Nat):List Value:=l.map fun(x:Nat)=>Value.int .i64 (x:Int)
def VS(w:World)(gv gs mb:Nat)(sv:Value)(vis st:List Nat):Prop:=
 ∃m,w.heap[gv]? =some (.cells #[.map (some mb)] 174 (0,0))/\w.heap[gs]? =some (.cells #[sv] 140 (0,0))/\MapP Tryz.prog 3 w mb m/\
  (∀i:Nat,m (.int .i64 (i:Int))=if i∈vis then some (.int .i64 1)else none)/\w.ownsRow 0 3 1 sv st.length (bT st)/\gv≠gs/\mb≠gs/\mb≠gv/\sv.ownBlock≠some gs/\sv.ownBlock≠some gv/\sv.ownBlock≠some mb
end Go.Proofs.YtaojpfcboainmaaGreatDoor
