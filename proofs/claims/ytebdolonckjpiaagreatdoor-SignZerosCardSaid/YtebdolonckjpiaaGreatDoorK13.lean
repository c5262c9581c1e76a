/- A part of the proof: contracts of functions and plain laws (SymA, SymM). -/
import Derived.Test.YtebdolonckjpiaaGreatDoorK01
import Derived.RegionTactic
import Derived.Test.YtebdolonckjpiaaGreatDoorK12
import Derived.Test.YtebdolonckjpiaaGreatDoorK07
set_option linter.unusedVariables false
set_option linter.unusedSimpArgs false
set_option maxHeartbeats 25600000
set_option maxRecDepth 100000
namespace Go.Proofs.YtebdolonckjpiaaGreatDoor
open Go.RowKit
open _root_.Array renaming getD_eq_getD_getElem?->awR,getElem?_eq_getElem->awU,getElem?_eq_some_iff->awX,getElem?_setIfInBounds->aw1,mem_toList_iff->axG,all_eq_true'->axI
open Bool renaming and_eq_true->awV,not_eq_true'->awW,or_eq_true->aw3
open Go.Instr renaming loadAt->axF,sureAddr->axH,storeAt->axO
open Go.Region renaming ready->aw7,binds->axP
open List renaming mem_filterMap->awS,range->awT,mem_range->awY,contains_iff_mem->awZ,mem_cons_of_mem->aw0,map_congr_left->aw2,mem_filter->aw4,map_append->aw5,sum_append->aw6,getElem?_eq_getElem->aw8,map_cons->aw9,all_eq_true->axA,mem_map->axB,range_succ->axD,mem_flatMap->axJ,length_cons->axK,nodup_cons->axL,sum_cons->axM,map_nil->axQ,sum_nil->axR
open Nat renaming lt_or_ge->axE,add_assoc->axN,add_zero->axS
open Option.some renaming inj->axC,injEq->axT
variable{d j k n:Nat}{t:TypeId}{v:Value}
inductive SC where
 |v (x:Value)
 |id (n:Nat)
 |ptr (b off:Nat)
 |sl (b len:Nat)
inductive SW where
 |c (x:SC)
 |agg (l:List SC)
inductive SV where
 |w (x:SW)
 |tup (l:List SW)
section
variable(ν:Nat->Nat)
def SC.den:SC->Value
 | .v x=>x
 | .id n=>.int .i64 ((ν n:Nat):Int)
 | .ptr b o=>.pointer (some ⟨ν b,o,none⟩)
 | .sl b n=>.slice (some ⟨ν b,0,none⟩) n n
def SW.den:SW->Value
 | .c x=>x.den ν
 | .agg l=>.agg (l.map (SC.den ν)).toArray
def SV.den:SV->Value
 | .w x=>x.den ν
 | .tup l=>.tuple (l.map (SW.den ν)).toArray
end
def SC.lets:SC->List Nat
 | .v _=>[]
 | .id n=>[n]
 | .ptr b _=>[b]
 | .sl b _=>[b]
def SW.lets:SW->List Nat
 | .c x=>x.lets
 | .agg l=>l.flatMap SC.lets
def SV.lets:SV->List Nat
 | .w x=>x.lets
 | .tup l=>l.flatMap SW.lets
section
variable{ν ν':Nat->Nat}
theorem SC.congr {x:SC}(h:∀n∈x.lets,ν n=ν' n):x.den ν=x.den ν':=by
 cases x with
 |v x=>rfl
 |id n=>simp only[SC.den,h n (by simp[SC.lets])]
 |ptr b o=>simp only[SC.den,h b (by simp[SC.lets])]
 |sl b n=>simp only[SC.den,h b (by simp[SC.lets])]
theorem SC.congrs {l:List SC}(h:∀n∈l.flatMap SC.lets,ν n=ν' n):l.map (SC.den ν)=l.map (SC.den ν'):=
 aw2 fun x hx=>SC.congr fun n hn=>h n (axJ.2 ⟨x,hx,hn⟩)
theorem SW.congr {x:SW}(h:∀n∈x.lets,ν n=ν' n):x.den ν=x.den ν':=by
 cases x with
 |c x=>exact SC.congr h
 |agg l=>simp only[SW.den,SC.congrs h]
theorem SV.congr {x:SV}(h:∀n∈x.lets,ν n=ν' n):x.den ν=x.den ν':=by
 cases x with
 |w x=>exact SW.congr h
 |tup l=>
  have:l.map (SW.den ν)=l.map (SW.den ν'):=aw2 fun x hx=>SW.congr fun n hn=>h n (axJ.2 ⟨x,hx,hn⟩);simp only[SV.den,this]
end
structure Wk(E:Type) where
 G:Nat->List (E×Nat)->List (Nat×Obj)->World->Prop
 weak:∀{c c' K K' l l' w},G c K l w->c<=c'->(∀p∈K',p∈K)->(∀p∈l',p∈l)->(l'.map (·.1)).Nodup->G c' K' l' w
 heap:∀{c K l w},G c K l w->∀p∈l,w.heap[p.1]? =some p.2
 alloc:∀{c K l w},G c K l w->∀o,G c K ((w.heap.size,o)::l) (w.alloc o)
 write:∀{c K l w w' b o o'},G c K ((b,o)::l) w->w.grownBy w' (some b)->w'.heap[b]? =some o'->G c K ((b,o')::l) w'
 drew:∀{c K l w},G c K l w->G c K l w.drew
structure Blk where
 b:Nat
 T:TypeId
 init:List SC
 st:Option (Nat×List SC)
structure Spec(E:Type) where
 ops:Array Oper
 val:Nat->SV
 cr:Nat->Option Nat
 know:List (Nat×E)
 blocks:List Blk
 cost:Nat->Nat
 D:Nat->List Nat
 out:List (Nat×SV)
def lof(l:Array Bool)(i:Nat):Bool:=l.getD i false
section
variable{E:Type}(S:Spec E)(W:Wk E){P:Program}
def Spec.dst (i:Nat):Option Tmp:=(S.ops[i]?).bind (·.dst)
def Spec.aft (i:Nat):List Nat:=match S.ops[i]? with
 |none=>[]
 |some o=>(o.after.toList.filter (axP .any)).map (·.on)
def Spec.on (lst:Nat->Bool)(n:Nat):Bool:=match S.cr n with
 |none=>true
 |some i=>lst i
def Spec.K (lst:Nat->Bool)(ν:Nat->Nat):List (E×Nat):=S.know.filterMap fun p=>if S.on lst p.1 then some (p.2,ν p.1)else none
def Blk.cont (lst:Nat->Bool)(B:Blk):List SC:=match B.st with
 |some (s,c)=>if lst s then c else B.init
 |none=>B.init
def Blk.obj (lst:Nat->Bool)(ν:Nat->Nat)(B:Blk):Obj:=.cells ((B.cont lst).map (SC.den ν)).toArray B.T
def Spec.L (lst:Nat->Bool)(ν:Nat->Nat):List (Nat×Obj):=S.blocks.filterMap fun B=>if S.on lst B.b then some (ν B.b,B.obj lst ν)else none
def Spec.costs (lst:Nat->Bool):Nat:=((awT S.ops.size).map fun i=>if lst i then S.cost i else 0).sum
def Spec.total:Nat:=((awT S.ops.size).map S.cost).sum
def Spec.Vals (lst:Nat->Bool)(a:Act)(ν:Nat->Nat):Prop:=∀i d,lst i=true->S.dst i=some d->a.tmps.getD d undef=(S.val i).den ν
def Spec.Inj (lst:Nat->Bool)(ν:Nat->Nat):Prop:=∀B∈S.blocks,∀C∈S.blocks,S.on lst B.b=true->S.on lst C.b=true->ν B.b=ν C.b->B.b=C.b
structure Spec.J (c0:Nat)(a0:Act)(ν0:Nat->Nat)(listed:Array Bool)(a:Act)(w:World):Prop where
 ex:∃ν,(∀n,S.cr n=none->ν n=ν0 n)/\W.G (c0+S.costs (lof listed)) (S.K (lof listed) ν) (S.L (lof listed) ν) w/\S.Vals (lof listed) a ν/\S.Inj (lof listed) ν
 oth:∀s,(∀i,S.dst i≠some s)->a.tmps.getD s undef=a0.tmps.getD s undef
 size:a.tmps.size=a0.tmps.size
 defers:a.defers=a0.defers
 lsz:listed.size=S.ops.size
 closed:∀i,lof listed i=true->∀e∈S.aft i,lof listed e=true
def Spec.okL (i m:Nat):Bool:=match S.cr m with
 |none=>true
 |some k=>k==i||(S.D i).contains k
def Blk.ok (B:Blk):Bool:=
 (B.init.flatMap SC.lets).all (fun m=>match S.cr B.b with
   |none=>(S.cr m).isNone
   |some k=>S.okL k m)&&
 match B.st with
 |none=>true
 |some (s,c)=>(c.flatMap SC.lets).all (S.okL s)&&S.okL s B.b
def Spec.wfB:Bool:=
 (awT S.ops.size).all (fun i=>(S.aft i).all (fun e=>decide (e<i))&&(S.D i).all (fun d=>(S.aft i).any fun e=>e==d||(S.D e).contains d)&&(S.val i).lets.all (S.okL i))&&
 S.blocks.all (fun B=>B.ok S)&&decide (S.blocks.map (·.b)).Nodup&&decide ((awT S.ops.size).filterMap S.dst).Nodup&&
 S.out.all (fun p=>p.2.lets.all (fun m=>(S.cr m).isNone)&& !((awT S.ops.size).filterMap S.dst).contains p.1)
structure Spec.WF:Prop where
 topo:∀i,i<S.ops.size->∀e∈S.aft i,e<i
 dok:∀i,i<S.ops.size->∀d∈S.D i,∃e∈S.aft i,e=d\/d∈S.D e
 lets:∀i,i<S.ops.size->∀m∈(S.val i).lets,S.okL i m=true
 blk:∀B∈S.blocks,B.ok S=true
 bnd:(S.blocks.map (·.b)).Nodup
 dnd:((awT S.ops.size).filterMap S.dst).Nodup
 outs:∀p∈S.out,(∀m∈p.2.lets,S.cr m=none)/\∀i,S.dst i≠some p.1
variable{S W}
theorem Spec.dst_lt {i:Nat}(h:S.dst i=some d):i<S.ops.size:=by
 unfold Spec.dst at h
 cases ho:S.ops[i]? with
 |none=>rw[ho]at h;cases h
 |some o=>exact(awX.1 ho).1
theorem Spec.wf_of (h:S.wfB=true):S.WF:=by
 unfold Spec.wfB at h;simp only[awV,axA,awY,decide_eq_true_eq,List.any_eq_true,aw3,beq_iff_eq,awZ,Option.isNone_iff_eq_none,awW]at h;obtain⟨⟨⟨⟨h1,h2⟩,h3⟩,h4⟩,h5⟩:=h;refine⟨fun i hi=>(h1 i hi).1.1,fun i hi=>(h1 i hi).1.2,fun i hi=>(h1 i hi).2,h2,h3,h4,fun p hp=>⟨(h5 p hp).1,fun i hd=> ?_⟩⟩;have h6:=(h5 p hp).2;have:p.1∈(awT S.ops.size).filterMap S.dst:=awS.2 ⟨i,awY.2 (Spec.dst_lt hd),hd⟩;rw[<-awZ]at this;rw[this]at h6;cases h6
theorem r9{l:Array Bool}{i:Nat}(hi:i<l.size)(j:Nat):lof (l.setIfInBounds i true) j=if j=i then true else lof l j:=by
 unfold lof;rw[awR,awR,aw1];by_cases h:i=j
 . subst h;simp[hi]
 . rw[if_neg h,if_neg (Ne.symm h)]
theorem x9(a:Act)(x:Option Tmp)(v:Value)(s:Nat):(a.put x v).tmps.getD s undef=if x=some s/\s<a.tmps.size then v else a.tmps.getD s undef:=by
 cases x with
 |none=>simp[Act.put]
 |some d=>
  simp only[Act.put,awR,aw1,axT];by_cases h:d=s
  . subst h
    by_cases h2:d<a.tmps.size
    . simp[h2]
    . simp[h2]
  . simp[h]
theorem size_put(a:Act)(x:Option Tmp)(v:Value):(a.put x v).tmps.size=a.tmps.size:=by cases x<;>simp[Act.put]
theorem uF(a:Act)(x:Option Tmp)(v:Value):(a.put x v).defers=a.defers:=by cases x<;>rfl
theorem jV{listed:Array Bool}{i:Nat}(hz:listed.size=S.ops.size)(h:i∈aw7 .any S.ops listed):i<S.ops.size/\lof listed i=false/\∀e∈S.aft i,lof listed e=true:=by
 unfold aw7 at h;simp only[aw4,awY,awV,awW]at h;obtain⟨h1,h2,h3⟩:=h;refine⟨h1,?_,fun e he=> ?_⟩
 . unfold lof
   rw[awR]at h2|-;rw[awU (by omega)]at h2|-;simpa using h2
 . unfold Spec.aft at he
   have ho:S.ops[i]? =some S.ops[i]:=awU h1;rw[ho]at h3 he;simp only[Option.map_some,Option.getD_some,axI,aw3,awW]at h3;simp only[axB,aw4,axG]at he;obtain⟨x,⟨hx,hb⟩,rfl⟩:=he;rcases h3 x hx with h4|h4
   . rw[h4]at hb;cases hb
   . exact h4
theorem ahQ{listed:Array Bool}(hz:listed.size=S.ops.size){i:Nat}(h1:i<S.ops.size)(h2:lof listed i=false)(h3:∀e∈S.aft i,lof listed e=true):i∈aw7 .any S.ops listed:=by
 unfold aw7;simp only[aw4,awY,awV,awW];refine⟨h1,?_,?_⟩
 . unfold lof at h2
   rw[awR]at h2|-;rw[awU (by omega)]at h2|-;simpa using h2
 . have ho:S.ops[i]? =some S.ops[i]:=awU h1
   rw[ho];simp only[Option.map_some,Option.getD_some,axI,aw3,awW];intro x hx
   cases hb:axP .any x with
   |false=>exact Or.inl rfl
   |true=>
    right;refine h3 x.on ?_;unfold Spec.aft;rw[ho];exact axB.2 ⟨x,aw4.2 ⟨axG.2 hx,hb⟩,rfl⟩
theorem Spec.WF.down (wf:S.WF){lst:Nat->Bool}(hc:∀i,lst i=true->∀e∈S.aft i,lst e=true):∀(n i:Nat),i<n->i<S.ops.size->(∀e∈S.aft i,lst e=true)->∀d∈S.D i,lst d=true
 |0,i,h,_,_,_,_=>by omega
 |n+1,i,h,hi,ha,d,hd=>by
  obtain⟨e,he,h2⟩:=wf.dok i hi d hd;have hlt:=wf.topo i hi e he;rcases h2 with rfl|h2
  . exact ha e he
  . exact down wf hc n e (by omega) (by omega) (hc e (ha e he)) d h2
theorem Spec.WF.downI (wf:S.WF){lst:Nat->Bool}(hc:∀i,lst i=true->∀e∈S.aft i,lst e=true){i:Nat}(hi:i<S.ops.size)(hl:lst i=true):∀d∈S.D i,lst d=true:=
 wf.down hc (i+1) i (by omega) hi (hc i hl)
theorem Spec.okL_on {lst:Nat->Bool}{i m:Nat}(h:S.okL i m=true)(hi:lst i=true)(hd:∀d∈S.D i,lst d=true):S.on lst m=true:=by
 unfold Spec.okL at h;unfold Spec.on
 cases hc:S.cr m with
 |none=>rfl
 |some k=>
  rw[hc]at h;simp only[aw3,beq_iff_eq,awZ]at h;rcases h with rfl|h
  . exact hi
  . exact hd k h
section
variable{lst lst':Nat->Bool}{ν ν':Nat->Nat}{i:Nat}
def Spec.Keep (S:Spec E)(lst:Nat->Bool)(ν ν':Nat->Nat):Prop:=∀n,S.on lst n=true->ν' n=ν n
theorem Spec.keep_of (hf:lst i=false)(h:∀n,S.cr n≠some i->ν' n=ν n):S.Keep lst ν ν':=fun n hn=>h n fun hc=>by
 unfold Spec.on at hn;rw[hc]at hn;simp only at hn;rw[hf]at hn;cases hn
theorem Spec.WF.val_keep (wf:S.WF)(hc:∀i,lst i=true->∀e∈S.aft i,lst e=true)(hk:S.Keep lst ν ν')(hd:S.dst j=some d)(hj:lst j=true):(S.val j).den ν'=(S.val j).den ν:=
 SV.congr fun m hm=>hk m (Spec.okL_on (wf.lets j (Spec.dst_lt hd) m hm) hj (wf.downI hc (Spec.dst_lt hd) hj))
theorem am1(hc:S.cr n=some k):S.on lst n=lst k:=by unfold Spec.on;rw[hc]
theorem amA(hc:S.cr n=none):S.on lst n=true:=by unfold Spec.on;rw[hc]
theorem Spec.WF.obj_keep (wf:S.WF)(hlt:∀i,lst i=true->i<S.ops.size)(hc:∀i,lst i=true->∀e∈S.aft i,lst e=true)(hk:S.Keep lst ν ν'){B:Blk}(hB:B∈S.blocks)(ho:S.on lst B.b=true):B.obj lst ν'=B.obj lst ν:=by
 have h:=wf.blk B hB;unfold Blk.ok at h;rw[awV,axA]at h;obtain⟨h1,h2⟩:=h;have hinit:∀m∈B.init.flatMap SC.lets,ν' m=ν m:=fun m hm=>hk m (by
  have:=h1 m hm
  cases hcr:S.cr B.b with
  |none=>rw[hcr]at this;exact amA (by simpa using this)
  |some k=>
   rw[hcr]at this;rw[am1 hcr]at ho;exact Spec.okL_on this ho (wf.downI hc (hlt k ho) ho))
 unfold Blk.obj
 suffices hs:(B.cont lst).map (SC.den ν')=(B.cont lst).map (SC.den ν) by rw[hs]
 unfold Blk.cont
 cases hst:B.st with
 |none=>exact SC.congrs hinit
 |some p=>
  obtain⟨s,c⟩:=p;rw[hst]at h2;simp only[awV,axA]at h2;simp only
  split
  . rename_i hs
    exact SC.congrs fun m hm=>hk m (Spec.okL_on (h2.1 m hm) hs (wf.downI hc (hlt s hs) hs))
  . exact SC.congrs hinit
theorem fG{x:E}(h:(n,x)∈S.know)(ho:S.on lst n=true):(x,ν n)∈S.K lst ν:=awS.2 ⟨(n,x),h,by simp only[ho,if_true]⟩
theorem uG{B:Blk}(h:B∈S.blocks)(ho:S.on lst B.b=true):(ν B.b,B.obj lst ν)∈S.L lst ν:=awS.2 ⟨B,h,by simp only[ho,if_true]⟩
theorem of_L{p:Nat×Obj}(h:p∈S.L lst ν):∃B∈S.blocks,S.on lst B.b=true/\p=(ν B.b,B.obj lst ν):=by
 obtain⟨B,h1,h2⟩:=awS.1 h
 split at h2
 . rename_i ho;exact⟨B,h1,ho,(axC h2).symm⟩
 . cases h2
theorem of_K{p:E×Nat}(h:p∈S.K lst ν):∃q∈S.know,S.on lst q.1=true/\p=(q.2,ν q.1):=by
 obtain⟨B,h1,h2⟩:=awS.1 h
 split at h2
 . rename_i ho;exact⟨B,h1,ho,(axC h2).symm⟩
 . cases h2
theorem z8(l:List Blk)(hn:(l.map (·.b)).Nodup)(hI:∀B∈l,∀C∈l,S.on lst B.b=true->S.on lst C.b=true->ν B.b=ν C.b->B.b=C.b):((l.filterMap fun B=>if S.on lst B.b then some (ν B.b,B.obj lst ν)else none).map (·.1)).Nodup:=by
 induction l with
 |nil=>simp
 |cons B l ih=>
  rw[aw9,axL]at hn;have ih:=ih hn.2 fun C hC C' hC'=>hI C (aw0 _ hC) C' (aw0 _ hC');rw[List.filterMap_cons]
  cases ho:S.on lst B.b with
  |false=>simpa[ho]using ih
  |true=>
   simp only[if_true,aw9,axL];refine⟨fun hm=> ?_,ih⟩;obtain⟨p,hp,e⟩:=axB.1 hm;obtain⟨C,hC,h2⟩:=awS.1 hp
   split at h2
   . rename_i hoC
     have:=axC h2;subst this;have:=hI C (aw0 _ hC) B List.mem_cons_self hoC ho e;exact hn.1 (by rw[<-this];exact axB.2 ⟨C,hC,rfl⟩)
   . cases h2
theorem Spec.WF.nodup_L (wf:S.WF)(hI:S.Inj lst ν):((S.L lst ν).map (·.1)).Nodup:=z8 S.blocks wf.bnd hI
theorem aj9(f:Nat->Nat)(c i:Nat):∀n,i<n->(∀j,j≠i->lst' j=lst j)->lst i=false->lst' i=true->f i=c->
 ((awT n).map fun j=>if lst' j then f j else 0).sum=((awT n).map fun j=>if lst j then f j else 0).sum+c:=by
 intro n
 induction n with
 |zero=>intro h;omega
 |succ n ih=>
  intro hn hne h0 h1 hc;rw[axD,aw5,aw5,aw6,aw6];simp only[aw9,axQ,axM,axR,axS];rcases axE i n with h|h
  . rw[ih h hne h0 h1 hc,hne n (by omega)];omega
  . have:i=n:=by omega
    subst this;rw[h0,h1,hc];have:((awT i).map fun j=>if lst' j then f j else 0)=((awT i).map fun j=>if lst j then f j else 0):=aw2 fun j hj=>by rw[hne j (by have:=awY.1 hj;omega)]
    rw[this];simp
theorem Spec.costs_set (hi:i<S.ops.size)(hne:∀j,j≠i->lst' j=lst j)(h0:lst i=false)(h1:lst' i=true):S.costs lst'=S.costs lst+S.cost i:=aj9 S.cost _ i _ hi hne h0 h1 rfl
theorem amB(f:Nat->Nat)(n:Nat):((awT n).map fun j=>if lst j then f j else 0).sum<=((awT n).map f).sum:=by
 induction n with
 |zero=>simp
 |succ n ih=>
  rw[axD,aw5,aw5,aw6,aw6];simp only[aw9,axQ,axM,axR,axS]
  split<;>omega
theorem Spec.costs_le:S.costs lst<=S.total:=amB S.cost _
end
section
variable{c0:Nat}{a0:Act}{ν0:Nat->Nat}{listed:Array Bool}{a:Act}{w:World}{i:Nat}
theorem Spec.J.lt (h:S.J W c0 a0 ν0 listed a w)(hj:lof listed j=true):j<S.ops.size:=by
 rcases axE j S.ops.size with hlt|hge
 . exact hlt
 . unfold lof at hj
   rw[awR,Array.getElem?_eq_none (by rw[h.lsz];exact hge)]at hj
   cases hj
theorem Spec.J.next (wf:S.WF)(hin:∀i d,S.dst i=some d->d<a0.tmps.size)(h:S.J W c0 a0 ν0 listed a w)(hr:i∈aw7 .any S.ops listed){ν ν':Nat->Nat}{w':World}
 (h0:∀n,S.cr n=none->ν n=ν0 n) (hV:S.Vals (lof listed) a ν) (hag:∀n,S.cr n≠some i->ν' n=ν n)
 (hG:W.G (c0+S.costs (lof (listed.setIfInBounds i true))) (S.K (lof (listed.setIfInBounds i true)) ν') (S.L (lof (listed.setIfInBounds i true)) ν') w') (hI:S.Inj (lof (listed.setIfInBounds i true)) ν')
 (hv:(S.dst i).isSome=true->v=(S.val i).den ν'):
 S.J W c0 a0 ν0 (listed.setIfInBounds i true) (a.put (S.dst i) v) w':=by
 obtain⟨h1,h2,h3⟩:=jV h.lsz hr;have hls:∀j,lof (listed.setIfInBounds i true) j=if j=i then true else lof listed j:=r9 (by rw[h.lsz];exact h1);refine⟨⟨ν',fun n hn=> ?_,hG,fun j d hj hd=> ?_,hI⟩,fun s hs=> ?_,?_,?_,?_,fun j hj e he=> ?_⟩
 . rw[hag n (by rw[hn];exact fun e=>by cases e)];exact h0 n hn
 . rw[x9]
   by_cases hji:j=i
   . subst hji
     rw[if_pos ⟨hd,by rw[h.size];exact hin j d hd⟩];exact hv (by rw[hd];rfl)
   . rw[hls,if_neg hji]at hj
     rw[if_neg,hV j d hj hd]
     . exact(wf.val_keep h.closed (Spec.keep_of h2 hag) hd hj).symm
     . rintro⟨e,-⟩
       have hnd:=wf.dnd;have hlt:=Spec.dst_lt hd;exact hji (filterMap_inj hnd hlt h1 hd e)
 . rw[x9,if_neg (fun e=>hs i e.1)];exact h.oth s hs
 . rw[size_put,h.size]
 . rw[uF,h.defers]
 . rw[Array.size_setIfInBounds,h.lsz]
 . rw[hls]at hj|-
   split
   . rfl
   . by_cases hji:j=i
     . subst hji;exact h3 e he
     . rw[if_neg hji]at hj;exact h.closed j hj e he
where
 filterMap_inj {f:Nat->Option Nat} {n j k d:Nat} (hnd:((awT n).filterMap f).Nodup) (hj:j<n) (hk:k<n) (hd:f j=some d) (he:f k=some d):j=k:=by
  induction n with
  |zero=>omega
  |succ n ih=>
   rw[axD,List.filterMap_append,List.nodup_append]at hnd;obtain⟨n1,-,n2⟩:=hnd;have key:∀{p:Nat},p<n->f p=some d->f n=some d->False:=fun{p} hp h1 h2=>
    n2 d (awS.2 ⟨p,awY.2 hp,h1⟩) d (by simp[h2]) rfl
   rcases axE j n with h1|h1<;>rcases axE k n with h2|h2
   . exact ih n1 h1 h2
   . have:k=n:=by omega
     subst this;exact(key h1 hd he).elim
   . have:j=n:=by omega
     subst this;exact(key h2 he hd).elim
   . omega
end
end
section
variable{P:Program}{w:World}{b off:Nat}{T:TypeId}{cs:List Value}
theorem oQ(h:w.heap[b]? =some (.cells cs.toArray T (0,0)))(hv:cs[k]? =some v):w.cell? ⟨b,k,none⟩=some v:=by
 simp[World.cell?,h,hv]
theorem lcf(h:w.heap[b]? =some (.cells cs.toArray T (0,0))):∀(n i:Nat) (acc:Array Value),off+i+n<=cs.length->(loadCellsFrom ⟨b,off,none⟩ i n acc).run P w=.ok (acc++((cs.drop (off+i)).take n).toArray) w:=by
 intro n
 induction n with
 |zero=>intro i acc _;simp[loadCellsFrom,go_sem]
 |succ n ih=>
  intro i acc hl;obtain⟨v,hv⟩:∃v,cs[off+i]? =some v:=⟨_,aw8 (by omega)⟩;have hc:=oQ h hv;have e:(cs.drop (off+i)).take (n+1)=v::(cs.drop (off+(i+1))).take n:=by
   have h1:=(List.getElem?_eq_some_iff.1 hv);obtain⟨h2,h3⟩:=h1;rw[List.drop_eq_getElem_cons h2,List.take_succ_cons,h3,axN]
  have e2:Addr.add ⟨b,off,none⟩ i=⟨b,off+i,none⟩:=by simp[Addr.add]
  unfold loadCellsFrom;simp[go_sem,e2,hc,ih (i+1) _ (by omega),e]
theorem amC(hT:(isAgg t).run P w=.ok true w)(hn:(sizeOf t).run P w=.ok n w)(h:w.heap[b]? =some (.cells cs.toArray T (0,0)))(hl:off+n<=cs.length):
 (axF t (.pointer (some ⟨b,off,none⟩))).run P w=.ok (.agg ((cs.drop off).take n).toArray) w:=by
 simp[axF,axH,loadVar,go_sem,hT,hn,loadCells,lcf h n 0 #[] (by omega)]
theorem amD(hT:(isAgg t).run P w=.ok false w)(h:w.heap[b]? =some (.cells cs.toArray T (0,0)))(hv:cs[off]? =some v):
 (axF t (.pointer (some ⟨b,off,none⟩))).run P w=.ok v w:=by
 simp[axF,axH,loadVar,go_sem,hT,oQ h hv]
def okV:Value->Bool
 | .pointer _| .int _ _| .bool _| .float _ _| .nilIface| .iface _ _| .slice _ _ _=>true
 |_=>false
theorem amE(h:w.heap[b]? =some (.cells cs.toArray T (0,0)))(hk:k<cs.length)(hv:okV v=true):(store ⟨b,k,none⟩ v).run P w=.ok () (w.setCell ⟨b,k,none⟩ v):=by
 obtain⟨u,hu⟩:∃u,cs[k]? =some u:=⟨_,aw8 hk⟩;have hc:=oQ h hu;have hf:w.frozen? ⟨b,k,none⟩=false:=by simp[World.frozen?,h]
 cases v<;>first
  |(exfalso;revert hv;simp[okV];done)
  |(rw[run_store P w _ _ _ rfl];simp[stored,hc,hf])
theorem amF(h:w.heap[b]? =some (.cells cs.toArray T (0,0))):(w.setCell ⟨b,k,none⟩ v).heap[b]? =some (.cells (cs.set k v).toArray T (0,0)):=by
 have hg:b<w.heap.size:=(awX.1 h).1;have h':w.heap[b]=.cells cs.toArray T (0,0):=(awX.1 h).2;simp[World.setCell,hg,Array.getElem_modify,h']
def splice(cs:List Value)(k:Nat)(vs:List Value):List Value:=cs.take k++vs++cs.drop (k+vs.length)
theorem adA(w:World)(row:Option Nat):w.grownBy w row:=⟨rfl,rfl,rfl,Nat.le_refl _,fun _ _ _=>rfl⟩
theorem ahR:∀(vs:List Value) (k:Nat) (cs:List Value) (w:World),w.heap[b]? =some (.cells cs.toArray T (0,0))->off+k+vs.length<=cs.length->vs.all okV=true->
 ∃w',(storeCells ⟨b,off,none⟩ vs k).run P w=.ok () w'/\w.grownBy w' (some b)/\w'.heap[b]? =some (.cells (splice cs (off+k) vs).toArray T (0,0)):=by
 intro vs
 induction vs with
 |nil=>intro k cs w h _ _;exact⟨w,by simp[storeCells,go_sem],adA w _,by rw[h];simp[splice]⟩
 |cons v vs ih=>
  intro k cs w h hl hv;rw[axK]at hl;simp only[List.all_cons,awV]at hv;have h1:=amE (P:=P) (k:=off+k) h (by omega) hv.1;obtain⟨w',q1,q2,q3⟩:=ih (k+1) (cs.set (off+k) v) (w.setCell ⟨b,off+k,none⟩ v) (amF h) (by rw[List.length_set];omega) hv.2;refine⟨w',?_,grownBy_trans (grownBy_set (adA w _) v) q2,?_⟩
  . have e2:Addr.add ⟨b,off,none⟩ k=⟨b,off+k,none⟩:=by simp[Addr.add]
    unfold storeCells;simp[go_sem,e2,h1,q1]
  . rw[q3]
    have:splice (cs.set (off+k) v) (off+(k+1)) vs=splice cs (off+k) (v::vs):=by
     unfold splice;rw[axK,List.drop_set_of_lt (by omega),show off+(k+1)+vs.length=off+k+(vs.length+1) by omega,<-axN off k 1,List.take_add_one,List.getElem?_set_self (by omega),List.take_set_of_le (by omega)];simp
    rw[this]
theorem amG{c:List Value}(hc:v.cells=c.toArray)(hn:(sizeOf t).run P w=.ok cs.length w)(h:w.heap[b]? =some (.cells cs.toArray T (0,0)))(hl:c.length=cs.length)(hv:c.all okV=true):
 ∃w',(axO t (.pointer (some ⟨b,0,none⟩)) v).run P w=.ok () w'/\w.grownBy w' (some b)/\w'.heap[b]? =some (.cells c.toArray T (0,0)):=by
 obtain⟨w',q1,q2,q3⟩:=ahR (P:=P) (off:=0) c 0 cs w h (by omega) hv;refine⟨w',?_,q2,?_⟩
 . simp only[axO,axH,storeVar,hc]
   simp[go_sem,hn,hl,q1]
 . rw[q3]
   unfold splice;simp[hl]
end
end Go.Proofs.YtebdolonckjpiaaGreatDoor
