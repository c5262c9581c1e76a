/- A part of the proof: contracts of functions and plain laws (LawH, InA, FrD, DagC, Ex). -/
import Derived.Test.YtkpodipoegbclaaGreatDoorK12
import Derived.Test.YtkpodipoegbclaaGreatDoorK13
import Derived.LaidHandle
import Derived.Shelf.Spec.SlicesInsert
import Derived.Shelf.Spec.SlicesInsertGrow
import Derived.Test.YtkpodipoegbclaaGreatDoorProg
import Derived.DeepKeys4
import Derived.Test.YtkpodipoegbclaaGreatDoorK07
import Derived.Deep.AppendLies
import Derived.Test.YtkpodipoegbclaaGreatDoorK11
set_option linter.unusedVariables false
set_option linter.unusedSimpArgs false
set_option maxHeartbeats 25600000
set_option maxRecDepth 100000
namespace Go.Proofs.YtkpodipoegbclaaGreatDoor
open Go.ChangeShapes Go.WideShapes Go.ChangeAt Go.RowKit
variable{W:World}
def nV : List (String × DataW Unit) := [("math/bits.deBruijn64tab", Rows.laid_math_bits_deBruijn64tab), ("errors.errorType", Rows.laid_errors_errorType)]
theorem af2 : Tryz.prog.globalNamed "errors.errorType" = some 0 := by kernel_rfl
theorem ety_rt : (Tryz.prog.cutTypes.find? (·.1 == "internal/reflectlite.rtype")).map (·.2) = some 199 := by kernel_rfl
theorem ak4:((List.range 382).filter fun t=>Tryz.prog.rowNamed t [101,114,114,111,114])=[35]:=by kernel_rfl
theorem aiS:Tryz.prog.types.size=382:=by kernel_rfl
theorem aa9  (h : laidMetH Tryz.prog nV W) : laidMet Tryz.prog aa2 W ∧ handlesMet Tryz.prog [("errors.errorType", Rows.laid_errors_errorType)] W := h
theorem zG(h:laidMetH Tryz.prog nV W):Tab W:=aa3 (by rw[MakeChecks.laidMetH_plain _ _ _ (by kernel_rfl)];exact(aa9 h).1)
theorem zH(h:laidMetH Tryz.prog nV W):ErTy W:=by
 obtain⟨name,u,ty,e1,e2,e3,e4,e5⟩:=(aa9 h).2 _ (List.mem_singleton.2 rfl);have en:name=[101,114,114,111,114]:=(Option.some.inj e1).symm;subst en;obtain rfl:=Option.some.inj (ety_rt.symm.trans e2);have hm:ty∈(List.range 382).filter fun t=>Tryz.prog.rowNamed t [101,114,114,111,114]:=List.mem_filter.2 ⟨List.mem_range.2 (by rw[<-aiS];exact e3),e4⟩;rw[ak4]at hm;obtain rfl:=List.mem_singleton.1 hm;have hh:typeHandle Tryz.prog 35=.pointer (some ⟨8,35,none⟩):=by kernel_rfl
 rw[hh]at e5;show W.cell? ⟨0,0,none⟩=_;simpa using World.var?_cell af2 e5 0
noncomputable def amB(os:Os):World:=
 let w0:=World.holding Tryz.prog os ⟨#[],#[],[]⟩
 {w0 with heap:=w0.heap.modify 0 fun
  | .cells _ t frozen=>.cells #[.iface 199 (.agg #[.pointer (some ⟨8,35,none⟩)])] t frozen
  |o=>o}
noncomputable def zI(os:Os):World:=(amB os).layVars Tryz.prog aa2
theorem af3(os:Os):(zI os).os=os:=World.layVars_os _ _ _
theorem adA(os:Os)(args:Array Value):laidMetH Tryz.prog nV ((zI os).forCall (fun _ _=>0) ⟨#[],args,[]⟩).memory:=by
 have h : laidMet Tryz.prog aa2 (zI os) := laidMet_layVars (w0 := amB os) ["math/bits.deBruijn64tab"] [] rfl (by kernel_rfl) (by kernel_rfl) LaidIn.none
 exact laidMetH_of_parts (h.of_heap (by simp[World.memory,World.forCall,Input.heap])) (by kernel_rfl)
end Go.Proofs.YtkpodipoegbclaaGreatDoor
namespace Go.Proofs
open Go.Shelf
def Tryz.lays21_ren:Go.Shelf.Ren:=⟨fun|21=>73|27=>118|28=>119|35=>172|39=>210|n=>n,fun|0=>0|3=>3|4=>4|22=>48|n=>n,fun|n=>n⟩
theorem Tryz.lays21:Lays2.n21 Tryz.prog Tryz.lays21_ren:={
 mixed:=by kernel_rfl
 f21:=Tryz.func73.trans (congrArg some (by kernel_rfl))
 f27:=Tryz.func118.trans (congrArg some (by kernel_rfl))
 f28:=Tryz.func119.trans (congrArg some (by kernel_rfl))
 f35:=Tryz.func172.trans (congrArg some (by kernel_rfl))
 f39:=Tryz.func210.trans (congrArg some (by kernel_rfl))
 t0:=Tryz.underlying0
 a0:=Tryz.isAgg0
 z0:=Tryz.sizeOf0
 v0:=Tryz.zeroValue0
 t3:=Tryz.underlying3
 a3:=Tryz.isAgg3
 z3:=Tryz.sizeOf3
 v3:=Tryz.zeroValue3
 t4:=Tryz.underlying4
 a4:=Tryz.isAgg4
 z4:=Tryz.sizeOf4
 v4:=Tryz.zeroValue4
 t22:=Tryz.underlying48
 a22:=Tryz.isAgg48
 z22:=Tryz.sizeOf48
 v22:=Tryz.zeroValue48
 i3:=by kernel_rfl}
end Go.Proofs
namespace Go.Proofs.YtkpodipoegbclaaGreatDoor
section
open Go.RowKit Go.Maps
open Go.Act renaming put->axU
open Go.RowKit.Below renaming refl->axV,heap_setCell->axW
open Go.World renaming cell?_of_block->axS,block_lt_of_cell?->axZ,setCell->ax0
open List renaming setIfInBounds_toArray->axP,set_cons_zero->axQ,set_cons_succ->axR,getElem?_append_left->axX,getElem?_eq_some_iff->axY
open List.cons renaming injEq->ax1
open Option.some renaming inj->axT,injEq->ax2
variable{ns:List Nd}{B b c g mb:Nat}{n:Nd}{A:Option Addr}{m:Value->Option Value}{w':World}
def DagB(w:World)(g b:Nat):Prop:=b=g\/∃v mb T,w.heap[g]? =some (.cells #[v,.map (some mb)] T (0,0))/\(v.ownBlock=some b\/mb=b)
def DS(g:Nat)(w w':World):Prop:=Fr (DagB w g) w w'/\∀b,b<w.heap.size->¬DagB w g b->¬DagB w' g b
theorem DS.refl (g:Nat)(w:World):DS g w w:=⟨Fr.of_below (axV _ _),fun _ _ h=>h⟩
theorem DS.size {w:World}(h:DS g w w'):w.heap.size<=w'.heap.size:=h.1.size
theorem DS.trans {a b c:World}(h:DS g a b)(k:DS g b c):DS g a c:=
 ⟨⟨k.1.os.trans h.1.os,k.1.tape.trans h.1.tape,k.1.output.trans h.1.output,Nat.le_trans h.1.size k.1.size,fun i hi hn=>(k.1.block i (Nat.lt_of_lt_of_le hi h.1.size) (h.2 i hi hn)).trans (h.1.block i hi hn)⟩,
   fun i hi hn=>k.2 i (Nat.lt_of_lt_of_le hi h.1.size) (h.2 i hi hn)⟩
theorem DagB.congr {w:World}(e:w'.heap[g]? =w.heap[g]?):DagB w' g b↔DagB w g b:=by unfold DagB;rw[e]
theorem DS.of_below {w:World}(hg:g<w.heap.size)(h:Below w.heap.size w w'):DS g w w':=
 ⟨Fr.of_below h,fun b _ hn hd=>hn ((DagB.congr (h.block g hg)).1 hd)⟩
theorem DS.heap {w:World}(h:DS g w w')(hb:b<w.heap.size)(hn:¬DagB w g b):w'.heap[b]? =w.heap[b]? :=h.1.block b hb hn
theorem DS.cell {w:World}{a:Addr}{v:Value}(h:DS g w w')(hc:w.cell? a=some v)(hn:¬DagB w g a.block):w'.cell? a=some v:=
 (axS (h.1.block a.block (axZ w a hc) hn)).trans hc
theorem DagP.dagB {w:World}(h:DagP w g ns)(hb:DagB w g b):b<w.heap.size:=by
 obtain⟨v,mb,m,h1,h2,h3,-⟩:=h;rcases hb with rfl|⟨v',mb',T,e,hb⟩
 . exact aG h1
 . rw[h1]at e
   simp only[ax2,Obj.cells.injEq,Array.mk.injEq,ax1,Value.map.injEq,and_true]at e;obtain⟨⟨rfl,rfl⟩,-⟩:=e;rcases hb with hb|rfl
   . exact jO h2 b hb
   . exact h3.lt
def aeB(B g:Nat)(w:World):Prop:=∀b,DagB w g b->B<=b
theorem DS.hi {w:World}(h:DS g w w')(hB:B<=w.heap.size)(hh:aeB B g w):aeB B g w':=fun b hb=>by
 rcases Nat.lt_or_ge b B with hlt|hge
 . exact absurd hb (h.2 b (by omega) (fun hd=>by have:=hh b hd;omega))
 . exact hge
theorem DS.below {w:World}(h:DS g w w')(hB:B<=w.heap.size)(hh:aeB B g w):Below B w w':=
 h.1.below hB hh
section
variable{P:Program}(w:World){ops:Array Oper}{o:Oper}{a:Act}{K:Act->World->Prop}{Q:Exit->Act->World->Prop}{E:Prop}
theorem aiT(hg:o.guard=none)(mo x v:Operand)(t:TypeId)(hop:o.op=Op.mapUpdate t mo x v)
 (k e:TypeId) (K':Keyed P k) (ht:P.underlying t=some (.map k e)) (b:Nat) (m m':Value->Option Value)
 (hm:a.eval mo=.map (some b)) (hown:MapP P k w b m) (key val:Value) (kl:Lit) (hx:a.eval x=key) (hv:a.eval v=val) (hkey:keyOf P k key=some kl) (hu:Upd m key (some val) m')
 (hK:∀w',Hid (MapP P k w' b m')->w.grownBy w' (some b)->w'.heap.size=w.heap.size->K (a.put o.dst undef) w'):if Region.wanted o (yielded ops a.tmps)=true then Oper.wp P o a w K Q else E:=by
 have hw:Region.wanted o (yielded ops a.tmps)=true:=by simp[Region.wanted,hg]
 rw[if_pos hw];obtain⟨w',hrun,r1,r2,r3⟩:=hown.store K' ht hkey hu;unfold Oper.wp;simp[execOp,hop,hm,hx,hv,hrun,Result.andThen];exact hK w' (hdd r1) r2 r3
end
theorem zJ:laidOutB Tryz.prog=true:=by kernel_rfl
theorem ak5:(269:TypeId)<Tryz.prog.types.size:=of_decide_eq_true (by kernel_rfl)
theorem aiU:(match Tryz.prog.underlying 269 with|some (.array _ _)|some (.struct _)=>true|_=>false)=true:=by kernel_rfl
theorem qM:Keyed Tryz.prog 269:=Keyed.of_law (deep_law_laid zJ (m:=3) (by omega) ak5 (by kernel_rfl) aiU)
theorem sO:Tryz.prog.underlying 80=some (.map 269 3):=by kernel_rfl
theorem af4:Tryz.prog.underlying 79=some (.slice 137):=by kernel_rfl
theorem af5:(Tryz.prog.info? 137).map (fun i=>(i.zero,i.size,i.bytes))=some (some (.agg #[.int .i64 0,.float .f64 0,.int .i64 0,.int .i64 0]),4,32):=by kernel_rfl
theorem abA:Tryz.prog.keyType 269=true:=by kernel_rfl
theorem xR:Tryz.prog.cellsOf 269=4:=by kernel_rfl
theorem af6:Tryz.prog.cellsOf 3=1:=by kernel_rfl
theorem af7:Tryz.prog.cellsOf 101=1:=by kernel_rfl
theorem ak6:Tryz.prog.underlying 101=some (.int .u64):=by kernel_rfl
theorem adB:∃d,Tryz.prog.types.size=d+2:=⟨Tryz.prog.types.size-2,by
 have h:decide (2<=Tryz.prog.types.size)=true:=by kernel_rfl
 have:=of_decide_eq_true h;omega⟩
def Sm64(i:Int):Prop:=-9223372036854775808<=i/\i<9223372036854775808
theorem wf_i64{i:Int}(h:Sm64 i):(Lit.int .i64 i).wf=true:=by
 have e1:IntKind.i64.min=-9223372036854775808:=rfl;have e2:IntKind.i64.max=9223372036854775807:=rfl;unfold Sm64 at h;simp[Lit.wf,e1,e2];omega
theorem wf_u64{n:Nat}(h:n<18446744073709551616):(Lit.int .u64 (n:Int)).wf=true:=by
 have e1:IntKind.u64.min=0:=rfl;have e2:IntKind.u64.max=18446744073709551615:=rfl;simp[Lit.wf,e1,e2];omega
theorem aiV(hk:Sm64 n.kind)(ha:Sm64 n.a)(hb:Sm64 n.b)(hv:n.val<18446744073709551616):∃kl,keyOf Tryz.prog 269 (keyV n)=some kl:=by
 obtain⟨d,hd⟩:=adB;have hu:=Tryz.underlying269;have hf:(keyV n).formed Tryz.prog 269=true:=by simp[Value.formed,hu,xR,keyV]
 have hl:∃ls,Tryz.prog.keyLits (Tryz.prog.types.size+1) 269 (keyV n).cells.toList=some ls:=by
  rw[hd];exact⟨_,by simp[Program.keyLits,hu,keyV,Value.cells,xR,af6,af7,y9,ak6,wf_i64 hk,wf_i64 ha,wf_i64 hb,wf_u64 hv];rfl⟩
 obtain⟨ls,hl⟩:=hl;exact⟨.string (keyBytes ls),by rw[keyOf,hu];simp only[abA,hf,hl,Bool.and_self,if_true,Option.map_some]⟩
theorem aiW{n':Nd}(h:keyV n=keyV n'):n=n':=by
 obtain⟨k,v,a,b⟩:=n;obtain⟨k',v',a',b'⟩:=n';simp only[keyV,Value.agg.injEq,Array.mk.injEq,ax1,Value.int.injEq,true_and,and_true]at h;obtain⟨rfl,rfl,rfl,hv⟩:=h;have:v=v':=by omega
 rw[this]
def DagO(w:World)(g:Nat)(ns:List Nd)(A:Option Addr)(c mb:Nat)(m:Value->Option Value):Prop:=
 w.heap[g]? =some (.cells #[.slice A ns.length c,.map (some mb)] 82 (0,0))/\w.ownsRow 0 137 4 (.slice A ns.length c) ns.length (dX ns)/\MapP Tryz.prog 269 w mb m/\
  KeyOk ns m/\(Value.slice A ns.length c).ownBlock≠some g/\mb≠g/\(Value.slice A ns.length c).ownBlock≠some mb/\ns.length<=20000/\∀n∈ns,n.val<18446744073709551616
theorem DagP.opened {w:World}(h:DagP w g ns):∃A c mb m,DagO w g ns A c mb m:=by
 obtain⟨v,mb,m,h1,h2,h3⟩:=h;rcases id h2.2 with ⟨rfl,hn⟩|⟨r,cap,cur,rfl,-⟩
 . exact⟨none,0,mb,m,by rw[hn];exact h1,by rw[hn];rw[hn]at h2;exact h2,h3.1,h3.2.1,by simp[Value.ownBlock],h3.2.2.2.1,by simp[Value.ownBlock],h3.2.2.2.2.2.1,h3.2.2.2.2.2.2⟩
 . exact⟨_,cap,mb,m,h1,h2,h3.1,h3.2.1,h3.2.2.1,h3.2.2.2.1,h3.2.2.2.2.1,h3.2.2.2.2.2.1,h3.2.2.2.2.2.2⟩
theorem DagO.dag {w:World}(h:DagO w g ns A c mb m):DagP w g ns:=by
 obtain⟨h1,h2,h3,h4,h5,h6,h7,h8,h9⟩:=h;exact⟨_,mb,m,h1,h2,h3,h4,h5,h6,h7,h8,h9⟩
theorem DagO.dagB {w:World}(h:DagO w g ns A c mb m)(hb:¬DagB w g b):b≠g/\b≠mb/\(Value.slice A ns.length c).ownBlock≠some b:=by
 obtain⟨h1,-⟩:=h;exact⟨fun e=>hb (Or.inl e),fun e=>hb (Or.inr ⟨_,mb,_,h1,Or.inr e.symm⟩),fun e=>hb (Or.inr ⟨_,mb,_,h1,Or.inl e⟩)⟩
theorem DagO.below {w:World}(h:DagO w g ns A c mb m)(hb:Below w.heap.size w w'):DagO w' g ns A c mb m:=by
 obtain⟨h1,h2,h3,h4,h5,h6,h7,h8,h9⟩:=h;refine⟨hbl h1 hb,h2.kept (bM (row:=none) hb) ?_,h3.below hb h3.lt,h4,h5,h6,h7,h8,h9⟩
 cases hv:(Value.slice A ns.length c).ownBlock
 . exact Or.inl rfl
 . exact Or.inr (by simp)
theorem uY(ns:List Nd)(n:Nd):dX (ns++[n])=dX ns++fE n:=by simp[dX]
def aiX(w:World)(g:Nat)(ns:List Nd)(n:Nd)(e:Ending)(w':World):Prop:=
 ∃(i:Nat) (ns':List Nd),e=.returned (.tuple #[.int .i64 (i:Int),.nilIface])/\DagP w' g ns'/\ns'[i]? =some n/\(ns'=ns\/ns'=ns++[n])/\DS g w w'
theorem grownBy_refl(w:World)(row:Option Nat):w.grownBy w row:=⟨rfl,rfl,rfl,Nat.le_refl _,fun _ _ _=>rfl⟩
theorem ak7{w wA wB wD wE:World}{r cap:Nat}{m':Value->Option Value}(h:DagO w g ns A c mb m)(hA:Below w.heap.size w wA)
 (hO:wB.ownsRow 0 137 4 (.slice (some ⟨r,0,none⟩) (ns.length+1) cap) (ns.length+1) (dX ns++fE n)) (hB:wA.grownBy wB (Value.slice A ns.length c).ownBlock) (hat:(Value.slice A ns.length c).ownBlock=some r\/r=wA.heap.size)
 (hD:Below wB.heap.size (wB.setCell ⟨g,0,none⟩ (.slice (some ⟨r,0,none⟩) (ns.length+1) cap)) wD) (hM:MapP Tryz.prog 269 wE mb m') (hE:wD.grownBy wE (some mb)) (hu:Upd m (keyV n) (some (.int .i64 (ns.length:Int))) m')
 (hl:ns.length<20000) (hv:n.val<18446744073709551616) (hno:m (keyV n)=none):
 aiX w g ns n (.returned (.tuple #[.int .i64 (ns.length:Int),.nilIface])) wE:=by
 obtain⟨h1,h2,h3,h4,h5,h6,h7,h8,h9⟩:=id h;have lg:=aG h1;have lm:=h3.lt;have sA:=hA.size;have sB:=hB.size;have hrg:r≠g:=fun e=>hat.elim (fun h=>h5 (by rw[<-e];exact h)) (fun h=>by omega);have hrm:r≠mb:=fun e=>hat.elim (fun h=>h7 (by rw[<-e];exact h)) (fun h=>by omega);have hrB:r<wB.heap.size:=(hO.lt r rfl).2;have szC:(wB.setCell ⟨g,0,none⟩ (.slice (some ⟨r,0,none⟩) (ns.length+1) cap)).heap.size=wB.heap.size:=by simp[ax0]
 have far:∀b,b<w.heap.size->b≠g->b≠mb->(Value.slice A ns.length c).ownBlock≠some b->wE.heap[b]? =w.heap[b]? :=fun b hb q1 q2 q3=>
  (hE.block b (by have:=hD.size;omega) (fun e=>q2 (axT e))).trans ((hD.block b (by omega)).trans ((axW wB _ _ b (by simpa using q1)).trans ((hB.block b (by omega) (fun e=>q3 e.symm)).trans (hA.block b hb))))
 have eg:wB.heap[g]? =some (.cells #[.slice A ns.length c,.map (some mb)] 82 (0,0)):=(hB.block g (by omega) (fun e=>h5 e.symm)).trans ((hA.block g lg).trans h1);have eC:(wB.setCell ⟨g,0,none⟩ (.slice (some ⟨r,0,none⟩) (ns.length+1) cap)).heap[g]? =some (.cells #[.slice (some ⟨r,0,none⟩) (ns.length+1) cap,.map (some mb)] 82 (0,0)):=by
  have hg:g<wB.heap.size:=aG eg;have h':wB.heap[g]=.cells #[.slice A ns.length c,.map (some mb)] 82 (0,0):=(Array.getElem?_eq_some_iff.1 eg).2;simp[ax0,hg,Array.getElem_modify,h']
 have eE:wE.heap[g]? =some (.cells #[.slice (some ⟨r,0,none⟩) (ns.length+1) cap,.map (some mb)] 82 (0,0)):=
  (hE.block g (by have:=hD.size;omega) (fun e=>h6 (axT e).symm)).trans ((hD.block g (by omega)).trans eC)
 have hO1:=hO.kept (grownBy_set (grownBy_refl wB (some g)) (i:=0) (.slice (some ⟨r,0,none⟩) (ns.length+1) cap)) (Or.inr (fun e=>hrg (axT e)));have hO2:=hO1.kept (bM (row:=none) (by rw[szC];exact hD)) (Or.inr (by simp[Value.ownBlock]));have hO3:=hO2.kept hE (Or.inr (fun e=>hrm (axT e)));have sz:w.heap.size<=wE.heap.size:=by have:=hD.size;have:=hE.size;omega
 refine⟨ns.length,ns++[n],rfl,⟨.slice (some ⟨r,0,none⟩) (ns.length+1) cap,mb,m',?_,?_,hM,?_,?_,h6,?_,by simp;omega,?_⟩,by simp,Or.inr rfl,⟨⟨?_,?_,?_,sz,?_⟩,?_⟩⟩
 . exact eE
 . rw[uY];simpa using hO3
 . refine⟨fun key val hk=> ?_,fun i n' hi=> ?_⟩
   . by_cases hkn:key=keyV n
     . subst hkn
       rw[hu.1]at hk;exact⟨ns.length,n,by simp,(axT hk).symm,rfl⟩
     . rw[hu.2 key hkn]at hk
       obtain⟨i,n',q1,q2,q3⟩:=h4.1 key val hk;exact⟨i,n',by rw[axX (axY.1 q1).1];exact q1,q2,q3⟩
   . rcases Nat.lt_or_ge i ns.length with hlt|hge
     . rw[axX hlt]at hi
       have h1:=h4.2 i n' hi;rw[hu.2 _ (fun e=>by rw[e,hno]at h1;cases h1)];exact h1
     . have hie:=(axY.1 hi).1
       rw[List.length_append,List.length_singleton]at hie;have:i=ns.length:=by omega
       subst this;rw[List.getElem?_append_right nlr,Nat.sub_self]at hi;have:n=n':=axT hi;rw[<-this];exact hu.1
 . exact fun e=>hrg (axT e)
 . exact fun e=>hrm (axT e)
 . intro x hx
   rcases List.mem_append.1 hx with hx|hx
   . exact h9 x hx
   . simp at hx;rw[hx];exact hv
 . exact hE.os.trans (hD.os.trans (hB.os.trans hA.os))
 . exact hE.tape.trans (hD.tape.trans (hB.tape.trans hA.tape))
 . exact hE.output.trans (hD.output.trans (hB.output.trans hA.output))
 . intro b hb hn
   obtain⟨q1,q2,q3⟩:=h.dagB hn;exact far b hb q1 q2 q3
 . rintro b hb hn(rfl|⟨v',mb',T',e,hd⟩)
   . exact(h.dagB hn).1 rfl
   . obtain⟨q1,q2,q3⟩:=h.dagB hn
     rw[eE]at e;simp only[ax2,Obj.cells.injEq,Array.mk.injEq,ax1,Value.map.injEq,and_true]at e;obtain⟨⟨rfl,rfl⟩,-⟩:=e;rcases hd with hd|rfl
     . have:r=b:=axT hd
       subst this;exact hat.elim q3 (fun h=>by omega)
     . exact q2 rfl
theorem wS{w:World}{T:TypeId}{a b c d:Value}(h:w.heap[g]? =some (.cells #[a,b,c,d] T (0,0))):∀j x,[a,b,c,d][j]? =some x->w.cell? ((⟨g,0,none⟩:Addr).add j)=some x:=by
 intro j x hx;rcases j with _|_|_|_|j
 all_goals first|(simp at hx;subst hx;simp[World.cell?,Addr.add,h])|(simp at hx)
theorem ak8{w w5 w6:World}(h:DagO w g ns A c mb m)(h5:DagO w5 g ns A c mb m)(hg:w5.grownBy w6 (Value.slice A ns.length c).ownBlock)(hs:w.heap.size<=w5.heap.size)(nv:Value):
 w6.heap[g]? =some (.cells #[.slice A ns.length c,.map (some mb)] 82 (0,0))/\(w6.setCell ⟨g,0,none⟩ nv).heap[g]? =some (.cells #[nv,.map (some mb)] 82 (0,0))/\MapP Tryz.prog 269 (w6.setCell ⟨g,0,none⟩ nv) mb m/\
  ∀b,w.heap.size<=b->b<w5.heap.size->w6.heap[b]? =w5.heap[b]? /\(w6.setCell ⟨g,0,none⟩ nv).heap[b]? =w5.heap[b]? :=by
 obtain⟨h1,h2,h3,h4,h5',h6,h7,h8,h9⟩:=id h;have lg:=aG h1;have lm:=h3.lt;have eg:=(hg.block g (by omega) (fun e=>h5' e.symm)).trans h5.1;have em:w6.heap[mb]? =w5.heap[mb]? :=hg.block mb (by omega) (fun e=>h7 e.symm);refine⟨eg,?_,h5.2.2.1.keep ((axW w6 _ _ mb (by simpa using h6)).trans em),fun b hb hlt=> ?_⟩
 . have hgl:g<w6.heap.size:=aG eg
   have h':w6.heap[g]=.cells #[.slice A ns.length c,.map (some mb)] 82 (0,0):=(Array.getElem?_eq_some_iff.1 eg).2;simp[ax0,hgl,Array.getElem_modify,h']
 . have e:=hg.block b hlt (fun e=>by have:=jO h2 b e.symm;omega)
   exact⟨e,(axW w6 _ _ b (by simp;omega)).trans e⟩
theorem ak9{w:World}(hd:DagP w g ns)(hn:NdIn n ns.length)(hv:n.val<18446744073709551616)(hl:ns.length<20000):
 Calls Tryz.prog 138 #[.pointer (some ⟨g,0,none⟩),jN n] w (aiX w g ns n):=by
 obtain⟨A,c,mb,m,ho⟩:=hd.opened;obtain⟨w1,hw1,hb1,hs1,b1⟩:=pro1 w (.cells (fE n).toArray 137);have hkey:∃kl,keyOf Tryz.prog 269 (keyV n)=some kl:=by
  have hk:Sm64 n.kind/\Sm64 n.a/\Sm64 n.b:=by
   rcases hn.1 with ⟨q1,q2,q3⟩|⟨q1,q2,q3,q4⟩|⟨q1,q2,q3,q4⟩<;>unfold Sm64<;>omega
  exact aiV hk.1 hk.2.1 hk.2.2 hv
 obtain⟨kl,hkey⟩:=hkey;have HO:=hdd ho;have HO1:=hdd (ho.below hb1);have HB1:=hdd hb1;have HT:=hdd (afV (hd.below hb1) hn hv);have HKO:Hid (∀w',Calls Tryz.prog 184 #[.agg #[.int .i64 n.kind,.float .f64 n.val,.int .i64 n.a,.int .i64 n.b]] w' (RetV w' (keyV n))):=hdd fun w'=>afT;have HKEY:=hdd hkey;obtain⟨kind,val,na,nb⟩:=n;simp only[fE,jN]at b1 hw1|-;obtain⟨c0,c1,c2,c3⟩:=aY b1;obtain⟨g0,g1,gf0,gf1⟩:=aB HO1.out.1;have HLEN:=hdd hl;have HV:=hdd hv;have hlI:(ns.length:Int)<20000:=by omega
 have hl0:(0:Int)<=(ns.length:Int):=by omega
 have hneq:=fun(w:World) (r:Option Nat)=>run_neq_map_nil w _ _ _ r sO;clear hd hn hb1 hs1 b1 ho hkey hv hl
 cases hmk:m (keyV ⟨kind,val,na,nb⟩)with
 |some v=>
  obtain⟨i,n',q1,rfl,q3⟩:=HO.out.2.2.2.1.1 _ _ hmk;have q4:=aiW q3;subst q4;have HQ:=hdd q1;have HMS:Hid ((m (keyV ⟨kind,val,na,nb⟩)).getD (.int .i64 0)=.int .i64 (i:Int)):=hdd (by rw[hmk];rfl);have HMI:Hid ((m (keyV ⟨kind,val,na,nb⟩)).isSome=true):=hdd (by rw[hmk];rfl);clear hmk q1 q3;go_enter Tryz.func138,Tryz.ntmps138
  go_wp2_with fail
  refine HT.out.mono ?_;rintro e w2⟨rfl,hb2⟩;replace c0:=cbl c0 hb2;replace c1:=cbl c1 hb2;replace c2:=cbl c2 hb2;replace c3:=cbl c3 hb2;replace g0:=cbl g0 hb2;replace g1:=cbl g1 hb2;have HB2:=hdd (aA HB1.out hb2);have HD2:=hdd (((HO1.out.below hb2).below (axV _ _).drew));clear hb2 gf0 gf1;go_wp2_with fail
  have hdr:Below w2.heap.size w2 w2.drew:=(axV _ _).drew;replace c0:=cbl c0 hdr;replace c1:=cbl c1 hdr;replace c2:=cbl c2 hdr;replace c3:=cbl c3 hdr;replace g0:=cbl g0 hdr;replace g1:=cbl g1 hdr;clear hdr
  go_region_held3 (fun w'=>w'.cell? ⟨g,1,none⟩=some (.map (some mb))/\w'.cell? ⟨w.heap.size,0,none⟩=some (.int .i64 kind)/\w'.cell? ⟨w.heap.size,1,none⟩=some (.float .f64 val)/\w'.cell? ⟨w.heap.size,2,none⟩=some (.int .i64 na)/\w'.cell? ⟨w.heap.size,3,none⟩=some (.int .i64 nb)) (go_keep)
   (first
   |(go_at_call 184
     refine(HKO.out _).mono ?_;rintro e w4⟨rfl,hb4⟩;have c0:=cbl c0 hb4;have c1:=cbl c1 hb4;have c2:=cbl c2 hb4;have c3:=cbl c3 hb4;have g0:=cbl g0 hb4;have g1:=cbl g1 hb4;have hlk:=(HD2.out.below hb4).2.2.1.look qM sO (eF w4) HKEY.out true;rw[if_pos rfl,HMS.out,HMI.out]at hlk;unfold keyV at*;have HBF:=hdd (aA (aA HB2.out (axV _ _).drew) hb4);have HDF:=hdd (HD2.out.below hb4);clear hb4))
  go_wp2
  go_ret2
  exact⟨i,ns,rfl,HDF.out.dag,HQ.out,Or.inl rfl,DS.of_below HO.out.dag.glt HBF.out⟩
 |none=>
  have HMS:Hid ((m (keyV ⟨kind,val,na,nb⟩)).getD (.int .i64 0)=.int .i64 0):=hdd (by rw[hmk];rfl);have HMI:Hid ((m (keyV ⟨kind,val,na,nb⟩)).isSome=false):=hdd (by rw[hmk];rfl);obtain⟨m',hu⟩:=kF m (keyV ⟨kind,val,na,nb⟩) (some (.int .i64 (ns.length:Int)));have HU:=hdd hu;have HNO:=hdd hmk;obtain⟨i0,hi0,hz0,hz1,hz2⟩:=info_parts af5;have HI0:=hdd hi0;have HZ0:=hdd hz0;have HZ1:=hdd hz1;have HZ2:=hdd hz2;clear hmk hu hi0 hz0 hz1 hz2;go_enter Tryz.func138,Tryz.ntmps138
  go_wp2_with fail
  refine HT.out.mono ?_;rintro e w2⟨rfl,hb2⟩;replace c0:=cbl c0 hb2;replace c1:=cbl c1 hb2;replace c2:=cbl c2 hb2;replace c3:=cbl c3 hb2;replace g0:=cbl g0 hb2;replace g1:=cbl g1 hb2;have HB2:=hdd (aA HB1.out hb2);have HD2:=hdd (((HO1.out.below hb2).below (axV _ _).drew));clear hb2 gf0 gf1;go_wp2_with fail
  have hdr:Below w2.heap.size w2 w2.drew:=(axV _ _).drew;replace c0:=cbl c0 hdr;replace c1:=cbl c1 hdr;replace c2:=cbl c2 hdr;replace c3:=cbl c3 hdr;replace g0:=cbl g0 hdr;replace g1:=cbl g1 hdr;clear hdr
  go_region_held3 (fun w'=>w'.cell? ⟨g,1,none⟩=some (.map (some mb))/\w'.cell? ⟨w.heap.size,0,none⟩=some (.int .i64 kind)/\w'.cell? ⟨w.heap.size,1,none⟩=some (.float .f64 val)/\w'.cell? ⟨w.heap.size,2,none⟩=some (.int .i64 na)/\w'.cell? ⟨w.heap.size,3,none⟩=some (.int .i64 nb)) (go_keep)
   (first
   |(go_at_call 184
     refine(HKO.out _).mono ?_;rintro e w4⟨rfl,hb4⟩;have c0:=cbl c0 hb4;have c1:=cbl c1 hb4;have c2:=cbl c2 hb4;have c3:=cbl c3 hb4;have g0:=cbl g0 hb4;have g1:=cbl g1 hb4;have hlk:=(HD2.out.below hb4).2.2.1.look qM sO (eF w4) HKEY.out true;rw[if_pos rfl,HMS.out,HMI.out]at hlk;unfold keyV at*;have HBF:=hdd (aA (aA HB2.out (axV _ _).drew) hb4);have HDF:=hdd (HD2.out.below hb4);clear hb4))
  clear hlk;go_wp2_with fail
  refine wp_region_noPanic ?_;refine kT (fun w'=>w'.cell? ⟨g,0,none⟩=some (.slice A ns.length c)/\w'.cell? ⟨w.heap.size,0,none⟩=some (.int .i64 kind)/\w'.cell? ⟨w.heap.size,1,none⟩=some (.float .f64 val)/\w'.cell? ⟨w.heap.size,2,none⟩=some (.int .i64 na)/\w'.cell? ⟨w.heap.size,3,none⟩=some (.int .i64 nb)) 10 (by kernel_rfl) ?_;have hSd:(fun w':World=>w'.cell? ⟨g,0,none⟩=some (.slice A ns.length c)/\w'.cell? ⟨w.heap.size,0,none⟩=some (.int .i64 kind)/\w'.cell? ⟨w.heap.size,1,none⟩=some (.float .f64 val)/\w'.cell? ⟨w.heap.size,2,none⟩=some (.int .i64 na)/\w'.cell? ⟨w.heap.size,3,none⟩=some (.int .i64 nb)) w4.drew:=⟨g0,c0,c1,c2,c3⟩;refine aT 0 (.pointer (some ⟨g,0,none⟩)) rfl (by kernel_rfl) (by kernel_rfl) (by kernel_rfl) (by kernel_rfl) (fun _ _ _ h=>h) (by rfl) ?_ (by assumption) ?_
  . intro w' hSw;(try dsimp only at hSw);go_split_ands;go_simp;all_goals first|rfl|done
  try simp only[axU,axP,axQ,axR]
  refine aT 1 (.pointer (some ⟨g,0,none⟩)) rfl (by kernel_rfl) (by kernel_rfl) (by kernel_rfl) (by kernel_rfl) (fun _ _ _ h=>h) (by rfl) ?_ (by assumption) ?_
  . intro w' hSw;(try dsimp only at hSw);go_split_ands;go_simp;all_goals first|rfl|done
  try simp only[axU,axP,axQ,axR]
  refine aT 2 (.pointer (some ⟨g,0,none⟩)) rfl (by kernel_rfl) (by kernel_rfl) (by kernel_rfl) (by kernel_rfl) (fun _ _ _ h=>h) (by rfl) ?_ (by assumption) ?_
  . intro w' hSw;(try dsimp only at hSw);go_split_ands;go_simp;all_goals first|rfl|done
  try simp only[axU,axP,axQ,axR]
  refine aT 3 (.pointer (some ⟨g,0,none⟩)) rfl (by kernel_rfl) (by kernel_rfl) (by kernel_rfl) (by kernel_rfl) (fun _ _ _ h=>h) (by rfl) ?_ (by assumption) ?_
  . intro w' hSw;(try dsimp only at hSw);go_split_ands;go_simp;all_goals first|rfl|done
  try simp only[axU,axP,axQ,axR]
  refine aT 4 (.slice A ns.length c) rfl (by kernel_rfl) (by kernel_rfl) (by kernel_rfl) (by kernel_rfl) (fun _ _ _ h=>h) (by rfl) ?_ (by assumption) ?_
  . intro w' hSw;(try dsimp only at hSw);go_split_ands;go_simp;all_goals first|rfl|done
  try simp only[axU,axP,axQ,axR]
  refine aT 5 (.agg #[.int .i64 kind,.float .f64 val,.int .i64 na,.int .i64 nb]) rfl (by kernel_rfl) (by kernel_rfl) (by kernel_rfl) (by kernel_rfl) (fun _ _ _ h=>h) (by rfl) ?_ (by assumption) ?_
  . intro w' hSw;(try dsimp only at hSw);go_split_ands;go_simp;all_goals first|rfl|done
  try simp only[axU,axP,axQ,axR]
  obtain⟨w5,hw5,hb5,hs5,b5⟩:=pro1 w4.drew (.cells #[.int .i64 kind,.float .f64 val,.int .i64 na,.int .i64 nb] 137);have hdr4:Below w4.heap.size w4 w4.drew:=(axV _ _).drew;have h45:Below w4.heap.size w4 w5:=aA hdr4 hb5;have HD5:=hdd (HDF.out.below h45);replace c0:=cbl c0 h45;replace c1:=cbl c1 h45;replace c2:=cbl c2 h45;replace c3:=cbl c3 h45;replace g0:=cbl g0 h45;replace g1:=cbl g1 h45;have HB5:=hdd (aA HBF.out h45);have HC5:=hdd (wS b5);have HS5:Hid (w5.heap.size=w4.heap.size+1):=hdd hs5;clear hb5 hs5 b5 hdr4 h45;refine dW 6 (by kernel_rfl) rfl fun K hK=> ?_;go_simp;refine hK.out _ _ (fun _=>⟨g0,c0,c1,c2,c3⟩) ?_;clear hK
  try simp only[axU,axP,axQ,axR]
  refine dW 7 (by kernel_rfl) rfl fun K hK=> ?_;refine step_append_lies _ rfl _ _ 79 rfl 0 137 i0 (.agg #[.int .i64 0,.float .f64 0,.int .i64 0,.int .i64 0]) 4 32 af4 HI0.out HZ0.out HZ1.out HZ2.out rfl (by decide) (.slice A ns.length c) ns.length (dX ns) rfl HD5.out.2.1 ⟨w4.heap.size,0,none⟩ 1 1 [.int .i64 kind,.float .f64 val,.int .i64 na,.int .i64 nb] rfl rfl HC5.out (by simp[Value.oneCell']) (by decide) (by have:=HLEN.out;unfold maxLen;omega) (by have:=HLEN.out;omega) (Nat.zero_le _) w5.heap.size rfl ?_;intro r cap w6 hown6 hgr6 hat6 hlt6;have hm:=ak8 HO.out HD5.out hgr6 HB5.out.size (.slice (some ⟨r,0,none⟩) (ns.length+1) cap);obtain⟨q1,q2,q3,q4⟩:=hm;obtain⟨q4,q5⟩:=q4 w.heap.size nlr (axZ w5 _ c0);obtain⟨w7,hw7⟩:∃w7,w6.setCell ⟨g,0,none⟩ (.slice (some ⟨r,0,none⟩) (ns.length+1) cap)=w7:=⟨_,rfl⟩;obtain⟨g0',g1',gf0',-⟩:=aB q1;have d0:=(axS (a:=⟨w.heap.size,0,none⟩) q4).trans c0;have d1:=(axS (a:=⟨w.heap.size,1,none⟩) q4).trans c1
  have d2:=(axS (a:=⟨w.heap.size,2,none⟩) q4).trans c2;have d3:=(axS (a:=⟨w.heap.size,3,none⟩) q4).trans c3;have HO6:=hdd hown6;have HG6:=hdd hgr6;have HA6:=hdd hat6;have HW7:=hdd hw7;rw[hw7]at q2 q3 q5;have HQ2:=hdd q2;have HQ3:=hdd q3;have HQ5:=hdd q5;refine hK.out _ _ (fun _=>⟨g0',d0,d1,d2,d3⟩) ?_;clear hK hown6 hgr6 hat6 hlt6 q1 q2 q3 q4 q5
  try simp only[axU,axP,axQ,axR]
  refine dW 8 (by kernel_rfl) rfl fun K hK=> ?_;go_simp;refine hK.out _ _ (fun _=>⟨g0',d0,d1,d2,d3⟩) ?_;clear hK
  try simp only[axU,axP,axQ,axR]
  refine dW 9 (by kernel_rfl) rfl fun K hK=> ?_;go_simp;refine hK.out _ _ (fun _=>⟨g0',d0,d1,d2,d3⟩) ?_;clear hK
  try simp only[axU,axP,axQ,axR]
  refine dW 10 (by kernel_rfl) rfl fun K hK=> ?_;go_simp;refine hK.out _ _ (fun h=>absurd rfl h) ?_;clear hK;refine mX (by kernel_rfl) ?_;refine NoPanic.normal ?_;obtain⟨p0,p1,-,-⟩:=aB HQ2.out;have e0:=(axS (a:=⟨w.heap.size,0,none⟩) HQ5.out).trans c0;have e1:=(axS (a:=⟨w.heap.size,1,none⟩) HQ5.out).trans c1;have e2:=(axS (a:=⟨w.heap.size,2,none⟩) HQ5.out).trans c2;have e3:=(axS (a:=⟨w.heap.size,3,none⟩) HQ5.out).trans c3;clear d0 d1 d2 d3 g0' g1' gf0' c0 c1 c2 c3 g0 g1 hw5;go_wp2_with fail
  refine wp_region_noPanic ?_;refine kT (fun w'=>w'.cell? ⟨g,1,none⟩=some (.map (some mb))/\w'.cell? ⟨w.heap.size,0,none⟩=some (.int .i64 kind)/\w'.cell? ⟨w.heap.size,1,none⟩=some (.float .f64 val)/\w'.cell? ⟨w.heap.size,2,none⟩=some (.int .i64 na)/\w'.cell? ⟨w.heap.size,3,none⟩=some (.int .i64 nb)) 7 (by kernel_rfl) ?_;have hSd2:(fun w':World=>w'.cell? ⟨g,1,none⟩=some (.map (some mb))/\w'.cell? ⟨w.heap.size,0,none⟩=some (.int .i64 kind)/\w'.cell? ⟨w.heap.size,1,none⟩=some (.float .f64 val)/\w'.cell? ⟨w.heap.size,2,none⟩=some (.int .i64 na)/\w'.cell? ⟨w.heap.size,3,none⟩=some (.int .i64 nb)) w7.drew:=⟨p1,e0,e1,e2,e3⟩;refine aT 0 (.pointer (some ⟨g,0,none⟩)) rfl (by kernel_rfl) (by kernel_rfl) (by kernel_rfl) (by kernel_rfl) (fun _ _ _ h=>h) (by rfl) ?_ (by assumption) ?_
  . intro w' hSw;(try dsimp only at hSw);go_split_ands;go_simp;all_goals first|rfl|done
  try simp only[axU,axP,axQ,axR]
  refine aT 1 (.pointer (some ⟨g,0,none⟩)) rfl (by kernel_rfl) (by kernel_rfl) (by kernel_rfl) (by kernel_rfl) (fun _ _ _ h=>h) (by rfl) ?_ (by assumption) ?_
  . intro w' hSw;(try dsimp only at hSw);go_split_ands;go_simp;all_goals first|rfl|done
  try simp only[axU,axP,axQ,axR]
  refine aT 2 (.pointer (some ⟨g,1,none⟩)) rfl (by kernel_rfl) (by kernel_rfl) (by kernel_rfl) (by kernel_rfl) (fun _ _ _ h=>h) (by rfl) ?_ (by assumption) ?_
  . intro w' hSw;(try dsimp only at hSw);go_split_ands;go_simp;all_goals first|rfl|done
  try simp only[axU,axP,axQ,axR]
  refine aT 3 (.map (some mb)) rfl (by kernel_rfl) (by kernel_rfl) (by kernel_rfl) (by kernel_rfl) (fun _ _ _ h=>h) (by rfl) ?_ (by assumption) ?_
  . intro w' hSw;(try dsimp only at hSw);go_split_ands;go_simp;all_goals first|rfl|done
  try simp only[axU,axP,axQ,axR]
  refine aT 4 (.agg #[.int .i64 kind,.float .f64 val,.int .i64 na,.int .i64 nb]) rfl (by kernel_rfl) (by kernel_rfl) (by kernel_rfl) (by kernel_rfl) (fun _ _ _ h=>h) (by rfl) ?_ (by assumption) ?_
  . intro w' hSw;(try dsimp only at hSw);go_split_ands;go_simp;all_goals first|rfl|done
  try simp only[axU,axP,axQ,axR]
  refine aT 6 (.int .i64 (ns.length:Int)) rfl (by kernel_rfl) (by kernel_rfl) (by kernel_rfl) (by kernel_rfl) (fun _ _ _ h=>h) (by rfl) ?_ (by assumption) ?_
  . intro w' hSw;(try dsimp only at hSw);go_split_ands;go_simp;all_goals first|rfl|done
  try simp only[axU,axP,axQ,axR]
  refine dW 5 (by kernel_rfl) rfl fun K hK=> ?_;go_simp;refine(HKO.out _).mono ?_;rintro e w8⟨rfl,hb8⟩;have h78:Below w7.heap.size w7 w8:=aA (axV _ _).drew hb8;have HB8:=hdd h78;have HM8:=hdd (HQ3.out.below h78 HQ3.out.lt);replace p0:=cbl p0 h78;replace p1:=cbl p1 h78;replace e0:=cbl e0 h78;replace e1:=cbl e1 h78;replace e2:=cbl e2 h78;replace e3:=cbl e3 h78;clear h78 hb8;refine hK.out _ _ (fun _=>⟨p1,e0,e1,e2,e3⟩) ?_;clear hK
  try simp only[axU,axP,axQ,axR]
  refine dW 7 (by kernel_rfl) rfl fun K hK=> ?_;refine aiT _ rfl _ _ _ _ rfl _ _ qM sO mb m m' rfl HM8.out (.agg #[.int .i64 kind,.int .i64 na,.int .i64 nb,.int .u64 (val:Int)]) (.int .i64 (ns.length:Int)) kl rfl rfl HKEY.out HU.out ?_;intro w9 HM9 hgr9 hsz9;have HG9:=hdd hgr9;refine hK.out _ _ (fun h=>absurd rfl h) ?_;clear hK hgr9 hsz9;refine mX (by kernel_rfl) ?_;refine NoPanic.normal ?_;go_wp2
  go_ret2
  refine ak7 HO.out HB5.out HO6.out HG6.out HA6.out ?_ HM9.out HG9.out HU.out HLEN.out HV.out HNO.out;rw[HW7.out];have hz:w7.heap.size=w6.heap.size:=by rw[<-HW7.out];simp[ax0]
  rw[<-hz];exact HB8.out
end
section
open List renaming getElem?_eq_some_iff->ax3,getElem?_append_left->ax4,prefix_rfl->ax5
variable{ns ns':List Nd}{i j k:Nat}{n:Nd}
inductive Ex where
 |leaf (v:Nat)
 |add (a b:Ex)
 |sub (a b:Ex)
 |mul (a b:Ex)
 |div (a b:Ex)
 |root (a:Ex)
def Is(ns:List Nd):Ex->Nat->Prop
 | .leaf v,k=>ns[k]? =some ⟨0,v,0,0⟩
 | .add a b,k=>∃i j:Nat,ns[k]? =some ⟨1,0,i,j⟩/\i<k/\j<k/\Is ns a i/\Is ns b j
 | .sub a b,k=>∃i j:Nat,ns[k]? =some ⟨2,0,i,j⟩/\i<k/\j<k/\Is ns a i/\Is ns b j
 | .mul a b,k=>∃i j:Nat,ns[k]? =some ⟨3,0,i,j⟩/\i<k/\j<k/\Is ns a i/\Is ns b j
 | .div a b,k=>∃i j:Nat,ns[k]? =some ⟨4,0,i,j⟩/\i<k/\j<k/\Is ns a i/\Is ns b j
 | .root a,k=>∃i:Nat,ns[k]? =some ⟨5,0,i,0⟩/\i<k/\Is ns a i
theorem Is.lt {e:Ex}(h:Is ns e k):k<ns.length:=by
 cases e<;>simp only[Is]at h
 . exact(ax3.1 h).1
 all_goals first
  |(obtain⟨i,j,h,-⟩:=h;exact(ax3.1 h).1)
  |(obtain⟨i,h,-⟩:=h;exact(ax3.1 h).1)
theorem iY(hp:ns<+:ns')(h:ns[k]? =some n):ns'[k]? =some n:=by
 obtain⟨l,rfl⟩:=hp;rw[ax4 (ax3.1 h).1];exact h
theorem Is.mono (hp:ns<+:ns'):∀{e:Ex} {k:Nat},Is ns e k->Is ns' e k:=by
 intro e
 induction e with
 |leaf v=>intro k h;exact iY hp h
 |add a b iha ihb=>intro k h;obtain⟨i,j,h1,h2,h3,h4,h5⟩:=h;exact⟨i,j,iY hp h1,h2,h3,iha h4,ihb h5⟩
 |sub a b iha ihb=>intro k h;obtain⟨i,j,h1,h2,h3,h4,h5⟩:=h;exact⟨i,j,iY hp h1,h2,h3,iha h4,ihb h5⟩
 |mul a b iha ihb=>intro k h;obtain⟨i,j,h1,h2,h3,h4,h5⟩:=h;exact⟨i,j,iY hp h1,h2,h3,iha h4,ihb h5⟩
 |div a b iha ihb=>intro k h;obtain⟨i,j,h1,h2,h3,h4,h5⟩:=h;exact⟨i,j,iY hp h1,h2,h3,iha h4,ihb h5⟩
 |root a iha=>intro k h;obtain⟨i,h1,h2,h3⟩:=h;exact⟨i,iY hp h1,h2,iha h3⟩
def AllIs(P:Ex->Prop)(ns:List Nd):Prop:=∀k,k<ns.length->∃e,Is ns e k/\P e
def opE(kind:Int)(a b:Ex):Ex:=if kind=1 then .add a b else if kind=2 then .sub a b else if kind=3 then .mul a b else .div a b
def uZ(kind:Int):Prop:=kind=1\/kind=2\/kind=3\/kind=4
theorem Is.opE {kind:Int}(hk:uZ kind){a b:Ex}(h:ns[k]? =some ⟨kind,0,i,j⟩)(hi:i<k)(hj:j<k)(ha:Is ns a i)(hb:Is ns b j):Is ns (opE kind a b) k:=by
 rcases hk with rfl|rfl|rfl|rfl<;>exact⟨i,j,h,hi,hj,ha,hb⟩
theorem AllIs.before {P:Ex->Prop}(h:AllIs P ns)(hn:ns[k]? =some n):(n.kind=0/\n.a=0/\n.b=0)\/(uZ n.kind/\n.val=0/\∃i j:Nat,n.a=i/\n.b=j/\i<k/\j<k)\/(n.kind=5/\n.val=0/\n.b=0/\∃i:Nat,n.a=i/\i<k):=by
 obtain⟨e,he,-⟩:=h k (ax3.1 hn).1
 cases e with
 |leaf v=>simp only[Is,hn]at he;cases he;exact Or.inl ⟨rfl,rfl,rfl⟩
 |root a=>obtain⟨i,h1,h2,h3⟩:=he;rw[hn]at h1;cases h1;exact Or.inr (Or.inr ⟨rfl,rfl,rfl,i,rfl,h2⟩)
 |add a b=>obtain⟨i,j,h1,h2,h3,-⟩:=he;rw[hn]at h1;cases h1;exact Or.inr (Or.inl ⟨Or.inl rfl,rfl,i,j,rfl,rfl,h2,h3⟩)
 |sub a b=>obtain⟨i,j,h1,h2,h3,-⟩:=he;rw[hn]at h1;cases h1;exact Or.inr (Or.inl ⟨Or.inr (Or.inl rfl),rfl,i,j,rfl,rfl,h2,h3⟩)
 |mul a b=>obtain⟨i,j,h1,h2,h3,-⟩:=he;rw[hn]at h1;cases h1;exact Or.inr (Or.inl ⟨Or.inr (Or.inr (Or.inl rfl)),rfl,i,j,rfl,rfl,h2,h3⟩)
 |div a b=>obtain⟨i,j,h1,h2,h3,-⟩:=he;rw[hn]at h1;cases h1;exact Or.inr (Or.inl ⟨Or.inr (Or.inr (Or.inr rfl)),rfl,i,j,rfl,rfl,h2,h3⟩)
theorem AllIs.snoc {P:Ex->Prop}(h:AllIs P ns){e:Ex}(he:Is (ns++[n]) e ns.length)(hP:P e):AllIs P (ns++[n]):=by
 intro k hk;rw[List.length_append]at hk;by_cases hkn:k<ns.length
 . obtain⟨e,h1,h2⟩:=h k hkn
   exact⟨e,h1.mono ⟨[n],rfl⟩,h2⟩
 . have:k=ns.length:=by simp at hk;omega
   subst this;exact⟨e,he,hP⟩
theorem am7{P:Ex->Prop}{kind:Int}(hk:uZ kind){a b:Ex}(h:AllIs P ns)(ha:Is ns a i)(hb:Is ns b j)(hn:ns'[k]? =some ⟨kind,0,i,j⟩)(hns:ns'=ns\/ns'=ns++[⟨kind,0,i,j⟩])(hP:P (opE kind a b)):
 Is ns' (Go.Proofs.YtkpodipoegbclaaGreatDoor.opE kind a b) k/\AllIs P ns'/\ns<+:ns':=by
 by_cases hkl:k<ns.length
 . have hnk:ns[k]? =some ⟨kind,0,i,j⟩:=by
    rcases hns with rfl|rfl
    . exact hn
    . rwa[ax4 hkl]at hn
   have hb4:i<k/\j<k:=by
    rcases h.before hnk with ⟨h0,-⟩|⟨-,-,i',j',e1,e2,h1,h2⟩|⟨h5,-⟩
    . rcases hk with rfl|rfl|rfl|rfl<;>simp at h0
    . simp at e1 e2;omega
    . rcases hk with rfl|rfl|rfl|rfl<;>simp at h5
   have hI:Is ns (Go.Proofs.YtkpodipoegbclaaGreatDoor.opE kind a b) k:=Is.opE hk hnk hb4.1 hb4.2 ha hb;rcases hns with rfl|rfl
   . exact⟨hI,h,ax5⟩
   . have hp:ns<+:ns++[⟨kind,0,i,j⟩]:=⟨_,rfl⟩
     exact⟨hI.mono hp,h.snoc (Is.opE hk (by simp) ha.lt hb.lt (ha.mono hp) (hb.mono hp)) hP,hp⟩
 . rcases hns with rfl|rfl
   . exact absurd (ax3.1 hn).1 hkl
   . have hp:ns<+:ns++[⟨kind,0,i,j⟩]:=⟨_,rfl⟩
     have:k=ns.length:=by have:=(ax3.1 hn).1;simp at this;omega
     subst this;have hI:=Is.opE hk hn ha.lt hb.lt (ha.mono hp) (hb.mono hp);exact⟨hI,h.snoc hI hP,hp⟩
theorem aiY{P:Ex->Prop}{v:Nat}(h:AllIs P ns)(hn:ns'[k]? =some ⟨0,v,0,0⟩)(hns:ns'=ns\/ns'=ns++[⟨0,v,0,0⟩])(hP:P (.leaf v)):
 Is ns' (.leaf v) k/\AllIs P ns'/\ns<+:ns':=by
 rcases hns with rfl|rfl
 . exact⟨hn,h,ax5⟩
 . exact⟨hn,h.snoc (show Is _ (.leaf v) _ by simp[Is]) hP,⟨_,rfl⟩⟩
theorem aiZ{P:Ex->Prop}{a:Ex}(h:AllIs P ns)(ha:Is ns a i)(hn:ns'[k]? =some ⟨5,0,i,0⟩)(hns:ns'=ns\/ns'=ns++[⟨5,0,i,0⟩])(hP:P (.root a)):
 Is ns' (.root a) k/\AllIs P ns'/\ns<+:ns':=by
 by_cases hkl:k<ns.length
 . have hnk:ns[k]? =some ⟨5,0,i,0⟩:=by
    rcases hns with rfl|rfl
    . exact hn
    . rwa[ax4 hkl]at hn
   have hb4:i<k:=by
    rcases h.before hnk with ⟨h0,-⟩|⟨h0,-⟩|⟨-,-,-,i',e1,h1⟩
    . simp at h0
    . rcases h0 with h0|h0|h0|h0<;>simp at h0
    . simp at e1;omega
   have hI:Is ns (.root a) k:=⟨i,hnk,hb4,ha⟩;rcases hns with rfl|rfl
   . exact⟨hI,h,ax5⟩
   . have hp:ns<+:ns++[⟨5,0,i,0⟩]:=⟨_,rfl⟩
     exact⟨hI.mono hp,h.snoc (e:=.root a) ⟨i,by simp,ha.lt,ha.mono hp⟩ hP,hp⟩
 . rcases hns with rfl|rfl
   . exact absurd (ax3.1 hn).1 hkl
   . have hp:ns<+:ns++[⟨5,0,i,0⟩]:=⟨_,rfl⟩
     have:k=ns.length:=by have:=(ax3.1 hn).1;simp at this;omega
     subst this;have hI:Is (ns++[⟨5,0,i,0⟩]) (.root a) ns.length:=⟨i,hn,ha.lt,ha.mono hp⟩;exact⟨hI,h.snoc hI hP,hp⟩
end
end Go.Proofs.YtkpodipoegbclaaGreatDoor
