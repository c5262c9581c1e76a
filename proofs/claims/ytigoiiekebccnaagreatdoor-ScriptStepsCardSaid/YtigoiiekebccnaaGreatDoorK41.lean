/- A part of the proof: contracts of functions and plain laws (LawK, LawF, LawP, LawI, LawV). -/
import Derived.Test.YtigoiiekebccnaaGreatDoorRows
import Derived.Test.YtigoiiekebccnaaGreatDoorK12
import Derived.ProofKit
import Derived.OpenShut
import Derived.LaidMore
import Derived.Lay
import Derived.Lib.LaidTab
import Derived.Stop.Joined
import Derived.Deep.Slices
import Derived.Test.YtigoiiekebccnaaGreatDoorK35
import Derived.Test.YtigoiiekebccnaaGreatDoorK36
import Derived.LaidHandle
import Derived.Shelf.Vars
set_option linter.unusedVariables false
set_option linter.unusedSimpArgs false
set_option linter.unnecessarySimpa false
set_option maxHeartbeats 25600000
set_option maxRecDepth 100000
namespace Go.Proofs.YtigoiiekebccnaaGreatDoor
section
open Go.ChangeShapes Go.WideShapes Go.ChangeAt Go.RowKit
open Go.Lib renaming deBruijn64tab->aqZ
variable{W:World}
def aqS : List (String × DataW Unit) := [("math/bits.deBruijn64tab", Rows.laid_math_bits_deBruijn64tab)]
theorem aqL:ownKnob Tryz.prog.godebug=none:=by kernel_rfl
theorem apW : Tryz.prog.globalNamed "math/bits.deBruijn64tab" = some 6 := by kernel_rfl
theorem aqE:(Tryz.prog.globals[6]?).map (·.type)=some 376:=by kernel_rfl
theorem aqM:Tryz.prog.underlying 376=some (.array 64 5):=by kernel_rfl
theorem aqV:Tryz.prog.underlying 5=some (.int .u8):=by kernel_rfl
theorem aqF:Tryz.prog.cellsOf 5=1:=by kernel_rfl
theorem ap5:Tryz.prog.cellsOf 376=64:=by kernel_rfl
def tabZ:List Int:=aqZ.map fun(x:Nat)=>(x:Int)
theorem aqN : aqS = [("math/bits.deBruijn64tab", Lib.tabData .u8 tabZ)] := by kernel_rfl
theorem apZ(h:laidMetH Tryz.prog aqS W):Tab W:=by
 rw[MakeChecks.laidMetH_plain _ _ _ (by kernel_rfl),aqN]at h;have hT:=Lib.tabIs_of_head apW aqE aqM aqV aqF ap5 h;intro j hj;have hl:tabZ.length=aqZ.length:=by simp[tabZ]
 have:=hT.cell apW j (by omega);rw[this];have e:tabZ.getD j 0=((aqZ.getD j 0:Nat):Int):=by
  simp only[tabZ,List.getD_eq_getElem?_getD,List.getElem?_map];rw[List.getElem?_eq_getElem hj];rfl
 rw[e]
theorem aqW(h:Tab W):6<W.heap.size:=World.block_lt_of_cell? W _ (h 0 (by decide))
section
variable{H:Type}{enc:TypeId×Value->H}
theorem ap6{f:Func}{s:ChangeSpec}{W':World}{args:Array Value}{ds:List (DataW H)}{before:List MemPlace}
 (hW:DataW.Whole enc Tryz.prog f.params.toList s.vars false W args.toList ds [] before) (hv:s.vars=[]) (hr:f.resultTypes=#[4]) (hs:s.fn H (ds++[])={results:=[.lit (.bool true)],args:=ds})
 (hargs:∀sp:Nat->Bool,(∀p∈before,sp p.block=true)->DataW.TrodAll enc Tryz.prog W' 0 sp true f.params.toList args.toList ds before) (hb:Below W.heap.size W W'):
 s.post enc Tryz.prog f false true false false W args (.bool true) W':=by
 have hlt:∀p∈before,p.block<W.heap.size:=fun p hp=>hW.lt p hp;have hold:∀p∈before,(fun b=>decide (b<W.heap.size)) p.block=true:=fun p hp=>by simpa using hlt p hp
 have hres:∀(b:Nat) (sp:Nat->Bool) (hd:Bool),DataW.TrodAll enc Tryz.prog W' b sp hd f.resultTypes.toList ((Value.bool true).resultList f.resultTypes.size) [.lit (.bool true)] []:=by
  intro b sp hd;rw[hr];exact trodAll_cons_mk (shut_bool Tryz.underlying4 _) trodAll_mk0
 have hvars:∀sp:Nat->Bool,DataW.TrodVars enc Tryz.prog W' sp s.vars [] []:=fun sp=>by rw[hv];rfl
 refine⟨ds,[],before,[],before,[],hW,?_,?_,?_,?_,fun h=>by cases h⟩
 . rw[hs];exact hres _ _ _
 . rw[hs];exact hargs _ hold
 . rw[hs];exact hvars _
 . refine World.keptBut_mono (fun p hp=> ?_) (hb.frame (· ∈before))
   exact⟨hp,by simpa using hp⟩
end
section
variable{H:Type}{enc:TypeId×Value->H}{P:Program}{w:World}{base:Nat}{spare:Nat->Bool}{held:Bool}
end
section
variable{H:Type}{enc:TypeId×Value->H}{P:Program}{w:World}{base:Nat}{spare:Nat->Bool}{held:Bool}
end
theorem ap7:Tryz.prog.cellsOf 3=1:=by kernel_rfl
end
section
open Go.ChangeShapes Go.WideShapes Go.ChangeAt Go.RowKit Go.Deep
open Go.DataW renaming trod->aq0,Trod->aq5,trod_int->arA
open Go.Value renaming okWide->aq3
open List renaming mem_append_right->aq1,mem_append_left->aq6,mem_singleton->aq7,nodup_append->aq8,append_nil->aq9,mem_range->arB,range->arC
open List.cons renaming injEq->aq4
open Option.some renaming inj->aq2
variable{b0:Nat}{W:World}
section
variable{H:Type}{enc:TypeId×Value->H}{P:Program}{w w':World}{sp:Nat->Bool}{t e e1:TypeId}{v:Value}{d:DataW H}{ps:List MemPlace}{k:IntKind}
def aqT(enc:TypeId×Value->H)(P:Program)(e:TypeId):Prop:=∀(n:Nat) (w w':World) (b b':Nat) (sp sp':Nat->Bool) (cs:List Value) (x:DataW H×List MemPlace),aq0 enc P w b sp true n e cs=some x->x.2=[]/\aq0 enc P w' b' sp' true n e cs=some x
theorem aqG(he:P.underlying e=some (.int k)):aqT enc P e:=by
 intro n w w' b b' sp sp' cs x h;obtain⟨z,rfl,rfl,hw⟩:=arA he h
 cases n with
 |zero=>simp[aq0]at h
 |succ n=>exact⟨rfl,by simp[aq0,he,hw]⟩
theorem ap2{b n:Nat}{a:Addr}{cs:List Value}(hh:∀b,b<w.heap.size->w'.heap[b]? =w.heap[b]?)(h:w.cells? b a n=some cs)(hlt:n=0\/a.block<w.heap.size):w'.cells? b a n=some cs:=by
 rw[<-h];unfold World.cells?;rcases hlt with rfl|hlt
 . rfl
 . split
   . congr 1
     funext i
     unfold World.cell?;have e:(a.add i).block=a.block:=by unfold Addr.add;split<;>rfl
     rw[e,hh _ hlt]
   . rfl
theorem aqX(ht:P.underlying t=some (.slice e))(hf:aqT enc P e)(hpos:0<P.cellsOf e)(hh:∀b,b<w.heap.size->w'.heap[b]? =w.heap[b]?)(h:aq5 enc P w 0 (fun _=>true) true t v d ps)(hb:∀p∈ps,p.block<w.heap.size)(hsp:∀p∈ps,sp p.block=true):aq5 enc P w' 0 sp true t v d ps:=by
 obtain⟨fuel,h⟩:=h;show∃n,aq0 enc P w' 0 sp true n t v.cells.toList=some (d,ps);rcases open_slice ht h with ⟨hc,hx⟩|⟨a,len,cap,m,n,D,Pl,hc,h0,hl,hm,hmm,hx,hi⟩
 . rw[hc,hx];exact shut_slice_nil ht
 . rw[hc]
   obtain rfl:m=cap:=by simpa using hmm
   simp only[Prod.mk.injEq]at hx;have hPl:∀i,i<m->Pl i=[]:=fun i hlt=>by
    obtain⟨cs,-,h2⟩:=hi i hlt;exact(hf _ _ w' _ 0 _ sp _ _ h2).1
   have hin:∀i,i<m->MemPlace.cell a.block (a.off+0)∈ps:=fun i hlt=>by
    rw[hx.2];refine aq6 _ ?_;unfold MemPlace.row;exact List.mem_map.2 ⟨0,arB.2 (Nat.mul_pos (by omega) hpos),rfl⟩
   have hread:∀i,i<m->∃cs n,w'.cells? 0 (a.add (i*P.cellsOf e)) (P.cellsOf e)=some cs/\aq0 enc P w' 0 sp true n e cs=some (D i,Pl i):=fun i hlt=>by
    obtain⟨cs,h1,h2⟩:=hi i hlt;refine⟨cs,n,ap2 hh h1 (Or.inr ?_),(hf _ _ w' _ 0 _ sp _ _ h2).2⟩;have:=hb _ (hin i hlt);have e:(a.add (i*P.cellsOf e)).block=a.block:=by unfold Addr.add;split<;>rfl
    rw[e];exact this
   rw[hx.1,hx.2]
   cases hs:sp a.block with
   |true=>exact shut_slice_whole_cells ht (Nat.zero_le _) hl hm hs D Pl hread
   |false=>
    have h0:m=0:=by
     rcases Nat.eq_zero_or_pos m with h|h
     . exact h
     . have:=hsp _ (hin 0 h);rw[show(MemPlace.cell a.block (a.off+0)).block=a.block from rfl]at this;rw[hs]at this;cases this
    subst h0;obtain rfl:len=0:=by omega
    have:=shut_slice_cells (enc:=enc) (held:=true) ht (Nat.zero_le _) (Nat.le_refl 0) hm hs D Pl (fun i hi=>by omega) (w:=w') (base:=0);simpa using this
end
def ap3 : List (String × DataW Unit) := [("math/bits.deBruijn32tab", Rows.laid_math_bits_deBruijn32tab), ("math/bits.deBruijn64tab", Rows.laid_math_bits_deBruijn64tab), ("internal/strconv.uint64pow10", Rows.laid_internal_strconv_uint64pow10), ("unicode/utf8.acceptRanges", Rows.laid_unicode_utf8_acceptRanges), ("unicode/utf8.first", Rows.laid_unicode_utf8_first)]
def apX : List (String × DataW Unit) := [("math/bits.deBruijn32tab", Rows.laid_math_bits_deBruijn32tab), ("math/bits.deBruijn64tab", Rows.laid_math_bits_deBruijn64tab), ("internal/strconv.uint64pow10", Rows.laid_internal_strconv_uint64pow10), ("unicode/utf8.acceptRanges", Rows.laid_unicode_utf8_acceptRanges), ("errors.errorType", Rows.laid_errors_errorType), ("unicode/utf8.first", Rows.laid_unicode_utf8_first)]
theorem ap8 : Tryz.prog.globalNamed "errors.errorType" = some 0 := by kernel_rfl
theorem ety_rt : (Tryz.prog.cutTypes.find? (·.1 == "internal/reflectlite.rtype")).map (·.2) = some 123 := by kernel_rfl
theorem aqO:((arC 493).filter fun t=>Tryz.prog.rowNamed t [101,114,114,111,114])=[30]:=by kernel_rfl
theorem aqH:Tryz.prog.types.size=493:=by kernel_rfl
theorem ap9  (h : laidMetH Tryz.prog apX W) : laidMet Tryz.prog ap3 W ∧ handlesMet Tryz.prog [("errors.errorType", Rows.laid_errors_errorType)] W := h
theorem apT{P:Program}{x:String×DataW Unit}{r:List (String×DataW Unit)}(h:laidMet P (x::r) W):laidMet P r W:=by
 obtain⟨ps,⟨g,t,cs,fuel,p,q,h1,h2,h3,h4,h5,rfl⟩,hn,hr⟩:=h;exact⟨q,h5,(aq8.1 hn).2.1,fun b off hm=>hr b off (aq1 _ hm)⟩
theorem apV{P:Program}{x:String×DataW Unit}{r:List (String×DataW Unit)}(h:laidMet P (x::r) W):laidMet P [x] W:=by
 obtain⟨ps,⟨g,t,cs,fuel,p,q,h1,h2,h3,h4,h5,rfl⟩,hn,hr⟩:=h;refine⟨MemPlace.row ⟨g,0,none⟩ cs.size++p++[],⟨g,t,cs,fuel,p,[],h1,h2,h3,h4,rfl,rfl⟩,?_,fun b off hm=>hr b off ?_⟩
 . rw[aq9];exact(aq8.1 hn).1
 . rw[aq9]at hm;exact aq6 _ hm
theorem aqA : Tryz.prog.globalNamed "internal/strconv.uint64pow10" = some 4 := by kernel_rfl
theorem aqI:(Tryz.prog.globals[4]?).map (·.type)=some 252:=by kernel_rfl
theorem aqP:Tryz.prog.underlying 252=some (.array 20 198):=by kernel_rfl
theorem aqQ:Tryz.prog.underlying 198=some (.int .u64):=by kernel_rfl
theorem aqB:Tryz.prog.cellsOf 198=1:=by kernel_rfl
theorem aqC:Tryz.prog.cellsOf 252=20:=by kernel_rfl
theorem aqY : [("internal/strconv.uint64pow10", Rows.laid_internal_strconv_uint64pow10)] = [("internal/strconv.uint64pow10", (Lib.tabData .u64 Lib.pow10Tab : DataW Unit))] := by kernel_rfl
theorem ap0(h:W.ShapedOpen Tryz.prog):∃m,W.cell? ⟨1,0,none⟩=some (.int .i64 m):=
 cell_of_shapedOpen_int (P:=Tryz.prog) (g:=1) (t:=3) (zero:=#[.int .i64 0]) h (of_decide_eq_true (by kernel_rfl)) (by kernel_rfl) rfl (by kernel_rfl) (by kernel_rfl) Tryz.underlying3
theorem ap1(h:laidMetH Tryz.prog apX W)(hs:W.ShapedOpen Tryz.prog):ScrW W:=by
 obtain⟨h1,h2⟩:=ap9 h;have hT:Tab W:=apZ (by rw[MakeChecks.laidMetH_plain _ _ _ (by kernel_rfl)];exact apV (apT h1));have hP : laidMet Tryz.prog [("internal/strconv.uint64pow10", Rows.laid_internal_strconv_uint64pow10)] W := apV (apT (apT h1))
 rw[aqY]at hP;refine⟨ap0 hs,Lib.tabIs_of_head aqA aqI aqP aqQ aqB aqC hP,?_,hT,aqW hT⟩;obtain⟨name,u,ty,e1,e2,e3,e4,e5⟩:=h2 _ (aq7.2 rfl);have en:name=[101,114,114,111,114]:=(aq2 e1).symm;subst en;obtain rfl:=aq2 (ety_rt.symm.trans e2);have hm:ty∈(arC 493).filter fun t=>Tryz.prog.rowNamed t [101,114,114,111,114]:=List.mem_filter.2 ⟨arB.2 (by rw[<-aqH];exact e3),e4⟩;rw[aqO]at hm;obtain rfl:=aq7.1 hm;have hh:typeHandle Tryz.prog 30=.pointer (some ⟨10,30,none⟩):=by kernel_rfl
 rw[hh]at e5;show W.cell? ⟨0,0,none⟩=_;simpa using World.var?_cell ap8 e5 0
noncomputable def aqU(os:Os):World:=
 let w0:=World.holding Tryz.prog os ⟨#[],#[],[]⟩
 {w0 with heap:=w0.heap.modify 0 fun
  | .cells _ t frozen=>.cells #[.iface 123 (.agg #[.pointer (some ⟨10,30,none⟩)])] t frozen
  |o=>o}
noncomputable def apY(os:Os):World:=(aqU os).layVars Tryz.prog ap3
theorem aqD(os:Os):(apY os).os=os:=World.layVars_os _ _ _
theorem ap4(os:Os)(args:Array Value):laidMetH Tryz.prog apX ((apY os).forCall (fun _ _=>0) ⟨#[],args,[]⟩).memory:=by
 have h : laidMet Tryz.prog ap3 (apY os) := laidMet_layVars (w0 := aqU os) ["math/bits.deBruijn32tab", "math/bits.deBruijn64tab", "internal/strconv.uint64pow10", "unicode/utf8.acceptRanges", "unicode/utf8.first"] [] rfl (by kernel_rfl) (by kernel_rfl) LaidIn.none
 exact laidMetH_of_parts (h.of_heap (by simp[World.memory,World.forCall,Input.heap])) (by kernel_rfl)
section
variable{H:Type}{enc:TypeId×Value->H}
theorem apU{a:Assume}{C:Checked}{os:Os}{f:FuncId}{fn:Func}{s:ChangeSpec}{conds:List PathCond}{apart fresh handsOn again:Bool}{X:World->Array Value->Prop}
 (hX:∀(w w':World) (args:Array Value),w.heap=w'.heap->X w args->X w' args)
 (own:ownKnob C.prog.godebug=none) (started:os.Started) (noInit:C.prog.inits.idxOf? f=none) (hfn:C.prog.funcs[f]? =some fn)
 (witness:∃(w:World) (tape:Tape) (i:Input),w.os=os/\(w.forCall tape i).Shaped C.prog/\i.vars=[]/\Input.okWide C.prog (w.forCall tape i) .any w.heap.size f i/\
   ((s.pre enc C.prog fn conds apart (w.forCall tape i).memory i.args/\X (w.forCall tape i).memory i.args)/\sizedMet enc C.prog fn (OpenSpec.ofChange s) apart (w.forCall tape i).memory i.args)/\a.holds C.prog (lone (Frame.enter C.prog f i.args .normal) [] (w.forCall tape i)))
 (contract:∀(W:World) (base:Nat) (args:Array Value) (ds gs:List (DataW H)) (before:List MemPlace),
   (∀(j:Nat) t v,fn.params[j]? =some t->args[j]? =some v->aq3 C.prog W .any base t v)->
   DataW.Whole enc C.prog fn.params.toList s.vars apart W args.toList ds gs before->
   conds.all (PathCond.test C.prog ⟨fn.params.toList,ds,s.plain.varTypes C.prog,gs⟩)=true->X W args->W.ShapedOpen C.prog->
   Calls C.prog f args W fun e W'=>∃v,e=.returned v/\s.post enc C.prog fn apart fresh handsOn again W args v W'):
 ReturnsInHanded a C os f .any (fun w args=>(s.pre enc C.prog fn conds apart w args/\X w args)/\sizedMet enc C.prog fn (OpenSpec.ofChange s) apart w args) (s.post enc C.prog fn apart fresh handsOn again):=by
 refine returnsInHanded_of_calls own started noInit witness ?_;intro w tape i _ hsh _ hok hpre _;obtain⟨_,_,_,fn',hfn',_,_,_,_,hval⟩:=hok;have e:fn'=fn:=aq2 (hfn'.symm.trans hfn);subst e;obtain⟨⟨⟨ds,gs,before,hw,hc⟩,hx⟩,-⟩:=hpre;have hw':=DataW.Whole.of_heap (w':=w.forCall tape i) (by rfl) hw;refine(contract (w.forCall tape i) w.heap.size i.args ds gs before hval hw' hc (hX _ _ _ (by rfl) hx) hsh).mono fun e W' ⟨v,he,hp⟩=> ?_;subst he;exact ChangeSpec.post_blind hp
variable{P:Program}{w:World}{t e:TypeId}{v:Value}{d:DataW H}{ps:List MemPlace}{k:IntKind}
theorem aqR{r:Reach}{fs:Array Field}(ht:P.underlying t=some (.struct fs))(hct:P.cellsOf t=2)(hval:aq3 P w r b0 t v):∃c0 c1,v=.agg #[c0,c1]:=by
 obtain⟨cs,rfl,hsz,-⟩:∃cs,v=.agg cs/\cs.size=P.cellsOf t/\Row.okWide P w r b0 t cs:=by
  simpa[aq3,ht]using hval
 rw[hct]at hsz;obtain⟨l⟩:=cs
 match l,hsz with
 |[c0,c1],_=>exact⟨c0,c1,rfl⟩
theorem aqJ{fuel:Nat}{c0:Value}{x:DataW H×List MemPlace}(ht:P.underlying t=some (.slice e))(he:P.underlying e=some (.int k))(hce:P.cellsOf e=1)(h:aq0 enc P w 0 (fun _=>true) true fuel t [c0]=some x):
 ∃(p:Option Addr) (xs:List Int) (c:Nat),c0=.slice p xs.length c/\xs.length<=c/\c<=maxLen/\∀(j:Nat) x,xs[j]? =some x->∃lb lo,p=some ⟨lb,lo,none⟩/\w.cell? ⟨lb,lo+j,none⟩=some (.int k x):=by
 rcases open_slice1 ht hce h with ⟨hc,-⟩|⟨a,len,cap,m,n,V,D,Pl,hc,-,hl,hm,hmm,-,hi⟩
 . simp only[aq4,and_true]at hc
   exact⟨none,[],0,hc,Nat.le_refl _,Nat.zero_le _,fun j x hj=>by simp at hj⟩
 . simp only[aq4,and_true]at hc
   simp only[if_true]at hmm;subst hmm;have hall:∀i,i<len->∃z:Int,w.cell? (a.add i)=some (.int k z):=fun i hlt=>by
    obtain⟨h1,h2⟩:=hi i (by omega);obtain⟨z,h3,-,-⟩:=arA he h2;simp only[aq4,and_true]at h3;exact⟨z,by rw[h1,h3]⟩
   obtain⟨f,hf⟩:=choose_lt hall;refine⟨some a,(arC len).map f,m,by simpa using hc,by simpa using hl,hm,fun j x hj=> ?_⟩;simp only[List.getElem?_map,Option.map_eq_some_iff]at hj;obtain⟨i,hj,rfl⟩:=hj;have hlt:j<len:=by
    have:=(List.getElem?_eq_some_iff.1 hj).1;simpa using this
   rw[List.getElem?_range hlt]at hj;obtain rfl:=aq2 hj;obtain⟨b,off,spot⟩:=a;have hspot:spot=none:=by
    have:=World.cell?_spot (hf 0 (by omega));simpa[Addr.add]using this
   subst hspot;exact⟨b,off,rfl,by rw[<-Go.WideShapes.add_plain];exact hf j hlt⟩
theorem aqK{r:Reach}{f0 f1:Field}(ht:P.underlying t=some (.struct #[f0,f1]))(o0:f0.offset=0)(o1:f1.offset=1)(k0:P.cellsOf f0.type=1)(k1:P.cellsOf f1.type=1)(hct:P.cellsOf t=2)
 (u0:P.underlying f0.type=some .string) (u1:P.underlying f1.type=some (.slice e)) (he:P.underlying e=some (.int k)) (hce:P.cellsOf e=1) (hval:aq3 P w r b0 t v) (h:aq5 enc P w 0 (fun _=>true) true t v d ps):
 ∃(s:ByteArray) (p:Option Addr) (xs:List Int) (c:Nat),v=.agg #[.string s,.slice p xs.length c]/\(xs.length<=c/\c<=maxLen/\∀(j:Nat) x,xs[j]? =some x->∃lb lo,p=some ⟨lb,lo,none⟩/\w.cell? ⟨lb,lo+j,none⟩=some (.int k x))/\
  ∀(w':World) (sp:Nat->Bool),(∀b,b<w.heap.size->w'.heap[b]? =w.heap[b]?)->(∀p∈ps,p.block<w.heap.size)->(∀p∈ps,sp p.block=true)->aq5 enc P w' 0 sp true t v d ps:=by
 obtain⟨c0,c1,rfl⟩:=aqR ht hct hval;obtain⟨fuel,hf⟩:=h;replace hf:aq0 enc P w 0 (fun _=>true) true fuel t [c0,c1]=some (d,ps):=hf;obtain⟨y0,y1,m,hx,hl,hy0,hy1⟩:=trod_struct2 ht hf;rw[o0,k0]at hy0;rw[o1,k1]at hy1;replace hy0:aq0 enc P w 0 (fun _=>true) true m f0.type [c0]=some y0:=hy0;replace hy1:aq0 enc P w 0 (fun _=>true) true m f1.type [c1]=some y1:=hy1;obtain⟨s,e0,rfl,hs⟩:=DataW.trod_string u0 hy0;obtain rfl:c0=.string s:=by simpa using e0
 obtain⟨p,xs,c,rfl,h1,h2,h3⟩:=aqJ u1 he hce hy1;simp only[Prod.mk.injEq]at hx;obtain⟨rfl,rfl⟩:=hx;refine⟨s,p,xs,c,rfl,⟨h1,h2,h3⟩,fun w' sp hh hlt hsp=> ?_⟩;have hr:aq5 enc P w 0 (fun _=>true) true f1.type (.slice p xs.length c) y1.1 y1.2:=⟨m,hy1⟩;obtain⟨n,hn⟩:=aqX u1 (aqG he) (by rw[hce];decide) hh hr (fun q hq=>hlt q (aq1 _ hq)) (fun q hq=>hsp q (aq1 _ hq));replace hn:aq0 enc P w' 0 sp true n f1.type [.slice p xs.length c]=some (y1.1,y1.2):=hn;refine⟨n+1,?_⟩;show aq0 enc P w' 0 sp true (n+1) t [.string s,.slice p xs.length c]=_;refine trod_struct2_mk (y0:=(.lit (.string s.data.toList),[])) (y1:=(y1.1,y1.2)) ht (by rw[hct];rfl) ?_ ?_
 . rw[o0,k0]
   show aq0 enc P w' 0 sp true n f0.type [.string s]=_
   cases n with
   |zero=>simp[aq0]at hn
   |succ n=>simp[aq0,u0,hs]
 . rw[o1,k1];exact hn
end
end
end Go.Proofs.YtigoiiekebccnaaGreatDoor
