/- A part of the proof: contracts of functions and plain laws (EX0, LawK, LawF, LawP, LawI, LawV, ScX, ScY). -/
import Derived.Test.YtigoiiekebccnaaGreatDoorK18
import Derived.Test.YtigoiiekebccnaaGreatDoorK35
import Derived.Test.YtigoiiekebccnaaGreatDoorRows
import Derived.Test.YtigoiiekebccnaaGreatDoorK12
import Derived.ProofKit
import Derived.OpenShut
import Derived.LaidMore
import Derived.Lay
import Derived.Lib.LaidTab
import Derived.Stop.Joined
import Derived.Deep.Slices
import Derived.Test.YtigoiiekebccnaaGreatDoorK36
import Derived.LaidHandle
import Derived.Shelf.Vars
set_option linter.unusedVariables false
set_option linter.unusedSimpArgs false
set_option linter.unnecessarySimpa false
set_option maxHeartbeats 25600000
set_option maxRecDepth 100000
namespace Go.Proofs.YtigoiiekebccnaaGreatDoor
section
open Go.RowKit
theorem apW(tl:List (Stp×Value)):(eQ tl).length=tl.length*2:=by
 induction tl with
 |nil=>rfl
 |cons a tl ih=>show(eQ tl).length+1+1=_;rw[ih,List.length_cons];omega
end
section
open Go.RowKit Go.Maps Go.Stop Go.Extern
theorem code_nil{w:World}:
 Calls Tryz.prog 10 #[.nilIface] w (fun e w'=>e=.returned (.int .i64 0)/\Below w.heap.size w w'):=by
 have hmf:∀(fn:Fn) (first cap:Array Value) (w:World),(Instr.makeFunc fn first cap).run Tryz.prog w=.ok (.func fn first cap) w:=fun _ _ _ _=>rfl;have HB:Hid (Below w.heap.size w (w.alloc (.cells #[.int .i64 0] 3))):=hdd (Below.alloc (Below.refl _ _) nlr _)
 go_enter_defers Tryz.func10,Tryz.ntmps10
 go_wp2_with fail
 refine leaves_cons (f:=26) (args:=#[.pointer (some ⟨w.heap.size,0,none⟩)]) (by simp) (by simp[go_sem]) ?_;refine(ahX ⟨w.heap.size,0,none⟩ _).mono ?_;rintro e u' w''⟨rfl,rfl,rfl⟩;simp[Leaves,settle,results,Tryz.results10,go_sem];exact HB.out
end
section
open Go.ChangeShapes Go.WideShapes Go.ChangeAt Go.RowKit
open Go.Lib renaming deBruijn64tab->ar1
variable{W:World}
def arR : List (String × DataW Unit) := [("math/bits.deBruijn64tab", Rows.laid_math_bits_deBruijn64tab)]
theorem arL:ownKnob Tryz.prog.godebug=none:=by kernel_rfl
theorem aqE : Tryz.prog.globalNamed "math/bits.deBruijn64tab" = some 6 := by kernel_rfl
theorem arA:(Tryz.prog.globals[6]?).map (·.type)=some 376:=by kernel_rfl
theorem arM:Tryz.prog.underlying 376=some (.array 64 5):=by kernel_rfl
theorem arW:Tryz.prog.underlying 5=some (.int .u8):=by kernel_rfl
theorem arB:Tryz.prog.cellsOf 5=1:=by kernel_rfl
theorem aqW:Tryz.prog.cellsOf 376=64:=by kernel_rfl
def tabZ:List Int:=ar1.map fun(x:Nat)=>(x:Int)
theorem arN : arR = [("math/bits.deBruijn64tab", Lib.tabData .u8 tabZ)] := by kernel_rfl
theorem aqJ(h:laidMetH Tryz.prog arR W):Tab W:=by
 rw[MakeChecks.laidMetH_plain _ _ _ (by kernel_rfl),arN]at h;have hT:=Lib.tabIs_of_head aqE arA arM arW arB aqW h;intro j hj;have hl:tabZ.length=ar1.length:=by simp[tabZ]
 have:=hT.cell aqE j (by omega);rw[this];have e:tabZ.getD j 0=((ar1.getD j 0:Nat):Int):=by
  simp only[tabZ,List.getD_eq_getElem?_getD,List.getElem?_map];rw[List.getElem?_eq_getElem hj];rfl
 rw[e]
theorem arX(h:Tab W):6<W.heap.size:=World.block_lt_of_cell? W _ (h 0 (by decide))
section
variable{H:Type}{enc:TypeId×Value->H}
theorem aqX{f:Func}{s:ChangeSpec}{W':World}{args:Array Value}{ds:List (DataW H)}{before:List MemPlace}
 (hW:DataW.Whole enc Tryz.prog f.params.toList s.vars false W args.toList ds [] before) (hv:s.vars=[]) (hr:f.resultTypes=#[4]) (hs:s.fn H (ds++[])={results:=[.lit (.bool true)],args:=ds})
 (hargs:∀sp:Nat->Bool,(∀p∈before,sp p.block=true)->DataW.TrodAll enc Tryz.prog W' 0 sp true f.params.toList args.toList ds before) (hb:Below W.heap.size W W'):
 s.post enc Tryz.prog f false true false false W args (.bool true) W':=by
 have hlt:∀p∈before,p.block<W.heap.size:=fun p hp=>hW.lt p hp;have hold:∀p∈before,(fun b=>decide (b<W.heap.size)) p.block=true:=fun p hp=>by simpa using hlt p hp
 have hres:∀(b:Nat) (sp:Nat->Bool) (hd:Bool),DataW.TrodAll enc Tryz.prog W' b sp hd f.resultTypes.toList ((Value.bool true).resultList f.resultTypes.size) [.lit (.bool true)] []:=by
  intro b sp hd;rw[hr];exact trodAll_cons_mk (shut_bool Tryz.underlying4 _) trodAll_mk0
 have hvars:∀sp:Nat->Bool,DataW.TrodVars enc Tryz.prog W' sp s.vars [] []:=fun sp=>by rw[hv];rfl
 refine⟨ds,[],before,[],before,[],hW,?_,?_,?_,?_,fun h=>by cases h⟩
 . rw[hs];exact hres _ _ _
 . rw[hs];exact hargs _ hold
 . rw[hs];exact hvars _
 . refine World.keptBut_mono (fun p hp=> ?_) (hb.frame (· ∈before))
   exact⟨hp,by simpa using hp⟩
end
section
variable{H:Type}{enc:TypeId×Value->H}{P:Program}{w:World}{base:Nat}{spare:Nat->Bool}{held:Bool}
end
section
variable{H:Type}{enc:TypeId×Value->H}{P:Program}{w:World}{base:Nat}{spare:Nat->Bool}{held:Bool}
end
theorem aqY:Tryz.prog.cellsOf 3=1:=by kernel_rfl
end
section
open Go.ChangeShapes Go.WideShapes Go.ChangeAt Go.RowKit Go.Deep
open Go.DataW renaming trod->ar2,trod_int->ar5,Trod->ar6
open List.cons renaming injEq->ar4
open Option.some renaming inj->ar3
variable{W:World}
section
variable{H:Type}{enc:TypeId×Value->H}{P:Program}{w w':World}{sp:Nat->Bool}{t e e1:TypeId}{v:Value}{d:DataW H}{ps:List MemPlace}{k:IntKind}
def arS(enc:TypeId×Value->H)(P:Program)(e:TypeId):Prop:=∀(n:Nat) (w w':World) (b b':Nat) (sp sp':Nat->Bool) (cs:List Value) (x:DataW H×List MemPlace),ar2 enc P w b sp true n e cs=some x->x.2=[]/\ar2 enc P w' b' sp' true n e cs=some x
theorem arC(he:P.underlying e=some (.int k)):arS enc P e:=by
 intro n w w' b b' sp sp' cs x h;obtain⟨z,rfl,rfl,hw⟩:=ar5 he h
 cases n with
 |zero=>simp[ar2]at h
 |succ n=>exact⟨rfl,by simp[ar2,he,hw]⟩
theorem aqA{b n:Nat}{a:Addr}{cs:List Value}(hh:∀b,b<w.heap.size->w'.heap[b]? =w.heap[b]?)(h:w.cells? b a n=some cs)(hlt:n=0\/a.block<w.heap.size):w'.cells? b a n=some cs:=by
 rw[<-h];unfold World.cells?;rcases hlt with rfl|hlt
 . rfl
 . split
   . congr 1
     funext i
     unfold World.cell?;have e:(a.add i).block=a.block:=by unfold Addr.add;split<;>rfl
     rw[e,hh _ hlt]
   . rfl
theorem arY(ht:P.underlying t=some (.slice e))(hf:arS enc P e)(hpos:0<P.cellsOf e)(hh:∀b,b<w.heap.size->w'.heap[b]? =w.heap[b]?)(h:ar6 enc P w 0 (fun _=>true) true t v d ps)(hb:∀p∈ps,p.block<w.heap.size)(hsp:∀p∈ps,sp p.block=true):ar6 enc P w' 0 sp true t v d ps:=by
 obtain⟨fuel,h⟩:=h;show∃n,ar2 enc P w' 0 sp true n t v.cells.toList=some (d,ps);rcases open_slice ht h with ⟨hc,hx⟩|⟨a,len,cap,m,n,D,Pl,hc,h0,hl,hm,hmm,hx,hi⟩
 . rw[hc,hx];exact shut_slice_nil ht
 . rw[hc]
   obtain rfl:m=cap:=by simpa using hmm
   simp only[Prod.mk.injEq]at hx;have hPl:∀i,i<m->Pl i=[]:=fun i hlt=>by
    obtain⟨cs,-,h2⟩:=hi i hlt;exact(hf _ _ w' _ 0 _ sp _ _ h2).1
   have hin:∀i,i<m->MemPlace.cell a.block (a.off+0)∈ps:=fun i hlt=>by
    rw[hx.2];refine List.mem_append_left _ ?_;unfold MemPlace.row;exact List.mem_map.2 ⟨0,List.mem_range.2 (Nat.mul_pos (by omega) hpos),rfl⟩
   have hread:∀i,i<m->∃cs n,w'.cells? 0 (a.add (i*P.cellsOf e)) (P.cellsOf e)=some cs/\ar2 enc P w' 0 sp true n e cs=some (D i,Pl i):=fun i hlt=>by
    obtain⟨cs,h1,h2⟩:=hi i hlt;refine⟨cs,n,aqA hh h1 (Or.inr ?_),(hf _ _ w' _ 0 _ sp _ _ h2).2⟩;have:=hb _ (hin i hlt);have e:(a.add (i*P.cellsOf e)).block=a.block:=by unfold Addr.add;split<;>rfl
    rw[e];exact this
   rw[hx.1,hx.2]
   cases hs:sp a.block with
   |true=>exact shut_slice_whole_cells ht (Nat.zero_le _) hl hm hs D Pl hread
   |false=>
    have h0:m=0:=by
     rcases Nat.eq_zero_or_pos m with h|h
     . exact h
     . have:=hsp _ (hin 0 h);rw[show(MemPlace.cell a.block (a.off+0)).block=a.block from rfl]at this;rw[hs]at this;cases this
    subst h0;obtain rfl:len=0:=by omega
    have:=shut_slice_cells (enc:=enc) (held:=true) ht (Nat.zero_le _) (Nat.le_refl 0) hm hs D Pl (fun i hi=>by omega) (w:=w') (base:=0);simpa using this
end
def aqP : List (String × DataW Unit) := [("math/bits.deBruijn32tab", Rows.laid_math_bits_deBruijn32tab), ("math/bits.deBruijn64tab", Rows.laid_math_bits_deBruijn64tab), ("internal/strconv.uint64pow10", Rows.laid_internal_strconv_uint64pow10), ("unicode/utf8.acceptRanges", Rows.laid_unicode_utf8_acceptRanges), ("unicode/utf8.first", Rows.laid_unicode_utf8_first)]
def aqF : List (String × DataW Unit) := [("math/bits.deBruijn32tab", Rows.laid_math_bits_deBruijn32tab), ("math/bits.deBruijn64tab", Rows.laid_math_bits_deBruijn64tab), ("internal/strconv.uint64pow10", Rows.laid_internal_strconv_uint64pow10), ("unicode/utf8.acceptRanges", Rows.laid_unicode_utf8_acceptRanges), ("errors.errorType", Rows.laid_errors_errorType), ("unicode/utf8.first", Rows.laid_unicode_utf8_first)]
theorem aqZ : Tryz.prog.globalNamed "errors.errorType" = some 0 := by kernel_rfl
theorem ety_rt : (Tryz.prog.cutTypes.find? (·.1 == "internal/reflectlite.rtype")).map (·.2) = some 123 := by kernel_rfl
theorem arO:((List.range 493).filter fun t=>Tryz.prog.rowNamed t [101,114,114,111,114])=[30]:=by kernel_rfl
theorem arD:Tryz.prog.types.size=493:=by kernel_rfl
theorem aq0  (h : laidMetH Tryz.prog aqF W) : laidMet Tryz.prog aqP W ∧ handlesMet Tryz.prog [("errors.errorType", Rows.laid_errors_errorType)] W := h
theorem apY{P:Program}{x:String×DataW Unit}{r:List (String×DataW Unit)}(h:laidMet P (x::r) W):laidMet P r W:=by
 obtain⟨ps,⟨g,t,cs,fuel,p,q,h1,h2,h3,h4,h5,rfl⟩,hn,hr⟩:=h;exact⟨q,h5,(List.nodup_append.1 hn).2.1,fun b off hm=>hr b off (List.mem_append_right _ hm)⟩
theorem ap7{P:Program}{x:String×DataW Unit}{r:List (String×DataW Unit)}(h:laidMet P (x::r) W):laidMet P [x] W:=by
 obtain⟨ps,⟨g,t,cs,fuel,p,q,h1,h2,h3,h4,h5,rfl⟩,hn,hr⟩:=h;refine⟨MemPlace.row ⟨g,0,none⟩ cs.size++p++[],⟨g,t,cs,fuel,p,[],h1,h2,h3,h4,rfl,rfl⟩,?_,fun b off hm=>hr b off ?_⟩
 . rw[List.append_nil];exact(List.nodup_append.1 hn).1
 . rw[List.append_nil]at hm;exact List.mem_append_left _ hm
theorem aq1 : Tryz.prog.globalNamed "internal/strconv.uint64pow10" = some 4 := by kernel_rfl
theorem arE:(Tryz.prog.globals[4]?).map (·.type)=some 252:=by kernel_rfl
theorem arP:Tryz.prog.underlying 252=some (.array 20 198):=by kernel_rfl
theorem arQ:Tryz.prog.underlying 198=some (.int .u64):=by kernel_rfl
theorem aq2:Tryz.prog.cellsOf 198=1:=by kernel_rfl
theorem aq3:Tryz.prog.cellsOf 252=20:=by kernel_rfl
theorem arZ : [("internal/strconv.uint64pow10", Rows.laid_internal_strconv_uint64pow10)] = [("internal/strconv.uint64pow10", (Lib.tabData .u64 Lib.pow10Tab : DataW Unit))] := by kernel_rfl
theorem aqK(h:W.ShapedOpen Tryz.prog):∃m,W.cell? ⟨1,0,none⟩=some (.int .i64 m):=
 cell_of_shapedOpen_int (P:=Tryz.prog) (g:=1) (t:=3) (zero:=#[.int .i64 0]) h (of_decide_eq_true (by kernel_rfl)) (by kernel_rfl) rfl (by kernel_rfl) (by kernel_rfl) Tryz.underlying3
theorem aqL(h:laidMetH Tryz.prog aqF W)(hs:W.ShapedOpen Tryz.prog):ScrW W:=by
 obtain⟨h1,h2⟩:=aq0 h;have hT:Tab W:=aqJ (by rw[MakeChecks.laidMetH_plain _ _ _ (by kernel_rfl)];exact ap7 (apY h1));have hP : laidMet Tryz.prog [("internal/strconv.uint64pow10", Rows.laid_internal_strconv_uint64pow10)] W := ap7 (apY (apY h1))
 rw[arZ]at hP;refine⟨aqK hs,Lib.tabIs_of_head aq1 arE arP arQ aq2 aq3 hP,?_,hT,arX hT⟩;obtain⟨name,u,ty,e1,e2,e3,e4,e5⟩:=h2 _ (List.mem_singleton.2 rfl);have en:name=[101,114,114,111,114]:=(ar3 e1).symm;subst en;obtain rfl:=ar3 (ety_rt.symm.trans e2);have hm:ty∈(List.range 493).filter fun t=>Tryz.prog.rowNamed t [101,114,114,111,114]:=List.mem_filter.2 ⟨List.mem_range.2 (by rw[<-arD];exact e3),e4⟩;rw[arO]at hm;obtain rfl:=List.mem_singleton.1 hm;have hh:typeHandle Tryz.prog 30=.pointer (some ⟨10,30,none⟩):=by kernel_rfl
 rw[hh]at e5;show W.cell? ⟨0,0,none⟩=_;simpa using World.var?_cell aqZ e5 0
noncomputable def arT(os:Os):World:=
 let w0:=World.holding Tryz.prog os ⟨#[],#[],[]⟩
 {w0 with heap:=w0.heap.modify 0 fun
  | .cells _ t frozen=>.cells #[.iface 123 (.agg #[.pointer (some ⟨10,30,none⟩)])] t frozen
  |o=>o}
noncomputable def aqI(os:Os):World:=(arT os).layVars Tryz.prog aqP
theorem aq4(os:Os):(aqI os).os=os:=World.layVars_os _ _ _
theorem aqQ(os:Os)(args:Array Value):laidMetH Tryz.prog aqF ((aqI os).forCall (fun _ _=>0) ⟨#[],args,[]⟩).memory:=by
 have h : laidMet Tryz.prog aqP (aqI os) := laidMet_layVars (w0 := arT os) ["math/bits.deBruijn32tab", "math/bits.deBruijn64tab", "internal/strconv.uint64pow10", "unicode/utf8.acceptRanges", "unicode/utf8.first"] [] rfl (by kernel_rfl) (by kernel_rfl) LaidIn.none
 exact laidMetH_of_parts (h.of_heap (by simp[World.memory,World.forCall,Input.heap])) (by kernel_rfl)
section
variable{H:Type}{enc:TypeId×Value->H}
theorem ap3{a:Assume}{C:Checked}{os:Os}{f:FuncId}{fn:Func}{s:ChangeSpec}{conds:List PathCond}{apart fresh handsOn again:Bool}{X:World->Array Value->Prop}
 (hX:∀(w w':World) (args:Array Value),w.heap=w'.heap->X w args->X w' args)
 (own:ownKnob C.prog.godebug=none) (started:os.Started) (noInit:C.prog.inits.idxOf? f=none) (hfn:C.prog.funcs[f]? =some fn)
 (witness:∃(w:World) (tape:Tape) (i:Input),w.os=os/\(w.forCall tape i).Shaped C.prog/\i.vars=[]/\Input.okWide C.prog (w.forCall tape i) .any w.heap.size f i/\
   ((s.pre enc C.prog fn conds apart (w.forCall tape i).memory i.args/\X (w.forCall tape i).memory i.args)/\sizedMet enc C.prog fn (OpenSpec.ofChange s) apart (w.forCall tape i).memory i.args)/\a.holds C.prog (lone (Frame.enter C.prog f i.args .normal) [] (w.forCall tape i)))
 (contract:∀(W:World) (base:Nat) (args:Array Value) (ds gs:List (DataW H)) (before:List MemPlace),
   (∀(j:Nat) t v,fn.params[j]? =some t->args[j]? =some v->Value.okWide C.prog W .any base t v)->
   DataW.Whole enc C.prog fn.params.toList s.vars apart W args.toList ds gs before->
   conds.all (PathCond.test C.prog ⟨fn.params.toList,ds,s.plain.varTypes C.prog,gs⟩)=true->X W args->W.ShapedOpen C.prog->
   Calls C.prog f args W fun e W'=>∃v,e=.returned v/\s.post enc C.prog fn apart fresh handsOn again W args v W'):
 ReturnsInHanded a C os f .any (fun w args=>(s.pre enc C.prog fn conds apart w args/\X w args)/\sizedMet enc C.prog fn (OpenSpec.ofChange s) apart w args) (s.post enc C.prog fn apart fresh handsOn again):=by
 refine returnsInHanded_of_calls own started noInit witness ?_;intro w tape i _ hsh _ hok hpre _;obtain⟨_,_,_,fn',hfn',_,_,_,_,hval⟩:=hok;have e:fn'=fn:=ar3 (hfn'.symm.trans hfn);subst e;obtain⟨⟨⟨ds,gs,before,hw,hc⟩,hx⟩,-⟩:=hpre;have hw':=DataW.Whole.of_heap (w':=w.forCall tape i) (by rfl) hw;refine(contract (w.forCall tape i) w.heap.size i.args ds gs before hval hw' hc (hX _ _ _ (by rfl) hx) hsh).mono fun e W' ⟨v,he,hp⟩=> ?_;subst he;exact ChangeSpec.post_blind hp
variable{P:Program}{w:World}{t e:TypeId}{v:Value}{d:DataW H}{ps:List MemPlace}{k:IntKind}
theorem arF{fuel:Nat}{c0:Value}{x:DataW H×List MemPlace}(ht:P.underlying t=some (.slice e))(he:P.underlying e=some (.int k))(hce:P.cellsOf e=1)(h:ar2 enc P w 0 (fun _=>true) true fuel t [c0]=some x):
 ∃(p:Option Addr) (xs:List Int) (c:Nat),c0=.slice p xs.length c/\xs.length<=c/\c<=maxLen/\∀(j:Nat) x,xs[j]? =some x->∃lb lo,p=some ⟨lb,lo,none⟩/\w.cell? ⟨lb,lo+j,none⟩=some (.int k x):=by
 rcases open_slice1 ht hce h with ⟨hc,-⟩|⟨a,len,cap,m,n,V,D,Pl,hc,-,hl,hm,hmm,-,hi⟩
 . simp only[ar4,and_true]at hc
   exact⟨none,[],0,hc,Nat.le_refl _,Nat.zero_le _,fun j x hj=>by simp at hj⟩
 . simp only[ar4,and_true]at hc
   simp only[if_true]at hmm;subst hmm;have hall:∀i,i<len->∃z:Int,w.cell? (a.add i)=some (.int k z):=fun i hlt=>by
    obtain⟨h1,h2⟩:=hi i (by omega);obtain⟨z,h3,-,-⟩:=ar5 he h2;simp only[ar4,and_true]at h3;exact⟨z,by rw[h1,h3]⟩
   obtain⟨f,hf⟩:=choose_lt hall;refine⟨some a,(List.range len).map f,m,by simpa using hc,by simpa using hl,hm,fun j x hj=> ?_⟩;simp only[List.getElem?_map,Option.map_eq_some_iff]at hj;obtain⟨i,hj,rfl⟩:=hj;have hlt:j<len:=by
    have:=(List.getElem?_eq_some_iff.1 hj).1;simpa using this
   rw[List.getElem?_range hlt]at hj;obtain rfl:=ar3 hj;obtain⟨b,off,spot⟩:=a;have hspot:spot=none:=by
    have:=World.cell?_spot (hf 0 (by omega));simpa[Addr.add]using this
   subst hspot;exact⟨b,off,rfl,by rw[<-Go.WideShapes.add_plain];exact hf j hlt⟩
end
end
section
open Go.RowKit
open _root_.Array renaming length_toList->asD
open _root_.ByteArray renaming data_append->asB,size_append->asC
open Go.Lib renaming decDigits->asA,byteCells->asF,itoa->asT
open Int renaming natCast_nonneg->ar9,ofNat_lt->as3
open List renaming eq_nil_of_length_eq_zero->ar7,getElem?_eq_getElem->asE,intercalate->asH,take_of_length_le->asL,append_nil->asM,mem_of_getElem?->asN,length_append->asU,take_add_one->asV,size_toArray->asW,length_take->asY,all_eq_true->asZ
open Nat renaming eq_zero_or_pos->ar8,lt_or_ge->asG,pow_le_pow_right->asI,mul_le_mul_left->asJ,mul_left_comm->asK,mul_le_mul->asO,le_refl->asQ,zero_le->asR,mul_assoc->asS,le_trans->asX,pow_add->as0,pow_one->as1,le_antisymm->as2,zero_add->as4
open UInt8 renaming ofNat->asP
variable{xs:List Int}{B k n:Nat}{v:Value}{w:World}
def ap1(u:Nat)(l:List UInt8):List UInt8:=if u=0 then l else asA u++l
theorem ap4{u:Nat}(l:List UInt8)(h:u≠0):ap1 (u/10) (asP (48+u%10)::l)=asA u++l:=by
 unfold ap1;rw[Lib.decDigits.eq_def u];by_cases h1:u<10
 . rw[dif_pos h1,if_pos (by omega),Nat.mod_eq_of_lt h1];rfl
 . rw[dif_neg h1,if_neg (by omega)];simp
theorem aqB{b:Nat}{c:UInt8}(h:w.heap[b]? =some (.cells #[.int .u8 (c.toNat:Int)] 5 (0,0))):(convert 46 9 (.slice (some ⟨b,0,none⟩) 1 1)).run Tryz.prog w=.ok (.string ⟨#[c]⟩) w:=
 run_convert_bytes_back w 46 9 5 ⟨b,0,none⟩ 1 [c] Tryz.underlying46 Tryz.underlying5 Tryz.underlying9 (fun j hj=>by
  obtain rfl:j=0:=by simpa using hj
  exact gH (k:=0) h rfl)
def ap8:Value->Nat
 | .string b=>if b.size=0 then 1 else 0
 |_=>0
theorem apX(b:ByteArray):ap8 (.string b)=if b.size=0 then 1 else 0:=rfl
theorem aq5(hn:0<=n/\n<=1000000):Calls Tryz.prog 44 #[.int .i64 (n:Int)] w (RetV w (.string ⟨(asA n).toArray⟩)):=by
 have HN:=hdd hn;clear hn;go_enter Tryz.func44,Tryz.ntmps44
 go_wp2_with fail
 go_loopw [3,4] (fun s v wr=>∃(u:Nat) (S:ByteArray),s=.string S/\v=.int .i64 (u:Int)/\Hid (u<=n/\S.size<=8/\(S.size=0->u=n)/\(S.size≠0->ap1 u S.data.toList=asA n)/\(u≠0->10^S.size*u<=n)/\Below w.heap.size w wr)) (fun s v _=>(intOf v).natAbs*2+ap8 s)
 case atStart=>exact⟨n,⟨#[]⟩,rfl,rfl,hdd ⟨asQ _,asR _,fun _=>rfl,fun h=>absurd rfl h,fun _=>by show 10^0*n<=n;omega,Below.refl _ _⟩⟩
 case round=>
  obtain⟨u,S,rfl,rfl,HG⟩:=hrel;obtain⟨hu,hs,h0,h1,hp,hb⟩:=HG.out;obtain⟨l,hl⟩:∃l,S.data.toList=l:=⟨_,rfl⟩;have hll:l.length=S.size:=by rw[<-hl];exact asD ..
  have HH:=hdd (And.intro hu (And.intro hs (And.intro h0 (And.intro h1 (And.intro hp hb)))));have HL:=hdd (And.intro hl hll);have hST:(S.toList==[])=decide (S.size=0):=by
   rw[ByteArray.toList_eq,hl,<-hll]
   cases l<;>simp
  have HUN:=hdd (show u<=1000000 by have:=HN.out;omega);rcases ar8 u with hz|hz
  . subst hz
    rcases ar8 S.size with hS|hS
    . have hS0:=hS
      have HSZ:=hdd hS;rw[decide_eq_true hS0]at hST;obtain⟨D,hD⟩:∃D,0%10=D:=⟨_,rfl⟩;have hD9:D<10:=by omega
      obtain⟨E,hE⟩:∃E,0/10=E:=⟨_,rfl⟩;have hmod:((0:Int)).tmod 10=(D:Int):=by rw[tmod_eq_if];split<;>omega
      have hdiv:((0:Int)).tdiv 10=(E:Int):=by rw[tdiv_eq_if];split<;>omega
      have hEu:E<=100000:=by have:=HUN.out;omega
      have hE0:(0:Int)<=(E:Int):=ar9 _;have hE1:(E:Int)<=100000:=by omega
      have hD0:(0:Int)<=(D:Int):=ar9 _;have hD1:(D:Int)<=9:=by omega
      obtain⟨c,hc⟩:∃c,asP (48+D)=c:=⟨_,rfl⟩;have hcN:((c.toNat:Nat):Int)=48+(D:Int):=by rw[<-hc,abG hD9];omega
      obtain⟨wa,hwa,hba,hsa,ba⟩:=pro1 wr (.cells #[.int .u8 ((c.toNat:Nat):Int)] 5);have hcv:=aqB ba;rw[hcN]at hwa;have hw8:IntKind.u8.wrap (48+(D:Int))=48+(D:Int):=amI ⟨by omega,by omega⟩;have hsz:¬(9223372036854775807<1+S.size):=by have:=HH.out.2.1;omega
      have HB:=hdd (aA HH.out.2.2.2.2.2 hba);have HNX:Hid ((⟨#[c]⟩++S:ByteArray).data.toList=c::S.data.toList/\(⟨#[c]⟩++S:ByteArray).size=1+S.size):=hdd ⟨by simp[asB],by rw[asC];rfl⟩;have HDE:=hdd (And.intro hD hE);have HCC:=hdd hc;clear hcN hba hsa ba hD hE HG hu hs h0 h1 hp hb hl hll hc hS hS0;go_wp2_with fail
      go_roundw
      case rel=>
       obtain⟨hu,hs,h0,h1,hp,-⟩:=HH.out;obtain⟨q1,q2⟩:=HNX.out;obtain⟨d1,d2⟩:=HDE.out;refine⟨E,_,rfl,by go_num,hdd ⟨by omega,?_,?_,?_,?_,HB.out⟩⟩
       . rw[q2,HSZ.out];decide
       . rw[q2];omega
       . intro _
         rw[q1];obtain rfl:0=n:=h0 HSZ.out;have hn0:S.data.toList=[]:=by rw[HL.out.1];exact ar7 (by rw[HL.out.2];exact HSZ.out)
         rw[hn0,<-HCC.out,<-d2,<-d1];unfold ap1;rw[if_pos rfl,Lib.decDigits_one (by decide)]
       . intro hE0
         exact absurd d2.symm (by omega)
      case measure=>(have e1:ap8 (.string (⟨#[c]⟩++S))=0:=(by rw[apX,HNX.out.2,if_neg (by omega)]);have e2:ap8 (.string S)=1:=(by rw[apX,if_pos HSZ.out]);have:=HDE.out.2;simp only[intOf,e1,e2];omega)
    . rw[decide_eq_false (show¬S.size=0 by omega)]at hST
      have HF:Hid (S=⟨(asA n).toArray⟩):=hdd (by
       have:=HH.out.2.2.2.1 (by omega);unfold ap1 at this;rw[if_pos rfl]at this;rw[<-this])
      have HB:=hdd HH.out.2.2.2.2.2;clear HG HH HL;have hsz:¬(9223372036854775807<1+S.size):=by have:=hs;omega
      clear hu hs h0 h1 hp hb hl hll hS;have hng:¬(n:Int)<0:=by omega
      go_wp2;go_ret;exact⟨by rw[HF.out];rfl,HB.out⟩
  . have HU0:u≠0:=by omega
    have huI:¬(u:Int)=0:=by omega
    obtain⟨D,hD⟩:∃D,u%10=D:=⟨_,rfl⟩;have hD9:D<10:=by omega
    obtain⟨E,hE⟩:∃E,u/10=E:=⟨_,rfl⟩;have hmod:((u:Int)).tmod 10=(D:Int):=by rw[tmod_eq_if];split<;>omega
    have hdiv:((u:Int)).tdiv 10=(E:Int):=by rw[tdiv_eq_if];split<;>omega
    have hEu:E<=100000:=by have:=HUN.out;omega
    have hE0:(0:Int)<=(E:Int):=ar9 _;have hE1:(E:Int)<=100000:=by omega
    have hD0:(0:Int)<=(D:Int):=ar9 _;have hD1:(D:Int)<=9:=by omega
    obtain⟨c,hc⟩:∃c,asP (48+D)=c:=⟨_,rfl⟩;have hcN:((c.toNat:Nat):Int)=48+(D:Int):=by rw[<-hc,abG hD9];omega
    obtain⟨wa,hwa,hba,hsa,ba⟩:=pro1 wr (.cells #[.int .u8 ((c.toNat:Nat):Int)] 5);have hcv:=aqB ba;rw[hcN]at hwa;have hw8:IntKind.u8.wrap (48+(D:Int))=48+(D:Int):=amI ⟨by omega,by omega⟩;have hsz:¬(9223372036854775807<1+S.size):=by have:=HH.out.2.1;omega
    have HB:=hdd (aA HH.out.2.2.2.2.2 hba);have HNX:Hid ((⟨#[c]⟩++S:ByteArray).data.toList=c::S.data.toList/\(⟨#[c]⟩++S:ByteArray).size=1+S.size):=hdd ⟨by simp[asB],by rw[asC];rfl⟩;have HDE:=hdd (And.intro hD hE);have HCC:=hdd hc;clear hcN hba hsa ba hD hE HG hu hs h0 h1 hp hb hl hll hc hz;go_wp2_with fail
    go_roundw
    case rel=>
     obtain⟨hu,hs,h0,h1,hp,-⟩:=HH.out;obtain⟨q1,q2⟩:=HNX.out;obtain⟨d1,d2⟩:=HDE.out;refine⟨E,_,rfl,by go_num,hdd ⟨by omega,?_,?_,?_,?_,HB.out⟩⟩
     . rw[q2]
       rcases asG S.size 7 with h7|h7
       . omega
       . exfalso
         have hp':=hp HU0;have h10:10^7<=10^S.size:=asI (by decide) h7;have:10^7*1<=10^S.size*u:=asO h10 (by omega);have:=HN.out;omega
     . rw[q2];omega
     . intro _
       rw[q1];rw[<-HCC.out,<-d2,<-d1,ap4 _ HU0];rcases ar8 S.size with hS|hS
       . have hn0:S.data.toList=[]:=by rw[HL.out.1];exact ar7 (by rw[HL.out.2];exact hS)
         rw[hn0,asM,h0 hS]
       . have:=h1 (by omega)
         unfold ap1 at this;rwa[if_neg HU0]at this
     . intro hE0
       have h10:u≠0:=by omega
       rw[q2,as0,asS];have hp':=hp h10;have:10^1*(10^S.size*E)=10^S.size*(10*E):=by rw[as1];exact asK _ _ _
       rw[this];exact asX (asJ _ (by omega)) hp'
    case measure=>(have e1:ap8 (.string (⟨#[c]⟩++S))=0:=(by rw[apX,HNX.out.2,if_neg (by omega)]);have:=HDE.out.2;simp only[intOf,e1];omega)
theorem aq6(hn:0<n/\n<=1000000):Calls Tryz.prog 44 #[.int .i64 (-(n:Int))] w (RetV w (.string ⟨(45::asA n).toArray⟩)):=by
 have HN:=hdd hn;clear hn;go_enter Tryz.func44,Tryz.ntmps44
 go_wp2_with fail
 go_loopw [3,4] (fun s v wr=>∃(u:Nat) (S:ByteArray),s=.string S/\v=.int .i64 (-(u:Int))/\Hid (u<=n/\S.size<=8/\(S.size=0->u=n)/\(S.size≠0->ap1 u S.data.toList=asA n)/\(u≠0->10^S.size*u<=n)/\Below w.heap.size w wr)) (fun s v _=>(intOf v).natAbs*2+ap8 s)
 case atStart=>exact⟨n,⟨#[]⟩,rfl,rfl,hdd ⟨asQ _,asR _,fun _=>rfl,fun h=>absurd rfl h,fun _=>by show 10^0*n<=n;omega,Below.refl _ _⟩⟩
 case round=>
  obtain⟨u,S,rfl,rfl,HG⟩:=hrel;obtain⟨hu,hs,h0,h1,hp,hb⟩:=HG.out;obtain⟨l,hl⟩:∃l,S.data.toList=l:=⟨_,rfl⟩;have hll:l.length=S.size:=by rw[<-hl];exact asD ..
  have HH:=hdd (And.intro hu (And.intro hs (And.intro h0 (And.intro h1 (And.intro hp hb)))));have HL:=hdd (And.intro hl hll);have hST:(S.toList==[])=decide (S.size=0):=by
   rw[ByteArray.toList_eq,hl,<-hll]
   cases l<;>simp
  have HUN:=hdd (show u<=1000000 by have:=HN.out;omega);rcases ar8 u with hz|hz
  . subst hz
    rcases ar8 S.size with hS|hS
    . have hS0:=hS
      have HSZ:=hdd hS;rw[decide_eq_true hS0]at hST;exact absurd (h0 hS) (by have:=HN.out;omega)
    . rw[decide_eq_false (show¬S.size=0 by omega)]at hST
      have HF:Hid (S=⟨(asA n).toArray⟩):=hdd (by
       have:=HH.out.2.2.2.1 (by omega);unfold ap1 at this;rw[if_pos rfl]at this;rw[<-this])
      have HB:=hdd HH.out.2.2.2.2.2;clear HG HH HL;have hsz:¬(9223372036854775807<1+S.size):=by have:=hs;omega
      clear hu hs h0 h1 hp hb hl hll hS;have hng:-(n:Int)<0:=by have:=HN.out;omega
      go_wp2;go_ret;exact⟨by rw[HF.out];exact congrArg Ending.returned (congrArg Value.string (by simpa using ByteArray.mk_append_mk [45] (asA n))),HB.out⟩
  . have HU0:u≠0:=by omega
    have huI:¬(u:Int)=0:=by omega
    have huI2:¬-(u:Int)=0:=by omega
    obtain⟨D,hD⟩:∃D,u%10=D:=⟨_,rfl⟩;have hD9:D<10:=by omega
    obtain⟨E,hE⟩:∃E,u/10=E:=⟨_,rfl⟩;have hmod:((-(u:Int))).tmod 10=(-(D:Int)):=by rw[tmod_eq_if];split<;>omega
    have hdiv:((-(u:Int))).tdiv 10=(-(E:Int)):=by rw[tdiv_eq_if];split<;>omega
    have hEu:E<=100000:=by have:=HUN.out;omega
    have hE0:(0:Int)<=(E:Int):=ar9 _;have hE1:(E:Int)<=100000:=by omega
    have hD0:(0:Int)<=(D:Int):=ar9 _;have hD1:(D:Int)<=9:=by omega
    obtain⟨c,hc⟩:∃c,asP (48+D)=c:=⟨_,rfl⟩;have hcN:((c.toNat:Nat):Int)=48+(D:Int):=by rw[<-hc,abG hD9];omega
    obtain⟨wa,hwa,hba,hsa,ba⟩:=pro1 wr (.cells #[.int .u8 ((c.toNat:Nat):Int)] 5);have hcv:=aqB ba;rw[hcN]at hwa;have hw8:IntKind.u8.wrap (48+(D:Int))=48+(D:Int):=amI ⟨by omega,by omega⟩;have hsz:¬(9223372036854775807<1+S.size):=by have:=HH.out.2.1;omega
    have HB:=hdd (aA HH.out.2.2.2.2.2 hba);have HNX:Hid ((⟨#[c]⟩++S:ByteArray).data.toList=c::S.data.toList/\(⟨#[c]⟩++S:ByteArray).size=1+S.size):=hdd ⟨by simp[asB],by rw[asC];rfl⟩;have HDE:=hdd (And.intro hD hE);have HCC:=hdd hc;clear hcN hba hsa ba hD hE HG hu hs h0 h1 hp hb hl hll hc hz;rcases ar8 D with hd0|hd0
    . have hnegD:-(D:Int)=(D:Int):=by omega
      clear hd0;go_wp2_with fail
      go_roundw
      case rel=>
       obtain⟨hu,hs,h0,h1,hp,-⟩:=HH.out;obtain⟨q1,q2⟩:=HNX.out;obtain⟨d1,d2⟩:=HDE.out;refine⟨E,_,rfl,by go_num,hdd ⟨by omega,?_,?_,?_,?_,HB.out⟩⟩
       . rw[q2]
         rcases asG S.size 7 with h7|h7
         . omega
         . exfalso
           have hp':=hp HU0;have h10:10^7<=10^S.size:=asI (by decide) h7;have:10^7*1<=10^S.size*u:=asO h10 (by omega);have:=HN.out;omega
       . rw[q2];omega
       . intro _
         rw[q1];rw[<-HCC.out,<-d2,<-d1,ap4 _ HU0];rcases ar8 S.size with hS|hS
         . have hn0:S.data.toList=[]:=by rw[HL.out.1];exact ar7 (by rw[HL.out.2];exact hS)
           rw[hn0,asM,h0 hS]
         . have:=h1 (by omega)
           unfold ap1 at this;rwa[if_neg HU0]at this
       . intro hE0
         have h10:u≠0:=by omega
         rw[q2,as0,asS];have hp':=hp h10;have:10^1*(10^S.size*E)=10^S.size*(10*E):=by rw[as1];exact asK _ _ _
         rw[this];exact asX (asJ _ (by omega)) hp'
      case measure=>(have e1:ap8 (.string (⟨#[c]⟩++S))=0:=(by rw[apX,HNX.out.2,if_neg (by omega)]);have:=HDE.out.2;simp only[intOf,e1];omega)
    . have hdn:-(D:Int)<0:=by omega
      go_wp2_with fail
      go_roundw
      case rel=>
       obtain⟨hu,hs,h0,h1,hp,-⟩:=HH.out;obtain⟨q1,q2⟩:=HNX.out;obtain⟨d1,d2⟩:=HDE.out;refine⟨E,_,rfl,by go_num,hdd ⟨by omega,?_,?_,?_,?_,HB.out⟩⟩
       . rw[q2]
         rcases asG S.size 7 with h7|h7
         . omega
         . exfalso
           have hp':=hp HU0;have h10:10^7<=10^S.size:=asI (by decide) h7;have:10^7*1<=10^S.size*u:=asO h10 (by omega);have:=HN.out;omega
       . rw[q2];omega
       . intro _
         rw[q1];rw[<-HCC.out,<-d2,<-d1,ap4 _ HU0];rcases ar8 S.size with hS|hS
         . have hn0:S.data.toList=[]:=by rw[HL.out.1];exact ar7 (by rw[HL.out.2];exact hS)
           rw[hn0,asM,h0 hS]
         . have:=h1 (by omega)
           unfold ap1 at this;rwa[if_neg HU0]at this
       . intro hE0
         have h10:u≠0:=by omega
         rw[q2,as0,asS];have hp':=hp h10;have:10^1*(10^S.size*E)=10^S.size*(10*E):=by rw[as1];exact asK _ _ _
         rw[this];exact asX (asJ _ (by omega)) hp'
      case measure=>(have e1:ap8 (.string (⟨#[c]⟩++S))=0:=(by rw[apX,HNX.out.2,if_neg (by omega)]);have:=HDE.out.2;simp only[intOf,e1];omega)
theorem aqR{n:Int}(hn:inR n=true):Calls Tryz.prog 44 #[.int .i64 n] w (RetV w (.string ⟨(asT n).toArray⟩)):=by
 unfold inR at hn;simp only[Bool.and_eq_true,decide_eq_true_eq]at hn;unfold asT
 split
 . rename_i h
   have:=aq6 (w:=w) (n:=n.natAbs) ⟨by omega,by omega⟩;rwa[show-(n.natAbs:Int)=n by omega]at this
 . rename_i h
   have:=aq5 (w:=w) (n:=n.toNat) ⟨by omega,by omega⟩;rwa[show(n.toNat:Int)=n by omega]at this
theorem inter_snoc(z:List UInt8):∀(ys:List (List UInt8)) (a:List UInt8),[(32:UInt8)].intercalate (a::(ys++[z]))=[32].intercalate (a::ys)++32::z
 |[],a=>by simp[asH]
 |y::ys,a=>by
  have ih:=inter_snoc z ys y;have e1:[(32:UInt8)].intercalate (a::y::(ys++[z]))=a++32::[32].intercalate (y::(ys++[z])):=by simp[asH]
  have e2:[(32:UInt8)].intercalate (a::y::ys)=a++32::[32].intercalate (y::ys):=by simp[asH]
  rw[List.cons_append,e1,e2,ih];simp
theorem aqS{x:ByteArray}{m:Nat}{n:Int}(h:xs[m]? =some n):joinL x (xs.take (m+1))=joinL x (xs.take m)++32::asT n:=by
 unfold joinL;rw[asV,h,Option.toList_some,List.map_append,List.map_cons,List.map_nil,inter_snoc]
theorem arG{x:ByteArray}(hv:IntS w v xs)(hf:dE x xs=true):Calls Tryz.prog 25 #[.agg #[.string x,v]] w (RetV w (.string ⟨(joinL x xs).toArray⟩)):=by
 obtain⟨p,c,rfl,h1,h2,hc⟩:=id hv;obtain⟨f1,f2,f3,f4,-⟩:=kY hf;obtain⟨wa,hwa,hba,hsa,ba⟩:=pro1 w (.cells #[.string x,.slice p xs.length c] 27);obtain⟨n,hn⟩:∃n,xs.length=n:=⟨_,rfl⟩;have HB0:Hid (∀w',Below wa.heap.size wa w'->w'.heap[w.heap.size]? =some (.cells #[.string x,.slice p n c] 27 (0,0))):=hdd fun w' h=>by rw[<-hn];exact aC ba h (aD ba)
 obtain⟨y0,y1,-,-⟩:=aB ba;have HV:=hdd (hv.below hba);have HN:=hdd hn;have HF:=hdd f1;have HX:=hdd (And.intro f3 f4);have HBA:=hdd hba;rw[hn]at y1 hwa f4|-;have hnI:(n:Int)<=7:=by omega
 clear hv hf hc h1 h2 f1 f2 f3 hba hsa ba hn f4;go_enter Tryz.func25,Tryz.ntmps25
 go_wp2_with fail
 go_loopw [3,4] (fun s i wr=>∃(m:Nat) (S:ByteArray),m<=n/\s=.string S/\i=.int .i64 (m:Int)/\Hid (S.data.toList=joinL x (xs.take m)/\Below wa.heap.size wa wr)) (fun _ i _=>((n:Int)-intOf i).toNat)
 case atStart=>exact⟨0,x,asR _,rfl,rfl,hdd ⟨by simp[joinL,asH],Below.refl _ _⟩⟩
 case round=>
  obtain⟨m,S,hm,rfl,rfl,HG⟩:=hrel;obtain⟨hS,hbl⟩:=HG.out;clear y0 y1;obtain⟨y0,y1,-,-⟩:=aB (HB0.out wr hbl);have hSs:S.size<=70:=by
   have h1:=ag0 x (xs.take m) fun k hk=>HF.out k (List.mem_of_mem_take hk);have h2:(xs.take m).length<=7:=by rw[asY,HN.out];have:=HX.out.2;omega
   have h3:S.size=(joinL x (xs.take m)).length:=by rw[<-hS];exact(asD ..).symm
   have:=HX.out.1;omega
  have hm0:(0:Int)<=(m:Int):=ar9 _;rcases asG m n with hlt|hge
  . obtain⟨k,hk⟩:∃k,xs[m]? =some k:=⟨_,asE (by rw[HN.out];exact hlt)⟩
    obtain⟨p',c',e',-,-,hcc⟩:=HV.out.below hbl;obtain⟨b,o,rfl,ca⟩:=hcc m k hk;simp only[Value.slice.injEq]at e';obtain⟨rfl,-,-⟩:=e';have hmI:(m:Int)<(n:Int):=as3.2 hlt;have hR:=HF.out k (asN hk);have HD:=hdd (aqR (w:=wr) hR);obtain⟨T,hT⟩:∃T:ByteArray,(⟨(asT k).toArray⟩:ByteArray)=T:=⟨_,rfl⟩;have hTs:T.size<=8:=by rw[<-hT];show(asT k).toArray.size<=8;rw[asW];exact akM hR
    have HTE:Hid (T.data.toList=asT k):=hdd (by rw[<-hT]);rw[hT]at HD;have j1:¬(9223372036854775807<S.size+1):=by omega
    have j2:¬(9223372036854775807<S.size+1+T.size):=by omega
    have HK:=hdd (And.intro hlt (And.intro hk (And.intro hS hbl)));clear hlt hk hS hbl hcc hR hT HG hm hSs hTs;go_wp2_with fail
    refine HD.out.mono ?_;rintro e wb⟨rfl,hbb⟩;have HNX:Hid ((S++⟨#[32]⟩++T:ByteArray).data.toList=joinL x (xs.take (m+1))/\Below wa.heap.size wa wb):=hdd ⟨by
     rw[aqS HK.out.2.1,<-HK.out.2.2.1,<-HTE.out];simp[asB],aA HK.out.2.2.2 hbb⟩
    clear hbb y0 y1 ca;go_wp2_with fail
    go_roundw
    case rel=>exact⟨m+1,_,HK.out.1,rfl,by go_num,HNX⟩
    case measure=>exact fE HK.out.1
  . obtain rfl:m=n:=as2 hm hge
    have HE:Hid (S=⟨(joinL x xs).toArray⟩):=hdd (by
     rw[asL (by rw[HN.out];exact asQ _)]at hS;rw[<-hS])
    have HBF:=hdd (aA HBA.out hbl);clear hS hbl HG hm hge hSs;go_wp2;go_ret;exact⟨by rw[HE.out];rfl,HBF.out⟩
def arU(w:World)(r:List UInt8 ⊕ Int)(e:Ending)(w':World):Prop:=Below w.heap.size w w'/\match r with
 | .inl t=>e=.returned (.tuple #[.string ⟨t.toArray⟩,.int .i64 0])
 | .inr k=>e=.returned (.tuple #[.string ⟨#[]⟩,.int .i64 k])
def StepsO(w:World)(v:Value)(l:List Stp):Prop:=∃p c,v=.slice p l.length c/\∀(j:Nat) x,l[j]? =some x->∃b o u,p=some ⟨b,o,none⟩/\w.cell? ⟨b,o+j*2,none⟩=some (.string x.1)/\w.cell? ⟨b,o+j*2+1,none⟩=some u/\IntS w u x.2
theorem zM.any {l:List Stp}(h:zM w v l):StepsO w v l:=by
 obtain⟨p,c,rfl,hc⟩:=h;refine⟨p,c,rfl,fun j x hx=> ?_⟩;obtain⟨b,u,rfl,h1,h2,h3⟩:=hc j x hx;exact⟨b,0,u,rfl,by rwa[as4],by rwa[as4],h3⟩
theorem StepsO.below {w':World}{l:List Stp}(h:StepsO w v l)(hb:Below w.heap.size w w'):StepsO w' v l:=by
 obtain⟨p,c,rfl,hc⟩:=h;refine⟨p,c,rfl,fun j x hx=> ?_⟩;obtain⟨b,o,u,rfl,h1,h2,h3⟩:=hc j x hx;exact⟨b,o,u,rfl,cbl h1 hb,cbl h2 hb,h3.below hb⟩
theorem arH{l:List UInt8}(h:w.ownsRow B 5 1 v k (asF l)):(convert 46 9 v).run Tryz.prog w=.ok (.string ⟨l.toArray⟩) w:=by
 have hk:l.length=k:=by have:=h.1;rw[Lib.byteCells_length]at this;omega
 subst hk;rcases h.2 with ⟨rfl,h0⟩|⟨g,cap,cur,rfl,-⟩
 . obtain rfl:l=[]:=ar7 h0
   rw[run_convert_bytes_string w 46 9 5 none 0 0 Tryz.underlying46 Tryz.underlying5 Tryz.underlying9];rfl
 . refine run_convert_bytes_back w 46 9 5 ⟨g,0,none⟩ cap l Tryz.underlying46 Tryz.underlying5 Tryz.underlying9 (fun j hj=> ?_)
   have:=h.cells (g:=g) rfl j (.int .u8 (l[j].toNat:Int)) (by simp[asF,asE hj]);exact this
theorem aq7{e:TypeId}{xs:List Value}(h:w.ownsRow B e 1 v k xs):∃A c,v=.slice A k c:=by
 rcases h.2 with ⟨rfl,rfl⟩|⟨g,cap,cur,rfl,-⟩
 . exact⟨_,_,rfl⟩
 . exact⟨_,_,rfl⟩
theorem aqT{l:List Stp}(hv:StepsO w v l)(hl:l.length<=250)(hx:∀x∈l,x.2.length<=1000):Calls Tryz.prog 9 #[v] w (arU w (kX l)):=by
 obtain⟨i0,hi,hz0,hz1,hz2⟩:=info_parts vL;obtain⟨p,c,rfl,hc⟩:=id hv;have HC:=hdd hc;have HX:=hdd hx;have HBAD:Hid (∀(m:Nat) (x:Stp),l[m]? =some x->qA x=false->kX l=.inr 6):=hdd fun m x h1 h2=>ag2 h1 h2;obtain⟨R,hR⟩:∃R,kX l=R:=⟨_,rfl⟩;have HRE:=hdd hR;rw[hR]at HBAD|-;obtain⟨n,hn⟩:∃n,l.length=n:=⟨_,rfl⟩;have HN:=hdd hn;rw[hn]at hl|-;have HL:=hdd hl;have hlI:(n:Int)<=250:=by omega
 have HTL:Hid (∀q,(∀x∈l.take q,qA x=true)->(jI (l.take q)).length<=17750):=hdd fun q hq=>by
  have h1:=akN hq;have h2:(l.take q).length<=250:=by rw[asY];omega
  omega
 have HI:=hdd hi;have HZ0:=hdd hz0;have HZ1:=hdd hz1;have HZ2:=hdd hz2;clear hv hc hx hR hn hl hi hz0 hz1 hz2;go_enter Tryz.func9,Tryz.ntmps9
 go_wp2_with fail
 go_loopw [4,5] (fun b i wr=>∃(m k:Nat) (A:Option Addr) (cp:Nat),m<=n/\b=.slice A k cp/\i=.int .i64 (m:Int)/\Hid (k=(jI (l.take m)).length/\wr.ownsRow w.heap.size 5 1 (.slice A k cp) k (asF (jI (l.take m)))/\(∀x∈l.take m,qA x=true)/\Below w.heap.size w wr)) (fun _ i _=>((n:Int)-intOf i).toNat)
 case atStart=>exact⟨0,0,none,0,asR _,rfl,rfl,hdd ⟨rfl,World.ownsRow_nil _ _ _ _,fun x hx=>by simp at hx,Below.refl _ _⟩⟩
 case round=>
  obtain⟨m,k,A,cp,hm,rfl,rfl,HG⟩:=hrel;obtain⟨hk,hown,hall,hbl⟩:=HG.out;have hk2:k<=17750:=by rw[hk];exact HTL.out m hall
  have hm0:(0:Int)<=(m:Int):=ar9 _;rcases asG m n with hlt|hge
  . obtain⟨x,hx⟩:∃x,l[m]? =some x:=⟨_,asE (by rw[HN.out];exact hlt)⟩
    obtain⟨b,o,u,rfl,ca,cb,hI⟩:=HC.out m x hx;replace ca:=cbl ca hbl;replace cb:=cbl cb hbl;have hIr:=hI.below hbl;obtain⟨p',c',rfl,-⟩:=id hI;have hmI:(m:Int)<(n:Int):=as3.2 hlt;have HSY:=hdd (abF (s:=x.1) (w:=wr) hIr (by have:=HX.out x (asN hx);omega));obtain⟨F,hF⟩:∃F,dE x.1 x.2=F:=⟨_,rfl⟩;have HFE:=hdd hF;rw[hF]at HSY;have HK:=hdd (And.intro hlt (And.intro hx (And.intro hk (And.intro hown (And.intro hall (And.intro hbl hIr))))));have HK2:=hdd hk2;clear hlt hx hk hown hall hbl hIr hI HG hm hF hk2;rcases F with _|_
    . obtain rfl:Sum.inr 6=R:=(HBAD.out m x HK.out.2.1 HFE.out).symm
      go_wp2_with fail
      refine HSY.out.mono ?_;rintro e wb⟨rfl,hbb⟩;have HBB:=hdd (aA HK.out.2.2.2.2.2.1 hbb);clear hbb;go_wp2
      go_ret2
      exact⟨HBB.out,rfl⟩
    . go_wp2_with fail
      refine HSY.out.mono ?_;rintro e wb⟨rfl,hbb⟩;replace ca:=cbl ca hbb;replace cb:=cbl cb hbb;have HLI:=hdd (arG (x:=x.1) (w:=wb) (HK.out.2.2.2.2.2.2.below hbb) HFE.out);have HOB:=hdd (HK.out.2.2.2.1.kept (aH (row:=none) hbb) (by
       rcases hv:(Value.slice A k cp).ownBlock with _|b
       . exact Or.inl rfl
       . exact Or.inr (by simp)))
      have HBB:=hdd (aA HK.out.2.2.2.2.2.1 hbb);obtain⟨J,hJ⟩:∃J:ByteArray,(⟨(joinL x.1 x.2).toArray⟩:ByteArray)=J:=⟨_,rfl⟩;have hJs:J.size<=70:=by rw[<-hJ];show(joinL x.1 x.2).toArray.size<=70;rw[asW];exact qB HFE.out
      have HJE:Hid (J.data.toList=joinL x.1 x.2/\J.size<=70):=hdd ⟨by rw[<-hJ],hJs⟩;rw[hJ]at HLI;have j1:¬(9223372036854775807<J.size+1):=by omega
      clear hbb hJ hJs;go_wp2_with fail
      refine HLI.out.mono ?_;rintro e wc⟨rfl,hbc⟩;have hown:=HOB.out.kept (aH (row:=none) hbc) (by
       rcases hv:(Value.slice A k cp).ownBlock with _|b
       . exact Or.inl rfl
       . exact Or.inr (by simp))
      have HBC:=hdd (aA HBB.out hbc);have hsz:(J++⟨#[10]⟩:ByteArray).size=J.size+1:=by rw[asC];rfl
      have HSZ:=hdd hsz;clear hbc ca cb;go_wp2_with (at_builtin;refine Lib.wpList_append_own_string _ rfl _ _ 46 9 rfl w.heap.size 5 i0 Tryz.underlying46 Tryz.underlying9 HI.out HZ0.out HZ1.out HZ2.out _ _ _ rfl hown (J++⟨#[10]⟩) rfl ?c3 ?c4 ?c5 ?_)
      case c3=>rw[HSZ.out];have:=HK2.out;have:=HJE.out.2;unfold maxLen;omega
      case c4=>rw[HSZ.out];have:=HK2.out;have:=HJE.out.2;omega
      case c5=>exact HBC.out.size
      intro v' w2 hown' hgrow _;obtain⟨A',cp',rfl⟩:=aq7 hown';have htx:=ag1 HK.out.2.1;have HNX:Hid (k+(J.size+1)=(jI (l.take (m+1))).length/\w2.ownsRow w.heap.size 5 1 (.slice A' (k+(J.size+1)) cp') (k+(J.size+1)) (asF (jI (l.take (m+1))))/\(∀x∈l.take (m+1),qA x=true)/\Below w.heap.size w w2):=hdd ⟨by
       rw[htx,asU,asU,<-HK.out.2.2.1,<-HJE.out.1,asD];show _=k+J.size+1;omega,by
       have e:asF (jI (l.take (m+1)))=asF (jI (l.take m))++Lib.strCells (J++⟨#[10]⟩):=by
        rw[htx,<-HJE.out.1,List.append_assoc,Lib.byteCells_append,Lib.strCells_eq];simp[asB]
       rw[e];exact hown',fun z hz=>by
       rw[asV,HK.out.2.1]at hz;rcases List.mem_append.1 hz with hz|hz
       . exact HK.out.2.2.2.2.1 z hz
       . obtain rfl:z=x:=by simpa using hz
         exact HFE.out,HBC.out.trans (below_grown hgrow HBC.out.size fun b hb=>(hown.lt b hb).1)⟩
      clear hown' hgrow hown htx hsz;go_wp2_with fail
      go_roundw
      case rel=>exact⟨m+1,_,_,_,HK.out.1,rfl,by go_num,HNX⟩
      case measure=>exact fE HK.out.1
  . obtain rfl:m=n:=as2 hm hge
    rw[asL (by rw[HN.out];exact asQ _)]at hall hk hown;have HCV:=arH hown;have hkI:¬(20000:Int)<(k:Int):=by omega
    have HA:=hdd hall;have HBL:=hdd hbl;clear hall hbl hk hown HG hm hge HBAD;rcases asG 200 m with h2|h2
    . have h2I:(200:Int)<(m:Int):=by omega
      have hR:Sum.inr 7=R:=by
       rw[<-HRE.out];unfold kX;rw[if_pos (asZ.2 HA.out),if_pos (by rw[HN.out];exact h2)]
      subst hR;clear h2;go_wp2
      go_ret2
      exact⟨HBL.out,rfl⟩
    . have h2I:¬(200:Int)<(m:Int):=by omega
      have hR:Sum.inl (jI l)=R:=by
       rw[<-HRE.out];unfold kX;rw[if_pos (asZ.2 HA.out),if_neg (by rw[HN.out];omega)]
      subst hR;clear h2;go_wp2
      go_ret2
      exact⟨HBL.out,rfl⟩
end
end Go.Proofs.YtigoiiekebccnaaGreatDoor
