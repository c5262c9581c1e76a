/- A part of the proof: contracts of functions and plain laws (EX0, LawK, LawF, LawP, LawI, LawT, GtA, FlA, FlB, FlC, FlD, FlE, FlF, FlG). -/
import Derived.Test.YtjdgaogkioabeabGreatDoorK26
import Derived.Test.YtjdgaogkioabeabGreatDoorK29
import Derived.Test.YtjdgaogkioabeabGreatDoorK30
import Derived.Test.YtjdgaogkioabeabGreatDoorK31
import Derived.Test.YtjdgaogkioabeabGreatDoorRows
import Derived.Test.YtjdgaogkioabeabGreatDoorK25
import Derived.ProofKit
import Derived.OpenShut
import Derived.LaidMore
import Derived.Lay
import Derived.Lib.LaidTab
import Derived.Stop.Joined
import Derived.Deep.Slices
import Derived.Test.YtjdgaogkioabeabGreatDoorK32
import Derived.Test.YtjdgaogkioabeabGreatDoorK22
import Derived.LaidEql
import Derived.Lib.IfaceEq
import Derived.Stop.Asserts
import Derived.Recover
import Derived.Defers
import Derived.Test.YtjdgaogkioabeabGreatDoorK27
set_option linter.unusedVariables false
set_option linter.unusedSimpArgs false
set_option maxHeartbeats 25600000
set_option maxRecDepth 100000
namespace Go.Proofs.YtjdgaogkioabeabGreatDoor
section
open Go.RowKit Go.Maps
section
variable{P:Ex->Prop}{B N:Nat}{w w':World}{g:Nat}{ns ns':List Nd}
theorem St.more {M:Nat}(h:St P B N w g ns)(hM:N<=M):St P B M w g ns:=⟨h.dag,h.all,h.hi,h.tab,h.tb,h.hB,Nat.le_trans h.room hM⟩
end
section
variable{P:Ex->Prop}{B N M:Nat}{w W W':World}{g:Nat}{ns ns' ns'':List Nd}{l:List (Nat×Obj)}
theorem Stg.more (h:Stg P B N w g ns W ns' l)(hM:N<=M):Stg P B M w g ns W ns' l:=⟨⟨h.grew.1.more hM,h.grew.2⟩,h.kept,h.hw,h.nodup⟩
end
section
variable{P:Ex->Prop}{B N M:Nat}{w W W':World}{g i j b v:Nat}{ns ns' ns'':List Nd}{l:List (Nat×Obj)}{x y:Ex}
end
section
variable{α:Type}{a:α}{l:List α}
end
section
variable{s:Bs}{w0 w1 W W':World}{g N M:Nat}{K:List (Ex×Nat)}{l l':List (Nat×Obj)}
theorem Run.more (h:Run s g N K l W)(hM:N<=M):Run s g M K l W:=by obtain⟨ns',hs,hK⟩:=h;exact⟨ns',hs.more hM,hK⟩
end
section
variable{s:Bs}{W W':World}{g N M:Nat}{K:List (Ex×Nat)}{l:List (Nat×Obj)}{x y:Ex}{ns:List Nd}
end
section
variable{s:Bs}{W:World}{g N i j k m b v:Nat}{K:List (Ex×Nat)}{l:List (Nat×Obj)}{x y:Ex}{q:Int}
variable{px py qx qy rx ry:Ex}{i' j' k':Nat}
end
end
section
open Go.RowKit
section
variable{P:Program}{w:World}{b off:Nat}{T:TypeId}{cs:List Value}
theorem akM{k:Nat}{v:Value}(h:w.heap[b]? =some (.cells cs.toArray T (0,0)))(hv:cs[k]? =some v):w.cell? ⟨b,k,none⟩=some v:=by
 simp[World.cell?,h,hv]
end
end
section
open Go.RowKit Go.Maps
open List renaming mem_cons_of_mem->amQ,mem_cons_self->amR,mem_singleton->amS,nodup_cons->amT,mem_cons->amU,map_cons->amV
section
variable{s:Bs}{g N:Nat}{K:List (Ex×Nat)}{l l':List (Nat×Obj)}{W W':World}{b bb nb:Nat}{o O O':Obj}
theorem Run.board {ln:List (Nat×Obj)}(h:Run s g N K ((bb,O)::l) W)(hg:W.grownBy W' (some bb))(hO:W'.heap[bb]? =some O')(hn:∀p∈ln,W'.heap[p.1]? =some p.2/\W.heap.size<=p.1)(hd:ln.length<=1):Run s g N K ((bb,O')::(ln++l)) W':=by
 obtain⟨ns',hs,hK⟩:=h;have hw:=hs.write hg hO;refine⟨ns',⟨hw.grew,fun p hp=> ?_,hw.hw,?_⟩,hK⟩
 . rcases amU.1 hp with rfl|hp
   . exact hw.kept _ (amR ..)
   . rcases List.mem_append.1 hp with hp|hp
     . obtain⟨q1,q2⟩:=hn p hp
       have hgb:some g≠some bb:=fun e=>(hs.kept (bb,O) (by simp)).2.1 (Or.inl (Option.some.inj e).symm);exact⟨q1,fun hd=>by have:=hs.grew.1.dag.dagB ((DagB.congr (hg.block g hs.grew.1.dag.glt hgb)).1 hd);omega,Nat.le_trans hs.grew.2.2.size q2⟩
     . exact hw.kept p (amQ _ hp)
 . have hnd:=hw.nodup
   match ln,hn,hd with
   |[],_,_=>exact hnd
   |[q],hn,_=>
    obtain⟨-,q2⟩:=hn q (amS.2 rfl);have hlt:∀p∈(bb,O)::l,p.1<W.heap.size:=fun p hp=>hs.lt hp;simp only[amV,amT,List.cons_append,List.nil_append]at hnd|-;refine⟨fun hm=> ?_,fun hm=> ?_,hnd.2⟩
    . rcases amU.1 hm with e|hm
      . have:=hlt (bb,O) (by simp);simp only at this;omega
      . exact hnd.1 hm
    . obtain⟨p,hp,e⟩:=List.mem_map.1 hm
      have:=hlt p (amQ _ hp);omega
end
theorem Run.subl {s:Bs}{g N:Nat}{K:List (Ex×Nat)}{l l':List (Nat×Obj)}{W:World}(h:Run s g N K l W)(hs:l'.Sublist l):Run s g N K l' W:=h.sub (fun _ hp=>hs.subset hp) (h.nodup.sublist (hs.map _))
def OwnR(T:TypeId)(sz:Nat)(v:Value)(n:Nat)(xs:List Value)(lr:List (Nat×Obj)):Prop:=
 xs.length=n*sz/\((v=.slice none 0 0/\n=0/\lr=[])\/∃(r cap:Nat) (cur:Array Value),v=.slice (some ⟨r,0,none⟩) n cap/\lr=[(r,.cells cur T)]/\n<=cap/\cap<=maxLen/\cur.size=cap*sz/\cur.toList.take (n*sz)=xs)
theorem OwnR.nil (T:TypeId)(sz:Nat):OwnR T sz (.slice none 0 0) 0 [] []:=⟨by simp,Or.inl ⟨rfl,rfl,rfl⟩⟩
section
variable{s:Bs}{g N n n' sz g0 cap:Nat}{K:List (Ex×Nat)}{L lr:List (Nat×Obj)}{W w':World}{v:Value}{xs xs':List Value}{T:TypeId}
theorem OwnR.slice (h:OwnR T sz v n xs lr):∃p c,v=.slice p n c:=by
 rcases h.2 with ⟨rfl,rfl,-⟩|⟨r,c,cur,rfl,-⟩
 . exact⟨none,0,rfl⟩
 . exact⟨_,_,rfl⟩
theorem OwnR.own (h:OwnR T sz v n xs lr)(hR:Run s g N K (lr++L) W):W.ownsRow 0 T sz v n xs:=by
 refine⟨h.1,?_⟩;rcases h.2 with ⟨rfl,rfl,-⟩|⟨r,c,cur,rfl,rfl,h1,h2,h3,h4⟩
 . exact .inl ⟨rfl,rfl⟩
 . exact .inr ⟨r,c,cur,rfl,Nat.zero_le _,hR.at (amR ..),h1,h2,h3,h4⟩
theorem OwnR.grow (h:OwnR T sz v n xs lr)(hR:Run s g N K (lr++L) W)(hown:w'.ownsRow 0 T sz (.slice (some ⟨g0,0,none⟩) n' cap) n' xs')(hg:W.grownBy w' v.ownBlock)(hat:v.ownBlock=some g0\/g0=W.heap.size):
 ∃lr',OwnR T sz (.slice (some ⟨g0,0,none⟩) n' cap) n' xs' lr'/\Run s g N K (lr'++L) w':=by
 obtain⟨hx,hy⟩:=hown;rcases hy with ⟨e,-⟩|⟨g1,c1,cur,e,-,hgg,h1,h2,h3,h4⟩
 . simp at e
 . simp only[Value.slice.injEq,Option.some.injEq,Addr.mk.injEq]at e
   obtain⟨⟨rfl,-⟩,-,rfl⟩:=e;refine⟨[(g0,.cells cur T)],⟨hx,Or.inr ⟨g0,cap,cur,rfl,rfl,h1,h2,h3,h4⟩⟩,?_⟩;rcases h.2 with ⟨rfl,-,rfl⟩|⟨r,c,cur',rfl,rfl,-⟩
   . rcases hat with e|rfl
     . simp[Value.ownBlock]at e
     . exact Run.keep hR ⟨hg.os,hg.tape,hg.output,hg.size,fun b hb=>hg.block b hb (by simp[Value.ownBlock])⟩ hgg nlr
   . rcases hat with e|rfl
     . obtain rfl:r=g0:=by simpa[Value.ownBlock]using e
       exact Run.write hR hg hgg
     . have hl:=hR.at (amR ..)
       obtain⟨o',ho'⟩:∃o',w'.heap[r]? =some o':=⟨_,Array.getElem?_eq_getElem (Nat.lt_of_lt_of_le (aF hl) hg.size)⟩;have h5:=Run.board (ln:=[(W.heap.size,.cells cur T)]) hR hg ho' (fun p hp=>by
        obtain rfl:=amS.1 hp;exact⟨hgg,Nat.le_refl _⟩) nlr
       exact h5.sub (fun p hp=>amQ _ hp) (amT.1 (by have:=h5.nodup;rwa[amV]at this)).2
end
section
variable{s:Bs}{g N n sz:Nat}{K:List (Ex×Nat)}{L lr:List (Nat×Obj)}{W:World}{v:Value}{xs:List Value}{T:TypeId}
end
section
variable{s:Bs}{g N n sz:Nat}{K:List (Ex×Nat)}{L lr:List (Nat×Obj)}{W:World}{v:Value}{xs:List Value}{T:TypeId}
end
end
section
open Go.ChangeShapes Go.WideShapes Go.ChangeAt Go.RowKit
variable{W:World}
def amF : List (String × DataW Unit) := [("math/bits.deBruijn64tab", Rows.laid_math_bits_deBruijn64tab)]
theorem al4:ownKnob Tryz.prog.godebug=none:=by kernel_rfl
theorem akY : Tryz.prog.globalNamed "math/bits.deBruijn64tab" = some 0 := by kernel_rfl
theorem alS:(Tryz.prog.globals[0]?).map (·.type)=some 194:=by kernel_rfl
theorem al5:Tryz.prog.underlying 194=some (.array 64 5):=by kernel_rfl
theorem amH:Tryz.prog.underlying 5=some (.int .u8):=by kernel_rfl
theorem alT:Tryz.prog.cellsOf 5=1:=by kernel_rfl
theorem alO:Tryz.prog.cellsOf 194=64:=by kernel_rfl
def tabZ:List Int:=Lib.deBruijn64tab.map fun(x:Nat)=>(x:Int)
theorem al6 : amF = [("math/bits.deBruijn64tab", Lib.tabData .u8 tabZ)] := by kernel_rfl
theorem ak5(h:laidMetH Tryz.prog amF W):Tab W:=by
 rw[MakeChecks.laidMetH_plain _ _ _ (by kernel_rfl),al6]at h;have hT:=Lib.tabIs_of_head akY alS al5 amH alT alO h;intro j hj;have hl:tabZ.length=Lib.deBruijn64tab.length:=by simp[tabZ]
 have:=hT.cell akY j (by omega);rw[this];have e:tabZ.getD j 0=((Lib.deBruijn64tab.getD j 0:Nat):Int):=by
  simp only[tabZ,List.getD_eq_getElem?_getD,List.getElem?_map];rw[List.getElem?_eq_getElem hj];rfl
 rw[e]
theorem amI(h:Tab W):0<W.heap.size:=World.block_lt_of_cell? W _ (h 0 (by decide))
section
variable{H:Type}{enc:TypeId×Value->H}
theorem alP{f:Func}{s:ChangeSpec}{W':World}{args:Array Value}{ds:List (DataW H)}{before:List MemPlace}
 (hW:DataW.Whole enc Tryz.prog f.params.toList s.vars false W args.toList ds [] before) (hv:s.vars=[]) (hr:f.resultTypes=#[4]) (hs:s.fn H (ds++[])={results:=[.lit (.bool true)],args:=ds})
 (hargs:∀sp:Nat->Bool,(∀p∈before,sp p.block=true)->DataW.TrodAll enc Tryz.prog W' 0 sp true f.params.toList args.toList ds before) (hb:Below W.heap.size W W'):
 s.post enc Tryz.prog f false true false false W args (.bool true) W':=by
 have hlt:∀p∈before,p.block<W.heap.size:=fun p hp=>hW.lt p hp;have hold:∀p∈before,(fun b=>decide (b<W.heap.size)) p.block=true:=fun p hp=>by simpa using hlt p hp
 have hres:∀(b:Nat) (sp:Nat->Bool) (hd:Bool),DataW.TrodAll enc Tryz.prog W' b sp hd f.resultTypes.toList ((Value.bool true).resultList f.resultTypes.size) [.lit (.bool true)] []:=by
  intro b sp hd;rw[hr];exact trodAll_cons_mk (shut_bool Tryz.underlying4 _) trodAll_mk0
 have hvars:∀sp:Nat->Bool,DataW.TrodVars enc Tryz.prog W' sp s.vars [] []:=fun sp=>by rw[hv];rfl
 refine⟨ds,[],before,[],before,[],hW,?_,?_,?_,?_,fun h=>by cases h⟩
 . rw[hs];exact hres _ _ _
 . rw[hs];exact hargs _ hold
 . rw[hs];exact hvars _
 . refine World.keptBut_mono (fun p hp=> ?_) (hb.frame (· ∈before))
   exact⟨hp,by simpa using hp⟩
end
section
variable{H:Type}{enc:TypeId×Value->H}{P:Program}{w:World}{base:Nat}{spare:Nat->Bool}{held:Bool}
end
section
variable{H:Type}{enc:TypeId×Value->H}{P:Program}{w:World}{base:Nat}{spare:Nat->Bool}{held:Bool}
end
theorem akZ:Tryz.prog.cellsOf 3=1:=by kernel_rfl
end
section
open Go.ChangeShapes Go.WideShapes Go.ChangeAt Go.RowKit Go.Deep
open Go.DataW renaming trod->amW,trod_int->amY,Trod->amZ
open List.cons renaming injEq->amX
section
variable{H:Type}{enc:TypeId×Value->H}{P:Program}{w w':World}{sp:Nat->Bool}{t e e1:TypeId}{v:Value}{d:DataW H}{ps:List MemPlace}{k:IntKind}
def amG(enc:TypeId×Value->H)(P:Program)(e:TypeId):Prop:=∀(n:Nat) (w w':World) (b b':Nat) (sp sp':Nat->Bool) (cs:List Value) (x:DataW H×List MemPlace),amW enc P w b sp true n e cs=some x->x.2=[]/\amW enc P w' b' sp' true n e cs=some x
theorem alU(he:P.underlying e=some (.int k)):amG enc P e:=by
 intro n w w' b b' sp sp' cs x h;obtain⟨z,rfl,rfl,hw⟩:=amY he h
 cases n with
 |zero=>simp[amW]at h
 |succ n=>exact⟨rfl,by simp[amW,he,hw]⟩
theorem alE{b n:Nat}{a:Addr}{cs:List Value}(hh:∀b,b<w.heap.size->w'.heap[b]? =w.heap[b]?)(h:w.cells? b a n=some cs)(hlt:n=0\/a.block<w.heap.size):w'.cells? b a n=some cs:=by
 rw[<-h];unfold World.cells?;rcases hlt with rfl|hlt
 . rfl
 . split
   . congr 1
     funext i
     unfold World.cell?;have e:(a.add i).block=a.block:=by unfold Addr.add;split<;>rfl
     rw[e,hh _ hlt]
   . rfl
theorem amJ(ht:P.underlying t=some (.slice e))(hf:amG enc P e)(hpos:0<P.cellsOf e)(hh:∀b,b<w.heap.size->w'.heap[b]? =w.heap[b]?)(h:amZ enc P w 0 (fun _=>true) true t v d ps)(hb:∀p∈ps,p.block<w.heap.size)(hsp:∀p∈ps,sp p.block=true):amZ enc P w' 0 sp true t v d ps:=by
 obtain⟨fuel,h⟩:=h;show∃n,amW enc P w' 0 sp true n t v.cells.toList=some (d,ps);rcases open_slice ht h with ⟨hc,hx⟩|⟨a,len,cap,m,n,D,Pl,hc,h0,hl,hm,hmm,hx,hi⟩
 . rw[hc,hx];exact shut_slice_nil ht
 . rw[hc]
   obtain rfl:m=cap:=by simpa using hmm
   simp only[Prod.mk.injEq]at hx;have hPl:∀i,i<m->Pl i=[]:=fun i hlt=>by
    obtain⟨cs,-,h2⟩:=hi i hlt;exact(hf _ _ w' _ 0 _ sp _ _ h2).1
   have hin:∀i,i<m->MemPlace.cell a.block (a.off+0)∈ps:=fun i hlt=>by
    rw[hx.2];refine List.mem_append_left _ ?_;unfold MemPlace.row;exact List.mem_map.2 ⟨0,List.mem_range.2 (Nat.mul_pos (by omega) hpos),rfl⟩
   have hread:∀i,i<m->∃cs n,w'.cells? 0 (a.add (i*P.cellsOf e)) (P.cellsOf e)=some cs/\amW enc P w' 0 sp true n e cs=some (D i,Pl i):=fun i hlt=>by
    obtain⟨cs,h1,h2⟩:=hi i hlt;refine⟨cs,n,alE hh h1 (Or.inr ?_),(hf _ _ w' _ 0 _ sp _ _ h2).2⟩;have:=hb _ (hin i hlt);have e:(a.add (i*P.cellsOf e)).block=a.block:=by unfold Addr.add;split<;>rfl
    rw[e];exact this
   rw[hx.1,hx.2]
   cases hs:sp a.block with
   |true=>exact shut_slice_whole_cells ht (Nat.zero_le _) hl hm hs D Pl hread
   |false=>
    have h0:m=0:=by
     rcases Nat.eq_zero_or_pos m with h|h
     . exact h
     . have:=hsp _ (hin 0 h);rw[show(MemPlace.cell a.block (a.off+0)).block=a.block from rfl]at this;rw[hs]at this;cases this
    subst h0;obtain rfl:len=0:=by omega
    have:=shut_slice_cells (enc:=enc) (held:=true) ht (Nat.zero_le _) (Nat.le_refl 0) hm hs D Pl (fun i hi=>by omega) (w:=w') (base:=0);simpa using this
theorem al7{r:Reach}{b0:Nat}(ht:P.underlying t=some (.slice e))(he:P.underlying e=some (.int k))(hce:P.cellsOf e=1)(hval:Value.okWide P w r b0 t v)(h:amZ enc P w 0 (fun _=>true) true t v d ps):
 ∃(p:Option Addr) (xs:List Int) (c:Nat),v=.slice p xs.length c/\∀j x,xs[j]? =some x->∃lb lo,p=some ⟨lb,lo,none⟩/\w.cell? ⟨lb,lo+j,none⟩=some (.int k x):=by
 obtain⟨fuel,h⟩:=h;have hv:v.cells.toList=[v]:=by
  unfold Value.okWide at hval;rw[ht]at hval
  cases v with
  |agg cs=>simp[Cell.okWide,Cell.ok,ht]at hval
  |_=>rfl
 rw[hv]at h;rcases open_slice1 ht hce h with ⟨hc,-⟩|⟨a,len,cap,m,n,V,D,Pl,hc,-,hl,-,hmm,-,hi⟩
 . simp only[amX,and_true]at hc
   exact⟨none,[],0,hc,fun j x hj=>by simp at hj⟩
 . simp only[amX,and_true]at hc
   simp only[if_true]at hmm;subst hmm;have hall:∀i,i<len->∃z:Int,w.cell? (a.add i)=some (.int k z):=fun i hlt=>by
    obtain⟨h1,h2⟩:=hi i (by omega);obtain⟨z,h3,-,-⟩:=amY he h2;simp only[amX,and_true]at h3;exact⟨z,by rw[h1,h3]⟩
   obtain⟨f,hf⟩:=choose_lt hall;refine⟨some a,(List.range len).map f,m,by simpa using hc,fun j x hj=> ?_⟩;simp only[List.getElem?_map,Option.map_eq_some_iff]at hj;obtain⟨i,hj,rfl⟩:=hj;have hlt:j<len:=by
    have:=(List.getElem?_eq_some_iff.1 hj).1;simpa using this
   rw[List.getElem?_range hlt]at hj;obtain rfl:=Option.some.inj hj;obtain⟨b,off,spot⟩:=a;have hspot:spot=none:=by
    have:=World.cell?_spot (hf 0 (by omega));simpa[Addr.add]using this
   subst hspot;exact⟨b,off,rfl,by rw[<-Go.WideShapes.add_plain];exact hf j hlt⟩
end
end
section
open Go.ChangeShapes Go.WideShapes Go.ChangeAt Go.RowKit
variable{W:World}
def akW : List (String × DataW Unit) := [("math/bits.deBruijn32tab", Rows.laid_math_bits_deBruijn32tab), ("math/bits.deBruijn64tab", Rows.laid_math_bits_deBruijn64tab), ("internal/strconv.uint64pow10", Rows.laid_internal_strconv_uint64pow10)]
theorem ak0{P:Program}{x:String×DataW Unit}{r:List (String×DataW Unit)}(h:laidMet P (x::r) W):laidMet P r W:=by
 obtain⟨ps,⟨g,t,cs,fuel,p,q,h1,h2,h3,h4,h5,rfl⟩,hn,hr⟩:=h;exact⟨q,h5,(List.nodup_append.1 hn).2.1,fun b off hm=>hr b off (List.mem_append_right _ hm)⟩
theorem ak6{P:Program}{x:String×DataW Unit}{r:List (String×DataW Unit)}(h:laidMet P (x::r) W):laidMet P [x] W:=by
 obtain⟨ps,⟨g,t,cs,fuel,p,q,h1,h2,h3,h4,h5,rfl⟩,hn,hr⟩:=h;refine⟨MemPlace.row ⟨g,0,none⟩ cs.size++p++[],⟨g,t,cs,fuel,p,[],h1,h2,h3,h4,rfl,rfl⟩,?_,fun b off hm=>hr b off ?_⟩
 . rw[List.append_nil];exact(List.nodup_append.1 hn).1
 . rw[List.append_nil]at hm;exact List.mem_append_left _ hm
theorem ak1(h:laidMetH Tryz.prog akW W):Tab W:=by
 rw[MakeChecks.laidMetH_plain _ _ _ (by kernel_rfl)]at h;refine ak5 ?_;rw[MakeChecks.laidMetH_plain _ _ _ (by kernel_rfl)];exact ak6 (ak0 h)
end
section
open Go.RowKit Go.Maps Go.Stop Go.Extern
open Re (rat ofI ofN)
open List renaming sublist_cons_self->am0,getElem?_eq_getElem->am1
variable{a b:Int}{x y:Re}
theorem amO(h:x<y):Re.sgn (x-y)=-1:=Re.sgn_neg (by rw[<-Re.neg_pos,Re.neg_sub];exact Re.sub_pos.2 h)
theorem al8(hx:0<=x)(hy:0<=y)(ex:x*x=rat (a:Rat))(ey:y*y=rat (b:Rat)):Re.sgn (x-y)=(a-b).sign:=by
 have key:∀{a b:Int} {x y:Re},0<=x->0<=y->x*x=rat (a:Rat)->y*y=rat (b:Rat)->a<b->x<y:=fun{a b x y} hx hy ex ey h=>by
  rcases Re.lt_or_ge x y with k|k
  . exact k
  . have h2:=Re.mul_le_mul hy k hy k
    rw[ex,ey,Re.rat_le]at h2;have h3:=Rat.intCast_le_intCast.1 h2;omega
 rcases Int.lt_trichotomy a b with h|rfl|h
 . rw[amO (key hx hy ex ey h),Int.sign_eq_neg_one_of_neg (by omega)]
 . rw[Re.sq_inj hx hy (ex.trans ey.symm),Re.sub_self,Int.sub_self,Re.sgn_zero];rfl
 . rw[Re.sgn_pos (Re.sub_pos.2 (key hy hx ey ex h)),Int.sign_eq_one_of_pos (by omega)]
theorem alV(ha:0<=a/\a<64)(hb:0<=b/\b<64):lJ PT (.sub (.root (li a)) (.root (li b))) (a-b).sign:=by
 have nn:∀{n:Int},0<=n->(0:Re)<=rat (n:Rat):=fun h=>by rw[Re.zero_rat,Re.rat_le];exact Rat.intCast_le_intCast.2 h
 obtain⟨x,hx,ex⟩:=Re.exists_sqrt (nn ha.1);obtain⟨y,hy,ey⟩:=Re.exists_sqrt (nn hb.1);obtain⟨L,hL⟩:∃L:List Ex,L=[.root (li a),.root (li b)]:=⟨_,rfl⟩;have l2:L.length=2:=by rw[hL];rfl
 have f1:=xF (L:=L) (k:=a) 6 (by omega) (by decide);have f2:=xF (L:=L) (k:=b) 6 (by omega) (by decide);have X:=Fit.root f1 hx ex (by rw[hL];simp);have Y:=Fit.root f2 hy ey (by rw[hL];simp);have h:=(Fit.sub X Y).sgn (P:=PT) (by rw[l2];decide+kernel);rwa[al8 hx hy ex ey]at h
def nmL(g:Nat):List Nat->List Value
 |[]=>[]
 |k::ks=>.pointer (some ⟨g,0,none⟩)::.int .i64 (k:Int)::nmL g ks
theorem akN{g k:Nat}:∀{ids:List Nat} {sp:List Value} {j:Nat},ids[j]? =some k->(nmL g ids++sp)[j*2]? =some (.pointer (some ⟨g,0,none⟩))/\(nmL g ids++sp)[j*2+1]? =some (.int .i64 (k:Int))
 |[],_,_,h=>by simp at h
 |x::ids,sp,0,h=>by
  obtain rfl:x=k:=by simpa using h
  exact⟨rfl,rfl⟩
 |x::ids,sp,j+1,h=>by
  have:=akN (g:=g) (sp:=sp) (show ids[j]? =some k by simpa using h);rw[show(j+1)*2=j*2+1+1 by omega];exact this
theorem alH{g k:Nat}:∀{ids:List Nat},nmL g (ids++[k])=nmL g ids++[.pointer (some ⟨g,0,none⟩),.int .i64 (k:Int)]
 |[]=>rfl
 |x::ids=>by show _::_::nmL g (ids++[k])=_;rw[alH];rfl
def bstN(V:Nat->Int):Nat->Nat
 |0=>0
 |k+1=>if V (bstN V k)<V k then k else bstN V k
theorem ak2(V:Nat->Int):∀{k:Nat},0<k->bstN V k<k
 |k+1,_=>by
  unfold bstN;split
  . omega
  . rcases Nat.eq_zero_or_pos k with rfl|h
    . exact Nat.one_pos
    . have:=ak2 V h;omega
theorem ak7(V:Nat->Int):bstN V 1=0:=by show(if V 0<V 0 then 0 else 0)=0;split<;>rfl
theorem alI{n k:Nat}(h:k+1<n):((n:Int)-((k+1:Nat):Int)).toNat<((n:Int)-(k:Int)).toNat:=by omega
def alW(s:Bs)(g N:Nat)(K:List (Ex×Nat))(l:List (Nat×Obj))(ids:List Nat)(V:Nat->Int)(n:Nat)(e:Ending)(W':World):Prop:=∃k,ids[bstN V n]? =some k/\e=.returned (.tuple #[numV g k,.nilIface])/\Run s g N K l W'
section
variable{s:Bs}{g N n cap r:Nat}{K:List (Ex×Nat)}{l:List (Nat×Obj)}{W:World}{ids:List Nat}{sp:List Value}{V:Nat->Int}{X:Nat->Ex}
theorem al9(hR:Run s g N K ((r,.cells (nmL g ids++sp).toArray 28)::l) W)(hn:ids.length=n)(h1:1<=n/\n<=8)(hK:∀j k,ids[j]? =some k->(X j,k)∈K)(hS:∀i j,lJ PT (.sub (X i) (X j)) (V i-V j).sign)(hN:N+8<=20000)(hc:n<=cap):
 Calls Tryz.prog 11 #[.slice (some ⟨r,0,none⟩) n cap] W (alW s g (N+8) K ((r,.cells (nmL g ids++sp).toArray 28)::l) ids V n):=by
 obtain⟨k0,hk0⟩:∃k,ids[0]? =some k:=⟨_,am1 (by omega)⟩;obtain⟨w1,hw1,-,hR⟩:=hR.boxA (.cells #[.pointer none,.int .i64 0] 28);have a0:=akM (hR.at m1) (akN hk0).1;have a1:=akM (hR.at m1) (akN hk0).2;obtain⟨w2,hw2,-,hR⟩:=hR.boxA (numO g k0);have hn0:((n:Int)==0)=false:=beq_eq_false_iff_ne.2 (by omega);have hn1:(1:Int)<=n:=by omega
 have hcI:(n:Int)<=cap:=by omega
 have HR:=hdd hR;have HK:=hdd hK;have HS:=hdd hS;have H0:=hdd hk0;have HN:=hdd (And.intro hn (And.intro h1 hN));clear hR hK hS hk0 hn h1 hN;have HE:Hid (∀(M kk:Nat) (wr:World),M<=N+8->ids[bstN V n]? =some kk->Run s g M K ((w1.heap.size,numO g kk)::(W.heap.size,.cells #[.pointer none,.int .i64 0] 28)::(r,.cells (nmL g ids++sp).toArray 28)::l) wr->((wr.setCell ⟨W.heap.size,0,none⟩ (.pointer (some ⟨g,0,none⟩))).setCell ⟨W.heap.size,1,none⟩ (.int .i64 (kk:Int))).heap[W.heap.size]? =some (numO g kk)/\Run s g (N+8) K ((r,.cells (nmL g ids++sp).toArray 28)::l) ((wr.setCell ⟨W.heap.size,0,none⟩ (.pointer (some ⟨g,0,none⟩))).setCell ⟨W.heap.size,1,none⟩ (.int .i64 (kk:Int)))):=hdd fun M kk wr hM hk h=>by
  have h2:=(h.perm (List.Perm.swap _ _ _)).more hM;have h3:=set2 (h2.at m0) (.pointer (some ⟨g,0,none⟩)) (.int .i64 (kk:Int));exact⟨h3,(h2.write (grownBy_set (grownBy_set (aiM wr _) _) _) h3).subl ((am0 _ _).trans (am0 _ _))⟩
 rcases Nat.lt_or_ge 1 n with h2|h2
 case' inr=>
  obtain rfl:n=1:=by have:=HN.out;omega
  have hb1:=ak7 V;go_enter Tryz.func11,Tryz.ntmps11
  go_wp2_with fail
  all_goals
   refine wp_loop_rounds 1 ?_;rw[rounds_succ];have hR:=HR.out;have hk1:ids[bstN V 1]? =some k0:=by rw[hb1];exact H0.out
   clear a0 a1 hw1 hw2 hb1;obtain⟨p0,p1,-,-⟩:=aB (hR.at m0);obtain⟨q0,q1,f0,f1⟩:=aB (hR.at m1);obtain⟨hF,hG⟩:=HE.out _ _ _ (by have:=HN.out;omega) hk1 hR;have HFF:=hdd hF;have HGG:Hid (alW s g (N+8) K ((r,.cells (nmL g ids++sp).toArray 28)::l) ids V _ (.returned _) _):=hdd ⟨_,hk1,rfl,hG⟩;clear hF hG;go_wp2;obtain⟨e0,e1,-,-⟩:=aB HFF.out;refine bodyPost_ret (v:=.tuple #[.agg #[_,_],_]) (by simp[results,Tryz.results11,go_sem,e0,e1];first|exact⟨⟨rfl,rfl⟩,rfl⟩|rfl) rfl ?_;exact HGG.out
 have h2I:(2:Int)<=n:=by omega
 go_enter Tryz.func11,Tryz.ntmps11
 go_wp2_with fail
 clear a0 a1 hw1 hw2
 go_loopw [20] (fun i wr=>∃k kk:Nat,k+1<=n/\i=.int .i64 (k:Int)/\ids[bstN V (k+1)]? =some kk/\Hid (Run s g (N+k) K ((w1.heap.size,numO g kk)::(W.heap.size,.cells #[.pointer none,.int .i64 0] 28)::(r,.cells (nmL g ids++sp).toArray 28)::l) wr)) (fun i _=>((n:Int)-intOf i).toNat)
 case atStart=>exact⟨0,k0,by omega,rfl,by rw[ak7];exact H0.out,HR⟩
 case round=>
  obtain⟨k,kk,hk,rfl,hkk,HF⟩:=hrel;rcases Nat.lt_or_ge (k+1) n with hlt|hge
  . have hkI:(k:Int)<((n-1:Nat):Int):=by omega
    obtain⟨x,hx⟩:∃x,ids[k+1]? =some x:=⟨_,am1 (by have:=HN.out;omega)⟩;have hF:=HF.out;have c0:=akM (hF.at m2) (akN (sp:=sp) hx).1;have c1:=akM (hF.at m2) (akN (sp:=sp) hx).2;rw[show(k+1)*2=2+k*2 by omega]at c0 c1;have hk0:(0:Int)<=(k:Int):=by omega
    have hwk:wrap64 ((k:Int)+1)=((k+1:Nat):Int):=by have:=HN.out;unfold wrap64;omega
    obtain⟨w3,hw3,-,hF⟩:=hF.boxA (numO g x);obtain⟨y0,y1,-,-⟩:=aB (hF.at m1);obtain⟨z0,z1,-,-⟩:=aB (hF.at m0);have HC:=hdd (hF.cmp (by have:=HN.out;omega) (HK.out _ _ hkk) (HK.out _ _ hx) (HS.out _ _));have HX:=hdd (And.intro hkk (And.intro hx hlt));clear hF HF hkk hx;go_wp2_with fail
    refine HC.out.mono ?_;rintro e w4⟨rfl,hR4⟩;obtain⟨z0,z1,-,-⟩:=aB (hR4.at m0);replace hR4:=hR4.subl (am0 _ _);obtain⟨y0,y1,f0,f1⟩:=aB (hR4.at m0);by_cases hv:V (bstN V (k+1))<V (k+1)
    . have hsg:(V (bstN V (k+1))-V (k+1)).sign<0:=by rw[Int.sign_eq_neg_one_of_neg (by omega)];decide
      have hsg':V (bstN V (k+1))-V (k+1)<0:=by omega
      have h3:=set2 (hR4.at m0) (.pointer (some ⟨g,0,none⟩)) (.int .i64 (x:Int));have HNX:=hdd (hR4.write (grownBy_set (grownBy_set (aiM w4 _) _) _) h3);have HB2:Hid (bstN V (k+1+1)=k+1):=hdd (by show(if V (bstN V (k+1))<V (k+1)then k+1 else _)=_;rw[if_pos hv]);clear hR4 h3 hv HC hw3 c0 c1;generalize (V (bstN V (k+1))-V (k+1)).sign=q at*;go_wp2
      go_roundw
      case rel=>exact⟨k+1,x,HX.out.2.2,by first|exact congrArg (Value.int .i64) hwk|exact congrArg (Value.int .i64) (by omega),by rw[HB2.out];exact HX.out.2.1,HNX⟩
      case measure=>rw[hwk];exact alI HX.out.2.2
    . have hsg:¬(V (bstN V (k+1))-V (k+1)).sign<0:=by
       intro h;have:=Int.sign_neg_iff.1 h;omega
      have HNX:=hdd hR4;have HB2:Hid (bstN V (k+1+1)=bstN V (k+1)):=hdd (by show(if V (bstN V (k+1))<V (k+1)then k+1 else _)=_;rw[if_neg hv]);clear hR4 hv HC hw3 c0 c1;generalize (V (bstN V (k+1))-V (k+1)).sign=q at*;go_wp2
      go_roundw
      case rel=>exact⟨k+1,kk,HX.out.2.2,by first|exact congrArg (Value.int .i64) hwk|exact congrArg (Value.int .i64) (by omega),by rw[HB2.out];exact HX.out.1,HNX⟩
      case measure=>rw[hwk];exact alI HX.out.2.2
  . obtain rfl:n=k+1:=by omega
    have hkI:¬(k:Int)<((k+1-1:Nat):Int):=by omega
    have hF:=HF.out;obtain⟨p0,p1,-,-⟩:=aB (hF.at m0);obtain⟨q0,q1,f0,f1⟩:=aB (hF.at m1);obtain⟨hF,hG⟩:=HE.out _ _ _ (by have:=HN.out;omega) hkk hF;have HFF:=hdd hF;have HGG:Hid (alW s g (N+8) K ((r,.cells (nmL g ids++sp).toArray 28)::l) ids V _ (.returned _) _):=hdd ⟨_,hkk,rfl,hG⟩;clear hF hG;go_wp2;obtain⟨e0,e1,-,-⟩:=aB HFF.out;refine bodyPost_ret (v:=.tuple #[.agg #[_,_],_]) (by simp[results,Tryz.results11,go_sem,e0,e1];first|exact⟨⟨rfl,rfl⟩,rfl⟩|rfl) rfl ?_;exact HGG.out
end
end
section
open Go.RowKit Go.Maps Go.Stop Go.Extern
open Go.Instr renaming typeAssert->am2
open Go.World renaming cell?_of_block->am3,cell?_setCell_same->am4
variable{j k:Int}{b n:Nat}{S T:Nat->Prop}{v:Value}{w w':World}
inductive ErK(S:Nat->Prop)(w:World):Nat->Value->Int->Prop
 |kind {k:Int}:1<=k->k<=7->ErK S w 0 (.iface 81 (.int .i64 k)) k
 |inn {n b:Nat} {v:Value} {k:Int}:S b->w.cell? ⟨b,1,none⟩=some v->ErK S w n v k->ErK S w (n+1) (.iface 132 (.pointer (some ⟨b,0,none⟩))) k
 |att {n b:Nat} {v:Value} {k:Int}:S b->w.cell? ⟨b,1,none⟩=some v->ErK S w n v k->ErK S w (n+1) (.iface 235 (.pointer (some ⟨b,0,none⟩))) k
theorem ErK.block (h:w.cell? ⟨b,1,none⟩=some v):b<w.heap.size:=World.block_lt_of_cell? w _ h
theorem ErK.keep (h:ErK S w n v k)(hb:∀b,S b->b<w.heap.size->w'.cell? ⟨b,1,none⟩=w.cell? ⟨b,1,none⟩):ErK S w' n v k:=by
 induction h with
 |kind h1 h2=>exact .kind h1 h2
 |inn h0 h1 _ ih=>exact .inn h0 ((hb _ h0 (ErK.block h1)).trans h1) ih
 |att h0 h1 _ ih=>exact .att h0 ((hb _ h0 (ErK.block h1)).trans h1) ih
theorem ErK.mono (h:ErK S w n v k)(hb:∀b,S b->b<w.heap.size->T b):ErK T w n v k:=by
 induction h with
 |kind h1 h2=>exact .kind h1 h2
 |inn h0 h1 _ ih=>exact .inn (hb _ h0 (ErK.block h1)) h1 ih
 |att h0 h1 _ ih=>exact .att (hb _ h0 (ErK.block h1)) h1 ih
theorem ErK.low (h:ErK S w n v k)(hb:Below w.heap.size w w'):ErK S w' n v k:=
 h.keep fun _ _ hl=>am3 (hb.block _ hl)
theorem ErK.bound (h:ErK S w n v k):1<=k/\k<=7:=by
 induction h with
 |kind h1 h2=>exact⟨h1,h2⟩
 |inn _ _ _ ih=>exact ih
 |att _ _ _ ih=>exact ih
theorem ErK.det (h:ErK S w n v k):∀{m:Nat} {j:Int},ErK T w m v j->n=m:=by
 induction h with
 |kind h1 h2=>intro m j h;cases h;rfl
 |inn _ h1 _ ih=>
  intro m j h;cases h with
  |inn _ g1 g2=>rw[h1]at g1;cases g1;rw[ih g2]
 |att _ h1 _ ih=>
  intro m j h;cases h with
  |att _ g1 g2=>rw[h1]at g1;cases g1;rw[ih g2]
noncomputable def edep(w:World)(v:Value):Nat:=by
 classical
 exact if h:∃n k,ErK (fun _=>True) w n v k then Classical.choose h else 0
theorem ErK.edep (h:ErK S w n v k):edep w v=n:=by
 unfold Go.Proofs.YtjdgaogkioabeabGreatDoor.edep;have hx:∃n k,ErK (fun _=>True) w n v k:=⟨n,k,h.mono fun _ _ _=>trivial⟩;rw[dif_pos hx];obtain⟨j,hj⟩:=Classical.choose_spec hx;exact hj.det h
theorem ak8(h:w.cell? ⟨b,1,none⟩=some v):
 Calls Tryz.prog 269 #[.pointer (some ⟨b,0,none⟩)] w (fun e w'=>e=.returned v/\w'=w):=by
 go_enter Tryz.func269,Tryz.ntmps269
 go_wp2;go_ret;exact⟨rfl,rfl⟩
theorem ak9(h:w.cell? ⟨b,1,none⟩=some v):
 Calls Tryz.prog 284 #[.pointer (some ⟨b,0,none⟩)] w (fun e w'=>e=.returned v/\w'=w):=by
 go_enter Tryz.func284,Tryz.ntmps284
 go_wp2;go_ret;exact⟨rfl,rfl⟩
theorem akS(v:Value)(xT:TypeId)(w:World):(am2 (.iface 81 v) xT 164 true).run Tryz.prog w=.ok (.tuple #[.nilIface,.bool false]) w:=run_typeAssert_lacksB Tryz.underlying164 (by kernel_rfl) (by kernel_rfl) v xT w
theorem akQ(v:Value)(xT:TypeId)(w:World):(am2 (.iface 81 v) xT 165 true).run Tryz.prog w=.ok (.tuple #[.nilIface,.bool false]) w:=run_typeAssert_lacksB Tryz.underlying165 (by kernel_rfl) (by kernel_rfl) v xT w
theorem alX(v:Value)(xT:TypeId)(w:World):(am2 (.iface 81 v) xT 171 true).run Tryz.prog w=.ok (.tuple #[.nilIface,.bool false]) w:=run_typeAssert_lacksB Tryz.underlying171 (by kernel_rfl) (by kernel_rfl) v xT w
theorem akU(v:Value)(xT:TypeId)(w:World):(am2 (.iface 132 v) xT 164 true).run Tryz.prog w=.ok (.tuple #[.iface 132 v,.bool true]) w:=run_typeAssert_hasB Tryz.underlying164 (by kernel_rfl) v xT w
theorem amK(v:Value)(xT:TypeId)(w:World):(am2 (.iface 132 v) xT 171 true).run Tryz.prog w=.ok (.tuple #[.nilIface,.bool false]) w:=run_typeAssert_lacksB Tryz.underlying171 (by kernel_rfl) (by kernel_rfl) v xT w
theorem akV(v:Value)(xT:TypeId)(w:World):(am2 (.iface 235 v) xT 164 true).run Tryz.prog w=.ok (.tuple #[.iface 235 v,.bool true]) w:=run_typeAssert_hasB Tryz.underlying164 (by kernel_rfl) v xT w
theorem amL(v:Value)(xT:TypeId)(w:World):(am2 (.iface 235 v) xT 171 true).run Tryz.prog w=.ok (.tuple #[.nilIface,.bool false]) w:=run_typeAssert_lacksB Tryz.underlying171 (by kernel_rfl) (by kernel_rfl) v xT w
theorem akO (v : Value) (w : World) : (Go.method 335 132 v "Unwrap").run Tryz.prog w = .ok (269, v) w := by kernel_rfl
theorem akP (v : Value) (w : World) : (Go.method 335 235 v "Unwrap").run Tryz.prog w = .ok (284, v) w := by kernel_rfl
theorem alQ{s:Nat}{c:Int}(h:ErK S w n v k)(hc:w.cell? ⟨s,0,none⟩=some (.int .i64 c))(hz:w.frozen? ⟨s,0,none⟩=false)(hc0:0<=c)(hcn:c+n<16777216)(hs:∀b,(∃v,w.cell? ⟨b,1,none⟩=some v)->b≠s):
 Calls Tryz.prog 76 #[v,.int .i64 0,.pointer (some ⟨s,0,none⟩)] w (fun e w'=>e=.returned (.bool false)/\Fr (fun b=>b=s) w w'):=by
 have HS:=hdd hs;have nK:=akS;have nKs:=akQ;have uI:=akU;have uA:=akV;have mI:=akO;have mA:=akP;have HH:=hdd h;have HC:=hdd hc;have HZ:=hdd hz;clear hs h hc hz;go_enter Tryz.func76,Tryz.ntmps76
 go_wp2_with fail
 go_loopw [0] (fun v' wr=>∃n':Nat,n'<=n/\Hid (ErK S w n' v' k)/\Hid (Fr (fun b=>b=s) w wr)/\Hid (wr.cell? ⟨s,0,none⟩=some (.int .i64 (c+(n-n':Nat))))/\Hid (wr.frozen? ⟨s,0,none⟩=false)) (fun v' _=>edep w v')
 case atStart=>exact⟨n,Nat.le_refl _,HH,hdd (Fr.of_below (Below.refl _ _)),hdd (by rw[Nat.sub_self];simpa using HC.out),HZ⟩
 case round=>
  obtain⟨n',hn',HE,HF,HCC,HZZ⟩:=hrel;have cs:=HCC.out;have fs:=HZZ.out;have hle:¬(c+((n-n':Nat):Int)+1>16777216):=by omega
  have hE:=HE.out;clear HE
  cases hE with
  |kind h1 h2=>
   go_wp2_with fail
   go_ret;exact⟨rfl,Fr.setCell HF.out rfl _⟩
  |@inn n1 b v1 k h0 h1 h2=>
   have HE2:=hdd h2;have HED:Hid (edep w (.iface 132 (.pointer (some ⟨b,0,none⟩)))=n1+1/\edep w v1=n1):=hdd ⟨(ErK.inn h0 h1 h2).edep,h2.edep⟩;have hbs:b≠s:=HS.out b ⟨_,h1⟩;have h1r:wr.cell? ⟨b,1,none⟩=some v1:=(am3 (HF.out.block b (ErK.block h1) (fun h=>hbs h))).trans h1;have HU:Hid (∀u,Calls Tryz.prog 269 #[.pointer (some ⟨b,0,none⟩)] (wr.setCell ⟨s,0,none⟩ u) (fun e w''=>e=.returned v1/\w''=wr.setCell ⟨s,0,none⟩ u)):=hdd fun u=>ak8 ((am3 (Below.heap_setCell wr _ u b hbs)).trans h1r);clear h0 h1 h2 h1r hbs;go_wp2_with fail
   refine(HU.out _).mono ?_;rintro e w2⟨rfl,rfl⟩;go_wp2_with fail
   go_roundw
   case rel=>
    refine⟨n1,by omega,HE2,hdd (Fr.setCell HF.out rfl _),hdd ?_,hdd (by simp[fs])⟩;have:((n-n1:Nat):Int)=((n-(n1+1):Nat):Int)+1:=by omega
    rw[this,<-Int.add_assoc];exact am4 _ _ _ cs
   case measure=>have:=HED.out;simp[this]
  |@att n1 b v1 k h0 h1 h2=>
   have HE2:=hdd h2;have HED:Hid (edep w (.iface 235 (.pointer (some ⟨b,0,none⟩)))=n1+1/\edep w v1=n1):=hdd ⟨(ErK.att h0 h1 h2).edep,h2.edep⟩;have hbs:b≠s:=HS.out b ⟨_,h1⟩;have h1r:wr.cell? ⟨b,1,none⟩=some v1:=(am3 (HF.out.block b (ErK.block h1) (fun h=>hbs h))).trans h1;have HU:Hid (∀u,Calls Tryz.prog 284 #[.pointer (some ⟨b,0,none⟩)] (wr.setCell ⟨s,0,none⟩ u) (fun e w''=>e=.returned v1/\w''=wr.setCell ⟨s,0,none⟩ u)):=hdd fun u=>ak9 ((am3 (Below.heap_setCell wr _ u b hbs)).trans h1r);clear h0 h1 h2 h1r hbs;go_wp2_with fail
   refine(HU.out _).mono ?_;rintro e w2⟨rfl,rfl⟩;go_wp2_with fail
   go_roundw
   case rel=>
    refine⟨n1,by omega,HE2,hdd (Fr.setCell HF.out rfl _),hdd ?_,hdd (by simp[fs])⟩;have:((n-n1:Nat):Int)=((n-(n1+1):Nat):Int)+1:=by omega
    rw[this,<-Int.add_assoc];exact am4 _ _ _ cs
   case measure=>have:=HED.out;simp[this]
theorem alA(h:ErK S w n v k)(hn:n<16777216):
 Calls Tryz.prog 43 #[v] w (fun e w'=>e=.returned (.bool false)/\Below w.heap.size w w'):=by
 have hb1:Below w.heap.size w (w.alloc (.cells #[.int .i64 0] 3)):=Below.alloc (Below.refl _ _) nlr _;have h1:=h.low hb1;have HL:=hdd (alQ (s:=w.heap.size) (c:=0) h1 (by simp) (by simp) (by omega) (by omega) (fun b hb=>by
  obtain⟨v',hv'⟩:=hb;intro hbs;subst hbs;simp at hv'))
 have HB:=hdd hb1;clear h h1 hb1;go_enter Tryz.func43,Tryz.ntmps43
 go_wp2_with fail
 refine HL.out.mono ?_;rintro e w2⟨rfl,hf⟩;have HB2:Hid (Below w.heap.size w w2):=hdd (HB.out.trans (hf.below HB.out.size (fun i hi=>by omega)));go_wp2_with fail
 go_ret;exact⟨rfl,HB2.out⟩
theorem alY(v:Value)(w:World):(Extern.ReflectliteType.typeOf #[.iface 81 v]).run Tryz.prog w=.ok (.iface 169 (.agg #[.pointer (some ⟨7,81,none⟩)])) w:=by kernel_rfl
def cmpX (args : Array Value) : Sem Value := Extern.ReflectliteType.method (fun t => do Extern.Rtype.noPackHeld "Comparable" t; pure (.bool (← typeInfo t).comparable)) args
theorem ak3(w:World):(cmpX #[.agg #[.pointer (some ⟨7,81,none⟩)]]).run Tryz.prog w=.ok (.bool true) w:=by kernel_rfl
theorem akR (v : Value) (w : World) : (Go.method 335 169 v "Comparable").run Tryz.prog w = .ok (274, v) w := by kernel_rfl
theorem amA(a b:Int)(w:World):(binOp .eql 33 (.iface 81 (.int .i64 a)) (.iface 81 (.int .i64 b))).run Tryz.prog w=.ok (.bool (a==b)) w:=
 Lib.run_eql_iface_int w a b Tryz.underlying33 (by kernel_rfl) Tryz.underlying81
theorem alZ(h:ErK S w n v k):
 Calls Tryz.prog 78 #[v,.iface 81 (.int .i64 j),.bool true] w (fun e w'=>e=.returned (.bool (k==j))/\w'=w):=by
 have nK:=akS;have nKs:=akQ;have iK:=alX;have iI:=amK;have iA:=amL;have uI:=akU;have uA:=akV;have mI:=akO;have mA:=akP;have eq:=amA;have eI:∀(p x:Value) (w:World),(binOp .eql 33 (.iface 132 p) (.iface 81 x)).run Tryz.prog w=.ok (.bool false) w:=fun p x w=>run_eql_iface_types (P:=Tryz.prog) _ _ p x Tryz.underlying33 (by decide) w;have eA:∀(p x:Value) (w:World),(binOp .eql 33 (.iface 235 p) (.iface 81 x)).run Tryz.prog w=.ok (.bool false) w:=fun p x w=>run_eql_iface_types (P:=Tryz.prog) _ _ p x Tryz.underlying33 (by decide) w;have HH:=hdd h;clear h;go_enter Tryz.func78,Tryz.ntmps78
 go_wp2_with fail
 go_loopw [0] (fun v' wr=>∃n':Nat,n'<=n/\Hid (ErK S w n' v' k)/\wr=w) (fun v' _=>edep w v')
 case atStart=>exact⟨n,Nat.le_refl _,HH,rfl⟩
 case round=>
  obtain⟨n',hn',HE,rfl⟩:=hrel;have hE:=HE.out;clear HE
  cases hE with
  |kind h1 h2=>
   go_wp2_with fail
   all_goals go_ret
   all_goals exact⟨by simp_all,rfl⟩
  |@inn n1 b v1 k h0 h1 h2=>
   have HE2:=hdd h2;have HED:Hid (edep wr (.iface 132 (.pointer (some ⟨b,0,none⟩)))=n1+1/\edep wr v1=n1):=hdd ⟨(ErK.inn h0 h1 h2).edep,h2.edep⟩;have HU:=hdd (ak8 h1);have hnn:∃t x,v1=.iface t x:=by cases h2<;>exact⟨_,_,rfl⟩
   obtain⟨vt,vx,hvv⟩:=hnn;subst hvv;clear h0 h1 h2;go_wp2_with fail
   refine HU.out.mono ?_;rintro e w2⟨rfl,rfl⟩;go_wp2_with fail
   go_roundw
   case rel=>exact⟨n1,by omega,HE2,trivial⟩
   case measure=>have:=HED.out;simp[this]
  |@att n1 b v1 k h0 h1 h2=>
   have HE2:=hdd h2;have HED:Hid (edep wr (.iface 235 (.pointer (some ⟨b,0,none⟩)))=n1+1/\edep wr v1=n1):=hdd ⟨(ErK.att h0 h1 h2).edep,h2.edep⟩;have HU:=hdd (ak9 h1);have hnn:∃t x,v1=.iface t x:=by cases h2<;>exact⟨_,_,rfl⟩
   obtain⟨vt,vx,hvv⟩:=hnn;subst hvv;clear h0 h1 h2;go_wp2_with fail
   refine HU.out.mono ?_;rintro e w2⟨rfl,rfl⟩;go_wp2_with fail
   go_roundw
   case rel=>exact⟨n1,by omega,HE2,trivial⟩
   case measure=>have:=HED.out;simp[this]
theorem amM(h:ErK S w n v k):
 Calls Tryz.prog 44 #[v,.iface 81 (.int .i64 j)] w (fun e w'=>e=.returned (.bool (k==j))/\w'=w):=by
 have hnn:∃t x,v=.iface t x:=by cases h<;>exact⟨_,_,rfl⟩
 obtain⟨vt,vx,rfl⟩:=hnn;have h8:=@run_callFunc_extern Tryz.prog 77 _ Extern.ReflectliteType.typeOf Tryz.func77 (by kernel_rfl) (by kernel_rfl) (by kernel_rfl) (by kernel_rfl);have h32:=@run_callFunc_extern Tryz.prog 274 _ cmpX Tryz.func274 (by kernel_rfl) (by kernel_rfl) (by kernel_rfl) (by kernel_rfl);have tT:=alY;have cT:=ak3;have mR:=akR;have HH:=hdd (alZ (j:=j) h);clear h;go_enter Tryz.func44,Tryz.ntmps44
 go_wp2_with fail
 refine HH.out.mono ?_;rintro e w2⟨rfl,rfl⟩;go_wp2_with fail
 go_ret;exact⟨rfl,rfl⟩
theorem alR(p:Addr)(w:World):
 CallsD Tryz.prog 42 #[.pointer (some p)] .returning w fun e u' w'=>e=.returned (.tuple #[])/\u'=.returning/\w'=w:=by
 refine callsD_of_wpS Tryz.func42 rfl fun c₀ cs hu=> ?_;apply wpS_seq;apply wpS_region;simp[wpOpsS,go_sem,recoverD,hu,Tryz.ntmps42,Exit.thenS];refine wpS_cond (t:=false) (by simp[Act.eval,Array.replicate]) ?_;simp only[Bool.false_eq_true,if_false];refine wpS_of_wp (wp_skip ?_)
 cases c₀
 simp_all[bodyPostS,results,Tryz.results42]
theorem al0(h:ErK S w n v k)(hn:n<16777216):
 Calls Tryz.prog 12 #[v] w (fun e w'=>e=.returned (.int .i64 k)/\Below w.heap.size w w'):=by
 have hmf:∀(fn:Fn) (first cap:Array Value) (w:World),(Instr.makeFunc fn first cap).run Tryz.prog w=.ok (.func fn first cap) w:=fun _ _ _ _=>rfl;have hnn:∃t x,v=.iface t x:=by cases h<;>exact⟨_,_,rfl⟩
 obtain⟨vt,vx,rfl⟩:=hnn;have hbd:=h.bound;obtain⟨w1,hw1,hb1,hs1,b1⟩:=pro1 w (.cells #[.int .i64 0] 3);have HE1:=hdd (alA (h.low hb1) hn);have HB1:=hdd hb1;have HIS:Hid (∀w' j,Below w.heap.size w w'->Calls Tryz.prog 44 #[.iface vt vx,.iface 81 (.int .i64 j)] w' (fun e w''=>e=.returned (.bool (k==j))/\w''=w')):=hdd fun w' j h'=>amM (h.low h');clear h
 go_enter_defers Tryz.func12,Tryz.ntmps12
 have c0:w1.cell? ⟨w.heap.size,0,none⟩=some (.int .i64 0):=by simp[<-hw1]
 have z0:w1.frozen? ⟨w.heap.size,0,none⟩=false:=by simp[<-hw1]
 go_wp2_with fail
 refine HE1.out.mono ?_;rintro e w2⟨rfl,hb2⟩;have c2:w2.cell? ⟨w.heap.size,0,none⟩=some (.int .i64 0):=cell_below c0 hb2 (by omega);have z2:w2.frozen? ⟨w.heap.size,0,none⟩=false:=(hb2.frozen (by simp[hs1])).trans z0;have HB2:=hdd (HB1.out.trans (hb2.mono HB1.out.size));clear hb2 c0 z0;go_wp2_with fail
 go_loopw [3] (fun i wr=>∃j:Int,1<=j/\j<=k/\i=.int .i64 j/\wr=w2) (fun i _=>(8-intOf i).toNat)
 case atStart=>exact⟨1,by omega,hbd.1,rfl,rfl⟩
 case round=>
  obtain⟨j,hj1,hjk,rfl,rfl⟩:=hrel;have h7:j<=7:=by omega
  go_wp2_with fail
  refine(HIS.out _ j HB2.out).mono ?_;rintro e w3⟨rfl,rfl⟩;by_cases hkj:k=j
  . subst hkj
    have hbk:(k==k)=true:=by simp
    rw[hbk];go_wp2_with fail
    refine leaves_cons (f:=42) (args:=#[.pointer (some ⟨w.heap.size,0,none⟩)]) (by simp) (by simp[go_sem]) ?_;refine(alR ⟨w.heap.size,0,none⟩ _).mono ?_;rintro e u' w''⟨rfl,rfl,rfl⟩;have HF:=HB2.out.setCell (p:=⟨w.heap.size,0,none⟩) nlr (.int .i64 k);simp[Leaves,settle,results,Tryz.results12,go_sem,c2];exact HF
  . have hbk:(k==j)=false:=by simp[hkj]
    rw[hbk];go_wp2_with fail
    go_roundw
    case rel=>exact⟨j+1,by omega,by omega,by go_num,trivial⟩
    case measure=>simp[intOf];omega
theorem akX:Calls Tryz.prog 41 #[] w (fun e w'=>e=.returned (.iface 81 (.int .i64 1))/\w'=w):=by
 go_enter Tryz.func41,Tryz.ntmps41
 go_wp2;go_ret;exact⟨rfl,rfl⟩
end
end Go.Proofs.YtjdgaogkioabeabGreatDoor
