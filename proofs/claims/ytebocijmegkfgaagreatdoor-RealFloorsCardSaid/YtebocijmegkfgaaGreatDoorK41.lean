/- A part of the proof: contracts of functions and plain laws (EX0, LawK, LawT, FlrS, HelC, FlrG, FlrH, FlrI). -/
import Derived.Test.YtebocijmegkfgaaGreatDoorK10
import Derived.Test.YtebocijmegkfgaaGreatDoorK26
import Derived.Test.YtebocijmegkfgaaGreatDoorK29
import Derived.Test.YtebocijmegkfgaaGreatDoorK30
import Derived.Test.YtebocijmegkfgaaGreatDoorRows
import Derived.Test.YtebocijmegkfgaaGreatDoorK25
import Derived.ProofKit
import Derived.OpenShut
import Derived.LaidMore
import Derived.Lay
import Derived.Lib.LaidTab
import Derived.Stop.Joined
import Derived.Test.YtebocijmegkfgaaGreatDoorK20
import Derived.Test.YtebocijmegkfgaaGreatDoorK07
import Derived.Test.YtebocijmegkfgaaGreatDoorK14
import Derived.Test.YtebocijmegkfgaaGreatDoorK28
set_option linter.unusedVariables false
set_option linter.unusedSimpArgs false
set_option linter.unnecessarySimpa false
set_option maxHeartbeats 25600000
set_option maxRecDepth 100000
namespace Go.Proofs.YtebocijmegkfgaaGreatDoor
section
namespace Re
theorem neg_lt_neg{x y:Re}(h:x<y):-y< -x:=by
 rw[lt_def]at*;rw[neg_sub_neg];exact h
theorem rat_sub(p q:Rat):rat (p-q)=rat p-rat q:=by rw[sub_def,<-rat_neg,<-rat_add];congr 1;grind
end Re
end
section
open Go.RowKit Go.Maps
section
variable{P:Ex->Prop}{B N:Nat}{w w':World}{g:Nat}{ns ns':List Nd}
theorem St.more {M:Nat}(h:St P B N w g ns)(hM:N<=M):St P B M w g ns:=⟨h.dag,h.all,h.hi,h.tab,h.tb,h.hB,Nat.le_trans h.room hM⟩
end
end
section
open Go.RowKit Go.Maps
open Re (rat ofI ofN)
section
variable{L:List Ex}{a b:Ex}{x y z:Re}{k m n:Nat}
end
theorem al5{b:Nat}{x:Int}(hv:fv b=x*(U74:Int)):leafD b=mkDy x 0:=by
 obtain⟨u,hu,hU⟩:=iK;unfold leafD;rw[hv,hU];have:=aeU x 0 u;rw[show(0:Int)-u=-1074 by omega]at this;exact this
theorem anT(x:Int):rv (mkDy x 0)=(x:Rat):=by rw[jW,kK,Rat.mul_one]
section
variable{L:List Ex}{b:Nat}{x:Int}
end
end
section
open Go.RowKit Go.Maps
section
variable{P:Ex->Prop}{B N M:Nat}{w W W':World}{g:Nat}{ns ns' ns'':List Nd}{l:List (Nat×Obj)}
theorem Stg.more (h:Stg P B N w g ns W ns' l)(hM:N<=M):Stg P B M w g ns W ns' l:=⟨⟨h.grew.1.more hM,h.grew.2⟩,h.kept,h.hw,h.nodup⟩
end
section
variable{P:Ex->Prop}{B N M:Nat}{w W W':World}{g i j b v:Nat}{ns ns' ns'':List Nd}{l:List (Nat×Obj)}{x y:Ex}
end
section
variable{α:Type}{a:α}{l:List α}
end
section
variable{s:Bs}{w0 w1 W W':World}{g N M:Nat}{K:List (Ex×Nat)}{l l':List (Nat×Obj)}
theorem Run.more (h:Run s g N K l W)(hM:N<=M):Run s g M K l W:=by obtain⟨ns',hs,hK⟩:=h;exact⟨ns',hs.more hM,hK⟩
end
section
variable{s:Bs}{W W':World}{g N M:Nat}{K:List (Ex×Nat)}{l:List (Nat×Obj)}{x y:Ex}{ns:List Nd}
end
section
variable{s:Bs}{W:World}{g N i j k m b v:Nat}{K:List (Ex×Nat)}{l:List (Nat×Obj)}{x y:Ex}{q:Int}
variable{px py qx qy rx ry:Ex}{i' j' k':Nat}
end
end
section
open Go.RowKit
variable{k:Nat}{v:Value}
section
variable{P:Program}{w:World}{b off:Nat}{T:TypeId}{cs:List Value}
theorem alQ(h:w.heap[b]? =some (.cells cs.toArray T (0,0)))(hv:cs[k]? =some v):w.cell? ⟨b,k,none⟩=some v:=by
 simp[World.cell?,h,hv]
theorem ao6(h:w.heap[b]? =some (.cells cs.toArray T (0,0))):(w.setCell ⟨b,k,none⟩ v).heap[b]? =some (.cells (cs.set k v).toArray T (0,0)):=by
 have hg:b<w.heap.size:=(Array.getElem?_eq_some_iff.1 h).1;have h':w.heap[b]=.cells cs.toArray T (0,0):=(Array.getElem?_eq_some_iff.1 h).2;simp[World.setCell,hg,Array.getElem_modify,h']
end
end
section
open Go.ChangeShapes Go.WideShapes Go.ChangeAt Go.RowKit
open Go.MakeChecks renaming laidMetH_plain->apU
variable{W:World}
def ao4 : List (String × DataW Unit) := [("math/bits.deBruijn64tab", Rows.laid_math_bits_deBruijn64tab)]
theorem aoM:ownKnob Tryz.prog.godebug=none:=by kernel_rfl
theorem al6 : Tryz.prog.globalNamed "math/bits.deBruijn64tab" = some 0 := by kernel_rfl
theorem anU:(Tryz.prog.globals[0]?).map (·.type)=some 275:=by kernel_rfl
theorem aoN:Tryz.prog.underlying 275=some (.array 64 5):=by kernel_rfl
theorem ao7:Tryz.prog.underlying 5=some (.int .u8):=by kernel_rfl
theorem anV:Tryz.prog.cellsOf 5=1:=by kernel_rfl
theorem anD:Tryz.prog.cellsOf 275=64:=by kernel_rfl
def tabZ:List Int:=Lib.deBruijn64tab.map fun(x:Nat)=>(x:Int)
theorem aoO : ao4 = [("math/bits.deBruijn64tab", Lib.tabData .u8 tabZ)] := by kernel_rfl
theorem amI(h:laidMetH Tryz.prog ao4 W):Tab W:=by
 rw[apU _ _ _ (by kernel_rfl),aoO]at h;have hT:=Lib.tabIs_of_head al6 anU aoN ao7 anV anD h;intro j hj;have hl:tabZ.length=Lib.deBruijn64tab.length:=by simp[tabZ]
 have:=hT.cell al6 j (by omega);rw[this];have e:tabZ.getD j 0=((Lib.deBruijn64tab.getD j 0:Nat):Int):=by
  simp only[tabZ,List.getD_eq_getElem?_getD,List.getElem?_map];rw[List.getElem?_eq_getElem hj];rfl
 rw[e]
theorem ao8(h:Tab W):0<W.heap.size:=World.block_lt_of_cell? W _ (h 0 (by decide))
section
variable{H:Type}{enc:TypeId×Value->H}
theorem anE{f:Func}{s:ChangeSpec}{W':World}{args:Array Value}{ds:List (DataW H)}{before:List MemPlace}
 (hW:DataW.Whole enc Tryz.prog f.params.toList s.vars false W args.toList ds [] before) (hv:s.vars=[]) (hr:f.resultTypes=#[4]) (hs:s.fn H (ds++[])={results:=[.lit (.bool true)],args:=ds})
 (hargs:∀sp:Nat->Bool,(∀p∈before,sp p.block=true)->DataW.TrodAll enc Tryz.prog W' 0 sp true f.params.toList args.toList ds before) (hb:Below W.heap.size W W'):
 s.post enc Tryz.prog f false true false false W args (.bool true) W':=by
 have hlt:∀p∈before,p.block<W.heap.size:=fun p hp=>hW.lt p hp;have hold:∀p∈before,(fun b=>decide (b<W.heap.size)) p.block=true:=fun p hp=>by simpa using hlt p hp
 have hres:∀(b:Nat) (sp:Nat->Bool) (hd:Bool),DataW.TrodAll enc Tryz.prog W' b sp hd f.resultTypes.toList ((Value.bool true).resultList f.resultTypes.size) [.lit (.bool true)] []:=by
  intro b sp hd;rw[hr];exact trodAll_cons_mk (shut_bool Tryz.underlying4 _) trodAll_mk0
 have hvars:∀sp:Nat->Bool,DataW.TrodVars enc Tryz.prog W' sp s.vars [] []:=fun sp=>by rw[hv];rfl
 refine⟨ds,[],before,[],before,[],hW,?_,?_,?_,?_,fun h=>by cases h⟩
 . rw[hs];exact hres _ _ _
 . rw[hs];exact hargs _ hold
 . rw[hs];exact hvars _
 . refine World.keptBut_mono (fun p hp=> ?_) (hb.frame (· ∈before))
   exact⟨hp,by simpa using hp⟩
end
def alT : List (String × DataW Unit) := [("math/bits.deBruijn32tab", Rows.laid_math_bits_deBruijn32tab), ("math/bits.deBruijn64tab", Rows.laid_math_bits_deBruijn64tab), ("internal/strconv.uint64pow10", Rows.laid_internal_strconv_uint64pow10)]
theorem amD{P:Program}{x:String×DataW Unit}{r:List (String×DataW Unit)}(h:laidMet P (x::r) W):laidMet P r W:=by
 obtain⟨ps,⟨g,t,cs,fuel,p,q,h1,h2,h3,h4,h5,rfl⟩,hn,hr⟩:=h;exact⟨q,h5,(List.nodup_append.1 hn).2.1,fun b off hm=>hr b off (List.mem_append_right _ hm)⟩
theorem amJ{P:Program}{x:String×DataW Unit}{r:List (String×DataW Unit)}(h:laidMet P (x::r) W):laidMet P [x] W:=by
 obtain⟨ps,⟨g,t,cs,fuel,p,q,h1,h2,h3,h4,h5,rfl⟩,hn,hr⟩:=h;refine⟨MemPlace.row ⟨g,0,none⟩ cs.size++p++[],⟨g,t,cs,fuel,p,[],h1,h2,h3,h4,rfl,rfl⟩,?_,fun b off hm=>hr b off ?_⟩
 . rw[List.append_nil];exact(List.nodup_append.1 hn).1
 . rw[List.append_nil]at hm;exact List.mem_append_left _ hm
theorem amE(h:laidMetH Tryz.prog alT W):Tab W:=by
 rw[apU _ _ _ (by kernel_rfl)]at h;refine amI ?_;rw[apU _ _ _ (by kernel_rfl)];exact amJ (amD h)
end
section
open Go.RowKit
open Go.Region renaming ready->apZ,wanted->ap0,noSelect->ap5,free->ap9
open Int renaming natCast_mul->apX,mul_assoc->ap7,zero_mul->ap8
open List renaming length_cons->apV,not_mem_nil->ap4,mem_cons->ap6
open Nat renaming le_of_ble_eq_true->apW,two_pow_add_eq_or_of_lt->apY,ble_eq_true_of_le->ap1,add_sub_add_right->ap2,pow_add->ap3
variable{a:Act}{d:Dy}{M T b c fuel k q x:Nat}{p:Nat->Prop}{v:Value}{w:World}
theorem ao9(z:Int)(n:Nat):sg (decide (z<0)) (z.natAbs*2^n)=z*((2^n:Nat):Int):=by
 generalize 2^n=P;rcases Int.lt_or_le z 0 with h|h
 . rw[decide_eq_true h]
   show-((z.natAbs*P:Nat):Int)=_;have e:(z.natAbs:Int)=-z:=by omega
   rw[apX,e,Int.neg_mul,Int.neg_neg]
 . rw[decide_eq_false (by omega)]
   show((z.natAbs*P:Nat):Int)=_;rw[apX,Int.natAbs_of_nonneg h]
theorem anW{z:Int}{n:Nat}(hx:IntP p w v z)(hn:n<=16777216)(hL:bits z.natAbs<=1000000000):
 Calls Tryz.prog 105 #[v,.int .i64 n] w (RetZ w.heap.size w (z*((2^n:Nat):Int))):=by
 obtain⟨R,hR⟩:∃R,z*((2^n:Nat):Int)=R:=⟨_,rfl⟩;rw[hR];obtain⟨vm,xs,rfl,h1,h2,h3⟩:=hx;have hlen:xs.length<1073741824:=by have:=aZ xs h1.ok h2;rw[h3]at this;omega
 obtain⟨B0,hB0⟩:∃b,decide (z<0)=b:=⟨_,rfl⟩;have HVE:Hid (sg B0 (val xs*2^n)=R):=hdd (by rw[h3,<-hB0,<-hR];exact ao9 z n);rw[hB0];obtain⟨w2,hw2,hb2,hs2,b1,b2⟩:=pro2 w (.cells #[.bool B0,vm] 80) (.cells #[Value.bool false,.slice none 0 0] 80);have HB:=hdd hb2;have B2:=hdd b2;have HS:=hdd hs2;have hbd:Below w2.heap.size w2 w2.drew:=(Below.refl _ _).drew;have HC:=hdd (abD ((h1.below hb2).below hbd) hn hlen);obtain⟨c0,c1,-,-⟩:=aB b1;have g1:¬((n:Int)<0):=by omega
 have g2:¬((16777216:Int)<n):=by omega
 have HBD:=hdd hbd;clear hb2 b1 b2 hs2 h1 h2 h3 hL hR hB0 hbd hlen;go_enter Tryz.func105,Tryz.ntmps105
 go_wp2_with fail
 replace c0:=cbl c0 HBD.out;replace c1:=cbl c1 HBD.out;have n1:w.heap.size+1≠w.heap.size:=by omega
 go_region_held3 (fun w'=>w'.cell? ⟨w.heap.size,0,none⟩=some (.bool B0)/\w'.cell? ⟨w.heap.size,1,none⟩=some vm) (go_keep)
  (first
  |(go_at_call 160
    refine HC.out.mono ?_;rintro r w5⟨hb,v5,zs,hz⟩;obtain⟨rfl,hz,tz,hvz⟩:=hz;have HB5:Hid (Below w2.heap.size w2 w5):=hdd (HBD.out.trans hb);have c0:=cbl c0 hb;have c1:=cbl c1 hb;have HM:=hdd (bR (b:=B0) hz);have HV:=hdd hvz;clear hb hz tz hvz)
  |(go_at_call 75
    refine HM.out.mono ?_;rintro r w6⟨hb,v6,hz⟩;obtain⟨rfl,hz⟩:=hz;have c0:=cbl c0 hb;have c1:=cbl c1 hb;have HSZ:=hdd HB5.out.size;have HB6:=hdd (HB5.out.trans (hb.mono HB5.out.size));have B6:=hdd (hbl B2.out HB6.out);obtain⟨b',A',n',c',rfl⟩:=hz.shape;have HZ:=hdd hz;obtain⟨e0,e1,e2,e3⟩:=aB B6.out;clear hb hz))
 have hz:IntP (fun b=>w5.heap.size<=b) w6 (.agg #[.bool b',.slice A' n' c']) R:=by
  have h:=HZ.out;rw[HV.out,HVE.out]at h;exact h
 obtain⟨HFF,hFF⟩:=dB (HB.out.trans (HB6.out.mono HB.out.size)) (by omega) B6.out hz (g:=w.heap.size+1) (fun b hb=>by have:=HS.out;have:=HSZ.out;omega);replace hFF:=hdd hFF;clear hz;go_wp2;obtain⟨f0,f1,-,-⟩:=aB hFF.out;refine bodyPost_ret (v:=.agg #[_,_]) (by simp[results,Tryz.results105,go_sem,f0,f1];first|exact⟨rfl,rfl⟩|rfl) rfl ?_;exact HFF.out
section
variable{P:Program}{ops:Array Oper}{Q:Exit->Act->World->Prop}{S:World->Prop}{z:Nat}
def amF(ops:Array Oper)(z:Nat):Array Bool->List (Nat×Value)->Bool
 |_,[]=>true
 |ls,(i,_)::l=>(match ops[i]? with|some o=>o.guard.isNone|none=>false)&&Region.waitsFor .any ops z i&&ap9 .any ops ls i&&(apZ .any ops ls).contains i&&amF ops z (ls.setIfInBounds i true) l
def akW:Array Bool->List (Nat×Value)->Array Bool
 |ls,[]=>ls
 |ls,(i,_)::l=>akW (ls.setIfInBounds i true) l
def akX(ops:Array Oper):Act->List (Nat×Value)->Act
 |a,[]=>a
 |a,(i,v)::l=>akX ops (a.put ((ops[i]?).bind (·.dst)) v) l
def akY(P:Program)(ops:Array Oper)(w:World):Act->List (Nat×Value)->Prop
 |_,[]=>True
 |a,(i,v)::l=>(match ops[i]? with|some o=>(execOp a.eval o).run P w=.ok (.value v) w|none=>False)/\akY P ops w (a.put ((ops[i]?).bind (·.dst)) v) l
theorem akM(l:List (Nat×Value)):∀{F:Nat} {listed:Array Bool} {a:Act} {w:World},ap5 ops=true->Nat.ble l.length F=true->amF ops z listed l=true->(∀w,S w->akY P ops w a l)->S w->
 anyG P .any ops (NoPanic Q) S z (F-l.length) (akW listed l) (akX ops a l) w->anyG P .any ops (NoPanic Q) S z F listed a w:=by
 induction l with
 |nil=>intro F listed a w _ _ _ _ _ h;exact h
 |cons p l ih=>
  intro F listed a w hs hF hk hy hS h;obtain⟨i,v⟩:=p;obtain⟨f,rfl⟩:∃f,F=f+1:=⟨F-1,by have:=apW hF;simp only[apV]at this;omega⟩;simp only[amF,Bool.and_eq_true]at hk;obtain⟨⟨⟨⟨k1,k2⟩,k3⟩,k4⟩,k5⟩:=hk;simp only[akY]at hy;simp only[akW,akX,apV]at h
  cases ho:ops[i]? with
  |none=>rw[ho]at k1;cases k1
  |some o=>
   rw[ho]at k1 hy h;refine aY i v ho k2 hs k3 k4 (fun _ _ _ h=>h) ?_ (fun w hw=>(hy w hw).1) hS ?_
   . have k1':o.guard.isNone=true:=k1
     unfold ap0
     cases hg:o.guard with
     |none=>rfl
     |some x=>rw[hg]at k1';cases k1'
   . refine ih hs (ap1 (by have:=apW hF;simp only[apV]at this;omega)) k5 (fun w hw=>(hy w hw).2) hS ?_
     rw[ap2]at h;exact h
def amG(ops:Array Oper)(z:Nat):Array Bool->List (Nat×Option Value)->Bool
 |_,[]=>true
 |ls,(i,_)::l=>(ops[i]?).isSome&&Region.waitsFor .any ops z i&&ap9 .any ops ls i&&(apZ .any ops ls).contains i&&amG ops z (ls.setIfInBounds i true) l
def alU:Array Bool->List (Nat×Option Value)->Array Bool
 |ls,[]=>ls
 |ls,(i,_)::l=>alU (ls.setIfInBounds i true) l
def alV(ops:Array Oper):Act->List (Nat×Option Value)->Act
 |a,[]=>a
 |a,(i,v)::l=>alV ops (a.put ((ops[i]?).bind (·.dst)) (v.getD undef)) l
def alW(P:Program)(ops:Array Oper)(w:World):Act->List (Nat×Option Value)->Prop
 |_,[]=>True
 |a,(i,v)::l=>(match ops[i]?,v with
   |some o,some v=>ap0 o (yielded ops a.tmps)=true/\(execOp a.eval o).run P w=.ok (.value v) w
   |some o,none=>ap0 o (yielded ops a.tmps)=false
   |none,_=>False)/\alW P ops w (a.put ((ops[i]?).bind (·.dst)) (v.getD undef)) l
theorem alG(l:List (Nat×Option Value)):∀{F:Nat} {listed:Array Bool} {a:Act} {w:World},ap5 ops=true->Nat.ble l.length F=true->amG ops z listed l=true->(∀w,S w->alW P ops w a l)->S w->
 anyG P .any ops (NoPanic Q) S z (F-l.length) (alU listed l) (alV ops a l) w->anyG P .any ops (NoPanic Q) S z F listed a w:=by
 induction l with
 |nil=>intro F listed a w _ _ _ _ _ h;exact h
 |cons p l ih=>
  intro F listed a w hs hF hk hy hS h;obtain⟨i,v⟩:=p;obtain⟨f,rfl⟩:∃f,F=f+1:=⟨F-1,by have:=apW hF;simp only[apV]at this;omega⟩;simp only[amG,Bool.and_eq_true]at hk;obtain⟨⟨⟨⟨k1,k2⟩,k3⟩,k4⟩,k5⟩:=hk;simp only[alW]at hy;simp only[alU,alV,apV]at h
  cases ho:ops[i]? with
  |none=>rw[ho]at k1;cases k1
  |some o=>
   rw[ho]at hy h;refine aaF ho k2 (Region.noSelect_spec hs) (v:=v.getD undef) (fun _ _ _ h=>h) f listed a w (Region.free_spec ho k3) (by simpa using k4) ?_ hS ?_
   . cases v with
     |none=>exact Or.inr ⟨(hy w hS).1,rfl⟩
     |some v=>exact Or.inl ⟨(hy w hS).1.1,fun w hw=>(hy w hw).1.2⟩
   . refine ih hs (ap1 (by have:=apW hF;simp only[apV]at this;omega)) k5 (fun w hw=>(hy w hw).2) hS ?_
     rw[ap2]at h;exact h
def GStep(P:Program)(md:Region.Mode)(ops:Array Oper)(Q:Exit->Act->World->Prop)(S:World->Prop)(z fuel:Nat)(listed:Array Bool)(a:Act)(w:World)(i:Nat):Prop:=
 ∃o,ops[i]? =some o/\∀K':Act->World->Prop,Shut (∀a w,(i≠z->S w)->anyG P md ops Q S z fuel (listed.setIfInBounds i true) a w->K' a w)->if ap0 o (yielded ops a.tmps)=true then Oper.wp P o a w K' Q else K' (a.put o.dst undef) w
theorem akO{md:Region.Mode}{Q:Exit->Act->World->Prop}(i j:Nat){listed:Array Bool}(hr:apZ md ops listed=[i,j])(h1:GStep P md ops Q S z fuel listed a w i)(h2:GStep P md ops Q S z fuel listed a w j):
 anyG P md ops Q S z (fuel+1) listed a w:=
 ⟨fun h0=>(by rw[hr]at h0;cases h0),fun k hk=>by
   rw[hr]at hk;simp only[ap6,ap4,or_false]at hk;rcases hk with rfl|rfl
   . obtain⟨o,ho,h⟩:=h1
     exact wpOp_step ho (fun K' hK=>h K' (fun a w h1 h2=>hK a w ⟨h1,h2⟩))
   . obtain⟨o,ho,h⟩:=h2
     exact wpOp_step ho (fun K' hK=>h K' (fun a w h1 h2=>hK a w ⟨h1,h2⟩))⟩
theorem alX{md:Region.Mode}{Q:Exit->Act->World->Prop}(i j k:Nat){listed:Array Bool}(hr:apZ md ops listed=[i,j,k])(h1:GStep P md ops Q S z fuel listed a w i)(h2:GStep P md ops Q S z fuel listed a w j)(h3:GStep P md ops Q S z fuel listed a w k):
 anyG P md ops Q S z (fuel+1) listed a w:=
 ⟨fun h0=>(by rw[hr]at h0;cases h0),fun m hm=>by
   rw[hr]at hm;simp only[ap6,ap4,or_false]at hm;rcases hm with rfl|rfl|rfl
   . obtain⟨o,ho,h⟩:=h1
     exact wpOp_step ho (fun K' hK=>h K' (fun a w h1 h2=>hK a w ⟨h1,h2⟩))
   . obtain⟨o,ho,h⟩:=h2
     exact wpOp_step ho (fun K' hK=>h K' (fun a w h1 h2=>hK a w ⟨h1,h2⟩))
   . obtain⟨o,ho,h⟩:=h3
     exact wpOp_step ho (fun K' hK=>h K' (fun a w h1 h2=>hK a w ⟨h1,h2⟩))⟩
theorem ak2{md:Region.Mode}{Q:Exit->Act->World->Prop}(i:Nat){listed:Array Bool}(hr:apZ md ops listed=[i])(h1:GStep P md ops Q S z fuel listed a w i):
 anyG P md ops Q S z (fuel+1) listed a w:=by
 obtain⟨o,ho,h⟩:=h1;exact fH i hr ho h
end
def Two(g h:Nat)(O1 O2:Obj)(w:World):Prop:=w.heap[g]? =some O1/\w.heap[h]? =some O2
theorem Two.below {g h:Nat}{O1 O2:Obj}{w':World}(t:Two g h O1 O2 w)(hb:Below w.heap.size w w'):Two g h O1 O2 w':=⟨hbl t.1 hb,hbl t.2 hb⟩
theorem apA(h1:4503599627370496<=M)(h2:M<9007199254740992)(hq:1<=q/\q<=2046)(hc:c=0\/c=9223372036854775808)(hb:b=q*4503599627370496+(M-4503599627370496)+c):b/4503599627370496%2048=q:=by omega
theorem apB(h1:4503599627370496<=M)(h2:M<9007199254740992)(hq:1<=q/\q<=2046)(hc:c=0\/c=9223372036854775808)(hb:b=q*4503599627370496+(M-4503599627370496)+c):b%4503599627370496=M-4503599627370496:=by omega
theorem apC(h1:4503599627370496<=M)(h2:M<9007199254740992)(hq:1<=q/\q<=2046)(hc:c=0\/c=9223372036854775808)(hb:b=q*4503599627370496+(M-4503599627370496)+c):b<18446744073709551616:=by omega
theorem apD(h1:4503599627370496<=M)(h2:M<9007199254740992)(hq:1<=q/\q<=2046)(hc:c=0\/c=9223372036854775808)(hb:b=q*4503599627370496+(M-4503599627370496)+c):fin b:=by
 show b%9223372036854775808<9218868437227405312;omega
theorem apE{neg:Bool}(h1:4503599627370496<=M)(h2:M<9007199254740992)(hq:1<=q/\q<=2046)(hb:b=q*4503599627370496+(M-4503599627370496)+(if neg then 9223372036854775808 else 0)):fneg b=neg:=by
 show(b/9223372036854775808%2==1)=neg
 cases neg
 . rw[if_neg (by decide)]at hb
   rw[show b/9223372036854775808%2=0 from by omega];rfl
 . rw[if_pos rfl]at hb
   rw[show b/9223372036854775808%2=1 from by omega];rfl
theorem amW{neg:Bool}(h1:4503599627370496<=M)(h2:M<9007199254740992)(hq:1<=q/\q<=2046)(hb:b=q*4503599627370496+(M-4503599627370496)+(if neg then 9223372036854775808 else 0)):
 b/2^52%2048=q/\b%2^52=M-4503599627370496/\fneg b=neg/\b<18446744073709551616/\fin b:=by
 have hc:(if neg then 9223372036854775808 else 0)=0\/(if neg then 9223372036854775808 else 0)=9223372036854775808:=by cases neg;exact Or.inl rfl;exact Or.inr rfl
 exact⟨apA h1 h2 hq hc hb,apB h1 h2 hq hc hb,apE h1 h2 hq hb,apC h1 h2 hq hc hb,apD h1 h2 hq hc hb⟩
theorem anX{neg:Bool}{m e:Nat}(hT:T=1074)(hm:m≠0)(hk:bits m=k)(hk2:k<=53)(he:k+e<=1024)(hM:m*2^(53-k)=M)(hb:b=(k+e+1022)*4503599627370496+M%4503599627370496+(if neg then 9223372036854775808 else 0)):
 (4503599627370496<=M/\M<9007199254740992)/\b<18446744073709551616/\fin b/\fv b=sg neg m*((2^(e+T):Nat):Int):=by
 have hk1:1<=k:=by rw[<-hk];unfold bits;rw[if_neg hm];omega
 have h1:4503599627370496<=M:=by
  have h:=dU m hm;rw[hk]at h;have:=Nat.mul_le_mul_right (2^(53-k)) h;rw[<-ap3,show k-1+(53-k)=52 from by omega,hM]at this;exact this
 have h2:M<9007199254740992:=by
  have h:=bI m;rw[hk]at h;have:=(Nat.mul_lt_mul_right (Nat.two_pow_pos (53-k))).2 h;rw[<-ap3,show k+(53-k)=53 from by omega,hM]at this;exact this
 have hM2:M%4503599627370496=M-4503599627370496:=by omega
 rw[hM2]at hb;obtain⟨hE,hF,hN,hb64,hfin⟩:=amW h1 h2 (by omega) hb;refine⟨⟨h1,h2⟩,hb64,hfin,?_⟩;obtain⟨-,q⟩:=afS hb64 hfin;rw[q (by omega),hE,hF,hN,show M-4503599627370496+2^52=M from by omega,<-hM,kF];clear hE hF hN hb64 hfin q hb hM2;rw[ap7,<-apX,<-ap3,show 53-k+(k+e+1022-1)=e+T from by omega]
theorem aoP(z:Int):sg (decide (z<0)) z.natAbs=z:=by
 unfold sg;by_cases h:z<0
 . rw[decide_eq_true h,if_pos rfl];omega
 . rw[decide_eq_false h,if_neg (by decide)];omega
theorem aoQ{y:Nat}(hx:x<18446744073709551616)(hy:y<2^k)(hk:x%2^k=0)(hy2:y<18446744073709551616):Go.bits BinOp.or IntKind.u64 (x:Int) (y:Int)=((x+y:Nat):Int):=by
 rw[u64_or_nat x y hx hy2]
 congr 1
 have h:=Nat.div_add_mod x (2^k);rw[hk,Nat.add_zero]at h;have:=apY (i:=k) (b:=y) hy (x/2^k);rw[h]at this;exact this.symm
theorem aoR(hx:x<9223372036854775808):Go.bits BinOp.or IntKind.u64 (x:Int) 9223372036854775808=((x+9223372036854775808:Nat):Int):=by
 have h:=u64_or_nat x 9223372036854775808 (by omega) (by omega);rw[show((9223372036854775808:Int))=((9223372036854775808:Nat):Int) from rfl,h]
 congr 1
 have:=apY (i:=63) (b:=x) (by omega) 1;rw[Nat.or_comm,show(9223372036854775808:Nat)=2^63*1 from rfl,<-this];omega
def alY(T:Nat)(w:World)(z:Int)(e:Ending)(w':World):Prop:=∃b:Nat,e=.returned (.float .f64 b)/\b<18446744073709551616/\fin b/\fv b=z*((2^T:Nat):Int)/\Below w.heap.size w w'
theorem aoS(hx:DyP p w v d)(h0:d.man≠0)(hb:bits d.man.natAbs<=53):∃b off n c m,v=.agg #[.bool (decide (d.man<0)),.slice (some ⟨b,off,none⟩) 1 c,.int .i64 d.exp]/\n=1/\w.cell? ⟨b,off,none⟩=some (.int .u64 (m:Nat))/\m=d.man.natAbs/\NatP p w (.slice (some ⟨b,off,none⟩) 1 c) [m]:=by
 obtain⟨b0,A,n,c,rfl,vm,xs,e,hn,ht,hv⟩:=hx;obtain⟨A',c',e2,l1,l2,l3,l4⟩:=id hn;subst e2;have e1:b0=decide (d.man<0)/\A=A'/\n=xs.length/\c=c':=by
  simp only[Value.agg.injEq,Array.mk.injEq,List.cons.injEq,Value.bool.injEq,Value.slice.injEq]at e;exact⟨e.1,e.2.1.1,e.2.1.2.1,e.2.1.2.2⟩
 obtain⟨rfl,rfl,rfl,rfl⟩:=e1;have hne:xs≠[]:=by rintro rfl;simp[val]at hv;omega
 have hl:xs.length=1:=by
  have h1:=jC xs hn.ok ht hne;rw[hv]at h1;have:=List.length_pos_iff.2 hne;omega
 obtain⟨m,rfl⟩:=List.length_eq_one_iff.1 hl;obtain⟨b,off,rfl,-,-,hc⟩:=l4 (by simp);refine⟨b,off,1,c,m,rfl,rfl,?_,by simpa[val]using hv,hn⟩;have:=hc 0 (by simp);simpa[lim]using this
theorem anF(hx:DyP p w v d)(h0:d.man≠0)(hb:bits d.man.natAbs<=53)(he:0<=d.exp/\d.exp<=900)(hT:T=1074):
 Calls Tryz.prog 171 #[v] w (alY T w (d.man*((2^d.exp.toNat:Nat):Int))):=by
 obtain⟨b,off,n,c,m,rfl,-,hc,hm,hN⟩:=aoS hx h0 hb;obtain⟨e,he'⟩:∃e:Nat,d.exp=(e:Int):=⟨d.exp.toNat,by omega⟩;obtain⟨w1,hw1,hb1,hs1,b1⟩:=pro1 w (.cells #[Value.bool (decide (d.man<0)),.slice (some ⟨b,off,none⟩) 1 c,.int .i64 d.exp] 121);obtain⟨k,hk⟩:∃k,bits m=k:=⟨_,rfl⟩;have hk2:k<=53:=by rw[<-hk,hm];exact hb
 have hm0:m≠0:=by omega
 obtain⟨M,hM⟩:∃M,m*2^(53-k)=M:=⟨_,rfl⟩;have HFO:=hdd (fun(neg:Bool) (bb:Nat) hbb=>anX (neg:=neg) (e:=e) hT hm0 hk hk2 (by omega) hM (b:=bb) hbb);have hM1:M<9007199254740992:=(HFO.out false _ rfl).1.2;have hTP:topD d=(k:Int)+(e:Int):=by unfold topD;rw[if_neg h0,<-hm,hk,he']
 have HTP:=hdd (nK (w:=w1.drew) ((hx.below hb1).below (Below.refl _ _).drew) (by omega));rw[hTP]at HTP;obtain⟨c0,c1,c2,-,-,-⟩:=cells3 b1;have hbd:Below w1.heap.size w1 w1.drew:=(Below.refl _ _).drew;replace c0:=cbl c0 hbd;replace c1:=cbl c1 hbd;replace c2:=cbl c2 hbd;have hcm:=cell_below (cbl hc hb1) hbd nlr;have HSG:Hid (d.man*((2^d.exp.toNat:Nat):Int)*((2^T:Nat):Int)=sg (decide (d.man<0)) m*((2^(e+T):Nat):Int)):=hdd (by
  rw[he',Int.toNat_natCast,hm,aoP,ap3,apX,ap7])
 have HBT:=hdd (hN.below hb1);have HB:=hdd hb1;obtain⟨B0,hB0⟩:∃b,decide (d.man<0)=b:=⟨_,rfl⟩;rw[hB0]at c0 hw1 HSG HTP|-;rw[he']at c2 hw1 HTP HSG|-;generalize hZ:(d.man*((2^(e:Int).toNat:Nat):Int))=Z at*;clear hx hb hc hb1 b1 hs1 hN hTP hB0 hZ hT hm;go_enter Tryz.func171,Tryz.ntmps171
 go_wp2_with fail
 have HS1:=hdd hcm
 go_region_held3 (fun w'=>w'.cell? ⟨w.heap.size,0,none⟩=some (.bool B0)/\w'.cell? ⟨w.heap.size,1,none⟩=some (.slice (some ⟨b,off,none⟩) 1 c)/\w'.cell? ⟨w.heap.size,2,none⟩=some (.int .i64 (e:Int))/\w'.cell? ⟨b,off,none⟩=some (.int .u64 (m:Int))) (go_keep)
  (first
  |(go_at_call 110
    refine HTP.out.mono ?_;rintro r w2⟨rfl,hb⟩;have c0:=cbl c0 hb;have c1:=cbl c1 hb;have c2:=cbl c2 hb;have hcm:=cbl hcm hb;have HB2:=hdd (HB.out.trans ((hbd.trans hb).mono HB.out.size));have HBT2:=hdd (cK ((HBT.out.below hbd).below hb));clear hb))
 have hval:(bits (val [m]):Nat)=k:=by rw[<-hk];simp[val]
 rw[hval]at HBT2;obtain⟨s,hs⟩:∃s:Nat,(53:Int)-(k:Int)=(s:Int):=⟨53-k,by omega⟩;have hMs:IntKind.u64.wrap ((m:Int)*2^s)=(M:Int):=by
  rw[<-hM,show s=53-k from by omega];rw[show((m:Int)*2^(53-k))=((m*2^(53-k):Nat):Int) from by push_cast;rfl,IntWalk.u64_in _ (by rw[hM];omega)]
 clear HTP HBT HS1 hk hM hval;go_wp2_with fail
 refine HBT2.out.mono ?_;rintro r w3⟨rfl,kd,rfl⟩;have hb3:=below_drewN w2 kd;generalize w2.drewN kd=w3 at*;have HB3:=hdd (aA HB2.out hb3);replace c0:=cbl c0 hb3;replace c1:=cbl c1 hb3;replace c2:=cbl c2 hb3;have hand:=wG M 52 (by omega) (by omega);rw[show(((2^52-1:Nat)):Int)=4503599627370495 from rfl]at hand;obtain⟨F,hF⟩:∃F,M%2^52=F:=⟨_,rfl⟩;have hF2:F<4503599627370496:=by rw[<-hF];exact Nat.mod_lt _ (by decide)
 rw[hF]at hand;obtain⟨q,hq⟩:∃q:Nat,k+e+1022=q:=⟨_,rfl⟩;obtain⟨X,hX⟩:∃X,q*4503599627370496=X:=⟨_,rfl⟩;have hX1:((k:Int)+(e:Int)+1021+1)*4503599627370496=(X:Int):=by omega
 have hor:=aoQ (x:=X) (y:=F) (k:=52) (by omega) (by omega) (by rw[<-hX];exact Nat.mul_mod_left _ _) (by omega);have hor2:=aoR (x:=X+F) (by omega);have hfb:=dO;obtain⟨Y,hY⟩:∃Y,X+F=Y:=⟨_,rfl⟩;rw[hY]at hor hor2;have HW:Hid (∀neg:Bool,Y+(if neg then 9223372036854775808 else 0)<18446744073709551616/\fin (Y+(if neg then 9223372036854775808 else 0))/\fv (Y+(if neg then 9223372036854775808 else 0))=sg neg m*((2^(e+T):Nat):Int)):=hdd (fun neg=>(HFO.out neg _ (by rw[<-hY,<-hX,<-hF,<-hq])).2);clear hb3 hX hq hF hY HFO
 cases B0
 . have HF:Hid (alY T w Z (.returned (.float .f64 Y)) w3):=hdd ⟨Y,rfl,(HW.out false).1,(HW.out false).2.1,by rw[HSG.out];exact(HW.out false).2.2,HB3.out⟩
   go_wp2;go_ret;exact HF.out
 . have HF:Hid (alY T w Z (.returned (.float .f64 (Y+9223372036854775808))) w3):=hdd ⟨_,rfl,(HW.out true).1,(HW.out true).2.1,by rw[HSG.out];exact(HW.out true).2.2,HB3.out⟩
   go_wp2;go_ret;exact HF.out
theorem alB{z:Int}(h0:z≠0)(hz:bits z.natAbs<=53):(mkDy z 0).man≠0/\bits (mkDy z 0).man.natAbs<=53/\(0<=(mkDy z 0).exp/\(mkDy z 0).exp<=53)/\topD (mkDy z 0)=bits z.natAbs/\(mkDy z 0).man*((2^(mkDy z 0).exp.toNat:Nat):Int)=z:=by
 obtain⟨k,k1,k2,k3,k4⟩:=gK z 0 h0;have hm:(mkDy z 0).man≠0:=by intro h;rw[h,ap8]at k1;exact h0 k1
 have h1:bits z.natAbs=bits (mkDy z 0).man.natAbs+k:=by
  conv=>lhs;rw[k1,Int.natAbs_mul,Int.natAbs_natCast]
  exact jF (by omega) k
 refine⟨hm,by omega,by omega,?_,?_⟩
 . unfold topD;rw[if_neg hm];omega
 . rw[k2,show((0:Int)+(k:Int)).toNat=k from by omega];exact k1.symm
theorem amX{z dir:Int}(hx:DyP p w v (mkDy z 0))(hT:Tab w)(hz:bits z.natAbs<=53)(hTT:T=1074):
 Calls Tryz.prog 115 #[v,.int .i64 dir] w (alY T w z):=by
 obtain⟨b0,A,n,c,rfl,h⟩:=hx;obtain⟨w1,hw1,hb1,hs1,b1⟩:=pro1 w (.cells #[Value.bool b0,.slice A n c,.int .i64 (mkDy z 0).exp] 121);have HB:=hdd hb1;have HT:=hdd (hT.below hb1);have HTT:=hdd hTT;obtain⟨c0,c1,c2,-,-,-⟩:=cells3 b1;have HD:Hid (DyP p w1 (.agg #[.bool b0,.slice A n c,.int .i64 (mkDy z 0).exp]) (mkDy z 0)):=hdd ⟨_,_,_,_,rfl,h.below hb1⟩;have HE:Hid (-1000000000000<=(mkDy z 0).exp/\(mkDy z 0).exp<=1000000000000):=hdd (by
  by_cases h0:z=0
  . rw[h0,aR];decide
  . have:=(alB h0 hz).2.2.1;omega)
 clear h hb1 b1 hs1 hT hTT;go_enter Tryz.func115,Tryz.ntmps115
 go_wp2_with fail
 refine(nK HD.out HE.out).mono ?_;rintro r w2⟨rfl,hb⟩;replace HD:=hdd (HD.out.below hb);replace HB:=hdd (aA HB.out hb);replace HT:=hdd (HT.out.below hb);replace c0:=cbl c0 hb;replace c1:=cbl c1 hb;replace c2:=cbl c2 hb;clear hb hw1;go_wp2_with fail
 refine(bX HD.out).mono ?_;rintro r w3⟨rfl,hb⟩;replace HD:=hdd (HD.out.below hb);replace HB:=hdd (aA HB.out hb);replace HT:=hdd (HT.out.below hb);replace c0:=cbl c0 hb;replace c1:=cbl c1 hb;replace c2:=cbl c2 hb;clear hb;by_cases h0:z=0
 . have hs:((mkDy z 0).man.sign==0)=true:=by rw[h0,aR];rfl
   have HF:Hid (alY T w z (.returned (.float .f64 0)) w3):=hdd ⟨0,rfl,by decide,by decide,by rw[h0,ap8];decide,HB.out⟩;clear hz h0;go_wp2;go_ret;exact HF.out
 . obtain⟨q1,q2,q3,q4,q5⟩:=alB h0 hz
   have hs:((mkDy z 0).man.sign==0)=false:=beq_eq_false_iff_ne.2 (fun h=>q1 (Int.sign_eq_zero_iff_zero.1 h));obtain⟨t,ht⟩:∃t:Nat,bits z.natAbs=t:=⟨_,rfl⟩;have ht1:t<=53:=by rw[<-ht];exact hz
   have ht0:1<=t:=by rw[<-ht];unfold bits;rw[if_neg (by omega)];omega
   rw[ht]at q4;have hmn:min 53 ((t:Int)+1074)=53:=by omega
   have HC:Hid (Canon (mkDy z 0)):=hdd (Canon.mk z 0);have HQ:=hdd (And.intro q1 (And.intro q2 q3));have HZ:=hdd q5;have HTP:=hdd q4;have HR:=hdd (aaM (P:=53) (dir:=dir) HD.out HT.out ⟨by omega,by omega,by omega⟩ (by decide) (by rw[HC.out];omega));rw[HC.out]at HR;rw[q4];generalize mkDy z 0=d at*;clear q1 q2 q3 q4 q5 hz ht h0;go_wp2_with fail
   refine HR.out.mono ?_;rintro r w4⟨hb,v4,rfl,hz4⟩;obtain⟨b4,A4,n4,c4,rfl,h4⟩:=hz4;obtain⟨w5,hw5,hb5,hs5,o5⟩:=pro1 w4 (.cells #[Value.bool b4,.slice A4 n4 c4,.int .i64 d.exp] 121);replace HB:=hdd (aA (aA HB.out hb) hb5);obtain⟨d0,d1,d2,-,-,-⟩:=cells3 o5;have HD5:Hid (DyP (fun b=>w3.heap.size<=b) w5 (.agg #[.bool b4,.slice A4 n4 c4,.int .i64 d.exp]) d):=hdd ⟨_,_,_,_,rfl,h4.below hb5⟩;clear hb hb5 hs5 o5 h4 HR HD c0 c1 c2 HT;go_wp2_with fail
   refine(nK HD5.out HE.out).mono ?_;rintro r w6⟨rfl,hb⟩;replace HD5:=hdd (HD5.out.below hb);replace HB:=hdd (aA HB.out hb);replace d0:=cbl d0 hb;replace d1:=cbl d1 hb;replace d2:=cbl d2 hb;clear hb hw5;have htop:=HTP.out;have HX:=hdd (anF HD5.out HQ.out.1 HQ.out.2.1 (by have:=HQ.out.2.2;omega) HTT.out);rw[HZ.out]at HX;rw[htop];clear htop;go_wp2_with fail
   refine HX.out.mono ?_;rintro r w7⟨bb,rfl,k1,k2,k3,hb⟩;have HF:Hid (alY T w z (.returned (.float .f64 bb)) w7):=hdd ⟨bb,rfl,k1,k2,k3,aA HB.out hb⟩;clear k1 k2 k3 hb;go_wp2;go_ret;exact HF.out
end
section
open Go.RowKit Go.Maps
variable{hi lo v:Nat}{w:World}
def akU(lo hi v:Nat):Int×Bool:=
 if bU lo hi then(if sr v<sr lo then(1,true)else if sr hi<sr v then(-1,true)else(0,decide (sr lo=sr v)&&decide (sr hi=sr v)))else(0,false)
def CmpR(c:Int)(x y:Re):Prop:=(c=1/\y<x)\/(c=-1/\x<y)\/(c=0/\x=y)
theorem anY{X:Re->Prop}{x:Re}(h:GapS lo hi X)(hx:X x)(hk:(akU lo hi v).2=true):CmpR (akU lo hi v).1 x (Re.ofI (fv v)):=by
 unfold akU at*;by_cases k:bU lo hi
 . obtain⟨x1,x2⟩:=h.2.2 k x hx
   rw[if_pos k]at*;unfold fv at x1 x2|-;by_cases h1:sr v<sr lo
   . rw[if_pos h1]
     exact Or.inl ⟨rfl,Re.lt_of_lt_of_le (Re.ofI_lt.2 (jO h1)) x1⟩
   . rw[if_neg h1]at*
     by_cases h2:sr hi<sr v
     . rw[if_pos h2]
       exact Or.inr (Or.inl ⟨rfl,Re.lt_of_le_of_lt x2 (Re.ofI_lt.2 (jO h2))⟩)
     . rw[if_neg h2]at*
       simp only[Bool.and_eq_true,decide_eq_true_eq]at hk;rw[hk.1]at x1;rw[hk.2]at x2;exact Or.inr (Or.inr ⟨rfl,Re.le_antisymm x2 x1⟩)
 . rw[if_neg k]at hk;cases hk
theorem amY(hv:num v)(h1:lo<18446744073709551616)(h2:hi<18446744073709551616):
 Calls Tryz.prog 113 #[gv lo hi,.float .f64 v] w (pY w (akU lo hi v).1 (akU lo hi v).2):=by
 obtain⟨w1,hw1,hb1,hs1,b1⟩:=pro1 w (.cells #[.float .f64 lo,.float .f64 hi] 183);have HB:=hdd hb1;obtain⟨c0,c1,-,-⟩:=aB b1;have F1:=hdd (jV (w:=w1) h1 h2);clear hb1 b1 hs1 h1 h2;unfold gv at*;by_cases k:bU lo hi
 . rw[decide_eq_true k]at F1
   have hg:=rX k.1.num hv;have hl:=aaK k.2.1.num hv;have he:=oW k.1.num hv;have he2:=oW k.2.1.num hv;by_cases q1:sr v<sr lo
   . rw[decide_eq_true q1]at hg
     have hG:akU lo hi v=(1,true):=by unfold akU;rw[if_pos k,if_pos q1]
     rw[hG];clear k q1 hl he he2 hG;go_enter Tryz.func113,Tryz.ntmps113
     go_wp2_with fail
     refine F1.out.mono ?_;rintro e w2⟨rfl,hb⟩;replace c0:=cbl c0 hb;replace c1:=cbl c1 hb;have HF:Hid (pY w 1 true (.returned (.tuple #[.int .i64 1,.bool true])) w2):=hdd ⟨rfl,HB.out.trans (hb.mono HB.out.size)⟩;clear hb hw1;go_wp2
     go_ret2
     exact HF.out
   . rw[decide_eq_false q1]at hg
     by_cases q2:sr hi<sr v
     . rw[decide_eq_true q2]at hl
       have hG:akU lo hi v=(-1,true):=by unfold akU;rw[if_pos k,if_neg q1,if_pos q2]
       rw[hG];clear k q1 q2 he he2 hG;go_enter Tryz.func113,Tryz.ntmps113
       go_wp2_with fail
       refine F1.out.mono ?_;rintro e w2⟨rfl,hb⟩;replace c0:=cbl c0 hb;replace c1:=cbl c1 hb;have HF:Hid (pY w (-1) true (.returned (.tuple #[.int .i64 (-1),.bool true])) w2):=hdd ⟨rfl,HB.out.trans (hb.mono HB.out.size)⟩;clear hb hw1;go_wp2
       go_ret2
       exact HF.out
     . rw[decide_eq_false q2]at hl
       have hG:akU lo hi v=(0,decide (sr lo=sr v)&&decide (sr hi=sr v)):=by unfold akU;rw[if_pos k,if_neg q1,if_neg q2]
       rw[hG];clear k q1 q2 hG;generalize decide (sr lo=sr v)=r1 at*;generalize decide (sr hi=sr v)=r2 at*
       cases r1
       all_goals
        go_enter Tryz.func113,Tryz.ntmps113
        go_wp2_with fail
        refine F1.out.mono ?_;rintro e w2⟨rfl,hb⟩;replace c0:=cbl c0 hb;replace c1:=cbl c1 hb;have HB2:Hid (Below w.heap.size w w2):=hdd (HB.out.trans (hb.mono HB.out.size));clear hb hw1;go_wp2_with fail
        go_quiet (fail)
        go_wp2
        go_ret2
        exact⟨rfl,HB2.out.trans ((below_drewN _ _).mono HB2.out.size)⟩
 . rw[decide_eq_false k]at F1
   have hG:akU lo hi v=(0,false):=by unfold akU;rw[if_neg k]
   rw[hG];clear k hG;go_enter Tryz.func113,Tryz.ntmps113
   go_wp2_with fail
   refine F1.out.mono ?_;rintro e w2⟨rfl,hb⟩;have HF:Hid (pY w 0 false (.returned (.tuple #[.int .i64 0,.bool false])) w2):=hdd ⟨rfl,HB.out.trans (hb.mono HB.out.size)⟩;clear hb hw1;go_wp2
   go_ret2
   exact HF.out
theorem al7{p:Nat->Prop}{v:Value}{d:Dy}{sep:Int}(hx:DyP p w v d)(hs:SmD d)(hsp:0<=sep/\sep<=1099511627776):Calls Tryz.prog 119 #[v,.int .i64 sep] w (RetW w (decide (gG d sep))):=by
 obtain⟨b,A,n,c,rfl,h⟩:=hx;obtain⟨w1,hw1,hb1,hs1,b1⟩:=pro1 w (.cells #[Value.bool b,.slice A n c,.int .i64 d.exp] 121);have HB:=hdd hb1;obtain⟨c0,c1,c2,-,-,-⟩:=cells3 b1;have D1:Hid (DyP p w1 (.agg #[.bool b,.slice A n c,.int .i64 d.exp]) d):=hdd ⟨_,_,_,_,rfl,h.below hb1⟩;have HSM:=hdd hs;have hwr:IntKind.i64.wrap (-sep)=-sep:=wrap_i64 (by omega);clear h hb1 b1 hs1 hs;go_enter Tryz.func119,Tryz.ntmps119
 go_wp2_with fail
 refine(bX D1.out).mono ?_;rintro r w3⟨rfl,hb⟩;replace c0:=cbl c0 hb;replace c1:=cbl c1 hb;replace c2:=cbl c2 hb;replace D1:=hdd (D1.out.below hb);replace HB:=hdd (HB.out.trans (hb.mono HB.out.size));clear hb hw1;by_cases hz:d.man<=0
 . have HF:Hid (RetW w (decide (gG d sep)) (.returned (.bool true)) w3):=hdd ⟨by rw[show decide (gG d sep)=true from decide_eq_true (Or.inl hz)],HB.out⟩
   have hsg:d.man.sign<=0:=by
    rcases Int.lt_or_eq_of_le hz with h|h
    . rw[Int.sign_eq_neg_one_iff_neg.2 h];decide
    . rw[h];decide
   generalize decide (gG d sep)=res at*;go_wp2;go_ret;exact HF.out
 . have hsg:¬(d.man.sign<=0):=by
    rw[Int.sign_eq_one_iff_pos.2 (by omega)];decide
   have hsg2:0<d.man:=by omega
   go_wp2_with fail
   refine(nK D1.out (by have:=HSM.out.2;omega)).mono ?_;rintro r w4⟨rfl,hb⟩;have HF:Hid (RetW w (decide (gG d sep)) (.returned (.bool (decide (d.man<=0)||decide (topD d<=-sep)))) w4):=hdd ⟨by
    rw[show decide (gG d sep)=(decide (d.man<=0)||decide (topD d<=-sep)) from by
     by_cases h1:d.man<=0<;>by_cases h2:topD d<=-sep<;>simp[gG,h1,h2]],HB.out.trans (hb.mono HB.out.size)⟩
   generalize decide (gG d sep)=res at*;clear hb;generalize topD d=T at*;go_wp2;go_ret;exact HF.out
theorem amK{g root:Nat}{ns:List Nd}(hd:DagP w g ns)(ok:OkNs ns)(hlf:gD ns)(hro:gF ns)(hr:root<ns.length):
 Calls Tryz.prog 114 #[.pointer (some ⟨g,0,none⟩),.int .i64 (root:Int)] w (RetG w (gapD ns root)):=by
 obtain⟨w1,hw1,hb1,hs1,b1⟩:=pro1 w (.cells #[.float .f64 0,.float .f64 0] 183);have HGA:=hdd (wU (hd.below hb1) ok (akG ok) hlf hro hr);have HB:=hdd hb1;have B1:=hdd b1;have HKX:=hdd (iN (i:=root) (by have:=hd.len;omega));have hst:=aS;clear hd ok hlf hro hr hb1 b1 hs1;go_enter Tryz.func114,Tryz.ntmps114
 go_wp2_with fail
 refine HGA.out.mono ?_;rintro e w2⟨hb2,mb,m,l,rfl,-,hm,hI,hMG⟩;obtain⟨lo,hi,e1,hg⟩:=hMG.1 root hI.rt;unfold gv at e1;have HM:=hdd hm;have HGD:Hid ((m (.int .i64 (root:Int))).getD (.agg #[.float .f64 0,.float .f64 0])=.agg #[.float .f64 lo,.float .f64 hi]):=hdd (by rw[e1];rfl);have HSM:Hid ((m (.int .i64 (root:Int))).isSome=true):=hdd (by rw[e1];rfl);obtain⟨w3,hw3,hb3,hs3,b3⟩:=pro1 w2 (.cells #[.float .f64 lo,.float .f64 hi] 183);obtain⟨c0,c1,-,-⟩:=aB b3;have B3:=hdd (aC (hbl B1.out hb2) hb3 (Nat.lt_of_lt_of_le (aF B1.out) hb2.size));obtain⟨d0,d1,d2,d3⟩:=aB B3.out;obtain⟨hR,hF⟩:=bG (aA (aA HB.out hb2) hb3) nlr B3.out hg;have HR:=hdd hR.out;have HF:=hdd hF;have hne:w2.heap.size≠w.heap.size:=by have:=aF B1.out;have:=hb2.size;omega
 clear hb2 hb3 hm hI hMG e1 hg hR hF b3 HGA hs3;go_wp2_with (first
  |(at_lookup
    refine iL _ rfl _ _ _ rfl _ _ aK lH (oH _) _ m rfl HM.out (.int .i64 (root:Int)) _ rfl HKX.out (.agg #[.float .f64 lo,.float .f64 hi]) HGD.out true HSM.out ?_))
 obtain⟨f0,f1,-,-⟩:=aB HF.out;refine bodyPost_ret (v:=.agg #[_,_]) (by simp[results,Tryz.results114,go_sem,f0,f1];first|exact⟨rfl,rfl⟩|rfl) rfl ?_;exact HR.out
end
end Go.Proofs.YtebocijmegkfgaaGreatDoor
