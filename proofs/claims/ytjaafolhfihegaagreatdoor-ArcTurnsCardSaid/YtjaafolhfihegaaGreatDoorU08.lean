/- A part of the proof: contracts of functions and plain laws (Held, IntE, IntF, Flt). -/
import Derived.Test.YtjaafolhfihegaaGreatDoorU07
import Derived.Deep.RegionHeld3
import Derived.StillTail
import Derived.Laws.FloatArith
set_option linter.unusedVariables false
set_option linter.unusedSimpArgs false
set_option maxHeartbeats 25600000
set_option maxRecDepth 100000
namespace Go.Proofs.YtjaafolhfihegaaGreatDoor
open Go.RowKit
open Go.Act renaming put->awV
open Go.Region renaming ready->awT,wanted->awW,binds->awX
open Int renaming lt_trichotomy->awR,sign_eq_neg_one_of_neg->awS,sign_eq_one_of_pos->awU
open List renaming setIfInBounds_toArray->awO,set_cons_zero->awP,set_cons_succ->awQ
variable{a:Act}{b:Bool}{x y:Int}{fuel:Nat}{p q:Nat->Prop}{v va:Value}{w:World}
section
variable{P:Program}{ops:Array Oper}{Q:Exit->Act->World->Prop}{md:Region.Mode}{S:World->Prop}{z:Nat}
def anyG(P:Program)(md:Region.Mode)(ops:Array Oper)(Q:Exit->Act->World->Prop)(S:World->Prop)(z:Nat):Nat->Array Bool->Act->World->Prop
 |0,listed,a,w=>awT md ops listed=[]/\Q .normal a w
 |fuel+1,listed,a,w=>(awT md ops listed=[]->Q .normal a w)/\
  ∀i∈awT md ops listed,wpOp P ops Q i (fun a' w'=>(i≠z->S w')/\anyG P md ops Q S z fuel (listed.setIfInBounds i true) a' w') a w
theorem abM:∀(fuel:Nat) (listed:Array Bool) (a:Act) (w:World),anyG P md ops Q S z fuel listed a w->wpAny P md ops Q fuel listed a w
 |0,_,_,_,h=>h
 |fuel+1,_,_,_,h=>⟨h.1,fun i hi=>wpOp_mono (fun a' w' h'=>abM fuel _ a' w' h'.2) (h.2 i hi)⟩
theorem ad4{i:Nat}{oi:Oper}(hi:ops[i]? =some oi)(hiz:Region.waitsFor md ops z i=true)(hsel:∀(j:Nat) (o:Oper) cs b,ops[j]? =some o->o.op≠.select cs b)
 (hQ:∀c a w,Q (.panic c) (a.put oi.dst v) w->Q (.panic c) a w) (fuel:Nat):
 ∀(listed:Array Bool) (a:Act) (w:World),
  (∀j oj,ops[j]? =some oj->j≠i->listed.getD j true=false->(∀e∈oj.after,awX md e=true->e.on≠i)->oi.apart ops oj=true)->
  i∈awT md ops listed->YieldsIf P ops S oi v a->S w->
  anyG P md ops Q S z fuel (listed.setIfInBounds i true) (a.put oi.dst v) w->anyG P md ops Q S z (fuel+1) listed a w:=by
 induction fuel with
 |zero=>
  intro listed a w _ hr hy hS H;refine⟨fun h=>(by rw[h]at hr;cases hr),fun j hj=> ?_⟩;rcases Decidable.em (j=i)with rfl|hji
  . exact hy.wpOp hi hS ⟨fun _=>hS,H⟩
  . have h0:=ready_mono hj hji
    rw[H.1]at h0;cases h0
 |succ fuel ih=>
  intro listed a w hfree hr hy hS H;refine⟨fun h=>(by rw[h]at hr;cases hr),fun j hj=> ?_⟩;rcases Decidable.em (j=i)with rfl|hji
  . exact hy.wpOp hi hS ⟨fun _=>hS,H⟩
  obtain⟨hjun,oj,hoj,hall⟩:=mem_ready.1 hj;have hun:listed.getD i true=false:=(mem_ready.1 hr).1;have hnot:∀e∈oj.after,awX md e=true->e.on≠i:=by
   intro e he hb heq;have hl:=hall e he hb;rw[heq]at hl;rcases Nat.lt_or_ge i listed.size with h|h
   . simp[h]at hun hl;rw[hun]at hl;cases hl
   . simp[Array.getElem?_eq_none h]at hl
  have hjz:j≠z:=by
   rintro rfl;obtain⟨oz,hoz,e,he,hb,hon⟩:=Region.waitsFor_spec hiz;rw[hoj]at hoz
   cases hoz
   exact hnot e he hb hon
  have step:=wpOp_putIf hoj (hfree j oj hoj hji hjun hnot) (fun cs b=>hsel i oi cs b hi) (fun cs b=>hsel j oj cs b hoj) hQ hy (H.2 j (ready_mono hj hji));refine wpOp_mono (fun a' w' hh=>⟨fun _=>hh.2.1 hjz,ih (listed.setIfInBounds j true) a' w' ?_ (ready_mono hr (Ne.symm hji)) hh.1 (hh.2.1 hjz) ?_⟩) step
  . intro k ok hk hki hku hno
    refine hfree k ok hk hki ?_ hno;rcases Decidable.em (j=k)with rfl|hjk
    . exact hjun
    . rwa[getD_set_ne true hjk]at hku
  . rw[Array.setIfInBounds_comm _ _ hji];exact hh.2.2
theorem aS(i:Nat){oi:Oper}(v:Value){listed:Array Bool}(hi:ops[i]? =some oi)(hiz:Region.waitsFor md ops z i=true)
 (hs:Region.noSelect ops=true) (hf:Region.free md ops listed i=true) (hr:(awT md ops listed).contains i=true)
 (hQ:∀c a w,Q (.panic c) (a.put oi.dst v) w->Q (.panic c) a w) (hw:awW oi (yielded ops a.tmps)=true) (hy:∀w,S w->(execOp a.eval oi).run P w=.ok (.value v) w) (hS:S w)
 (h:anyG P md ops Q S z fuel (listed.setIfInBounds i true) (a.put oi.dst v) w):anyG P md ops Q S z (fuel+1) listed a w:=
 ad4 hi hiz (Region.noSelect_spec hs) hQ fuel listed a w (Region.free_spec hi hf) (by simpa using hr) (Or.inl ⟨hw,hy⟩) hS h
theorem dZ(i:Nat){o:Oper}{listed:Array Bool}(hr:awT md ops listed=[i])(ho:ops[i]? =some o)
 (h:∀K':Act->World->Prop,Shut (∀a w,(i≠z->S w)->anyG P md ops Q S z fuel (listed.setIfInBounds i true) a w->K' a w)->if awW o (yielded ops a.tmps)=true then Oper.wp P o a w K' Q else K' (a.put o.dst undef) w):
 anyG P md ops Q S z (fuel+1) listed a w:=
 ⟨fun h0=>(by rw[hr]at h0;cases h0),fun j hj=>by
   rw[hr]at hj;obtain rfl:j=i:=by simpa using hj
   exact wpOp_step ho (fun K' hK=>h K' (fun a w h1 h2=>hK a w ⟨h1,h2⟩))⟩
theorem oF{listed:Array Bool}(hr:awT md ops listed=[])(h:Q .normal a w):anyG P md ops Q S z fuel listed a w:=by
 cases fuel
 . exact⟨hr,h⟩
 . exact⟨fun _=>h,by rw[hr];simp⟩
theorem lU(S:World->Prop)(z:Nat){id:Nat}(hm:P.follows .mixedOrders=true)
 (h:anyG P .any ops Q S z ops.size (Array.replicate ops.size false) a w.drew):(Code.region id ops true).wp P Q a w:=
 wp_region_any hm (abM _ _ _ _ h)
end
theorem IntP.get {z:Int}(h:IntP p w (.agg #[.bool b,v]) z):∃xs,NatP p w v xs/\Tr xs/\val xs=z.natAbs/\b=decide (z<0):=by
 obtain⟨vm,xs,e,h1,h2,h3⟩:=h;injection e with e;have e1:Value.bool b=.bool (decide (z<0)):=congrArg (fun a:Array Value=>a.getD 0 undef) e;have e2:v=vm:=congrArg (fun a:Array Value=>a.getD 1 undef) e;subst e2;injection e1 with e1;exact⟨xs,h1,h2,h3,e1⟩
theorem aoS(b c:Bool)(m n:Nat):sg (b != c) (m*n)=sg b m*sg c n:=by cases b<;>cases c<;>simp[sg,Int.neg_mul,Int.mul_neg]
theorem agU(x y:Int):sg (decide (x<0) != decide (y<0)) (x.natAbs*y.natAbs)=x*y:=by rw[aoS,mV,mV]
theorem ai4{g n c:Nat}{T:TypeId}{A:Option Addr}(hx:IntP p w va x)(hg:w.heap[g]? =some (.cells #[.bool b,.slice A n c] T (0,0)))(hy:IntP q w (.agg #[.bool b,.slice A n c]) y)
 (hL:bits x.natAbs+bits y.natAbs<=1073741824):
 Calls Tryz.prog 226 #[va,.slice (some ⟨g,0,none⟩) 1 1] w (RetZ w.heap.size w (x*y)):=by
 obtain⟨vm,xs,rfl,h1,h2,h3⟩:=hx;obtain⟨A0,c0',rfl,-⟩:=id h1;obtain⟨w2,hw2,hb2,hs2,b1,b2⟩:=pro2 w (.cells #[Value.bool (decide (x<0)),.slice A0 xs.length c0'] 223) (.cells #[Value.bool false,Value.slice none 0 0] 223);have X0:=hdd (mV x);rw[<-h3]at X0;have HB:=hdd hb2;have H1:=hdd (h1.below hb2);have HS:=hdd hs2;have B2:=hdd b2;have HG:=hdd hg;have HY:=hdd hy;obtain⟨c0,c1,-,-⟩:=aD b1;generalize decide (x<0)=ba at*;clear h1 h2 h3 hb2 b1 b2 hs2 hg hy;go_enter Tryz.func226,Tryz.ntmps226
 go_wp2_with fail
 refine(dP H1.out).mono ?_;rintro e w3⟨hb,v,rfl,h⟩;rw[X0.out]at h;obtain⟨b',A1,n1,c1',rfl⟩:=h.shape;replace B2:=hdd (aH B2.out hb (by have:=HS.out;omega));have HS3:=hdd (Nat.le_trans (Nat.le_of_eq HS.out.symm) hb.size);replace HB:=hdd (HB.out.trans (hb.mono HB.out.size));have HX:=hdd h;clear h hb hw2 c0 c1;go_wp2_with fail
 go_loopw [15] (fun i wr=>∃k:Nat,k<=1/\i=.int .i64 k/\Hid (Below w.heap.size w wr)/\Hid (∃bs As ns cs,wr.heap[w3.heap.size]? =some (.cells #[.bool bs,.slice As ns cs] 223 (0,0))/\IntP (fun b=>w.heap.size<=b/\b≠w3.heap.size/\b≠w.heap.size+1) wr (.agg #[.bool bs,.slice As ns cs]) (if k=0 then x else x*y))/\
  Hid (wr.heap[w.heap.size+1]? =some (.cells #[Value.bool false,Value.slice none 0 0] 223 (0,0)))) (fun i _=>1-(intOf i).toNat)
 case atStart=>
  have hs:=HS.out;have hs3:=HS3.out;refine⟨0,by omega,rfl,hdd (HB.out.alloc (by omega) _),hdd ⟨_,_,_,_,heap_alloc_new w3 _,?_⟩,hdd (aH B2.out (aZ w3 _) (aG B2.out))⟩;exact(HX.out.weak fun b h1 h2=>by omega).below (aZ w3 _)
 case round=>
  clear HB HX B2;obtain⟨k,hk,rfl,HB,HR,B2⟩:=hrel;obtain⟨bs,As,ns,cs,hR,hX⟩:=HR.out;have HR0:=hdd hR;have HX:=hdd hX;obtain⟨r0,r1,r2,r3⟩:=aD hR;clear hR hX;have hkk:k=0\/k=1:=by omega
  rcases hkk with rfl|rfl
  . obtain⟨y0,y1,-,-⟩:=aD (hbl HG.out HB.out)
    obtain⟨w4,hw4,hba,hs4,q4⟩:=pro1 wr (.cells #[Value.bool b,.slice A n c] 223);obtain⟨q0,q1,-,-⟩:=aD (hbl HR0.out hba);obtain⟨q2,q3,-,-⟩:=aD q4;go_wp2_with fail
    obtain⟨xs',hx1,hx2,hx3,hx4⟩:=HX.out.get;replace hx3:val xs'=x.natAbs:=hx3;replace hx4:bs=decide (x<0):=hx4;obtain⟨ys',hy1,hy2,hy3,hy4⟩:=HY.out.get;have hlen:xs'.length+ys'.length<=549755813888:=by
     have e1:=bP xs' hx1.ok hx2;have e2:=bP ys' hy1.ok hy2;rw[hx3]at e1;rw[hy3]at e2;omega
    have HMUL:=hdd (aiV (cut:=40) (by omega) (by omega) ((hx1.below hba).below (Below.refl _ _).drew) (((hy1.below HB.out).below hba).below (Below.refl _ _).drew) hlen);have HP:=hdd (agU x y);rw[<-hx3,<-hy3,<-hx4,<-hy4]at HP;have HR4:=hdd (hbl HR0.out hba);clear hx1 hx2 hx3 hx4 hy1 hy2 hy3 hy4 hlen;refine wp_region_noPanic ?_;refine lU (fun w'=>w'.cell? ⟨w3.heap.size,0,none⟩=some (.bool bs)/\w'.cell? ⟨w3.heap.size,1,none⟩=some (.slice As ns cs)/\w'.cell? ⟨wr.heap.size,0,none⟩=some (.bool b)/\w'.cell? ⟨wr.heap.size,1,none⟩=some (.slice A n c)) 11 (by kernel_rfl) ?_;have hSd:(fun w':World=>w'.cell? ⟨w3.heap.size,0,none⟩=some (.bool bs)/\w'.cell? ⟨w3.heap.size,1,none⟩=some (.slice As ns cs)/\w'.cell? ⟨wr.heap.size,0,none⟩=some (.bool b)/\w'.cell? ⟨wr.heap.size,1,none⟩=some (.slice A n c)) w4.drew:=⟨q0,q1,q2,q3⟩;refine aS 0 (.pointer (some ⟨w3.heap.size,0,none⟩)) rfl (by kernel_rfl) (by kernel_rfl) (by kernel_rfl) (by kernel_rfl) (fun _ _ _ h=>h) (by rfl) ?_ (by assumption) ?_
    . intro w' hSw;(try dsimp only at hSw);go_split_ands;go_simp;all_goals first|rfl|(cases bs<;>cases b<;>rfl)
    simp only[awV,awO,awP,awQ];refine aS 1 (.bool bs) rfl (by kernel_rfl) (by kernel_rfl) (by kernel_rfl) (by kernel_rfl) (fun _ _ _ h=>h) (by rfl) ?_ (by assumption) ?_
    . intro w' hSw;(try dsimp only at hSw);go_split_ands;go_simp;all_goals first|rfl|(cases bs<;>cases b<;>rfl)
    simp only[awV,awO,awP,awQ];refine aS 2 (.pointer (some ⟨wr.heap.size,0,none⟩)) rfl (by kernel_rfl) (by kernel_rfl) (by kernel_rfl) (by kernel_rfl) (fun _ _ _ h=>h) (by rfl) ?_ (by assumption) ?_
    . intro w' hSw;(try dsimp only at hSw);go_split_ands;go_simp;all_goals first|rfl|(cases bs<;>cases b<;>rfl)
    simp only[awV,awO,awP,awQ];refine aS 3 (.bool b) rfl (by kernel_rfl) (by kernel_rfl) (by kernel_rfl) (by kernel_rfl) (fun _ _ _ h=>h) (by rfl) ?_ (by assumption) ?_
    . intro w' hSw;(try dsimp only at hSw);go_split_ands;go_simp;all_goals first|rfl|(cases bs<;>cases b<;>rfl)
    simp only[awV,awO,awP,awQ];refine aS 4 (.bool (bs != b)) rfl (by kernel_rfl) (by kernel_rfl) (by kernel_rfl) (by kernel_rfl) (fun _ _ _ h=>h) (by rfl) ?_ (by assumption) ?_
    . intro w' hSw;(try dsimp only at hSw);go_split_ands;go_simp;all_goals first|rfl|(cases bs<;>cases b<;>rfl)
    simp only[awV,awO,awP,awQ];refine aS 5 (.pointer (some ⟨w3.heap.size,1,none⟩)) rfl (by kernel_rfl) (by kernel_rfl) (by kernel_rfl) (by kernel_rfl) (fun _ _ _ h=>h) (by rfl) ?_ (by assumption) ?_
    . intro w' hSw;(try dsimp only at hSw);go_split_ands;go_simp;all_goals first|rfl|(cases bs<;>cases b<;>rfl)
    simp only[awV,awO,awP,awQ];refine aS 6 (.slice As ns cs) rfl (by kernel_rfl) (by kernel_rfl) (by kernel_rfl) (by kernel_rfl) (fun _ _ _ h=>h) (by rfl) ?_ (by assumption) ?_
    . intro w' hSw;(try dsimp only at hSw);go_split_ands;go_simp;all_goals first|rfl|(cases bs<;>cases b<;>rfl)
    simp only[awV,awO,awP,awQ];refine aS 7 (.pointer (some ⟨wr.heap.size,1,none⟩)) rfl (by kernel_rfl) (by kernel_rfl) (by kernel_rfl) (by kernel_rfl) (fun _ _ _ h=>h) (by rfl) ?_ (by assumption) ?_
    . intro w' hSw;(try dsimp only at hSw);go_split_ands;go_simp;all_goals first|rfl|(cases bs<;>cases b<;>rfl)
    simp only[awV,awO,awP,awQ];refine aS 8 (.slice A n c) rfl (by kernel_rfl) (by kernel_rfl) (by kernel_rfl) (by kernel_rfl) (fun _ _ _ h=>h) (by rfl) ?_ (by assumption) ?_
    . intro w' hSw;(try dsimp only at hSw);go_split_ands;go_simp;all_goals first|rfl|(cases bs<;>cases b<;>rfl)
    try simp only[awV,awO,awP,awQ]
    refine dZ 9 (by kernel_rfl) rfl fun K hK=> ?_;go_simp;refine HMUL.out.mono ?_;rintro e w6⟨hb,v6,zs,rfl,hz,tz,hvz⟩;have HB6:Hid (Below w4.heap.size w4 w6):=hdd ((Below.refl _ _).drew.trans hb);have q0':=cbl q0 HB6.out;have q1':=cbl q1 HB6.out;have q2':=cbl q2 HB6.out;have q3':=cbl q3 HB6.out;have HMK:=hdd (dP (b:=bs != b) hz);have HVZ:=hdd hvz;clear hb hz tz hvz;refine hK.out _ _ (fun _=>⟨q0',q1',q2',q3'⟩) ?_;clear hK
    try simp only[awV,awO,awP,awQ]
    refine dZ 10 (by kernel_rfl) rfl fun K hK=> ?_;go_simp;refine HMK.out.mono ?_;rintro e w5⟨hb,v5,hz⟩;obtain⟨rfl,hz⟩:=hz;obtain⟨b5,A5,n5,c5,rfl⟩:=hz.shape;have q0'':=cell_below q0' hb nlr;have q1'':=cell_below q1' hb nlr;have q2'':=cell_below q2' hb nlr;have q3'':=cell_below q3' hb nlr;have HSZ:=hdd HB6.out.size;replace HB6:=hdd (HB6.out.trans (hb.mono HB6.out.size));have HF:=hdd hz;obtain⟨f0',f1',f2',f3'⟩:=aD (hbl HR4.out HB6.out);clear hb hz;refine hK.out _ _ (fun _=>⟨q0'',q1'',q2'',q3''⟩) ?_;clear hK
    try simp only[awV,awO,awP,awQ]
    refine dZ 11 (by kernel_rfl) rfl fun K hK=> ?_;go_simp;refine hK.out _ _ (fun h=>absurd rfl h) ?_;clear hK;refine oF (by kernel_rfl) ?_;refine NoPanic.normal ?_;have h:=HF.out;rw[HVZ.out,HP.out]at h;have hb:=HB6.out;have hsz6:=HSZ.out;have hbb:=hba.trans (hb.mono hba.size);have R5:=hbl HR0.out hbb;have HR5:=hdd R5;obtain⟨r0,r1,r2,r3⟩:=aD R5;have hs:=HS.out;have hs3:=HS3.out;have hrs:=aG HR0.out;have hsz:=HB.out.size;have B25:=hbl B2.out hbb;have HB2:=hdd (((HB.out.trans (hbb.mono HB.out.size)).setCell (p:=⟨w3.heap.size,0,none⟩) (by simp;omega) (.bool b5)).setCell (p:=⟨w3.heap.size,1,none⟩) (by simp;omega) (.slice A5 n5 c5));have HR2:Hid (∃bs As ns cs,((w5.setCell ⟨w3.heap.size,0,none⟩ (.bool b5)).setCell ⟨w3.heap.size,1,none⟩ (.slice A5 n5 c5)).heap[w3.heap.size]? =some (.cells #[.bool bs,.slice As ns cs] 223 (0,0))/\IntP (fun b=>w.heap.size<=b/\b≠w3.heap.size/\b≠w.heap.size+1) ((w5.setCell ⟨w3.heap.size,0,none⟩ (.bool b5)).setCell ⟨w3.heap.size,1,none⟩ (.slice A5 n5 c5)) (.agg #[.bool bs,.slice As ns cs]) (if 1=0 then x else x*y)):=by
     refine hdd ⟨_,_,_,_,set2 R5 _ _,?_⟩;have h':=h.weak (q:=fun b=>w.heap.size<=b/\b≠w3.heap.size/\b≠w.heap.size+1) fun b h1 h2=>by have:=hba.size;omega
     exact(h'.setCell (fun b hb=>hb.2.1) _).setCell (fun b hb=>hb.2.1) _
    have HB22:Hid (((w5.setCell ⟨w3.heap.size,0,none⟩ (.bool b5)).setCell ⟨w3.heap.size,1,none⟩ (.slice A5 n5 c5)).heap[w.heap.size+1]? =some (.cells #[Value.bool false,Value.slice none 0 0] 223 (0,0))):=by
     refine hdd ?_;rw[Below.heap_setCell _ _ _ _ (by simp;omega),Below.heap_setCell _ _ _ _ (by simp;omega)];exact B25
    clear hsz6 hSd q0' q1' q2' q3' q0'' q1'' q2'' q3'';clear h hb hbb hba R5 B25 hs hs3 hrs hsz y0 y1 q0 q1 q2 q3 q4 hw4 hs4;go_wp2
    go_roundw
    case rel=>exact⟨1,by omega,by go_num,HB2,HR2,HB22⟩
    case measure=>simp[intOf]
  . obtain⟨e0,e1,e2,e3⟩:=aD B2.out
    have hs:=HS.out;have hs3:=HS3.out;obtain⟨HFF,hFF⟩:=iT HB.out (g:=w.heap.size+1) (by omega) B2.out HX.out (fun b hb=>by omega);replace hFF:=hdd hFF;replace HFF:Hid (RetZ w.heap.size w (x*y) (.returned (.agg #[.bool bs,.slice As ns cs])) ((wr.setCell ⟨w.heap.size+1,0,none⟩ (.bool bs)).setCell ⟨w.heap.size+1,1,none⟩ (.slice As ns cs))):=HFF;clear hs hs3;go_wp2;obtain⟨f0,f1,-,-⟩:=aD hFF.out;refine bodyPost_ret (v:=.agg #[_,_]) (by simp[results,Tryz.results226,go_sem,f0,f1];first|exact⟨rfl,rfl⟩|rfl) rfl ?_;exact HFF.out
def cmpI(x y:Int):Int:=if x<y then-1 else if y<x then 1 else 0
theorem sQ{x y:Int}(h:x.sign<y.sign):cmpI x y=-1:=by
 have:x<y:=by
  rcases awR x 0 with hx|hx|hx<;>rcases awR y 0 with hy|hy|hy<;>simp_all[awS,awU]<;>omega
 unfold cmpI;rw[if_pos this]
theorem sS{x y:Int}(h:y.sign<x.sign):cmpI x y=1:=by
 have:y<x:=by
  rcases awR x 0 with hx|hx|hx<;>rcases awR y 0 with hy|hy|hy<;>simp_all[awS,awU]<;>omega
 unfold cmpI;rw[if_neg (by omega),if_pos this]
theorem mW{x y:Int}(h:x.sign=y.sign):cmpI x y=x.sign*cmpN x.natAbs y.natAbs:=by
 rcases awR x 0 with hx|hx|hx<;>rcases awR y 0 with hy|hy|hy<;>
  simp_all[awS,awU]<;>simp only[cmpI,cmpN]<;>(repeat' split)<;>omega
theorem aC{a b c:World}(h:Below a.heap.size a b)(k:Below b.heap.size b c):Below a.heap.size a c:=h.trans (k.mono h.size)
theorem ai5{vb:Value}(hx:IntP p w va x)(hy:IntP q w vb y):
 Calls Tryz.prog 227 #[va,vb] w (RetK w (cmpI x y)):=by
 obtain⟨ba,A,n,c,rfl⟩:=hx.shape;obtain⟨bb,A',n',c',rfl⟩:=hy.shape;obtain⟨w2,hw2,hb2,hs2,b1,b2⟩:=pro2 w (.cells #[Value.bool ba,.slice A n c] 223) (.cells #[Value.bool bb,.slice A' n' c'] 223);have HB:=hdd hb2;have H1:=hdd (hx.below hb2);have H2:=hdd (hy.below hb2);have HS:=hdd hs2;have B1:=hdd b1;have B2:=hdd b2;obtain⟨c0,c1,-,-⟩:=aD b1;obtain⟨d0,d1,-,-⟩:=aD b2;clear hx hy hb2 b1 b2 hs2;go_enter Tryz.func227,Tryz.ntmps227
 go_wp2_with fail
 have HSA:Hid (∀w',Below w2.heap.size w2 w'->Calls Tryz.prog 175 #[.agg #[.bool ba,.slice A n c]] w' (RetK w' x.sign)):=hdd fun w' h=>qK (H1.out.below h);have HSB:Hid (∀w',Below w2.heap.size w2 w'->Calls Tryz.prog 175 #[.agg #[.bool bb,.slice A' n' c']] w' (RetK w' y.sign)):=hdd fun w' h=>qK (H2.out.below h);have HBW:Below w2.heap.size w2 w2.drew:=(Below.refl _ _).drew;replace c0:w2.drew.cell? ⟨w.heap.size,0,none⟩=some (.bool ba):=c0;replace c1:w2.drew.cell? ⟨w.heap.size,1,none⟩=some (.slice A n c):=c1;replace d0:w2.drew.cell? ⟨w.heap.size+1,0,none⟩=some (.bool bb):=d0;replace d1:w2.drew.cell? ⟨w.heap.size+1,1,none⟩=some (.slice A' n' c'):=d1
 go_region_held3 (fun w'=>w'.cell? ⟨w.heap.size,0,none⟩=some (.bool ba)/\w'.cell? ⟨w.heap.size,1,none⟩=some (.slice A n c)/\w'.cell? ⟨w.heap.size+1,0,none⟩=some (.bool bb)/\w'.cell? ⟨w.heap.size+1,1,none⟩=some (.slice A' n' c')) (go_keep)
  (first
  |(go_at_call 175
    with_reducible refine(HSA.out _ (by assumption)).mono ?_
    rintro e w3⟨rfl,hb⟩;have c0:=cbl c0 hb;have c1:=cbl c1 hb;have d0:=cbl d0 hb;have d1:=cbl d1 hb;have HBW:=aC HBW hb)
  |(go_at_call 175
    with_reducible refine(HSB.out _ (by assumption)).mono ?_
    rintro e w3⟨rfl,hb⟩;have c0:=cbl c0 hb;have c1:=cbl c1 hb;have d0:=cbl d0 hb;have d1:=cbl d1 hb;have HBW:=aC HBW hb))
 have HBF:=hdd (HB.out.trans (HBW.mono HB.out.size));obtain⟨xs,hx1,hx2,hx3,-⟩:=(H1.out.below HBW).get;obtain⟨ys,hy1,hy2,hy3,-⟩:=(H2.out.below HBW).get;have HX1:=hdd hx1;have HY1:=hdd hy1;have HX3:=hdd hx3;have HY3:=hdd hy3;clear hx1 hx2 hx3 hy1 hy2 hy3 HBW;have HLT:=hdd (@sQ x y);have HGT:=hdd (@sS x y);have HEQ:=hdd (@mW x y);generalize x.sign=s at*;generalize y.sign=t at*;rcases awR s t with h|h|h
 . have h2:=HLT.out h
   have HF:Hid (RetK w (cmpI x y) (.returned (.int .i64 (-1))) _):=hdd ⟨by rw[h2],HBF.out⟩;clear h2;go_wp2;go_ret;exact HF.out
 . subst h
   have h2:=HEQ.out rfl;rw[<-HX3.out,<-HY3.out]at h2;have hb:-1<=cmpI x y/\cmpI x y<=1:=by unfold cmpI;(repeat' split)<;>omega
   have HF0:=hdd h2;have HBB:=hdd hb;clear h2 hb;go_wp2_with fail
   refine(nY HX1.out HY1.out).mono ?_;rintro e w7⟨rfl,k,rfl⟩;have HF:=hdd (HBF.out.trans ((below_drewN _ k).mono HBF.out.size));have hm:=HF0.out;have hb1:=HBB.out.1;have hb2:=HBB.out.2;generalize cmpN (val xs) (val ys)=m at*;rw[hm]at hb1 hb2;have HR:Hid (RetK w (cmpI x y) (.returned (.int .i64 (s*m))) _):=hdd ⟨by rw[hm],HF.out⟩;go_wp2;go_ret;exact HR.out
 . have h2:=HGT.out h
   have HF:Hid (RetK w (cmpI x y) (.returned (.int .i64 1)) _):=hdd ⟨by rw[h2],HBF.out⟩;have h3:¬s<t:=by omega
   clear h2;go_wp2;go_ret;exact HF.out
end Go.Proofs.YtjaafolhfihegaaGreatDoor
namespace Go.Proofs.YtjaafolhfihegaaGreatDoor
open Ieee
open Nat renaming two_pow_pos->awY,le_of_mul_le_mul_right->awZ,pow_add->aw0,le_trans->aw1,pow_le_pow_right->aw2,mul_assoc->aw3,lt_or_ge->aw4,le_of_eq->aw5,mul_lt_mul_of_pos_right->aw6,eq_zero_or_pos->aw7,lt_log2_self->aw8,pow_zero->aw9,mul_one->axA,mul_le_mul_left->axB,lt_of_lt_of_le->axC,add_sub_cancel->axD,one_shiftLeft->axE,pow_succ->axF,shiftLeft_eq->axG,min_eq_left->axH,le_total->axI,mul_comm->axJ,mul_pos->axK
def mg(r:Nat):Nat:=if r<2^52 then r else(2^52+r%2^52)*2^(r/2^52-1)
theorem aoT(neg:Bool)(n d k:Nat)(h:k*2^d<=n):k<=Toward.even.cut neg n d:=by
 unfold Toward.cut;simp only[axE];rcases axI d (n.log2+2)with hd|hd
 . rw[axH hd]
   have:k<=n/2^d:=(Nat.le_div_iff_mul_le (awY d)).2 h;omega
 . have hn:n<2^d:=axC (aw8 (n:=n)) (aw2 (by omega) (by omega))
   rcases aw7 k with rfl|hk
   . exact Nat.zero_le _
   . have:2^d<=k*2^d:=Nat.le_mul_of_pos_left _ hk
     omega
theorem aoU(neg:Bool)(n d k:Nat)(h:n<=k*2^d):Toward.even.cut neg n d<=k:=by
 unfold Toward.cut;simp only[axE];have base:∀g low rest:Nat,n=g*low+rest->rest<g->n<=k*g->low+(decide (g<2*rest)||(g==2*rest&&low%2==1)).toNat<=k:=by
  intro g low rest h1 h2 h3;have hlow:low<=k:=by
   refine Nat.le_of_mul_le_mul_left (c:=g) ?_ (by omega);rw[axJ g k];omega
  rcases aw4 low k with hlt|hge
  . have:(decide (g<2*rest)||(g==2*rest&&low%2==1)).toNat<=1:=Bool.toNat_le _
    omega
  . have hk:low=k:=by omega
    subst hk;have hr:rest=0:=by rw[axJ low g]at h3;omega
    subst hr;have h0:0<g:=h2;have e1:decide (g<2*0)=false:=by simp
    have e2:(g==2*0)=false:=by simp;omega
    rw[e1,e2];simp
 rcases axI d (n.log2+2)with hd|hd
 . rw[axH hd]
   exact base (2^d) (n/2^d) (n%2^d) (Nat.div_add_mod n _).symm (Nat.mod_lt _ (awY d)) h
 . rw[Nat.min_eq_right hd]
   have hn:n<2^(n.log2+1):=aw8 (n:=n);have hp:2^(n.log2+2)=2*2^(n.log2+1):=by rw[axF];omega
   have e0:n/2^(n.log2+2)=0:=Nat.div_eq_of_lt (by omega);have e1:n%2^(n.log2+2)=n:=Nat.mod_eq_of_lt (by omega);rw[e0,e1];have f1:decide (2^(n.log2+2)<2*n)=false:=by simp;omega
   have f2:(2^(n.log2+2)==2*n)=false:=by simp;omega
   rw[f1,f2];simp
def rg(mag:Nat)(place:Int):Nat:=if mag=0 then 0 else min ((max (place+mag.log2-52) (-1074)+1074).toNat*2^52+Toward.even.cut false (mag <<< (place-max (place+mag.log2-52) (-1074)).toNat) (max (place+mag.log2-52) (-1074)-place).toNat) (2047*2^52)
theorem lV:double.leastPlace=-1074:=by decide
theorem kZ:double.binade=2^52:=by decide
theorem pW:double.infRung=2047*2^52:=by decide
theorem rU:double.signWeight=2^63:=by decide
theorem lW(neg:Bool)(mag:Nat)(place:Int):double.nearest neg mag place=double.word neg (rg mag place):=by
 unfold Format.nearest rg
 split
 . rfl
 . simp only[lV,kZ,pW]
   rfl
theorem oG(k:Nat){a b:Nat}(h:a=b):k*2^a=k*2^b:=by rw[h]
theorem ae8(mag:Nat)(place:Int)(h0:mag≠0)(t:Nat)(ht:0<=place+t)(ht2:1074<=t):∃E K:Nat,
 rg mag place=min (E*2^52+K) (2047*2^52)/\
 (∀k,k*2^E*2^(t-1074)<=mag*2^(place+t).toNat->k<=K)/\
 (∀k,mag*2^(place+t).toNat<=k*2^E*2^(t-1074)->K<=k)/\
 mag*2^(place+t).toNat<2^53*2^E*2^(t-1074)/\
 (0<E->2^52*2^E*2^(t-1074)<=mag*2^(place+t).toNat):=by
 unfold rg;rw[if_neg h0];generalize hl:max (place+mag.log2-52) (-1074)=last;have hl1:-1074<=last:=by omega
 have hl2:place+mag.log2-52<=last:=by omega
 have hlog1:2^mag.log2<=mag:=Nat.log2_self_le h0;have hlog2:mag<2^(mag.log2+1):=aw8;generalize mag.log2=L at*;refine⟨(last+1074).toNat,_,rfl,?_,?_,?_,?_⟩
 all_goals
  obtain⟨E,hE⟩:∃E:Nat,(last+1074).toNat=E:=⟨_,rfl⟩;rw[hE];obtain⟨A,hA⟩:∃A:Nat,(place+t).toNat=A:=⟨_,rfl⟩;rw[hA]
 . intro k hk
   refine aoT _ _ _ _ ?_;rw[axG];rcases Int.le_total place last with hp|hp
   . have e1:(place-last).toNat=0:=by omega
     rw[e1,aw9,axA];refine awZ (c:=2^A) ?_ (awY A);refine aw1 (aw5 ?_) hk;rw[aw3,aw3,<-aw0,<-aw0];exact oG _ (by omega)
   . have e1:(last-place).toNat=0:=by omega
     rw[e1,aw9,axA];refine awZ (c:=2^(E+(t-1074))) ?_ (awY _);refine aw1 (aw5 ?_) (aw1 hk (aw5 ?_))
     . rw[aw3,<-aw0]
     . rw[aw3,<-aw0];exact oG _ (by omega)
 . intro k hk
   refine aoU _ _ _ _ ?_;rw[axG];rcases Int.le_total place last with hp|hp
   . have e1:(place-last).toNat=0:=by omega
     rw[e1,aw9,axA];refine awZ (c:=2^A) ?_ (awY A);refine aw1 hk (aw5 ?_);rw[aw3,aw3,<-aw0,<-aw0];exact oG _ (by omega)
   . have e1:(last-place).toNat=0:=by omega
     rw[e1,aw9,axA];refine awZ (c:=2^(E+(t-1074))) ?_ (awY _);refine aw1 (aw5 ?_) (aw1 hk (aw5 ?_))
     . rw[aw3,<-aw0];exact oG _ (by omega)
     . rw[aw3,<-aw0]
 . refine axC (aw6 hlog2 (awY A)) ?_
   rw[<-aw0,<-aw0,<-aw0];exact aw2 (by omega) (by omega)
 . intro hpos
   refine aw1 ?_ (Nat.mul_le_mul_right _ hlog1);rw[<-aw0,<-aw0,<-aw0];exact aw2 (by omega) (by omega)
theorem lC(r:Nat)(h:r<2^53):mg r=r:=by
 unfold mg
 split
 . rfl
 . have:r/2^52=1:=by omega
   rw[this];simp;omega
theorem jQ(r:Nat)(h:2^52<=r):mg r=(2^52+r%2^52)*2^(r/2^52-1):=by
 unfold mg;rw[if_neg (by omega)]
theorem aoB(mag:Nat)(place:Int)(t:Nat)(ht:0<=place+t)(ht2:1074<=t)(c:Nat)(hc:c<=2047*2^52)(h:mg c*2^(t-1074)<=mag*2^(place+t).toNat):c<=rg mag place:=by
 by_cases h0:mag=0
 . have:mg c=0:=by
    subst h0;rcases aw7 (mg c)with h1|h1
    . exact h1
    . have:=axK h1 (awY (t-1074));omega
   have hc0:c=0:=by
    rcases aw4 c (2^53)with h1|h1
    . rwa[lC c h1]at this
    . rw[jQ c (by omega)]at this
      have h9:0<2^52+c%2^52:=by omega
      have:=axK h9 (awY (c/2^52-1));omega
   omega
 obtain⟨E,K,e,h1,h2,h3,h4⟩:=ae8 mag place h0 t ht ht2;rw[e];refine Nat.le_min.2 ⟨?_,hc⟩;rcases aw4 c (E*2^52)with hlt|hge
 . omega
 have hT:=awY (t-1074);have hmg:mg c<2^53*2^E:=Nat.lt_of_mul_lt_mul_right (Nat.lt_of_le_of_lt h h3);rcases aw4 c (2^52)with hs|hs
 . -- subnormal
   have hE:E=0:=by omega
   subst hE;have hck:=h1 c (by rw[lC c (by omega)]at h;simpa using h);exact aw1 hck (Nat.le_add_left _ _)
 . rw[jQ c hs]at hmg h
   obtain⟨q,hq⟩:∃q,c/2^52=q+1:=⟨c/2^52-1,by omega⟩;rw[hq,axD]at hmg h;have hqE:q<=E:=by
    rcases aw4 E q with hlt|hge
    . exfalso
      have:2^(E+1)<=2^q:=aw2 (by omega) hlt;rw[axF]at this;have h5:(2^52)*(2^E*2)<=(2^52+c%2^52)*2^q:=Nat.mul_le_mul (by omega) this;omega
    . exact hge
   rcases aw4 q E with hlt|hge'
   . have:=h1 (2^52) (h4 (by omega))
     omega
   . have hqe:q=E:=by omega
     subst hqe;have:=h1 _ h;omega
theorem ai6(mag:Nat)(place:Int)(t:Nat)(ht:0<=place+t)(ht2:1074<=t)(c:Nat)(h:mag*2^(place+t).toNat<=mg c*2^(t-1074)):rg mag place<=c:=by
 by_cases h0:mag=0
 . subst h0;unfold rg;simp
 obtain⟨E,K,e,h1,h2,h3,h4⟩:=ae8 mag place h0 t ht ht2;rw[e];refine aw1 (Nat.min_le_left _ _) ?_;have hT:=awY (t-1074);have hK:=h2 (2^53) (Nat.le_of_lt h3);rcases aw4 c (2^52)with hs|hs
 . rcases aw7 E with rfl|hE
   . have:=h2 c (by rw[lC c (by omega)]at h;simpa using h)
     omega
   . exfalso
     have h5:=awZ (aw1 (h4 hE) h) hT;rw[lC c (by omega)]at h5;have:1<=2^E:=awY E;have:=axB (2^52) this;omega
 . rw[jQ c hs]at h
   obtain⟨q,hq⟩:∃q,c/2^52=q+1:=⟨c/2^52-1,by omega⟩;rw[hq,axD]at h;rcases Nat.lt_trichotomy q E with hlt|heq|hgt
   . exfalso
     have h5:=awZ (aw1 (h4 (by omega)) h) hT;have:2^(q+1)<=2^E:=aw2 (by omega) hlt;rw[axF]at this;have h6:(2^52+c%2^52)*2^q<(2^52*2)*2^q:=aw6 (by omega) (awY q);have h7:2^52*(2^q*2)<=2^52*2^E:=axB _ this;omega
   . subst heq
     have:=h2 _ h;omega
   . have:(E+2)*2^52<=c:=by omega
     omega
end Go.Proofs.YtjaafolhfihegaaGreatDoor
