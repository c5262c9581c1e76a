/- A part of the proof: contracts of functions and plain laws (HelB, ArE, MnB, TuD, ArG). -/
import Derived.Test.YtjdgaogkioabeaaGreatDoorK07
import Derived.Deep.RegionHeld3
import Derived.Test.YtjdgaogkioabeaaGreatDoorK34
import Derived.Test.YtjdgaogkioabeaaGreatDoorK33
import Derived.Deep.AppendLies
import Derived.Test.YtjdgaogkioabeaaGreatDoorK20
import Derived.Laws.StructEq
set_option linter.unusedVariables false
set_option linter.unusedSimpArgs false
set_option maxHeartbeats 25600000
set_option maxRecDepth 100000
namespace Go.Proofs.YtjdgaogkioabeaaGreatDoor
section
open Go.RowKit
open Decidable renaming em->bi0
open Go.Region renaming ready->biZ,noSelect_spec->bi1,wanted->bi2,free_spec->bi3,noSelect->bi4,binds->bi5,free->bi6
variable{a:Act}{fuel:Nat}{w:World}
section
variable{P:Program}{ops:Array Oper}{Q:Exit->Act->World->Prop}{md:Region.Mode}{S:World->Prop}{Z:Nat->Bool}
def anyH(P:Program)(md:Region.Mode)(ops:Array Oper)(Q:Exit->Act->World->Prop)(S:World->Prop)(Z:Nat->Bool):Nat->Array Bool->Act->World->Prop
 |0,listed,a,w=>biZ md ops listed=[]/\Q .normal a w
 |fuel+1,listed,a,w=>(biZ md ops listed=[]->Q .normal a w)/\
  ∀i∈biZ md ops listed,wpOp P ops Q i (fun a' w'=>(Z i=true->S w')/\anyH P md ops Q S Z fuel (listed.setIfInBounds i true) a' w') a w
theorem ac5:∀(fuel:Nat) (listed:Array Bool) (a:Act) (w:World),anyH P md ops Q S Z fuel listed a w->wpAny P md ops Q fuel listed a w
 |0,_,_,_,h=>h
 |fuel+1,_,_,_,h=>⟨h.1,fun i hi=>wpOp_mono (fun a' w' h'=>ac5 fuel _ a' w' h'.2) (h.2 i hi)⟩
theorem xF{T:World->Prop}{i:Nat}{oi:Oper}{v:Value}(hi:ops[i]? =some oi)(hsel:∀(j:Nat) (o:Oper) cs b,ops[j]? =some o->o.op≠.select cs b)
 (hQ:∀c a w,Q (.panic c) (a.put oi.dst v) w->Q (.panic c) a w) (fuel:Nat):
 ∀(listed:Array Bool) (a:Act) (w:World),
  ((∀w,T w)/\Z i=false\/(∀w,S w->T w)/\(T w->S w)/\∀k,k<ops.size->Z k=true\/listed.getD k true=true\/Region.waitsFor md ops k i=true)->
  (∀j oj,ops[j]? =some oj->j≠i->listed.getD j true=false->(∀e∈oj.after,bi5 md e=true->e.on≠i)->oi.apart ops oj=true)->
  i∈biZ md ops listed->YieldsIf P ops T oi v a->T w->
  anyH P md ops Q S Z fuel (listed.setIfInBounds i true) (a.put oi.dst v) w->anyH P md ops Q S Z (fuel+1) listed a w:=by
 induction fuel with
 |zero=>
  intro listed a w hiz _ hr hy hS H;refine⟨fun h=>(by rw[h]at hr;cases hr),fun j hj=> ?_⟩;rcases bi0 (j=i)with rfl|hji
  . exact hy.wpOp hi hS ⟨fun hz=>by
     rcases hiz with ⟨-,h⟩|⟨-,h,-⟩
     . rw[hz]at h;cases h
     . exact h hS,H⟩
  . have h0:=ready_mono hj hji
    rw[H.1]at h0;cases h0
 |succ fuel ih=>
  intro listed a w hiz hfree hr hy hS H;refine⟨fun h=>(by rw[h]at hr;cases hr),fun j hj=> ?_⟩;rcases bi0 (j=i)with rfl|hji
  . exact hy.wpOp hi hS ⟨fun hz=>by
     rcases hiz with ⟨-,h⟩|⟨-,h,-⟩
     . rw[hz]at h;cases h
     . exact h hS,H⟩
  obtain⟨hjun,oj,hoj,hall⟩:=mem_ready.1 hj;have hun:listed.getD i true=false:=(mem_ready.1 hr).1;have hnot:∀e∈oj.after,bi5 md e=true->e.on≠i:=by
   intro e he hb heq;have hl:=hall e he hb;rw[heq]at hl;rcases Nat.lt_or_ge i listed.size with h|h
   . simp[h]at hun hl;rw[hun]at hl;cases hl
   . simp[Array.getElem?_eq_none h]at hl
  have hTS:∀w',(Z j=true->S w')->T w'/\((∀w,T w)/\Z i=false\/(∀w,S w->T w)/\(T w'->S w')/\∀k,k<ops.size->Z k=true\/(listed.setIfInBounds j true).getD k true=true\/Region.waitsFor md ops k i=true):=fun w' h=>by
   rcases hiz with ⟨hz,hz2⟩|⟨hz,-,hw⟩
   . exact⟨hz w',Or.inl ⟨hz,hz2⟩⟩
   . rcases hw j (Array.getElem?_eq_some_iff.1 hoj).1 with hl|hl|hl
     . refine⟨hz _ (h hl),Or.inr ⟨hz,fun _=>h hl,fun k hk=> ?_⟩⟩
       rcases hw k hk with e|e|e
       . exact Or.inl e
       . refine Or.inr (Or.inl ?_)
         rcases bi0 (j=k)with rfl|hjk
         . rw[hjun]at e;cases e
         . rwa[getD_set_ne true hjk]
       . exact Or.inr (Or.inr e)
     . rw[hjun]at hl;cases hl
     . obtain⟨oz,hoz,e,he,hb,hon⟩:=Region.waitsFor_spec hl
       rw[hoj]at hoz
       cases hoz
       exact(hnot e he hb hon).elim
  have step:=wpOp_putIf hoj (hfree j oj hoj hji hjun hnot) (fun cs b=>hsel i oi cs b hi) (fun cs b=>hsel j oj cs b hoj) hQ hy (H.2 j (ready_mono hj hji));refine wpOp_mono (fun a' w' hh=>⟨hh.2.1,ih (listed.setIfInBounds j true) a' w' (hTS w' hh.2.1).2 ?_ (ready_mono hr (Ne.symm hji)) hh.1 (hTS w' hh.2.1).1 ?_⟩) step
  . intro k ok hk hki hku hno
    refine hfree k ok hk hki ?_ hno;rcases bi0 (j=k)with rfl|hjk
    . exact hjun
    . rwa[getD_set_ne true hjk]at hku
  . rw[Array.setIfInBounds_comm _ _ hji];exact hh.2.2
theorem dK(i:Nat){oi:Oper}(v:Value){listed:Array Bool}(hy:∀w,S w->(execOp a.eval oi).run P w=.ok (.value v) w)(h:anyH P md ops Q S Z fuel (listed.setIfInBounds i true) (a.put oi.dst v) w)(hS:S w)
 (hi:ops[i]? =some oi:=by rfl) (hz:((List.range ops.size).all fun k=>Z k||listed.getD k true||Region.waitsFor md ops k i)=true:=by kernel_rfl) (hs:bi4 ops=true:=by kernel_rfl) (hf:bi6 md ops listed i=true:=by kernel_rfl) (hr:(biZ md ops listed).contains i=true:=by kernel_rfl)
 (hQ:∀c a w,Q (.panic c) (a.put oi.dst v) w->Q (.panic c) a w:=by exact fun _ _ _ h=>h) (hw:bi2 oi (yielded ops a.tmps)=true:=by rfl):anyH P md ops Q S Z (fuel+1) listed a w:=
 xF hi (bi1 hs) hQ fuel listed a w (Or.inr ⟨fun _ h=>h,fun h=>h,fun k hk=>by
  have:=List.all_eq_true.1 hz k (List.mem_range.2 hk);simpa[or_assoc]using this⟩) (bi3 hi hf) (by simpa using hr) (Or.inl ⟨hw,hy⟩) hS h
theorem rQ(i:Nat){oi:Oper}(v:Value){listed:Array Bool}(hy:∀w,(execOp a.eval oi).run P w=.ok (.value v) w)(h:anyH P md ops Q S Z fuel (listed.setIfInBounds i true) (a.put oi.dst v) w)
 (hi:ops[i]? =some oi:=by rfl) (hz:Z i=false:=by rfl) (hs:bi4 ops=true:=by kernel_rfl) (hf:bi6 md ops listed i=true:=by kernel_rfl) (hr:(biZ md ops listed).contains i=true:=by kernel_rfl)
 (hQ:∀c a w,Q (.panic c) (a.put oi.dst v) w->Q (.panic c) a w:=by exact fun _ _ _ h=>h) (hw:bi2 oi (yielded ops a.tmps)=true:=by rfl):anyH P md ops Q S Z (fuel+1) listed a w:=
 xF (T:=fun _=>True) hi (bi1 hs) hQ fuel listed a w (Or.inl ⟨fun _=>trivial,hz⟩) (bi3 hi hf) (by simpa using hr) (Or.inl ⟨hw,fun w _=>hy w⟩) trivial h
theorem iF(i:Nat){o:Oper}{listed:Array Bool}(hr:biZ md ops listed=[i])(ho:ops[i]? =some o)
 (h:∀K':Act->World->Prop,Shut (∀a w,(Z i=true->S w)->anyH P md ops Q S Z fuel (listed.setIfInBounds i true) a w->K' a w)->if bi2 o (yielded ops a.tmps)=true then Oper.wp P o a w K' Q else K' (a.put o.dst undef) w):
 anyH P md ops Q S Z (fuel+1) listed a w:=
 ⟨fun h0=>(by rw[hr]at h0;cases h0),fun j hj=>by
   rw[hr]at hj;obtain rfl:j=i:=by simpa using hj
   exact wpOp_step ho (fun K' hK=>h K' (fun a w h1 h2=>hK a w ⟨h1,h2⟩))⟩
theorem rR{listed:Array Bool}(hr:biZ md ops listed=[])(h:Q .normal a w):anyH P md ops Q S Z fuel listed a w:=by
 cases fuel
 . exact⟨hr,h⟩
 . exact⟨fun _=>h,by rw[hr];simp⟩
theorem oV(S:World->Prop)(Z:Nat->Bool){id:Nat}(hm:P.follows .mixedOrders=true)
 (h:anyH P .any ops Q S Z ops.size (Array.replicate ops.size false) a w.drew):(Code.region id ops true).wp P Q a w:=
 wp_region_any hm (ac5 _ _ _ _ h)
end
end
section
open Go.RowKit Go.Maps Go.Stop Go.Extern
open Go.Act renaming put->bjD
open List renaming setIfInBounds_toArray->bi7,set_cons_zero->bi8,set_cons_succ->bi9,sublist_append_right->bjA,mem_append_right->bjB,mem_cons_self->bjF,length_append->bjG,perm_middle->bjH
open List.Sublist renaming append->bjC,refl->bjE
variable{r:Bool}{c c1 c2 c3:Int}{b f0 f1:Nat}{P Q:Prop}
section
variable{s:Bs}{g N M:Nat}{K:List (Ex×Nat)}{L L1:List (Nat×Obj)}{W:World}{v:Value}
theorem Run.mid {o:Obj}(hR:Run s g N K (L1++(b,o)::L) W):Run s g N K ((b,o)::(L1++L)) W:=hR.perm bjH.symm
theorem Run.put4 {T:TypeId}{u0 u1 u2 u3:Value}(v0 v1 v2 v3:Value)(hR:Run s g N K (L1++(b,.cells #[u0,u1,u2,u3] T)::L) W):∃w',(((W.setCell ⟨b,0,none⟩ v0).setCell ⟨b,1,none⟩ v1).setCell ⟨b,2,none⟩ v2).setCell ⟨b,3,none⟩ v3=w'/\Run s g N K (L1++(b,.cells #[v0,v1,v2,v3] T)::L) w':=
 ⟨_,rfl,(Run.write hR.mid (jV [v0,v1,v2,v3] 0 W) (xD (vs:=[v0,v1,v2,v3]) (hR.mid.at (bjF ..)) rfl)).perm bjH⟩
end
section
variable{g i j k l ca cb cc i' j' k' l' ca' cb' cc':Nat}{kd kd':Int}{A1 A2 B1 B2 C1 C2 D1 D2:Ex}{K0 KA KB:List (Ex×Nat)}
theorem ac6(h:FnOk 35 g 21 #[.pointer (some ⟨g,0,none⟩),curV 1 ca cb cc,curV 1 ca' cb' cc'] [] (fun _=>.tuple #[.bool r,.nilIface]) []):
 FnOk 20 g 21 #[.pointer (some ⟨g,0,none⟩),curV 1 ca cb cc,curV 1 ca' cb' cc'] [] (fun _=>.tuple #[.bool r,.nilIface]) []:=fun s N K L W hR hN hK=>by
 obtain⟨w1,hw1,b1,b2,hR⟩:=hR.box2 (curO 1 ca cb cc) (curO 1 ca' cb' cc');obtain⟨x0,x1,x2,x3⟩:=aD b1;obtain⟨z0,z1,z2,z3⟩:=aD b2;have HC:=hdd (h.use hR hN (fun p hp=>by cases hp));clear b1 b2 hR h hN hK;go_enter Tryz.func20,Tryz.ntmps20
 go_wp2_with fail
 refine HC.out.mono ?_;rintro e w2⟨rfl,hR⟩;have HF:Hid (RtN s g (N+21) K L (fun _=>.tuple #[.bool r,.nilIface]) [] (.returned (.tuple #[.bool r,.nilIface])) w2):=hdd (by exact RtN.fin (L1:=[_,_]) hR (by omega));clear hR;go_wp2
 go_ret2
 exact HF.out
theorem ac7(h:∀w,Calls Tryz.prog 36 #[curV 2 ca cb cc,curV 2 ca' cb' cc'] w (RetV w (.bool r))):
 FnOk 20 g 21 #[.pointer (some ⟨g,0,none⟩),curV 2 ca cb cc,curV 2 ca' cb' cc'] [] (fun _=>.tuple #[.bool r,.nilIface]) []:=fun s N K L W hR hN hK=>by
 obtain⟨w1,hw1,b1,b2,hR⟩:=hR.box2 (curO 2 ca cb cc) (curO 2 ca' cb' cc');obtain⟨x0,x1,x2,x3⟩:=aD b1;obtain⟨z0,z1,z2,z3⟩:=aD b2;have HC:=hdd (RetV.run (c:=fun _=>True) hR (h w1));have HN:=hdd hN;clear b1 b2 hR h hN hK;go_enter Tryz.func20,Tryz.ntmps20
 go_wp2_with fail
 refine HC.out.mono ?_;rintro e w2⟨rfl,hR⟩;have HF:Hid (RtN s g (N+21) K L (fun _=>.tuple #[.bool r,.nilIface]) [] (.returned (.tuple #[.bool r,.nilIface])) w2):=hdd (by exact RtN.fin (L1:=[_,_]) hR (by omega));clear hR;go_wp2
 go_ret2
 exact HF.out
theorem ah8(h:gQ PT A1 A2 B1 B2 c):
 FnOk 52 g 2 #[aT g kd ca cb cc i j k l] [(A1,i),(A2,j),(B1,k),(B2,l)] (fun _=>bif decide (0<c)then .tuple #[bD g k l,bD g i j,.nilIface]else .tuple #[bD g i j,bD g k l,.nilIface]) []:=fun s N K L W hR hN hK=>by
 obtain⟨w1,hw1,b1,hR⟩:=hR.box1 (eD g kd ca cb cc i j k l);obtain⟨x0,x1,x2,x3,x4,x5,x6,x7,x8,x9,x10,x11⟩:=aF b1;obtain⟨w2,hw2,b2,b3,hR⟩:=hR.box2 (.cells #[.pointer none,.int .i64 0,.pointer none,.int .i64 0] 36) (.cells #[.pointer none,.int .i64 0,.pointer none,.int .i64 0] 36);obtain⟨x0,x1,x2,x3,x4,x5,x6,x7,x8,x9,x10,x11⟩:=aF (hR.at m2);have HC:=hdd (hR.cmpS hN (hK _ m0) (hK _ m1) (hK _ m2) (hK _ m3) h);clear b1 b2 b3 hR h hN hK;go_enter Tryz.func52,Tryz.ntmps52
 go_wp2_with fail
 refine HC.out.mono ?_;rintro e w3⟨rfl,hR⟩;obtain⟨x0,x1,x2,x3,x4,x5,x6,x7,x8,x9,x10,x11⟩:=aF (hR.at m2);obtain⟨y0,y1,y2,y3⟩:=aD (hR.at m1);obtain⟨z0,z1,z2,z3⟩:=aD (hR.at m0);have HR:=hdd hR;clear hR
 cases e1:decide (0<c)
 . go_upto_region 6 with fail
   refine wp_region_noPanic ?_;refine oV (fun w'=>w'.cell? ⟨W.heap.size,4,none⟩=some (.pointer (some ⟨g,0,none⟩))/\w'.cell? ⟨W.heap.size,5,none⟩=some (.int .i64 (i:Int))/\w'.cell? ⟨W.heap.size,6,none⟩=some (.pointer (some ⟨g,0,none⟩))/\w'.cell? ⟨W.heap.size,7,none⟩=some (.int .i64 (j:Int))/\w'.cell? ⟨W.heap.size,8,none⟩=some (.pointer (some ⟨g,0,none⟩))/\w'.cell? ⟨W.heap.size,9,none⟩=some (.int .i64 (k:Int))/\w'.cell? ⟨W.heap.size,10,none⟩=some (.pointer (some ⟨g,0,none⟩))/\w'.cell? ⟨W.heap.size,11,none⟩=some (.int .i64 (l:Int))) (fun _=>true) (by kernel_rfl) ?_;have b2:=HR.out.at m1;have b3:=HR.out.at m0;have hS:(fun w'=>w'.cell? ⟨W.heap.size,4,none⟩=some (.pointer (some ⟨g,0,none⟩))/\w'.cell? ⟨W.heap.size,5,none⟩=some (.int .i64 (i:Int))/\w'.cell? ⟨W.heap.size,6,none⟩=some (.pointer (some ⟨g,0,none⟩))/\w'.cell? ⟨W.heap.size,7,none⟩=some (.int .i64 (j:Int))/\w'.cell? ⟨W.heap.size,8,none⟩=some (.pointer (some ⟨g,0,none⟩))/\w'.cell? ⟨W.heap.size,9,none⟩=some (.int .i64 (k:Int))/\w'.cell? ⟨W.heap.size,10,none⟩=some (.pointer (some ⟨g,0,none⟩))/\w'.cell? ⟨W.heap.size,11,none⟩=some (.int .i64 (l:Int))) w3.drew:=⟨x4,x5,x6,x7,x8,x9,x10,x11⟩
   have f2:=frzI b2;have f3:=frzI b3;clear x0 x1 x2 x3 x4 x5 x6 x7 x8 x9 x10 x11 b2 b3;refine dK 0 (.pointer (some ⟨W.heap.size,4,none⟩)) ?_ ?_ hS
   . intro w' hw;(try dsimp only at hw);go_split_ands;go_simp;all_goals rfl
   simp only[bjD,bi7,bi8,bi9];refine dK 1 (.agg #[.pointer (some ⟨g,0,none⟩),.int .i64 (i:Int),.pointer (some ⟨g,0,none⟩),.int .i64 (j:Int)]) ?_ ?_ hS
   . intro w' hw;(try dsimp only at hw);go_split_ands;go_simp;all_goals rfl
   simp only[bjD,bi7,bi8,bi9];refine dK 2 (.pointer (some ⟨W.heap.size,8,none⟩)) ?_ ?_ hS
   . intro w' hw;(try dsimp only at hw);go_split_ands;go_simp;all_goals rfl
   simp only[bjD,bi7,bi8,bi9];refine dK 3 (.agg #[.pointer (some ⟨g,0,none⟩),.int .i64 (k:Int),.pointer (some ⟨g,0,none⟩),.int .i64 (l:Int)]) ?_ ?_ hS
   . intro w' hw;(try dsimp only at hw);go_split_ands;go_simp;all_goals rfl
   simp only[bjD,bi7,bi8,bi9];refine iF 4 (by kernel_rfl) rfl fun K' hK=> ?_;go_simp;obtain⟨w4,hw4,hR⟩:=HR.out.put4 (L1:=[_]) (.pointer (some ⟨g,0,none⟩)) (.int .i64 (i:Int)) (.pointer (some ⟨g,0,none⟩)) (.int .i64 (j:Int));simp only[hw4];obtain⟨-,-,-,-,hS⟩:=aF (hR.at m2);refine hK.out _ _ (fun _=>hS) ?_;clear hw4 hK hS HR y0 y1 y2 y3 z0 z1 z2 z3 f2 f3;have b3:=hR.at m0;have f3:=frzI b3;obtain⟨z0,z1,z2,z3⟩:=aD b3;refine iF 5 (by kernel_rfl) rfl fun K' hK=> ?_;go_simp;obtain⟨w5,hw5,hR⟩:=hR.put4 (L1:=[]) (.pointer (some ⟨g,0,none⟩)) (.int .i64 (k:Int)) (.pointer (some ⟨g,0,none⟩)) (.int .i64 (l:Int));simp only[hw5];obtain⟨-,-,-,-,hS⟩:=aF (hR.at m2);refine hK.out _ _ (fun _=>hS) ?_;clear hw5 hK z0 z1 z2 z3 f3 b3;refine iF 6 (by kernel_rfl) rfl fun K' hK=> ?_;go_simp;refine hK.out _ _ (fun _=>hS) ?_;refine rR (by kernel_rfl) ?_;refine NoPanic.normal ?_;have hR:=hR.drew;clear hK;generalize w5.drew=w6 at hR|-
   obtain⟨y0,y1,y2,y3⟩:=aD (hR.at m1);obtain⟨z0,z1,z2,z3⟩:=aD (hR.at m0);have HF:=hdd (RtN.fin (L1:=[_,_,_]) (N:=N+2) (v:=.tuple #[(.agg #[.pointer (some ⟨g,0,none⟩),.int .i64 (i:Int),.pointer (some ⟨g,0,none⟩),.int .i64 (j:Int)]),(.agg #[.pointer (some ⟨g,0,none⟩),.int .i64 (k:Int),.pointer (some ⟨g,0,none⟩),.int .i64 (l:Int)]),.nilIface]) hR (by omega));clear hR;go_wp2;exact bodyPost_ret (v:=.tuple #[(.agg #[.pointer (some ⟨g,0,none⟩),.int .i64 (i:Int),.pointer (some ⟨g,0,none⟩),.int .i64 (j:Int)]),(.agg #[.pointer (some ⟨g,0,none⟩),.int .i64 (k:Int),.pointer (some ⟨g,0,none⟩),.int .i64 (l:Int)]),.nilIface]) (by simp[results,Tryz.results52,go_sem,y0,y1,y2,y3,z0,z1,z2,z3]) rfl HF.out
 . go_upto_region 5 with fail
   refine wp_region_noPanic ?_;refine oV (fun w'=>w'.cell? ⟨W.heap.size,4,none⟩=some (.pointer (some ⟨g,0,none⟩))/\w'.cell? ⟨W.heap.size,5,none⟩=some (.int .i64 (i:Int))/\w'.cell? ⟨W.heap.size,6,none⟩=some (.pointer (some ⟨g,0,none⟩))/\w'.cell? ⟨W.heap.size,7,none⟩=some (.int .i64 (j:Int))/\w'.cell? ⟨W.heap.size,8,none⟩=some (.pointer (some ⟨g,0,none⟩))/\w'.cell? ⟨W.heap.size,9,none⟩=some (.int .i64 (k:Int))/\w'.cell? ⟨W.heap.size,10,none⟩=some (.pointer (some ⟨g,0,none⟩))/\w'.cell? ⟨W.heap.size,11,none⟩=some (.int .i64 (l:Int))) (fun _=>true) (by kernel_rfl) ?_;have b2:=HR.out.at m1;have b3:=HR.out.at m0;have hS:(fun w'=>w'.cell? ⟨W.heap.size,4,none⟩=some (.pointer (some ⟨g,0,none⟩))/\w'.cell? ⟨W.heap.size,5,none⟩=some (.int .i64 (i:Int))/\w'.cell? ⟨W.heap.size,6,none⟩=some (.pointer (some ⟨g,0,none⟩))/\w'.cell? ⟨W.heap.size,7,none⟩=some (.int .i64 (j:Int))/\w'.cell? ⟨W.heap.size,8,none⟩=some (.pointer (some ⟨g,0,none⟩))/\w'.cell? ⟨W.heap.size,9,none⟩=some (.int .i64 (k:Int))/\w'.cell? ⟨W.heap.size,10,none⟩=some (.pointer (some ⟨g,0,none⟩))/\w'.cell? ⟨W.heap.size,11,none⟩=some (.int .i64 (l:Int))) w3.drew:=⟨x4,x5,x6,x7,x8,x9,x10,x11⟩
   have f2:=frzI b2;have f3:=frzI b3;clear x0 x1 x2 x3 x4 x5 x6 x7 x8 x9 x10 x11 b2 b3;refine dK 0 (.pointer (some ⟨W.heap.size,8,none⟩)) ?_ ?_ hS
   . intro w' hw;(try dsimp only at hw);go_split_ands;go_simp;all_goals rfl
   simp only[bjD,bi7,bi8,bi9];refine dK 1 (.agg #[.pointer (some ⟨g,0,none⟩),.int .i64 (k:Int),.pointer (some ⟨g,0,none⟩),.int .i64 (l:Int)]) ?_ ?_ hS
   . intro w' hw;(try dsimp only at hw);go_split_ands;go_simp;all_goals rfl
   simp only[bjD,bi7,bi8,bi9];refine dK 2 (.pointer (some ⟨W.heap.size,4,none⟩)) ?_ ?_ hS
   . intro w' hw;(try dsimp only at hw);go_split_ands;go_simp;all_goals rfl
   simp only[bjD,bi7,bi8,bi9];refine dK 3 (.agg #[.pointer (some ⟨g,0,none⟩),.int .i64 (i:Int),.pointer (some ⟨g,0,none⟩),.int .i64 (j:Int)]) ?_ ?_ hS
   . intro w' hw;(try dsimp only at hw);go_split_ands;go_simp;all_goals rfl
   simp only[bjD,bi7,bi8,bi9];refine iF 4 (by kernel_rfl) rfl fun K' hK=> ?_;go_simp;obtain⟨w4,hw4,hR⟩:=HR.out.put4 (L1:=[_]) (.pointer (some ⟨g,0,none⟩)) (.int .i64 (k:Int)) (.pointer (some ⟨g,0,none⟩)) (.int .i64 (l:Int));simp only[hw4];obtain⟨-,-,-,-,hS⟩:=aF (hR.at m2);refine hK.out _ _ (fun _=>hS) ?_;clear hw4 hK hS HR y0 y1 y2 y3 z0 z1 z2 z3 f2 f3;have b3:=hR.at m0;have f3:=frzI b3;obtain⟨z0,z1,z2,z3⟩:=aD b3;refine iF 5 (by kernel_rfl) rfl fun K' hK=> ?_;go_simp;obtain⟨w5,hw5,hR⟩:=hR.put4 (L1:=[]) (.pointer (some ⟨g,0,none⟩)) (.int .i64 (i:Int)) (.pointer (some ⟨g,0,none⟩)) (.int .i64 (j:Int));simp only[hw5];obtain⟨-,-,-,-,hS⟩:=aF (hR.at m2);refine hK.out _ _ (fun _=>hS) ?_;clear hw5 hK z0 z1 z2 z3 f3 b3;refine iF 6 (by kernel_rfl) rfl fun K' hK=> ?_;go_simp;refine hK.out _ _ (fun _=>hS) ?_;refine rR (by kernel_rfl) ?_;refine NoPanic.normal ?_;have hR:=hR.drew;clear hK;generalize w5.drew=w6 at hR|-
   obtain⟨y0,y1,y2,y3⟩:=aD (hR.at m1);obtain⟨z0,z1,z2,z3⟩:=aD (hR.at m0);have HF:=hdd (RtN.fin (L1:=[_,_,_]) (N:=N+2) (v:=.tuple #[(.agg #[.pointer (some ⟨g,0,none⟩),.int .i64 (k:Int),.pointer (some ⟨g,0,none⟩),.int .i64 (l:Int)]),(.agg #[.pointer (some ⟨g,0,none⟩),.int .i64 (i:Int),.pointer (some ⟨g,0,none⟩),.int .i64 (j:Int)]),.nilIface]) hR (by omega));clear hR;go_wp2;exact bodyPost_ret (v:=.tuple #[(.agg #[.pointer (some ⟨g,0,none⟩),.int .i64 (k:Int),.pointer (some ⟨g,0,none⟩),.int .i64 (l:Int)]),(.agg #[.pointer (some ⟨g,0,none⟩),.int .i64 (i:Int),.pointer (some ⟨g,0,none⟩),.int .i64 (j:Int)]),.nilIface]) (by simp[results,Tryz.results52,go_sem,y0,y1,y2,y3,z0,z1,z2,z3]) rfl HF.out
theorem aoL{b:Bool}(h:b=true)(s:b=true/\P\/b=false/\Q):P:=s.elim (·.2) fun x=>by rw[h]at x;cases x.1
theorem aoM{b:Bool}(h:b=false)(s:b=true/\P\/b=false/\Q):Q:=s.elim (fun x=>by rw[h]at x;cases x.1) (·.2)
theorem aaY{p0 p1 q0 q1 u0 u1 v0 v1 t0 t1:Nat}{P1 P2 Q1 Q2 U1 U2 V1 V2 F1 F2 T1 T2:Ex}
 (hE:FnOk 52 g 2 #[aT g kd ca cb cc i j k l] KA (fun _=>.tuple #[bD g p0 p1,bD g q0 q1,.nilIface]) []) (hE':FnOk 52 g 2 #[aT g kd' ca' cb' cc' i' j' k' l'] KB (fun _=>.tuple #[bD g u0 u1,bD g v0 v1,.nilIface]) [])
 (hA:∀p∈KA,p∈K0) (hB:∀p∈KB,p∈K0) (hC:∀p∈[(P1,p0),(P2,p1),(Q1,q0),(Q2,q1),(U1,u0),(U2,u1),(V1,v0),(V2,v1),(F1,f0),(F2,f1),(T1,t0),(T2,t1)],p∈K0)
 (h1:gQ PT P1 P2 U1 U2 c1) (h2:gQ PT Q1 Q2 V1 V2 c2) (h3:gQ PT F1 F2 T1 T2 c3)
 (hf:decide (c1<0)=true/\f0=u0/\f1=u1\/decide (c1<0)=false/\f0=p0/\f1=p1) (ht:decide (0<c2)=true/\t0=v0/\t1=v1\/decide (0<c2)=false/\t0=q0/\t1=q1):
 FnOk 33 g 10 #[aT g kd ca cb cc i j k l,aT g kd' ca' cb' cc' i' j' k' l'] K0 (fun _=>.tuple #[bD g f0 f1,.int .i64 c3,.nilIface]) []:=fun s N K L W hR hN hK=>by
 obtain⟨w1,hw1,b1,b2,hR⟩:=hR.box2 (eD g kd ca cb cc i j k l) (eD g kd' ca' cb' cc' i' j' k' l');obtain⟨x0,x1,x2,x3,x4,x5,x6,x7,x8,x9,x10,x11⟩:=aF b1;obtain⟨w2,hw2,-,hR⟩:=hR.box1 (.cells #[.pointer none,.int .i64 0,.pointer none,.int .i64 0] 36);obtain⟨x0,x1,x2,x3,x4,x5,x6,x7,x8,x9,x10,x11⟩:=aF (hR.at m2);have HC:=hdd (hE.use hR (by omega) fun p hp=>hK p (hA p hp));have HE:=hdd hE';have HB:=hdd hB;have HN:=hdd hN;have HK:=hdd hK;have HM:=hdd hC;have H1:=hdd h1;have H2:=hdd h2;have H3:=hdd h3;have HF:=hdd hf;have HT:=hdd ht;clear b1 b2 hR hE hE' hA hB hC h1 h2 h3 hf ht hN hK;go_enter Tryz.func33,Tryz.ntmps33
 go_wp2_with fail
 refine HC.out.mono ?_;rintro e w3⟨rfl,hR⟩;obtain⟨w4,hw4,-,-,hR⟩:=hR.box2 (dN g p0 p1) (dN g q0 q1);obtain⟨z0,z1,z2,z3,z4,z5,z6,z7,z8,z9,z10,z11⟩:=aF (hR.at m3);have HC:=hdd (HE.out.use hR (by have:=HN.out;omega) fun p hp=>HK.out p (HB.out p hp));clear hR;go_wp2_with fail
 refine HC.out.mono ?_;rintro e w5⟨rfl,hR⟩;obtain⟨w6,hw6,-,-,hR⟩:=hR.box2 (dN g u0 u1) (dN g v0 v1);obtain⟨x0,x1,x2,x3⟩:=aD (hR.at m3);obtain⟨z0,z1,z2,z3⟩:=aD (hR.at m1);have HC:=hdd (hR.cmpS (by have:=HN.out;omega) (HK.out _ (HM.out _ m0)) (HK.out _ (HM.out _ m1)) (HK.out _ (HM.out _ m4)) (HK.out _ (HM.out _ m5)) H1.out);clear hR;go_wp2_with fail
 refine HC.out.mono ?_;rintro e w7⟨rfl,hR⟩
 cases h1:decide (c1<0)
 case' true=>
  obtain⟨rfl,rfl⟩:f0=u0/\f1=u1:=aoL h1 HF.out;obtain⟨x0,x1,x2,x3⟩:=aD (hR.at m1);obtain⟨z0,z1,z2,z3⟩:=aD (hR.at m3);have f3:=frzI (hR.at m3);have HR:=hdd hR;clear hR
  go_upto_region 12 with fail
  obtain⟨w8,hw8,hR⟩:=HR.out.put4 (L1:=[_,_,_]) (.pointer (some ⟨g,0,none⟩)) (.int .i64 (f0:Int)) (.pointer (some ⟨g,0,none⟩)) (.int .i64 (f1:Int));simp only[hw8];clear hw8 HR f3 x0 x1 x2 x3 z0 z1 z2 z3;have R8:=hdd hR;clear hR
 case' false=>
  obtain⟨rfl,rfl⟩:f0=p0/\f1=p1:=aoM h1 HF.out
  go_upto_region 12 with fail
  have R8:=hdd hR;clear hR;generalize w7=w8 at*
 all_goals
  obtain⟨x0,x1,x2,x3⟩:=aD (R8.out.at m2);obtain⟨z0,z1,z2,z3⟩:=aD (R8.out.at m0);have HC:=hdd (R8.out.cmpS (by have:=HN.out;omega) (HK.out _ (HM.out _ m2)) (HK.out _ (HM.out _ m3)) (HK.out _ (HM.out _ m6)) (HK.out _ (HM.out _ m7)) H2.out);clear R8;go_wp2_with fail
  refine HC.out.mono ?_;rintro e w9⟨rfl,hR⟩
  cases h2:decide (0<c2)
  case' true=>
   obtain⟨rfl,rfl⟩:t0=v0/\t1=v1:=aoL h2 HT.out;obtain⟨x0,x1,x2,x3⟩:=aD (hR.at m0);obtain⟨z0,z1,z2,z3⟩:=aD (hR.at m2);have f3:=frzI (hR.at m2);have HR:=hdd hR;clear hR
   go_upto_region 17 with fail
   obtain⟨w10,hw10,hR⟩:=HR.out.put4 (L1:=[_,_]) (.pointer (some ⟨g,0,none⟩)) (.int .i64 (t0:Int)) (.pointer (some ⟨g,0,none⟩)) (.int .i64 (t1:Int));simp only[hw10];clear hw10 HR f3 x0 x1 x2 x3 z0 z1 z2 z3;have R10:=hdd hR;clear hR
  case' false=>
   obtain⟨rfl,rfl⟩:t0=q0/\t1=q1:=aoM h2 HT.out
   go_upto_region 17 with fail
   have R10:=hdd hR;clear hR;generalize w9=w10 at*
  all_goals
   obtain⟨x0,x1,x2,x3⟩:=aD (R10.out.at m3);obtain⟨z0,z1,z2,z3⟩:=aD (R10.out.at m2);have HC:=hdd (R10.out.cmpS (by have:=HN.out;omega) (HK.out _ (HM.out _ m8)) (HK.out _ (HM.out _ m9)) (HK.out _ (HM.out _ m10)) (HK.out _ (HM.out _ m11)) H3.out);clear R10;go_wp2_with fail
   refine HC.out.mono ?_;rintro e w11⟨rfl,hR⟩;obtain⟨x0,x1,x2,x3⟩:=aD (hR.at m3);obtain⟨z0,z1,z2,z3⟩:=aD (hR.at m4);have f4:=frzI (hR.at m4);have HF:=hdd hR;clear hR;go_wp2;obtain⟨w12,hw12,hR⟩:=HF.out.put4 (L1:=[_,_,_,_]) (.pointer (some ⟨g,0,none⟩)) (.int .i64 (f0:Int)) (.pointer (some ⟨g,0,none⟩)) (.int .i64 (f1:Int));simp only[hw12];clear hw12 HF f4 x0 x1 x2 x3 z0 z1 z2 z3;obtain⟨x0,x1,x2,x3⟩:=aD (hR.at m4);exact bodyPost_ret (v:=.tuple #[(.agg #[.pointer (some ⟨g,0,none⟩),.int .i64 (f0:Int),.pointer (some ⟨g,0,none⟩),.int .i64 (f1:Int)]),.int .i64 c3,.nilIface]) (by simp[results,Tryz.results33,go_sem,x0,x1,x2,x3]) rfl (RtN.fin (L1:=[_,_,_,_,_,_,_]) hR (by omega))
end
def sZ(f:FuncId)(g d:Nat)(av:Array Value)(K0:List (Ex×Nat))(Post:List (Ex×Nat)->List (Nat×Obj)->Ending->Prop):Prop:=
 ∀(s:Bs) (N:Nat) (K:List (Ex×Nat)) (l:List (Nat×Obj)) (W:World),Run s g N K l W->N+d<=20000->(∀p∈K0,p∈K)->Calls Tryz.prog f av W (fun e W'=>∃K1 l1,Post K1 l1 e/\Run s g (N+d) (K1++K) (l1++l) W')
section
variable{s:Bs}{g N n sz:Nat}{K:List (Ex×Nat)}{L lr:List (Nat×Obj)}{W:World}{v:Value}{xs:List Value}{T:TypeId}
theorem af2{ops:Array Oper}{rest:List Oper}{o:Oper}{a:Act}{Q:Exit->Act->World->Prop}{Ts:TypeId}{z:Value}{bytes:Nat}{news:List Value}
 (und:Tryz.prog.underlying Ts=some (.slice T)) (info:(Tryz.prog.info? T).map (fun i=>(i.zero,i.size,i.bytes))=some (some z,sz,bytes)) (hz:z.cells.size=sz) (h0:0<sz) (hO:OwnR T sz v n xs lr) (hR:Run s g N K (lr++L) W) (hb:W.heap[b]? =some (.cells news.toArray T))
 (hl:news.length=sz) (h1:∀u∈news,u.oneCell'=true) (hn:n<=1000) (hby:bytes<=1000) (hgd:o.guard=none) (sl x:Operand) (ho:o.op=.call {callee:=.builtin .append,args:=#[sl,x],argTypes:=#[Ts,Ts]}) (hs:a.eval sl=v) (c:Nat) (hx:a.eval x=.slice (some ⟨b,0,none⟩) 1 c)
 (h:∀r cap lr' w',OwnR T sz (.slice (some ⟨r,0,none⟩) (n+1) cap) (n+1) (xs++news) lr'->Run s g N K (lr'++L) w'->wpList Tryz.prog ops Q rest (a.put o.dst (.slice (some ⟨r,0,none⟩) (n+1) cap)) w'):wpList Tryz.prog ops Q (o::rest) a W:=by
 obtain⟨i,hi,i0,i1,i2⟩:=info_parts info;have h4:(n+1)*bytes<=1001*1000:=Nat.mul_le_mul (by omega) hby;exact wpList_append_lies _ hgd sl x Ts ho 0 T i z sz bytes und hi i0 i1 i2 hz h0 v n xs hs (hO.own hR) ⟨b,0,none⟩ 1 c news hx (by omega) (World.news_of_block hb) h1 (by decide) (by unfold maxLen;omega) (by omega) (Nat.zero_le _) _ rfl fun r cap w' o1 o2 o3 _=>by
  obtain⟨lr',p,q⟩:=hO.grow hR o1 o2 o3;exact h r cap lr' w' p q
theorem ac8{b:Nat}{T:TypeId}:∀(vs pre rest post:List Value) (w:World),w.heap[b]? =some (.cells (pre++(rest++post)).toArray T (0,0))->rest.length=vs.length->(mG w b pre.length vs).heap[b]? =some (.cells (pre++(vs++post)).toArray T (0,0))
 |[],pre,[],_,w,h,_=>h
 |[],_,_::_,_,_,_,e=>by simp at e
 |_::_,_,[],_,_,_,e=>by simp at e
 |v::vs,pre,r::rest,post,w,h,e=>by
  have h1:=lS (k:=pre.length) (v:=v) h;have e1:(pre++(r::rest++post)).set pre.length v=(pre++[v])++(rest++post):=by simp
  rw[e1]at h1;have h2:=ac8 vs (pre++[v]) rest post _ h1 (by simpa using e);rw[List.append_assoc]at h2;rw[bjG,List.length_singleton]at h2;exact h2
theorem OwnR.frz {r c:Nat}(h:OwnR T sz (.slice (some ⟨r,0,none⟩) n c) n xs lr)(hR:Run s g N K (lr++L) W)(k:Nat):W.frozen? ⟨r,k,none⟩=false:=by
 rcases h.2 with ⟨e,-⟩|⟨r',cap,cur,e,rfl,-⟩
 . simp at e
 . simp only[Value.slice.injEq,Option.some.injEq,Addr.mk.injEq]at e
   obtain⟨⟨rfl,-⟩,-,-⟩:=e;exact frzI (hR.at (bjF ..)) k
theorem OwnR.sets {r c:Nat}{vs:List Value}(h:OwnR T sz (.slice (some ⟨r,0,none⟩) n c) n xs lr)(hR:Run s g N K (lr++L) W)(hl:vs.length=xs.length):∃lr',OwnR T sz (.slice (some ⟨r,0,none⟩) n c) n vs lr'/\Run s g N K (lr'++L) (mG W r 0 vs):=by
 rcases h.2 with ⟨e,-⟩|⟨r',cap,cur,e,rfl,h1,h2,h3,h4⟩
 . simp at e
 . simp only[Value.slice.injEq,Option.some.injEq,Addr.mk.injEq]at e
   obtain⟨⟨rfl,-⟩,-,rfl⟩:=e;have hr:=hR.at (bjF ..);have e:cur=(xs++cur.toList.drop (n*sz)).toArray:=by rw[<-h4,List.take_append_drop]
   have hs:=ac8 vs [] xs (cur.toList.drop (n*sz)) W (by rw[List.nil_append,<-e];exact hr) hl.symm;have hx:=h.1;refine⟨[(r,.cells (vs++cur.toList.drop (n*sz)).toArray T)],⟨by omega,Or.inr ⟨r,c,_,rfl,rfl,h1,h2,?_,?_⟩⟩,Run.write hR (jV vs 0 W) hs⟩
   . rw[e]at h3;simp only[List.size_toArray,bjG]at h3|-;omega
   . show(vs++cur.toList.drop (n*sz)).take (n*sz)=vs
     rw[<-hx,<-hl,List.take_left'];rfl
end
theorem af3:Tryz.prog.underlying 47=some (.slice 36):=by kernel_rfl
theorem ac9:(Tryz.prog.info? 36).map (fun i=>(i.zero,i.size,i.bytes))=some (some (.agg #[.pointer none,.int .i64 0,.pointer none,.int .i64 0]),4,32):=by kernel_rfl
theorem xG{a:Nat}(h:FlOk a):(FloatKind.f64.format.order a a==some Ordering.eq)=true:=by
 rw[lM h.2.num h.2.num];exact decide_eq_true rfl
def RowQ(g:Nat)(Q:List (Ex×Nat)->List (Nat×Nat)->Prop)(K1:List (Ex×Nat))(l1:List (Nat×Obj))(e:Ending):Prop:=∃v ps,Q K1 ps/\e=.returned (.tuple #[v,.nilIface])/\OwnR 36 4 v ps.length (spL g ps) l1
section
variable{g i j k l ca cb cc i' j' k' l' ca' cb' cc':Nat}{kd kd':Int}{A1 A2 B1 B2 C1 C2 D1 D2:Ex}{K0 KA KB:List (Ex×Nat)}
theorem aeO{w:World}(h:vV ca cb cc):Calls Tryz.prog 36 #[curV 2 ca cb cc,curV 2 ca cb cc] w (RetV w (.bool true)):=by
 obtain⟨w2,hw2,hb2,hs2,b1,b2⟩:=pro2 w (curO 2 ca cb cc) (curO 2 ca cb cc);obtain⟨c0,c1,c2,c3⟩:=aD b1;obtain⟨d0,d1,d2,d3⟩:=aD b2;have e1:=xG h.1;have e2:=xG h.2.1;have e3:=xG h.2.2.1;have HB:=hdd hb2;have H1:Hid (∀w,Calls Tryz.prog 43 #[curV 2 ca cb cc] w (RetV w .nilIface)):=hdd fun w=>afB h.1 h.2.1 h.2.2.1 h.2.2.2;clear hb2 hs2 h;go_enter Tryz.func36,Tryz.ntmps36
 go_wp2_with fail
 refine(H1.out _).mono ?_;rintro e w3⟨rfl,hb⟩;have HB3:=hdd (HB.out.trans (hb.mono HB.out.size));have b1:=hbl b1 hb;have b2:=hbl b2 hb;obtain⟨c0,c1,c2,c3⟩:=aD b1;obtain⟨d0,d1,d2,d3⟩:=aD b2;clear hb hw2;go_wp2_with fail
 refine(H1.out _).mono ?_;rintro e w4⟨rfl,hb⟩;have HB4:=hdd (HB3.out.trans (hb.mono HB3.out.size));have b1:=hbl b1 hb;have b2:=hbl b2 hb;obtain⟨c0,c1,c2,c3⟩:=aD b1;obtain⟨d0,d1,d2,d3⟩:=aD b2;clear hb;go_wp2;go_ret;exact⟨rfl,HB4.out⟩
theorem aeP{Q:List (Ex×Nat)->List (Nat×Nat)->Prop}(hS:FnOk 33 g 10 #[aT g kd ca cb cc i j k l,aT g kd' ca' cb' cc' i' j' k' l'] K0 (fun _=>.tuple #[bD g f0 f1,.int .i64 c,.nilIface]) [])
 (h0:(c==0)=true->∀K1,Q K1 [(f0,f1)]) (h1:(c==0)=false->∀K1,Q K1 []):
 sZ 23 g 10 #[aT g kd ca cb cc i j k l,aT g kd' ca' cb' cc' i' j' k' l'] K0 (RowQ g Q):=fun s N K L W hR hN hK=>by
 obtain⟨w1,hw1,b1,b2,hR⟩:=hR.box2 (eD g kd ca cb cc i j k l) (eD g kd' ca' cb' cc' i' j' k' l');obtain⟨x0,x1,x2,x3,x4,x5,x6,x7,x8,x9,x10,x11⟩:=aF b1;obtain⟨z0,z1,z2,z3,z4,z5,z6,z7,z8,z9,z10,z11⟩:=aF b2;have HC:=hdd (hS.use hR hN hK);have H0:=hdd h0;have H1:=hdd h1;clear b1 b2 hR hS hN hK h0 h1;go_enter Tryz.func23,Tryz.ntmps23
 go_wp2_with fail
 refine HC.out.mono ?_;rintro e w2⟨rfl,hR⟩;obtain⟨w3,hw3,b1,hR⟩:=hR.box1 (dN g f0 f1);obtain⟨y0,y1,y2,y3⟩:=aD b1;clear b1
 cases e1:(c==0)
 . have HF:Hid (∃K1 l1,RowQ g Q K1 l1 (.returned (.tuple #[.slice none 0 0,.nilIface]))/\Run s g (N+10) (K1++K) (l1++L) w3):=hdd ⟨[],[],⟨_,[],H1.out e1 [],rfl,OwnR.nil _ _⟩,Run.rest (L1:=[_,_,_]) hR⟩
   clear hR;go_wp2
   go_ret2
   exact HF.out
 . obtain⟨w4,hw4,b1,hR⟩:=hR.box1 (dN g f0 f1)
   have HF:Hid (∃K1 l1,RowQ g Q K1 l1 (.returned (.tuple #[.slice (some ⟨w3.heap.size,0,none⟩) 1 1,.nilIface]))/\Run s g (N+10) (K1++K) (l1++L) w4):=hdd ⟨[],[(w3.heap.size,dN g f0 f1)],⟨_,[(f0,f1)],H0.out e1 [],rfl,⟨rfl,Or.inr ⟨_,1,_,rfl,rfl,Nat.le_refl _,by decide,rfl,rfl⟩⟩⟩,(hR.subl (List.Sublist.cons_cons _ (bjA [_,_,_] _)))⟩;clear hR b1;go_wp2
   go_ret2
   exact HF.out
theorem adA{Q:List (Ex×Nat)->List (Nat×Nat)->Prop}(h1:gQ PT A1 A2 D1 D2 c1)(h2:gQ PT C1 C2 B1 B2 c2)(h3:gQ PT A1 A2 C1 C2 c3)(hB:∀p∈[(A1,i),(A2,j),(B1,k),(B2,l),(C1,i'),(C2,j'),(D1,k'),(D2,l')],p∈K0)
 (hQ:∀K1 ps,ps.length=(c1==0).toNat+(c2==0).toNat->Q K1 ps):
 sZ 24 g 6 #[aT g kd ca cb cc i j k l,aT g kd' ca' cb' cc' i' j' k' l'] K0 (RowQ g Q):=fun s N K L W hR hN hK=>by
 obtain⟨w1,hw1,b1,b2,hR⟩:=hR.box2 (eD g kd ca cb cc i j k l) (eD g kd' ca' cb' cc' i' j' k' l');obtain⟨x0,x1,x2,x3,x4,x5,x6,x7,x8,x9,x10,x11⟩:=aF b1;obtain⟨z0,z1,z2,z3,z4,z5,z6,z7,z8,z9,z10,z11⟩:=aF b2;have HB:=hdd hB;have HN:=hdd hN;have HK:=hdd hK;have H2:=hdd h2;have H3:=hdd h3;have HQ:=hdd hQ;have HC:=hdd (hR.same (by omega) (hK _ (hB _ m0)) (hK _ (hB _ m1)) (hK _ (hB _ m6)) (hK _ (hB _ m7)) h1);clear b1 b2 hR h1 h2 h3 hB hN hK hQ;go_enter Tryz.func24,Tryz.ntmps24
 go_wp2_with fail
 refine HC.out.mono ?_;rintro e w2⟨rfl,hR⟩;replace hR:Run s g (N+2) K ([]++((W.heap.size+1,eD g kd' ca' cb' cc' i' j' k' l')::(W.heap.size,eD g kd ca cb cc i j k l)::L)) w2:=hR;obtain⟨x0,x1,x2,x3,x4,x5,x6,x7,x8,x9,x10,x11⟩:=aF (hR.at (bjB _ m1));obtain⟨z0,z1,z2,z3,z4,z5,z6,z7,z8,z9,z10,z11⟩:=aF (hR.at (bjB _ m0));have ho:=OwnR.nil 36 4
 cases e1:(c1==0)
 case' false=>
  have HC:=hdd (hR.same (by have:=HN.out;omega) (HK.out _ (HB.out _ m4)) (HK.out _ (HB.out _ m5)) (HK.out _ (HB.out _ m2)) (HK.out _ (HB.out _ m3)) H2.out);go_wp2_with fail
 case' true=>
  obtain⟨w3,hw3,b1,hR⟩:=hR.box1 (dN g i j);have HY:=hdd b1;have RA:=hdd (Run.rest (L1:=[_]) hR);have HO:=hdd ho;clear b1 hR ho;go_wp2_with (first
   |(at_builtin
     go_loud (
     refine af2 af3 ac9 rfl (by decide) HO.out RA.out HY.out rfl (by simp[Value.oneCell']) (by decide) (by decide) rfl _ _ rfl rfl 1 rfl ?_;intro r1 capr1 lr1 w4 ho hR;obtain⟨x0,x1,x2,x3,x4,x5,x6,x7,x8,x9,x10,x11⟩:=aF (hR.at (bjB _ m1));obtain⟨z0,z1,z2,z3,z4,z5,z6,z7,z8,z9,z10,z11⟩:=aF (hR.at (bjB _ m0));have HC:=hdd (hR.same (by have:=HN.out;omega) (HK.out _ (HB.out _ m4)) (HK.out _ (HB.out _ m5)) (HK.out _ (HB.out _ m2)) (HK.out _ (HB.out _ m3)) H2.out))))
 all_goals
  clear hR;go_wp2_with fail
  refine HC.out.mono ?_;rintro e w5⟨rfl,hR⟩;obtain⟨x0,x1,x2,x3,x4,x5,x6,x7,x8,x9,x10,x11⟩:=aF (hR.at (bjB _ m1));obtain⟨z0,z1,z2,z3,z4,z5,z6,z7,z8,z9,z10,z11⟩:=aF (hR.at (bjB _ m0))
  cases e2:(c2==0)
  case' false=>
   go_upto_region 12 with fail
  case' true=>
   obtain⟨w7,hw7,b1,hR⟩:=hR.box1 (dN g i' j');have HY:=hdd b1;have RA:=hdd (Run.rest (L1:=[_]) hR);have HO:=hdd ho;clear b1 hR ho;go_wp2_with (first
    |(at_builtin
      go_loud (
      refine af2 af3 ac9 rfl (by decide) HO.out RA.out HY.out rfl (by simp[Value.oneCell']) (by decide) (by decide) rfl _ _ rfl rfl 1 rfl ?_;intro r2 capr2 lr2 w8 ho hR
      skip)))
 case false.false=>
  have HF:Hid (∃K1 l1,RowQ g Q K1 l1 (.returned (.tuple #[.slice none 0 0,.nilIface]))/\Run s g (N+6) (K1++K) (l1++L) w5):=hdd ⟨[],_,⟨_,[],HQ.out [] [] (by rw[e1,e2];rfl),rfl,ho⟩,(hR.subl (bjC (bjE _) (bjA [_,_] L))).more (by omega)⟩;clear hR ho;go_wp2
  go_ret2
  exact HF.out
 case true.false=>
  have HF:Hid (∃K1 l1,RowQ g Q K1 l1 (.returned (.tuple #[.slice (some ⟨r1,0,none⟩) 1 capr1,.nilIface]))/\Run s g (N+6) (K1++K) (l1++L) w5):=hdd ⟨[],_,⟨_,[(i,j)],HQ.out [] [(i,j)] (by rw[e1,e2];rfl),rfl,ho⟩,(hR.subl (bjC (bjE _) (bjA [_,_] L))).more (by omega)⟩;clear hR ho;go_wp2
  go_ret2
  exact HF.out
 case false.true=>
  have HF:Hid (∃K1 l1,RowQ g Q K1 l1 (.returned (.tuple #[.slice (some ⟨r2,0,none⟩) 1 capr2,.nilIface]))/\Run s g (N+6) (K1++K) (l1++L) w8):=hdd ⟨[],_,⟨_,[(i',j')],HQ.out [] [(i',j')] (by rw[e1,e2];rfl),rfl,ho⟩,(hR.subl (bjC (bjE _) (bjA [_,_] L))).more (by omega)⟩;clear hR ho
  go_ret2
  exact HF.out
 case true.true=>
  replace ho:OwnR 36 4 (.slice (some ⟨r2,0,none⟩) 2 capr2) 2 (spL g [(i,j),(i',j')]) lr2:=ho;have HO:=hdd ho;have RD:=hdd hR.drew;have HCM:=hdd (RD.out.cmpS (by have:=HN.out;omega) (HK.out _ (HB.out _ m0)) (HK.out _ (HB.out _ m1)) (HK.out _ (HB.out _ m4)) (HK.out _ (HB.out _ m5)) H3.out);clear hR ho x0 x1 x2 x3 x4 x5 x6 x7 x8 x9 x10 x11 z0 z1 z2 z3 z4 z5 z6 z7 z8 z9 z10 z11;obtain⟨_,e3,d0,d1,d2,d3⟩:=HO.out.spot (q:=(i,j)) (j:=0) RD.out rfl;cases e3
  obtain⟨_,e3,d4,d5,d6,d7⟩:=HO.out.spot (q:=(i',j')) (j:=1) RD.out rfl;cases e3
  simp only[Nat.zero_mul,Nat.zero_add,Nat.one_mul]at d0 d1 d2 d3 d4 d5 d6 d7
  go_region_held3 (fun w'=>w'.cell? ⟨r2,0,none⟩=some (.pointer (some ⟨g,0,none⟩))/\w'.cell? ⟨r2,1,none⟩=some (.int .i64 (i:Int))/\w'.cell? ⟨r2,2,none⟩=some (.pointer (some ⟨g,0,none⟩))/\w'.cell? ⟨r2,3,none⟩=some (.int .i64 (j:Int))/\w'.cell? ⟨r2,4,none⟩=some (.pointer (some ⟨g,0,none⟩))/\w'.cell? ⟨r2,5,none⟩=some (.int .i64 (i':Int))/\w'.cell? ⟨r2,6,none⟩=some (.pointer (some ⟨g,0,none⟩))/\w'.cell? ⟨r2,7,none⟩=some (.int .i64 (j':Int))) (go_keep)
   (first
   |(go_at_call 26
     with_reducible refine HCM.out.mono ?_
     rintro e w9⟨rfl,hRm⟩;have R9:=hdd hRm;obtain⟨_,e3,d0,d1,d2,d3⟩:=HO.out.spot (q:=(i,j)) (j:=0) R9.out rfl;cases e3
     obtain⟨_,e3,d4,d5,d6,d7⟩:=HO.out.spot (q:=(i',j')) (j:=1) R9.out rfl;cases e3
     simp only[Nat.zero_mul,Nat.zero_add,Nat.one_mul]at d0 d1 d2 d3 d4 d5 d6 d7;clear hRm))
  clear HCM RD
  cases e3:decide (0<c3)
  . have hR:=R9.out;have ho:=HO.out
    clear R9 d0 d1 d2 d3 d4 d5 d6 d7;have HF:Hid (∃K1 l1,RowQ g Q K1 l1 (.returned (.tuple #[.slice (some ⟨r2,0,none⟩) 2 capr2,.nilIface]))/\Run s g (N+6) (K1++K) (l1++L) w9):=hdd ⟨[],_,⟨_,[(i,j),(i',j')],HQ.out [] [(i,j),(i',j')] (by rw[e1,e2];rfl),rfl,ho⟩,(hR.subl (bjC (bjE _) (bjA [_,_] L))).more (by omega)⟩;clear hR ho;go_wp2
    go_ret2
    exact HF.out
  . go_upto_region 18 with fail
    obtain⟨lr3,ho3,hR3⟩:=HO.out.sets (vs:=[.pointer (some ⟨g,0,none⟩),.int .i64 (i':Int),.pointer (some ⟨g,0,none⟩),.int .i64 (j':Int),.pointer (some ⟨g,0,none⟩),.int .i64 (i:Int),.pointer (some ⟨g,0,none⟩),.int .i64 (j:Int)]) R9.out rfl;have HF:=hdd (show∃K1 l1,RowQ g Q K1 l1 (.returned (.tuple #[.slice (some ⟨r2,0,none⟩) 2 capr2,.nilIface]))/\Run s g (N+6) (K1++K) (l1++L) (mG w9 r2 0 [.pointer (some ⟨g,0,none⟩),.int .i64 (i':Int),.pointer (some ⟨g,0,none⟩),.int .i64 (j':Int),.pointer (some ⟨g,0,none⟩),.int .i64 (i:Int),.pointer (some ⟨g,0,none⟩),.int .i64 (j:Int)]).drew from⟨[],lr3,⟨_,[(i',j'),(i,j)],HQ.out [] [(i',j'),(i,j)] (by rw[e1,e2];rfl),rfl,ho3⟩,((hR3.subl (bjC (bjE _) (bjA [_,_] L))).more (by omega)).drew⟩);have hz:=HO.out.frz R9.out;have hS:(fun w'=>w'.cell? ⟨r2,0,none⟩=some (.pointer (some ⟨g,0,none⟩))/\w'.cell? ⟨r2,1,none⟩=some (.int .i64 (i:Int))/\w'.cell? ⟨r2,2,none⟩=some (.pointer (some ⟨g,0,none⟩))/\w'.cell? ⟨r2,3,none⟩=some (.int .i64 (j:Int))/\w'.cell? ⟨r2,4,none⟩=some (.pointer (some ⟨g,0,none⟩))/\w'.cell? ⟨r2,5,none⟩=some (.int .i64 (i':Int))/\w'.cell? ⟨r2,6,none⟩=some (.pointer (some ⟨g,0,none⟩))/\w'.cell? ⟨r2,7,none⟩=some (.int .i64 (j':Int))) w9.drew:=⟨d0,d1,d2,d3,d4,d5,d6,d7⟩
    clear HO R9 ho3 hR3;simp only[mG]at HF;refine wp_region_noPanic ?_;refine oV (fun w'=>w'.cell? ⟨r2,0,none⟩=some (.pointer (some ⟨g,0,none⟩))/\w'.cell? ⟨r2,1,none⟩=some (.int .i64 (i:Int))/\w'.cell? ⟨r2,2,none⟩=some (.pointer (some ⟨g,0,none⟩))/\w'.cell? ⟨r2,3,none⟩=some (.int .i64 (j:Int))/\w'.cell? ⟨r2,4,none⟩=some (.pointer (some ⟨g,0,none⟩))/\w'.cell? ⟨r2,5,none⟩=some (.int .i64 (i':Int))/\w'.cell? ⟨r2,6,none⟩=some (.pointer (some ⟨g,0,none⟩))/\w'.cell? ⟨r2,7,none⟩=some (.int .i64 (j':Int))) (fun n=>decide (n<9)&&n != 1&&n != 5&&n != 6) (by kernel_rfl) ?_;refine rQ 1 (.slice (some ⟨r2,0,none⟩) 2 capr2) ?_ ?_
    . intro w';go_simp;all_goals rfl
    simp only[bjD,bi7,bi8,bi9];refine rQ 5 (.slice (some ⟨r2,0,none⟩) 2 capr2) ?_ ?_
    . intro w';go_simp;all_goals rfl
    simp only[bjD,bi7,bi8,bi9];refine rQ 6 (.pointer (some ⟨r2,0,none⟩)) ?_ ?_
    . intro w';go_simp;all_goals rfl
    simp only[bjD,bi7,bi8,bi9];refine dK 0 (.slice (some ⟨r2,0,none⟩) 2 capr2) ?_ ?_ hS
    . intro w' hw;(try dsimp only at hw);go_split_ands;go_simp;all_goals rfl
    simp only[bjD,bi7,bi8,bi9];refine dK 2 (.slice (some ⟨r2,0,none⟩) 2 capr2) ?_ ?_ hS
    . intro w' hw;(try dsimp only at hw);go_split_ands;go_simp;all_goals rfl
    simp only[bjD,bi7,bi8,bi9];refine dK 3 (.pointer (some ⟨r2,4,none⟩)) ?_ ?_ hS
    . intro w' hw;(try dsimp only at hw);go_split_ands;go_simp;all_goals rfl
    simp only[bjD,bi7,bi8,bi9];refine dK 4 ((.agg #[.pointer (some ⟨g,0,none⟩),.int .i64 (i':Int),.pointer (some ⟨g,0,none⟩),.int .i64 (j':Int)])) ?_ ?_ hS
    . intro w' hw;(try dsimp only at hw);go_split_ands;go_simp;all_goals rfl
    simp only[bjD,bi7,bi8,bi9];refine dK 7 ((.agg #[.pointer (some ⟨g,0,none⟩),.int .i64 (i:Int),.pointer (some ⟨g,0,none⟩),.int .i64 (j:Int)])) ?_ ?_ hS
    . intro w' hw;(try dsimp only at hw);go_split_ands;go_simp;all_goals rfl
    simp only[bjD,bi7,bi8,bi9];refine dK 8 (.pointer (some ⟨r2,0,none⟩)) ?_ ?_ hS
    . intro w' hw;(try dsimp only at hw);go_split_ands;go_simp;all_goals rfl
    simp only[bjD,bi7,bi8,bi9];clear hS;refine iF 9 (by kernel_rfl) rfl fun K' hK=> ?_;go_simp;refine hK.out _ _ (fun h=>absurd h (by decide)) ?_;clear hK;refine iF 10 (by kernel_rfl) rfl fun K' hK=> ?_;go_simp;refine hK.out _ _ (fun h=>absurd h (by decide)) ?_;clear hK;refine iF 11 (by kernel_rfl) rfl fun K' hK=> ?_;go_simp;refine hK.out _ _ (fun h=>absurd h (by decide)) ?_;clear hK;refine rR (by kernel_rfl) ?_;refine NoPanic.normal ?_
    (try simp only[bjD,bi7,bi8,bi9])
    generalize ((((((((w9.setCell ⟨r2,0,none⟩ (.pointer (some ⟨g,0,none⟩))).setCell ⟨r2,1,none⟩ (.int .i64 (i':Int))).setCell ⟨r2,2,none⟩ (.pointer (some ⟨g,0,none⟩))).setCell ⟨r2,3,none⟩ (.int .i64 (j':Int))).setCell ⟨r2,4,none⟩ (.pointer (some ⟨g,0,none⟩))).setCell ⟨r2,5,none⟩ (.int .i64 (i:Int))).setCell ⟨r2,6,none⟩ (.pointer (some ⟨g,0,none⟩))).setCell ⟨r2,7,none⟩ (.int .i64 (j:Int))).drew=wz at HF|-;clear d0 d1 d2 d3 d4 d5 d6 d7 hz;go_wp2
    go_ret2
    exact HF.out
end
end
end Go.Proofs.YtjdgaogkioabeaaGreatDoor
