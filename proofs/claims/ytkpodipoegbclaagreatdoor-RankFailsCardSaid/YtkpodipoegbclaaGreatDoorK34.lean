/- The law holds: the Go function answers true for every input that its row speaks of, and leaves its arguments as they were. -/
import Derived.Test.YtkpodipoegbclaaGreatDoorK12
import Derived.Test.YtkpodipoegbclaaGreatDoorK14
import Derived.Test.YtkpodipoegbclaaGreatDoorK33
import Derived.Test.YtkpodipoegbclaaGreatDoorTie
import Derived.Test.YtkpodipoegbclaaGreatDoorCards
import Derived.SevenTiedAt
set_option linter.unusedVariables false
set_option linter.unusedSimpArgs false
set_option maxHeartbeats 25600000
set_option maxRecDepth 100000
namespace Go.Proofs.YtkpodipoegbclaaGreatDoor
open Go.ChangeShapes Go.WideShapes Go.ChangeAt Go.RowKit
theorem rankFails_lifted(os:Os)(started:os.Started)(H:Type)(enc:TypeId×Value->H):
 ReturnsInHanded {} Tryz.checked os 5 .any (fun w args=>(Rows.rankFailsSpec.pre enc Tryz.prog Tryz.f5 Rows.rankFailsRow.domain false w args/\laidMetH Tryz.prog nV w)/\sizedMet enc Tryz.prog Tryz.f5 (OpenSpec.ofChange Rows.rankFailsSpec) false w args)
  (Rows.rankFailsSpec.post enc Tryz.prog Tryz.f5 false true false false):=by
 refine returnsInHanded_of_change_and (C:=Tryz.checked) (X:=fun w _=>laidMetH Tryz.prog nV w) (fun _ _ _ hh h=>h.of_heap hh) akZ started (by kernel_rfl) Tryz.func5
  (ChangeSpec.witness_shaped (enc:=enc) (C:=Tryz.checked) (os:=os) (X:=fun w _=>laidMetH Tryz.prog nV w) false (zI os) #[.slice none 0 0] 8 (af3 _)
    (World.shaped_of_ZipB (by kernel_rfl) (by kernel_rfl)) (by kernel_rfl) (by kernel_rfl) (by kernel_rfl)
    (adA _ _)) ?_
 intro W base args ds gs before hval0 hW hcnd _ hL _;have hval:∀(j:Nat) t v,Tryz.f5.params[j]? =some t->args[j]? =some v->Value.okWide Tryz.prog W .any base t v:=hval0;have hW':=hW;obtain⟨p,q,hA0,hV,rfl,hfz,hnd⟩:=hW;have hA:DataW.TrodAll enc Tryz.prog W 0 (fun _=>true) true Tryz.f5.params.toList args.toList ds p:=hA0;rw[Tryz.params5]at hA hval;obtain⟨v0,vs0,d0,ds0,p0,q0,hargs,rfl,rfl,h0,r0⟩:=trodAll_cons hA;obtain⟨rfl,rfl,rfl⟩:=trodAll_nil r0;obtain rfl:args=#[v0]:=by cases args;simp_all
 obtain⟨rfl,rfl⟩:=trodVars_none hV;obtain⟨pl0,xs0,cp0,rfl,hx0⟩:=ak2 Tryz.underlying48 Tryz.underlying3 xN (hval 0 48 v0 rfl rfl) h0;clear hA0 hval0;simp only[List.append_nil,List.nil_append]at hW';have hT:=zG hL;refine(wL hT (am1 hT) (zH hL) hx0).mono fun e W' ⟨he,hb⟩=> ?_;subst he;have hh:∀b,b<W.heap.size->W'.heap[b]? =W.heap[b]? :=fun b h=>hb.block b h;exact⟨_,rfl,afX hW' rfl (by kernel_rfl) rfl (fun sp hs=>by have h9:=(trodAll_cons_mk (am2 Tryz.underlying48 (aiN Tryz.underlying3) (by rw[xN];decide) hh h0 (fun p hp=>hW'.lt p hp) hs) trodAll_mk0);simp only[List.append_nil,List.nil_append]at h9;exact h9) hb⟩
theorem rankFails_facts:joinedFacts Tryz.prog 5 Tryz.f5 Rows.rankFailsSpec Rows.rankFailsRow=true:=by
 simp only[joinedFacts,Bool.and_eq_true]
 repeat' apply And.intro
 all_goals (as_aux_lemma=>kernel_rfl)
theorem rankFails_row:Rows.RankFailsSaid:=
 OpenClaim.holds_of_wide 5 Tryz.f5 rfl rfl rfl rfl rfl rfl rfl ⟨rfl,rfl,rfl,rfl,rfl⟩ rfl rfl rfl rfl rfl (by as_aux_lemma=>kernel_rfl) Tryz.func5 rankFails_facts
  (of_decide_eq_true (by as_aux_lemma=>kernel_rfl)) (by unfold Func.isWrapper;first|(rw[if_pos (by decide+kernel)];kernel_rfl)|(rw[if_neg (by decide+kernel)];exact⟨rfl,rfl⟩))
  (fun os started H enc _=>rankFails_lifted os started H enc)
theorem rankFails_holds:Rows.RankFailsCardSaid:=
 Claim7.holds_tied_plain_at .later [] [.data, .handle] true (true, "5eb55f32acd6f23cf1be11dbe93ae6432ee46420a03d74f0438c64c71d1244cb") true
  rankFails_row (fun _ h=>by cases h) (by as_aux_lemma=>kernel_rfl) (fun _ h=>by cases h) rankFails_row_tie rfl ⟨rfl,rfl⟩ (by as_aux_lemma=>kernel_rfl) rfl
  (fun f fn hf hfn=>by
    obtain rfl : f = 5 := Option.some.inj ((show Tryz.prog.funcNamed "compass/compasslaw16.RankFails" = some 5 by as_aux_lemma => kernel_rfl).symm.trans hf) |>.symm
    obtain rfl:fn=Tryz.f5:=(Option.some.inj (Tryz.func5.symm.trans hfn)).symm;exact⟨by as_aux_lemma=>kernel_rfl,fun j t ht=>by
     rw[Tryz.params5]at ht;have h3:t=48:=by
      rcases j with _|j
      . simpa using ht.symm
      . simp at ht
     rcases h3 with rfl
     . exact(show Tryz.prog.wantsStandIn 48=false by as_aux_lemma=>kernel_rfl)⟩)
  (by as_aux_lemma=>kernel_rfl)
end Go.Proofs.YtkpodipoegbclaaGreatDoor
