/- The law holds: the Go function answers true for every input that its row speaks of, and leaves its arguments as they were. -/
import Derived.Test.YtkadpnljocflaaaGreatDoorK41
import Derived.Test.YtkadpnljocflaaaGreatDoorK42
import Derived.Test.YtkadpnljocflaaaGreatDoorTie
import Derived.Test.YtkadpnljocflaaaGreatDoorCards
import Derived.SevenTiedAt
set_option linter.unusedVariables false
set_option linter.unusedSimpArgs false
set_option linter.unnecessarySimpa false
set_option maxHeartbeats 25600000
set_option maxRecDepth 100000
namespace Go.Proofs.YtkadpnljocflaaaGreatDoor
open Go.ChangeShapes Go.WideShapes Go.ChangeAt Go.RowKit
theorem realSums_lifted(os:Os)(started:os.Started)(H:Type)(enc:TypeId×Value->H):
 ReturnsInHanded {} Tryz.checked os 4 .any (fun w args=>(Rows.realSumsSpec.pre enc Tryz.prog Tryz.f4 Rows.realSumsRow.domain false w args/\laidMetH Tryz.prog akW w)/\sizedMet enc Tryz.prog Tryz.f4 (OpenSpec.ofChange Rows.realSumsSpec) false w args)
  (Rows.realSumsSpec.post enc Tryz.prog Tryz.f4 false true false false):=by
 refine returnsInHanded_of_change_and (C:=Tryz.checked) (X:=fun w _=>laidMetH Tryz.prog akW w) (fun _ _ _ hh h=>h.of_heap hh) al5 started (by kernel_rfl) Tryz.func4
  (ChangeSpec.witness_shaped (enc:=enc) (C:=Tryz.checked) (os:=os) (X:=fun w _=>laidMetH Tryz.prog akW w) false (World.laidAll Tryz.prog os akW) #[.slice none 0 0] 8 (World.laidAll_os _ _ _)
    (World.shaped_of_ZipB (by kernel_rfl) (by kernel_rfl)) (by kernel_rfl) (by kernel_rfl) (by kernel_rfl)
    (by rw[MakeChecks.laidMetH_plain _ _ _ (by kernel_rfl)];exact laidMet_laidAll _ (by kernel_rfl) (by kernel_rfl))) ?_
 intro W base args ds gs before hval0 hW hcnd _ hL _;have hval:∀(j:Nat) t v,Tryz.f4.params[j]? =some t->args[j]? =some v->Value.okWide Tryz.prog W .any base t v:=hval0;have hW':=hW;obtain⟨p,q,hA0,hV,rfl,hfz,hnd⟩:=hW;have hA:DataW.TrodAll enc Tryz.prog W 0 (fun _=>true) true Tryz.f4.params.toList args.toList ds p:=hA0;rw[Tryz.params4]at hA hval;obtain⟨v0,vs0,d0,ds0,p0,q0,hargs,rfl,rfl,h0,r0⟩:=trodAll_cons hA;obtain⟨rfl,rfl,rfl⟩:=trodAll_nil r0;obtain rfl:args=#[v0]:=by cases args;simp_all
 obtain⟨rfl,rfl⟩:=trodVars_none hV;obtain⟨pl0,xs0,cp0,rfl,hx0⟩:=al8 Tryz.underlying42 Tryz.underlying3 ak3 (hval 0 42 v0 rfl rfl) h0;clear hA0 hval0;simp only[List.append_nil,List.nil_append]at hW';have hT:=ak5 hL;refine(ak1 hT (amK hT) hx0).mono fun e W' ⟨he,hb⟩=> ?_;subst he;have hh:∀b,b<W.heap.size->W'.heap[b]? =W.heap[b]? :=fun b h=>hb.block b h;exact⟨_,rfl,alK hW' rfl (by kernel_rfl) rfl (fun sp hs=>by have h9:=(trodAll_cons_mk (amL Tryz.underlying42 (alQ Tryz.underlying3) (by rw[ak3];decide) hh h0 (fun p hp=>hW'.lt p hp) hs) trodAll_mk0);simp only[List.append_nil,List.nil_append]at h9;exact h9) hb⟩
theorem realSums_facts:joinedFacts Tryz.prog 4 Tryz.f4 Rows.realSumsSpec Rows.realSumsRow=true:=by
 simp only[joinedFacts,Bool.and_eq_true]
 repeat' apply And.intro
 all_goals (as_aux_lemma=>kernel_rfl)
theorem realSums_row:Rows.RealSumsSaid:=
 OpenClaim.holds_of_wide 4 Tryz.f4 rfl rfl rfl rfl rfl rfl rfl ⟨rfl,rfl,rfl,rfl,rfl⟩ rfl rfl rfl rfl rfl (by as_aux_lemma=>kernel_rfl) Tryz.func4 realSums_facts
  (of_decide_eq_true (by as_aux_lemma=>kernel_rfl)) (by unfold Func.isWrapper;first|(rw[if_pos (by decide+kernel)];kernel_rfl)|(rw[if_neg (by decide+kernel)];exact⟨rfl,rfl⟩))
  (fun os started H enc _=>realSums_lifted os started H enc)
theorem realSums_holds:Rows.RealSumsCardSaid:=
 Claim7.holds_tied_plain_at .later [] [.data, .data, .data] true (true, "135aa13165156e4c7360f2534f4fb723e4b594b867499b88a8eaa8e2c9d315af") false
  realSums_row (fun _ h=>by cases h) (by as_aux_lemma=>kernel_rfl) (fun _ h=>by cases h) realSums_row_tie rfl ⟨rfl,rfl⟩ (by as_aux_lemma=>kernel_rfl) rfl
  (fun f fn hf hfn=>by
    obtain rfl : f = 4 := Option.some.inj ((show Tryz.prog.funcNamed "compass/compasslaw15.RealSums" = some 4 by as_aux_lemma => kernel_rfl).symm.trans hf) |>.symm
    obtain rfl:fn=Tryz.f4:=(Option.some.inj (Tryz.func4.symm.trans hfn)).symm;exact⟨by as_aux_lemma=>kernel_rfl,fun j t ht=>by
     rw[Tryz.params4]at ht;have h3:t=42:=by
      rcases j with _|j
      . simpa using ht.symm
      . simp at ht
     rcases h3 with rfl
     . exact(show Tryz.prog.wantsStandIn 42=false by as_aux_lemma=>kernel_rfl)⟩)
  (by as_aux_lemma=>kernel_rfl)
end Go.Proofs.YtkadpnljocflaaaGreatDoor
