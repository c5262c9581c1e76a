/- The law holds: the Go function answers true for every input that its row speaks of, and leaves its arguments as they were. -/
import Derived.Test.YtebocijmegkfgaaGreatDoorK41
import Derived.Test.YtebocijmegkfgaaGreatDoorK49
import Derived.Test.YtebocijmegkfgaaGreatDoorTie
import Derived.Test.YtebocijmegkfgaaGreatDoorCards
import Derived.SevenTiedAt
set_option linter.unusedVariables false
set_option linter.unusedSimpArgs false
set_option linter.unnecessarySimpa false
set_option maxHeartbeats 25600000
set_option maxRecDepth 100000
namespace Go.Proofs.YtebocijmegkfgaaGreatDoor
open Go.ChangeShapes Go.WideShapes Go.ChangeAt Go.RowKit
theorem realFloors_lifted(os:Os)(started:os.Started)(H:Type)(enc:TypeId×Value->H):
 ReturnsInHanded {} Tryz.checked os 6 .any (fun w args=>(Rows.realFloorsSpec.pre enc Tryz.prog Tryz.f6 Rows.realFloorsRow.domain false w args/\laidMetH Tryz.prog alT w)/\sizedMet enc Tryz.prog Tryz.f6 (OpenSpec.ofChange Rows.realFloorsSpec) false w args)
  (Rows.realFloorsSpec.post enc Tryz.prog Tryz.f6 false true false false):=by
 refine returnsInHanded_of_change_and (C:=Tryz.checked) (X:=fun w _=>laidMetH Tryz.prog alT w) (fun _ _ _ hh h=>h.of_heap hh) aoM started (by kernel_rfl) Tryz.func6
  (ChangeSpec.witness_shaped (enc:=enc) (C:=Tryz.checked) (os:=os) (X:=fun w _=>laidMetH Tryz.prog alT w) false (World.laidAll Tryz.prog os alT) #[.int .i64 0] 8 (World.laidAll_os _ _ _)
    (World.shaped_of_ZipB (by kernel_rfl) (by kernel_rfl)) (by kernel_rfl) (by kernel_rfl) (by kernel_rfl)
    (by rw[MakeChecks.laidMetH_plain _ _ _ (by kernel_rfl)];exact laidMet_laidAll _ (by kernel_rfl) (by kernel_rfl))) ?_
 intro W base args ds gs before hval0 hW hcnd _ hL _;have hval:∀(j:Nat) t v,Tryz.f6.params[j]? =some t->args[j]? =some v->Value.okWide Tryz.prog W .any base t v:=hval0;have hW':=hW;obtain⟨p,q,hA0,hV,rfl,hfz,hnd⟩:=hW;have hA:DataW.TrodAll enc Tryz.prog W 0 (fun _=>true) true Tryz.f6.params.toList args.toList ds p:=hA0;rw[Tryz.params6]at hA hval;obtain⟨v0,vs0,d0,ds0,p0,q0,hargs,rfl,rfl,h0,r0⟩:=trodAll_cons hA;obtain⟨rfl,rfl,rfl⟩:=trodAll_nil r0;obtain rfl:args=#[v0]:=by cases args;simp_all
 obtain⟨rfl,rfl⟩:=trodVars_none hV;obtain⟨a0,rfl,rfl,rfl,w0⟩:=open_int Tryz.underlying3 (hval 0 3 v0 rfl rfl) h0;clear hA0 hval0;simp only[List.append_nil]at hW';have hT:=amE hL;refine(alP hT (ao8 hT)).mono fun e W' ⟨he,hb⟩=> ?_;subst he;exact⟨_,rfl,anE hW' rfl (by kernel_rfl) rfl (fun sp _=>(trodAll_cons_mk (shut_int Tryz.underlying3 w0) trodAll_mk0)) hb⟩
theorem realFloors_facts:joinedFacts Tryz.prog 6 Tryz.f6 Rows.realFloorsSpec Rows.realFloorsRow=true:=by
 simp only[joinedFacts,Bool.and_eq_true]
 repeat' apply And.intro
 all_goals (as_aux_lemma=>kernel_rfl)
theorem realFloors_row:Rows.RealFloorsSaid:=
 OpenClaim.holds_of_wide 6 Tryz.f6 rfl rfl rfl rfl rfl rfl rfl ⟨rfl,rfl,rfl,rfl,rfl⟩ rfl rfl rfl rfl rfl (by as_aux_lemma=>kernel_rfl) Tryz.func6 realFloors_facts
  (of_decide_eq_true (by as_aux_lemma=>kernel_rfl)) (by unfold Func.isWrapper;first|(rw[if_pos (by decide+kernel)];kernel_rfl)|(rw[if_neg (by decide+kernel)];exact⟨rfl,rfl⟩))
  (fun os started H enc _=>realFloors_lifted os started H enc)
theorem realFloors_holds:Rows.RealFloorsCardSaid:=
 Claim7.holds_tied_plain_at .later [] [.data, .data, .data] true (true, "d738f4d909e28a2f10b6e6f6662b6d32115373514b0a1a4de4bc33dc13f43a12") false
  realFloors_row (fun _ h=>by cases h) (by as_aux_lemma=>kernel_rfl) (fun _ h=>by cases h) realFloors_row_tie rfl ⟨rfl,rfl⟩ (by as_aux_lemma=>kernel_rfl) rfl
  (fun f fn hf hfn=>by
    obtain rfl : f = 6 := Option.some.inj ((show Tryz.prog.funcNamed "compass/compasslaw15.RealFloors" = some 6 by as_aux_lemma => kernel_rfl).symm.trans hf) |>.symm
    obtain rfl:fn=Tryz.f6:=(Option.some.inj (Tryz.func6.symm.trans hfn)).symm;exact⟨by as_aux_lemma=>kernel_rfl,fun j t ht=>by
     rw[Tryz.params6]at ht;have h3:t=3:=by
      rcases j with _|j
      . simpa using ht.symm
      . simp at ht
     rcases h3 with rfl
     . exact(show Tryz.prog.wantsStandIn 3=false by as_aux_lemma=>kernel_rfl)⟩)
  (by as_aux_lemma=>kernel_rfl)
end Go.Proofs.YtebocijmegkfgaaGreatDoor
