/- The law holds: the Go function answers true for every input that its row speaks of, and leaves its arguments as they were. -/
import Derived.Test.YtigoiiekebccnaaGreatDoorK41
import Derived.Test.YtigoiiekebccnaaGreatDoorTie
import Derived.Test.YtigoiiekebccnaaGreatDoorCards
import Derived.SevenTiedAt
set_option linter.unusedVariables false
set_option linter.unusedSimpArgs false
set_option linter.unnecessarySimpa false
set_option maxHeartbeats 25600000
set_option maxRecDepth 100000
namespace Go.Proofs.YtigoiiekebccnaaGreatDoor
open Go.ChangeShapes Go.WideShapes Go.ChangeAt Go.RowKit
theorem stp_str:Tryz.prog.cellsOf 9=1:=by kernel_rfl
theorem stp_sl:Tryz.prog.cellsOf 25=1:=by kernel_rfl
theorem stp_c:Tryz.prog.cellsOf 27=2:=by kernel_rfl
theorem scriptSteps_lifted(os:Os)(started:os.Started)(H:Type)(enc:TypeId×Value->H):
 ReturnsInHanded {} Tryz.checked os 4 .any (fun w args=>(Rows.scriptStepsSpec.pre enc Tryz.prog Tryz.f4 Rows.scriptStepsRow.domain false w args/\laidMetH Tryz.prog apX w)/\sizedMet enc Tryz.prog Tryz.f4 (OpenSpec.ofChange Rows.scriptStepsSpec) false w args)
  (Rows.scriptStepsSpec.post enc Tryz.prog Tryz.f4 false true false false):=by
 refine apU (C:=Tryz.checked) (X:=fun w _=>laidMetH Tryz.prog apX w) (fun _ _ _ hh h=>h.of_heap hh) aqL started (by kernel_rfl) Tryz.func4
  (ChangeSpec.witness_shaped (enc:=enc) (C:=Tryz.checked) (os:=os) (X:=fun w _=>laidMetH Tryz.prog apX w) false (apY os) #[.agg #[.string ⟨#[]⟩,.slice none 0 0],.int .i64 0] 8 (aqD _)
    (World.shaped_of_ZipB (by kernel_rfl) (by kernel_rfl)) (by kernel_rfl) (by kernel_rfl) (by kernel_rfl)
    (ap4 _ _)) ?_
 intro W base args ds gs before hval0 hW hcnd hL hsh;have hval:∀(j:Nat) t v,Tryz.f4.params[j]? =some t->args[j]? =some v->Value.okWide Tryz.prog W .any base t v:=hval0;have hW':=hW;obtain⟨p,q,hA0,hV,rfl,hfz,hnd⟩:=hW;have hA:DataW.TrodAll enc Tryz.prog W 0 (fun _=>true) true Tryz.f4.params.toList args.toList ds p:=hA0;rw[Tryz.params4]at hA hval;obtain⟨v0,vs0,d0,ds0,p0,q0,hargs,rfl,rfl,h0,r0⟩:=trodAll_cons hA;obtain⟨v1,vs1,d1,ds1,p1,q1,rfl,rfl,rfl,h1,r1⟩:=trodAll_cons r0;obtain⟨rfl,rfl,rfl⟩:=trodAll_nil r1;obtain rfl:args=#[v0,v1]:=by cases args;simp_all
 obtain⟨rfl,rfl⟩:=trodVars_none hV;obtain⟨s0,pl0,xs0,cp0,rfl,hx0,hre⟩:=aqK Tryz.underlying27 rfl rfl stp_str stp_sl stp_c Tryz.underlying9 Tryz.underlying25 Tryz.underlying3 ap7 (hval 0 27 v0 rfl rfl) h0;obtain⟨a1,rfl,rfl,rfl,w1⟩:=open_int Tryz.underlying3 (hval 1 3 v1 rfl rfl) h1;clear hA0 hval0;simp only[List.append_nil,List.nil_append]at hW';refine(scriptSteps_walk (ap1 hL hsh) (show IntS W (.slice pl0 xs0.length cp0) xs0 from⟨pl0,cp0,rfl,hx0⟩)).mono fun e W' ⟨he,hb⟩=> ?_;subst he;have hh:∀b,b<W.heap.size->W'.heap[b]? =W.heap[b]? :=fun b h=>hb.block b h;exact⟨_,rfl,ap6 hW' rfl (by kernel_rfl) rfl (fun sp hs=>by have h9:=(trodAll_cons_mk (hre W' sp hh (fun p hp=>hW'.lt p hp) hs) (trodAll_cons_mk (shut_int Tryz.underlying3 w1) trodAll_mk0));simp only[List.append_nil,List.nil_append]at h9;exact h9) hb⟩
theorem scriptSteps_facts:joinedFacts Tryz.prog 4 Tryz.f4 Rows.scriptStepsSpec Rows.scriptStepsRow=true:=by
 simp only[joinedFacts,Bool.and_eq_true]
 repeat' apply And.intro
 all_goals (as_aux_lemma=>kernel_rfl)
theorem scriptSteps_row:Rows.ScriptStepsSaid:=
 OpenClaim.holds_of_wide 4 Tryz.f4 rfl rfl rfl rfl rfl rfl rfl ⟨rfl,rfl,rfl,rfl,rfl⟩ rfl rfl rfl rfl rfl (by as_aux_lemma=>kernel_rfl) Tryz.func4 scriptSteps_facts
  (of_decide_eq_true (by as_aux_lemma=>kernel_rfl)) (by unfold Func.isWrapper;first|(rw[if_pos (by decide+kernel)];kernel_rfl)|(rw[if_neg (by decide+kernel)];exact⟨rfl,rfl⟩))
  (fun os started H enc _=>scriptSteps_lifted os started H enc)
theorem scriptSteps_holds:Rows.ScriptStepsCardSaid:=
 Claim7.holds_tied_plain_at .later [] [.data, .data, .data, .data, .handle, .pinned] true (true, "404ff916a25f53f5ef19a40e121d10f65a02a0c5e4ee00b823930d209daf1739") true
  scriptSteps_row (fun _ h=>by cases h) (by as_aux_lemma=>kernel_rfl) (fun _ h=>by cases h) scriptSteps_row_tie rfl ⟨rfl,rfl⟩ (by as_aux_lemma=>kernel_rfl) rfl
  (fun f fn hf hfn=>by
    obtain rfl : f = 4 := Option.some.inj ((show Tryz.prog.funcNamed "compass/compasslaw28.ScriptSteps" = some 4 by as_aux_lemma => kernel_rfl).symm.trans hf) |>.symm
    obtain rfl:fn=Tryz.f4:=(Option.some.inj (Tryz.func4.symm.trans hfn)).symm;exact⟨by as_aux_lemma=>kernel_rfl,fun j t ht=>by
     rw[Tryz.params4]at ht;have h3:t=27\/t=3:=by
      rcases j with _|_|j
      . left;simpa using ht.symm
      . right;simpa using ht.symm
      . simp at ht
     rcases h3 with rfl|rfl
     . exact(show Tryz.prog.wantsStandIn 27=false by as_aux_lemma=>kernel_rfl)
     . exact(show Tryz.prog.wantsStandIn 3=false by as_aux_lemma=>kernel_rfl)⟩)
  (by as_aux_lemma=>kernel_rfl)
end Go.Proofs.YtigoiiekebccnaaGreatDoor
