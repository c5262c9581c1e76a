/- The law holds: the Go function answers true for every input that its row speaks of, and leaves its arguments as they were. -/
import Derived.Test.YtaojpfcboainmaaGreatDoorK12
import Derived.Test.YtaojpfcboainmaaGreatDoorK38
import Derived.Test.YtaojpfcboainmaaGreatDoorTie
import Derived.Test.YtaojpfcboainmaaGreatDoorCards
import Derived.SevenTiedAt
set_option linter.unusedVariables false
set_option linter.unusedSimpArgs false
set_option maxHeartbeats 25600000
set_option maxRecDepth 100000
namespace Go.Proofs.YtaojpfcboainmaaGreatDoor
open Go.ChangeShapes Go.WideShapes Go.ChangeAt Go.RowKit
theorem monoWhole_bool:Tryz.prog.cellsOf 4=1:=by kernel_rfl
theorem monoWhole_A:Tryz.prog.cellsOf 23=8:=by kernel_rfl
theorem monoWhole_lifted(os:Os)(started:os.Started)(H:Type)(enc:TypeId×Value->H):
 ReturnsInHanded {} Tryz.checked os 3 .any (fun w args=>(Rows.monoWholeSpec.pre enc Tryz.prog Tryz.f3 Rows.monoWholeRow.domain false w args/\laidMetH Tryz.prog yI w)/\sizedMet enc Tryz.prog Tryz.f3 (OpenSpec.ofChange Rows.monoWholeSpec) false w args)
  (Rows.monoWholeSpec.post enc Tryz.prog Tryz.f3 false true false false):=by
 refine returnsInHanded_of_change_and (C:=Tryz.checked) (X:=fun w _=>laidMetH Tryz.prog yI w) (fun _ _ _ hh h=>h.of_heap hh) amB started (by kernel_rfl) Tryz.func3
  (ChangeSpec.witness_shaped (enc:=enc) (C:=Tryz.checked) (os:=os) (X:=fun w _=>laidMetH Tryz.prog yI w) false (World.laidAll Tryz.prog os yI) #[.agg #[.bool false,.int .i64 0,.int .i64 0,.int .i64 0,.int .i64 0,.int .i64 0,.int .i64 0,.int .i64 0],.int .i64 0] 8 (World.laidAll_os _ _ _)
    (World.shaped_of_ZipB (by kernel_rfl) (by kernel_rfl)) (by kernel_rfl) (by kernel_rfl) (by kernel_rfl)
    (by rw[MakeChecks.laidMetH_plain _ _ _ (by kernel_rfl)];exact laidMet_laidAll _ (by kernel_rfl) (by kernel_rfl))) ?_
 intro W base args ds gs before hval0 hW hcnd _ hL _;have hval:∀(j:Nat) t v,Tryz.f3.params[j]? =some t->args[j]? =some v->Value.okWide Tryz.prog W .any base t v:=hval0;have hW':=hW;obtain⟨p,q,hA0,hV,rfl,hfz,hnd⟩:=hW;have hA:DataW.TrodAll enc Tryz.prog W 0 (fun _=>true) true Tryz.f3.params.toList args.toList ds p:=hA0;rw[Tryz.params3]at hA hval;obtain⟨v0,vs0,d0,ds0,p0,q0,hargs,rfl,rfl,h0,r0⟩:=trodAll_cons hA;obtain⟨v1,vs1,d1,ds1,p1,q1,rfl,rfl,rfl,h1,r1⟩:=trodAll_cons r0;obtain⟨rfl,rfl,rfl⟩:=trodAll_nil r1;obtain rfl:args=#[v0,v1]:=by cases args;simp_all
 obtain⟨rfl,rfl⟩:=trodVars_none hV;obtain⟨b0,n0_1,n0_2,n0_3,n0_4,n0_5,n0_6,n0_7,rfl,rfl,rfl,w0_1,w0_2,w0_3,w0_4,w0_5,w0_6,w0_7⟩:=aoL Tryz.underlying23 rfl rfl rfl rfl rfl rfl rfl rfl monoWhole_bool dR dR dR dR dR dR dR monoWhole_A Tryz.underlying4 Tryz.underlying3 Tryz.underlying3 Tryz.underlying3 Tryz.underlying3 Tryz.underlying3 Tryz.underlying3 Tryz.underlying3 (hval 0 23 v0 rfl rfl) h0;obtain⟨a1,rfl,rfl,rfl,w1⟩:=open_int Tryz.underlying3 (hval 1 3 v1 rfl rfl) h1;clear hA0 hval0;simp only[List.append_nil]at hW';have hT:=abI hL;refine(xJ hT (aoK hT)).mono fun e W' ⟨he,hb⟩=> ?_;subst he;exact⟨_,rfl,agL hW' rfl (by kernel_rfl) rfl (fun sp _=>(trodAll_cons_mk (aoM Tryz.underlying23 rfl rfl rfl rfl rfl rfl rfl rfl monoWhole_bool dR dR dR dR dR dR dR monoWhole_A Tryz.underlying4 Tryz.underlying3 Tryz.underlying3 Tryz.underlying3 Tryz.underlying3 Tryz.underlying3 Tryz.underlying3 Tryz.underlying3 w0_1 w0_2 w0_3 w0_4 w0_5 w0_6 w0_7) (trodAll_cons_mk (shut_int Tryz.underlying3 w1) trodAll_mk0))) hb⟩
theorem monoWhole_facts:joinedFacts Tryz.prog 3 Tryz.f3 Rows.monoWholeSpec Rows.monoWholeRow=true:=by
 simp only[joinedFacts,Bool.and_eq_true]
 repeat' apply And.intro
 all_goals (as_aux_lemma=>kernel_rfl)
theorem monoWhole_row:Rows.MonoWholeSaid:=
 OpenClaim.holds_of_wide 3 Tryz.f3 rfl rfl rfl rfl rfl rfl rfl ⟨rfl,rfl,rfl,rfl,rfl⟩ rfl rfl rfl rfl rfl (by as_aux_lemma=>kernel_rfl) Tryz.func3 monoWhole_facts
  (of_decide_eq_true (by as_aux_lemma=>kernel_rfl)) (by unfold Func.isWrapper;first|(rw[if_pos (by decide+kernel)];kernel_rfl)|(rw[if_neg (by decide+kernel)];exact⟨rfl,rfl⟩))
  (fun os started H enc _=>monoWhole_lifted os started H enc)
theorem monoWhole_holds:Rows.MonoWholeCardSaid:=
 Claim7.holds_tied_plain_at .later [] [.data] true (true, "b5ec50f360a9df2cd6ab2d8da575a15d8c65a3db5c26bec24a8f5df5fb9a52cf") false
  monoWhole_row (fun _ h=>by cases h) (by as_aux_lemma=>kernel_rfl) (fun _ h=>by cases h) monoWhole_row_tie rfl ⟨rfl,rfl⟩ (by as_aux_lemma=>kernel_rfl) rfl
  (fun f fn hf hfn=>by
    obtain rfl : f = 3 := Option.some.inj ((show Tryz.prog.funcNamed "compass/compasslaw25.MonoWhole" = some 3 by as_aux_lemma => kernel_rfl).symm.trans hf) |>.symm
    obtain rfl:fn=Tryz.f3:=(Option.some.inj (Tryz.func3.symm.trans hfn)).symm;exact⟨by as_aux_lemma=>kernel_rfl,fun j t ht=>by
     rw[Tryz.params3]at ht;have h3:t=23\/t=3:=by
      rcases j with _|_|j
      . left;simpa using ht.symm
      . right;simpa using ht.symm
      . simp at ht
     rcases h3 with rfl|rfl
     . exact(show Tryz.prog.wantsStandIn 23=false by as_aux_lemma=>kernel_rfl)
     . exact(show Tryz.prog.wantsStandIn 3=false by as_aux_lemma=>kernel_rfl)⟩)
  (by as_aux_lemma=>kernel_rfl)
end Go.Proofs.YtaojpfcboainmaaGreatDoor
