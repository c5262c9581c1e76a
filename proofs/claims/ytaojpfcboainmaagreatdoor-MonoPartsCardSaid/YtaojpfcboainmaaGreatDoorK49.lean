import Derived.Test.YtaojpfcboainmaaGreatDoorK41
import Derived.Test.YtaojpfcboainmaaGreatDoorK12
import Derived.Test.YtaojpfcboainmaaGreatDoorK48
import Derived.Test.YtaojpfcboainmaaGreatDoorTie
import Derived.Test.YtaojpfcboainmaaGreatDoorCards
import Derived.SevenTiedAt
set_option linter.unusedVariables false
set_option linter.unusedSimpArgs false
set_option maxHeartbeats 0
set_option maxRecDepth 100000
open Go.Proofs.Tryz renaming underlying3->u3
namespace Go.Proofs.YtaojpfcboainmaaGreatDoor
open Go.ChangeShapes Go.WideShapes Go.ChangeAt Go.RowKit
theorem mpbQ:Tryz.prog.cellsOf 4=1:=by kernel_rfl
theorem mpaQ:Tryz.prog.cellsOf 23=8:=by kernel_rfl
theorem mplQ(os:Os)(started:os.Started)(H:Type)(enc:TypeId×Value->H):
 ReturnsInHanded {} Tryz.checked os 4 .any (fun w args=>(Rows.monoPartsSpec.pre enc Tryz.prog Tryz.f4 Rows.monoPartsRow.domain false w args/\laidMetH Tryz.prog yI w)/\sizedMet enc Tryz.prog Tryz.f4 (OpenSpec.ofChange Rows.monoPartsSpec) false w args)
  (Rows.monoPartsSpec.post enc Tryz.prog Tryz.f4 false true false false):=by
 refine returnsInHanded_of_change_and (C:=Tryz.checked) (X:=fun w _=>laidMetH Tryz.prog yI w) (fun _ _ _ hh h=>h.of_heap hh) amB started (by kernel_rfl) Tryz.func4
  (ChangeSpec.witness_shaped (enc:=enc) (C:=Tryz.checked) (os:=os) (X:=fun w _=>laidMetH Tryz.prog yI w) false (World.laidAll Tryz.prog os yI) #[.agg #[.bool false,.int .i64 0,.int .i64 0,.int .i64 0,.int .i64 0,.int .i64 0,.int .i64 0,.int .i64 0]] 8 (World.laidAll_os _ _ _)
    (World.shaped_of_ZipB (by kernel_rfl) (by kernel_rfl)) (by kernel_rfl) (by kernel_rfl) (by kernel_rfl)
    (by rw[MakeChecks.laidMetH_plain _ _ _ (by kernel_rfl)];exact laidMet_laidAll _ (by kernel_rfl) (by kernel_rfl))) ?_
 intro W base args ds gs before hval0 hW hcnd _ hL _;have hval:∀(j:Nat) t v,Tryz.f4.params[j]? =some t->args[j]? =some v->Value.okWide Tryz.prog W .any base t v:=hval0;have hW':=hW;obtain⟨p,q,hA0,hV,rfl,hfz,hnd⟩:=hW;have hA:DataW.TrodAll enc Tryz.prog W 0 (fun _=>true) true Tryz.f4.params.toList args.toList ds p:=hA0;rw[Tryz.params4]at hA hval;obtain⟨v0,vs0,d0,ds0,p0,q0,hargs,rfl,rfl,h0,r0⟩:=trodAll_cons hA;obtain⟨rfl,rfl,rfl⟩:=trodAll_nil r0;obtain rfl:args=#[v0]:=by cases args;simp_all
 obtain⟨rfl,rfl⟩:=trodVars_none hV;obtain⟨b0,n0_1,n0_2,n0_3,n0_4,n0_5,n0_6,n0_7,rfl,rfl,rfl,w0_1,w0_2,w0_3,w0_4,w0_5,w0_6,w0_7⟩:=aoL Tryz.underlying23 rfl rfl rfl rfl rfl rfl rfl rfl mpbQ dR dR dR dR dR dR dR mpaQ Tryz.underlying4 u3 u3 u3 u3 u3 u3 u3 (hval 0 23 v0 rfl rfl) h0;clear hA0 hval0;simp only[List.append_nil]at hW';have hT:=abI hL;refine(aqE hT (aoK hT)).mono fun e W' ⟨he,hb⟩=> ?_;subst he;exact⟨_,rfl,agL hW' rfl (by kernel_rfl) rfl (fun sp _=>(trodAll_cons_mk (aoM Tryz.underlying23 rfl rfl rfl rfl rfl rfl rfl rfl mpbQ dR dR dR dR dR dR dR mpaQ Tryz.underlying4 u3 u3 u3 u3 u3 u3 u3 w0_1 w0_2 w0_3 w0_4 w0_5 w0_6 w0_7) trodAll_mk0)) hb⟩
theorem mpfQ:joinedFacts Tryz.prog 4 Tryz.f4 Rows.monoPartsSpec Rows.monoPartsRow=true:=by
 simp only[joinedFacts,Bool.and_eq_true]
 repeat' apply And.intro
 all_goals (as_aux_lemma=>kernel_rfl)
theorem mpRQ:Rows.MonoPartsSaid:=
 OpenClaim.holds_of_wide 4 Tryz.f4 rfl rfl rfl rfl rfl rfl rfl ⟨rfl,rfl,rfl,rfl,rfl⟩ rfl rfl rfl rfl rfl (by as_aux_lemma=>kernel_rfl) Tryz.func4 mpfQ
  (of_decide_eq_true (by as_aux_lemma=>kernel_rfl)) (by unfold Func.isWrapper;first|(rw[if_pos (by decide+kernel)];kernel_rfl)|(rw[if_neg (by decide+kernel)];exact⟨rfl,rfl⟩))
  (fun os s H enc _=>mplQ os s H enc)
theorem monoParts_holds:Rows.MonoPartsCardSaid:=
 Claim7.holds_tied_plain_at .later [] [.data] true (true, "b5ec50f360a9df2cd6ab2d8da575a15d8c65a3db5c26bec24a8f5df5fb9a52cf") false
  mpRQ (fun _ h=>by cases h) (by as_aux_lemma=>kernel_rfl) (fun _ h=>by cases h) monoParts_row_tie rfl ⟨rfl,rfl⟩ (by as_aux_lemma=>kernel_rfl) rfl
  (fun f fn hf hfn=>by
    obtain rfl:f=4:=Option.some.inj ((show Tryz.prog.funcNamed "compass/compasslaw25.MonoParts"=some 4 by as_aux_lemma=>kernel_rfl).symm.trans hf)|>.symm
    obtain rfl:fn=Tryz.f4:=(Option.some.inj (Tryz.func4.symm.trans hfn)).symm;exact⟨by as_aux_lemma=>kernel_rfl,fun j t ht=>by
     rw[Tryz.params4]at ht;have h3:t=23:=by
      rcases j with _|j
      . simpa using ht.symm
      . simp at ht
     rcases h3 with rfl
     . exact(show Tryz.prog.wantsStandIn 23=false by as_aux_lemma=>kernel_rfl)⟩)
  (by as_aux_lemma=>kernel_rfl)
end Go.Proofs.YtaojpfcboainmaaGreatDoor
