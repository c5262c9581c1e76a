/- The law holds: the Go function answers true for every input that its row speaks of, and leaves its arguments as they were. -/
import Derived.Test.YtkpodipoegbclaaGreatDoorK41
import Derived.Test.YtkpodipoegbclaaGreatDoorK42
import Derived.Test.YtkpodipoegbclaaGreatDoorK47
import Derived.Test.YtkpodipoegbclaaGreatDoorTie
import Derived.Test.YtkpodipoegbclaaGreatDoorCards
import Derived.SevenTiedAt
set_option linter.unusedVariables false
set_option linter.unusedSimpArgs false
set_option maxHeartbeats 25600000
set_option maxRecDepth 100000
namespace Go.Proofs.YtkpodipoegbclaaGreatDoor
open Go.ChangeShapes Go.WideShapes Go.ChangeAt Go.RowKit
theorem arcFails_flt:Tryz.prog.cellsOf 28=1:=by kernel_rfl
theorem arcFails_c:Tryz.prog.cellsOf 67=4:=by kernel_rfl
theorem arcFails_lifted(os:Os)(started:os.Started)(H:Type)(enc:TypeId×Value->H):
 ReturnsInHanded {} Tryz.checked os 6 .any (fun w args=>(Rows.arcFailsSpec.pre enc Tryz.prog Tryz.f6 Rows.arcFailsRow.domain false w args/\laidMetH Tryz.prog aa2 w)/\sizedMet enc Tryz.prog Tryz.f6 (OpenSpec.ofChange Rows.arcFailsSpec) false w args)
  (Rows.arcFailsSpec.post enc Tryz.prog Tryz.f6 false true false false):=by
 refine returnsInHanded_of_change_and (C:=Tryz.checked) (X:=fun w _=>laidMetH Tryz.prog aa2 w) (fun _ _ _ hh h=>h.of_heap hh) akZ started (by kernel_rfl) Tryz.func6
  (ChangeSpec.witness_shaped (enc:=enc) (C:=Tryz.checked) (os:=os) (X:=fun w _=>laidMetH Tryz.prog aa2 w) false (World.laidAll Tryz.prog os aa2) #[.agg #[.int .i64 0,.float .f64 0,.float .f64 0,.float .f64 0],.float .f64 0,.float .f64 0] 8 (World.laidAll_os _ _ _)
    (World.shaped_of_ZipB (by kernel_rfl) (by kernel_rfl)) (by kernel_rfl) (by kernel_rfl) (by kernel_rfl)
    (by rw[MakeChecks.laidMetH_plain _ _ _ (by kernel_rfl)];exact laidMet_laidAll _ (by kernel_rfl) (by kernel_rfl))) ?_
 intro W base args ds gs before hval0 hW hcnd _ hL _;have hval:∀(j:Nat) t v,Tryz.f6.params[j]? =some t->args[j]? =some v->Value.okWide Tryz.prog W .any base t v:=hval0;have hW':=hW;obtain⟨p,q,hA0,hV,rfl,hfz,hnd⟩:=hW;have hA:DataW.TrodAll enc Tryz.prog W 0 (fun _=>true) true Tryz.f6.params.toList args.toList ds p:=hA0;rw[Tryz.params6]at hA hval;obtain⟨v0,vs0,d0,ds0,p0,q0,hargs,rfl,rfl,h0,r0⟩:=trodAll_cons hA;obtain⟨v1,vs1,d1,ds1,p1,q1,rfl,rfl,rfl,h1,r1⟩:=trodAll_cons r0;obtain⟨v2,vs2,d2,ds2,p2,q2,rfl,rfl,rfl,h2,r2⟩:=trodAll_cons r1;obtain⟨rfl,rfl,rfl⟩:=trodAll_nil r2;obtain rfl:args=#[v0,v1,v2]:=by cases args;simp_all
 obtain⟨rfl,rfl⟩:=trodVars_none hV;obtain⟨n0,a0,b0,c0,rfl,rfl,rfl,w0,x0,y0,z0⟩:=ar9 Tryz.underlying67 rfl rfl rfl rfl xN arcFails_flt arcFails_flt arcFails_flt arcFails_c Tryz.underlying3 Tryz.underlying28 Tryz.underlying28 Tryz.underlying28 (hval 0 67 v0 rfl rfl) h0;obtain⟨a1,rfl,rfl,rfl,w1⟩:=aqS Tryz.underlying28 (hval 1 28 v1 rfl rfl) h1;obtain⟨a2,rfl,rfl,rfl,w2⟩:=aqS Tryz.underlying28 (hval 2 28 v2 rfl rfl) h2;clear hA0 hval0;simp only[List.append_nil]at hW';have hT:=aa3 hL;refine(aqA hT (am1 hT) (apX x0) (apX y0) (apX z0) (apX w1) (apX w2)).mono fun e W' ⟨he,hb⟩=> ?_;subst he;exact⟨_,rfl,afX hW' rfl (by kernel_rfl) rfl (fun sp _=>(trodAll_cons_mk (asA Tryz.underlying67 rfl rfl rfl rfl xN arcFails_flt arcFails_flt arcFails_flt arcFails_c Tryz.underlying3 Tryz.underlying28 Tryz.underlying28 Tryz.underlying28 w0 x0 y0 z0) (trodAll_cons_mk (aqT Tryz.underlying28 w1) (trodAll_cons_mk (aqT Tryz.underlying28 w2) trodAll_mk0)))) hb⟩
theorem arcFails_facts:joinedFacts Tryz.prog 6 Tryz.f6 Rows.arcFailsSpec Rows.arcFailsRow=true:=by
 simp only[joinedFacts,Bool.and_eq_true]
 repeat' apply And.intro
 all_goals (as_aux_lemma=>kernel_rfl)
theorem arcFails_row:Rows.ArcFailsSaid:=
 OpenClaim.holds_of_wide 6 Tryz.f6 rfl rfl rfl rfl rfl rfl rfl ⟨rfl,rfl,rfl,rfl,rfl⟩ rfl rfl rfl rfl rfl (by as_aux_lemma=>kernel_rfl) Tryz.func6 arcFails_facts
  (of_decide_eq_true (by as_aux_lemma=>kernel_rfl)) (by unfold Func.isWrapper;first|(rw[if_pos (by decide+kernel)];kernel_rfl)|(rw[if_neg (by decide+kernel)];exact⟨rfl,rfl⟩))
  (fun os started H enc _=>arcFails_lifted os started H enc)
theorem arcFails_holds:Rows.ArcFailsCardSaid:=
 Claim7.holds_tied_plain_at .later [] [.data] true (true, "5eb55f32acd6f23cf1be11dbe93ae6432ee46420a03d74f0438c64c71d1244cb") true
  arcFails_row (fun _ h=>by cases h) (by as_aux_lemma=>kernel_rfl) (fun _ h=>by cases h) arcFails_row_tie rfl ⟨rfl,rfl⟩ (by as_aux_lemma=>kernel_rfl) rfl
  (fun f fn hf hfn=>by
    obtain rfl : f = 6 := Option.some.inj ((show Tryz.prog.funcNamed "compass/compasslaw22.ArcFails" = some 6 by as_aux_lemma => kernel_rfl).symm.trans hf) |>.symm
    obtain rfl:fn=Tryz.f6:=(Option.some.inj (Tryz.func6.symm.trans hfn)).symm;exact⟨by as_aux_lemma=>kernel_rfl,fun j t ht=>by
     rw[Tryz.params6]at ht;have h3:t=67\/t=28:=by
      rcases j with _|_|_|j
      . left;simpa using ht.symm
      . right;simpa using ht.symm
      . right;simpa using ht.symm
      . simp at ht
     rcases h3 with rfl|rfl
     . exact(show Tryz.prog.wantsStandIn 67=false by as_aux_lemma=>kernel_rfl)
     . exact(show Tryz.prog.wantsStandIn 28=false by as_aux_lemma=>kernel_rfl)⟩)
  (by as_aux_lemma=>kernel_rfl)
end Go.Proofs.YtkpodipoegbclaaGreatDoor
