/- The law holds: the Go function answers true for every input that its row speaks of, and leaves its arguments as they were. -/
import Derived.Test.YtjdgaogkioabeaaGreatDoorK12
import Derived.Test.YtjdgaogkioabeaaGreatDoorK37
import Derived.Test.YtjdgaogkioabeaaGreatDoorTie
import Derived.Test.YtjdgaogkioabeaaGreatDoorCards
import Derived.SevenTiedAt
set_option linter.unusedVariables false
set_option linter.unusedSimpArgs false
set_option maxHeartbeats 25600000
set_option maxRecDepth 100000
namespace Go.Proofs.YtjdgaogkioabeaaGreatDoor
open Go.ChangeShapes Go.WideShapes Go.ChangeAt Go.RowKit
theorem pairSegments_lifted(os:Os)(started:os.Started)(H:Type)(enc:TypeId×Value->H):
 ReturnsInHanded {} Tryz.checked os 3 .any (fun w args=>(Rows.pairSegmentsSpec.pre enc Tryz.prog Tryz.f3 Rows.pairSegmentsRow.domain false w args/\laidMetH Tryz.prog yH w)/\sizedMet enc Tryz.prog Tryz.f3 (OpenSpec.ofChange Rows.pairSegmentsSpec) false w args)
  (Rows.pairSegmentsSpec.post enc Tryz.prog Tryz.f3 false true false false):=by
 refine returnsInHanded_of_change_and (C:=Tryz.checked) (X:=fun w _=>laidMetH Tryz.prog yH w) (fun _ _ _ hh h=>h.of_heap hh) amP started (by kernel_rfl) Tryz.func3
  (ChangeSpec.witness_shaped (enc:=enc) (C:=Tryz.checked) (os:=os) (X:=fun w _=>laidMetH Tryz.prog yH w) false (World.laidAll Tryz.prog os yH) #[.int .i64 0,.int .i64 0,.int .i64 0,.int .i64 0,.agg #[.int .i64 0,.int .i64 0,.int .i64 0,.int .i64 0]] 8 (World.laidAll_os _ _ _)
    (World.shaped_of_ZipB (by kernel_rfl) (by kernel_rfl)) (by kernel_rfl) (by kernel_rfl) (by kernel_rfl)
    (by rw[MakeChecks.laidMetH_plain _ _ _ (by kernel_rfl)];exact laidMet_laidAll _ (by kernel_rfl) (by kernel_rfl))) ?_
 intro W base args ds gs before hval0 hW hcnd _ hL _;have hval:∀(j:Nat) t v,Tryz.f3.params[j]? =some t->args[j]? =some v->Value.okWide Tryz.prog W .any base t v:=hval0;have hW':=hW;obtain⟨p,q,hA0,hV,rfl,hfz,hnd⟩:=hW;have hA:DataW.TrodAll enc Tryz.prog W 0 (fun _=>true) true Tryz.f3.params.toList args.toList ds p:=hA0;rw[Tryz.params3]at hA hval;obtain⟨v0,vs0,d0,ds0,p0,q0,hargs,rfl,rfl,h0,r0⟩:=trodAll_cons hA;obtain⟨v1,vs1,d1,ds1,p1,q1,rfl,rfl,rfl,h1,r1⟩:=trodAll_cons r0;obtain⟨v2,vs2,d2,ds2,p2,q2,rfl,rfl,rfl,h2,r2⟩:=trodAll_cons r1;obtain⟨v3,vs3,d3,ds3,p3,q3,rfl,rfl,rfl,h3,r3⟩:=trodAll_cons r2;obtain⟨v4,vs4,d4,ds4,p4,q4,rfl,rfl,rfl,h4,r4⟩:=trodAll_cons r3;obtain⟨rfl,rfl,rfl⟩:=trodAll_nil r4;obtain rfl:args=#[v0,v1,v2,v3,v4]:=by cases args;simp_all
 obtain⟨rfl,rfl⟩:=trodVars_none hV;obtain⟨a0,rfl,rfl,rfl,w0⟩:=open_int Tryz.underlying3 (hval 0 3 v0 rfl rfl) h0;obtain⟨a1,rfl,rfl,rfl,w1⟩:=open_int Tryz.underlying3 (hval 1 3 v1 rfl rfl) h1;obtain⟨a2,rfl,rfl,rfl,w2⟩:=open_int Tryz.underlying3 (hval 2 3 v2 rfl rfl) h2;obtain⟨a3,rfl,rfl,rfl,w3⟩:=open_int Tryz.underlying3 (hval 3 3 v3 rfl rfl) h3;obtain⟨n4,a4,b4,c4,rfl,rfl,rfl,w4,x4,y4,z4⟩:=adX Tryz.underlying22 Tryz.underlying3 vL yJ (hval 4 22 v4 rfl rfl) h4;clear hA0 hval0;simp only[List.append_nil]at hW';have hT:=abR hL;refine(qP hT (ao2 hT)).mono fun e W' ⟨he,hb⟩=> ?_;subst he;exact⟨_,rfl,ag0 hW' rfl (by kernel_rfl) rfl (fun sp _=>(trodAll_cons_mk (shut_int Tryz.underlying3 w0) (trodAll_cons_mk (shut_int Tryz.underlying3 w1) (trodAll_cons_mk (shut_int Tryz.underlying3 w2) (trodAll_cons_mk (shut_int Tryz.underlying3 w3) (trodAll_cons_mk (adY Tryz.underlying22 Tryz.underlying3 vL yJ w4 x4 y4 z4) trodAll_mk0)))))) hb⟩
theorem pairSegments_facts:joinedFacts Tryz.prog 3 Tryz.f3 Rows.pairSegmentsSpec Rows.pairSegmentsRow=true:=by
 simp only[joinedFacts,Bool.and_eq_true]
 repeat' apply And.intro
 all_goals (as_aux_lemma=>kernel_rfl)
theorem pairSegments_row:Rows.PairSegmentsSaid:=
 OpenClaim.holds_of_wide 3 Tryz.f3 rfl rfl rfl rfl rfl rfl rfl ⟨rfl,rfl,rfl,rfl,rfl⟩ rfl rfl rfl rfl rfl (by as_aux_lemma=>kernel_rfl) Tryz.func3 pairSegments_facts
  (of_decide_eq_true (by as_aux_lemma=>kernel_rfl)) (by unfold Func.isWrapper;first|(rw[if_pos (by decide+kernel)];kernel_rfl)|(rw[if_neg (by decide+kernel)];exact⟨rfl,rfl⟩))
  (fun os started H enc _=>pairSegments_lifted os started H enc)
theorem pairSegments_holds:Rows.PairSegmentsCardSaid:=
 Claim7.holds_tied_plain_at .later [] [.data] true (true, "ab485b7672e2fc4684af065de5cb8d1f223d4544f2db21c08b736f92c76d06e8") false
  pairSegments_row (fun _ h=>by cases h) (by as_aux_lemma=>kernel_rfl) (fun _ h=>by cases h) pairSegments_row_tie rfl ⟨rfl,rfl⟩ (by as_aux_lemma=>kernel_rfl) rfl
  (fun f fn hf hfn=>by
    obtain rfl : f = 3 := Option.some.inj ((show Tryz.prog.funcNamed "compass/compasslaw24.PairSegments" = some 3 by as_aux_lemma => kernel_rfl).symm.trans hf) |>.symm
    obtain rfl:fn=Tryz.f3:=(Option.some.inj (Tryz.func3.symm.trans hfn)).symm;exact⟨by as_aux_lemma=>kernel_rfl,fun j t ht=>by
     rw[Tryz.params3]at ht;have h3:t=3\/t=22:=by
      rcases j with _|_|_|_|_|j
      . left;simpa using ht.symm
      . left;simpa using ht.symm
      . left;simpa using ht.symm
      . left;simpa using ht.symm
      . right;simpa using ht.symm
      . simp at ht
     rcases h3 with rfl|rfl
     . exact(show Tryz.prog.wantsStandIn 3=false by as_aux_lemma=>kernel_rfl)
     . exact(show Tryz.prog.wantsStandIn 22=false by as_aux_lemma=>kernel_rfl)⟩)
  (by as_aux_lemma=>kernel_rfl)
end Go.Proofs.YtjdgaogkioabeaaGreatDoor
