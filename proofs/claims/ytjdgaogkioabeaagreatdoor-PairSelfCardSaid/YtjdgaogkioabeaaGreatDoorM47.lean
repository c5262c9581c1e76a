/- The law holds: the Go function answers true for every input that its row speaks of, and leaves its arguments as they were. -/
import Derived.Test.YtjdgaogkioabeaaGreatDoorM42
import Derived.Test.YtjdgaogkioabeaaGreatDoorM12
import Derived.Test.YtjdgaogkioabeaaGreatDoorM08
import Derived.Test.YtjdgaogkioabeaaGreatDoorM07
import Derived.Test.YtjdgaogkioabeaaGreatDoorM06
import Derived.Test.YtjdgaogkioabeaaGreatDoorM05
import Derived.Test.YtjdgaogkioabeaaGreatDoorM04
import Derived.Test.YtjdgaogkioabeaaGreatDoorM03
import Derived.Test.YtjdgaogkioabeaaGreatDoorM02
import Derived.Test.YtjdgaogkioabeaaGreatDoorM01
import Derived.Test.YtjdgaogkioabeaaGreatDoorM11
import Derived.Test.YtjdgaogkioabeaaGreatDoorM10
import Derived.Test.YtjdgaogkioabeaaGreatDoorM09
import Derived.Test.YtjdgaogkioabeaaGreatDoorM46
import Derived.Test.YtjdgaogkioabeaaGreatDoorM43
import Derived.Test.YtjdgaogkioabeaaGreatDoorM34
import Derived.Test.YtjdgaogkioabeaaGreatDoorM40
import Derived.Test.YtjdgaogkioabeaaGreatDoorM32
import Derived.Test.YtjdgaogkioabeaaGreatDoorM20
import Derived.Test.YtjdgaogkioabeaaGreatDoorM19
import Derived.Test.YtjdgaogkioabeaaGreatDoorM18
import Derived.Test.YtjdgaogkioabeaaGreatDoorM38
import Derived.Test.YtjdgaogkioabeaaGreatDoorM16
import Derived.Test.YtjdgaogkioabeaaGreatDoorM39
import Derived.Test.YtjdgaogkioabeaaGreatDoorM15
import Derived.Test.YtjdgaogkioabeaaGreatDoorM14
import Derived.Test.YtjdgaogkioabeaaGreatDoorM13
import Derived.Test.YtjdgaogkioabeaaGreatDoorM31
import Derived.Test.YtjdgaogkioabeaaGreatDoorM30
import Derived.Test.YtjdgaogkioabeaaGreatDoorM29
import Derived.Test.YtjdgaogkioabeaaGreatDoorM28
import Derived.Test.YtjdgaogkioabeaaGreatDoorM27
import Derived.Test.YtjdgaogkioabeaaGreatDoorM24
import Derived.Test.YtjdgaogkioabeaaGreatDoorM23
import Derived.Test.YtjdgaogkioabeaaGreatDoorM21
import Derived.Test.YtjdgaogkioabeaaGreatDoorM22
import Derived.Test.YtjdgaogkioabeaaGreatDoorM26
import Derived.Test.YtjdgaogkioabeaaGreatDoorM25
import Derived.Test.YtjdgaogkioabeaaGreatDoorM33
import Derived.Test.YtjdgaogkioabeaaGreatDoorM41
import Derived.Test.YtjdgaogkioabeaaGreatDoorM45
import Derived.Test.YtjdgaogkioabeaaGreatDoorM44
import Derived.Test.YtjdgaogkioabeaaGreatDoorTie
import Derived.Test.YtjdgaogkioabeaaGreatDoorCards
import Derived.SevenTiedAt
import Derived.OpenShut
set_option linter.unusedVariables false
set_option linter.unusedSimpArgs false
set_option maxHeartbeats 25600000
set_option maxRecDepth 100000
namespace Go.Proofs.YtjdgaogkioabeaaGreatDoor
open Go.ChangeShapes Go.WideShapes Go.ChangeAt Go.RowKit
theorem pairSelf_bool:Tryz.prog.cellsOf 4=1:=by kernel_rfl
theorem pairSelf_A:Tryz.prog.cellsOf 45=8:=by kernel_rfl
theorem pairSelf_lifted(os:Os)(started:os.Started)(H:Type)(enc:TypeId×Value->H):
 ReturnsInHanded {} Tryz.checked os 5 .any (fun w args=>(Rows.pairSelfSpec.pre enc Tryz.prog Tryz.f5 Rows.pairSelfRow.domain false w args/\laidMetH Tryz.prog pE w)/\sizedMet enc Tryz.prog Tryz.f5 (OpenSpec.ofChange Rows.pairSelfSpec) false w args)
  (Rows.pairSelfSpec.post enc Tryz.prog Tryz.f5 false true false false):=by
 refine returnsInHanded_of_change_and (C:=Tryz.checked) (X:=fun w _=>laidMetH Tryz.prog pE w) (fun _ _ _ hh h=>h.of_heap hh) agC started (by kernel_rfl) Tryz.func5
  (ChangeSpec.witness_shaped (enc:=enc) (C:=Tryz.checked) (os:=os) (X:=fun w _=>laidMetH Tryz.prog pE w) false (World.laidAll Tryz.prog os pE) #[.agg #[.bool false,.int .i64 0,.int .i64 0,.int .i64 0,.int .i64 0,.int .i64 0,.int .i64 0,.int .i64 0]] 8 (World.laidAll_os _ _ _)
    (World.shaped_of_ZipB (by kernel_rfl) (by kernel_rfl)) (by kernel_rfl) (by kernel_rfl) (by kernel_rfl)
    (by rw[MakeChecks.laidMetH_plain _ _ _ (by kernel_rfl)];exact laidMet_laidAll _ (by kernel_rfl) (by kernel_rfl))) ?_
 intro W base args ds gs before hval0 hW hcnd _ hL _;have hval:∀(j:Nat) t v,Tryz.f5.params[j]? =some t->args[j]? =some v->Value.okWide Tryz.prog W .any base t v:=hval0;have hW':=hW;obtain⟨p,q,hA0,hV,rfl,hfz,hnd⟩:=hW;have hA:DataW.TrodAll enc Tryz.prog W 0 (fun _=>true) true Tryz.f5.params.toList args.toList ds p:=hA0;rw[Tryz.params5]at hA hval;obtain⟨v0,vs0,d0,ds0,p0,q0,hargs,rfl,rfl,h0,r0⟩:=trodAll_cons hA;obtain⟨rfl,rfl,rfl⟩:=trodAll_nil r0;obtain rfl:args=#[v0]:=by cases args;simp_all
 obtain⟨rfl,rfl⟩:=trodVars_none hV;obtain⟨b0,n0_1,n0_2,n0_3,n0_4,n0_5,n0_6,n0_7,rfl,rfl,rfl,w0_1,w0_2,w0_3,w0_4,w0_5,w0_6,w0_7⟩:=aq5 Tryz.underlying45 rfl rfl rfl rfl rfl rfl rfl rfl pairSelf_bool dP dP dP dP dP dP dP pairSelf_A Tryz.underlying4 Tryz.underlying3 Tryz.underlying3 Tryz.underlying3 Tryz.underlying3 Tryz.underlying3 Tryz.underlying3 Tryz.underlying3 (hval 0 45 v0 rfl rfl) h0;clear hA0 hval0;simp only[List.append_nil]at hW';have hT:=tN hL;refine(yP hT (ak6 hT)).mono fun e W' ⟨he,hb⟩=> ?_;subst he;exact⟨_,rfl,zK hW' rfl (by kernel_rfl) rfl (fun sp _=>(trodAll_cons_mk (aq6 Tryz.underlying45 rfl rfl rfl rfl rfl rfl rfl rfl pairSelf_bool dP dP dP dP dP dP dP pairSelf_A Tryz.underlying4 Tryz.underlying3 Tryz.underlying3 Tryz.underlying3 Tryz.underlying3 Tryz.underlying3 Tryz.underlying3 Tryz.underlying3 w0_1 w0_2 w0_3 w0_4 w0_5 w0_6 w0_7) trodAll_mk0)) hb⟩
theorem pairSelf_facts:joinedFacts Tryz.prog 5 Tryz.f5 Rows.pairSelfSpec Rows.pairSelfRow=true:=by
 simp only[joinedFacts,Bool.and_eq_true]
 repeat' apply And.intro
 all_goals (as_aux_lemma=>kernel_rfl)
theorem pairSelf_row:Rows.PairSelfSaid:=
 OpenClaim.holds_of_wide 5 Tryz.f5 rfl rfl rfl rfl rfl rfl rfl ⟨rfl,rfl,rfl,rfl,rfl⟩ rfl rfl rfl rfl rfl (by as_aux_lemma=>kernel_rfl) Tryz.func5 pairSelf_facts
  (of_decide_eq_true (by as_aux_lemma=>kernel_rfl)) (by unfold Func.isWrapper;first|(rw[if_pos (by decide+kernel)];kernel_rfl)|(rw[if_neg (by decide+kernel)];exact⟨rfl,rfl⟩))
  (fun os started H enc _=>pairSelf_lifted os started H enc)
theorem pairSelf_holds:Rows.PairSelfCardSaid:=
 Claim7.holds_tied_plain_at .later [] [.data] true (true, "ab485b7672e2fc4684af065de5cb8d1f223d4544f2db21c08b736f92c76d06e8") false
  pairSelf_row (fun _ h=>by cases h) (by as_aux_lemma=>kernel_rfl) (fun _ h=>by cases h) pairSelf_row_tie rfl ⟨rfl,rfl⟩ (by as_aux_lemma=>kernel_rfl) rfl
  (fun f fn hf hfn=>by
    obtain rfl : f = 5 := Option.some.inj ((show Tryz.prog.funcNamed "compass/compasslaw24.PairSelf" = some 5 by as_aux_lemma => kernel_rfl).symm.trans hf) |>.symm
    obtain rfl:fn=Tryz.f5:=(Option.some.inj (Tryz.func5.symm.trans hfn)).symm;exact⟨by as_aux_lemma=>kernel_rfl,fun j t ht=>by
     rw[Tryz.params5]at ht;have h3:t=45:=by
      rcases j with _|j
      . simpa using ht.symm
      . simp at ht
     rcases h3 with rfl
     . exact(show Tryz.prog.wantsStandIn 45=false by as_aux_lemma=>kernel_rfl)⟩)
  (by as_aux_lemma=>kernel_rfl)
end Go.Proofs.YtjdgaogkioabeaaGreatDoor
