/- The law holds: the Go function answers true for every input that its row speaks of, and leaves its arguments as they were. -/
import Derived.Test.YtigoiiekebccnaaGreatDoorK51
import Derived.Test.YtigoiiekebccnaaGreatDoorK54
import Derived.Test.YtigoiiekebccnaaGreatDoorTie
import Derived.Test.YtigoiiekebccnaaGreatDoorCards
import Derived.SevenTiedAt
set_option linter.unusedVariables false
set_option linter.unusedSimpArgs false
set_option linter.unnecessarySimpa false
set_option maxHeartbeats 25600000
set_option maxRecDepth 100000
namespace Go.Proofs.YtigoiiekebccnaaGreatDoor
open Go.ChangeShapes Go.WideShapes Go.ChangeAt Go.RowKit
set_option maxRecDepth 100000
theorem scriptPrints_holds:Rows.ScriptPrintsCardSaid:=
 Claim7.holds_tied_plain_at .later [] [.data, .data, .data, .data, .handle, .pinned] true (true, "404ff916a25f53f5ef19a40e121d10f65a02a0c5e4ee00b823930d209daf1739") true
  scriptPrints_row (fun _ h=>by cases h) (by as_aux_lemma=>kernel_rfl) (fun _ h=>by cases h) scriptPrints_row_tie rfl ⟨rfl,rfl⟩ (by as_aux_lemma=>kernel_rfl) rfl
  (fun f fn hf hfn=>by
    obtain rfl : f = 3 := Option.some.inj ((show Tryz.prog.funcNamed "compass/compasslaw28.ScriptPrints" = some 3 by as_aux_lemma => kernel_rfl).symm.trans hf) |>.symm
    obtain rfl:fn=Tryz.f3:=(Option.some.inj (Tryz.func3.symm.trans hfn)).symm;exact⟨by as_aux_lemma=>kernel_rfl,fun j t ht=>by
     rw[Tryz.params3]at ht;have h3:t=22\/t=9:=by
      rcases j with _|_|j
      . left;simpa using ht.symm
      . right;simpa using ht.symm
      . simp at ht
     rcases h3 with rfl|rfl
     . exact(show Tryz.prog.wantsStandIn 22=false by as_aux_lemma=>kernel_rfl)
     . exact(show Tryz.prog.wantsStandIn 9=false by as_aux_lemma=>kernel_rfl)⟩)
  (by as_aux_lemma=>kernel_rfl)
end Go.Proofs.YtigoiiekebccnaaGreatDoor
