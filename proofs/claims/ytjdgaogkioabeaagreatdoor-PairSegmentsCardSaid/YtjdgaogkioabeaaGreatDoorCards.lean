/-
  DERIVED. GIVEN WITH THE SEED: THE CARDS: each row of YtjdgaogkioabeaaGreatDoorRows.lean that lists a variable, with what it lists TIED to the program's text (the seventh form; the later family's looks); each row that meets fmt, with fmt's text TOLD by the authors' own Lean function (tested against real Go, not proved from fmt's source: count such statements apart). THE CARD IS WHAT COUNTS. Prove the row's statement (the work); the ties are given (YtjdgaogkioabeaaGreatDoorTie.lean); close each card by the builder's one call (the guide's Derived/Test/ToyasCard.lean, 'card_holds'). Laid BY PROGRAM, IN A SANDBOX (cutbox-door.mjs). By AI agents, Wed Nov 11 2026. No macro, syntax, notation, axiom, sorry.
-/
import Derived.Test.YtjdgaogkioabeaaGreatDoorRows
import GoSem.ClaimSeven
namespace Go.Proofs.YtjdgaogkioabeaaGreatDoor
namespace Rows

/-- THE TIED CARD OF 'compasslaw24.PairSegments'. -/
def pairSegmentsCard : Claim7 := { stood := { row := pairSegmentsRow, standIns := [], harness := (true, "ab485b7672e2fc4684af065de5cb8d1f223d4544f2db21c08b736f92c76d06e8"), looks := false }, kinds := [], alts := [], laidByText := true, laidKinds := [.data], laidTests := true, laidLooks := .later }
def PairSegmentsCardSaid : Prop := Claim7.holds Tryz.pinned (.plain (OpenSpec.ofChange pairSegmentsSpec)) pairSegmentsCard

/-- THE TIED CARD OF 'compasslaw24.PairCrosses'. -/
def pairCrossesCard : Claim7 := { stood := { row := pairCrossesRow, standIns := [], harness := (true, "ab485b7672e2fc4684af065de5cb8d1f223d4544f2db21c08b736f92c76d06e8"), looks := false }, kinds := [], alts := [], laidByText := true, laidKinds := [.data], laidTests := true, laidLooks := .later }
def PairCrossesCardSaid : Prop := Claim7.holds Tryz.pinned (.plain (OpenSpec.ofChange pairCrossesSpec)) pairCrossesCard

/-- THE TIED CARD OF 'compasslaw24.PairSelf'. -/
def pairSelfCard : Claim7 := { stood := { row := pairSelfRow, standIns := [], harness := (true, "ab485b7672e2fc4684af065de5cb8d1f223d4544f2db21c08b736f92c76d06e8"), looks := false }, kinds := [], alts := [], laidByText := true, laidKinds := [.data], laidTests := true, laidLooks := .later }
def PairSelfCardSaid : Prop := Claim7.holds Tryz.pinned (.plain (OpenSpec.ofChange pairSelfSpec)) pairSelfCard

/-- THE TIED CARD OF 'compasslaw24.PairRound'. -/
def pairRoundCard : Claim7 := { stood := { row := pairRoundRow, standIns := [], harness := (true, "ab485b7672e2fc4684af065de5cb8d1f223d4544f2db21c08b736f92c76d06e8"), looks := false }, kinds := [], alts := [], laidByText := true, laidKinds := [.data], laidTests := true, laidLooks := .later }
def PairRoundCardSaid : Prop := Claim7.holds Tryz.pinned (.plain (OpenSpec.ofChange pairRoundSpec)) pairRoundCard

/-- THE SECOND FORM's CARD OF 'compasslaw24.PairSegments'. -/
def pairSegmentsUptoCard : Claim7 := { stood := { row := pairSegmentsUptoRow, standIns := [], harness := (true, "ab485b7672e2fc4684af065de5cb8d1f223d4544f2db21c08b736f92c76d06e8"), looks := false }, kinds := [], alts := [], laidByText := true, laidKinds := [.data], laidTests := true, laidLooks := .later }
def PairSegmentsUptoCardSaid : Prop := Claim7.holds Tryz.pinned (.plain (OpenSpec.upto pairSegmentsSpec)) pairSegmentsUptoCard

/-- THE SECOND FORM's CARD OF 'compasslaw24.PairCrosses'. -/
def pairCrossesUptoCard : Claim7 := { stood := { row := pairCrossesUptoRow, standIns := [], harness := (true, "ab485b7672e2fc4684af065de5cb8d1f223d4544f2db21c08b736f92c76d06e8"), looks := false }, kinds := [], alts := [], laidByText := true, laidKinds := [.data], laidTests := true, laidLooks := .later }
def PairCrossesUptoCardSaid : Prop := Claim7.holds Tryz.pinned (.plain (OpenSpec.upto pairCrossesSpec)) pairCrossesUptoCard

/-- THE SECOND FORM's CARD OF 'compasslaw24.PairSelf'. -/
def pairSelfUptoCard : Claim7 := { stood := { row := pairSelfUptoRow, standIns := [], harness := (true, "ab485b7672e2fc4684af065de5cb8d1f223d4544f2db21c08b736f92c76d06e8"), looks := false }, kinds := [], alts := [], laidByText := true, laidKinds := [.data], laidTests := true, laidLooks := .later }
def PairSelfUptoCardSaid : Prop := Claim7.holds Tryz.pinned (.plain (OpenSpec.upto pairSelfSpec)) pairSelfUptoCard

/-- THE SECOND FORM's CARD OF 'compasslaw24.PairRound'. -/
def pairRoundUptoCard : Claim7 := { stood := { row := pairRoundUptoRow, standIns := [], harness := (true, "ab485b7672e2fc4684af065de5cb8d1f223d4544f2db21c08b736f92c76d06e8"), looks := false }, kinds := [], alts := [], laidByText := true, laidKinds := [.data], laidTests := true, laidLooks := .later }
def PairRoundUptoCardSaid : Prop := Claim7.holds Tryz.pinned (.plain (OpenSpec.upto pairRoundSpec)) pairRoundUptoCard
end Rows
end Go.Proofs.YtjdgaogkioabeaaGreatDoor
