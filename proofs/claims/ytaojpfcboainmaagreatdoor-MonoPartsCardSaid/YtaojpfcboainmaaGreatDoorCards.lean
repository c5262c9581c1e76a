/-
  DERIVED. GIVEN WITH THE SEED: THE CARDS: each row of YtaojpfcboainmaaGreatDoorRows.lean that lists a variable, with what it lists TIED to the program's text (the seventh form; the later family's looks); each row that meets fmt, with fmt's text TOLD by the authors' own Lean function (tested against real Go, not proved from fmt's source: count such statements apart). THE CARD IS WHAT COUNTS. Prove the row's statement (the work); the ties are given (YtaojpfcboainmaaGreatDoorTie.lean); close each card by the builder's one call (the guide's Derived/Test/ToyasCard.lean, 'card_holds'). Laid BY PROGRAM, IN A SANDBOX (cutbox-door.mjs). By AI agents, Wed Nov 11 2026. No macro, syntax, notation, axiom, sorry.
-/
import Derived.Test.YtaojpfcboainmaaGreatDoorRows
import GoSem.ClaimSeven
namespace Go.Proofs.YtaojpfcboainmaaGreatDoor
namespace Rows

/-- THE TIED CARD OF 'compasslaw25.MonoWhole'. -/
def monoWholeCard : Claim7 := { stood := { row := monoWholeRow, standIns := [], harness := (true, "b5ec50f360a9df2cd6ab2d8da575a15d8c65a3db5c26bec24a8f5df5fb9a52cf"), looks := false }, kinds := [], alts := [], laidByText := true, laidKinds := [.data], laidTests := true, laidLooks := .later }
def MonoWholeCardSaid : Prop := Claim7.holds Tryz.pinned (.plain (OpenSpec.ofChange monoWholeSpec)) monoWholeCard

/-- THE TIED CARD OF 'compasslaw25.MonoParts'. -/
def monoPartsCard : Claim7 := { stood := { row := monoPartsRow, standIns := [], harness := (true, "b5ec50f360a9df2cd6ab2d8da575a15d8c65a3db5c26bec24a8f5df5fb9a52cf"), looks := false }, kinds := [], alts := [], laidByText := true, laidKinds := [.data], laidTests := true, laidLooks := .later }
def MonoPartsCardSaid : Prop := Claim7.holds Tryz.pinned (.plain (OpenSpec.ofChange monoPartsSpec)) monoPartsCard

/-- THE TIED CARD OF 'compasslaw24.PairSegments'. -/
def pairSegmentsCard : Claim7 := { stood := { row := pairSegmentsRow, standIns := [], harness := (true, "b5ec50f360a9df2cd6ab2d8da575a15d8c65a3db5c26bec24a8f5df5fb9a52cf"), looks := false }, kinds := [], alts := [], laidByText := true, laidKinds := [.data], laidTests := true, laidLooks := .later }
def PairSegmentsCardSaid : Prop := Claim7.holds Tryz.pinned (.plain (OpenSpec.ofChange pairSegmentsSpec)) pairSegmentsCard

/-- THE TIED CARD OF 'compasslaw24.PairCrosses'. -/
def pairCrossesCard : Claim7 := { stood := { row := pairCrossesRow, standIns := [], harness := (true, "b5ec50f360a9df2cd6ab2d8da575a15d8c65a3db5c26bec24a8f5df5fb9a52cf"), looks := false }, kinds := [], alts := [], laidByText := true, laidKinds := [.data], laidTests := true, laidLooks := .later }
def PairCrossesCardSaid : Prop := Claim7.holds Tryz.pinned (.plain (OpenSpec.ofChange pairCrossesSpec)) pairCrossesCard

/-- THE TIED CARD OF 'compasslaw24.PairSelf'. -/
def pairSelfCard : Claim7 := { stood := { row := pairSelfRow, standIns := [], harness := (true, "b5ec50f360a9df2cd6ab2d8da575a15d8c65a3db5c26bec24a8f5df5fb9a52cf"), looks := false }, kinds := [], alts := [], laidByText := true, laidKinds := [.data], laidTests := true, laidLooks := .later }
def PairSelfCardSaid : Prop := Claim7.holds Tryz.pinned (.plain (OpenSpec.ofChange pairSelfSpec)) pairSelfCard

/-- THE SECOND FORM's CARD OF 'compasslaw25.MonoWhole'. -/
def monoWholeUptoCard : Claim7 := { stood := { row := monoWholeUptoRow, standIns := [], harness := (true, "b5ec50f360a9df2cd6ab2d8da575a15d8c65a3db5c26bec24a8f5df5fb9a52cf"), looks := false }, kinds := [], alts := [], laidByText := true, laidKinds := [.data], laidTests := true, laidLooks := .later }
def MonoWholeUptoCardSaid : Prop := Claim7.holds Tryz.pinned (.plain (OpenSpec.upto monoWholeSpec)) monoWholeUptoCard

/-- THE SECOND FORM's CARD OF 'compasslaw25.MonoParts'. -/
def monoPartsUptoCard : Claim7 := { stood := { row := monoPartsUptoRow, standIns := [], harness := (true, "b5ec50f360a9df2cd6ab2d8da575a15d8c65a3db5c26bec24a8f5df5fb9a52cf"), looks := false }, kinds := [], alts := [], laidByText := true, laidKinds := [.data], laidTests := true, laidLooks := .later }
def MonoPartsUptoCardSaid : Prop := Claim7.holds Tryz.pinned (.plain (OpenSpec.upto monoPartsSpec)) monoPartsUptoCard

/-- THE SECOND FORM's CARD OF 'compasslaw24.PairSegments'. -/
def pairSegmentsUptoCard : Claim7 := { stood := { row := pairSegmentsUptoRow, standIns := [], harness := (true, "b5ec50f360a9df2cd6ab2d8da575a15d8c65a3db5c26bec24a8f5df5fb9a52cf"), looks := false }, kinds := [], alts := [], laidByText := true, laidKinds := [.data], laidTests := true, laidLooks := .later }
def PairSegmentsUptoCardSaid : Prop := Claim7.holds Tryz.pinned (.plain (OpenSpec.upto pairSegmentsSpec)) pairSegmentsUptoCard

/-- THE SECOND FORM's CARD OF 'compasslaw24.PairCrosses'. -/
def pairCrossesUptoCard : Claim7 := { stood := { row := pairCrossesUptoRow, standIns := [], harness := (true, "b5ec50f360a9df2cd6ab2d8da575a15d8c65a3db5c26bec24a8f5df5fb9a52cf"), looks := false }, kinds := [], alts := [], laidByText := true, laidKinds := [.data], laidTests := true, laidLooks := .later }
def PairCrossesUptoCardSaid : Prop := Claim7.holds Tryz.pinned (.plain (OpenSpec.upto pairCrossesSpec)) pairCrossesUptoCard

/-- THE SECOND FORM's CARD OF 'compasslaw24.PairSelf'. -/
def pairSelfUptoCard : Claim7 := { stood := { row := pairSelfUptoRow, standIns := [], harness := (true, "b5ec50f360a9df2cd6ab2d8da575a15d8c65a3db5c26bec24a8f5df5fb9a52cf"), looks := false }, kinds := [], alts := [], laidByText := true, laidKinds := [.data], laidTests := true, laidLooks := .later }
def PairSelfUptoCardSaid : Prop := Claim7.holds Tryz.pinned (.plain (OpenSpec.upto pairSelfSpec)) pairSelfUptoCard
end Rows
end Go.Proofs.YtaojpfcboainmaaGreatDoor
