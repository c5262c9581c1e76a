/-
  DERIVED. GIVEN WITH THE SEED: THE CARDS: each row of YtebdolonckjpiaaGreatDoorRows.lean that lists a variable, with what it lists TIED to the program's text (the seventh form; the later family's looks); each row that meets fmt, with fmt's text TOLD by the authors' own Lean function (tested against real Go, not proved from fmt's source: count such statements apart). THE CARD IS WHAT COUNTS. Prove the row's statement (the work); the ties are given (YtebdolonckjpiaaGreatDoorTie.lean); close each card by the builder's one call (the guide's Derived/Test/ToyasCard.lean, 'card_holds'). Laid BY PROGRAM, IN A SANDBOX (cutbox-door.mjs). By AI agents, Wed Nov 11 2026. No macro, syntax, notation, axiom, sorry.
-/
import Derived.Test.YtebdolonckjpiaaGreatDoorRows
import GoSem.ClaimSeven
namespace Go.Proofs.YtebdolonckjpiaaGreatDoor
namespace Rows

/-- THE TIED CARD OF 'compasslaw16.RankMoves'. -/
def rankMovesCard : Claim7 := { stood := { row := rankMovesRow, standIns := [], harness := (true, "3b7f12f2887d40e815058b67bc896a5186267001e9461abe87283a0a5978be79"), looks := true }, kinds := [], alts := [], laidByText := true, laidKinds := [.data], laidTests := true, laidLooks := .later }
def RankMovesCardSaid : Prop := Claim7.holds Tryz.pinned (.plain (OpenSpec.ofChange rankMovesSpec)) rankMovesCard

/-- THE TIED CARD OF 'compasslaw21.SideInside'. -/
def sideInsideCard : Claim7 := { stood := { row := sideInsideRow, standIns := [], harness := (true, "3b7f12f2887d40e815058b67bc896a5186267001e9461abe87283a0a5978be79"), looks := true }, kinds := [], alts := [], laidByText := true, laidKinds := [.data], laidTests := true, laidLooks := .later }
def SideInsideCardSaid : Prop := Claim7.holds Tryz.pinned (.plain (OpenSpec.ofChange sideInsideSpec)) sideInsideCard

/-- THE TIED CARD OF 'compasslaw14.SignNone'. -/
def signNoneCard : Claim7 := { stood := { row := signNoneRow, standIns := [], harness := (true, "3b7f12f2887d40e815058b67bc896a5186267001e9461abe87283a0a5978be79"), looks := true }, kinds := [], alts := [], laidByText := true, laidKinds := [.data], laidTests := true, laidLooks := .later }
def SignNoneCardSaid : Prop := Claim7.holds Tryz.pinned (.plain (OpenSpec.ofChange signNoneSpec)) signNoneCard

/-- THE TIED CARD OF 'compasslaw14.SignZeros'. -/
def signZerosCard : Claim7 := { stood := { row := signZerosRow, standIns := [], harness := (true, "3b7f12f2887d40e815058b67bc896a5186267001e9461abe87283a0a5978be79"), looks := true }, kinds := [], alts := [], laidByText := true, laidKinds := [.data], laidTests := true, laidLooks := .later }
def SignZerosCardSaid : Prop := Claim7.holds Tryz.pinned (.plain (OpenSpec.ofChange signZerosSpec)) signZerosCard

/-- THE TIED CARD OF 'compasslaw25.MonoWhole'. -/
def monoWholeCard : Claim7 := { stood := { row := monoWholeRow, standIns := [], harness := (true, "3b7f12f2887d40e815058b67bc896a5186267001e9461abe87283a0a5978be79"), looks := true }, kinds := [], alts := [], laidByText := true, laidKinds := [.data], laidTests := true, laidLooks := .later }
def MonoWholeCardSaid : Prop := Claim7.holds Tryz.pinned (.plain (OpenSpec.ofChange monoWholeSpec)) monoWholeCard

/-- THE TIED CARD OF 'compasslaw25.MonoParts'. -/
def monoPartsCard : Claim7 := { stood := { row := monoPartsRow, standIns := [], harness := (true, "3b7f12f2887d40e815058b67bc896a5186267001e9461abe87283a0a5978be79"), looks := true }, kinds := [], alts := [], laidByText := true, laidKinds := [.data], laidTests := true, laidLooks := .later }
def MonoPartsCardSaid : Prop := Claim7.holds Tryz.pinned (.plain (OpenSpec.ofChange monoPartsSpec)) monoPartsCard

/-- THE TIED CARD OF 'compasslaw15.RealGreatest'. -/
def realGreatestCard : Claim7 := { stood := { row := realGreatestRow, standIns := [], harness := (true, "3b7f12f2887d40e815058b67bc896a5186267001e9461abe87283a0a5978be79"), looks := true }, kinds := [], alts := [], laidByText := true, laidKinds := [.data, .data, .data], laidTests := true, laidLooks := .later }
def RealGreatestCardSaid : Prop := Claim7.holds Tryz.pinned (.plain (OpenSpec.ofChange realGreatestSpec)) realGreatestCard

/-- THE TIED CARD OF 'compasslaw15.RealSums'. -/
def realSumsCard : Claim7 := { stood := { row := realSumsRow, standIns := [], harness := (true, "3b7f12f2887d40e815058b67bc896a5186267001e9461abe87283a0a5978be79"), looks := true }, kinds := [], alts := [], laidByText := true, laidKinds := [.data, .data, .data], laidTests := true, laidLooks := .later }
def RealSumsCardSaid : Prop := Claim7.holds Tryz.pinned (.plain (OpenSpec.ofChange realSumsSpec)) realSumsCard

/-- THE TIED CARD OF 'compasslaw15.RealFloors'. -/
def realFloorsCard : Claim7 := { stood := { row := realFloorsRow, standIns := [], harness := (true, "3b7f12f2887d40e815058b67bc896a5186267001e9461abe87283a0a5978be79"), looks := true }, kinds := [], alts := [], laidByText := true, laidKinds := [.data, .data, .data], laidTests := true, laidLooks := .later }
def RealFloorsCardSaid : Prop := Claim7.holds Tryz.pinned (.plain (OpenSpec.ofChange realFloorsSpec)) realFloorsCard

/-- THE TIED CARD OF 'compasslaw24.PairSelf'. -/
def pairSelfCard : Claim7 := { stood := { row := pairSelfRow, standIns := [], harness := (true, "3b7f12f2887d40e815058b67bc896a5186267001e9461abe87283a0a5978be79"), looks := true }, kinds := [], alts := [], laidByText := true, laidKinds := [.data], laidTests := true, laidLooks := .later }
def PairSelfCardSaid : Prop := Claim7.holds Tryz.pinned (.plain (OpenSpec.ofChange pairSelfSpec)) pairSelfCard

/-- THE TIED CARD OF 'compasslaw24.PairSegments'. -/
def pairSegmentsCard : Claim7 := { stood := { row := pairSegmentsRow, standIns := [], harness := (true, "3b7f12f2887d40e815058b67bc896a5186267001e9461abe87283a0a5978be79"), looks := true }, kinds := [], alts := [], laidByText := true, laidKinds := [.data], laidTests := true, laidLooks := .later }
def PairSegmentsCardSaid : Prop := Claim7.holds Tryz.pinned (.plain (OpenSpec.ofChange pairSegmentsSpec)) pairSegmentsCard

/-- THE TIED CARD OF 'compasslaw24.PairCrosses'. -/
def pairCrossesCard : Claim7 := { stood := { row := pairCrossesRow, standIns := [], harness := (true, "3b7f12f2887d40e815058b67bc896a5186267001e9461abe87283a0a5978be79"), looks := true }, kinds := [], alts := [], laidByText := true, laidKinds := [.data], laidTests := true, laidLooks := .later }
def PairCrossesCardSaid : Prop := Claim7.holds Tryz.pinned (.plain (OpenSpec.ofChange pairCrossesSpec)) pairCrossesCard

/-- THE SECOND FORM's CARD OF 'compasslaw16.RankMoves'. -/
def rankMovesUptoCard : Claim7 := { stood := { row := rankMovesUptoRow, standIns := [], harness := (true, "3b7f12f2887d40e815058b67bc896a5186267001e9461abe87283a0a5978be79"), looks := true }, kinds := [], alts := [], laidByText := true, laidKinds := [.data], laidTests := true, laidLooks := .later }
def RankMovesUptoCardSaid : Prop := Claim7.holds Tryz.pinned (.plain (OpenSpec.upto rankMovesSpec)) rankMovesUptoCard

/-- THE SECOND FORM's CARD OF 'compasslaw21.SideInside'. -/
def sideInsideUptoCard : Claim7 := { stood := { row := sideInsideUptoRow, standIns := [], harness := (true, "3b7f12f2887d40e815058b67bc896a5186267001e9461abe87283a0a5978be79"), looks := true }, kinds := [], alts := [], laidByText := true, laidKinds := [.data], laidTests := true, laidLooks := .later }
def SideInsideUptoCardSaid : Prop := Claim7.holds Tryz.pinned (.plain (OpenSpec.upto sideInsideSpec)) sideInsideUptoCard

/-- THE SECOND FORM's CARD OF 'compasslaw14.SignNone'. -/
def signNoneUptoCard : Claim7 := { stood := { row := signNoneUptoRow, standIns := [], harness := (true, "3b7f12f2887d40e815058b67bc896a5186267001e9461abe87283a0a5978be79"), looks := true }, kinds := [], alts := [], laidByText := true, laidKinds := [.data], laidTests := true, laidLooks := .later }
def SignNoneUptoCardSaid : Prop := Claim7.holds Tryz.pinned (.plain (OpenSpec.upto signNoneSpec)) signNoneUptoCard

/-- THE SECOND FORM's CARD OF 'compasslaw14.SignZeros'. -/
def signZerosUptoCard : Claim7 := { stood := { row := signZerosUptoRow, standIns := [], harness := (true, "3b7f12f2887d40e815058b67bc896a5186267001e9461abe87283a0a5978be79"), looks := true }, kinds := [], alts := [], laidByText := true, laidKinds := [.data], laidTests := true, laidLooks := .later }
def SignZerosUptoCardSaid : Prop := Claim7.holds Tryz.pinned (.plain (OpenSpec.upto signZerosSpec)) signZerosUptoCard

/-- THE SECOND FORM's CARD OF 'compasslaw25.MonoWhole'. -/
def monoWholeUptoCard : Claim7 := { stood := { row := monoWholeUptoRow, standIns := [], harness := (true, "3b7f12f2887d40e815058b67bc896a5186267001e9461abe87283a0a5978be79"), looks := true }, kinds := [], alts := [], laidByText := true, laidKinds := [.data], laidTests := true, laidLooks := .later }
def MonoWholeUptoCardSaid : Prop := Claim7.holds Tryz.pinned (.plain (OpenSpec.upto monoWholeSpec)) monoWholeUptoCard

/-- THE SECOND FORM's CARD OF 'compasslaw25.MonoParts'. -/
def monoPartsUptoCard : Claim7 := { stood := { row := monoPartsUptoRow, standIns := [], harness := (true, "3b7f12f2887d40e815058b67bc896a5186267001e9461abe87283a0a5978be79"), looks := true }, kinds := [], alts := [], laidByText := true, laidKinds := [.data], laidTests := true, laidLooks := .later }
def MonoPartsUptoCardSaid : Prop := Claim7.holds Tryz.pinned (.plain (OpenSpec.upto monoPartsSpec)) monoPartsUptoCard

/-- THE SECOND FORM's CARD OF 'compasslaw15.RealGreatest'. -/
def realGreatestUptoCard : Claim7 := { stood := { row := realGreatestUptoRow, standIns := [], harness := (true, "3b7f12f2887d40e815058b67bc896a5186267001e9461abe87283a0a5978be79"), looks := true }, kinds := [], alts := [], laidByText := true, laidKinds := [.data, .data, .data], laidTests := true, laidLooks := .later }
def RealGreatestUptoCardSaid : Prop := Claim7.holds Tryz.pinned (.plain (OpenSpec.upto realGreatestSpec)) realGreatestUptoCard

/-- THE SECOND FORM's CARD OF 'compasslaw15.RealSums'. -/
def realSumsUptoCard : Claim7 := { stood := { row := realSumsUptoRow, standIns := [], harness := (true, "3b7f12f2887d40e815058b67bc896a5186267001e9461abe87283a0a5978be79"), looks := true }, kinds := [], alts := [], laidByText := true, laidKinds := [.data, .data, .data], laidTests := true, laidLooks := .later }
def RealSumsUptoCardSaid : Prop := Claim7.holds Tryz.pinned (.plain (OpenSpec.upto realSumsSpec)) realSumsUptoCard

/-- THE SECOND FORM's CARD OF 'compasslaw15.RealFloors'. -/
def realFloorsUptoCard : Claim7 := { stood := { row := realFloorsUptoRow, standIns := [], harness := (true, "3b7f12f2887d40e815058b67bc896a5186267001e9461abe87283a0a5978be79"), looks := true }, kinds := [], alts := [], laidByText := true, laidKinds := [.data, .data, .data], laidTests := true, laidLooks := .later }
def RealFloorsUptoCardSaid : Prop := Claim7.holds Tryz.pinned (.plain (OpenSpec.upto realFloorsSpec)) realFloorsUptoCard

/-- THE SECOND FORM's CARD OF 'compasslaw24.PairSelf'. -/
def pairSelfUptoCard : Claim7 := { stood := { row := pairSelfUptoRow, standIns := [], harness := (true, "3b7f12f2887d40e815058b67bc896a5186267001e9461abe87283a0a5978be79"), looks := true }, kinds := [], alts := [], laidByText := true, laidKinds := [.data], laidTests := true, laidLooks := .later }
def PairSelfUptoCardSaid : Prop := Claim7.holds Tryz.pinned (.plain (OpenSpec.upto pairSelfSpec)) pairSelfUptoCard

/-- THE SECOND FORM's CARD OF 'compasslaw24.PairSegments'. -/
def pairSegmentsUptoCard : Claim7 := { stood := { row := pairSegmentsUptoRow, standIns := [], harness := (true, "3b7f12f2887d40e815058b67bc896a5186267001e9461abe87283a0a5978be79"), looks := true }, kinds := [], alts := [], laidByText := true, laidKinds := [.data], laidTests := true, laidLooks := .later }
def PairSegmentsUptoCardSaid : Prop := Claim7.holds Tryz.pinned (.plain (OpenSpec.upto pairSegmentsSpec)) pairSegmentsUptoCard

/-- THE SECOND FORM's CARD OF 'compasslaw24.PairCrosses'. -/
def pairCrossesUptoCard : Claim7 := { stood := { row := pairCrossesUptoRow, standIns := [], harness := (true, "3b7f12f2887d40e815058b67bc896a5186267001e9461abe87283a0a5978be79"), looks := true }, kinds := [], alts := [], laidByText := true, laidKinds := [.data], laidTests := true, laidLooks := .later }
def PairCrossesUptoCardSaid : Prop := Claim7.holds Tryz.pinned (.plain (OpenSpec.upto pairCrossesSpec)) pairCrossesUptoCard
end Rows
end Go.Proofs.YtebdolonckjpiaaGreatDoor
