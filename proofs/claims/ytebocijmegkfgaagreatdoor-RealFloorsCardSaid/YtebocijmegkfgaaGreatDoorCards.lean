/-
  DERIVED. GIVEN WITH THE SEED: THE CARDS: each row of YtebocijmegkfgaaGreatDoorRows.lean that lists a variable, with what it lists TIED to the program's text (the seventh form; the later family's looks); each row that meets fmt, with fmt's text TOLD by the authors' own Lean function (tested against real Go, not proved from fmt's source: count such statements apart). THE CARD IS WHAT COUNTS. Prove the row's statement (the work); the ties are given (YtebocijmegkfgaaGreatDoorTie.lean); close each card by the builder's one call (the guide's Derived/Test/ToyasCard.lean, 'card_holds'). Laid BY PROGRAM, IN A SANDBOX (cutbox-door.mjs). By AI agents, Wed Nov 11 2026. No macro, syntax, notation, axiom, sorry.
-/
import Derived.Test.YtebocijmegkfgaaGreatDoorRows
import GoSem.ClaimSeven
namespace Go.Proofs.YtebocijmegkfgaaGreatDoor
namespace Rows

/-- THE TIED CARD OF 'compasslaw17.SpotTells'. -/
def spotTellsCard : Claim7 := { stood := { row := spotTellsRow, standIns := [], harness := (true, "d738f4d909e28a2f10b6e6f6662b6d32115373514b0a1a4de4bc33dc13f43a12"), looks := false }, kinds := [], alts := [], laidByText := true, laidKinds := [.data], laidTests := true, laidLooks := .later }
def SpotTellsCardSaid : Prop := Claim7.holds Tryz.pinned (.plain (OpenSpec.ofChange spotTellsSpec)) spotTellsCard

/-- THE TIED CARD OF 'compasslaw17.SpotSorts'. -/
def spotSortsCard : Claim7 := { stood := { row := spotSortsRow, standIns := [], harness := (true, "d738f4d909e28a2f10b6e6f6662b6d32115373514b0a1a4de4bc33dc13f43a12"), looks := false }, kinds := [], alts := [], laidByText := true, laidKinds := [.data], laidTests := true, laidLooks := .later }
def SpotSortsCardSaid : Prop := Claim7.holds Tryz.pinned (.plain (OpenSpec.ofChange spotSortsSpec)) spotSortsCard

/-- THE TIED CARD OF 'compasslaw16.RankTells'. -/
def rankTellsCard : Claim7 := { stood := { row := rankTellsRow, standIns := [], harness := (true, "d738f4d909e28a2f10b6e6f6662b6d32115373514b0a1a4de4bc33dc13f43a12"), looks := false }, kinds := [], alts := [], laidByText := true, laidKinds := [.data], laidTests := true, laidLooks := .later }
def RankTellsCardSaid : Prop := Claim7.holds Tryz.pinned (.plain (OpenSpec.ofChange rankTellsSpec)) rankTellsCard

/-- THE TIED CARD OF 'compasslaw15.RealFloors'. -/
def realFloorsCard : Claim7 := { stood := { row := realFloorsRow, standIns := [], harness := (true, "d738f4d909e28a2f10b6e6f6662b6d32115373514b0a1a4de4bc33dc13f43a12"), looks := false }, kinds := [], alts := [], laidByText := true, laidKinds := [.data, .data, .data], laidTests := true, laidLooks := .later }
def RealFloorsCardSaid : Prop := Claim7.holds Tryz.pinned (.plain (OpenSpec.ofChange realFloorsSpec)) realFloorsCard

/-- THE SECOND FORM's CARD OF 'compasslaw17.SpotTells'. -/
def spotTellsUptoCard : Claim7 := { stood := { row := spotTellsUptoRow, standIns := [], harness := (true, "d738f4d909e28a2f10b6e6f6662b6d32115373514b0a1a4de4bc33dc13f43a12"), looks := false }, kinds := [], alts := [], laidByText := true, laidKinds := [.data], laidTests := true, laidLooks := .later }
def SpotTellsUptoCardSaid : Prop := Claim7.holds Tryz.pinned (.plain (OpenSpec.upto spotTellsSpec)) spotTellsUptoCard

/-- THE SECOND FORM's CARD OF 'compasslaw17.SpotSorts'. -/
def spotSortsUptoCard : Claim7 := { stood := { row := spotSortsUptoRow, standIns := [], harness := (true, "d738f4d909e28a2f10b6e6f6662b6d32115373514b0a1a4de4bc33dc13f43a12"), looks := false }, kinds := [], alts := [], laidByText := true, laidKinds := [.data], laidTests := true, laidLooks := .later }
def SpotSortsUptoCardSaid : Prop := Claim7.holds Tryz.pinned (.plain (OpenSpec.upto spotSortsSpec)) spotSortsUptoCard

/-- THE SECOND FORM's CARD OF 'compasslaw16.RankTells'. -/
def rankTellsUptoCard : Claim7 := { stood := { row := rankTellsUptoRow, standIns := [], harness := (true, "d738f4d909e28a2f10b6e6f6662b6d32115373514b0a1a4de4bc33dc13f43a12"), looks := false }, kinds := [], alts := [], laidByText := true, laidKinds := [.data], laidTests := true, laidLooks := .later }
def RankTellsUptoCardSaid : Prop := Claim7.holds Tryz.pinned (.plain (OpenSpec.upto rankTellsSpec)) rankTellsUptoCard

/-- THE SECOND FORM's CARD OF 'compasslaw15.RealFloors'. -/
def realFloorsUptoCard : Claim7 := { stood := { row := realFloorsUptoRow, standIns := [], harness := (true, "d738f4d909e28a2f10b6e6f6662b6d32115373514b0a1a4de4bc33dc13f43a12"), looks := false }, kinds := [], alts := [], laidByText := true, laidKinds := [.data, .data, .data], laidTests := true, laidLooks := .later }
def RealFloorsUptoCardSaid : Prop := Claim7.holds Tryz.pinned (.plain (OpenSpec.upto realFloorsSpec)) realFloorsUptoCard
end Rows
end Go.Proofs.YtebocijmegkfgaaGreatDoor
