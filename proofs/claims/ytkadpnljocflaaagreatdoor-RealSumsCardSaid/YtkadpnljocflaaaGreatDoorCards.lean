/-
  DERIVED. GIVEN WITH THE SEED: THE CARDS: each row of YtkadpnljocflaaaGreatDoorRows.lean that lists a variable, with what it lists TIED to the program's text (the seventh form; the later family's looks); each row that meets fmt, with fmt's text TOLD by the authors' own Lean function (tested against real Go, not proved from fmt's source: count such statements apart). THE CARD IS WHAT COUNTS. Prove the row's statement (the work); the ties are given (YtkadpnljocflaaaGreatDoorTie.lean); close each card by the builder's one call (the guide's Derived/Test/ToyasCard.lean, 'card_holds'). Laid BY PROGRAM, IN A SANDBOX (cutbox-door.mjs). By AI agents, Wed Nov 11 2026. No macro, syntax, notation, axiom, sorry.
-/
import Derived.Test.YtkadpnljocflaaaGreatDoorRows
import GoSem.ClaimSeven
namespace Go.Proofs.YtkadpnljocflaaaGreatDoor
namespace Rows

/-- THE TIED CARD OF 'compasslaw17.SpotSorts'. -/
def spotSortsCard : Claim7 := { stood := { row := spotSortsRow, standIns := [], harness := (true, "135aa13165156e4c7360f2534f4fb723e4b594b867499b88a8eaa8e2c9d315af"), looks := false }, kinds := [], alts := [], laidByText := true, laidKinds := [.data], laidTests := true, laidLooks := .later }
def SpotSortsCardSaid : Prop := Claim7.holds Tryz.pinned (.plain (OpenSpec.ofChange spotSortsSpec)) spotSortsCard

/-- THE TIED CARD OF 'compasslaw15.RealSums'. -/
def realSumsCard : Claim7 := { stood := { row := realSumsRow, standIns := [], harness := (true, "135aa13165156e4c7360f2534f4fb723e4b594b867499b88a8eaa8e2c9d315af"), looks := false }, kinds := [], alts := [], laidByText := true, laidKinds := [.data, .data, .data], laidTests := true, laidLooks := .later }
def RealSumsCardSaid : Prop := Claim7.holds Tryz.pinned (.plain (OpenSpec.ofChange realSumsSpec)) realSumsCard

/-- THE SECOND FORM's CARD OF 'compasslaw17.SpotSorts'. -/
def spotSortsUptoCard : Claim7 := { stood := { row := spotSortsUptoRow, standIns := [], harness := (true, "135aa13165156e4c7360f2534f4fb723e4b594b867499b88a8eaa8e2c9d315af"), looks := false }, kinds := [], alts := [], laidByText := true, laidKinds := [.data], laidTests := true, laidLooks := .later }
def SpotSortsUptoCardSaid : Prop := Claim7.holds Tryz.pinned (.plain (OpenSpec.upto spotSortsSpec)) spotSortsUptoCard

/-- THE SECOND FORM's CARD OF 'compasslaw15.RealSums'. -/
def realSumsUptoCard : Claim7 := { stood := { row := realSumsUptoRow, standIns := [], harness := (true, "135aa13165156e4c7360f2534f4fb723e4b594b867499b88a8eaa8e2c9d315af"), looks := false }, kinds := [], alts := [], laidByText := true, laidKinds := [.data, .data, .data], laidTests := true, laidLooks := .later }
def RealSumsUptoCardSaid : Prop := Claim7.holds Tryz.pinned (.plain (OpenSpec.upto realSumsSpec)) realSumsUptoCard
end Rows
end Go.Proofs.YtkadpnljocflaaaGreatDoor
