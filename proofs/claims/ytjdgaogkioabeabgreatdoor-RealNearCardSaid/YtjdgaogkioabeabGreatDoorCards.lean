/-
  DERIVED. GIVEN WITH THE SEED: THE CARDS: each row of YtjdgaogkioabeabGreatDoorRows.lean that lists a variable, with what it lists TIED to the program's text (the seventh form; the later family's looks); each row that meets fmt, with fmt's text TOLD by the authors' own Lean function (tested against real Go, not proved from fmt's source: count such statements apart). THE CARD IS WHAT COUNTS. Prove the row's statement (the work); the ties are given (YtjdgaogkioabeabGreatDoorTie.lean); close each card by the builder's one call (the guide's Derived/Test/ToyasCard.lean, 'card_holds'). Laid BY PROGRAM, IN A SANDBOX (cutbox-door.mjs). By AI agents, Wed Nov 11 2026. No macro, syntax, notation, axiom, sorry.
-/
import Derived.Test.YtjdgaogkioabeabGreatDoorRows
import GoSem.ClaimSeven
namespace Go.Proofs.YtjdgaogkioabeabGreatDoor
namespace Rows

/-- THE TIED CARD OF 'compasslaw15.RealGreatest'. -/
def realGreatestCard : Claim7 := { stood := { row := realGreatestRow, standIns := [], harness := (true, "ee116ca031b92872ce0d29fb9d2d0158ed6538582986f18e93378c4930be7b13"), looks := true }, kinds := [], alts := [], laidByText := true, laidKinds := [.data, .data, .data], laidTests := true, laidLooks := .later }
def RealGreatestCardSaid : Prop := Claim7.holds Tryz.pinned (.plain (OpenSpec.ofChange realGreatestSpec)) realGreatestCard

/-- THE TIED CARD OF 'compasslaw15.RealFloors'. -/
def realFloorsCard : Claim7 := { stood := { row := realFloorsRow, standIns := [], harness := (true, "ee116ca031b92872ce0d29fb9d2d0158ed6538582986f18e93378c4930be7b13"), looks := true }, kinds := [], alts := [], laidByText := true, laidKinds := [.data, .data, .data], laidTests := true, laidLooks := .later }
def RealFloorsCardSaid : Prop := Claim7.holds Tryz.pinned (.plain (OpenSpec.ofChange realFloorsSpec)) realFloorsCard

/-- THE TIED CARD OF 'compasslaw15.RealNear'. -/
def realNearCard : Claim7 := { stood := { row := realNearRow, standIns := [], harness := (true, "ee116ca031b92872ce0d29fb9d2d0158ed6538582986f18e93378c4930be7b13"), looks := true }, kinds := [], alts := [], laidByText := true, laidKinds := [.data, .data, .data], laidTests := true, laidLooks := .later }
def RealNearCardSaid : Prop := Claim7.holds Tryz.pinned (.plain (OpenSpec.ofChange realNearSpec)) realNearCard

/-- THE TIED CARD OF 'compasslaw15.RealSums'. -/
def realSumsCard : Claim7 := { stood := { row := realSumsRow, standIns := [], harness := (true, "ee116ca031b92872ce0d29fb9d2d0158ed6538582986f18e93378c4930be7b13"), looks := true }, kinds := [], alts := [], laidByText := true, laidKinds := [.data, .data, .data], laidTests := true, laidLooks := .later }
def RealSumsCardSaid : Prop := Claim7.holds Tryz.pinned (.plain (OpenSpec.ofChange realSumsSpec)) realSumsCard

/-- THE SECOND FORM's CARD OF 'compasslaw15.RealGreatest'. -/
def realGreatestUptoCard : Claim7 := { stood := { row := realGreatestUptoRow, standIns := [], harness := (true, "ee116ca031b92872ce0d29fb9d2d0158ed6538582986f18e93378c4930be7b13"), looks := true }, kinds := [], alts := [], laidByText := true, laidKinds := [.data, .data, .data], laidTests := true, laidLooks := .later }
def RealGreatestUptoCardSaid : Prop := Claim7.holds Tryz.pinned (.plain (OpenSpec.upto realGreatestSpec)) realGreatestUptoCard

/-- THE SECOND FORM's CARD OF 'compasslaw15.RealFloors'. -/
def realFloorsUptoCard : Claim7 := { stood := { row := realFloorsUptoRow, standIns := [], harness := (true, "ee116ca031b92872ce0d29fb9d2d0158ed6538582986f18e93378c4930be7b13"), looks := true }, kinds := [], alts := [], laidByText := true, laidKinds := [.data, .data, .data], laidTests := true, laidLooks := .later }
def RealFloorsUptoCardSaid : Prop := Claim7.holds Tryz.pinned (.plain (OpenSpec.upto realFloorsSpec)) realFloorsUptoCard

/-- THE SECOND FORM's CARD OF 'compasslaw15.RealNear'. -/
def realNearUptoCard : Claim7 := { stood := { row := realNearUptoRow, standIns := [], harness := (true, "ee116ca031b92872ce0d29fb9d2d0158ed6538582986f18e93378c4930be7b13"), looks := true }, kinds := [], alts := [], laidByText := true, laidKinds := [.data, .data, .data], laidTests := true, laidLooks := .later }
def RealNearUptoCardSaid : Prop := Claim7.holds Tryz.pinned (.plain (OpenSpec.upto realNearSpec)) realNearUptoCard

/-- THE SECOND FORM's CARD OF 'compasslaw15.RealSums'. -/
def realSumsUptoCard : Claim7 := { stood := { row := realSumsUptoRow, standIns := [], harness := (true, "ee116ca031b92872ce0d29fb9d2d0158ed6538582986f18e93378c4930be7b13"), looks := true }, kinds := [], alts := [], laidByText := true, laidKinds := [.data, .data, .data], laidTests := true, laidLooks := .later }
def RealSumsUptoCardSaid : Prop := Claim7.holds Tryz.pinned (.plain (OpenSpec.upto realSumsSpec)) realSumsUptoCard
end Rows
end Go.Proofs.YtjdgaogkioabeabGreatDoor
