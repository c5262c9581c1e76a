/-
  DERIVED. GIVEN WITH THE SEED: THE CARDS: each row of YtkpodipoegbclaaGreatDoorRows.lean that lists a variable, with what it lists TIED to the program's text (the seventh form; the later family's looks); each row that meets fmt, with fmt's text TOLD by the authors' own Lean function (tested against real Go, not proved from fmt's source: count such statements apart). THE CARD IS WHAT COUNTS. Prove the row's statement (the work); the ties are given (YtkpodipoegbclaaGreatDoorTie.lean); close each card by the builder's one call (the guide's Derived/Test/ToyasCard.lean, 'card_holds'). Laid BY PROGRAM, IN A SANDBOX (cutbox-door.mjs). By AI agents, Wed Nov 11 2026. No macro, syntax, notation, axiom, sorry.
-/
import Derived.Test.YtkpodipoegbclaaGreatDoorRows
import GoSem.ClaimSeven
namespace Go.Proofs.YtkpodipoegbclaaGreatDoor
namespace Rows

/-- THE TIED CARD OF 'compasslaw15.RealFloors'. -/
def realFloorsCard : Claim7 := { stood := { row := realFloorsRow, standIns := [], harness := (true, "5eb55f32acd6f23cf1be11dbe93ae6432ee46420a03d74f0438c64c71d1244cb"), looks := true }, kinds := [], alts := [], laidByText := true, laidKinds := [.data, .data, .data], laidTests := true, laidLooks := .later }
def RealFloorsCardSaid : Prop := Claim7.holds Tryz.pinned (.plain (OpenSpec.ofChange realFloorsSpec)) realFloorsCard

/-- THE TIED CARD OF 'compasslaw15.RealSums'. -/
def realSumsCard : Claim7 := { stood := { row := realSumsRow, standIns := [], harness := (true, "5eb55f32acd6f23cf1be11dbe93ae6432ee46420a03d74f0438c64c71d1244cb"), looks := true }, kinds := [], alts := [], laidByText := true, laidKinds := [.data, .data, .data], laidTests := true, laidLooks := .later }
def RealSumsCardSaid : Prop := Claim7.holds Tryz.pinned (.plain (OpenSpec.ofChange realSumsSpec)) realSumsCard

/-- THE TIED CARD OF 'compasslaw16.RankFails'. -/
def rankFailsCard : Claim7 := { stood := { row := rankFailsRow, standIns := [], harness := (true, "5eb55f32acd6f23cf1be11dbe93ae6432ee46420a03d74f0438c64c71d1244cb"), looks := true }, kinds := [], alts := [], laidByText := true, laidKinds := [.data, .handle], laidTests := true, laidLooks := .later }
def RankFailsCardSaid : Prop := Claim7.holds Tryz.pinned (.plain (OpenSpec.ofChange rankFailsSpec)) rankFailsCard

/-- THE TIED CARD OF 'compasslaw22.ArcFails'. -/
def arcFailsCard : Claim7 := { stood := { row := arcFailsRow, standIns := [], harness := (true, "5eb55f32acd6f23cf1be11dbe93ae6432ee46420a03d74f0438c64c71d1244cb"), looks := true }, kinds := [], alts := [], laidByText := true, laidKinds := [.data], laidTests := true, laidLooks := .later }
def ArcFailsCardSaid : Prop := Claim7.holds Tryz.pinned (.plain (OpenSpec.ofChange arcFailsSpec)) arcFailsCard

/-- THE SECOND FORM's CARD OF 'compasslaw15.RealFloors'. -/
def realFloorsUptoCard : Claim7 := { stood := { row := realFloorsUptoRow, standIns := [], harness := (true, "5eb55f32acd6f23cf1be11dbe93ae6432ee46420a03d74f0438c64c71d1244cb"), looks := true }, kinds := [], alts := [], laidByText := true, laidKinds := [.data, .data, .data], laidTests := true, laidLooks := .later }
def RealFloorsUptoCardSaid : Prop := Claim7.holds Tryz.pinned (.plain (OpenSpec.upto realFloorsSpec)) realFloorsUptoCard

/-- THE SECOND FORM's CARD OF 'compasslaw15.RealSums'. -/
def realSumsUptoCard : Claim7 := { stood := { row := realSumsUptoRow, standIns := [], harness := (true, "5eb55f32acd6f23cf1be11dbe93ae6432ee46420a03d74f0438c64c71d1244cb"), looks := true }, kinds := [], alts := [], laidByText := true, laidKinds := [.data, .data, .data], laidTests := true, laidLooks := .later }
def RealSumsUptoCardSaid : Prop := Claim7.holds Tryz.pinned (.plain (OpenSpec.upto realSumsSpec)) realSumsUptoCard

/-- THE SECOND FORM's CARD OF 'compasslaw16.RankFails'. -/
def rankFailsUptoCard : Claim7 := { stood := { row := rankFailsUptoRow, standIns := [], harness := (true, "5eb55f32acd6f23cf1be11dbe93ae6432ee46420a03d74f0438c64c71d1244cb"), looks := true }, kinds := [], alts := [], laidByText := true, laidKinds := [.data, .handle], laidTests := true, laidLooks := .later }
def RankFailsUptoCardSaid : Prop := Claim7.holds Tryz.pinned (.plain (OpenSpec.upto rankFailsSpec)) rankFailsUptoCard

/-- THE SECOND FORM's CARD OF 'compasslaw22.ArcFails'. -/
def arcFailsUptoCard : Claim7 := { stood := { row := arcFailsUptoRow, standIns := [], harness := (true, "5eb55f32acd6f23cf1be11dbe93ae6432ee46420a03d74f0438c64c71d1244cb"), looks := true }, kinds := [], alts := [], laidByText := true, laidKinds := [.data], laidTests := true, laidLooks := .later }
def ArcFailsUptoCardSaid : Prop := Claim7.holds Tryz.pinned (.plain (OpenSpec.upto arcFailsSpec)) arcFailsUptoCard
end Rows
end Go.Proofs.YtkpodipoegbclaaGreatDoor
