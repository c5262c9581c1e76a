/-
  DERIVED. GIVEN WITH THE SEED: THE CARDS: each row of YtjaafolhfihegaaGreatDoorRows.lean that lists a variable, with what it lists TIED to the program's text (the seventh form; the later family's looks); each row that meets fmt, with fmt's text TOLD by the authors' own Lean function (tested against real Go, not proved from fmt's source: count such statements apart). THE CARD IS WHAT COUNTS. Prove the row's statement (the work); the ties are given (YtjaafolhfihegaaGreatDoorTie.lean); close each card by the builder's one call (the guide's Derived/Test/ToyasCard.lean, 'card_holds'). Laid BY PROGRAM, IN A SANDBOX (cutbox-door.mjs). By AI agents, Wed Nov 11 2026. No macro, syntax, notation, axiom, sorry.
-/
import Derived.Test.YtjaafolhfihegaaGreatDoorRows
import GoSem.ClaimSeven
namespace Go.Proofs.YtjaafolhfihegaaGreatDoor
namespace Rows

/-- THE TIED CARD OF 'compasslaw22.ArcTurns'. -/
def arcTurnsCard : Claim7 := { stood := { row := arcTurnsRow, standIns := [], harness := (true, "146acb901753abcf22434a7137c217ae58ff3762433b549ee24192ed404c64cb"), looks := true }, kinds := [], alts := [], laidByText := true, laidKinds := [.data], laidTests := true, laidLooks := .later }
def ArcTurnsCardSaid : Prop := Claim7.holds Tryz.pinned (.plain (OpenSpec.ofChange arcTurnsSpec)) arcTurnsCard

/-- THE TIED CARD OF 'compasslaw18.LineTimes'. -/
def lineTimesCard : Claim7 := { stood := { row := lineTimesRow, standIns := [], harness := (true, "146acb901753abcf22434a7137c217ae58ff3762433b549ee24192ed404c64cb"), looks := true }, kinds := [], alts := [], laidByText := true, laidKinds := [.data], laidTests := true, laidLooks := .later }
def LineTimesCardSaid : Prop := Claim7.holds Tryz.pinned (.plain (OpenSpec.ofChange lineTimesSpec)) lineTimesCard

/-- THE TIED CARD OF 'compasslaw23.SpanWhole'. -/
def spanWholeCard : Claim7 := { stood := { row := spanWholeRow, standIns := [], harness := (true, "146acb901753abcf22434a7137c217ae58ff3762433b549ee24192ed404c64cb"), looks := true }, kinds := [], alts := [], laidByText := true, laidKinds := [.data], laidTests := true, laidLooks := .later }
def SpanWholeCardSaid : Prop := Claim7.holds Tryz.pinned (.plain (OpenSpec.ofChange spanWholeSpec)) spanWholeCard

/-- THE TIED CARD OF 'compasslaw16.RankMoves'. -/
def rankMovesCard : Claim7 := { stood := { row := rankMovesRow, standIns := [], harness := (true, "146acb901753abcf22434a7137c217ae58ff3762433b549ee24192ed404c64cb"), looks := true }, kinds := [], alts := [], laidByText := true, laidKinds := [.data], laidTests := true, laidLooks := .later }
def RankMovesCardSaid : Prop := Claim7.holds Tryz.pinned (.plain (OpenSpec.ofChange rankMovesSpec)) rankMovesCard

/-- THE TIED CARD OF 'compasslaw18.LineFeet'. -/
def lineFeetCard : Claim7 := { stood := { row := lineFeetRow, standIns := [], harness := (true, "146acb901753abcf22434a7137c217ae58ff3762433b549ee24192ed404c64cb"), looks := true }, kinds := [], alts := [], laidByText := true, laidKinds := [.data], laidTests := true, laidLooks := .later }
def LineFeetCardSaid : Prop := Claim7.holds Tryz.pinned (.plain (OpenSpec.ofChange lineFeetSpec)) lineFeetCard

/-- THE TIED CARD OF 'compasslaw20.MeetSelf'. -/
def meetSelfCard : Claim7 := { stood := { row := meetSelfRow, standIns := [], harness := (true, "146acb901753abcf22434a7137c217ae58ff3762433b549ee24192ed404c64cb"), looks := true }, kinds := [], alts := [], laidByText := true, laidKinds := [.data], laidTests := true, laidLooks := .later }
def MeetSelfCardSaid : Prop := Claim7.holds Tryz.pinned (.plain (OpenSpec.ofChange meetSelfSpec)) meetSelfCard

/-- THE TIED CARD OF 'compasslaw20.MeetTouches'. -/
def meetTouchesCard : Claim7 := { stood := { row := meetTouchesRow, standIns := [], harness := (true, "146acb901753abcf22434a7137c217ae58ff3762433b549ee24192ed404c64cb"), looks := true }, kinds := [], alts := [], laidByText := true, laidKinds := [.data], laidTests := true, laidLooks := .later }
def MeetTouchesCardSaid : Prop := Claim7.holds Tryz.pinned (.plain (OpenSpec.ofChange meetTouchesSpec)) meetTouchesCard

/-- THE TIED CARD OF 'compasslaw20.MeetCounts'. -/
def meetCountsCard : Claim7 := { stood := { row := meetCountsRow, standIns := [], harness := (true, "146acb901753abcf22434a7137c217ae58ff3762433b549ee24192ed404c64cb"), looks := true }, kinds := [], alts := [], laidByText := true, laidKinds := [.data], laidTests := true, laidLooks := .later }
def MeetCountsCardSaid : Prop := Claim7.holds Tryz.pinned (.plain (OpenSpec.ofChange meetCountsSpec)) meetCountsCard

/-- THE TIED CARD OF 'compasslaw20.MeetChords'. -/
def meetChordsCard : Claim7 := { stood := { row := meetChordsRow, standIns := [], harness := (true, "146acb901753abcf22434a7137c217ae58ff3762433b549ee24192ed404c64cb"), looks := true }, kinds := [], alts := [], laidByText := true, laidKinds := [.data], laidTests := true, laidLooks := .later }
def MeetChordsCardSaid : Prop := Claim7.holds Tryz.pinned (.plain (OpenSpec.ofChange meetChordsSpec)) meetChordsCard

/-- THE SECOND FORM's CARD OF 'compasslaw22.ArcTurns'. -/
def arcTurnsUptoCard : Claim7 := { stood := { row := arcTurnsUptoRow, standIns := [], harness := (true, "146acb901753abcf22434a7137c217ae58ff3762433b549ee24192ed404c64cb"), looks := true }, kinds := [], alts := [], laidByText := true, laidKinds := [.data], laidTests := true, laidLooks := .later }
def ArcTurnsUptoCardSaid : Prop := Claim7.holds Tryz.pinned (.plain (OpenSpec.upto arcTurnsSpec)) arcTurnsUptoCard

/-- THE SECOND FORM's CARD OF 'compasslaw18.LineTimes'. -/
def lineTimesUptoCard : Claim7 := { stood := { row := lineTimesUptoRow, standIns := [], harness := (true, "146acb901753abcf22434a7137c217ae58ff3762433b549ee24192ed404c64cb"), looks := true }, kinds := [], alts := [], laidByText := true, laidKinds := [.data], laidTests := true, laidLooks := .later }
def LineTimesUptoCardSaid : Prop := Claim7.holds Tryz.pinned (.plain (OpenSpec.upto lineTimesSpec)) lineTimesUptoCard

/-- THE SECOND FORM's CARD OF 'compasslaw23.SpanWhole'. -/
def spanWholeUptoCard : Claim7 := { stood := { row := spanWholeUptoRow, standIns := [], harness := (true, "146acb901753abcf22434a7137c217ae58ff3762433b549ee24192ed404c64cb"), looks := true }, kinds := [], alts := [], laidByText := true, laidKinds := [.data], laidTests := true, laidLooks := .later }
def SpanWholeUptoCardSaid : Prop := Claim7.holds Tryz.pinned (.plain (OpenSpec.upto spanWholeSpec)) spanWholeUptoCard

/-- THE SECOND FORM's CARD OF 'compasslaw16.RankMoves'. -/
def rankMovesUptoCard : Claim7 := { stood := { row := rankMovesUptoRow, standIns := [], harness := (true, "146acb901753abcf22434a7137c217ae58ff3762433b549ee24192ed404c64cb"), looks := true }, kinds := [], alts := [], laidByText := true, laidKinds := [.data], laidTests := true, laidLooks := .later }
def RankMovesUptoCardSaid : Prop := Claim7.holds Tryz.pinned (.plain (OpenSpec.upto rankMovesSpec)) rankMovesUptoCard

/-- THE SECOND FORM's CARD OF 'compasslaw18.LineFeet'. -/
def lineFeetUptoCard : Claim7 := { stood := { row := lineFeetUptoRow, standIns := [], harness := (true, "146acb901753abcf22434a7137c217ae58ff3762433b549ee24192ed404c64cb"), looks := true }, kinds := [], alts := [], laidByText := true, laidKinds := [.data], laidTests := true, laidLooks := .later }
def LineFeetUptoCardSaid : Prop := Claim7.holds Tryz.pinned (.plain (OpenSpec.upto lineFeetSpec)) lineFeetUptoCard

/-- THE SECOND FORM's CARD OF 'compasslaw20.MeetSelf'. -/
def meetSelfUptoCard : Claim7 := { stood := { row := meetSelfUptoRow, standIns := [], harness := (true, "146acb901753abcf22434a7137c217ae58ff3762433b549ee24192ed404c64cb"), looks := true }, kinds := [], alts := [], laidByText := true, laidKinds := [.data], laidTests := true, laidLooks := .later }
def MeetSelfUptoCardSaid : Prop := Claim7.holds Tryz.pinned (.plain (OpenSpec.upto meetSelfSpec)) meetSelfUptoCard

/-- THE SECOND FORM's CARD OF 'compasslaw20.MeetTouches'. -/
def meetTouchesUptoCard : Claim7 := { stood := { row := meetTouchesUptoRow, standIns := [], harness := (true, "146acb901753abcf22434a7137c217ae58ff3762433b549ee24192ed404c64cb"), looks := true }, kinds := [], alts := [], laidByText := true, laidKinds := [.data], laidTests := true, laidLooks := .later }
def MeetTouchesUptoCardSaid : Prop := Claim7.holds Tryz.pinned (.plain (OpenSpec.upto meetTouchesSpec)) meetTouchesUptoCard

/-- THE SECOND FORM's CARD OF 'compasslaw20.MeetCounts'. -/
def meetCountsUptoCard : Claim7 := { stood := { row := meetCountsUptoRow, standIns := [], harness := (true, "146acb901753abcf22434a7137c217ae58ff3762433b549ee24192ed404c64cb"), looks := true }, kinds := [], alts := [], laidByText := true, laidKinds := [.data], laidTests := true, laidLooks := .later }
def MeetCountsUptoCardSaid : Prop := Claim7.holds Tryz.pinned (.plain (OpenSpec.upto meetCountsSpec)) meetCountsUptoCard

/-- THE SECOND FORM's CARD OF 'compasslaw20.MeetChords'. -/
def meetChordsUptoCard : Claim7 := { stood := { row := meetChordsUptoRow, standIns := [], harness := (true, "146acb901753abcf22434a7137c217ae58ff3762433b549ee24192ed404c64cb"), looks := true }, kinds := [], alts := [], laidByText := true, laidKinds := [.data], laidTests := true, laidLooks := .later }
def MeetChordsUptoCardSaid : Prop := Claim7.holds Tryz.pinned (.plain (OpenSpec.upto meetChordsSpec)) meetChordsUptoCard
end Rows
end Go.Proofs.YtjaafolhfihegaaGreatDoor
