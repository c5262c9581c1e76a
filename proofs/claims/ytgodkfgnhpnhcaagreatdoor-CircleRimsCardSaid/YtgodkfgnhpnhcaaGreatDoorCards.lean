/-
  DERIVED. GIVEN WITH THE SEED: THE CARDS: each row of YtgodkfgnhpnhcaaGreatDoorRows.lean that lists a variable, with what it lists TIED to the program's text (the seventh form; the later family's looks); each row that meets fmt, with fmt's text TOLD by the authors' own Lean function (tested against real Go, not proved from fmt's source: count such statements apart). THE CARD IS WHAT COUNTS. Prove the row's statement (the work); the ties are given (YtgodkfgnhpnhcaaGreatDoorTie.lean); close each card by the builder's one call (the guide's Derived/Test/ToyasCard.lean, 'card_holds'). Laid BY PROGRAM, IN A SANDBOX (cutbox-door.mjs). By AI agents, Wed Nov 11 2026. No macro, syntax, notation, axiom, sorry.
-/
import Derived.Test.YtgodkfgnhpnhcaaGreatDoorRows
import GoSem.ClaimSeven
namespace Go.Proofs.YtgodkfgnhpnhcaaGreatDoor
namespace Rows

/-- THE TIED CARD OF 'compasslaw17.SpotSquares'. -/
def spotSquaresCard : Claim7 := { stood := { row := spotSquaresRow, standIns := [], harness := (true, "df980073a6a8f04f62d09c78f7f1ebbd8fd795c57507287bc1493bbe1495881e"), looks := true }, kinds := [], alts := [], laidByText := true, laidKinds := [.data], laidTests := true, laidLooks := .later }
def SpotSquaresCardSaid : Prop := Claim7.holds Tryz.pinned (.plain (OpenSpec.ofChange spotSquaresSpec)) spotSquaresCard

/-- THE TIED CARD OF 'compasslaw21.SideRound'. -/
def sideRoundCard : Claim7 := { stood := { row := sideRoundRow, standIns := [], harness := (true, "df980073a6a8f04f62d09c78f7f1ebbd8fd795c57507287bc1493bbe1495881e"), looks := true }, kinds := [], alts := [], laidByText := true, laidKinds := [.data], laidTests := true, laidLooks := .later }
def SideRoundCardSaid : Prop := Claim7.holds Tryz.pinned (.plain (OpenSpec.ofChange sideRoundSpec)) sideRoundCard

/-- THE TIED CARD OF 'compasslaw21.SideWays'. -/
def sideWaysCard : Claim7 := { stood := { row := sideWaysRow, standIns := [], harness := (true, "df980073a6a8f04f62d09c78f7f1ebbd8fd795c57507287bc1493bbe1495881e"), looks := true }, kinds := [], alts := [], laidByText := true, laidKinds := [.data], laidTests := true, laidLooks := .later }
def SideWaysCardSaid : Prop := Claim7.holds Tryz.pinned (.plain (OpenSpec.ofChange sideWaysSpec)) sideWaysCard

/-- THE TIED CARD OF 'compasslaw17.SpotTurns'. -/
def spotTurnsCard : Claim7 := { stood := { row := spotTurnsRow, standIns := [], harness := (true, "df980073a6a8f04f62d09c78f7f1ebbd8fd795c57507287bc1493bbe1495881e"), looks := true }, kinds := [], alts := [], laidByText := true, laidKinds := [.data], laidTests := true, laidLooks := .later }
def SpotTurnsCardSaid : Prop := Claim7.holds Tryz.pinned (.plain (OpenSpec.ofChange spotTurnsSpec)) spotTurnsCard

/-- THE TIED CARD OF 'compasslaw14.SignZeros'. -/
def signZerosCard : Claim7 := { stood := { row := signZerosRow, standIns := [], harness := (true, "df980073a6a8f04f62d09c78f7f1ebbd8fd795c57507287bc1493bbe1495881e"), looks := true }, kinds := [], alts := [], laidByText := true, laidKinds := [.data], laidTests := true, laidLooks := .later }
def SignZerosCardSaid : Prop := Claim7.holds Tryz.pinned (.plain (OpenSpec.ofChange signZerosSpec)) signZerosCard

/-- THE TIED CARD OF 'compasslaw17.SpotTells'. -/
def spotTellsCard : Claim7 := { stood := { row := spotTellsRow, standIns := [], harness := (true, "df980073a6a8f04f62d09c78f7f1ebbd8fd795c57507287bc1493bbe1495881e"), looks := true }, kinds := [], alts := [], laidByText := true, laidKinds := [.data], laidTests := true, laidLooks := .later }
def SpotTellsCardSaid : Prop := Claim7.holds Tryz.pinned (.plain (OpenSpec.ofChange spotTellsSpec)) spotTellsCard

/-- THE TIED CARD OF 'compasslaw14.SignNone'. -/
def signNoneCard : Claim7 := { stood := { row := signNoneRow, standIns := [], harness := (true, "df980073a6a8f04f62d09c78f7f1ebbd8fd795c57507287bc1493bbe1495881e"), looks := true }, kinds := [], alts := [], laidByText := true, laidKinds := [.data], laidTests := true, laidLooks := .later }
def SignNoneCardSaid : Prop := Claim7.holds Tryz.pinned (.plain (OpenSpec.ofChange signNoneSpec)) signNoneCard

/-- THE TIED CARD OF 'compasslaw17.SpotNone'. -/
def spotNoneCard : Claim7 := { stood := { row := spotNoneRow, standIns := [], harness := (true, "df980073a6a8f04f62d09c78f7f1ebbd8fd795c57507287bc1493bbe1495881e"), looks := true }, kinds := [], alts := [], laidByText := true, laidKinds := [.data], laidTests := true, laidLooks := .later }
def SpotNoneCardSaid : Prop := Claim7.holds Tryz.pinned (.plain (OpenSpec.ofChange spotNoneSpec)) spotNoneCard

/-- THE TIED CARD OF 'compasslaw21.SideInside'. -/
def sideInsideCard : Claim7 := { stood := { row := sideInsideRow, standIns := [], harness := (true, "df980073a6a8f04f62d09c78f7f1ebbd8fd795c57507287bc1493bbe1495881e"), looks := true }, kinds := [], alts := [], laidByText := true, laidKinds := [.data], laidTests := true, laidLooks := .later }
def SideInsideCardSaid : Prop := Claim7.holds Tryz.pinned (.plain (OpenSpec.ofChange sideInsideSpec)) sideInsideCard

/-- THE TIED CARD OF 'compasslaw17.SpotSorts'. -/
def spotSortsCard : Claim7 := { stood := { row := spotSortsRow, standIns := [], harness := (true, "df980073a6a8f04f62d09c78f7f1ebbd8fd795c57507287bc1493bbe1495881e"), looks := true }, kinds := [], alts := [], laidByText := true, laidKinds := [.data], laidTests := true, laidLooks := .later }
def SpotSortsCardSaid : Prop := Claim7.holds Tryz.pinned (.plain (OpenSpec.ofChange spotSortsSpec)) spotSortsCard

/-- THE TIED CARD OF 'compasslaw19.CircleRims'. -/
def circleRimsCard : Claim7 := { stood := { row := circleRimsRow, standIns := [], harness := (true, "df980073a6a8f04f62d09c78f7f1ebbd8fd795c57507287bc1493bbe1495881e"), looks := true }, kinds := [], alts := [], laidByText := true, laidKinds := [.data], laidTests := true, laidLooks := .later }
def CircleRimsCardSaid : Prop := Claim7.holds Tryz.pinned (.plain (OpenSpec.ofChange circleRimsSpec)) circleRimsCard

/-- THE TIED CARD OF 'compasslaw22.ArcFails'. -/
def arcFailsCard : Claim7 := { stood := { row := arcFailsRow, standIns := [], harness := (true, "df980073a6a8f04f62d09c78f7f1ebbd8fd795c57507287bc1493bbe1495881e"), looks := true }, kinds := [], alts := [], laidByText := true, laidKinds := [.data], laidTests := true, laidLooks := .later }
def ArcFailsCardSaid : Prop := Claim7.holds Tryz.pinned (.plain (OpenSpec.ofChange arcFailsSpec)) arcFailsCard

/-- THE SECOND FORM's CARD OF 'compasslaw17.SpotSquares'. -/
def spotSquaresUptoCard : Claim7 := { stood := { row := spotSquaresUptoRow, standIns := [], harness := (true, "df980073a6a8f04f62d09c78f7f1ebbd8fd795c57507287bc1493bbe1495881e"), looks := true }, kinds := [], alts := [], laidByText := true, laidKinds := [.data], laidTests := true, laidLooks := .later }
def SpotSquaresUptoCardSaid : Prop := Claim7.holds Tryz.pinned (.plain (OpenSpec.upto spotSquaresSpec)) spotSquaresUptoCard

/-- THE SECOND FORM's CARD OF 'compasslaw21.SideRound'. -/
def sideRoundUptoCard : Claim7 := { stood := { row := sideRoundUptoRow, standIns := [], harness := (true, "df980073a6a8f04f62d09c78f7f1ebbd8fd795c57507287bc1493bbe1495881e"), looks := true }, kinds := [], alts := [], laidByText := true, laidKinds := [.data], laidTests := true, laidLooks := .later }
def SideRoundUptoCardSaid : Prop := Claim7.holds Tryz.pinned (.plain (OpenSpec.upto sideRoundSpec)) sideRoundUptoCard

/-- THE SECOND FORM's CARD OF 'compasslaw21.SideWays'. -/
def sideWaysUptoCard : Claim7 := { stood := { row := sideWaysUptoRow, standIns := [], harness := (true, "df980073a6a8f04f62d09c78f7f1ebbd8fd795c57507287bc1493bbe1495881e"), looks := true }, kinds := [], alts := [], laidByText := true, laidKinds := [.data], laidTests := true, laidLooks := .later }
def SideWaysUptoCardSaid : Prop := Claim7.holds Tryz.pinned (.plain (OpenSpec.upto sideWaysSpec)) sideWaysUptoCard

/-- THE SECOND FORM's CARD OF 'compasslaw17.SpotTurns'. -/
def spotTurnsUptoCard : Claim7 := { stood := { row := spotTurnsUptoRow, standIns := [], harness := (true, "df980073a6a8f04f62d09c78f7f1ebbd8fd795c57507287bc1493bbe1495881e"), looks := true }, kinds := [], alts := [], laidByText := true, laidKinds := [.data], laidTests := true, laidLooks := .later }
def SpotTurnsUptoCardSaid : Prop := Claim7.holds Tryz.pinned (.plain (OpenSpec.upto spotTurnsSpec)) spotTurnsUptoCard

/-- THE SECOND FORM's CARD OF 'compasslaw14.SignZeros'. -/
def signZerosUptoCard : Claim7 := { stood := { row := signZerosUptoRow, standIns := [], harness := (true, "df980073a6a8f04f62d09c78f7f1ebbd8fd795c57507287bc1493bbe1495881e"), looks := true }, kinds := [], alts := [], laidByText := true, laidKinds := [.data], laidTests := true, laidLooks := .later }
def SignZerosUptoCardSaid : Prop := Claim7.holds Tryz.pinned (.plain (OpenSpec.upto signZerosSpec)) signZerosUptoCard

/-- THE SECOND FORM's CARD OF 'compasslaw17.SpotTells'. -/
def spotTellsUptoCard : Claim7 := { stood := { row := spotTellsUptoRow, standIns := [], harness := (true, "df980073a6a8f04f62d09c78f7f1ebbd8fd795c57507287bc1493bbe1495881e"), looks := true }, kinds := [], alts := [], laidByText := true, laidKinds := [.data], laidTests := true, laidLooks := .later }
def SpotTellsUptoCardSaid : Prop := Claim7.holds Tryz.pinned (.plain (OpenSpec.upto spotTellsSpec)) spotTellsUptoCard

/-- THE SECOND FORM's CARD OF 'compasslaw14.SignNone'. -/
def signNoneUptoCard : Claim7 := { stood := { row := signNoneUptoRow, standIns := [], harness := (true, "df980073a6a8f04f62d09c78f7f1ebbd8fd795c57507287bc1493bbe1495881e"), looks := true }, kinds := [], alts := [], laidByText := true, laidKinds := [.data], laidTests := true, laidLooks := .later }
def SignNoneUptoCardSaid : Prop := Claim7.holds Tryz.pinned (.plain (OpenSpec.upto signNoneSpec)) signNoneUptoCard

/-- THE SECOND FORM's CARD OF 'compasslaw17.SpotNone'. -/
def spotNoneUptoCard : Claim7 := { stood := { row := spotNoneUptoRow, standIns := [], harness := (true, "df980073a6a8f04f62d09c78f7f1ebbd8fd795c57507287bc1493bbe1495881e"), looks := true }, kinds := [], alts := [], laidByText := true, laidKinds := [.data], laidTests := true, laidLooks := .later }
def SpotNoneUptoCardSaid : Prop := Claim7.holds Tryz.pinned (.plain (OpenSpec.upto spotNoneSpec)) spotNoneUptoCard

/-- THE SECOND FORM's CARD OF 'compasslaw21.SideInside'. -/
def sideInsideUptoCard : Claim7 := { stood := { row := sideInsideUptoRow, standIns := [], harness := (true, "df980073a6a8f04f62d09c78f7f1ebbd8fd795c57507287bc1493bbe1495881e"), looks := true }, kinds := [], alts := [], laidByText := true, laidKinds := [.data], laidTests := true, laidLooks := .later }
def SideInsideUptoCardSaid : Prop := Claim7.holds Tryz.pinned (.plain (OpenSpec.upto sideInsideSpec)) sideInsideUptoCard

/-- THE SECOND FORM's CARD OF 'compasslaw17.SpotSorts'. -/
def spotSortsUptoCard : Claim7 := { stood := { row := spotSortsUptoRow, standIns := [], harness := (true, "df980073a6a8f04f62d09c78f7f1ebbd8fd795c57507287bc1493bbe1495881e"), looks := true }, kinds := [], alts := [], laidByText := true, laidKinds := [.data], laidTests := true, laidLooks := .later }
def SpotSortsUptoCardSaid : Prop := Claim7.holds Tryz.pinned (.plain (OpenSpec.upto spotSortsSpec)) spotSortsUptoCard

/-- THE SECOND FORM's CARD OF 'compasslaw19.CircleRims'. -/
def circleRimsUptoCard : Claim7 := { stood := { row := circleRimsUptoRow, standIns := [], harness := (true, "df980073a6a8f04f62d09c78f7f1ebbd8fd795c57507287bc1493bbe1495881e"), looks := true }, kinds := [], alts := [], laidByText := true, laidKinds := [.data], laidTests := true, laidLooks := .later }
def CircleRimsUptoCardSaid : Prop := Claim7.holds Tryz.pinned (.plain (OpenSpec.upto circleRimsSpec)) circleRimsUptoCard

/-- THE SECOND FORM's CARD OF 'compasslaw22.ArcFails'. -/
def arcFailsUptoCard : Claim7 := { stood := { row := arcFailsUptoRow, standIns := [], harness := (true, "df980073a6a8f04f62d09c78f7f1ebbd8fd795c57507287bc1493bbe1495881e"), looks := true }, kinds := [], alts := [], laidByText := true, laidKinds := [.data], laidTests := true, laidLooks := .later }
def ArcFailsUptoCardSaid : Prop := Claim7.holds Tryz.pinned (.plain (OpenSpec.upto arcFailsSpec)) arcFailsUptoCard
end Rows
end Go.Proofs.YtgodkfgnhpnhcaaGreatDoor
