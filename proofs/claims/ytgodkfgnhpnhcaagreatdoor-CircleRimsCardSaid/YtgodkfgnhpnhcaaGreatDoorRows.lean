/-
  NARROWER THAN 'FOR EVERY INPUT', by the rows' own cells (each row's printed sentence says how): SpotSquares: laid · SideRound: laid · SideWays: laid · SpotTurns: laid · SignZeros: laid · SpotTells: laid · SignNone: laid · SpotNone: laid · SideInside: laid · SpotSorts: laid · CircleRims: laid · ArcFails: laid.
  DERIVED. THE GIVEN ROWS OF THIS SEAT. 12 by the template 'for every input the law returns true; each argument reads behind the call as it read before'; 0 by the template 'total and deterministic' (their statements: YtgodkfgnhpnhcaaGreatDoorTotals.lean).
  GIVEN WITH THE SEED: the statements are not yours to turn. If you find one false, say at which input.
  Laid BY PROGRAM, IN A SANDBOX (cutbox-rows.mjs): the forced cells as the released guide's own fill.sh prints them over the translation be932a53ab829cbf… (all of the seat's roots in one cut). By AI agents, Wed Nov 11 2026. No macro, syntax, notation, axiom, sorry.
-/
import Derived.Test.YtgodkfgnhpnhcaaGreatDoorChecked
import GoSem.Claim
import GoSem.ClaimJoined
import GoSem.ClaimMapViews
import Derived.JoinedTies
import Derived.KernelRfl
namespace Go.Proofs.YtgodkfgnhpnhcaaGreatDoor
/- THE CELL 'sum', in the pinned program and in every row, IS THE sha256 OF THE DUMP (.gsa) THAT YtgodkfgnhpnhcaaGreatDoorProg.lean LOADS. Nothing in Lean hashes anything: it is a label: what it is worth is what the hold of that sum in a sandbox is worth. -/
noncomputable def Tryz.pinned : Pinned := { name := "ytgodkfgnhpnhcaagreatdoor", sum := "be932a53ab829cbf8e7f13acb86c128dfc39e7176d518bb237a984c1e3b92cd1", checked := Tryz.checked }
namespace Rows
def none {H : Type} : Left H := { results := [], args := [] }

/- WHAT THE LISTED PACKAGE-LEVEL VARIABLES READ AS WHEN THE CALL BEGINS. Each datum BY PROGRAM (the guide's laid-datum.mjs) off the statement by which the dump's own 'gosem.cut.vars' lays the variable. In a bare row this is a premise. The card (YtgodkfgnhpnhcaaGreatDoorCards.lean) ties it to the program's text. -/
def laid_math_bits_deBruijn64tab {H : Type} : DataW H := .agg [.lit (.int .u8 0), .lit (.int .u8 1), .lit (.int .u8 56), .lit (.int .u8 2), .lit (.int .u8 57), .lit (.int .u8 49), .lit (.int .u8 28), .lit (.int .u8 3), .lit (.int .u8 61), .lit (.int .u8 58), .lit (.int .u8 42), .lit (.int .u8 50), .lit (.int .u8 38), .lit (.int .u8 29), .lit (.int .u8 17), .lit (.int .u8 4), .lit (.int .u8 62), .lit (.int .u8 47), .lit (.int .u8 59), .lit (.int .u8 36), .lit (.int .u8 45), .lit (.int .u8 43), .lit (.int .u8 51), .lit (.int .u8 22), .lit (.int .u8 53), .lit (.int .u8 39), .lit (.int .u8 33), .lit (.int .u8 30), .lit (.int .u8 24), .lit (.int .u8 18), .lit (.int .u8 12), .lit (.int .u8 5), .lit (.int .u8 63), .lit (.int .u8 55), .lit (.int .u8 48), .lit (.int .u8 27), .lit (.int .u8 60), .lit (.int .u8 41), .lit (.int .u8 37), .lit (.int .u8 16), .lit (.int .u8 46), .lit (.int .u8 35), .lit (.int .u8 44), .lit (.int .u8 21), .lit (.int .u8 52), .lit (.int .u8 32), .lit (.int .u8 23), .lit (.int .u8 11), .lit (.int .u8 54), .lit (.int .u8 26), .lit (.int .u8 40), .lit (.int .u8 15), .lit (.int .u8 34), .lit (.int .u8 20), .lit (.int .u8 31), .lit (.int .u8 10), .lit (.int .u8 25), .lit (.int .u8 14), .lit (.int .u8 19), .lit (.int .u8 9), .lit (.int .u8 13), .lit (.int .u8 8), .lit (.int .u8 7), .lit (.int .u8 6)]

/-- 'compasslaw17.SpotSquares': WHATEVER THE INPUT: true; the input reads as it did. -/
def spotSquaresSpec : ChangeSpec := { name := "spotSquares", fn := fun _ => fun
  | [d1, d2] => { results := [.lit (.bool true)], args := [d1, d2] }
  | _ => none }
def spotSquaresRow : OpenClaim := { program := "ytgodkfgnhpnhcaagreatdoor", sum := "be932a53ab829cbf8e7f13acb86c128dfc39e7176d518bb237a984c1e3b92cd1", func := "compass/compasslaw17.SpotSquares", spec := "spotSquares", inPlace := ["math.Float64bits", "math.Float64frombits", "math.sqrt", "math/bits.Add64", "math/bits.Sub64"], unfollowed := true, recurses := true, named := ["math/bits.deBruijn64tab", "math/bits.divideError", "math/bits.overflowError"], plainKeys := false, apart := false, laid := [("math/bits.deBruijn64tab", laid_math_bits_deBruijn64tab)] }
def SpotSquaresSaid : Prop := spotSquaresRow.holds Tryz.pinned (OpenSpec.ofChange spotSquaresSpec)

/-- ITS FALSE NEIGHBOUR: 'it returns false'. Refute it at one input. -/
def spotSquaresWrong : ChangeSpec := { name := "spotSquares", fn := fun _ => fun
  | [d1, d2] => { results := [.lit (.bool false)], args := [d1, d2] }
  | _ => none }
def SpotSquaresWrongFalsely : Prop := spotSquaresRow.holds Tryz.pinned (OpenSpec.ofChange spotSquaresWrong)

/-- 'compasslaw21.SideRound': WHATEVER THE INPUT: true; the input reads as it did. -/
def sideRoundSpec : ChangeSpec := { name := "sideRound", fn := fun _ => fun
  | [d1, d2, d3] => { results := [.lit (.bool true)], args := [d1, d2, d3] }
  | _ => none }
def sideRoundRow : OpenClaim := { program := "ytgodkfgnhpnhcaagreatdoor", sum := "be932a53ab829cbf8e7f13acb86c128dfc39e7176d518bb237a984c1e3b92cd1", func := "compass/compasslaw21.SideRound", spec := "sideRound", inPlace := ["math.Float64bits", "math.Float64frombits", "math.sqrt", "math/bits.Add64", "math/bits.Sub64"], unfollowed := true, recurses := true, named := ["math/bits.deBruijn64tab", "math/bits.divideError", "math/bits.overflowError"], plainKeys := false, apart := false, laid := [("math/bits.deBruijn64tab", laid_math_bits_deBruijn64tab)] }
def SideRoundSaid : Prop := sideRoundRow.holds Tryz.pinned (OpenSpec.ofChange sideRoundSpec)

/-- ITS FALSE NEIGHBOUR: 'it returns false'. Refute it at one input. -/
def sideRoundWrong : ChangeSpec := { name := "sideRound", fn := fun _ => fun
  | [d1, d2, d3] => { results := [.lit (.bool false)], args := [d1, d2, d3] }
  | _ => none }
def SideRoundWrongFalsely : Prop := sideRoundRow.holds Tryz.pinned (OpenSpec.ofChange sideRoundWrong)

/-- 'compasslaw21.SideWays': WHATEVER THE INPUT: true; the input reads as it did. -/
def sideWaysSpec : ChangeSpec := { name := "sideWays", fn := fun _ => fun
  | [d1, d2, d3] => { results := [.lit (.bool true)], args := [d1, d2, d3] }
  | _ => none }
def sideWaysRow : OpenClaim := { program := "ytgodkfgnhpnhcaagreatdoor", sum := "be932a53ab829cbf8e7f13acb86c128dfc39e7176d518bb237a984c1e3b92cd1", func := "compass/compasslaw21.SideWays", spec := "sideWays", inPlace := ["math.Float64bits", "math.Float64frombits", "math.sqrt", "math/bits.Add64", "math/bits.Sub64"], unfollowed := true, recurses := true, named := ["math/bits.deBruijn64tab", "math/bits.divideError", "math/bits.overflowError"], plainKeys := false, apart := false, laid := [("math/bits.deBruijn64tab", laid_math_bits_deBruijn64tab)] }
def SideWaysSaid : Prop := sideWaysRow.holds Tryz.pinned (OpenSpec.ofChange sideWaysSpec)

/-- ITS FALSE NEIGHBOUR: 'it returns false'. Refute it at one input. -/
def sideWaysWrong : ChangeSpec := { name := "sideWays", fn := fun _ => fun
  | [d1, d2, d3] => { results := [.lit (.bool false)], args := [d1, d2, d3] }
  | _ => none }
def SideWaysWrongFalsely : Prop := sideWaysRow.holds Tryz.pinned (OpenSpec.ofChange sideWaysWrong)

/-- 'compasslaw17.SpotTurns': WHATEVER THE INPUT: true; the input reads as it did. -/
def spotTurnsSpec : ChangeSpec := { name := "spotTurns", fn := fun _ => fun
  | [d1, d2, d3, d4] => { results := [.lit (.bool true)], args := [d1, d2, d3, d4] }
  | _ => none }
def spotTurnsRow : OpenClaim := { program := "ytgodkfgnhpnhcaagreatdoor", sum := "be932a53ab829cbf8e7f13acb86c128dfc39e7176d518bb237a984c1e3b92cd1", func := "compass/compasslaw17.SpotTurns", spec := "spotTurns", inPlace := ["math.Float64bits", "math.Float64frombits", "math.sqrt", "math/bits.Add64", "math/bits.Sub64"], unfollowed := true, recurses := true, named := ["math/bits.deBruijn64tab", "math/bits.divideError", "math/bits.overflowError"], plainKeys := false, apart := false, laid := [("math/bits.deBruijn64tab", laid_math_bits_deBruijn64tab)] }
def SpotTurnsSaid : Prop := spotTurnsRow.holds Tryz.pinned (OpenSpec.ofChange spotTurnsSpec)

/-- ITS FALSE NEIGHBOUR: 'it returns false'. Refute it at one input. -/
def spotTurnsWrong : ChangeSpec := { name := "spotTurns", fn := fun _ => fun
  | [d1, d2, d3, d4] => { results := [.lit (.bool false)], args := [d1, d2, d3, d4] }
  | _ => none }
def SpotTurnsWrongFalsely : Prop := spotTurnsRow.holds Tryz.pinned (OpenSpec.ofChange spotTurnsWrong)

/-- 'compasslaw14.SignZeros': WHATEVER THE INPUT: true; the input reads as it did. -/
def signZerosSpec : ChangeSpec := { name := "signZeros", fn := fun _ => fun
  | [d1, d2, d3] => { results := [.lit (.bool true)], args := [d1, d2, d3] }
  | _ => none }
def signZerosRow : OpenClaim := { program := "ytgodkfgnhpnhcaagreatdoor", sum := "be932a53ab829cbf8e7f13acb86c128dfc39e7176d518bb237a984c1e3b92cd1", func := "compass/compasslaw14.SignZeros", spec := "signZeros", inPlace := ["math.Float64bits", "math.Float64frombits", "math.sqrt", "math/bits.Add64", "math/bits.Sub64", "internal/reflectlite.TypeOf"], unfollowed := true, recurses := true, named := ["math/bits.deBruijn64tab", "math/bits.divideError", "math/bits.overflowError"], plainKeys := false, apart := false, laid := [("math/bits.deBruijn64tab", laid_math_bits_deBruijn64tab)] }
def SignZerosSaid : Prop := signZerosRow.holds Tryz.pinned (OpenSpec.ofChange signZerosSpec)

/-- ITS FALSE NEIGHBOUR: 'it returns false'. Refute it at one input. -/
def signZerosWrong : ChangeSpec := { name := "signZeros", fn := fun _ => fun
  | [d1, d2, d3] => { results := [.lit (.bool false)], args := [d1, d2, d3] }
  | _ => none }
def SignZerosWrongFalsely : Prop := signZerosRow.holds Tryz.pinned (OpenSpec.ofChange signZerosWrong)

/-- 'compasslaw17.SpotTells': WHATEVER THE INPUT: true; the input reads as it did. -/
def spotTellsSpec : ChangeSpec := { name := "spotTells", fn := fun _ => fun
  | [d1, d2, d3] => { results := [.lit (.bool true)], args := [d1, d2, d3] }
  | _ => none }
def spotTellsRow : OpenClaim := { program := "ytgodkfgnhpnhcaagreatdoor", sum := "be932a53ab829cbf8e7f13acb86c128dfc39e7176d518bb237a984c1e3b92cd1", func := "compass/compasslaw17.SpotTells", spec := "spotTells", inPlace := ["math.Float64bits", "math.Float64frombits", "math.sqrt", "math/bits.Add64", "math/bits.Sub64"], unfollowed := true, recurses := true, named := ["math/bits.deBruijn64tab", "math/bits.divideError", "math/bits.overflowError"], plainKeys := false, apart := false, laid := [("math/bits.deBruijn64tab", laid_math_bits_deBruijn64tab)] }
def SpotTellsSaid : Prop := spotTellsRow.holds Tryz.pinned (OpenSpec.ofChange spotTellsSpec)

/-- ITS FALSE NEIGHBOUR: 'it returns false'. Refute it at one input. -/
def spotTellsWrong : ChangeSpec := { name := "spotTells", fn := fun _ => fun
  | [d1, d2, d3] => { results := [.lit (.bool false)], args := [d1, d2, d3] }
  | _ => none }
def SpotTellsWrongFalsely : Prop := spotTellsRow.holds Tryz.pinned (OpenSpec.ofChange spotTellsWrong)

/-- 'compasslaw14.SignNone': WHATEVER THE INPUT: true; the input reads as it did. -/
def signNoneSpec : ChangeSpec := { name := "signNone", fn := fun _ => fun
  | [d] => { results := [.lit (.bool true)], args := [d] }
  | _ => none }
def signNoneRow : OpenClaim := { program := "ytgodkfgnhpnhcaagreatdoor", sum := "be932a53ab829cbf8e7f13acb86c128dfc39e7176d518bb237a984c1e3b92cd1", func := "compass/compasslaw14.SignNone", spec := "signNone", inPlace := ["math.Float64bits", "math.Float64frombits", "math.sqrt", "math/bits.Add64", "math/bits.Sub64", "internal/reflectlite.TypeOf"], unfollowed := true, recurses := true, named := ["math/bits.deBruijn64tab", "math/bits.divideError", "math/bits.overflowError"], plainKeys := false, apart := false, laid := [("math/bits.deBruijn64tab", laid_math_bits_deBruijn64tab)] }
def SignNoneSaid : Prop := signNoneRow.holds Tryz.pinned (OpenSpec.ofChange signNoneSpec)

/-- ITS FALSE NEIGHBOUR: 'it returns false'. Refute it at one input. -/
def signNoneWrong : ChangeSpec := { name := "signNone", fn := fun _ => fun
  | [d] => { results := [.lit (.bool false)], args := [d] }
  | _ => none }
def SignNoneWrongFalsely : Prop := signNoneRow.holds Tryz.pinned (OpenSpec.ofChange signNoneWrong)

/-- 'compasslaw17.SpotNone': WHATEVER THE INPUT: true; the input reads as it did. -/
def spotNoneSpec : ChangeSpec := { name := "spotNone", fn := fun _ => fun
  | [d] => { results := [.lit (.bool true)], args := [d] }
  | _ => none }
def spotNoneRow : OpenClaim := { program := "ytgodkfgnhpnhcaagreatdoor", sum := "be932a53ab829cbf8e7f13acb86c128dfc39e7176d518bb237a984c1e3b92cd1", func := "compass/compasslaw17.SpotNone", spec := "spotNone", inPlace := ["math.Float64bits", "math.Float64frombits", "math.sqrt", "math/bits.Add64", "math/bits.Sub64", "internal/reflectlite.TypeOf"], unfollowed := true, recurses := true, named := ["math/bits.deBruijn64tab", "math/bits.divideError", "math/bits.overflowError"], plainKeys := false, apart := false, laid := [("math/bits.deBruijn64tab", laid_math_bits_deBruijn64tab)] }
def SpotNoneSaid : Prop := spotNoneRow.holds Tryz.pinned (OpenSpec.ofChange spotNoneSpec)

/-- ITS FALSE NEIGHBOUR: 'it returns false'. Refute it at one input. -/
def spotNoneWrong : ChangeSpec := { name := "spotNone", fn := fun _ => fun
  | [d] => { results := [.lit (.bool false)], args := [d] }
  | _ => none }
def SpotNoneWrongFalsely : Prop := spotNoneRow.holds Tryz.pinned (OpenSpec.ofChange spotNoneWrong)

/-- 'compasslaw21.SideInside': WHATEVER THE INPUT: true; the input reads as it did. -/
def sideInsideSpec : ChangeSpec := { name := "sideInside", fn := fun _ => fun
  | [d1, d2] => { results := [.lit (.bool true)], args := [d1, d2] }
  | _ => none }
def sideInsideRow : OpenClaim := { program := "ytgodkfgnhpnhcaagreatdoor", sum := "be932a53ab829cbf8e7f13acb86c128dfc39e7176d518bb237a984c1e3b92cd1", func := "compass/compasslaw21.SideInside", spec := "sideInside", inPlace := ["math.Float64bits", "math.Float64frombits", "math.sqrt", "math/bits.Add64", "math/bits.Sub64"], unfollowed := true, recurses := true, named := ["math/bits.deBruijn64tab", "math/bits.divideError", "math/bits.overflowError"], plainKeys := false, apart := false, laid := [("math/bits.deBruijn64tab", laid_math_bits_deBruijn64tab)] }
def SideInsideSaid : Prop := sideInsideRow.holds Tryz.pinned (OpenSpec.ofChange sideInsideSpec)

/-- ITS FALSE NEIGHBOUR: 'it returns false'. Refute it at one input. -/
def sideInsideWrong : ChangeSpec := { name := "sideInside", fn := fun _ => fun
  | [d1, d2] => { results := [.lit (.bool false)], args := [d1, d2] }
  | _ => none }
def SideInsideWrongFalsely : Prop := sideInsideRow.holds Tryz.pinned (OpenSpec.ofChange sideInsideWrong)

/-- 'compasslaw17.SpotSorts': WHATEVER THE INPUT: true; the input reads as it did. -/
def spotSortsSpec : ChangeSpec := { name := "spotSorts", fn := fun _ => fun
  | [d] => { results := [.lit (.bool true)], args := [d] }
  | _ => none }
def spotSortsRow : OpenClaim := { program := "ytgodkfgnhpnhcaagreatdoor", sum := "be932a53ab829cbf8e7f13acb86c128dfc39e7176d518bb237a984c1e3b92cd1", func := "compass/compasslaw17.SpotSorts", spec := "spotSorts", inPlace := ["math.Float64bits", "math.Float64frombits", "math.sqrt", "math/bits.Add64", "math/bits.Sub64", "slices.overlaps[int]"], unfollowed := true, recurses := true, named := ["math/bits.deBruijn64tab", "math/bits.divideError", "math/bits.overflowError"], plainKeys := false, apart := false, laid := [("math/bits.deBruijn64tab", laid_math_bits_deBruijn64tab)] }
def SpotSortsSaid : Prop := spotSortsRow.holds Tryz.pinned (OpenSpec.ofChange spotSortsSpec)

/-- ITS FALSE NEIGHBOUR: 'it returns false'. Refute it at one input. -/
def spotSortsWrong : ChangeSpec := { name := "spotSorts", fn := fun _ => fun
  | [d] => { results := [.lit (.bool false)], args := [d] }
  | _ => none }
def SpotSortsWrongFalsely : Prop := spotSortsRow.holds Tryz.pinned (OpenSpec.ofChange spotSortsWrong)

/-- 'compasslaw19.CircleRims': WHATEVER THE INPUT: true; the input reads as it did. -/
def circleRimsSpec : ChangeSpec := { name := "circleRims", fn := fun _ => fun
  | [d1, d2, d3, d4] => { results := [.lit (.bool true)], args := [d1, d2, d3, d4] }
  | _ => none }
def circleRimsRow : OpenClaim := { program := "ytgodkfgnhpnhcaagreatdoor", sum := "be932a53ab829cbf8e7f13acb86c128dfc39e7176d518bb237a984c1e3b92cd1", func := "compass/compasslaw19.CircleRims", spec := "circleRims", inPlace := ["math.Float64bits", "math.Float64frombits", "math.sqrt", "math/bits.Add64", "math/bits.Sub64", "internal/reflectlite.TypeOf"], unfollowed := true, recurses := true, named := ["math/bits.deBruijn64tab", "math/bits.divideError", "math/bits.overflowError"], plainKeys := false, apart := false, laid := [("math/bits.deBruijn64tab", laid_math_bits_deBruijn64tab)] }
def CircleRimsSaid : Prop := circleRimsRow.holds Tryz.pinned (OpenSpec.ofChange circleRimsSpec)

/-- ITS FALSE NEIGHBOUR: 'it returns false'. Refute it at one input. -/
def circleRimsWrong : ChangeSpec := { name := "circleRims", fn := fun _ => fun
  | [d1, d2, d3, d4] => { results := [.lit (.bool false)], args := [d1, d2, d3, d4] }
  | _ => none }
def CircleRimsWrongFalsely : Prop := circleRimsRow.holds Tryz.pinned (OpenSpec.ofChange circleRimsWrong)

/-- 'compasslaw22.ArcFails': WHATEVER THE INPUT: true; the input reads as it did. -/
def arcFailsSpec : ChangeSpec := { name := "arcFails", fn := fun _ => fun
  | [d1, d2, d3] => { results := [.lit (.bool true)], args := [d1, d2, d3] }
  | _ => none }
def arcFailsRow : OpenClaim := { program := "ytgodkfgnhpnhcaagreatdoor", sum := "be932a53ab829cbf8e7f13acb86c128dfc39e7176d518bb237a984c1e3b92cd1", func := "compass/compasslaw22.ArcFails", spec := "arcFails", inPlace := ["math.Float64bits", "math.Float64frombits", "math.sqrt", "math/bits.Add64", "math/bits.Sub64", "internal/reflectlite.TypeOf"], unfollowed := true, recurses := true, named := ["math/bits.deBruijn64tab", "math/bits.divideError", "math/bits.overflowError"], plainKeys := false, apart := false, laid := [("math/bits.deBruijn64tab", laid_math_bits_deBruijn64tab)] }
def ArcFailsSaid : Prop := arcFailsRow.holds Tryz.pinned (OpenSpec.ofChange arcFailsSpec)

/-- ITS FALSE NEIGHBOUR: 'it returns false'. Refute it at one input. -/
def arcFailsWrong : ChangeSpec := { name := "arcFails", fn := fun _ => fun
  | [d1, d2, d3] => { results := [.lit (.bool false)], args := [d1, d2, d3] }
  | _ => none }
def ArcFailsWrongFalsely : Prop := arcFailsRow.holds Tryz.pinned (OpenSpec.ofChange arcFailsWrong)

/- THE SECOND FORM. 'bulk': how many values and letters a reading holds, each counted each time it is reached (what is shared counts as often as it is met; a slice's spare places count too). A statement '..UptoSaid' is the law's where the arguments, and the package variables that the reading takes, are together of bulk at most 1048576: NARROWER than '..Said'. Prove '..Said' where nothing that the law and all that it calls make is longer than what came in: it says more and counts as full. Else prove '..UptoSaid'. A law counts once. -/
mutual
def uptoBulk {H : Type} : DataW H → Nat
  | .lit (.string bytes) => bytes.length + 1
  | .lit _ => 1
  | .nil => 1
  | .ptr d => uptoBulk d + 1
  | .slice elems spare => uptoBulkAll elems + uptoBulkAll spare + 1
  | .agg parts => uptoBulkAll parts + 1
  | .iface _ d => uptoBulk d + 1
  | .map entries => uptoBulkEntries entries + 1
  | .held _ => 1
def uptoBulkAll {H : Type} : List (DataW H) → Nat
  | [] => 0
  | d :: r => uptoBulk d + uptoBulkAll r
def uptoBulkEntries {H : Type} : List (Lit × DataW H) → Nat
  | [] => 0
  | x :: r => uptoBulkEntry x + uptoBulkEntries r
def uptoBulkEntry {H : Type} : Lit × DataW H → Nat
  | (.string bytes, d) => bytes.length + uptoBulk d + 1
  | (_, d) => uptoBulk d + 1
 end
def uptoSmall : (H : Type) → List (DataW H) → Bool := fun _ ds => decide (uptoBulkAll ds ≤ 1048576)
def OpenSpec.upto (s : _root_.Go.ChangeSpec) : _root_.Go.OpenSpec := { _root_.Go.OpenSpec.ofChange s with cond := some uptoSmall }

/-- 'compasslaw17.SpotSquares', WHERE WHAT IT READS IS OF BULK AT MOST 1048576: true; the input reads as it did. -/
def spotSquaresUptoRow : OpenClaim := { program := "ytgodkfgnhpnhcaagreatdoor", sum := "be932a53ab829cbf8e7f13acb86c128dfc39e7176d518bb237a984c1e3b92cd1", func := "compass/compasslaw17.SpotSquares", spec := "spotSquares", inPlace := ["math.Float64bits", "math.Float64frombits", "math.sqrt", "math/bits.Add64", "math/bits.Sub64"], unfollowed := true, recurses := true, named := ["math/bits.deBruijn64tab", "math/bits.divideError", "math/bits.overflowError"], plainKeys := false, apart := false, laid := [("math/bits.deBruijn64tab", laid_math_bits_deBruijn64tab)], narrowed := true }
def SpotSquaresUptoSaid : Prop := spotSquaresUptoRow.holds Tryz.pinned (OpenSpec.upto spotSquaresSpec)

/-- 'compasslaw21.SideRound', WHERE WHAT IT READS IS OF BULK AT MOST 1048576: true; the input reads as it did. -/
def sideRoundUptoRow : OpenClaim := { program := "ytgodkfgnhpnhcaagreatdoor", sum := "be932a53ab829cbf8e7f13acb86c128dfc39e7176d518bb237a984c1e3b92cd1", func := "compass/compasslaw21.SideRound", spec := "sideRound", inPlace := ["math.Float64bits", "math.Float64frombits", "math.sqrt", "math/bits.Add64", "math/bits.Sub64"], unfollowed := true, recurses := true, named := ["math/bits.deBruijn64tab", "math/bits.divideError", "math/bits.overflowError"], plainKeys := false, apart := false, laid := [("math/bits.deBruijn64tab", laid_math_bits_deBruijn64tab)], narrowed := true }
def SideRoundUptoSaid : Prop := sideRoundUptoRow.holds Tryz.pinned (OpenSpec.upto sideRoundSpec)

/-- 'compasslaw21.SideWays', WHERE WHAT IT READS IS OF BULK AT MOST 1048576: true; the input reads as it did. -/
def sideWaysUptoRow : OpenClaim := { program := "ytgodkfgnhpnhcaagreatdoor", sum := "be932a53ab829cbf8e7f13acb86c128dfc39e7176d518bb237a984c1e3b92cd1", func := "compass/compasslaw21.SideWays", spec := "sideWays", inPlace := ["math.Float64bits", "math.Float64frombits", "math.sqrt", "math/bits.Add64", "math/bits.Sub64"], unfollowed := true, recurses := true, named := ["math/bits.deBruijn64tab", "math/bits.divideError", "math/bits.overflowError"], plainKeys := false, apart := false, laid := [("math/bits.deBruijn64tab", laid_math_bits_deBruijn64tab)], narrowed := true }
def SideWaysUptoSaid : Prop := sideWaysUptoRow.holds Tryz.pinned (OpenSpec.upto sideWaysSpec)

/-- 'compasslaw17.SpotTurns', WHERE WHAT IT READS IS OF BULK AT MOST 1048576: true; the input reads as it did. -/
def spotTurnsUptoRow : OpenClaim := { program := "ytgodkfgnhpnhcaagreatdoor", sum := "be932a53ab829cbf8e7f13acb86c128dfc39e7176d518bb237a984c1e3b92cd1", func := "compass/compasslaw17.SpotTurns", spec := "spotTurns", inPlace := ["math.Float64bits", "math.Float64frombits", "math.sqrt", "math/bits.Add64", "math/bits.Sub64"], unfollowed := true, recurses := true, named := ["math/bits.deBruijn64tab", "math/bits.divideError", "math/bits.overflowError"], plainKeys := false, apart := false, laid := [("math/bits.deBruijn64tab", laid_math_bits_deBruijn64tab)], narrowed := true }
def SpotTurnsUptoSaid : Prop := spotTurnsUptoRow.holds Tryz.pinned (OpenSpec.upto spotTurnsSpec)

/-- 'compasslaw14.SignZeros', WHERE WHAT IT READS IS OF BULK AT MOST 1048576: true; the input reads as it did. -/
def signZerosUptoRow : OpenClaim := { program := "ytgodkfgnhpnhcaagreatdoor", sum := "be932a53ab829cbf8e7f13acb86c128dfc39e7176d518bb237a984c1e3b92cd1", func := "compass/compasslaw14.SignZeros", spec := "signZeros", inPlace := ["math.Float64bits", "math.Float64frombits", "math.sqrt", "math/bits.Add64", "math/bits.Sub64", "internal/reflectlite.TypeOf"], unfollowed := true, recurses := true, named := ["math/bits.deBruijn64tab", "math/bits.divideError", "math/bits.overflowError"], plainKeys := false, apart := false, laid := [("math/bits.deBruijn64tab", laid_math_bits_deBruijn64tab)], narrowed := true }
def SignZerosUptoSaid : Prop := signZerosUptoRow.holds Tryz.pinned (OpenSpec.upto signZerosSpec)

/-- 'compasslaw17.SpotTells', WHERE WHAT IT READS IS OF BULK AT MOST 1048576: true; the input reads as it did. -/
def spotTellsUptoRow : OpenClaim := { program := "ytgodkfgnhpnhcaagreatdoor", sum := "be932a53ab829cbf8e7f13acb86c128dfc39e7176d518bb237a984c1e3b92cd1", func := "compass/compasslaw17.SpotTells", spec := "spotTells", inPlace := ["math.Float64bits", "math.Float64frombits", "math.sqrt", "math/bits.Add64", "math/bits.Sub64"], unfollowed := true, recurses := true, named := ["math/bits.deBruijn64tab", "math/bits.divideError", "math/bits.overflowError"], plainKeys := false, apart := false, laid := [("math/bits.deBruijn64tab", laid_math_bits_deBruijn64tab)], narrowed := true }
def SpotTellsUptoSaid : Prop := spotTellsUptoRow.holds Tryz.pinned (OpenSpec.upto spotTellsSpec)

/-- 'compasslaw14.SignNone', WHERE WHAT IT READS IS OF BULK AT MOST 1048576: true; the input reads as it did. -/
def signNoneUptoRow : OpenClaim := { program := "ytgodkfgnhpnhcaagreatdoor", sum := "be932a53ab829cbf8e7f13acb86c128dfc39e7176d518bb237a984c1e3b92cd1", func := "compass/compasslaw14.SignNone", spec := "signNone", inPlace := ["math.Float64bits", "math.Float64frombits", "math.sqrt", "math/bits.Add64", "math/bits.Sub64", "internal/reflectlite.TypeOf"], unfollowed := true, recurses := true, named := ["math/bits.deBruijn64tab", "math/bits.divideError", "math/bits.overflowError"], plainKeys := false, apart := false, laid := [("math/bits.deBruijn64tab", laid_math_bits_deBruijn64tab)], narrowed := true }
def SignNoneUptoSaid : Prop := signNoneUptoRow.holds Tryz.pinned (OpenSpec.upto signNoneSpec)

/-- 'compasslaw17.SpotNone', WHERE WHAT IT READS IS OF BULK AT MOST 1048576: true; the input reads as it did. -/
def spotNoneUptoRow : OpenClaim := { program := "ytgodkfgnhpnhcaagreatdoor", sum := "be932a53ab829cbf8e7f13acb86c128dfc39e7176d518bb237a984c1e3b92cd1", func := "compass/compasslaw17.SpotNone", spec := "spotNone", inPlace := ["math.Float64bits", "math.Float64frombits", "math.sqrt", "math/bits.Add64", "math/bits.Sub64", "internal/reflectlite.TypeOf"], unfollowed := true, recurses := true, named := ["math/bits.deBruijn64tab", "math/bits.divideError", "math/bits.overflowError"], plainKeys := false, apart := false, laid := [("math/bits.deBruijn64tab", laid_math_bits_deBruijn64tab)], narrowed := true }
def SpotNoneUptoSaid : Prop := spotNoneUptoRow.holds Tryz.pinned (OpenSpec.upto spotNoneSpec)

/-- 'compasslaw21.SideInside', WHERE WHAT IT READS IS OF BULK AT MOST 1048576: true; the input reads as it did. -/
def sideInsideUptoRow : OpenClaim := { program := "ytgodkfgnhpnhcaagreatdoor", sum := "be932a53ab829cbf8e7f13acb86c128dfc39e7176d518bb237a984c1e3b92cd1", func := "compass/compasslaw21.SideInside", spec := "sideInside", inPlace := ["math.Float64bits", "math.Float64frombits", "math.sqrt", "math/bits.Add64", "math/bits.Sub64"], unfollowed := true, recurses := true, named := ["math/bits.deBruijn64tab", "math/bits.divideError", "math/bits.overflowError"], plainKeys := false, apart := false, laid := [("math/bits.deBruijn64tab", laid_math_bits_deBruijn64tab)], narrowed := true }
def SideInsideUptoSaid : Prop := sideInsideUptoRow.holds Tryz.pinned (OpenSpec.upto sideInsideSpec)

/-- 'compasslaw17.SpotSorts', WHERE WHAT IT READS IS OF BULK AT MOST 1048576: true; the input reads as it did. -/
def spotSortsUptoRow : OpenClaim := { program := "ytgodkfgnhpnhcaagreatdoor", sum := "be932a53ab829cbf8e7f13acb86c128dfc39e7176d518bb237a984c1e3b92cd1", func := "compass/compasslaw17.SpotSorts", spec := "spotSorts", inPlace := ["math.Float64bits", "math.Float64frombits", "math.sqrt", "math/bits.Add64", "math/bits.Sub64", "slices.overlaps[int]"], unfollowed := true, recurses := true, named := ["math/bits.deBruijn64tab", "math/bits.divideError", "math/bits.overflowError"], plainKeys := false, apart := false, laid := [("math/bits.deBruijn64tab", laid_math_bits_deBruijn64tab)], narrowed := true }
def SpotSortsUptoSaid : Prop := spotSortsUptoRow.holds Tryz.pinned (OpenSpec.upto spotSortsSpec)

/-- 'compasslaw19.CircleRims', WHERE WHAT IT READS IS OF BULK AT MOST 1048576: true; the input reads as it did. -/
def circleRimsUptoRow : OpenClaim := { program := "ytgodkfgnhpnhcaagreatdoor", sum := "be932a53ab829cbf8e7f13acb86c128dfc39e7176d518bb237a984c1e3b92cd1", func := "compass/compasslaw19.CircleRims", spec := "circleRims", inPlace := ["math.Float64bits", "math.Float64frombits", "math.sqrt", "math/bits.Add64", "math/bits.Sub64", "internal/reflectlite.TypeOf"], unfollowed := true, recurses := true, named := ["math/bits.deBruijn64tab", "math/bits.divideError", "math/bits.overflowError"], plainKeys := false, apart := false, laid := [("math/bits.deBruijn64tab", laid_math_bits_deBruijn64tab)], narrowed := true }
def CircleRimsUptoSaid : Prop := circleRimsUptoRow.holds Tryz.pinned (OpenSpec.upto circleRimsSpec)

/-- 'compasslaw22.ArcFails', WHERE WHAT IT READS IS OF BULK AT MOST 1048576: true; the input reads as it did. -/
def arcFailsUptoRow : OpenClaim := { program := "ytgodkfgnhpnhcaagreatdoor", sum := "be932a53ab829cbf8e7f13acb86c128dfc39e7176d518bb237a984c1e3b92cd1", func := "compass/compasslaw22.ArcFails", spec := "arcFails", inPlace := ["math.Float64bits", "math.Float64frombits", "math.sqrt", "math/bits.Add64", "math/bits.Sub64", "internal/reflectlite.TypeOf"], unfollowed := true, recurses := true, named := ["math/bits.deBruijn64tab", "math/bits.divideError", "math/bits.overflowError"], plainKeys := false, apart := false, laid := [("math/bits.deBruijn64tab", laid_math_bits_deBruijn64tab)], narrowed := true }
def ArcFailsUptoSaid : Prop := arcFailsUptoRow.holds Tryz.pinned (OpenSpec.upto arcFailsSpec)

end Rows
end Go.Proofs.YtgodkfgnhpnhcaaGreatDoor
