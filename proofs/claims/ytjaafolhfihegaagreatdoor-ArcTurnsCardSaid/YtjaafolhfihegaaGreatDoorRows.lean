/-
  NARROWER THAN 'FOR EVERY INPUT', by the rows' own cells (each row's printed sentence says how): ArcTurns: laid · LineTimes: laid · SpanWhole: laid · RankMoves: laid · LineFeet: laid · MeetSelf: laid · MeetTouches: laid · MeetCounts: laid · MeetChords: laid.
  DERIVED. THE GIVEN ROWS OF THIS SEAT. 9 by the template 'for every input the law returns true; each argument reads behind the call as it read before'; 0 by the template 'total and deterministic' (their statements: YtjaafolhfihegaaGreatDoorTotals.lean).
  GIVEN WITH THE SEED: the statements are not yours to turn. If you find one false, say at which input.
  Laid BY PROGRAM, IN A SANDBOX (cutbox-rows.mjs): the forced cells as the released guide's own fill.sh prints them over the translation 17dcfd3d75f439d1… (all of the seat's roots in one cut). By AI agents, Wed Nov 11 2026. No macro, syntax, notation, axiom, sorry.
-/
import Derived.Test.YtjaafolhfihegaaGreatDoorChecked
import GoSem.Claim
import GoSem.ClaimJoined
import GoSem.ClaimMapViews
import Derived.JoinedTies
import Derived.KernelRfl
namespace Go.Proofs.YtjaafolhfihegaaGreatDoor
/- THE CELL 'sum', in the pinned program and in every row, IS THE sha256 OF THE DUMP (.gsa) THAT YtjaafolhfihegaaGreatDoorProg.lean LOADS. Nothing in Lean hashes anything: it is a label: what it is worth is what the hold of that sum in a sandbox is worth. -/
noncomputable def Tryz.pinned : Pinned := { name := "ytjaafolhfihegaagreatdoor", sum := "17dcfd3d75f439d103056b5cfc0e432b3d4bbb5acb8ffbe54bf07b0a3b206d2d", checked := Tryz.checked }
namespace Rows
def none {H : Type} : Left H := { results := [], args := [] }

/- WHAT THE LISTED PACKAGE-LEVEL VARIABLES READ AS WHEN THE CALL BEGINS. Each datum BY PROGRAM (the guide's laid-datum.mjs) off the statement by which the dump's own 'gosem.cut.vars' lays the variable. In a bare row this is a premise. The card (YtjaafolhfihegaaGreatDoorCards.lean) ties it to the program's text. -/
def laid_math_bits_deBruijn64tab {H : Type} : DataW H := .agg [.lit (.int .u8 0), .lit (.int .u8 1), .lit (.int .u8 56), .lit (.int .u8 2), .lit (.int .u8 57), .lit (.int .u8 49), .lit (.int .u8 28), .lit (.int .u8 3), .lit (.int .u8 61), .lit (.int .u8 58), .lit (.int .u8 42), .lit (.int .u8 50), .lit (.int .u8 38), .lit (.int .u8 29), .lit (.int .u8 17), .lit (.int .u8 4), .lit (.int .u8 62), .lit (.int .u8 47), .lit (.int .u8 59), .lit (.int .u8 36), .lit (.int .u8 45), .lit (.int .u8 43), .lit (.int .u8 51), .lit (.int .u8 22), .lit (.int .u8 53), .lit (.int .u8 39), .lit (.int .u8 33), .lit (.int .u8 30), .lit (.int .u8 24), .lit (.int .u8 18), .lit (.int .u8 12), .lit (.int .u8 5), .lit (.int .u8 63), .lit (.int .u8 55), .lit (.int .u8 48), .lit (.int .u8 27), .lit (.int .u8 60), .lit (.int .u8 41), .lit (.int .u8 37), .lit (.int .u8 16), .lit (.int .u8 46), .lit (.int .u8 35), .lit (.int .u8 44), .lit (.int .u8 21), .lit (.int .u8 52), .lit (.int .u8 32), .lit (.int .u8 23), .lit (.int .u8 11), .lit (.int .u8 54), .lit (.int .u8 26), .lit (.int .u8 40), .lit (.int .u8 15), .lit (.int .u8 34), .lit (.int .u8 20), .lit (.int .u8 31), .lit (.int .u8 10), .lit (.int .u8 25), .lit (.int .u8 14), .lit (.int .u8 19), .lit (.int .u8 9), .lit (.int .u8 13), .lit (.int .u8 8), .lit (.int .u8 7), .lit (.int .u8 6)]

/-- 'compasslaw22.ArcTurns': WHATEVER THE INPUT: true; the input reads as it did. -/
def arcTurnsSpec : ChangeSpec := { name := "arcTurns", fn := fun _ => fun
  | [d] => { results := [.lit (.bool true)], args := [d] }
  | _ => none }
def arcTurnsRow : OpenClaim := { program := "ytjaafolhfihegaagreatdoor", sum := "17dcfd3d75f439d103056b5cfc0e432b3d4bbb5acb8ffbe54bf07b0a3b206d2d", func := "compass/compasslaw22.ArcTurns", spec := "arcTurns", inPlace := ["math.Float64bits", "math.Float64frombits", "math.sqrt", "math/bits.Add64", "math/bits.Sub64", "internal/reflectlite.TypeOf"], unfollowed := true, recurses := true, named := ["math/bits.deBruijn64tab", "math/bits.divideError", "math/bits.overflowError"], plainKeys := false, apart := false, laid := [("math/bits.deBruijn64tab", laid_math_bits_deBruijn64tab)] }
def ArcTurnsSaid : Prop := arcTurnsRow.holds Tryz.pinned (OpenSpec.ofChange arcTurnsSpec)

/-- ITS FALSE NEIGHBOUR: 'it returns false'. Refute it at one input. -/
def arcTurnsWrong : ChangeSpec := { name := "arcTurns", fn := fun _ => fun
  | [d] => { results := [.lit (.bool false)], args := [d] }
  | _ => none }
def ArcTurnsWrongFalsely : Prop := arcTurnsRow.holds Tryz.pinned (OpenSpec.ofChange arcTurnsWrong)

/-- 'compasslaw18.LineTimes': WHATEVER THE INPUT: true; the input reads as it did. -/
def lineTimesSpec : ChangeSpec := { name := "lineTimes", fn := fun _ => fun
  | [d1, d2, d3] => { results := [.lit (.bool true)], args := [d1, d2, d3] }
  | _ => none }
def lineTimesRow : OpenClaim := { program := "ytjaafolhfihegaagreatdoor", sum := "17dcfd3d75f439d103056b5cfc0e432b3d4bbb5acb8ffbe54bf07b0a3b206d2d", func := "compass/compasslaw18.LineTimes", spec := "lineTimes", inPlace := ["math.Float64bits", "math.Float64frombits", "math.sqrt", "math/bits.Add64", "math/bits.Sub64", "internal/reflectlite.TypeOf"], unfollowed := true, recurses := true, named := ["math/bits.deBruijn64tab", "math/bits.divideError", "math/bits.overflowError"], plainKeys := false, apart := false, laid := [("math/bits.deBruijn64tab", laid_math_bits_deBruijn64tab)] }
def LineTimesSaid : Prop := lineTimesRow.holds Tryz.pinned (OpenSpec.ofChange lineTimesSpec)

/-- ITS FALSE NEIGHBOUR: 'it returns false'. Refute it at one input. -/
def lineTimesWrong : ChangeSpec := { name := "lineTimes", fn := fun _ => fun
  | [d1, d2, d3] => { results := [.lit (.bool false)], args := [d1, d2, d3] }
  | _ => none }
def LineTimesWrongFalsely : Prop := lineTimesRow.holds Tryz.pinned (OpenSpec.ofChange lineTimesWrong)

/-- 'compasslaw23.SpanWhole': WHATEVER THE INPUT: true; the input reads as it did. -/
def spanWholeSpec : ChangeSpec := { name := "spanWhole", fn := fun _ => fun
  | [d1, d2] => { results := [.lit (.bool true)], args := [d1, d2] }
  | _ => none }
def spanWholeRow : OpenClaim := { program := "ytjaafolhfihegaagreatdoor", sum := "17dcfd3d75f439d103056b5cfc0e432b3d4bbb5acb8ffbe54bf07b0a3b206d2d", func := "compass/compasslaw23.SpanWhole", spec := "spanWhole", inPlace := ["math.Float64bits", "math.Float64frombits", "math.sqrt", "math/bits.Add64", "math/bits.Sub64"], unfollowed := true, recurses := true, named := ["math/bits.deBruijn64tab", "math/bits.divideError", "math/bits.overflowError"], plainKeys := false, apart := false, laid := [("math/bits.deBruijn64tab", laid_math_bits_deBruijn64tab)] }
def SpanWholeSaid : Prop := spanWholeRow.holds Tryz.pinned (OpenSpec.ofChange spanWholeSpec)

/-- ITS FALSE NEIGHBOUR: 'it returns false'. Refute it at one input. -/
def spanWholeWrong : ChangeSpec := { name := "spanWhole", fn := fun _ => fun
  | [d1, d2] => { results := [.lit (.bool false)], args := [d1, d2] }
  | _ => none }
def SpanWholeWrongFalsely : Prop := spanWholeRow.holds Tryz.pinned (OpenSpec.ofChange spanWholeWrong)

/-- 'compasslaw16.RankMoves': WHATEVER THE INPUT: true; the input reads as it did. -/
def rankMovesSpec : ChangeSpec := { name := "rankMoves", fn := fun _ => fun
  | [d1, d2] => { results := [.lit (.bool true)], args := [d1, d2] }
  | _ => none }
def rankMovesRow : OpenClaim := { program := "ytjaafolhfihegaagreatdoor", sum := "17dcfd3d75f439d103056b5cfc0e432b3d4bbb5acb8ffbe54bf07b0a3b206d2d", func := "compass/compasslaw16.RankMoves", spec := "rankMoves", inPlace := ["math.Float64bits", "math.Float64frombits", "math.sqrt", "math/bits.Add64", "math/bits.Sub64", "slices.overlaps[int]"], unfollowed := true, recurses := true, named := ["math/bits.deBruijn64tab", "math/bits.divideError", "math/bits.overflowError"], plainKeys := false, apart := false, laid := [("math/bits.deBruijn64tab", laid_math_bits_deBruijn64tab)] }
def RankMovesSaid : Prop := rankMovesRow.holds Tryz.pinned (OpenSpec.ofChange rankMovesSpec)

/-- ITS FALSE NEIGHBOUR: 'it returns false'. Refute it at one input. -/
def rankMovesWrong : ChangeSpec := { name := "rankMoves", fn := fun _ => fun
  | [d1, d2] => { results := [.lit (.bool false)], args := [d1, d2] }
  | _ => none }
def RankMovesWrongFalsely : Prop := rankMovesRow.holds Tryz.pinned (OpenSpec.ofChange rankMovesWrong)

/-- 'compasslaw18.LineFeet': WHATEVER THE INPUT: true; the input reads as it did. -/
def lineFeetSpec : ChangeSpec := { name := "lineFeet", fn := fun _ => fun
  | [d1, d2, d3] => { results := [.lit (.bool true)], args := [d1, d2, d3] }
  | _ => none }
def lineFeetRow : OpenClaim := { program := "ytjaafolhfihegaagreatdoor", sum := "17dcfd3d75f439d103056b5cfc0e432b3d4bbb5acb8ffbe54bf07b0a3b206d2d", func := "compass/compasslaw18.LineFeet", spec := "lineFeet", inPlace := ["math.Float64bits", "math.Float64frombits", "math.sqrt", "math/bits.Add64", "math/bits.Sub64", "internal/reflectlite.TypeOf"], unfollowed := true, recurses := true, named := ["math/bits.deBruijn64tab", "math/bits.divideError", "math/bits.overflowError"], plainKeys := false, apart := false, laid := [("math/bits.deBruijn64tab", laid_math_bits_deBruijn64tab)] }
def LineFeetSaid : Prop := lineFeetRow.holds Tryz.pinned (OpenSpec.ofChange lineFeetSpec)

/-- ITS FALSE NEIGHBOUR: 'it returns false'. Refute it at one input. -/
def lineFeetWrong : ChangeSpec := { name := "lineFeet", fn := fun _ => fun
  | [d1, d2, d3] => { results := [.lit (.bool false)], args := [d1, d2, d3] }
  | _ => none }
def LineFeetWrongFalsely : Prop := lineFeetRow.holds Tryz.pinned (OpenSpec.ofChange lineFeetWrong)

/-- 'compasslaw20.MeetSelf': WHATEVER THE INPUT: true; the input reads as it did. -/
def meetSelfSpec : ChangeSpec := { name := "meetSelf", fn := fun _ => fun
  | [d1, d2] => { results := [.lit (.bool true)], args := [d1, d2] }
  | _ => none }
def meetSelfRow : OpenClaim := { program := "ytjaafolhfihegaagreatdoor", sum := "17dcfd3d75f439d103056b5cfc0e432b3d4bbb5acb8ffbe54bf07b0a3b206d2d", func := "compass/compasslaw20.MeetSelf", spec := "meetSelf", inPlace := ["math.Float64bits", "math.Float64frombits", "math.sqrt", "math/bits.Add64", "math/bits.Sub64"], unfollowed := true, recurses := true, named := ["math/bits.deBruijn64tab", "math/bits.divideError", "math/bits.overflowError"], plainKeys := false, apart := false, laid := [("math/bits.deBruijn64tab", laid_math_bits_deBruijn64tab)] }
def MeetSelfSaid : Prop := meetSelfRow.holds Tryz.pinned (OpenSpec.ofChange meetSelfSpec)

/-- ITS FALSE NEIGHBOUR: 'it returns false'. Refute it at one input. -/
def meetSelfWrong : ChangeSpec := { name := "meetSelf", fn := fun _ => fun
  | [d1, d2] => { results := [.lit (.bool false)], args := [d1, d2] }
  | _ => none }
def MeetSelfWrongFalsely : Prop := meetSelfRow.holds Tryz.pinned (OpenSpec.ofChange meetSelfWrong)

/-- 'compasslaw20.MeetTouches': WHATEVER THE INPUT: true; the input reads as it did. -/
def meetTouchesSpec : ChangeSpec := { name := "meetTouches", fn := fun _ => fun
  | [d1, d2, d3, d4] => { results := [.lit (.bool true)], args := [d1, d2, d3, d4] }
  | _ => none }
def meetTouchesRow : OpenClaim := { program := "ytjaafolhfihegaagreatdoor", sum := "17dcfd3d75f439d103056b5cfc0e432b3d4bbb5acb8ffbe54bf07b0a3b206d2d", func := "compass/compasslaw20.MeetTouches", spec := "meetTouches", inPlace := ["math.Float64bits", "math.Float64frombits", "math.sqrt", "math/bits.Add64", "math/bits.Sub64"], unfollowed := true, recurses := true, named := ["math/bits.deBruijn64tab", "math/bits.divideError", "math/bits.overflowError"], plainKeys := false, apart := false, laid := [("math/bits.deBruijn64tab", laid_math_bits_deBruijn64tab)] }
def MeetTouchesSaid : Prop := meetTouchesRow.holds Tryz.pinned (OpenSpec.ofChange meetTouchesSpec)

/-- ITS FALSE NEIGHBOUR: 'it returns false'. Refute it at one input. -/
def meetTouchesWrong : ChangeSpec := { name := "meetTouches", fn := fun _ => fun
  | [d1, d2, d3, d4] => { results := [.lit (.bool false)], args := [d1, d2, d3, d4] }
  | _ => none }
def MeetTouchesWrongFalsely : Prop := meetTouchesRow.holds Tryz.pinned (OpenSpec.ofChange meetTouchesWrong)

/-- 'compasslaw20.MeetCounts': WHATEVER THE INPUT: true; the input reads as it did. -/
def meetCountsSpec : ChangeSpec := { name := "meetCounts", fn := fun _ => fun
  | [d1, d2, d3] => { results := [.lit (.bool true)], args := [d1, d2, d3] }
  | _ => none }
def meetCountsRow : OpenClaim := { program := "ytjaafolhfihegaagreatdoor", sum := "17dcfd3d75f439d103056b5cfc0e432b3d4bbb5acb8ffbe54bf07b0a3b206d2d", func := "compass/compasslaw20.MeetCounts", spec := "meetCounts", inPlace := ["math.Float64bits", "math.Float64frombits", "math.sqrt", "math/bits.Add64", "math/bits.Sub64"], unfollowed := true, recurses := true, named := ["math/bits.deBruijn64tab", "math/bits.divideError", "math/bits.overflowError"], plainKeys := false, apart := false, laid := [("math/bits.deBruijn64tab", laid_math_bits_deBruijn64tab)] }
def MeetCountsSaid : Prop := meetCountsRow.holds Tryz.pinned (OpenSpec.ofChange meetCountsSpec)

/-- ITS FALSE NEIGHBOUR: 'it returns false'. Refute it at one input. -/
def meetCountsWrong : ChangeSpec := { name := "meetCounts", fn := fun _ => fun
  | [d1, d2, d3] => { results := [.lit (.bool false)], args := [d1, d2, d3] }
  | _ => none }
def MeetCountsWrongFalsely : Prop := meetCountsRow.holds Tryz.pinned (OpenSpec.ofChange meetCountsWrong)

/-- 'compasslaw20.MeetChords': WHATEVER THE INPUT: true; the input reads as it did. -/
def meetChordsSpec : ChangeSpec := { name := "meetChords", fn := fun _ => fun
  | [d1, d2, d3, d4] => { results := [.lit (.bool true)], args := [d1, d2, d3, d4] }
  | _ => none }
def meetChordsRow : OpenClaim := { program := "ytjaafolhfihegaagreatdoor", sum := "17dcfd3d75f439d103056b5cfc0e432b3d4bbb5acb8ffbe54bf07b0a3b206d2d", func := "compass/compasslaw20.MeetChords", spec := "meetChords", inPlace := ["math.Float64bits", "math.Float64frombits", "math.sqrt", "math/bits.Add64", "math/bits.Sub64"], unfollowed := true, recurses := true, named := ["math/bits.deBruijn64tab", "math/bits.divideError", "math/bits.overflowError"], plainKeys := false, apart := false, laid := [("math/bits.deBruijn64tab", laid_math_bits_deBruijn64tab)] }
def MeetChordsSaid : Prop := meetChordsRow.holds Tryz.pinned (OpenSpec.ofChange meetChordsSpec)

/-- ITS FALSE NEIGHBOUR: 'it returns false'. Refute it at one input. -/
def meetChordsWrong : ChangeSpec := { name := "meetChords", fn := fun _ => fun
  | [d1, d2, d3, d4] => { results := [.lit (.bool false)], args := [d1, d2, d3, d4] }
  | _ => none }
def MeetChordsWrongFalsely : Prop := meetChordsRow.holds Tryz.pinned (OpenSpec.ofChange meetChordsWrong)

/- THE SECOND FORM. 'bulk': how many values and letters a reading holds, each counted each time it is reached (what is shared counts as often as it is met; a slice's spare places count too). A statement '..UptoSaid' is the law's where the arguments, and the package variables that the reading takes, are together of bulk at most 1048576: NARROWER than '..Said'. Prove '..Said' where nothing that the law and all that it calls make is longer than what came in: it says more and counts as full. Else prove '..UptoSaid'. A law counts once. -/
mutual
def uptoBulk {H : Type} : DataW H → Nat
  | .lit (.string bytes) => bytes.length + 1
  | .lit _ => 1
  | .nil => 1
  | .ptr d => uptoBulk d + 1
  | .slice elems spare => uptoBulkAll elems + uptoBulkAll spare + 1
  | .agg parts => uptoBulkAll parts + 1
  | .iface _ d => uptoBulk d + 1
  | .map entries => uptoBulkEntries entries + 1
  | .held _ => 1
def uptoBulkAll {H : Type} : List (DataW H) → Nat
  | [] => 0
  | d :: r => uptoBulk d + uptoBulkAll r
def uptoBulkEntries {H : Type} : List (Lit × DataW H) → Nat
  | [] => 0
  | x :: r => uptoBulkEntry x + uptoBulkEntries r
def uptoBulkEntry {H : Type} : Lit × DataW H → Nat
  | (.string bytes, d) => bytes.length + uptoBulk d + 1
  | (_, d) => uptoBulk d + 1
 end
def uptoSmall : (H : Type) → List (DataW H) → Bool := fun _ ds => decide (uptoBulkAll ds ≤ 1048576)
def OpenSpec.upto (s : _root_.Go.ChangeSpec) : _root_.Go.OpenSpec := { _root_.Go.OpenSpec.ofChange s with cond := some uptoSmall }

/-- 'compasslaw22.ArcTurns', WHERE WHAT IT READS IS OF BULK AT MOST 1048576: true; the input reads as it did. -/
def arcTurnsUptoRow : OpenClaim := { program := "ytjaafolhfihegaagreatdoor", sum := "17dcfd3d75f439d103056b5cfc0e432b3d4bbb5acb8ffbe54bf07b0a3b206d2d", func := "compass/compasslaw22.ArcTurns", spec := "arcTurns", inPlace := ["math.Float64bits", "math.Float64frombits", "math.sqrt", "math/bits.Add64", "math/bits.Sub64", "internal/reflectlite.TypeOf"], unfollowed := true, recurses := true, named := ["math/bits.deBruijn64tab", "math/bits.divideError", "math/bits.overflowError"], plainKeys := false, apart := false, laid := [("math/bits.deBruijn64tab", laid_math_bits_deBruijn64tab)], narrowed := true }
def ArcTurnsUptoSaid : Prop := arcTurnsUptoRow.holds Tryz.pinned (OpenSpec.upto arcTurnsSpec)

/-- 'compasslaw18.LineTimes', WHERE WHAT IT READS IS OF BULK AT MOST 1048576: true; the input reads as it did. -/
def lineTimesUptoRow : OpenClaim := { program := "ytjaafolhfihegaagreatdoor", sum := "17dcfd3d75f439d103056b5cfc0e432b3d4bbb5acb8ffbe54bf07b0a3b206d2d", func := "compass/compasslaw18.LineTimes", spec := "lineTimes", inPlace := ["math.Float64bits", "math.Float64frombits", "math.sqrt", "math/bits.Add64", "math/bits.Sub64", "internal/reflectlite.TypeOf"], unfollowed := true, recurses := true, named := ["math/bits.deBruijn64tab", "math/bits.divideError", "math/bits.overflowError"], plainKeys := false, apart := false, laid := [("math/bits.deBruijn64tab", laid_math_bits_deBruijn64tab)], narrowed := true }
def LineTimesUptoSaid : Prop := lineTimesUptoRow.holds Tryz.pinned (OpenSpec.upto lineTimesSpec)

/-- 'compasslaw23.SpanWhole', WHERE WHAT IT READS IS OF BULK AT MOST 1048576: true; the input reads as it did. -/
def spanWholeUptoRow : OpenClaim := { program := "ytjaafolhfihegaagreatdoor", sum := "17dcfd3d75f439d103056b5cfc0e432b3d4bbb5acb8ffbe54bf07b0a3b206d2d", func := "compass/compasslaw23.SpanWhole", spec := "spanWhole", inPlace := ["math.Float64bits", "math.Float64frombits", "math.sqrt", "math/bits.Add64", "math/bits.Sub64"], unfollowed := true, recurses := true, named := ["math/bits.deBruijn64tab", "math/bits.divideError", "math/bits.overflowError"], plainKeys := false, apart := false, laid := [("math/bits.deBruijn64tab", laid_math_bits_deBruijn64tab)], narrowed := true }
def SpanWholeUptoSaid : Prop := spanWholeUptoRow.holds Tryz.pinned (OpenSpec.upto spanWholeSpec)

/-- 'compasslaw16.RankMoves', WHERE WHAT IT READS IS OF BULK AT MOST 1048576: true; the input reads as it did. -/
def rankMovesUptoRow : OpenClaim := { program := "ytjaafolhfihegaagreatdoor", sum := "17dcfd3d75f439d103056b5cfc0e432b3d4bbb5acb8ffbe54bf07b0a3b206d2d", func := "compass/compasslaw16.RankMoves", spec := "rankMoves", inPlace := ["math.Float64bits", "math.Float64frombits", "math.sqrt", "math/bits.Add64", "math/bits.Sub64", "slices.overlaps[int]"], unfollowed := true, recurses := true, named := ["math/bits.deBruijn64tab", "math/bits.divideError", "math/bits.overflowError"], plainKeys := false, apart := false, laid := [("math/bits.deBruijn64tab", laid_math_bits_deBruijn64tab)], narrowed := true }
def RankMovesUptoSaid : Prop := rankMovesUptoRow.holds Tryz.pinned (OpenSpec.upto rankMovesSpec)

/-- 'compasslaw18.LineFeet', WHERE WHAT IT READS IS OF BULK AT MOST 1048576: true; the input reads as it did. -/
def lineFeetUptoRow : OpenClaim := { program := "ytjaafolhfihegaagreatdoor", sum := "17dcfd3d75f439d103056b5cfc0e432b3d4bbb5acb8ffbe54bf07b0a3b206d2d", func := "compass/compasslaw18.LineFeet", spec := "lineFeet", inPlace := ["math.Float64bits", "math.Float64frombits", "math.sqrt", "math/bits.Add64", "math/bits.Sub64", "internal/reflectlite.TypeOf"], unfollowed := true, recurses := true, named := ["math/bits.deBruijn64tab", "math/bits.divideError", "math/bits.overflowError"], plainKeys := false, apart := false, laid := [("math/bits.deBruijn64tab", laid_math_bits_deBruijn64tab)], narrowed := true }
def LineFeetUptoSaid : Prop := lineFeetUptoRow.holds Tryz.pinned (OpenSpec.upto lineFeetSpec)

/-- 'compasslaw20.MeetSelf', WHERE WHAT IT READS IS OF BULK AT MOST 1048576: true; the input reads as it did. -/
def meetSelfUptoRow : OpenClaim := { program := "ytjaafolhfihegaagreatdoor", sum := "17dcfd3d75f439d103056b5cfc0e432b3d4bbb5acb8ffbe54bf07b0a3b206d2d", func := "compass/compasslaw20.MeetSelf", spec := "meetSelf", inPlace := ["math.Float64bits", "math.Float64frombits", "math.sqrt", "math/bits.Add64", "math/bits.Sub64"], unfollowed := true, recurses := true, named := ["math/bits.deBruijn64tab", "math/bits.divideError", "math/bits.overflowError"], plainKeys := false, apart := false, laid := [("math/bits.deBruijn64tab", laid_math_bits_deBruijn64tab)], narrowed := true }
def MeetSelfUptoSaid : Prop := meetSelfUptoRow.holds Tryz.pinned (OpenSpec.upto meetSelfSpec)

/-- 'compasslaw20.MeetTouches', WHERE WHAT IT READS IS OF BULK AT MOST 1048576: true; the input reads as it did. -/
def meetTouchesUptoRow : OpenClaim := { program := "ytjaafolhfihegaagreatdoor", sum := "17dcfd3d75f439d103056b5cfc0e432b3d4bbb5acb8ffbe54bf07b0a3b206d2d", func := "compass/compasslaw20.MeetTouches", spec := "meetTouches", inPlace := ["math.Float64bits", "math.Float64frombits", "math.sqrt", "math/bits.Add64", "math/bits.Sub64"], unfollowed := true, recurses := true, named := ["math/bits.deBruijn64tab", "math/bits.divideError", "math/bits.overflowError"], plainKeys := false, apart := false, laid := [("math/bits.deBruijn64tab", laid_math_bits_deBruijn64tab)], narrowed := true }
def MeetTouchesUptoSaid : Prop := meetTouchesUptoRow.holds Tryz.pinned (OpenSpec.upto meetTouchesSpec)

/-- 'compasslaw20.MeetCounts', WHERE WHAT IT READS IS OF BULK AT MOST 1048576: true; the input reads as it did. -/
def meetCountsUptoRow : OpenClaim := { program := "ytjaafolhfihegaagreatdoor", sum := "17dcfd3d75f439d103056b5cfc0e432b3d4bbb5acb8ffbe54bf07b0a3b206d2d", func := "compass/compasslaw20.MeetCounts", spec := "meetCounts", inPlace := ["math.Float64bits", "math.Float64frombits", "math.sqrt", "math/bits.Add64", "math/bits.Sub64"], unfollowed := true, recurses := true, named := ["math/bits.deBruijn64tab", "math/bits.divideError", "math/bits.overflowError"], plainKeys := false, apart := false, laid := [("math/bits.deBruijn64tab", laid_math_bits_deBruijn64tab)], narrowed := true }
def MeetCountsUptoSaid : Prop := meetCountsUptoRow.holds Tryz.pinned (OpenSpec.upto meetCountsSpec)

/-- 'compasslaw20.MeetChords', WHERE WHAT IT READS IS OF BULK AT MOST 1048576: true; the input reads as it did. -/
def meetChordsUptoRow : OpenClaim := { program := "ytjaafolhfihegaagreatdoor", sum := "17dcfd3d75f439d103056b5cfc0e432b3d4bbb5acb8ffbe54bf07b0a3b206d2d", func := "compass/compasslaw20.MeetChords", spec := "meetChords", inPlace := ["math.Float64bits", "math.Float64frombits", "math.sqrt", "math/bits.Add64", "math/bits.Sub64"], unfollowed := true, recurses := true, named := ["math/bits.deBruijn64tab", "math/bits.divideError", "math/bits.overflowError"], plainKeys := false, apart := false, laid := [("math/bits.deBruijn64tab", laid_math_bits_deBruijn64tab)], narrowed := true }
def MeetChordsUptoSaid : Prop := meetChordsUptoRow.holds Tryz.pinned (OpenSpec.upto meetChordsSpec)

end Rows
end Go.Proofs.YtjaafolhfihegaaGreatDoor
