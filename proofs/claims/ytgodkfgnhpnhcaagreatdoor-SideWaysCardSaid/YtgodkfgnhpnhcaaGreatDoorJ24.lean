/- A part of the proof: contracts of functions and plain laws (LwE). -/
import Derived.Test.YtgodkfgnhpnhcaaGreatDoorJ22
set_option linter.unusedVariables false
set_option linter.unusedSimpArgs false
/- SideWays. -/
namespace Go.Proofs.YtgodkfgnhpnhcaaGreatDoor
open Go.RowKit Go.Maps
def rimS (I K : Nat) : Bool := rimC I K == 0
theorem ways_all : ((List.range 12).all fun I => (List.range 12).all fun K => (List.range 12).all fun X => (rimR I K X || rimR K I X) && ((rimR I K X && rimR K I X) == (rimS I K || rimS X I || rimS X K))) = true := by kernel_rfl
theorem ways_round {I K X : Nat} (hI : I < 12) (hK : K < 12) (hX : X < 12) : (rimR I K X || rimR K I X) = true ∧ (rimR I K X && rimR K I X) = (rimS I K || rimS X I || rimS X K) := by
  have h := ways_all
  rw [List.all_eq_true] at h
  have h := h I (List.mem_range.2 hI)
  rw [List.all_eq_true] at h
  have h := h K (List.mem_range.2 hK)
  rw [List.all_eq_true] at h
  have h := h X (List.mem_range.2 hX)
  rw [Bool.and_eq_true] at h
  exact ⟨h.1, eq_of_beq h.2⟩
set_option maxHeartbeats 12800000 in
set_option maxRecDepth 100000 in
theorem sideWays_walk {w : World} {i k x : Int} (hT : Tab w) (htb : 1 < w.heap.size) :
    Calls Tryz.prog 5 #[.int .i64 i, .int .i64 k, .int .i64 x] w (RetV w (.bool true)) := by
  have HA := Lib.hid (alive21 hT htb)
  have HT := Lib.hid hT; have HTB := Lib.hid htb
  obtain ⟨I, hI, eI, wI⟩ := mod12 i
  obtain ⟨K, hK, eK, wK⟩ := mod12 k
  obtain ⟨X, hX, eX, wX⟩ := mod12 x
  have HLT := Lib.hid (And.intro (And.intro hI eI) (And.intro (And.intro hK eK) (And.intro hX eX)))
  have HW := Lib.hid (ways_round hI hK hX)
  have OK1 := Lib.hid (rim_ok hI hK hX)
  have OK2 := Lib.hid (rim_ok hK hI hX)
  clear hI hK hX eI eK eX wI wK wX hT htb
  go_enter Tryz.func5, Tryz.ntmps5
  go_wp2_with fail
  refine HA.out.mono ?_
  rintro e w1 ⟨rfl, hb1⟩
  have HN := Lib.hid (new_any (P := PS) (B := w1.heap.size) (HT.out.below hb1) (Nat.lt_of_lt_of_le HTB.out hb1.size) (Nat.le_refl _))
  have HB1 := Lib.hid hb1
  clear hb1
  go_wp2_with fail
  refine HN.out.mono ?_
  rintro e w2 ⟨g, rfl, hs, hb2, hg⟩
  have HB2 := Lib.hid (And.intro hb2 hs.hi)
  have A1 := Lib.hid (rimK (k := i) (Stg.start hs) (by omega) HLT.out.1.1 HLT.out.1.2)
  clear hs hb2 hg HN
  go_wp2_with fail
  refine A1.out.mono ?_
  rintro e w3 ⟨i1, j1, ns3, rfl, h3, -, x1, y1⟩
  have A2 := Lib.hid (rimK (k := k) h3 (by omega) HLT.out.2.1.1 HLT.out.2.1.2)
  have I1 := Lib.hid (And.intro x1 y1)
  clear h3 x1 y1 A1
  go_wp2_with fail
  refine A2.out.mono ?_
  rintro e w4 ⟨i2, j2, ns4, rfl, h4, p4, x2, y2⟩
  have A3 := Lib.hid (rimK (k := x) h4 (by omega) HLT.out.2.2.1 HLT.out.2.2.2)
  have I2 := Lib.hid (And.intro (And.intro (I1.out.1.mono p4) (I1.out.2.mono p4)) (And.intro x2 y2))
  clear h4 p4 x2 y2 A2
  go_wp2_with fail
  refine A3.out.mono ?_
  rintro e w5 ⟨i3, j3, ns5, rfl, h5, p5, x3, y3⟩
  have h6 := ((h5.alloc (spotO g i1 j1)).alloc (spotO g i2 j2)).alloc (spotO g i3 j3)
  obtain ⟨w6, hw6⟩ : ∃ w6, ((w5.alloc (spotO g i1 j1)).alloc (spotO g i2 j2)).alloc (spotO g i3 j3) = w6 := ⟨_, rfl⟩
  rw [hw6] at h6
  simp only [size_al] at h6
  obtain ⟨a0, a1, a2, a3⟩ := cells4 (h6.at (b := w5.heap.size) (o := spotO g i1 j1) (.tail _ (.tail _ (.head _))))
  obtain ⟨b0, b1, b2, b3⟩ := cells4 (h6.at (b := w5.heap.size + 1) (o := spotO g i2 j2) (.tail _ (.head _)))
  obtain ⟨c0, c1, c2, c3⟩ := cells4 (h6.at (b := w5.heap.size + 1 + 1) (o := spotO g i3 j3) (.head _))
  have I3 := Lib.hid (And.intro (And.intro (I2.out.1.1.mono p5) (I2.out.1.2.mono p5)) (And.intro (And.intro (I2.out.2.1.mono p5) (I2.out.2.2.mono p5)) (And.intro x3 y3)))
  have A4 := Lib.hid (roundK h6 (by omega) I3.out.1.1 I3.out.1.2 I3.out.2.1.1 I3.out.2.1.2 I3.out.2.2.1 I3.out.2.2.2 OK1.out.1 OK1.out.2.1 OK1.out.2.2.1 OK1.out.2.2.2)
  rw [show roundB (rimC I K) (rimC X I) (rimC X K) (rimT I X K) = rimR I K X from rfl] at A4
  clear h5 h6 p5 x3 y3 A3
  go_wp2_with fail
  refine A4.out.mono ?_
  rintro e w7 ⟨rfl, ns7, h7, p7⟩
  clear a0 a1 a2 a3 b0 b1 b2 b3 c0 c1 c2 c3
  obtain ⟨a0, a1, a2, a3⟩ := cells4 (h7.at (b := w5.heap.size) (o := spotO g i1 j1) (.tail _ (.tail _ (.head _))))
  obtain ⟨b0, b1, b2, b3⟩ := cells4 (h7.at (b := w5.heap.size + 1) (o := spotO g i2 j2) (.tail _ (.head _)))
  obtain ⟨c0, c1, c2, c3⟩ := cells4 (h7.at (b := w5.heap.size + 1 + 1) (o := spotO g i3 j3) (.head _))
  have J7 := Lib.hid p7
  have A5 := Lib.hid (roundK h7 (by omega) (I3.out.2.1.1.mono p7) (I3.out.2.1.2.mono p7) (I3.out.1.1.mono p7) (I3.out.1.2.mono p7) (I3.out.2.2.1.mono p7) (I3.out.2.2.2.mono p7) OK2.out.1 OK2.out.2.1 OK2.out.2.2.1 OK2.out.2.2.2)
  rw [show roundB (rimC K I) (rimC X K) (rimC X I) (rimT K X I) = rimR K I X from rfl] at A5
  clear h7 p7 A4
  go_wp2_with fail
  refine A5.out.mono ?_
  rintro e w8 ⟨rfl, ns8, h8, p8⟩
  clear a0 a1 a2 a3 b0 b1 b2 b3 c0 c1 c2 c3
  obtain ⟨a0, a1, a2, a3⟩ := cells4 (h8.at (b := w5.heap.size) (o := spotO g i1 j1) (.tail _ (.tail _ (.head _))))
  obtain ⟨b0, b1, b2, b3⟩ := cells4 (h8.at (b := w5.heap.size + 1) (o := spotO g i2 j2) (.tail _ (.head _)))
  obtain ⟨c0, c1, c2, c3⟩ := cells4 (h8.at (b := w5.heap.size + 1 + 1) (o := spotO g i3 j3) (.head _))
  have J8 := Lib.hid (J7.out.trans p8)
  have A6 := Lib.hid (sameK h8 (by omega) (I3.out.1.1.mono J8.out) (I3.out.1.2.mono J8.out) (I3.out.2.1.1.mono J8.out) (I3.out.2.1.2.mono J8.out) OK1.out.1)
  rw [show (rimC I K == 0) = rimS I K from rfl] at A6
  clear h8 p8 A5
  go_wp2_with fail
  refine A6.out.mono ?_
  rintro e w9 ⟨rfl, ns9, h9, p9⟩
  clear a0 a1 a2 a3 b0 b1 b2 b3 c0 c1 c2 c3
  obtain ⟨a0, a1, a2, a3⟩ := cells4 (h9.at (b := w5.heap.size) (o := spotO g i1 j1) (.tail _ (.tail _ (.head _))))
  obtain ⟨b0, b1, b2, b3⟩ := cells4 (h9.at (b := w5.heap.size + 1) (o := spotO g i2 j2) (.tail _ (.head _)))
  obtain ⟨c0, c1, c2, c3⟩ := cells4 (h9.at (b := w5.heap.size + 1 + 1) (o := spotO g i3 j3) (.head _))
  have J9 := Lib.hid (J8.out.trans p9)
  have A7 := Lib.hid (sameK h9 (by omega) (I3.out.2.2.1.mono J9.out) (I3.out.2.2.2.mono J9.out) (I3.out.1.1.mono J9.out) (I3.out.1.2.mono J9.out) OK1.out.2.1)
  rw [show (rimC X I == 0) = rimS X I from rfl] at A7
  clear h9 p9 A6
  go_wp2_with fail
  refine A7.out.mono ?_
  rintro e w10 ⟨rfl, ns10, h10, p10⟩
  clear a0 a1 a2 a3 b0 b1 b2 b3 c0 c1 c2 c3
  obtain ⟨a0, a1, a2, a3⟩ := cells4 (h10.at (b := w5.heap.size) (o := spotO g i1 j1) (.tail _ (.tail _ (.head _))))
  obtain ⟨b0, b1, b2, b3⟩ := cells4 (h10.at (b := w5.heap.size + 1) (o := spotO g i2 j2) (.tail _ (.head _)))
  obtain ⟨c0, c1, c2, c3⟩ := cells4 (h10.at (b := w5.heap.size + 1 + 1) (o := spotO g i3 j3) (.head _))
  have J10 := Lib.hid (J9.out.trans p10)
  have A8 := Lib.hid (sameK h10 (by omega) (I3.out.2.2.1.mono J10.out) (I3.out.2.2.2.mono J10.out) (I3.out.2.1.1.mono J10.out) (I3.out.2.1.2.mono J10.out) OK1.out.2.2.1)
  rw [show (rimC X K == 0) = rimS X K from rfl] at A8
  clear h10 p10 A7
  go_wp2_with fail
  refine A8.out.mono ?_
  rintro e w11 ⟨rfl, ns11, h11, -⟩
  have HF := Lib.hid (HB1.out.trans ((h11.back HB2.out.1 HB2.out.2).mono HB1.out.size))
  obtain ⟨q1, q2⟩ := HW.out
  clear h11 A8 HW OK1 OK2 I3 J7 J8 J9 J10 a0 a1 a2 a3 b0 b1 b2 b3 c0 c1 c2 c3 hw6
  generalize rimR I K X = on at *
  generalize rimR K I X = back at *
  generalize rimS I K = sm at *
  generalize rimS X I = fi at *
  generalize rimS X K = se at *
  cases on <;> cases back <;> cases sm <;> cases fi <;> cases se <;> first | (exfalso; revert q1 q2; decide) | (clear q1 q2; go_wp2; go_ret; exact ⟨rfl, HF.out⟩)
end Go.Proofs.YtgodkfgnhpnhcaaGreatDoor
