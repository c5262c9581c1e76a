/- A part of the proof: contracts of functions and plain laws (FlL). -/
import Derived.Test.YtgodkfgnhpnhcaaGreatDoorJ27
set_option linter.unusedVariables false
set_option linter.unusedSimpArgs false
/- SpotNone's walk. -/
namespace Go.Proofs.YtgodkfgnhpnhcaaGreatDoor
open Go.RowKit Go.Maps Go.Stop Go.Extern
set_option maxHeartbeats 12800000 in
set_option maxRecDepth 100000 in
theorem spotNone_walk {w : World} {x : Nat} (hT : Tab w) (htb : 1 < w.heap.size) (hx : x < 18446744073709551616) :
    Calls Tryz.prog 10 #[.float .f64 x] w (RetV w (.bool true)) := by
  have HA := Lib.hid (alive17 hT htb)
  have HT := Lib.hid hT; have HTB := Lib.hid htb; have HX := Lib.hid hx
  clear hT htb hx
  go_enter Tryz.func10, Tryz.ntmps10
  go_wp2_with fail
  refine HA.out.mono ?_
  rintro e w1 ⟨rfl, hb1⟩
  have HN := Lib.hid (new_any (P := PT) (B := w1.heap.size) (HT.out.below hb1) (Nat.lt_of_lt_of_le HTB.out hb1.size) (Nat.le_refl _))
  have HB1 := Lib.hid hb1
  clear hb1
  go_wp2_with fail
  refine HN.out.mono ?_
  rintro e w2 ⟨g, rfl, hs, hb2, hg⟩
  have HB2 := Lib.hid (And.intro hb2 hs.hi)
  have HAT := Lib.hid (at_or (x := x) hs (by omega) HX.out)
  clear hs hb2 hg
  go_wp2_with fail
  refine HAT.out.mono ?_
  rintro e w3 ⟨I, j, ns, rfl, hG, hj, hI⟩
  have HST : Hid (St PT w1.heap.size 2 w3 g ns) := Lib.hid hG.1
  have HGR := Lib.hid hG; have HJ := Lib.hid hj; have HI := Lib.hid hI
  have HB3 := Lib.hid (And.intro (HB2.out.1.trans (hG.2.2.below HB2.out.1.size HB2.out.2)) hG.1.hi)
  clear hG hj hI HN HAT HA
  have s5 := ((Stg.start HST.out).alloc (spO (some ⟨g, 0, none⟩) (some ⟨g, 0, none⟩) I (j : Int))).alloc zeroSO
  obtain ⟨w5, hw5⟩ : ∃ w5, ((w3.alloc (spO (some ⟨g, 0, none⟩) (some ⟨g, 0, none⟩) I (j : Int))).alloc zeroSO) = w5 := ⟨_, rfl⟩
  rw [hw5] at s5
  simp only [size_al] at s5
  have S5 := Lib.hid s5
  have HSZ : Hid (w3.heap.size ≤ w5.heap.size) := Lib.hid (by rw [← hw5]; simp; omega)
  clear s5
  obtain ⟨a0, a1, a2, a3⟩ := cells4 (S5.out.at (b := w3.heap.size) (by first | exact .tail _ (.head _) | exact .head _))
  obtain ⟨b0, b1, b2, b3⟩ := cells4 S5.out.hd
  dsimp only at b0 b1 b2 b3
  go_wp2_with fail
  refine (cmp_spot_bad (Or.inr ⟨g, ns, rfl, S5.out.st.dag⟩) (HI.out.sub S5.out.st)).mono ?_
  rintro e w6 ⟨er1, n1, rfl, hn1, he1, hb6⟩
  have S6 := Lib.hid (S5.out.below hb6)
  have HE1 := Lib.hid (And.intro hn1 he1)
  have HND : Hid (∀ b, Laid2 w5 w6 b → b < w6.heap.size → ¬ DagB w6 g b) := Lib.hid fun b hb _ hd => by
    have h1 := S5.out.st.dag.dagB ((DagB.congr (hb6.block g S5.out.st.dag.glt)).1 hd)
    exact absurd h1 (Nat.not_lt.2 hb.1)
  replace a0 := cell_below a0 hb6 (Nat.le_refl _)
  replace a1 := cell_below a1 hb6 (Nat.le_refl _)
  replace a2 := cell_below a2 hb6 (Nat.le_refl _)
  replace a3 := cell_below a3 hb6 (Nat.le_refl _)
  replace b0 := cell_below b0 hb6 (Nat.le_refl _)
  replace b1 := cell_below b1 hb6 (Nat.le_refl _)
  replace b2 := cell_below b2 hb6 (Nat.le_refl _)
  replace b3 := cell_below b3 hb6 (Nat.le_refl _)
  clear he1 hb6 hn1 hw5
  go_wp2_with fail
  refine (turn_bad S6.out.st (fun w' h => HI.out.sub h) (fun w' h => SubBad.second h.dag HJ.out (Or.inl ⟨0, rfl⟩)) (fun w' h => SubBad.second h.dag HJ.out (Or.inl ⟨0, rfl⟩)) (fun w' h => HI.out.sub h)).mono ?_
  rintro e w7 ⟨er2, n2, rfl, hn2, he2, hs7, hd7⟩
  have S7 := Lib.hid (S6.out.step hs7 List.prefix_rfl hd7)
  have HE7 := Lib.hid (HE1.out.2.ds hd7 HND.out)
  have HE2 := Lib.hid (And.intro hn2 he2)
  clear he2 hs7 hd7 hn2 a0 a1 a2 a3 b0 b1 b2 b3
  obtain ⟨a0, a1, a2, a3⟩ := cells4 (S7.out.at (b := w3.heap.size) (by first | exact .tail _ (.head _) | exact .head _))
  obtain ⟨b0, b1, b2, b3⟩ := cells4 S7.out.hd
  dsimp only at b0 b1 b2 b3
  go_wp2_with fail
  refine (same_spot_bad (Or.inl rfl) (SubBad.first (Or.inl ⟨0, rfl⟩))).mono ?_
  rintro e w8 ⟨er3, n3, rfl, hn3, he3, hb8⟩
  have S8 := Lib.hid (S7.out.below hb8)
  have HE8 := Lib.hid (And.intro (HE7.out.low hb8) (HE2.out.2.low hb8))
  have HE3 := Lib.hid (And.intro hn3 he3)
  replace a0 := cell_below a0 hb8 (Nat.le_refl _)
  replace a1 := cell_below a1 hb8 (Nat.le_refl _)
  replace a2 := cell_below a2 hb8 (Nat.le_refl _)
  replace a3 := cell_below a3 hb8 (Nat.le_refl _)
  clear he3 hb8 hn3 b0 b1 b2 b3
  go_wp2_with fail
  refine (code_err HE8.out.1 (by have := HE1.out.1; omega)).mono ?_
  rintro e w9 ⟨rfl, hb9⟩
  have C2 := Lib.hid (fun w' (h : Below w8.heap.size w8 w') => code_err (HE8.out.2.low h) (by have := HE2.out.1; omega))
  have C3 := Lib.hid (fun w' (h : Below w8.heap.size w8 w') => code_err (HE3.out.2.low h) (by have := HE3.out.1; omega))
  have HB9 := Lib.hid hb9
  replace a0 := cell_below a0 hb9 (Nat.le_refl _)
  replace a1 := cell_below a1 hb9 (Nat.le_refl _)
  clear hb9 a2 a3
  go_wp2_with fail
  refine (C2.out _ HB9.out).mono ?_
  rintro e w10 ⟨rfl, hb10⟩
  have HB10 := Lib.hid (below_up HB9.out hb10)
  replace a0 := cell_below a0 hb10 (Nat.le_refl _)
  replace a1 := cell_below a1 hb10 (Nat.le_refl _)
  clear hb10
  go_wp2_with fail
  refine (C3.out _ HB10.out).mono ?_
  rintro e w11 ⟨rfl, hb11⟩
  have HB11 := Lib.hid (below_up HB10.out hb11)
  replace a0 := cell_below a0 hb11 (Nat.le_refl _)
  replace a1 := cell_below a1 hb11 (Nat.le_refl _)
  clear hb11
  go_wp2_with fail
  refine (HI.out.valid (S8.out.below HB11.out).st.dag).mono ?_
  rintro e w12 ⟨rfl, hb12⟩
  have HF := Lib.hid (below_up HB1.out (((S8.out.below HB11.out).below hb12).back HB3.out.1 HB3.out.2))
  clear hb12
  by_cases fx : fin x
  · rw [decide_eq_true fx]
    have hsub := run_sub_self_fin (P := Tryz.prog) fx 31 w12
    clear fx
    go_wp2
    go_ret
    exact ⟨rfl, HF.out⟩
  · rw [decide_eq_false fx]
    obtain ⟨r, hsub, hr⟩ := run_sub_self_inf (P := Tryz.prog) fx 31 w12
    replace hr : FloatKind.f64.format.order r 0 = none := hr
    clear fx
    go_wp2
    go_ret
    exact ⟨by simp [hr], HF.out.drew⟩
end Go.Proofs.YtgodkfgnhpnhcaaGreatDoor
