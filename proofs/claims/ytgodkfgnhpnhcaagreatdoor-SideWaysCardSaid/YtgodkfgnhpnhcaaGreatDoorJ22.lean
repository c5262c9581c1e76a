/- A part of the proof: contracts of functions and plain laws (LwD). -/
import Derived.Test.YtgodkfgnhpnhcaaGreatDoorJ21
set_option linter.unusedVariables false
set_option linter.unusedSimpArgs false
/- SideRound. -/
namespace Go.Proofs.YtgodkfgnhpnhcaaGreatDoor
open Go.RowKit Go.Maps
def rimC (I K : Nat) : Int := lexZ (rimXi I) (rimYi I) (rimXi K) (rimYi K)
def rimT (I X K : Nat) : Int := (detZ (rimXi I) (rimYi I) (rimXi X) (rimYi X) (rimXi K) (rimYi K)).sign
def rimR (I K X : Nat) : Bool := roundB (rimC I K) (rimC X I) (rimC X K) (rimT I X K)
theorem rim_all : ((List.range 12).all fun I => (List.range 12).all fun K => (List.range 12).all fun X => rimR I K X == (I == K || decide ((X + 12 - I) % 12 ≤ (K + 12 - I) % 12))) = true := by kernel_rfl
theorem rim_round {I K X : Nat} (hI : I < 12) (hK : K < 12) (hX : X < 12) : rimR I K X = (I == K || decide ((X + 12 - I) % 12 ≤ (K + 12 - I) % 12)) := by
  have h := rim_all
  rw [List.all_eq_true] at h
  have h := h I (List.mem_range.2 hI)
  rw [List.all_eq_true] at h
  have h := h K (List.mem_range.2 hK)
  rw [List.all_eq_true] at h
  exact eq_of_beq (h X (List.mem_range.2 hX))
/-- what the law makes of its arguments -/
theorem mod12 (k : Int) : ∃ J : Nat, J < 12 ∧ (k.tmod 12 + 12).tmod 12 = (J : Int) ∧ wrap64 (k.tmod 12 + 12) = k.tmod 12 + 12 := by
  have h1 := Int.lt_tmod_of_pos k (show (0 : Int) < 12 by decide)
  have h2 := Int.tmod_lt_of_pos k (show (0 : Int) < 12 by decide)
  have h3 : 0 ≤ (k.tmod 12 + 12).tmod 12 := Int.tmod_nonneg _ (by omega)
  have h4 := Int.tmod_lt_of_pos (k.tmod 12 + 12) (show (0 : Int) < 12 by decide)
  exact ⟨((k.tmod 12 + 12).tmod 12).toNat, by omega, by omega, by unfold wrap64; omega⟩
theorem mod12_again {J : Nat} (h : J < 12) : ((J : Int).tmod 12 + 12).tmod 12 = (J : Int) := by
  have h1 : (J : Int).tmod 12 = (J : Int) := Int.tmod_eq_of_lt (by omega) (by omega)
  rw [h1, Int.tmod_eq_emod_of_nonneg (by omega)]; omega
section
variable {B N : Nat} {w W : World} {g I K X : Nat} {ns ns' : List Nd} {l : List (Nat × Obj)} {k : Int}
theorem rimK (h : Stg PS B N w g ns W ns' l) (hN : N + 1 < 20000) (hJ : I < 12) (hk : (k.tmod 12 + 12).tmod 12 = (I : Int)) :
    Calls Tryz.prog 28 #[.pointer (some ⟨g, 0, none⟩), .int .i64 k] W (RetSp2 PS B (N + 2) w g ns ns' l (.leaf (rimX I)) (.leaf (rimY I))) := (rim_any h.st hN hJ hk).mono fun _ _ hr => hr.kept h
theorem rim_ok (hI : I < 12) (hK : K < 12) (hX : X < 12) : CmpOk PS (.leaf (rimX I)) (.leaf (rimY I)) (.leaf (rimX K)) (.leaf (rimY K)) (rimC I K) ∧ CmpOk PS (.leaf (rimX X)) (.leaf (rimY X)) (.leaf (rimX I)) (.leaf (rimY I)) (rimC X I) ∧ CmpOk PS (.leaf (rimX X)) (.leaf (rimY X)) (.leaf (rimX K)) (.leaf (rimY K)) (rimC X K) ∧
    TurnOk PS (.leaf (rimX I)) (.leaf (rimY I)) (.leaf (rimX X)) (.leaf (rimY X)) (.leaf (rimX K)) (.leaf (rimY K)) (rimT I X K) :=
  round_int (rim_int hI) (rim_int hK) (rim_int hX) ⟨(rim_sm hI).1, (rim_sm hI).2.1⟩ ⟨(rim_sm hK).1, (rim_sm hK).2.1⟩ ⟨(rim_sm hX).1, (rim_sm hX).2.1⟩
end
set_option maxHeartbeats 12800000 in
set_option maxRecDepth 100000 in
theorem sideRound_walk {w : World} {i k x : Int} (hT : Tab w) (htb : 1 < w.heap.size) :
    Calls Tryz.prog 4 #[.int .i64 i, .int .i64 k, .int .i64 x] w (RetV w (.bool true)) := by
  have HA := Lib.hid (alive21 hT htb)
  have HT := Lib.hid hT; have HTB := Lib.hid htb
  obtain ⟨I, hI, eI, wI⟩ := mod12 i
  obtain ⟨K, hK, eK, wK⟩ := mod12 k
  obtain ⟨X, hX, eX, wX⟩ := mod12 x
  have HLT := Lib.hid (And.intro hI (And.intro hK hX))
  have HRR := Lib.hid (rim_round hI hK hX)
  have bI : (I : Int) < 12 := by omega
  have bK : (K : Int) < 12 := by omega
  have bX : (X : Int) < 12 := by omega
  have zI : (0 : Int) ≤ (I : Int) := by omega
  have zK : (0 : Int) ≤ (K : Int) := by omega
  have zX : (0 : Int) ≤ (X : Int) := by omega
  have key : (I = K ∧ rimR I K X = true ∧ ((I : Int) == (K : Int)) = true) ∨ (I ≠ K ∧ rimR I K X = true ∧ ((I : Int) == (K : Int)) = false ∧ decide (((X : Int) - I) % 12 ≤ ((K : Int) - I) % 12) = true) ∨ (I ≠ K ∧ rimR I K X = false ∧ ((I : Int) == (K : Int)) = false ∧ decide (((X : Int) - I) % 12 ≤ ((K : Int) - I) % 12) = false) := by
    have hr := HRR.out
    by_cases h : I = K
    · left; exact ⟨h, by rw [hr]; simp [h], by simp [h]⟩
    · right
      have h1 : (I == K) = false := by simpa using h
      have h2 : ((I : Int) == (K : Int)) = false := by rw [beq_eq_false_iff_ne]; omega
      rw [h1, Bool.false_or] at hr
      by_cases hle : (X + 12 - I) % 12 ≤ (K + 12 - I) % 12
      · left; exact ⟨h, by rw [hr]; exact decide_eq_true hle, h2, decide_eq_true (by omega)⟩
      · right; exact ⟨h, by rw [hr]; exact decide_eq_false hle, h2, decide_eq_false (by omega)⟩
  clear hI hK hX HRR hT htb
  rcases key with ⟨hIK, hR, t1⟩ | ⟨hIK, hR, t1, t2⟩ | ⟨hIK, hR, t1, t2⟩
  all_goals
    go_enter Tryz.func4, Tryz.ntmps4
    have HR := Lib.hid hR
    clear hR hIK
    go_wp2_with fail
    refine HA.out.mono ?_
    rintro e w1 ⟨rfl, hb1⟩
    have HN := Lib.hid (new_any (P := PS) (B := w1.heap.size) (HT.out.below hb1) (Nat.lt_of_lt_of_le HTB.out hb1.size) (Nat.le_refl _))
    have HB1 := Lib.hid hb1
    clear hb1
    go_wp2_with fail
    refine HN.out.mono ?_
    rintro e w2 ⟨g, rfl, hs, hb2, hg⟩
    have HB2 := Lib.hid (And.intro hb2 hs.hi)
    have A1 := Lib.hid (rimK (Stg.start hs) (by omega) HLT.out.1 (mod12_again HLT.out.1))
    clear hs hb2 hg HN
    go_wp2_with fail
    refine A1.out.mono ?_
    rintro e w3 ⟨i1, j1, ns3, rfl, h3, -, x1, y1⟩
    have A2 := Lib.hid (rimK h3 (by omega) HLT.out.2.1 (mod12_again HLT.out.2.1))
    have I1 := Lib.hid (And.intro x1 y1)
    clear h3 x1 y1 A1
    go_wp2_with fail
    refine A2.out.mono ?_
    rintro e w4 ⟨i2, j2, ns4, rfl, h4, p4, x2, y2⟩
    have A3 := Lib.hid (rimK h4 (by omega) HLT.out.2.2 (mod12_again HLT.out.2.2))
    have I2 := Lib.hid (And.intro (And.intro (I1.out.1.mono p4) (I1.out.2.mono p4)) (And.intro x2 y2))
    clear h4 p4 x2 y2 A2
    go_wp2_with fail
    refine A3.out.mono ?_
    rintro e w5 ⟨i3, j3, ns5, rfl, h5, p5, x3, y3⟩
    have OK := rim_ok HLT.out.1 HLT.out.2.1 HLT.out.2.2
    have A4 := roundK h5 (by omega) (I2.out.1.1.mono p5) (I2.out.1.2.mono p5) (I2.out.2.1.mono p5) (I2.out.2.2.mono p5) x3 y3 OK.1 OK.2.1 OK.2.2.1 OK.2.2.2
    rw [show roundB (rimC I K) (rimC X I) (rimC X K) (rimT I X K) = rimR I K X from rfl, HR.out] at A4
    replace A4 := Lib.hid A4
    clear h5 p5 x3 y3 A3 OK
    go_wp2_with fail
    refine A4.out.mono ?_
    rintro e w6 ⟨rfl, ns6, h6, -⟩
    have HF := Lib.hid (HB1.out.trans ((h6.back HB2.out.1 HB2.out.2).mono HB1.out.size))
    clear h6 A4
    go_wp2
    go_ret
    exact ⟨rfl, HF.out⟩
end Go.Proofs.YtgodkfgnhpnhcaaGreatDoor
