/- A part of the proof: contracts of functions and plain laws (FltB, GapA, GapB, GapC, GapD, GapE, GapF). -/
import Derived.Test.YtgodkfgnhpnhcaaGreatDoorJ08
import Derived.Test.YtgodkfgnhpnhcaaGreatDoorJ01
import Derived.Test.YtgodkfgnhpnhcaaGreatDoorJ07
set_option linter.unusedVariables false
set_option linter.unusedSimpArgs false
/- Gaps of floats, soundly. -/
namespace Go.Proofs.YtgodkfgnhpnhcaaGreatDoor
open Ieee
/-- the next word up or down, as the program finds it -/
def stepW (v : Nat) (up : Bool) : Nat :=
  if sr v = 0 then (if up then 1 else 2 ^ 63 + 1)
  else if (sr v = infR ∧ up = true) ∨ (sr v = -infR ∧ up = false) then v
  else if decide (0 < sr v) == up then v + 1 else v - 1
theorem sr_bounds {v : Nat} (h : num v) : -(infR : Int) ≤ sr v ∧ sr v ≤ infR := by unfold num at h; unfold sr; split <;> omega
theorem fin_iff {v : Nat} : fin v ↔ -(infR : Int) < sr v ∧ sr v < infR := by
  unfold fin sr; split <;> omega
theorem sr_succ {v : Nat} (hv : v < 2 ^ 64) (h : rung v + 1 < 2 ^ 63) : fneg (v + 1) = fneg v ∧ rung (v + 1) = rung v + 1 := by
  unfold fneg rung at *
  have e1 : (v + 1) / 2 ^ 63 = v / 2 ^ 63 := by omega
  rw [e1]; exact ⟨rfl, by omega⟩
theorem sr_pred {v : Nat} (hv : v < 2 ^ 64) (h : 0 < rung v) : fneg (v - 1) = fneg v ∧ rung (v - 1) = rung v - 1 := by
  unfold fneg rung at *
  have e1 : (v - 1) / 2 ^ 63 = v / 2 ^ 63 := by omega
  rw [e1]; exact ⟨rfl, by omega⟩
theorem sr_pos {v : Nat} : 0 < sr v ↔ fneg v = false ∧ 0 < rung v := by
  unfold sr; cases fneg v <;> simp <;> omega
theorem step_spec {v : Nat} (hv : v < 2 ^ 64) (h : num v) (up : Bool) : stepW v up < 2 ^ 64 ∧ num (stepW v up) ∧
    ((sr v = infR ∧ up = true) ∨ (sr v = -infR ∧ up = false) ∧ stepW v up = v ∨ sr (stepW v up) = sr v + (if up then 1 else -1)) := by
  have hb := sr_bounds h
  have hi : infR = 2047 * 2 ^ 52 := rfl
  unfold stepW
  split
  · rename_i h0
    cases up
    · refine ⟨by decide, by decide, Or.inr ?_⟩
      rw [h0]; right; decide
    · refine ⟨by decide, by decide, Or.inr ?_⟩
      rw [h0]; right; decide
  · rename_i h0
    split
    · rename_i h1
      refine ⟨hv, h, ?_⟩
      rcases h1 with h1 | h1
      · exact Or.inl h1
      · exact Or.inr (Or.inl ⟨h1, rfl⟩)
    · rename_i h1
      split
      · rename_i h2
        have hr : rung v < infR := by
          unfold num at h
          rcases Nat.lt_or_eq_of_le h with h3 | h3
          · exact h3
          · exfalso
            apply h1
            unfold sr at h2 ⊢
            rw [h3] at h2 ⊢
            cases hn : fneg v <;> rw [hn] at h2 <;> cases up <;> simp_all
        obtain ⟨e1, e2⟩ := sr_succ hv (by omega)
        refine ⟨by unfold rung at hr; omega, by unfold num; rw [e2]; omega, Or.inr (Or.inr ?_)⟩
        unfold sr at h0 h2 ⊢
        rw [e1, e2]
        cases hn : fneg v <;> rw [hn] at h2 h0 <;> cases up <;> simp_all <;> omega
      · rename_i h2
        have hr : 0 < rung v := by
          rcases Nat.eq_zero_or_pos (rung v) with h3 | h3
          · exfalso; apply h0; unfold sr; rw [h3]; split <;> rfl
          · exact h3
        obtain ⟨e1, e2⟩ := sr_pred hv hr
        refine ⟨by omega, by unfold num at *; rw [e2]; omega, Or.inr (Or.inr ?_)⟩
        unfold sr at h0 h2 ⊢
        rw [e1, e2]
        cases hn : fneg v <;> rw [hn] at h2 h0 <;> cases up <;> simp_all <;> omega
/-- both ends are finite, and in order -/
def knownW (lo hi : Nat) : Prop := fin lo ∧ fin hi ∧ sr lo ≤ sr hi
instance (a b : Nat) : Decidable (knownW a b) := inferInstanceAs (Decidable (_ ∧ _))
/-- x, in units of 2^-1074, lies in a gap that is known -/
def GapS (lo hi : Nat) (X : Int) : Prop := lo < 2 ^ 64 ∧ hi < 2 ^ 64 ∧ (knownW lo hi → fv lo ≤ X ∧ X ≤ fv hi)
/-- x lies next to lo and hi, or between them -/
def AroundOk (lo hi : Nat) (X : Int) : Prop := lo < 2 ^ 64 ∧ hi < 2 ^ 64 ∧ num lo ∧ num hi ∧ (-(infR : Int) < sr lo → fvr (sr lo - 1) < X) ∧ (sr hi < infR → X < fvr (sr hi + 1))
theorem around_ok {lo hi : Nat} {X : Int} (h : AroundOk lo hi X) : GapS (stepW lo false) (stepW hi true) X := by
  obtain ⟨b1, b2, n1, n2, h1, h2⟩ := h
  obtain ⟨s1, s2, s3⟩ := step_spec b1 n1 false
  obtain ⟨t1, t2, t3⟩ := step_spec b2 n2 true
  refine ⟨s1, t1, fun ⟨k1, k2, k3⟩ => ⟨?_, ?_⟩⟩
  · have k := fin_iff.1 k1
    rcases s3 with s3 | s3 | s3
    · exact absurd s3.2 (by simp)
    · exfalso; rw [s3.2, s3.1.1] at k; omega
    · unfold fv; rw [s3]
      simp only [Bool.false_eq_true, if_false] at s3 ⊢
      have : -(infR : Int) < sr lo := by omega
      exact Int.le_of_lt (h1 this)
  · have k := fin_iff.1 k2
    have hb := sr_bounds n2
    rcases t3 with t3 | t3 | t3
    · exfalso
      have : stepW hi true = hi := by
        unfold stepW; rw [if_neg (by have h00 : (0:Nat) < infR := (by decide); have := t3.1; omega), if_pos (Or.inl t3)]
      rw [this, t3.1] at k; omega
    · exact absurd t3.1.2 (by simp)
    · unfold fv; rw [t3]
      simp only [if_true] at t3 ⊢
      have : sr hi < (infR : Int) := by omega
      exact Int.le_of_lt (h2 this)
theorem around_add {a b c d r s : Nat} {X Y : Int} (h : fv a ≤ X ∧ X ≤ fv b) (k : fv c ≤ Y ∧ Y ≤ fv d) (hr : r < 2 ^ 64) (hs : s < 2 ^ 64) (n1 : Near r (fv a + fv c) 1074) (n2 : Near s (fv b + fv d) 1074) : AroundOk r s (X + Y) := by
  refine ⟨hr, hs, n1.1, n2.1, fun hh => ?_, fun hh => ?_⟩
  · have := n1.below hh
    simp at this; omega
  · have := n2.above hh
    simp at this; omega
theorem mul_corner {a b c d x y : Int} (hx : a ≤ x ∧ x ≤ b) (hy : c ≤ y ∧ y ≤ d) :
    (a * c ≤ x * y ∨ a * d ≤ x * y ∨ b * c ≤ x * y ∨ b * d ≤ x * y) ∧ (x * y ≤ a * c ∨ x * y ≤ a * d ∨ x * y ≤ b * c ∨ x * y ≤ b * d) := by
  have low : ∀ a b c d x y : Int, a ≤ x → x ≤ b → c ≤ y → y ≤ d → (a * c ≤ x * y ∨ a * d ≤ x * y ∨ b * c ≤ x * y ∨ b * d ≤ x * y) := by
    intro a b c d x y h1 h2 h3 h4
    rcases Int.le_total 0 x with hx | hx
    · -- x*c ≤ x*y
      have e1 : x * c ≤ x * y := Int.mul_le_mul_of_nonneg_left h3 hx
      rcases Int.le_total 0 c with hc | hc
      · exact Or.inl (Int.le_trans (Int.mul_le_mul_of_nonneg_right h1 hc) e1)
      · exact Or.inr (Or.inr (Or.inl (Int.le_trans (Int.mul_le_mul_of_nonpos_right h2 hc) e1)))
    · have e1 : x * d ≤ x * y := Int.mul_le_mul_of_nonpos_left hx h4
      rcases Int.le_total 0 d with hd | hd
      · exact Or.inr (Or.inl (Int.le_trans (Int.mul_le_mul_of_nonneg_right h1 hd) e1))
      · exact Or.inr (Or.inr (Or.inr (Int.le_trans (Int.mul_le_mul_of_nonpos_right h2 hd) e1)))
  refine ⟨low a b c d x y hx.1 hx.2 hy.1 hy.2, ?_⟩
  have h := low a b (-d) (-c) x (-y) hx.1 hx.2 (by omega) (by omega)
  simp only [Int.mul_neg, Int.neg_le_neg_iff] at h
  rcases h with h | h | h | h
  · exact Or.inr (Or.inl h)
  · exact Or.inl h
  · exact Or.inr (Or.inr (Or.inr h))
  · exact Or.inr (Or.inr (Or.inl h))
/-- m is the least, n the greatest of four words, by their rungs -/
def Least4 (m w x y z : Nat) : Prop := sr m ≤ sr w ∧ sr m ≤ sr x ∧ sr m ≤ sr y ∧ sr m ≤ sr z ∧ (m = w ∨ m = x ∨ m = y ∨ m = z)
def Great4 (m w x y z : Nat) : Prop := sr w ≤ sr m ∧ sr x ≤ sr m ∧ sr y ≤ sr m ∧ sr z ≤ sr m ∧ (m = w ∨ m = x ∨ m = y ∨ m = z)
/-- 1, in units of 2^-1074 -/
def pow2 (n : Nat) : Nat := 2 ^ n
theorem pow2_pos (n : Nat) : 0 < pow2 n := Nat.two_pow_pos n
theorem pow2_of {t s : Nat} (h : t - 1074 = s) : (2 ^ (t - 1074) : Nat) = pow2 s := by rw [h]; rfl
def U74 : Nat := pow2 1074
theorem U74_pos : (0 : Int) < (U74 : Int) := Int.natCast_pos.2 (pow2_pos 1074)
theorem around_mul {a b c d w x y z m n : Nat} {X Y Z : Int} (h : fv a ≤ X ∧ X ≤ fv b) (k : fv c ≤ Y ∧ Y ≤ fv d)
    (hw : w < 2 ^ 64) (hx : x < 2 ^ 64) (hy : y < 2 ^ 64) (hz : z < 2 ^ 64) (n1 : Near w (fv a * fv c) 2148) (n2 : Near x (fv a * fv d) 2148) (n3 : Near y (fv b * fv c) 2148) (n4 : Near z (fv b * fv d) 2148)
    (hm : Least4 m w x y z) (hn : Great4 n w x y z) (hZ : Z * (U74 : Int) = X * Y) : AroundOk m n Z := by
  obtain ⟨m1, m2, m3, m4, m5⟩ := hm
  obtain ⟨g1, g2, g3, g4, g5⟩ := hn
  obtain ⟨c1, c2⟩ := mul_corner h k
  have bm : m < 2 ^ 64 := by rcases m5 with rfl | rfl | rfl | rfl <;> assumption
  have bn : n < 2 ^ 64 := by rcases g5 with rfl | rfl | rfl | rfl <;> assumption
  have nm : num m := by rcases m5 with rfl | rfl | rfl | rfl <;> first | exact n1.1 | exact n2.1 | exact n3.1 | exact n4.1
  have nn : num n := by rcases g5 with rfl | rfl | rfl | rfl <;> first | exact n1.1 | exact n2.1 | exact n3.1 | exact n4.1
  have hP := U74_pos
  have lo : ∀ (v : Nat) (N : Int), Near v N 2148 → sr m ≤ sr v → -(infR : Int) < sr m → N ≤ X * Y → fvr (sr m - 1) < Z := by
    intro v N hv h1 h2 h3
    have e1 := hv.below (by omega)
    have e2 : fvr (sr m - 1) ≤ fvr (sr v - 1) := fvr_le (by omega)
    rw [pow2_of (t := 2148) (s := 1074) rfl] at e1
    have e3 := Int.mul_le_mul_of_nonneg_right e2 (Int.le_of_lt hP)
    rw [← Int.mul_lt_mul_right hP, hZ]; unfold U74 at *; omega
  have hi : ∀ (v : Nat) (N : Int), Near v N 2148 → sr v ≤ sr n → sr n < infR → X * Y ≤ N → Z < fvr (sr n + 1) := by
    intro v N hv h1 h2 h3
    have e1 := hv.above (by omega)
    have e2 : fvr (sr v + 1) ≤ fvr (sr n + 1) := fvr_le (by omega)
    rw [pow2_of (t := 2148) (s := 1074) rfl] at e1
    have e3 := Int.mul_le_mul_of_nonneg_right e2 (Int.le_of_lt hP)
    rw [← Int.mul_lt_mul_right hP, hZ]; unfold U74 at *; omega
  refine ⟨bm, bn, nm, nn, fun hh => ?_, fun hh => ?_⟩
  · rcases c1 with c | c | c | c
    · exact lo w _ n1 m1 hh c
    · exact lo x _ n2 m2 hh c
    · exact lo y _ n3 m3 hh c
    · exact lo z _ n4 m4 hh c
  · rcases c2 with c | c | c | c
    · exact hi w _ n1 g1 hh c
    · exact hi x _ n2 g2 hh c
    · exact hi y _ n3 g3 hh c
    · exact hi z _ n4 g4 hh c
theorem gap_all (X : Int) : GapS (2 ^ 63 + 2047 * 2 ^ 52) (2047 * 2 ^ 52) X := ⟨by decide, by decide, fun h => absurd h.1 (by decide)⟩
theorem gap_at {v : Nat} (h : v < 2 ^ 64) : GapS v v (fv v) := ⟨h, h, fun _ => ⟨Int.le_refl _, Int.le_refl _⟩⟩
end Go.Proofs.YtgodkfgnhpnhcaaGreatDoor
namespace Go.Proofs.YtgodkfgnhpnhcaaGreatDoor
open Go.RowKit
def RetB (w : World) (b : Bool) (e : Ending) (w' : World) : Prop := e = .returned (.bool b) ∧ w = w'
def RetF (w : World) (b : Nat) (e : Ending) (w' : World) : Prop := e = .returned (.float .f64 b) ∧ w = w'
theorem float64bits_run (b : Nat) (w : World) :
    (callFunc 151 #[.float .f64 b]).run Tryz.prog w = .ok (.value (.int .u64 (b : Int))) w := by
  rw [run_callFunc_extern Tryz.func151 (by kernel_rfl) (by kernel_rfl) (by kernel_rfl) (e := Extern.MathFloatBits.float64bits) (by kernel_rfl)]
  rfl
theorem float64frombits_run (n : Int) (w : World) :
    (callFunc 208 #[.int .u64 n]).run Tryz.prog w = .ok (.value (.float .f64 n.toNat)) w := by
  rw [run_callFunc_extern Tryz.func208 (by kernel_rfl) (by kernel_rfl) (by kernel_rfl) (e := Extern.MathFloatBits.float64frombits) (by kernel_rfl)]
  rfl
theorem ord_num {b c : Nat} (hb : num b) (hc : num c) : FloatKind.f64.format.order b c = some (compare (sr b) (sr c)) := order_num hb hc
theorem ord_gt {b c : Nat} (hb : num b) (hc : num c) : (FloatKind.f64.format.order b c == some Ordering.gt) = decide (sr c < sr b) := by
  rw [ord_num hb hc]
  rcases Int.lt_trichotomy (sr b) (sr c) with h | h | h
  · rw [Int.compare_eq_lt.2 h, decide_eq_false (by omega)]; rfl
  · rw [Int.compare_eq_eq.2 h, decide_eq_false (by omega)]; rfl
  · rw [Int.compare_eq_gt.2 h, decide_eq_true h]; rfl
theorem ord_lt {b c : Nat} (hb : num b) (hc : num c) : (FloatKind.f64.format.order b c == some Ordering.lt) = decide (sr b < sr c) := by
  rw [ord_num hb hc]
  rcases Int.lt_trichotomy (sr b) (sr c) with h | h | h
  · rw [Int.compare_eq_lt.2 h, decide_eq_true h]; rfl
  · rw [Int.compare_eq_eq.2 h, decide_eq_false (by omega)]; rfl
  · rw [Int.compare_eq_gt.2 h, decide_eq_false (by omega)]; rfl
theorem ord_eq {b c : Nat} (hb : num b) (hc : num c) : (FloatKind.f64.format.order b c == some Ordering.eq) = decide (sr b = sr c) := by
  rw [ord_num hb hc]
  rcases Int.lt_trichotomy (sr b) (sr c) with h | h | h
  · rw [Int.compare_eq_lt.2 h, decide_eq_false (by omega)]; rfl
  · rw [Int.compare_eq_eq.2 h, decide_eq_true h]; rfl
  · rw [Int.compare_eq_gt.2 h, decide_eq_false (by omega)]; rfl
theorem ord_le {b c : Nat} (hb : num b) (hc : num c) : (FloatKind.f64.format.order b c == some Ordering.lt || FloatKind.f64.format.order b c == some Ordering.eq) = decide (sr b ≤ sr c) := by
  rw [ord_lt hb hc, ord_eq hb hc, ← Bool.decide_or]
  exact decide_eq_decide.2 (by omega)
theorem and_low (x k : Nat) (hx : x < 18446744073709551616) (hk : k < 64) : Go.bits BinOp.and IntKind.u64 (x : Int) (((2 ^ k - 1 : Nat)) : Int) = ((x % 2 ^ k : Nat) : Int) := by
  have h1 : 2 ^ k ≤ 2 ^ 63 := Nat.pow_le_pow_right (by omega) (by omega)
  rw [u64_and_nat x _ hx (by omega), Nat.and_two_pow_sub_one_eq_mod]
theorem neg_word {b : Nat} (hb : b < 2 ^ 64) : b ^^^ 2 ^ 63 < 2 ^ 64 ∧ rung (b ^^^ 2 ^ 63) = rung b ∧ sr (b ^^^ 2 ^ 63) = -sr b := by
  have h1 : b ^^^ 2 ^ 63 < 2 ^ 64 := Nat.xor_lt_two_pow hb (by decide)
  have h2 : rung (b ^^^ 2 ^ 63) = rung b := by
    unfold rung; rw [Nat.xor_mod_two_pow]; simp
  have h3 : (b ^^^ 2 ^ 63) / 2 ^ 63 = b / 2 ^ 63 ^^^ 1 := by rw [Nat.xor_div_two_pow]
  refine ⟨h1, h2, ?_⟩
  unfold sr fneg
  rw [h2, h3]
  have : b / 2 ^ 63 = 0 ∨ b / 2 ^ 63 = 1 := by omega
  rcases this with h | h <;> rw [h] <;> simp
theorem finite_any {b : Nat} {w : World} (hb : b < 18446744073709551616) :
    Calls Tryz.prog 123 #[.float .f64 b] w (RetB w (decide (fin b))) := by
  have hbits := float64bits_run b
  have HF : Hid (RetB w (decide (fin b)) (.returned (.bool (Go.bits BinOp.and IntKind.u64 ((b : Int) / 4503599627370496) 2047 != 2047))) w) := by
    refine Lib.hid ⟨?_, rfl⟩
    have e1 : ((b : Int) / 4503599627370496) = ((b / 4503599627370496 : Nat) : Int) := by omega
    have e2 := and_low (b / 4503599627370496) 11 (by omega) (by omega)
    rw [e1, show (2047 : Int) = (((2 ^ 11 - 1 : Nat)) : Int) from rfl, e2]
    congr 2
    by_cases h : fin b
    · rw [decide_eq_true h]
      have h : b % 2 ^ 63 < 2047 * 2 ^ 52 := h
      exact bne_iff_ne.2 (by omega)
    · rw [decide_eq_false h]
      have h : ¬ b % 2 ^ 63 < 2047 * 2 ^ 52 := h
      have : ((b / 4503599627370496 % 2 ^ 11 : Nat) : Int) = ((2 ^ 11 - 1 : Nat) : Int) := by omega
      rw [this]; simp
  clear hb
  go_enter Tryz.func123, Tryz.ntmps123
  go_wp2
  go_ret
  exact HF.out
theorem wrap_u64 {x : Int} (h : 0 ≤ x ∧ x < 18446744073709551616) : IntKind.u64.wrap x = x := by
  have hb64 : (2 : Int) ^ IntKind.u64.bits = 18446744073709551616 := rfl
  simp only [IntKind.wrap, show IntKind.u64.signed = false from rfl, Bool.false_and, Bool.false_eq_true, if_false, hb64]
  omega
theorem negf_run (b : Nat) (w : World) : (Op.unary UnOp.neg (Value.float FloatKind.f64 b)).run Tryz.prog w = .ok (.float .f64 (Op.negFloat FloatKind.f64 b)) w := rfl
theorem isNaN_any {b : Nat} {w : World} (hn : num b) : Calls Tryz.prog 263 #[.float .f64 b] w (RetB w false) := by
  have h : (FloatKind.f64.format.order b b != some Ordering.eq) = false := by
    rw [bne, ord_eq hn hn]; simp
  have HF : Hid (RetB w false (.returned (.bool false)) w) := Lib.hid ⟨rfl, rfl⟩
  clear hn
  go_enter Tryz.func263, Tryz.ntmps263
  go_wp2
  go_ret
  exact HF.out
def infOf (up : Bool) : Int := if up then infR else -infR
def dirOf (up : Bool) : Int := if up then 1 else -1
theorem isInf_any {b : Nat} {w : World} (hb : b < 18446744073709551616) (hn : num b) (up : Bool) : Calls Tryz.prog 264 #[.float .f64 b, .int .i64 (dirOf up)] w (RetB w (decide (sr b = infOf up))) := by
  have nb := sr_bounds hn
  have e0 : sr 9218868437227405311 = infR - 1 := by decide
  have nm : num 9218868437227405311 := by decide
  cases up
  · have hx := neg_word (b := b) hb
    have nx : num (b ^^^ 2 ^ 63) := by unfold num; rw [hx.2.1]; exact hn
    have h : (FloatKind.f64.format.order (Op.negFloat FloatKind.f64 b) 9218868437227405311 == some Ordering.gt) = decide (sr b = infOf false) := by
      show (FloatKind.f64.format.order (b ^^^ 2 ^ 63) 9218868437227405311 == some Ordering.gt) = _
      rw [ord_gt nx nm, hx.2.2, e0]
      exact decide_eq_decide.2 (by simp only [infOf, Bool.false_eq_true, if_false]; omega)
    have HF : Hid (RetB w (decide (sr b = infOf false)) (.returned (.bool (decide (sr b = infOf false)))) w) := Lib.hid ⟨rfl, rfl⟩
    simp only [dirOf, Bool.false_eq_true, if_false]
    generalize decide (sr b = infOf false) = r at *
    clear hx nx e0 nb nm hn hb
    have hneg := negf_run b
    go_enter Tryz.func264, Tryz.ntmps264
    go_wp2
    go_ret
    exact HF.out
  · have h : (FloatKind.f64.format.order b 9218868437227405311 == some Ordering.gt) = decide (sr b = infOf true) := by
      rw [ord_gt hn nm, e0]
      exact decide_eq_decide.2 (by simp only [infOf, if_true]; omega)
    have HF : Hid (RetB w (decide (sr b = infOf true)) (.returned (.bool (decide (sr b = infOf true)))) w) := Lib.hid ⟨rfl, rfl⟩
    simp only [dirOf, if_true]
    generalize decide (sr b = infOf true) = r at *
    clear e0 nb nm hn hb
    go_enter Tryz.func264, Tryz.ntmps264
    go_wp2
    go_ret
    exact HF.out
set_option maxHeartbeats 1600000 in
theorem step_any {b : Nat} {w : World} (hb : b < 18446744073709551616) (hn : num b) (up : Bool) : Calls Tryz.prog 249 #[.float .f64 b, .int .i64 (dirOf up)] w (RetF w (stepW b up)) := by
  have nb := sr_bounds hn
  have n0 : num 0 := by decide
  have s0 : sr 0 = 0 := by decide
  have hN := Lib.hid (isNaN_any (w := w) hn)
  have hI1 := Lib.hid (isInf_any (w := w) hb hn true)
  have hI2 := Lib.hid (isInf_any (w := w) hb hn false)
  have f64 := float64bits_run b
  have ffb := float64frombits_run
  have hE := ord_eq hn n0
  have hG := ord_gt hn n0
  rw [s0] at hE hG
  by_cases hz : sr b = 0
  · have HF : Hid (RetF w (stepW b up) (.returned (.float .f64 (if up then 1 else 9223372036854775809))) w) := Lib.hid ⟨by unfold stepW; rw [if_pos hz], rfl⟩
    rw [decide_eq_true hz] at hE
    clear hG hz nb n0 s0 hI1 hI2 f64 ffb hn hb
    cases up
    all_goals
      simp only [dirOf, Bool.false_eq_true, if_false, if_true] at *
      go_enter Tryz.func249, Tryz.ntmps249
      go_wp2_with fail
      refine hN.out.mono ?_
      rintro e w1 ⟨rfl, hw⟩
      obtain rfl := hw
      go_wp2
      go_ret
      exact HF.out
  · rw [decide_eq_false hz] at hE
    by_cases h1 : sr b = infR ∧ up = true
    · obtain ⟨h1, rfl⟩ := h1
      have HF : Hid (RetF w (stepW b true) (.returned (.float .f64 b)) w) := Lib.hid ⟨by unfold stepW; rw [if_neg hz, if_pos (Or.inl ⟨h1, rfl⟩)], rfl⟩
      rw [show infOf true = infR from rfl, decide_eq_true h1] at hI1
      clear hG hz nb n0 s0 hI2 f64 ffb hn hb h1
      simp only [dirOf, Bool.false_eq_true, if_false, if_true] at *
      go_enter Tryz.func249, Tryz.ntmps249
      go_wp2_with fail
      refine hN.out.mono ?_
      rintro e w1 ⟨rfl, hw⟩
      obtain rfl := hw
      go_wp2_with fail
      refine hI1.out.mono ?_
      rintro e w1 ⟨rfl, hw⟩
      obtain rfl := hw
      go_wp2
      go_ret
      exact HF.out
    by_cases h2 : sr b = -infR ∧ up = false
    · obtain ⟨h2, rfl⟩ := h2
      have HF : Hid (RetF w (stepW b false) (.returned (.float .f64 b)) w) := Lib.hid ⟨by unfold stepW; rw [if_neg hz, if_pos (Or.inr ⟨h2, rfl⟩)], rfl⟩
      rw [show infOf false = -(infR : Int) from rfl, decide_eq_true h2] at hI2
      clear hG hz nb n0 s0 f64 ffb hn hb h2 h1
      generalize decide (sr b = infOf true) = r1 at *
      simp only [dirOf, Bool.false_eq_true, if_false, if_true] at *
      go_enter Tryz.func249, Tryz.ntmps249
      go_wp2_with fail
      refine hN.out.mono ?_
      rintro e w1 ⟨rfl, hw⟩
      obtain rfl := hw
      go_wp2_with fail
      refine hI1.out.mono ?_
      rintro e w1 ⟨rfl, hw⟩
      obtain rfl := hw
      cases r1
      all_goals
        go_wp2_with fail
        refine hI2.out.mono ?_
        rintro e w1 ⟨rfl, hw⟩
        obtain rfl := hw
        go_wp2
        go_ret
        exact HF.out
    · have HS : Hid (stepW b up = if decide (0 < sr b) == up then b + 1 else b - 1) := Lib.hid (by unfold stepW; rw [if_neg hz, if_neg (fun h => h.elim h1 h2)])
      have hup : b ≠ 18446744073709551615 := by
        rintro rfl; revert hn; decide
      have hb0 : b ≠ 0 := by
        rintro rfl; exact hz rfl
      obtain ⟨c, hc⟩ : ∃ c, c = b + 1 := ⟨_, rfl⟩
      obtain ⟨d, hd⟩ : ∃ d, d = b - 1 := ⟨_, rfl⟩
      have e1 : IntKind.u64.wrap ((b : Int) + 1) = (c : Int) := by rw [wrap_u64 (by omega)]; omega
      have e2 : IntKind.u64.wrap ((b : Int) - 1) = (d : Int) := by rw [wrap_u64 (by omega)]; omega
      rw [← hc, ← hd] at HS
      have ff1 := float64frombits_run (c : Int)
      have ff2 := float64frombits_run (d : Int)
      rw [Int.toNat_natCast] at ff1 ff2
      have hr1 : up = true → decide (sr b = infOf true) = false := fun h => decide_eq_false fun h' => h1 ⟨h', h⟩
      have hr2 : up = false → decide (sr b = infOf false) = false := fun h => decide_eq_false fun h' => h2 ⟨h', h⟩
      clear ffb hup hb0 hz nb n0 s0 hn hb h1 h2 hc hd
      generalize decide (sr b = infOf true) = r1 at *
      generalize decide (sr b = infOf false) = r2 at *
      generalize decide (0 < sr b) = q at *
      have hcases : (up = true ∧ r1 = false) ∨ (up = false ∧ r2 = false) := by
        cases up
        · exact Or.inr ⟨rfl, hr2 rfl⟩
        · exact Or.inl ⟨rfl, hr1 rfl⟩
      clear hr1 hr2
      rcases hcases with ⟨rfl, rfl⟩ | ⟨rfl, rfl⟩
      · cases r2 <;> cases q
        all_goals
          have HF := HS.out
          simp at HF
          simp only [dirOf, Bool.false_eq_true, if_false, if_true] at hI1 hI2 ⊢
          rw [HF]
          clear HF HS
          go_enter Tryz.func249, Tryz.ntmps249
          go_wp2_with fail
          refine hN.out.mono ?_
          rintro e w1 ⟨rfl, hw⟩
          obtain rfl := hw
          go_wp2_with fail
          refine hI1.out.mono ?_
          rintro e w1 ⟨rfl, hw⟩
          obtain rfl := hw
          go_wp2_with fail
          refine hI2.out.mono ?_
          rintro e w1 ⟨rfl, hw⟩
          obtain rfl := hw
          go_wp2
          go_ret
          exact ⟨rfl, rfl⟩
      · cases r1 <;> cases q
        all_goals
          have HF := HS.out
          simp at HF
          simp only [dirOf, Bool.false_eq_true, if_false, if_true] at hI1 hI2 ⊢
          rw [HF]
          clear HF HS
          go_enter Tryz.func249, Tryz.ntmps249
          go_wp2_with fail
          refine hN.out.mono ?_
          rintro e w1 ⟨rfl, hw⟩
          obtain rfl := hw
          go_wp2_with fail
          refine hI1.out.mono ?_
          rintro e w1 ⟨rfl, hw⟩
          obtain rfl := hw
          go_wp2_with fail
          refine hI2.out.mono ?_
          rintro e w1 ⟨rfl, hw⟩
          obtain rfl := hw
          go_wp2
          go_ret
          exact ⟨rfl, rfl⟩
end Go.Proofs.YtgodkfgnhpnhcaaGreatDoor
namespace Go.Proofs.YtgodkfgnhpnhcaaGreatDoor
open Go.RowKit
def gv (lo hi : Nat) : Value := .agg #[.float .f64 lo, .float .f64 hi]
/-- a gap comes back in which X lies -/
def RetG (w : World) (X : Int) (e : Ending) (w' : World) : Prop := Below w.heap.size w w' ∧ ∃ lo hi, e = .returned (gv lo hi) ∧ GapS lo hi X
/-- as RetB, but memory may be laid -/
def RetW (w : World) (b : Bool) (e : Ending) (w' : World) : Prop := e = .returned (.bool b) ∧ Below w.heap.size w w'
set_option maxHeartbeats 1600000 in
theorem known_any {lo hi : Nat} {w : World} (h1 : lo < 18446744073709551616) (h2 : hi < 18446744073709551616) :
    Calls Tryz.prog 133 #[gv lo hi] w (RetW w (decide (knownW lo hi))) := by
  unfold gv
  obtain ⟨w1, hw1, hb1, hs1, b1⟩ := pro1 w (.cells #[.float .f64 lo, .float .f64 hi] 160)
  have HB := Lib.hid hb1
  obtain ⟨c0, c1, -, -⟩ := cells2 b1
  have F1 := Lib.hid (finite_any (b := lo) (w := w1) h1); have F2 := Lib.hid (finite_any (b := hi) (w := w1) h2)
  clear hb1 b1 hs1
  by_cases k1 : fin lo
  · by_cases k2 : fin hi
    · have hle := ord_le k1.num k2.num
      rw [decide_eq_true k1] at F1; rw [decide_eq_true k2] at F2
      have HF : Hid (RetW w (decide (knownW lo hi)) (.returned (.bool (decide (sr lo ≤ sr hi)))) w1) := Lib.hid ⟨by
        have : decide (knownW lo hi) = decide (sr lo ≤ sr hi) := decide_eq_decide.2 ⟨fun h => h.2.2, fun h => ⟨k1, k2, h⟩⟩
        rw [this], HB.out⟩
      clear h1 h2 k1 k2
      generalize decide (sr lo ≤ sr hi) = r at *
      go_enter Tryz.func133, Tryz.ntmps133
      go_wp2_with fail
      refine F1.out.mono ?_
      rintro e w2 ⟨rfl, hw⟩
      obtain rfl := hw
      go_wp2_with fail
      refine F2.out.mono ?_
      rintro e w2 ⟨rfl, hw⟩
      obtain rfl := hw
      go_wp2
      go_ret
      exact HF.out
    · rw [decide_eq_true k1] at F1; rw [decide_eq_false k2] at F2
      have HF : Hid (RetW w (decide (knownW lo hi)) (.returned (.bool false)) w1) := Lib.hid ⟨by rw [decide_eq_false (fun h => k2 h.2.1)], HB.out⟩
      clear h1 h2 k1 k2
      go_enter Tryz.func133, Tryz.ntmps133
      go_wp2_with fail
      refine F1.out.mono ?_
      rintro e w2 ⟨rfl, hw⟩
      obtain rfl := hw
      go_wp2_with fail
      refine F2.out.mono ?_
      rintro e w2 ⟨rfl, hw⟩
      obtain rfl := hw
      go_wp2
      go_ret
      exact HF.out
  · rw [decide_eq_false k1] at F1
    have HF : Hid (RetW w (decide (knownW lo hi)) (.returned (.bool false)) w1) := Lib.hid ⟨by rw [decide_eq_false (fun h => k1 h.1)], HB.out⟩
    clear h1 h2 k1
    go_enter Tryz.func133, Tryz.ntmps133
    go_wp2_with fail
    refine F1.out.mono ?_
    rintro e w2 ⟨rfl, hw⟩
    obtain rfl := hw
    go_wp2
    go_ret
    exact HF.out
/-- what Sign tells of a gap -/
def gapSign (lo hi : Nat) : Int × Bool :=
  if knownW lo hi then (if 0 < sr lo then (1, true) else if sr hi < 0 then (-1, true) else (0, decide (sr lo = 0) && decide (sr hi = 0))) else (0, false)
def RetKB (w : World) (n : Int) (b : Bool) (e : Ending) (w' : World) : Prop := e = .returned (.tuple #[.int .i64 n, .bool b]) ∧ Below w.heap.size w w'
theorem gapSign_ok {lo hi : Nat} {X : Int} (h : GapS lo hi X) (hk : (gapSign lo hi).2 = true) : (gapSign lo hi).1 = X.sign := by
  unfold gapSign at *
  by_cases k : knownW lo hi
  · obtain ⟨x1, x2⟩ := h.2.2 k
    rw [if_pos k] at *
    unfold fv at x1 x2
    by_cases h1 : 0 < sr lo
    · rw [if_pos h1]
      have := fvr_lt h1; rw [fvr_zero] at this
      rw [Int.sign_eq_one_of_pos (by omega)]
    · rw [if_neg h1] at *
      by_cases h2 : sr hi < 0
      · rw [if_pos h2]
        have := fvr_lt h2; rw [fvr_zero] at this
        rw [Int.sign_eq_neg_one_of_neg (by omega)]
      · rw [if_neg h2] at *
        simp only [Bool.and_eq_true, decide_eq_true_eq] at hk
        rw [hk.1, fvr_zero] at x1; rw [hk.2, fvr_zero] at x2
        have : X = 0 := by omega
        rw [this]; rfl
  · rw [if_neg k] at hk; cases hk
end Go.Proofs.YtgodkfgnhpnhcaaGreatDoor
namespace Go.Proofs.YtgodkfgnhpnhcaaGreatDoor
open Go.RowKit
/-- the kit lacks this one: a float goes into a cell -/
theorem store_float (a : Addr) (b : Nat) (m : Mode) (w : World) : (store a (.float .f64 b) m).run Tryz.prog w = stored Tryz.prog w a (.float .f64 b) m := run_store Tryz.prog w a _ m rfl
theorem num0 : num 0 := by decide
theorem sr0 : sr 0 = 0 := by decide
set_option maxHeartbeats 1600000 in
theorem gsign_any {lo hi : Nat} {w : World} (h1 : lo < 18446744073709551616) (h2 : hi < 18446744073709551616) :
    Calls Tryz.prog 107 #[gv lo hi] w (RetKB w (gapSign lo hi).1 (gapSign lo hi).2) := by
  obtain ⟨w1, hw1, hb1, hs1, b1⟩ := pro1 w (.cells #[.float .f64 lo, .float .f64 hi] 160)
  have HB := Lib.hid hb1
  obtain ⟨c0, c1, -, -⟩ := cells2 b1
  have F1 := Lib.hid (known_any (w := w1) h1 h2)
  clear hb1 b1 hs1 h1 h2
  unfold gv at *
  by_cases k : knownW lo hi
  · rw [decide_eq_true k] at F1
    have hg := ord_gt k.1.num num0; have hl := ord_lt k.2.1.num num0
    have he := ord_eq k.1.num num0; have he2 := ord_eq k.2.1.num num0
    rw [sr0] at hg hl he he2
    by_cases q1 : 0 < sr lo
    · rw [decide_eq_true q1] at hg
      have hG : gapSign lo hi = (1, true) := by unfold gapSign; rw [if_pos k, if_pos q1]
      rw [hG]
      clear k q1 hl he he2 hG
      go_enter Tryz.func107, Tryz.ntmps107
      go_wp2_with fail
      refine F1.out.mono ?_
      rintro e w2 ⟨rfl, hb⟩
      replace c0 := cell_below c0 hb (Nat.le_refl _); replace c1 := cell_below c1 hb (Nat.le_refl _)
      have HF : Hid (RetKB w 1 true (.returned (.tuple #[.int .i64 1, .bool true])) w2) := Lib.hid ⟨rfl, HB.out.trans (hb.mono HB.out.size)⟩
      clear hb hw1
      go_wp2
      go_ret2
      exact HF.out
    · rw [decide_eq_false q1] at hg
      by_cases q2 : sr hi < 0
      · rw [decide_eq_true q2] at hl
        have hG : gapSign lo hi = (-1, true) := by unfold gapSign; rw [if_pos k, if_neg q1, if_pos q2]
        rw [hG]
        clear k q1 q2 he he2 hG
        go_enter Tryz.func107, Tryz.ntmps107
        go_wp2_with fail
        refine F1.out.mono ?_
        rintro e w2 ⟨rfl, hb⟩
        replace c0 := cell_below c0 hb (Nat.le_refl _); replace c1 := cell_below c1 hb (Nat.le_refl _)
        have HF : Hid (RetKB w (-1) true (.returned (.tuple #[.int .i64 (-1), .bool true])) w2) := Lib.hid ⟨rfl, HB.out.trans (hb.mono HB.out.size)⟩
        clear hb hw1
        go_wp2
        go_ret2
        exact HF.out
      · rw [decide_eq_false q2] at hl
        have hG : gapSign lo hi = (0, decide (sr lo = 0) && decide (sr hi = 0)) := by unfold gapSign; rw [if_pos k, if_neg q1, if_neg q2]
        rw [hG]
        clear k q1 q2 hG
        generalize decide (sr lo = 0) = r1 at *
        generalize decide (sr hi = 0) = r2 at *
        cases r1
        all_goals
          go_enter Tryz.func107, Tryz.ntmps107
          go_wp2_with fail
          refine F1.out.mono ?_
          rintro e w2 ⟨rfl, hb⟩
          replace c0 := cell_below c0 hb (Nat.le_refl _); replace c1 := cell_below c1 hb (Nat.le_refl _)
          have HB2 : Hid (Below w.heap.size w w2) := Lib.hid (HB.out.trans (hb.mono HB.out.size))
          clear hb hw1
          go_wp2_with fail
          go_quiet (fail)
          go_wp2
          go_ret2
          exact ⟨rfl, HB2.out.trans ((below_drewN _ _).mono HB2.out.size)⟩
  · rw [decide_eq_false k] at F1
    have hG : gapSign lo hi = (0, false) := by unfold gapSign; rw [if_neg k]
    rw [hG]
    clear k hG
    go_enter Tryz.func107, Tryz.ntmps107
    go_wp2_with fail
    refine F1.out.mono ?_
    rintro e w2 ⟨rfl, hb⟩
    have HF : Hid (RetKB w 0 false (.returned (.tuple #[.int .i64 0, .bool false])) w2) := Lib.hid ⟨rfl, HB.out.trans (hb.mono HB.out.size)⟩
    clear hb hw1
    go_wp2
    go_ret2
    exact HF.out
def allLo : Nat := 18442240474082181120
def allHi : Nat := 9218868437227405312
theorem inf_any {w : World} (up : Bool) : Calls Tryz.prog 170 #[.int .i64 (dirOf up)] w (RetF w (if up then allHi else allLo)) := by
  have ffb := float64frombits_run
  cases up
  all_goals
    simp only [dirOf, Bool.false_eq_true, if_false, if_true]
    go_enter Tryz.func170, Tryz.ntmps170
    go_wp2
    go_ret
    exact ⟨rfl, rfl⟩
theorem retg_store {g : Nat} {w0 w1 : World} {T : TypeId} {a b : Value} {lo hi : Nat} {X : Int} (hb : Below w0.heap.size w0 w1) (hg : w0.heap.size ≤ g) (hw : w1.heap[g]? = some (.cells #[a, b] T (0, 0))) (h : GapS lo hi X) :
    Hid (RetG w0 X (.returned (.agg #[.float .f64 lo, .float .f64 hi])) ((w1.setCell ⟨g, 0, none⟩ (.float .f64 lo)).setCell ⟨g, 1, none⟩ (.float .f64 hi))) ∧
    ((w1.setCell ⟨g, 0, none⟩ (.float .f64 lo)).setCell ⟨g, 1, none⟩ (.float .f64 hi)).heap[g]? = some (.cells #[.float .f64 lo, .float .f64 hi] T (0, 0)) :=
  ⟨Lib.hid ⟨(hb.setCell hg _).setCell hg _, lo, hi, rfl, h⟩, set2 hw _ _⟩
theorem gall (X : Int) : GapS allLo allHi X := gap_all X
set_option maxHeartbeats 1600000 in
/-- All: the two infinite ends -/
theorem all_any {w : World} : Calls Tryz.prog 143 #[] w (fun e w' => e = .returned (.agg #[.float .f64 allLo, .float .f64 allHi]) ∧ Below w.heap.size w w') := by
  obtain ⟨w1, hw1, hb1, hs1, b1⟩ := pro1 w (.cells #[.float .f64 0, .float .f64 0] 160)
  have HB := Lib.hid hb1; have B1 := Lib.hid b1
  obtain ⟨c0, c1, c2, c3⟩ := cells2 b1
  have I1 := Lib.hid (inf_any (w := w1) true); have I2 := Lib.hid (inf_any (w := w1) false)
  have HS := retg_store (X := 0) hb1 (Nat.le_refl _) b1 (gall 0)
  have HFF := HS.1; have hFF := Lib.hid HS.2
  clear hb1 b1 HS
  simp only [dirOf, Bool.false_eq_true, if_false, if_true] at I1 I2
  have hst := store_float
  go_enter Tryz.func143, Tryz.ntmps143
  go_wp2_with fail
  refine I2.out.mono ?_
  rintro e w2 ⟨rfl, hw⟩
  obtain rfl := hw
  go_wp2_with fail
  refine I1.out.mono ?_
  rintro e w2 ⟨rfl, hw⟩
  obtain rfl := hw
  go_wp2
  obtain ⟨f0, f1, -, -⟩ := cells2 hFF.out
  refine bodyPost_ret (v := .agg #[_, _]) (by simp [results, Tryz.results143, go_sem, f0, f1]; first | exact ⟨rfl, rfl⟩ | rfl) rfl ?_
  exact ⟨rfl, HFF.out.1⟩
end Go.Proofs.YtgodkfgnhpnhcaaGreatDoor
namespace Go.Proofs.YtgodkfgnhpnhcaaGreatDoor
open Go.RowKit
def minW (x y : Nat) : Nat := if sr x < sr y then x else if sr y < sr x then y else if (FloatKind.f64.decode x).neg then x else y
def maxW (x y : Nat) : Nat := if sr y < sr x then x else if sr x < sr y then y else if (FloatKind.f64.decode x).neg then y else x
theorem minW_spec (x y : Nat) : sr (minW x y) ≤ sr x ∧ sr (minW x y) ≤ sr y ∧ (minW x y = x ∨ minW x y = y) := by
  unfold minW
  split
  · exact ⟨by omega, by omega, Or.inl rfl⟩
  · split
    · exact ⟨by omega, by omega, Or.inr rfl⟩
    · split
      · exact ⟨by omega, by omega, Or.inl rfl⟩
      · exact ⟨by omega, by omega, Or.inr rfl⟩
theorem maxW_spec (x y : Nat) : sr x ≤ sr (maxW x y) ∧ sr y ≤ sr (maxW x y) ∧ (maxW x y = x ∨ maxW x y = y) := by
  unfold maxW
  split
  · exact ⟨by omega, by omega, Or.inl rfl⟩
  · split
    · exact ⟨by omega, by omega, Or.inr rfl⟩
    · split
      · exact ⟨by omega, by omega, Or.inr rfl⟩
      · exact ⟨by omega, by omega, Or.inl rfl⟩
theorem min2_run {P : Program} {x y : Nat} (hx : num x) (hy : num y) (w : World) : (Builtin.min2 (.float .f64 x) (.float .f64 y)).run P w = .ok (.float .f64 (minW x y)) w := by
  unfold Builtin.min2
  simp only [ord_num hx hy]
  unfold minW
  rcases Int.lt_trichotomy (sr x) (sr y) with h | h | h
  · rw [Int.compare_eq_lt.2 h, if_pos h]; rfl
  · rw [Int.compare_eq_eq.2 h, if_neg (show ¬ sr x < sr y by omega), if_neg (show ¬ sr y < sr x by omega)]; rfl
  · rw [Int.compare_eq_gt.2 h, if_neg (show ¬ sr x < sr y by omega), if_pos h]; rfl
theorem max2_run {P : Program} {x y : Nat} (hx : num x) (hy : num y) (w : World) : (Builtin.max2 (.float .f64 x) (.float .f64 y)).run P w = .ok (.float .f64 (maxW x y)) w := by
  unfold Builtin.max2
  simp only [ord_num hx hy]
  unfold maxW
  rcases Int.lt_trichotomy (sr x) (sr y) with h | h | h
  · rw [Int.compare_eq_lt.2 h, if_neg (show ¬ sr y < sr x by omega), if_pos h]; rfl
  · rw [Int.compare_eq_eq.2 h, if_neg (show ¬ sr y < sr x by omega), if_neg (show ¬ sr x < sr y by omega)]; rfl
  · rw [Int.compare_eq_gt.2 h, if_pos h]; rfl
theorem minW_num {x y : Nat} (hx : num x) (hy : num y) : num (minW x y) := by rcases (minW_spec x y).2.2 with h | h <;> rw [h] <;> assumption
theorem maxW_num {x y : Nat} (hx : num x) (hy : num y) : num (maxW x y) := by rcases (maxW_spec x y).2.2 with h | h <;> rw [h] <;> assumption
theorem min4_run {P : Program} {w x y z : Nat} (hw : num w) (hx : num x) (hy : num y) (hz : num z) (ts : Array TypeId) (t : TypeId) (W : World) :
    (Builtin.min_ ts t #[.float .f64 w, .float .f64 x, .float .f64 y, .float .f64 z]).run P W = .ok (.float .f64 (minW (minW (minW w x) y) z)) W := by
  unfold Builtin.min_
  simp only [List.foldlM_cons, List.foldlM_nil, Sem.run_bind, min2_run hw hx, Result.andThen_ok, min2_run (minW_num hw hx) hy, min2_run (minW_num (minW_num hw hx) hy) hz, Sem.run_pure]
theorem max4_run {P : Program} {w x y z : Nat} (hw : num w) (hx : num x) (hy : num y) (hz : num z) (ts : Array TypeId) (t : TypeId) (W : World) :
    (Builtin.max_ ts t #[.float .f64 w, .float .f64 x, .float .f64 y, .float .f64 z]).run P W = .ok (.float .f64 (maxW (maxW (maxW w x) y) z)) W := by
  unfold Builtin.max_
  simp only [List.foldlM_cons, List.foldlM_nil, Sem.run_bind, max2_run hw hx, Result.andThen_ok, max2_run (maxW_num hw hx) hy, max2_run (maxW_num (maxW_num hw hx) hy) hz, Sem.run_pure]
theorem least4_min (w x y z : Nat) : Least4 (minW (minW (minW w x) y) z) w x y z := by
  obtain ⟨a1, a2, a3⟩ := minW_spec w x
  obtain ⟨b1, b2, b3⟩ := minW_spec (minW w x) y
  obtain ⟨c1, c2, c3⟩ := minW_spec (minW (minW w x) y) z
  refine ⟨by omega, by omega, by omega, by omega, ?_⟩
  rcases c3 with h | h <;> rw [h]
  · rcases b3 with h | h <;> rw [h]
    · rcases a3 with h | h <;> rw [h] <;> simp
    · simp
  · simp
theorem great4_max (w x y z : Nat) : Great4 (maxW (maxW (maxW w x) y) z) w x y z := by
  obtain ⟨a1, a2, a3⟩ := maxW_spec w x
  obtain ⟨b1, b2, b3⟩ := maxW_spec (maxW w x) y
  obtain ⟨c1, c2, c3⟩ := maxW_spec (maxW (maxW w x) y) z
  refine ⟨by omega, by omega, by omega, by omega, ?_⟩
  rcases c3 with h | h <;> rw [h]
  · rcases b3 with h | h <;> rw [h]
    · rcases a3 with h | h <;> rw [h] <;> simp
    · simp
  · simp
set_option maxHeartbeats 1600000 in
theorem gapAt_any {v : Nat} {w : World} (hv : v < 18446744073709551616) : Calls Tryz.prog 184 #[.float .f64 v] w (RetG w (fv v)) := by
  obtain ⟨w1, hw1, hb1, hs1, b1⟩ := pro1 w (.cells #[.float .f64 0, .float .f64 0] 160)
  have HB := Lib.hid hb1; have B1 := Lib.hid b1
  obtain ⟨c0, c1, c2, c3⟩ := cells2 b1
  have F1 := Lib.hid (finite_any (b := v) (w := w1) hv)
  have hst := store_float
  by_cases k : fin v
  · rw [decide_eq_true k] at F1
    obtain ⟨HFF, hFF⟩ := retg_store hb1 (Nat.le_refl _) b1 (gap_at hv)
    replace hFF := Lib.hid hFF
    clear hb1 b1 k hv
    go_enter Tryz.func184, Tryz.ntmps184
    go_wp2_with fail
    refine F1.out.mono ?_
    rintro e w2 ⟨rfl, hw⟩
    obtain rfl := hw
    go_wp2
    obtain ⟨f0, f1, -, -⟩ := cells2 hFF.out
    refine bodyPost_ret (v := .agg #[_, _]) (by simp [results, Tryz.results184, go_sem, f0, f1]; first | exact ⟨rfl, rfl⟩ | rfl) rfl ?_
    exact HFF.out
  · rw [decide_eq_false k] at F1
    clear hb1 b1 k hv
    go_enter Tryz.func184, Tryz.ntmps184
    go_wp2_with fail
    refine F1.out.mono ?_
    rintro e w2 ⟨rfl, hw⟩
    obtain rfl := hw
    go_wp2_with fail
    refine all_any.mono ?_
    rintro e w2 ⟨rfl, hb⟩
    have hb2 := HB.out.trans (hb.mono HB.out.size)
    have b12 := heap_below B1.out hb (heap_lt B1.out)
    have g1 := cell_below c1 hb (Nat.le_refl _)
    obtain ⟨g0, g1, g2, g3⟩ := cells2 b12
    obtain ⟨HFF, hFF⟩ := retg_store hb2 (Nat.le_refl _) b12 (gall (fv v))
    replace hFF := Lib.hid hFF
    clear hb hb2 b12 c0 c1 c2 c3 hw1
    go_wp2
    obtain ⟨f0, f1, -, -⟩ := cells2 hFF.out
    refine bodyPost_ret (v := .agg #[_, _]) (by simp [results, Tryz.results184, go_sem, f0, f1]; first | exact ⟨rfl, rfl⟩ | rfl) rfl ?_
    exact HFF.out
set_option maxHeartbeats 1600000 in
theorem around_any {lo hi : Nat} {X : Int} {w : World} (h : AroundOk lo hi X) : Calls Tryz.prog 222 #[.float .f64 lo, .float .f64 hi] w (RetG w X) := by
  have hg := around_ok h
  obtain ⟨h1, h2, n1, n2, -, -⟩ := h
  obtain ⟨w1, hw1, hb1, hs1, b1⟩ := pro1 w (.cells #[.float .f64 0, .float .f64 0] 160)
  obtain ⟨w2, hw2, hb2, hs2, b2⟩ := pro1 w1 (.cells #[.float .f64 0, .float .f64 0] 160)
  rw [hs1] at b2
  have S1 := Lib.hid (step_any (w := w1) h1 n1 false); have S2 := Lib.hid (step_any (w := w1) h2 n2 true)
  simp only [dirOf, Bool.false_eq_true, if_false, if_true] at S1 S2
  have hst := store_float
  have HG := Lib.hid hg
  generalize stepW lo false = lo' at *
  generalize stepW hi true = hi' at *
  clear h1 h2 n1 n2
  obtain ⟨c0, c1, c2, c3⟩ := cells2 b2
  have b3 := set2 b2 (.float .f64 lo') (.float .f64 hi')
  have e1 : ((w2.setCell ⟨w.heap.size + 1, 0, none⟩ (.float .f64 lo')).setCell ⟨w.heap.size + 1, 1, none⟩ (.float .f64 hi')).heap[w.heap.size]? = some (.cells #[.float .f64 0, .float .f64 0] 160 (0, 0)) := by
    rw [Below.heap_setCell _ _ _ _ (by simp), Below.heap_setCell _ _ _ _ (by simp)]
    exact heap_below b1 hb2 (by omega)
  have HBS : Hid (Below w.heap.size w ((w2.setCell ⟨w.heap.size + 1, 0, none⟩ (.float .f64 lo')).setCell ⟨w.heap.size + 1, 1, none⟩ (.float .f64 hi'))) := Lib.hid (((hb1.trans (hb2.mono hb1.size)).setCell (by simp) _).setCell (by simp) _)
  have HE1 := Lib.hid e1; have HB3 := Lib.hid b3
  clear b3 e1 hb1 hb2 b1 b2 hg
  go_enter Tryz.func222, Tryz.ntmps222
  go_wp2_with fail
  refine S1.out.mono ?_
  rintro e w3 ⟨rfl, hw⟩
  obtain rfl := hw
  go_wp2_with fail
  refine S2.out.mono ?_
  rintro e w3 ⟨rfl, hw⟩
  obtain rfl := hw
  go_wp2_with fail
  refine (known_any HG.out.1 HG.out.2.1).mono ?_
  rintro e w3 ⟨rfl, hb⟩
  have HB5 := Lib.hid (HBS.out.trans (hb.mono HBS.out.size))
  have HE5 := Lib.hid (heap_below HE1.out hb (heap_lt HE1.out)); have HB6 := Lib.hid (heap_below HB3.out hb (heap_lt HB3.out))
  clear hb HE1 HB3 HBS c0 c1 c2 c3 hw1 hw2
  by_cases k : knownW lo' hi'
  · rw [decide_eq_true k]
    obtain ⟨c0, c1, -, -⟩ := cells2 HB6.out
    obtain ⟨d0, d1, d2, d3⟩ := cells2 HE5.out
    obtain ⟨HFF, hFF⟩ := retg_store HB5.out (Nat.le_refl _) HE5.out HG.out
    replace hFF := Lib.hid hFF
    clear k
    go_wp2
    obtain ⟨f0, f1, -, -⟩ := cells2 hFF.out
    refine bodyPost_ret (v := .agg #[_, _]) (by simp [results, Tryz.results222, go_sem, f0, f1]; first | exact ⟨rfl, rfl⟩ | rfl) rfl ?_
    exact HFF.out
  · rw [decide_eq_false k]
    clear k
    go_wp2_with fail
    refine all_any.mono ?_
    rintro e w4 ⟨rfl, hb⟩
    have b12 := heap_below HE5.out hb (heap_lt HE5.out)
    obtain ⟨d0, d1, d2, d3⟩ := cells2 b12
    obtain ⟨HFF, hFF⟩ := retg_store (HB5.out.trans (hb.mono HB5.out.size)) (Nat.le_refl _) b12 (gall X)
    replace hFF := Lib.hid hFF
    clear hb b12
    go_wp2
    obtain ⟨f0, f1, -, -⟩ := cells2 hFF.out
    refine bodyPost_ret (v := .agg #[_, _]) (by simp [results, Tryz.results222, go_sem, f0, f1]; first | exact ⟨rfl, rfl⟩ | rfl) rfl ?_
    exact HFF.out
set_option maxHeartbeats 1600000 in
theorem unknown_any {a b c d : Nat} {w : World} (h1 : a < 18446744073709551616) (h2 : b < 18446744073709551616) (h3 : c < 18446744073709551616) (h4 : d < 18446744073709551616) :
    Calls Tryz.prog 221 #[gv a b, gv c d] w (RetW w (!(decide (knownW a b) && decide (knownW c d)))) := by
  obtain ⟨w2, hw2, hb2, hs2, b1, b2⟩ := pro2 w (.cells #[.float .f64 a, .float .f64 b] 160) (.cells #[.float .f64 c, .float .f64 d] 160)
  obtain ⟨c0, c1, -, -⟩ := cells2 b1
  obtain ⟨d0, d1, -, -⟩ := cells2 b2
  have HB := Lib.hid hb2
  have K1 := Lib.hid (known_any (w := w2) h1 h2)
  have K2 : Hid (∀ w3, Calls Tryz.prog 133 #[gv c d] w3 (RetW w3 (decide (knownW c d)))) := Lib.hid fun w3 => known_any h3 h4
  clear hb2 b1 b2 hs2 h1 h2 h3 h4
  unfold gv at *
  generalize decide (knownW a b) = r1 at *
  generalize decide (knownW c d) = r2 at *
  cases r1
  · go_enter Tryz.func221, Tryz.ntmps221
    go_wp2_with fail
    refine K1.out.mono ?_
    rintro e w3 ⟨rfl, hb⟩
    have HF : Hid (RetW w true (.returned (.bool true)) w3) := Lib.hid ⟨rfl, HB.out.trans (hb.mono HB.out.size)⟩
    clear hb hw2
    go_wp2
    go_ret
    exact HF.out
  · go_enter Tryz.func221, Tryz.ntmps221
    go_wp2_with fail
    refine K1.out.mono ?_
    rintro e w3 ⟨rfl, hb⟩
    replace HB := Lib.hid (HB.out.trans (hb.mono HB.out.size))
    replace d0 := cell_below d0 hb (Nat.le_refl _); replace d1 := cell_below d1 hb (Nat.le_refl _)
    clear hb hw2 c0 c1
    go_wp2_with fail
    refine (K2.out w3).mono ?_
    rintro e w4 ⟨rfl, hb⟩
    cases r2
    · have HF : Hid (RetW w true (.returned (.bool true)) w4) := Lib.hid ⟨rfl, HB.out.trans (hb.mono HB.out.size)⟩
      clear hb
      go_wp2
      go_ret
      exact HF.out
    · have HF : Hid (RetW w false (.returned (.bool false)) w4) := Lib.hid ⟨rfl, HB.out.trans (hb.mono HB.out.size)⟩
      clear hb
      go_wp2
      go_ret
      exact HF.out
end Go.Proofs.YtgodkfgnhpnhcaaGreatDoor
namespace Go.Proofs.YtgodkfgnhpnhcaaGreatDoor
open Go.RowKit
set_option maxHeartbeats 3200000 in
theorem gadd_any {a b c d : Nat} {X Y : Int} {w : World} (h1 : GapS a b X) (h2 : GapS c d Y) :
    Calls Tryz.prog 185 #[gv a b, gv c d] w (RetG w (X + Y)) := by
  obtain ⟨w3, hw3, hb3, hs3, b1, b2, b3⟩ := pro3 w (.cells #[.float .f64 a, .float .f64 b] 160) (.cells #[.float .f64 c, .float .f64 d] 160) (.cells #[.float .f64 0, .float .f64 0] 160)
  have HB := Lib.hid hb3; have B1 := Lib.hid b1; have B2 := Lib.hid b2; have B3 := Lib.hid b3; have HS := Lib.hid hs3
  obtain ⟨c0, c1, -, -⟩ := cells2 b1
  obtain ⟨d0, d1, -, -⟩ := cells2 b2
  have hst := store_float
  have HU := Lib.hid (unknown_any (w := w3) h1.1 h1.2.1 h2.1 h2.2.1)
  have H1 := Lib.hid h1; have H2 := Lib.hid h2
  clear hb3 b1 b2 b3 hs3 h1 h2
  unfold gv at *
  by_cases k : knownW a b ∧ knownW c d
  · rw [decide_eq_true k.1, decide_eq_true k.2] at HU
    obtain ⟨r, hr, br, nr⟩ := add_near k.1.1 k.2.1
    obtain ⟨s, hs, bs, ns⟩ := add_near k.1.2.1 k.2.2.1
    have HA := Lib.hid (around_add (H1.out.2.2 k.1) (H2.out.2.2 k.2) br bs nr ns)
    have ha : ∀ t w, (binOp .add t (.float .f64 a) (.float .f64 c)).run Tryz.prog w = .ok (.float .f64 r) w := fun t w => run_float_arith w .add t .f64 a c r hr
    have hb : ∀ t w, (binOp .add t (.float .f64 b) (.float .f64 d)).run Tryz.prog w = .ok (.float .f64 s) w := fun t w => run_float_arith w .add t .f64 b d s hs
    clear k hr br nr hs bs ns
    go_enter Tryz.func185, Tryz.ntmps185
    go_wp2_with fail
    refine HU.out.mono ?_
    rintro e w4 ⟨rfl, hb4⟩
    replace HB := Lib.hid (HB.out.trans (hb4.mono HB.out.size))
    replace B3 := Lib.hid (heap_below B3.out hb4 (heap_lt B3.out))
    replace c0 := cell_below c0 hb4 (Nat.le_refl _); replace c1 := cell_below c1 hb4 (Nat.le_refl _)
    replace d0 := cell_below d0 hb4 (Nat.le_refl _); replace d1 := cell_below d1 hb4 (Nat.le_refl _)
    clear hb4 hw3 B1 B2
    go_wp2_with (simp only [ha, hb])
    refine (around_any HA.out).mono ?_
    rintro e w5 ⟨hb5, lo, hi, rfl, hg⟩
    have b3 := heap_below B3.out hb5 (heap_lt B3.out)
    obtain ⟨e0, e1, e2, e3⟩ := cells2 b3
    obtain ⟨HFF, hFF⟩ := retg_store (HB.out.trans (hb5.mono HB.out.size)) (by omega) b3 hg
    replace hFF := Lib.hid hFF
    clear hb5 b3 hg c0 c1 d0 d1
    unfold gv
    go_wp2
    obtain ⟨f0, f1, -, -⟩ := cells2 hFF.out
    refine bodyPost_ret (v := .agg #[_, _]) (by simp [results, Tryz.results185, go_sem, f0, f1]; first | exact ⟨rfl, rfl⟩ | rfl) rfl ?_
    exact HFF.out
  · have hk : (!(decide (knownW a b) && decide (knownW c d))) = true := by
      rw [← Bool.decide_and, decide_eq_false k]; rfl
    rw [hk] at HU
    clear hk k
    go_enter Tryz.func185, Tryz.ntmps185
    go_wp2_with fail
    refine HU.out.mono ?_
    rintro e w4 ⟨rfl, hb4⟩
    replace HB := Lib.hid (HB.out.trans (hb4.mono HB.out.size))
    replace B3 := Lib.hid (heap_below B3.out hb4 (heap_lt B3.out))
    clear hb4 hw3 B1 B2 c0 c1 d0 d1
    go_wp2_with fail
    refine all_any.mono ?_
    rintro e w5 ⟨rfl, hb5⟩
    have b3 := heap_below B3.out hb5 (heap_lt B3.out)
    obtain ⟨e0, e1, e2, e3⟩ := cells2 b3
    obtain ⟨HFF, hFF⟩ := retg_store (HB.out.trans (hb5.mono HB.out.size)) (by omega) b3 (gall (X + Y))
    replace hFF := Lib.hid hFF
    clear hb5 b3
    go_wp2
    obtain ⟨f0, f1, -, -⟩ := cells2 hFF.out
    refine bodyPost_ret (v := .agg #[_, _]) (by simp [results, Tryz.results185, go_sem, f0, f1]; first | exact ⟨rfl, rfl⟩ | rfl) rfl ?_
    exact HFF.out
set_option maxHeartbeats 3200000 in
set_option maxRecDepth 100000 in
theorem gmul_any {a b c d : Nat} {X Y Z : Int} {w : World} (h1 : GapS a b X) (h2 : GapS c d Y) (hZ : Z * (U74 : Int) = X * Y) :
    Calls Tryz.prog 186 #[gv a b, gv c d] w (RetG w Z) := by
  obtain ⟨w3, hw3, hb3, hs3, b1, b2, b3⟩ := pro3 w (.cells #[.float .f64 a, .float .f64 b] 160) (.cells #[.float .f64 c, .float .f64 d] 160) (.cells #[.float .f64 0, .float .f64 0] 160)
  have HB := Lib.hid hb3; have B1 := Lib.hid b1; have B2 := Lib.hid b2; have B3 := Lib.hid b3; have HS := Lib.hid hs3
  obtain ⟨c0, c1, -, -⟩ := cells2 b1
  obtain ⟨d0, d1, -, -⟩ := cells2 b2
  have hst := store_float
  have HU := Lib.hid (unknown_any (w := w3) h1.1 h1.2.1 h2.1 h2.2.1)
  have H1 := Lib.hid h1; have H2 := Lib.hid h2; have HZ := Lib.hid hZ
  clear hb3 b1 b2 b3 hs3 h1 h2 hZ
  unfold gv at *
  by_cases k : knownW a b ∧ knownW c d
  · rw [decide_eq_true k.1, decide_eq_true k.2] at HU
    obtain ⟨r1, hr1, br1, nr1⟩ := mul_near k.1.1 k.2.1
    obtain ⟨r2, hr2, br2, nr2⟩ := mul_near k.1.1 k.2.2.1
    obtain ⟨r3, hr3, br3, nr3⟩ := mul_near k.1.2.1 k.2.1
    obtain ⟨r4, hr4, br4, nr4⟩ := mul_near k.1.2.1 k.2.2.1
    have HA := Lib.hid (around_mul (H1.out.2.2 k.1) (H2.out.2.2 k.2) br1 br2 br3 br4 nr1 nr2 nr3 nr4 (least4_min r1 r2 r3 r4) (great4_max r1 r2 r3 r4) HZ.out)
    have m1 : ∀ t w, (binOp .mul t (.float .f64 a) (.float .f64 c)).run Tryz.prog w = .ok (.float .f64 r1) w := fun t w => run_float_arith w .mul t .f64 a c r1 hr1
    have m2 : ∀ t w, (binOp .mul t (.float .f64 a) (.float .f64 d)).run Tryz.prog w = .ok (.float .f64 r2) w := fun t w => run_float_arith w .mul t .f64 a d r2 hr2
    have m3 : ∀ t w, (binOp .mul t (.float .f64 b) (.float .f64 c)).run Tryz.prog w = .ok (.float .f64 r3) w := fun t w => run_float_arith w .mul t .f64 b c r3 hr3
    have m4 : ∀ t w, (binOp .mul t (.float .f64 b) (.float .f64 d)).run Tryz.prog w = .ok (.float .f64 r4) w := fun t w => run_float_arith w .mul t .f64 b d r4 hr4
    have hmin := fun ts t W => min4_run (P := Tryz.prog) nr1.1 nr2.1 nr3.1 nr4.1 ts t W
    have hmax := fun ts t W => max4_run (P := Tryz.prog) nr1.1 nr2.1 nr3.1 nr4.1 ts t W
    clear k hr1 br1 nr1 hr2 br2 nr2 hr3 br3 nr3 hr4 br4 nr4
    generalize minW (minW (minW r1 r2) r3) r4 = mi at *
    generalize maxW (maxW (maxW r1 r2) r3) r4 = ma at *
    go_enter Tryz.func186, Tryz.ntmps186
    go_wp2_with fail
    refine HU.out.mono ?_
    rintro e w4 ⟨rfl, hb4⟩
    replace HB := Lib.hid (HB.out.trans (hb4.mono HB.out.size))
    replace B3 := Lib.hid (heap_below B3.out hb4 (heap_lt B3.out))
    replace c0 := cell_below c0 hb4 (Nat.le_refl _); replace c1 := cell_below c1 hb4 (Nat.le_refl _)
    replace d0 := cell_below d0 hb4 (Nat.le_refl _); replace d1 := cell_below d1 hb4 (Nat.le_refl _)
    clear hb4 hw3 B1 B2
    go_wp2_with fail
    go_quiet (simp only [m1, m2, m3, m4])
    replace HB := Lib.hid (HB.out.trans ((below_drewN w4 nq).mono HB.out.size))
    replace B3 := Lib.hid (heap_below B3.out (below_drewN w4 nq) (heap_lt B3.out))
    go_wp2_with (simp only [hmin, hmax])
    refine (around_any HA.out).mono ?_
    rintro e w5 ⟨hb5, lo, hi, rfl, hg⟩
    have b3 := heap_below B3.out hb5 (heap_lt B3.out)
    obtain ⟨e0, e1, e2, e3⟩ := cells2 b3
    obtain ⟨HFF, hFF⟩ := retg_store (HB.out.trans (hb5.mono HB.out.size)) (by omega) b3 hg
    replace hFF := Lib.hid hFF
    clear hb5 b3 hg c0 c1 d0 d1
    unfold gv
    go_wp2
    obtain ⟨f0, f1, -, -⟩ := cells2 hFF.out
    refine bodyPost_ret (v := .agg #[_, _]) (by simp [results, Tryz.results186, go_sem, f0, f1]; first | exact ⟨rfl, rfl⟩ | rfl) rfl ?_
    exact HFF.out
  · have hk : (!(decide (knownW a b) && decide (knownW c d))) = true := by
      rw [← Bool.decide_and, decide_eq_false k]; rfl
    rw [hk] at HU
    clear hk k
    go_enter Tryz.func186, Tryz.ntmps186
    go_wp2_with fail
    refine HU.out.mono ?_
    rintro e w4 ⟨rfl, hb4⟩
    replace HB := Lib.hid (HB.out.trans (hb4.mono HB.out.size))
    replace B3 := Lib.hid (heap_below B3.out hb4 (heap_lt B3.out))
    clear hb4 hw3 B1 B2 c0 c1 d0 d1
    go_wp2_with fail
    refine all_any.mono ?_
    rintro e w5 ⟨rfl, hb5⟩
    have b3 := heap_below B3.out hb5 (heap_lt B3.out)
    obtain ⟨e0, e1, e2, e3⟩ := cells2 b3
    obtain ⟨HFF, hFF⟩ := retg_store (HB.out.trans (hb5.mono HB.out.size)) (by omega) b3 (gall Z)
    replace hFF := Lib.hid hFF
    clear hb5 b3
    go_wp2
    obtain ⟨f0, f1, -, -⟩ := cells2 hFF.out
    refine bodyPost_ret (v := .agg #[_, _]) (by simp [results, Tryz.results186, go_sem, f0, f1]; first | exact ⟨rfl, rfl⟩ | rfl) rfl ?_
    exact HFF.out
end Go.Proofs.YtgodkfgnhpnhcaaGreatDoor
namespace Go.Proofs.YtgodkfgnhpnhcaaGreatDoor
open Go.RowKit
/-- a node of a dag -/
structure Nd where
  kind : Int
  val : Nat
  a : Int
  b : Int
deriving DecidableEq
def nodeV (n : Nd) : Value := .agg #[.int .i64 n.kind, .float .f64 n.val, .int .i64 n.a, .int .i64 n.b]
/-- the value of a node, in units of 2^-1074, from those of its operands -/
def nodeVal (n : Nd) (X Y Z : Int) : Prop :=
  (n.kind = 0 ∧ Z = fv n.val) ∨ (n.kind = 1 ∧ Z = X + Y) ∨ (n.kind = 2 ∧ Z = X - Y) ∨ (n.kind = 3 ∧ Z * (U74 : Int) = X * Y)
theorem fv_neg {b : Nat} (hb : b < 2 ^ 64) : fv (b ^^^ 2 ^ 63) = -fv b := by
  unfold fv; rw [(neg_word hb).2.2, fvr_neg]
theorem gap_neg {lo hi : Nat} {X : Int} (h : GapS lo hi X) : GapS (hi ^^^ 2 ^ 63) (lo ^^^ 2 ^ 63) (-X) := by
  obtain ⟨h1, h2, h3⟩ := h
  obtain ⟨a1, a2, a3⟩ := neg_word h1
  obtain ⟨b1, b2, b3⟩ := neg_word h2
  refine ⟨b1, a1, fun k => ?_⟩
  rw [fv_neg h1, fv_neg h2]
  obtain ⟨k1, k2, k3⟩ := k
  have := h3 ⟨by unfold fin at *; rw [← a2]; exact k2, by unfold fin at *; rw [← b2]; exact k1, by rw [a3, b3] at k3; omega⟩
  omega
theorem cells4 {w : World} {g : Nat} {T : TypeId} {a b c d : Value} (h : w.heap[g]? = some (.cells #[a, b, c, d] T (0, 0))) :
    w.cell? ⟨g, 0, none⟩ = some a ∧ w.cell? ⟨g, 1, none⟩ = some b ∧ w.cell? ⟨g, 2, none⟩ = some c ∧ w.cell? ⟨g, 3, none⟩ = some d := by
  refine ⟨?_, ?_, ?_, ?_⟩ <;> simp [World.cell?, h]
theorem pro4 (w : World) (o1 o2 o3 o4 : Obj) : ∃ w4, (((w.alloc o1).alloc o2).alloc o3).alloc o4 = w4 ∧ Below w.heap.size w w4 ∧ w4.heap.size = w.heap.size + 4 ∧ w4.heap[w.heap.size]? = some o1 ∧ w4.heap[w.heap.size + 1]? = some o2 ∧ w4.heap[w.heap.size + 2]? = some o3 ∧ w4.heap[w.heap.size + 3]? = some o4 := by
  obtain ⟨w3, rfl, hb, hs, h1, h2, h3⟩ := pro3 w o1 o2 o3
  refine ⟨_, rfl, hb.alloc (by omega) _, by simp, ?_, ?_, ?_, ?_⟩
  · exact heap_below h1 (below_alloc _ o4) (by omega)
  · exact heap_below h2 (below_alloc _ o4) (by omega)
  · exact heap_below h3 (below_alloc _ o4) (by omega)
  · have := heap_alloc_new (((w.alloc o1).alloc o2).alloc o3) o4; simpa using this
set_option maxHeartbeats 3200000 in
theorem gcombine_any {n : Nd} {a b c d : Nat} {X Y Z : Int} {w : World} (hn : n.val < 18446744073709551616) (h1 : GapS a b X) (h2 : GapS c d Y) (hZ : nodeVal n X Y Z) :
    Calls Tryz.prog 153 #[nodeV n, gv a b, gv c d] w (RetG w Z) := by
  obtain ⟨kind, val, na, nb⟩ := n
  simp only [nodeVal] at hZ hn
  unfold nodeV
  obtain ⟨w4, hw4, hb4, hs4, b1, b2, b3, b4⟩ := pro4 w (.cells #[.int .i64 kind, .float .f64 val, .int .i64 na, .int .i64 nb] 122) (.cells #[.float .f64 a, .float .f64 b] 160) (.cells #[.float .f64 c, .float .f64 d] 160) (.cells #[.float .f64 0, .float .f64 0] 160)
  have HB := Lib.hid hb4; have B1 := Lib.hid b1; have B2 := Lib.hid b2; have B3 := Lib.hid b3; have B4 := Lib.hid b4; have HS := Lib.hid hs4
  obtain ⟨k0, k1, k2, k3⟩ := cells4 b1
  obtain ⟨c0, c1, -, -⟩ := cells2 b2
  obtain ⟨d0, d1, d2, d3⟩ := cells2 b3
  obtain ⟨e0, e1, e2, e3⟩ := cells2 b4
  have hst := store_float
  have H1 := Lib.hid h1; have H2 := Lib.hid h2
  have fin4 : ∀ (w5 : World), Below w4.heap.size w4 w5 → ∀ (lo hi : Nat), GapS lo hi Z → Hid (RetG w Z (.returned (.agg #[.float .f64 lo, .float .f64 hi])) ((w5.setCell ⟨w.heap.size + 3, 0, none⟩ (.float .f64 lo)).setCell ⟨w.heap.size + 3, 1, none⟩ (.float .f64 hi))) ∧
      ((w5.setCell ⟨w.heap.size + 3, 0, none⟩ (.float .f64 lo)).setCell ⟨w.heap.size + 3, 1, none⟩ (.float .f64 hi)).heap[w.heap.size + 3]? = some (.cells #[.float .f64 lo, .float .f64 hi] 160 (0, 0)) ∧
      (w5.cell? ⟨w.heap.size + 3, 0, none⟩ = some (.float .f64 0) ∧ w5.cell? ⟨w.heap.size + 3, 1, none⟩ = some (.float .f64 0) ∧ w5.frozen? ⟨w.heap.size + 3, 0, none⟩ = false ∧ w5.frozen? ⟨w.heap.size + 3, 1, none⟩ = false) := by
    intro w5 h5 lo hi hg
    have b45 := heap_below B4.out h5 (heap_lt B4.out)
    obtain ⟨r1, r2⟩ := retg_store (HB.out.trans (h5.mono HB.out.size)) (by omega) b45 hg
    exact ⟨r1, r2, cells2 b45⟩
  have FIN := Lib.hid fin4
  clear fin4 hb4 b1 b2 b3 b4 hs4 h1 h2
  unfold gv at *
  rcases hZ with ⟨rfl, hZ⟩ | ⟨rfl, hZ⟩ | ⟨rfl, hZ⟩ | ⟨rfl, hZ⟩
  · have HC := Lib.hid (gapAt_any (w := w4) hn)
    rw [← hZ] at HC
    clear hZ hn
    go_enter Tryz.func153, Tryz.ntmps153
    go_wp2_with fail
    refine HC.out.mono ?_
    rintro e w5 ⟨hb5, lo, hi, rfl, hg⟩
    obtain ⟨HFF, hFF, f0, f1, f2, f3⟩ := FIN.out _ hb5 _ _ hg
    replace hFF := Lib.hid hFF
    clear hb5 hg c0 c1 d0 d1 d2 d3 e0 e1 e2 e3 k0 k1 k2 k3 hw4
    unfold gv
    go_wp2
    obtain ⟨f0, f1, -, -⟩ := cells2 hFF.out
    refine bodyPost_ret (v := .agg #[_, _]) (by simp [results, Tryz.results153, go_sem, f0, f1]; first | exact ⟨rfl, rfl⟩ | rfl) rfl ?_
    exact HFF.out
  · have HC := Lib.hid (gadd_any (w := w4) H1.out H2.out)
    rw [← hZ] at HC
    clear hZ hn
    unfold gv at HC
    go_enter Tryz.func153, Tryz.ntmps153
    go_wp2_with fail
    refine HC.out.mono ?_
    rintro e w5 ⟨hb5, lo, hi, rfl, hg⟩
    obtain ⟨HFF, hFF, f0, f1, f2, f3⟩ := FIN.out _ hb5 _ _ hg
    replace hFF := Lib.hid hFF
    clear hb5 hg c0 c1 d0 d1 d2 d3 e0 e1 e2 e3 k0 k1 k2 k3 hw4
    unfold gv
    go_wp2
    obtain ⟨f0, f1, -, -⟩ := cells2 hFF.out
    refine bodyPost_ret (v := .agg #[_, _]) (by simp [results, Tryz.results153, go_sem, f0, f1]; first | exact ⟨rfl, rfl⟩ | rfl) rfl ?_
    exact HFF.out
  · have hneg := negf_run
    have b3' := set2 B3.out (.float .f64 (Op.negFloat .f64 d)) (.float .f64 (Op.negFloat .f64 c))
    have hne : ∀ {i : Nat}, i ≠ w.heap.size + 2 → ((w4.setCell ⟨w.heap.size + 2, 0, none⟩ (.float .f64 (Op.negFloat .f64 d))).setCell ⟨w.heap.size + 2, 1, none⟩ (.float .f64 (Op.negFloat .f64 c))).heap[i]? = w4.heap[i]? := by
      intro i hi
      rw [Below.heap_setCell _ _ _ _ (by simp; omega), Below.heap_setCell _ _ _ _ (by simp; omega)]
    have b2' := (hne (i := w.heap.size + 1) (by omega)).trans B2.out
    have b4' := (hne (i := w.heap.size + 3) (by omega)).trans B4.out
    have HB' := Lib.hid ((HB.out.setCell (p := ⟨w.heap.size + 2, 0, none⟩) (by simp) (.float .f64 (Op.negFloat .f64 d))).setCell (p := ⟨w.heap.size + 2, 1, none⟩) (by simp) (.float .f64 (Op.negFloat .f64 c)))
    have BB2 := Lib.hid b2'; have BB3 := Lib.hid b3'; have BB4 := Lib.hid b4'
    have HC : ∀ w', Hid (Calls Tryz.prog 185 #[.agg #[.float .f64 a, .float .f64 b], .agg #[.float .f64 (Op.negFloat .f64 d), .float .f64 (Op.negFloat .f64 c)]] w' (RetG w' Z)) := fun w' => Lib.hid (by
      have := gadd_any (w := w') H1.out (gap_neg H2.out)
      rw [show X + -Y = Z from by omega] at this
      exact this)
    clear hZ hn b2' b3' b4' hne HB FIN
    go_enter Tryz.func153, Tryz.ntmps153
    go_wp2_with fail
    generalize hw5 : (w4.setCell ⟨w.heap.size + 2, 0, none⟩ (.float .f64 (Op.negFloat .f64 d))).setCell ⟨w.heap.size + 2, 1, none⟩ (.float .f64 (Op.negFloat .f64 c)) = w5 at *
    refine (HC _).out.mono ?_
    rintro e w6 ⟨hb5, lo, hi, rfl, hg⟩
    have b45 := heap_below BB4.out hb5 (heap_lt BB4.out)
    obtain ⟨HFF, hFF⟩ := retg_store (HB'.out.trans (hb5.mono HB'.out.size)) (by omega) b45 hg
    obtain ⟨f0, f1, f2, f3⟩ := cells2 b45
    replace hFF := Lib.hid hFF
    clear hb5 hg c0 c1 d0 d1 d2 d3 e0 e1 e2 e3 k0 k1 k2 k3 hw4 b45 hw5
    unfold gv
    go_wp2
    obtain ⟨f0, f1, -, -⟩ := cells2 hFF.out
    refine bodyPost_ret (v := .agg #[_, _]) (by simp [results, Tryz.results153, go_sem, f0, f1]; first | exact ⟨rfl, rfl⟩ | rfl) rfl ?_
    exact HFF.out
  · have HC := Lib.hid (gmul_any (w := w4) H1.out H2.out hZ)
    clear hZ hn
    unfold gv at HC
    go_enter Tryz.func153, Tryz.ntmps153
    go_wp2_with fail
    refine HC.out.mono ?_
    rintro e w5 ⟨hb5, lo, hi, rfl, hg⟩
    obtain ⟨HFF, hFF, f0, f1, f2, f3⟩ := FIN.out _ hb5 _ _ hg
    replace hFF := Lib.hid hFF
    clear hb5 hg c0 c1 d0 d1 d2 d3 e0 e1 e2 e3 k0 k1 k2 k3 hw4
    unfold gv
    go_wp2
    obtain ⟨f0, f1, -, -⟩ := cells2 hFF.out
    refine bodyPost_ret (v := .agg #[_, _]) (by simp [results, Tryz.results153, go_sem, f0, f1]; first | exact ⟨rfl, rfl⟩ | rfl) rfl ?_
    exact HFF.out
end Go.Proofs.YtgodkfgnhpnhcaaGreatDoor
