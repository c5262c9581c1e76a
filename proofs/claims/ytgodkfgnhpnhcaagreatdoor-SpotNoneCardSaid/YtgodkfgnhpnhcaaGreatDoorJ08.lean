/- A part of the proof: contracts of functions and plain laws (DyB, DyC, DyE, DyD, DyF, DyG, Flt, FltA). -/
import Derived.Test.YtgodkfgnhpnhcaaGreatDoorJ07
import Derived.Laws.FloatArith
set_option linter.unusedVariables false
set_option linter.unusedSimpArgs false
namespace Go.Proofs.YtgodkfgnhpnhcaaGreatDoor
open Go.RowKit
theorem shl_big {p : Nat → Prop} {va : Value} {xs : List Nat} {w : World} (hx : NatP p w va xs) (hL : xs.length < 1073741824) :
    Calls Tryz.prog 269 #[va, .int .i64 16777216] w (fun e w' => ∃ K : Nat, (K : Int) = 16777216 ∧ RetN w.heap.size w (val xs * 2 ^ K) e w') :=
  (shl_any (n := 16777216) hx (Nat.le_refl _) hL).mono fun _ _ h => ⟨16777216, rfl, h⟩
theorem shl_step (a K m : Nat) (h : K ≤ m) : a * 2 ^ K * 2 ^ (m - K) = a * 2 ^ m := by
  rw [Nat.mul_assoc, ← Nat.pow_add, Nat.add_sub_cancel' h]
theorem left_len (xs zs : List Nat) (m n : Nat) (hx : OkL xs) (hz : OkL zs) (tz : Tr zs) (h : val zs * 2 ^ m = val xs * 2 ^ n) : 64 * zs.length ≤ 64 * xs.length + n + 63 := by
  have h1 := tr_len_bits zs hz tz
  have h2 : bits (val zs) ≤ 64 * xs.length + n := by
    rw [bits_le_iff]
    have h3 : val zs ≤ val zs * 2 ^ m := Nat.le_mul_of_pos_right _ (Nat.two_pow_pos m)
    have h4 : val xs < 2 ^ (64 * xs.length) := by
      have := val_lt xs hx
      rwa [show B64 = 2 ^ 64 from rfl, ← Nat.pow_mul] at this
    have h5 : val xs * 2 ^ n < 2 ^ (64 * xs.length) * 2 ^ n := Nat.mul_lt_mul_of_pos_right h4 (Nat.two_pow_pos n)
    rw [Nat.pow_add]; omega
  omega
set_option maxHeartbeats 3200000 in
theorem dleft_any {p : Nat → Prop} {va : Value} {xs : List Nat} {n : Nat} {w : World} (hx : NatP p w va xs) (hn : n ≤ 134217728) (hL : xs.length ≤ 1000000000) :
    Calls Tryz.prog 259 #[va, .int .i64 n] w (RetN w.heap.size w (val xs * 2 ^ n)) := by
  have HX := Lib.hid hx.any; have HO := Lib.hid hx.ok
  clear hx
  have h0 : ¬ (n : Int) < 0 := by omega
  have h1 : ¬ (134217728 : Int) < (n : Int) := by omega
  go_enter Tryz.func259, Tryz.ntmps259
  go_wp2_with fail
  go_loopw [0, 1] (fun sv i wr => ∃ (m : Nat) (ys : List Nat), m ≤ n ∧ 64 * ys.length ≤ 64 * xs.length + n + 63 ∧ i = .int .i64 m ∧ Hid (NatP AnyB wr sv ys) ∧ Hid (Below w.heap.size w wr) ∧ Hid (val ys * 2 ^ m = val xs * 2 ^ n)) (fun _ i _ => (intOf i).toNat)
  case atStart => exact ⟨n, xs, Nat.le_refl _, by omega, rfl, HX, Lib.hid (Below.refl _ _), Lib.hid rfl⟩
  case round =>
    obtain ⟨m, ys, hm, hl, rfl, HY, HB, HV⟩ := hrel
    rcases Nat.lt_or_ge 16777216 m with h | h
    · have hi : (16777216 : Int) < (m : Int) := by omega
      go_wp2_with fail
      refine (shl_big HY.out (by omega)).mono ?_
      rintro e w1 ⟨K, hK, hb, v1, zs, rfl, hz, tz, hvz⟩
      have HZ := Lib.hid hz.any
      have HB2 := Lib.hid (HB.out.trans (hb.mono HB.out.size))
      have HV2 : Hid (val zs * 2 ^ (m - K) = val xs * 2 ^ n) := Lib.hid (by rw [hvz, ← HV.out]; exact shl_step _ _ _ (by omega))
      have hl2 := left_len xs zs _ n HO.out hz.ok tz HV2.out
      have hsub : (m : Int) - 16777216 = ((m - K : Nat) : Int) := by omega
      clear hb hz tz hvz
      go_wp2
      go_roundw
      case rel => exact ⟨m - K, zs, by omega, hl2, by go_num, HZ, HB2, HV2⟩
      case measure => simp [intOf]; omega
    · have hi : ¬ (16777216 : Int) < (m : Int) := by omega
      go_wp2_with fail
      refine (shl_any HY.out h (by omega)).mono ?_
      rintro e w1 ⟨hb, v1, zs, rfl, hz, tz, hvz⟩
      have HF := Lib.hid (RetN.of (n := val xs * 2 ^ n) (HB.out.trans (hb.mono HB.out.size)) (hz.weak fun b h _ => Nat.le_trans HB.out.size h) tz (by rw [hvz, HV.out]))
      clear hb hz tz hvz
      go_wp2
      go_ret
      exact HF.out
end Go.Proofs.YtgodkfgnhpnhcaaGreatDoor
namespace Go.Proofs.YtgodkfgnhpnhcaaGreatDoor
open Go.RowKit
/-- a dyadic number as the program keeps it: man times 2 to the exp -/
structure Dy where
  man : Int
  exp : Int
deriving DecidableEq
/-- a value that reads as d -/
def DyP (p : Nat → Prop) (w : World) (v : Value) (d : Dy) : Prop :=
  ∃ b A n c, v = .agg #[.bool b, .slice A n c, .int .i64 d.exp] ∧ IntP p w (.agg #[.bool b, .slice A n c]) d.man
def RetD (B : Nat) (w0 : World) (d : Dy) (e : Ending) (w' : World) : Prop :=
  Below B w0 w' ∧ ∃ v, e = .returned v ∧ DyP (fun b => B ≤ b) w' v d
/-- odd mantissa, or 0 -/
def mkDy (man exp : Int) : Dy := if man = 0 then ⟨0, 0⟩ else ⟨sg (decide (man < 0)) (man.natAbs / 2 ^ ctz man.natAbs), exp + ctz man.natAbs⟩
theorem DyP.below {p : Nat → Prop} {w w' : World} {v : Value} {d : Dy} (h : DyP p w v d) (hb : Below w.heap.size w w') : DyP p w' v d := by
  obtain ⟨b, A, n, c, e, h⟩ := h; exact ⟨b, A, n, c, e, h.below hb⟩
theorem DyP.weak {p q : Nat → Prop} {w : World} {v : Value} {d : Dy} (h : DyP p w v d) (hq : ∀ b, p b → b < w.heap.size → q b) : DyP q w v d := by
  obtain ⟨b, A, n, c, e, h⟩ := h; exact ⟨b, A, n, c, e, h.weak hq⟩
theorem cells3 {w : World} {g : Nat} {T : TypeId} {a b c : Value} (h : w.heap[g]? = some (.cells #[a, b, c] T (0, 0))) :
    w.cell? ⟨g, 0, none⟩ = some a ∧ w.cell? ⟨g, 1, none⟩ = some b ∧ w.cell? ⟨g, 2, none⟩ = some c ∧ w.frozen? ⟨g, 0, none⟩ = false ∧ w.frozen? ⟨g, 1, none⟩ = false ∧ w.frozen? ⟨g, 2, none⟩ = false := by
  refine ⟨?_, ?_, ?_, ?_, ?_, ?_⟩ <;> simp [World.cell?, World.frozen?, h]
theorem set3 {w : World} {g : Nat} {T : TypeId} {a b c : Value} (h : w.heap[g]? = some (.cells #[a, b, c] T (0, 0))) (u v x : Value) :
    (((w.setCell ⟨g, 0, none⟩ u).setCell ⟨g, 1, none⟩ v).setCell ⟨g, 2, none⟩ x).heap[g]? = some (.cells #[u, v, x] T (0, 0)) := by
  have hg : g < w.heap.size := (Array.getElem?_eq_some_iff.1 h).1
  have h' : w.heap[g] = .cells #[a, b, c] T (0, 0) := (Array.getElem?_eq_some_iff.1 h).2
  simp [World.setCell, hg, Array.getElem_modify, h']
/-- the store of a dyadic number into a variable of its own -/
theorem retd_store {B g : Nat} {w0 w1 : World} {T : TypeId} {a b c u vm : Value} {z : Int} {d : Dy} {q : Nat → Prop} (hb : Below B w0 w1) (hg : B ≤ g) (hw : w1.heap[g]? = some (.cells #[a, b, c] T (0, 0)))
    (h : DyP q w1 (.agg #[u, vm, .int .i64 z]) d) (hq : ∀ b, q b → B ≤ b ∧ b ≠ g) :
    Hid (RetD B w0 d (.returned (.agg #[u, vm, .int .i64 z])) (((w1.setCell ⟨g, 0, none⟩ u).setCell ⟨g, 1, none⟩ vm).setCell ⟨g, 2, none⟩ (.int .i64 z))) ∧
    (((w1.setCell ⟨g, 0, none⟩ u).setCell ⟨g, 1, none⟩ vm).setCell ⟨g, 2, none⟩ (.int .i64 z)).heap[g]? = some (.cells #[u, vm, .int .i64 z] T (0, 0)) := by
  obtain ⟨b', A, n, c', e, h⟩ := h
  refine ⟨Lib.hid ⟨((hb.setCell hg _).setCell hg _).setCell hg _, _, rfl, b', A, n, c', e, ?_⟩, set3 hw u vm _⟩
  exact (((h.setCell (fun b hb => (hq b hb).2) _).setCell (fun b hb => (hq b hb).2) _).setCell (fun b hb => (hq b hb).2) _).weak fun b hb _ => (hq b hb).1
end Go.Proofs.YtgodkfgnhpnhcaaGreatDoor
/- Dyadic numbers: plain laws. -/
namespace Go.Proofs.YtgodkfgnhpnhcaaGreatDoor
theorem odd_split (n : Nat) (h : n ≠ 0) : ∃ k m, n = 2 ^ k * (2 * m + 1) ∧ ctz n = k := by
  suffices ∀ b n, n < 2 ^ b → n ≠ 0 → ∃ k m, n = 2 ^ k * (2 * m + 1) by
    obtain ⟨k, m, e⟩ := this n n Nat.lt_two_pow_self h
    exact ⟨k, m, e, by rw [e]; exact ctz_of k m⟩
  intro b
  induction b with
  | zero => intro n h1 h2; omega
  | succ b ih =>
    intro n h1 h2
    rcases Nat.mod_two_eq_zero_or_one n with h3 | h3
    · obtain ⟨k, m, e⟩ := ih (n / 2) (by rw [Nat.pow_succ] at h1; omega) (by omega)
      refine ⟨k + 1, m, ?_⟩
      rw [Nat.pow_succ, Nat.mul_comm (2 ^ k) 2, Nat.mul_assoc, ← e]; omega
    · exact ⟨0, n / 2, by simp; omega⟩
theorem ctz_le_bits (n : Nat) (h : n ≠ 0) : ctz n ≤ bits n := by
  obtain ⟨k, m, e, hk⟩ := odd_split n h
  rw [hk]
  rcases Nat.lt_or_ge (bits n) k with h1 | h1
  · have h2 := (bits_le_iff n (bits n)).1 (Nat.le_refl _)
    have h3 : 2 ^ bits n ≤ 2 ^ k := Nat.pow_le_pow_right (by omega) (by omega)
    have h4 : 2 ^ k ≤ n := by rw [e]; exact Nat.le_mul_of_pos_right _ (by omega)
    omega
  · exact h1
theorem sg_mul_nat (b : Bool) (m n : Nat) : sg b (m * n) = sg b m * (n : Int) := by cases b <;> simp [sg, Int.neg_mul]
/-- what mkDy is -/
theorem mkDy_spec (x e : Int) (hx : x ≠ 0) : ∃ k : Nat, x = (mkDy x e).man * (2 ^ k : Nat) ∧ (mkDy x e).exp = e + k ∧ (mkDy x e).man % 2 = 1 ∧ k ≤ bits x.natAbs := by
  obtain ⟨k, m, e1, hk⟩ := odd_split x.natAbs (by omega)
  have hm : (mkDy x e).man = sg (decide (x < 0)) (2 * m + 1) := by
    unfold mkDy; rw [if_neg hx, hk]
    show sg _ (x.natAbs / 2 ^ k) = _
    rw [e1, Nat.mul_div_cancel_left _ (Nat.two_pow_pos k)]
  refine ⟨k, ?_, ?_, ?_, ?_⟩
  · rw [hm, ← sg_mul_nat, Nat.mul_comm, ← e1]
    exact (sg_of x).symm
  · unfold mkDy; rw [if_neg hx, hk]
  · rw [hm]; cases decide (x < 0) <;> simp [sg] <;> omega
  · have := ctz_le_bits x.natAbs (by omega); omega
theorem mkDy_zero (e : Int) : mkDy 0 e = ⟨0, 0⟩ := by unfold mkDy; simp
theorem pow_cast (k : Nat) : ((2 ^ k : Nat) : Int) = 2 ^ k := by simp
theorem odd_pow_unique {a b : Int} {j k : Nat} (ha : a % 2 = 1) (hb : b % 2 = 1) (h : a * (2 ^ j : Nat) = b * (2 ^ k : Nat)) : a = b ∧ j = k := by
  suffices ∀ j k : Nat, ∀ a b : Int, a % 2 = 1 → b % 2 = 1 → j ≤ k → a * (2 ^ j : Nat) = b * (2 ^ k : Nat) → a = b ∧ j = k by
    rcases Nat.le_total j k with hjk | hjk
    · exact this j k a b ha hb hjk h
    · obtain ⟨e1, e2⟩ := this k j b a hb ha hjk h.symm
      exact ⟨e1.symm, e2.symm⟩
  intro j k a b ha hb hjk h
  obtain ⟨d, rfl⟩ : ∃ d, k = j + d := ⟨k - j, by omega⟩
  rw [Nat.pow_add, Int.natCast_mul, Int.mul_comm ((2 ^ j : Nat) : Int), ← Int.mul_assoc] at h
  have hp : ((2 ^ j : Nat) : Int) ≠ 0 := by have := Nat.two_pow_pos j; omega
  have h2 := Int.eq_of_mul_eq_mul_right hp h
  rcases d with _ | d
  · exact ⟨by simpa using h2, rfl⟩
  · exfalso
    rw [Nat.pow_succ, Int.natCast_mul, ← Int.mul_assoc] at h2
    omega
/-- two spellings of one number are one -/
theorem mkDy_eq {x y e f : Int} {j k : Nat} (h : x * (2 ^ j : Nat) = y * (2 ^ k : Nat)) (he : e - j = f - k) : mkDy x e = mkDy y f := by
  have pj := Nat.two_pow_pos j
  have pk := Nat.two_pow_pos k
  by_cases hx : x = 0
  · have hy : y = 0 := by
      rw [hx, Int.zero_mul] at h
      rcases Int.mul_eq_zero.1 h.symm with h | h
      · exact h
      · omega
    rw [hx, hy, mkDy_zero, mkDy_zero]
  · have hy : y ≠ 0 := by
      intro hy
      rw [hy, Int.zero_mul] at h
      rcases Int.mul_eq_zero.1 h with h | h
      · exact hx h
      · omega
    obtain ⟨a, a1, a2, a3, -⟩ := mkDy_spec x e hx
    obtain ⟨b, b1, b2, b3, -⟩ := mkDy_spec y f hy
    have h2 : (mkDy x e).man * (2 ^ (a + j) : Nat) = (mkDy y f).man * (2 ^ (b + k) : Nat) := by
      rw [Nat.pow_add, Nat.pow_add, Int.natCast_mul, Int.natCast_mul, ← Int.mul_assoc, ← Int.mul_assoc, ← a1, ← b1]; exact h
    obtain ⟨h3, h4⟩ := odd_pow_unique a3 b3 h2
    have h5 : (mkDy x e).exp = (mkDy y f).exp := by rw [a2, b2]; omega
    cases hd : mkDy x e; cases hd2 : mkDy y f
    rw [hd, hd2] at h3 h5
    simp at h3 h5; rw [h3, h5]
theorem mkDy_shl (x e : Int) (k : Nat) : mkDy (x * (2 ^ k : Nat)) (e - k) = mkDy x e :=
  mkDy_eq (j := 0) (k := k) (by simp) (by omega)
/-- what is already made is made again as it is -/
theorem mkDy_idem (x e : Int) : mkDy (mkDy x e).man (mkDy x e).exp = mkDy x e := by
  by_cases hx : x = 0
  · rw [hx, mkDy_zero, mkDy_zero]
  · obtain ⟨k, k1, k2, k3, -⟩ := mkDy_spec x e hx
    exact mkDy_eq (j := k) (k := 0) (by simpa using k1.symm) (by omega)
/-- the mantissas for one exponent -/
def alignA (a b : Dy) : Int := if a.exp ≤ b.exp then a.man else a.man * (2 ^ (a.exp - b.exp).toNat : Nat)
def alignB (a b : Dy) : Int := if a.exp ≤ b.exp then b.man * (2 ^ (b.exp - a.exp).toNat : Nat) else b.man
def addD (a b : Dy) : Dy := if a.man = 0 then mkDy b.man b.exp else if b.man = 0 then mkDy a.man a.exp else mkDy (alignA a b + alignB a b) (min a.exp b.exp)
def mulD (a b : Dy) : Dy := mkDy (a.man * b.man) (a.exp + b.exp)
def notD (a : Dy) : Dy := mkDy (-a.man) a.exp
def topD (a : Dy) : Int := if a.man = 0 then 0 else bits a.man.natAbs + a.exp
def cmpD (a b : Dy) : Int := cmpI (alignA a b) (alignB a b)
theorem alignA_mul (a b : Dy) : alignA a b = a.man * (2 ^ (a.exp - min a.exp b.exp).toNat : Nat) := by
  unfold alignA; split
  · have : (a.exp - min a.exp b.exp).toNat = 0 := by omega
    rw [this]; simp
  · have : min a.exp b.exp = b.exp := by omega
    rw [this]
theorem alignB_mul (a b : Dy) : alignB a b = b.man * (2 ^ (b.exp - min a.exp b.exp).toNat : Nat) := by
  unfold alignB; split
  · have : min a.exp b.exp = a.exp := by omega
    rw [this]
  · have : (b.exp - min a.exp b.exp).toNat = 0 := by omega
    rw [this]; simp
/-- the mantissa at a lower exponent -/
theorem mkDy_at (x e : Int) : mkDy x e = ⟨0, 0⟩ ∧ x = 0 ∨ x ≠ 0 ∧ (mkDy x e).man ≠ 0 ∧ e ≤ (mkDy x e).exp ∧ x = (mkDy x e).man * (2 ^ ((mkDy x e).exp - e).toNat : Nat) := by
  by_cases hx : x = 0
  · exact Or.inl ⟨by rw [hx, mkDy_zero], hx⟩
  · obtain ⟨k, k1, k2, k3, -⟩ := mkDy_spec x e hx
    refine Or.inr ⟨hx, by omega, by omega, ?_⟩
    have : ((mkDy x e).exp - e).toNat = k := by omega
    rw [this]; exact k1
theorem addD_mk (x y e : Int) : addD (mkDy x e) (mkDy y e) = mkDy (x + y) e := by
  unfold addD
  rcases mkDy_at x e with ⟨h1, h2⟩ | ⟨h1, h2, h3, h4⟩
  · rw [h1, if_pos rfl, h2, Int.zero_add]; exact mkDy_idem y e
  rw [if_neg h2]
  rcases mkDy_at y e with ⟨k1, k2⟩ | ⟨k1, k2, k3, k4⟩
  · rw [k1, if_pos rfl, k2, Int.add_zero]; exact mkDy_idem x e
  rw [if_neg k2, alignA_mul, alignB_mul]
  generalize mkDy x e = a at *
  generalize mkDy y e = b at *
  have e1 : (a.exp - e).toNat = (a.exp - min a.exp b.exp).toNat + (min a.exp b.exp - e).toNat := by omega
  have e2 : (b.exp - e).toNat = (b.exp - min a.exp b.exp).toNat + (min a.exp b.exp - e).toNat := by omega
  rw [e1, Nat.pow_add, Int.natCast_mul, ← Int.mul_assoc] at h4
  rw [e2, Nat.pow_add, Int.natCast_mul, ← Int.mul_assoc] at k4
  refine mkDy_eq (j := (min a.exp b.exp - e).toNat) (k := 0) ?_ (by omega)
  rw [Int.add_mul, ← h4, ← k4]; simp
theorem mulD_mk (x y e f : Int) : mulD (mkDy x e) (mkDy y f) = mkDy (x * y) (e + f) := by
  unfold mulD
  rcases mkDy_at x e with ⟨h1, h2⟩ | ⟨h1, h2, h3, h4⟩
  · rw [h1, h2]; simp [mkDy_zero]
  rcases mkDy_at y f with ⟨k1, k2⟩ | ⟨k1, k2, k3, k4⟩
  · rw [k1, k2]; simp [mkDy_zero]
  generalize mkDy x e = a at *
  generalize mkDy y f = b at *
  refine mkDy_eq (j := (a.exp - e).toNat + (b.exp - f).toNat) (k := 0) ?_ (by omega)
  rw [Nat.pow_add, Int.natCast_mul]
  rw [show a.man * b.man * (((2 ^ (a.exp - e).toNat : Nat) : Int) * ((2 ^ (b.exp - f).toNat : Nat) : Int)) = (a.man * ((2 ^ (a.exp - e).toNat : Nat) : Int)) * (b.man * ((2 ^ (b.exp - f).toNat : Nat) : Int)) from by
    simp only [Int.mul_assoc, Int.mul_left_comm], ← h4, ← k4]; simp
theorem notD_mk (x e : Int) : notD (mkDy x e) = mkDy (-x) e := by
  unfold notD
  rcases mkDy_at x e with ⟨h1, h2⟩ | ⟨h1, h2, h3, h4⟩
  · rw [h1, h2]; simp [mkDy_zero]
  · generalize mkDy x e = a at *
    refine mkDy_eq (j := (a.exp - e).toNat) (k := 0) ?_ (by omega)
    rw [Int.neg_mul, ← h4]; simp
theorem sign_mk (x e : Int) : (mkDy x e).man.sign = x.sign := by
  rcases mkDy_at x e with ⟨h1, h2⟩ | ⟨h1, h2, h3, h4⟩
  · rw [h1, h2]
  · generalize mkDy x e = a at *
    have := Nat.two_pow_pos (a.exp - e).toNat
    rw [h4, Int.sign_mul, Int.sign_eq_one_of_pos (a := ((2 ^ (a.exp - e).toNat : Nat) : Int)) (by omega), Int.mul_one]
theorem bits_mk (x e : Int) : bits (mkDy x e).man.natAbs ≤ bits x.natAbs := by
  rcases mkDy_at x e with ⟨h1, h2⟩ | ⟨h1, h2, h3, h4⟩
  · rw [h1]; exact Nat.zero_le _
  · generalize mkDy x e = a at *
    refine bits_mono ?_
    conv => rhs; rw [h4]
    rw [Int.natAbs_mul, Int.natAbs_natCast]
    exact Nat.le_mul_of_pos_right _ (Nat.two_pow_pos _)
end Go.Proofs.YtgodkfgnhpnhcaaGreatDoor
namespace Go.Proofs.YtgodkfgnhpnhcaaGreatDoor
open Go.RowKit
theorem wrap_i64 {x : Int} (h : -9223372036854775808 ≤ x ∧ x < 9223372036854775808) : IntKind.i64.wrap x = x := by
  have hb64 : (2 : Int) ^ IntKind.i64.bits = 18446744073709551616 := rfl
  have hb63 : (2 : Int) ^ (IntKind.i64.bits - 1) = 9223372036854775808 := rfl
  simp only [IntKind.wrap, show IntKind.i64.signed = true from rfl, Bool.true_and, decide_eq_true_eq, hb64, hb63]
  split <;> omega
set_option maxHeartbeats 3200000 in
set_option maxRecDepth 100000 in
theorem makeD_any {p : Nat → Prop} {va : Value} {x e : Int} {w : World} (hx : IntP p w va x) (hT : Tab w) (hL : bits x.natAbs ≤ 1073741824) (he : -1000000000000 ≤ e ∧ e ≤ 1000000000000) :
    Calls Tryz.prog 148 #[va, .int .i64 e] w (RetD w.heap.size w (mkDy x e)) := by
  obtain ⟨ba, A, n, c, rfl⟩ := hx.shape
  obtain ⟨w2, hw2, hb2, hs2, b1, b2⟩ := pro2 w (.cells #[Value.bool ba, .slice A n c] 170) (.cells #[Value.bool false, Value.slice none 0 0, .int .i64 0] 172)
  have HB := Lib.hid hb2; have H1 := Lib.hid (hx.below hb2)
  have HS := Lib.hid hs2; have B1 := Lib.hid b1; have B2 := Lib.hid b2
  have HT := Lib.hid (hT.below hb2); have HL := Lib.hid hL
  obtain ⟨c0, c1, -, -⟩ := cells2 b1
  clear hx hb2 b1 b2 hs2 hT hL
  go_enter Tryz.func148, Tryz.ntmps148
  go_wp2_with fail
  refine (sign_any H1.out).mono ?_
  rintro r w3 ⟨rfl, hb⟩
  replace H1 := Lib.hid (H1.out.below hb); replace HT := Lib.hid (HT.out.below hb)
  replace c0 := cell_below c0 hb (Nat.le_refl _); replace c1 := cell_below c1 hb (Nat.le_refl _)
  replace B2 := Lib.hid (heap_below B2.out hb (by have := HS.out; omega))
  have HS3 := Lib.hid hb.size
  replace HB := Lib.hid (HB.out.trans (hb.mono HB.out.size))
  clear hb hw2
  by_cases hz : x = 0
  · have hs : (x.sign == 0) = true := by rw [hz]; rfl
    obtain ⟨e0, e1, e2, e3, e4, e5⟩ := cells3 B2.out
    have hsz := HS3.out; have hs2 := HS.out
    have h : DyP (fun b => w3.heap.size ≤ b) w3 (.agg #[.bool false, .slice none 0 0, .int .i64 0]) (mkDy x e) := by
      rw [hz]; exact ⟨_, _, _, _, rfl, _, [], rfl, NatP.nil _, Tr.nil, rfl⟩
    obtain ⟨HFF, hFF⟩ := retd_store HB.out (g := w.heap.size + 1) (by omega) B2.out h (fun b hb => by omega)
    replace hFF := Lib.hid hFF
    clear h hsz hs2
    go_wp2
    obtain ⟨f0, f1, f2, -, -, -⟩ := cells3 hFF.out
    refine bodyPost_ret (v := .agg #[_, _, _]) (by simp [results, Tryz.results148, go_sem, f0, f1, f2]; first | exact ⟨rfl, rfl, rfl⟩ | rfl) rfl ?_
    exact HFF.out
  · have hs : (x.sign == 0) = false := beq_eq_false_iff_ne.2 (fun h => hz (Int.sign_eq_zero_iff_zero.1 h))
    obtain ⟨xs, hx1, hx2, hx3, hx4⟩ := H1.out.get
    have HX := Lib.hid hx1; have HV := Lib.hid hx3; have HBA := Lib.hid hx4
    have hlow : ctz (val xs) ≤ 1073741824 := by
      have h1 := ctz_le_bits (val xs) (by rw [hx3]; omega)
      have := HL.out; rw [hx3] at h1 ⊢; omega
    clear hx1 hx2 hx3 hx4
    go_wp2_with fail
    refine (low_any HX.out HT.out).mono ?_
    rintro r w4 ⟨rfl, k, rfl⟩
    have hb := below_drewN w3 k
    replace HX := Lib.hid (HX.out.below hb)
    replace c0 := cell_below c0 hb (Nat.le_refl _); replace c1 := cell_below c1 hb (Nat.le_refl _)
    replace B2 := Lib.hid (heap_below B2.out hb (heap_lt B2.out))
    replace HB := Lib.hid (HB.out.trans (hb.mono HB.out.size))
    replace HS3 : Hid (w2.heap.size ≤ (w3.drewN k).heap.size) := Lib.hid (Nat.le_trans HS3.out hb.size)
    clear hb H1 HT
    generalize w3.drewN k = w4 at *
    go_wp2_with fail
    have hwr : IntKind.i64.wrap (e + (ctz (val xs) : Int)) = e + (ctz (val xs) : Int) := wrap_i64 (by omega)
    have HRG := Lib.hid (dright_any (n := ctz (val xs)) (HX.out.below ((Below.refl _ _).drew (w := w4))) (by omega))
    go_region_held3 (fun w' => w'.cell? ⟨w.heap.size, 0, none⟩ = some (.bool ba) ∧ w'.cell? ⟨w.heap.size, 1, none⟩ = some (.slice A n c)) (go_keep)
      (first
      | (go_at_call 181
         refine HRG.out.mono ?_
         rintro r w5 ⟨hb, v5, zs, rfl, hz, tz, hvz⟩
         have HB5 : Hid (Below w4.heap.size w4 w5) := Lib.hid ((Below.refl _ _).drew.trans hb)
         have g0 := cell_below c0 HB5.out (Nat.le_refl _)
         have g1 := cell_below c1 HB5.out (Nat.le_refl _)
         have HMK := Lib.hid (make_any (b := ba) hz); have HVZ := Lib.hid hvz
         clear hb hz tz hvz)
      | (go_at_call 180
         refine HMK.out.mono ?_
         rintro r w6 ⟨hb, v6, hz⟩
         obtain ⟨rfl, hz⟩ := hz
         obtain ⟨b6, A6, n6, c6, rfl⟩ := hz.shape
         have g0' := cell_below g0 hb (Nat.le_refl _)
         have g1' := cell_below g1 hb (Nat.le_refl _)
         have HSZ := Lib.hid HB5.out.size
         replace HB5 := Lib.hid (HB5.out.trans (hb.mono HB5.out.size))
         have HF := Lib.hid hz
         have B25 := Lib.hid (heap_below B2.out HB5.out (heap_lt B2.out))
         obtain ⟨e0', e1', e2', e3', e4', e5'⟩ := cells3 B25.out
         clear hb hz))
    have hm : mkDy x e = ⟨sg ba (val zs), e + ctz (val xs)⟩ := by
      unfold mkDy; rw [if_neg hz, HVZ.out, HV.out, HBA.out]
    have HDD : Hid (DyP (fun b => w4.heap.size ≤ b) _ (.agg #[.bool b6, .slice A6 n6 c6, .int .i64 (e + ctz (val xs))]) (mkDy x e)) := Lib.hid (by
      rw [hm]; exact ⟨b6, A6, n6, c6, rfl, HF.out.weak fun b h _ => by have := HSZ.out; omega⟩)
    obtain ⟨HFF, hFF⟩ := retd_store (HB.out.trans (HB5.out.mono HB.out.size)) (g := w.heap.size + 1) (by omega) B25.out HDD.out (fun b hb => by have := HS3.out; have := HS.out; omega)
    replace hFF := Lib.hid hFF
    clear hm HDD
    go_wp2
    obtain ⟨f0, f1, f2, -, -, -⟩ := cells3 hFF.out
    refine bodyPost_ret (v := .agg #[_, _, _]) (by simp [results, Tryz.results148, go_sem, f0, f1, f2]; first | exact ⟨rfl, rfl, rfl⟩ | rfl) rfl ?_
    exact HFF.out
end Go.Proofs.YtgodkfgnhpnhcaaGreatDoor
namespace Go.Proofs.YtgodkfgnhpnhcaaGreatDoor
open Go.RowKit
set_option maxHeartbeats 1600000 in
theorem signD_any {p : Nat → Prop} {v : Value} {d : Dy} {w : World} (hx : DyP p w v d) :
    Calls Tryz.prog 146 #[v] w (RetK w d.man.sign) := by
  obtain ⟨b, A, n, c, rfl, h⟩ := hx
  obtain ⟨w1, hw1, hb1, hs1, b1⟩ := pro1 w (.cells #[Value.bool b, .slice A n c, .int .i64 d.exp] 172)
  have HB := Lib.hid hb1; have H1 := Lib.hid (h.below hb1)
  obtain ⟨c0, c1, c2, -, -, -⟩ := cells3 b1
  clear h hb1 b1 hs1
  go_enter Tryz.func146, Tryz.ntmps146
  go_wp2_with fail
  refine (sign_any H1.out).mono ?_
  rintro r w3 ⟨rfl, hb⟩
  have HF : Hid (RetK w d.man.sign (.returned (.int .i64 d.man.sign)) w3) := Lib.hid ⟨rfl, HB.out.trans (hb.mono HB.out.size)⟩
  clear hb
  go_wp2
  go_ret
  exact HF.out
theorem bits_le_len {xs : List Nat} (h : OkL xs) : bits (val xs) ≤ 64 * xs.length := by
  rw [bits_le_iff]
  have := val_lt xs h
  rwa [B64_eq, ← Nat.pow_mul] at this
set_option maxHeartbeats 1600000 in
set_option maxRecDepth 100000 in
theorem topD_any {p : Nat → Prop} {v : Value} {d : Dy} {w : World} (hx : DyP p w v d) (he : -1000000000000 ≤ d.exp ∧ d.exp ≤ 1000000000000) :
    Calls Tryz.prog 147 #[v] w (RetK w (topD d)) := by
  obtain ⟨b, A, n, c, rfl, h⟩ := hx
  obtain ⟨w1, hw1, hb1, hs1, b1⟩ := pro1 w (.cells #[Value.bool b, .slice A n c, .int .i64 d.exp] 172)
  have HB := Lib.hid hb1; have H1 := Lib.hid (h.below hb1)
  obtain ⟨c0, c1, c2, -, -, -⟩ := cells3 b1
  clear h hb1 b1 hs1
  have HDP : Hid (DyP p w1 (.agg #[.bool b, .slice A n c, .int .i64 d.exp]) d) := Lib.hid ⟨b, A, n, c, rfl, H1.out⟩
  go_enter Tryz.func147, Tryz.ntmps147
  go_wp2_with fail
  refine (signD_any HDP.out).mono ?_
  rintro r w3 ⟨rfl, hb⟩
  replace H1 := Lib.hid (H1.out.below hb)
  replace c0 := cell_below c0 hb (Nat.le_refl _); replace c1 := cell_below c1 hb (Nat.le_refl _); replace c2 := cell_below c2 hb (Nat.le_refl _)
  replace HB := Lib.hid (HB.out.trans (hb.mono HB.out.size))
  clear hb HDP hw1
  by_cases hz : d.man = 0
  · have hs : (d.man.sign == 0) = true := by rw [hz]; rfl
    have HF : Hid (RetK w (topD d) (.returned (.int .i64 0)) w3) := Lib.hid ⟨by unfold topD; rw [if_pos hz], HB.out⟩
    clear hz
    go_wp2
    go_ret
    exact HF.out
  · have hs : (d.man.sign == 0) = false := beq_eq_false_iff_ne.2 (fun h => hz (Int.sign_eq_zero_iff_zero.1 h))
    obtain ⟨xs, hx1, -, hx3, -⟩ := H1.out.get
    have HBT := Lib.hid (bits_any (hx1.below ((Below.refl _ _).drew (w := w3))))
    have hbl : bits (val xs) ≤ 64 * 1099511627776 := Nat.le_trans (bits_le_len hx1.ok) (Nat.mul_le_mul_left _ hx1.len)
    have hwr : IntKind.i64.wrap ((bits (val xs) : Int) + d.exp) = (bits (val xs) : Int) + d.exp := wrap_i64 (by omega)
    have HT : Hid (topD d = bits (val xs) + d.exp) := Lib.hid (by unfold topD; rw [if_neg hz, hx3])
    clear hx1 hx3 hz
    go_wp2_with fail
    go_region_held3 (fun w' => w'.cell? ⟨w.heap.size, 0, none⟩ = some (.bool b) ∧ w'.cell? ⟨w.heap.size, 1, none⟩ = some (.slice A n c) ∧ w'.cell? ⟨w.heap.size, 2, none⟩ = some (.int .i64 d.exp)) (go_keep)
      (first
      | (go_at_call 178
         refine HBT.out.mono ?_
         rintro e w5 ⟨rfl, k, hk⟩
         have hb5 : Below w3.heap.size w3 w5 := by rw [hk]; exact (Below.refl _ _).drew.trans (below_drewN w3.drew k)
         have c0 := cell_below c0 hb5 (Nat.le_refl _)
         have c1 := cell_below c1 hb5 (Nat.le_refl _)
         have c2 := cell_below c2 hb5 (Nat.le_refl _)
         have HB5 := Lib.hid (HB.out.trans (hb5.mono HB.out.size))
         clear hk hb5))
    have HF : Hid (RetK w (topD d) (.returned (.int .i64 (bits (val xs) + d.exp))) _) := Lib.hid ⟨by rw [HT.out], HB5.out⟩
    go_wp2
    go_ret
    exact HF.out
set_option maxHeartbeats 1600000 in
set_option maxRecDepth 100000 in
theorem notD_any {p : Nat → Prop} {v : Value} {d : Dy} {w : World} (hx : DyP p w v d) (hT : Tab w) (hL : bits d.man.natAbs ≤ 1073741824) (he : -1000000000000 ≤ d.exp ∧ d.exp ≤ 1000000000000) :
    Calls Tryz.prog 118 #[v] w (RetD w.heap.size w (notD d)) := by
  obtain ⟨b, A, n, c, rfl, h⟩ := hx
  obtain ⟨w2, hw2, hb2, hs2, b1, b2⟩ := pro2 w (.cells #[Value.bool b, .slice A n c, .int .i64 d.exp] 172) (.cells #[Value.bool false, Value.slice none 0 0, .int .i64 0] 172)
  have HB := Lib.hid hb2; have H1 := Lib.hid (h.below hb2); have HT := Lib.hid (hT.below hb2)
  have HS := Lib.hid hs2; have B2 := Lib.hid b2; have HL := Lib.hid hL
  obtain ⟨c0, c1, c2, -, -, -⟩ := cells3 b1
  clear h hb2 b1 hs2 b2 hT hL
  go_enter Tryz.func118, Tryz.ntmps118
  go_wp2_with fail
  have HN := Lib.hid (not_any (H1.out.below ((Below.refl _ _).drew (w := w2))))
  have n1 : w.heap.size + 1 ≠ w.heap.size := by omega
  go_region_held3 (fun w' => w'.cell? ⟨w.heap.size, 0, none⟩ = some (.bool b) ∧ w'.cell? ⟨w.heap.size, 1, none⟩ = some (.slice A n c) ∧ w'.cell? ⟨w.heap.size, 2, none⟩ = some (.int .i64 d.exp)) (go_keep)
    (first
    | (go_at_call 149
       refine HN.out.mono ?_
       rintro r w5 ⟨hb, v5, rfl, hz⟩
       have HB5 : Hid (Below w2.heap.size w2 w5) := Lib.hid ((Below.refl _ _).drew.trans hb)
       have c0 := cell_below c0 HB5.out (Nat.le_refl _)
       have c1 := cell_below c1 HB5.out (Nat.le_refl _)
       have c2 := cell_below c2 HB5.out (Nat.le_refl _)
       have HMK := Lib.hid (makeD_any (e := d.exp) hz (HT.out.below HB5.out) (by rw [Int.natAbs_neg]; exact HL.out) he)
       clear hb hz)
    | (go_at_call 148
       refine HMK.out.mono ?_
       rintro r w6 ⟨hb, v6, hz⟩
       obtain ⟨rfl, hz⟩ := hz
       obtain ⟨b6, A6, n6, c6, rfl, -⟩ := id hz
       have c0 := cell_below c0 hb (Nat.le_refl _)
       have c1 := cell_below c1 hb (Nat.le_refl _)
       have c2 := cell_below c2 hb (Nat.le_refl _)
       have HSZ := Lib.hid HB5.out.size
       have HB5 := Lib.hid (HB5.out.trans (hb.mono HB5.out.size))
       have HF := Lib.hid hz
       have B25 := Lib.hid (heap_below B2.out HB5.out (heap_lt B2.out))
       obtain ⟨e0, e1, e2, e3, e4, e5⟩ := cells3 B25.out
       clear hb hz))
  obtain ⟨HFF, hFF⟩ := retd_store (HB.out.trans (HB5.out.mono HB.out.size)) (g := w.heap.size + 1) (by omega) B25.out HF.out (fun b hb => by have := HS.out; have := HSZ.out; omega)
  replace hFF := Lib.hid hFF
  replace HFF : Hid (RetD w.heap.size w (notD d) _ _) := HFF
  go_wp2
  obtain ⟨f0, f1, f2, -, -, -⟩ := cells3 hFF.out
  refine bodyPost_ret (v := .agg #[_, _, _]) (by simp [results, Tryz.results118, go_sem, f0, f1, f2]; first | exact ⟨rfl, rfl, rfl⟩ | rfl) rfl ?_
  exact HFF.out
end Go.Proofs.YtgodkfgnhpnhcaaGreatDoor
namespace Go.Proofs.YtgodkfgnhpnhcaaGreatDoor
open Go.RowKit
theorem bits_mul_le (a b : Nat) : bits (a * b) ≤ bits a + bits b := by
  rw [bits_le_iff]
  have e3 := Nat.mul_lt_mul'' (lt_two_pow_bits a) (lt_two_pow_bits b)
  rwa [← Nat.pow_add] at e3
set_option maxHeartbeats 3200000 in
set_option maxRecDepth 100000 in
theorem mulD_any {p q : Nat → Prop} {va vb : Value} {x y : Dy} {w : World} (hx : DyP p w va x) (hy : DyP q w vb y) (hT : Tab w)
    (hL : bits x.man.natAbs + bits y.man.natAbs ≤ 1073741823) (he : -100000000000 ≤ x.exp ∧ x.exp ≤ 100000000000) (he' : -100000000000 ≤ y.exp ∧ y.exp ≤ 100000000000) :
    Calls Tryz.prog 243 #[va, vb] w (RetD w.heap.size w (mulD x y)) := by
  obtain ⟨ba, A, n, c, rfl, h⟩ := hx
  obtain ⟨bb, A', n', c', rfl, h'⟩ := hy
  obtain ⟨w3, hw3, hb3, hs3, b1, b2, b3⟩ := pro3 w (.cells #[Value.bool ba, .slice A n c, .int .i64 x.exp] 172) (.cells #[Value.bool bb, .slice A' n' c', .int .i64 y.exp] 172) (.cells #[Value.bool false, Value.slice none 0 0, .int .i64 0] 172)
  have HB := Lib.hid hb3; have H1 := Lib.hid (h.below hb3); have H2 := Lib.hid (h'.below hb3); have HT := Lib.hid (hT.below hb3)
  have HS := Lib.hid hs3; have B3 := Lib.hid b3
  obtain ⟨c0, c1, c2, -, -, -⟩ := cells3 b1
  obtain ⟨d0, d1, d2, -, -, -⟩ := cells3 b2
  have hwr : IntKind.i64.wrap (x.exp + y.exp) = x.exp + y.exp := wrap_i64 (by omega)
  have HLM : Hid (bits (x.man * y.man).natAbs ≤ 1073741824) := Lib.hid (by
    rw [Int.natAbs_mul]
    have := bits_mul_le x.man.natAbs y.man.natAbs; omega)
  have HL := Lib.hid hL
  have HE : Hid (-1000000000000 ≤ x.exp + y.exp ∧ x.exp + y.exp ≤ 1000000000000) := Lib.hid (by omega)
  clear h h' hb3 b1 b2 b3 hs3 hT hL he he'
  go_enter Tryz.func243, Tryz.ntmps243
  go_wp2_with fail
  have HBA : Hid (Below w3.heap.size w3 (w3.alloc (.cells #[Value.bool bb, .slice A' n' c'] 170)).drew) := Lib.hid ((Below.refl _ _).alloc (Nat.le_refl _) _).drew
  have HBA2 : Hid ((w3.alloc (.cells #[Value.bool bb, .slice A' n' c'] 170)).drew.heap[w3.heap.size]? = some (.cells #[Value.bool bb, .slice A' n' c'] 170 (0, 0))) := Lib.hid (heap_alloc_new w3 _)
  have HMU := Lib.hid (mulI_any (H1.out.below HBA.out) HBA2.out (H2.out.below HBA.out) (by have := HL.out; omega))
  have n1 : w.heap.size + 1 + 1 ≠ w.heap.size := by omega
  have n2 : w.heap.size + 1 + 1 ≠ w.heap.size + 1 := by omega
  go_region_held3 (fun w' => w'.cell? ⟨w.heap.size, 0, none⟩ = some (.bool ba) ∧ w'.cell? ⟨w.heap.size, 1, none⟩ = some (.slice A n c) ∧ w'.cell? ⟨w.heap.size, 2, none⟩ = some (.int .i64 x.exp) ∧ w'.cell? ⟨w.heap.size + 1, 0, none⟩ = some (.bool bb) ∧ w'.cell? ⟨w.heap.size + 1, 1, none⟩ = some (.slice A' n' c') ∧ w'.cell? ⟨w.heap.size + 1, 2, none⟩ = some (.int .i64 y.exp)) (go_keep)
    (first
    | (go_at_call 257
       refine HMU.out.mono ?_
       rintro r w5 ⟨hb, v5, rfl, hz⟩
       have HB5 : Hid (Below w3.heap.size w3 w5) := Lib.hid (HBA.out.trans (hb.mono HBA.out.size))
       have c0 := cell_below c0 HB5.out (Nat.le_refl _)
       have c1 := cell_below c1 HB5.out (Nat.le_refl _)
       have c2 := cell_below c2 HB5.out (Nat.le_refl _)
       have d0 := cell_below d0 HB5.out (Nat.le_refl _)
       have d1 := cell_below d1 HB5.out (Nat.le_refl _)
       have d2 := cell_below d2 HB5.out (Nat.le_refl _)
       have HMK := Lib.hid (makeD_any (e := x.exp + y.exp) hz (HT.out.below HB5.out) HLM.out HE.out)
       clear hb hz)
    | (go_at_call 148
       refine HMK.out.mono ?_
       rintro r w6 ⟨hb, v6, hz⟩
       obtain ⟨rfl, hz⟩ := hz
       obtain ⟨b6, A6, n6, c6, rfl, -⟩ := id hz
       have c0 := cell_below c0 hb (Nat.le_refl _)
       have c1 := cell_below c1 hb (Nat.le_refl _)
       have c2 := cell_below c2 hb (Nat.le_refl _)
       have d0 := cell_below d0 hb (Nat.le_refl _)
       have d1 := cell_below d1 hb (Nat.le_refl _)
       have d2 := cell_below d2 hb (Nat.le_refl _)
       have HSZ := Lib.hid HB5.out.size
       have HB5 := Lib.hid (HB5.out.trans (hb.mono HB5.out.size))
       have HF := Lib.hid hz
       have B35 := Lib.hid (heap_below B3.out HB5.out (heap_lt B3.out))
       obtain ⟨e0, e1, e2, e3, e4, e5⟩ := cells3 B35.out
       clear hb hz))
  obtain ⟨HFF, hFF⟩ := retd_store (HB.out.trans (HB5.out.mono HB.out.size)) (g := w.heap.size + 2) (by omega) B35.out HF.out (fun b hb => by have := HS.out; have := HSZ.out; omega)
  replace hFF := Lib.hid hFF
  replace HFF : Hid (RetD w.heap.size w (mulD x y) _ _) := HFF
  go_wp2
  obtain ⟨f0, f1, f2, -, -, -⟩ := cells3 hFF.out
  refine bodyPost_ret (v := .agg #[_, _, _]) (by simp [results, Tryz.results243, go_sem, f0, f1, f2]; first | exact ⟨rfl, rfl, rfl⟩ | rfl) rfl ?_
  exact HFF.out
end Go.Proofs.YtgodkfgnhpnhcaaGreatDoor
/- Floats: words as signed rungs; what rounding to nearest keeps. -/
namespace Go.Proofs.YtgodkfgnhpnhcaaGreatDoor
open Ieee
/-- the magnitude of a rung, in units of 2^-1074 -/
def mg (r : Nat) : Nat := if r < 2 ^ 52 then r else (2 ^ 52 + r % 2 ^ 52) * 2 ^ (r / 2 ^ 52 - 1)
theorem cut_ge (neg : Bool) (n d k : Nat) (h : k * 2 ^ d ≤ n) : k ≤ Toward.even.cut neg n d := by
  unfold Toward.cut
  simp only [Nat.one_shiftLeft]
  rcases Nat.le_total d (n.log2 + 2) with hd | hd
  · rw [Nat.min_eq_left hd]
    have : k ≤ n / 2 ^ d := (Nat.le_div_iff_mul_le (Nat.two_pow_pos d)).2 h
    omega
  · have hn : n < 2 ^ d := Nat.lt_of_lt_of_le (Nat.lt_log2_self (n := n)) (Nat.pow_le_pow_right (by omega) (by omega))
    rcases Nat.eq_zero_or_pos k with rfl | hk
    · exact Nat.zero_le _
    · have : 2 ^ d ≤ k * 2 ^ d := Nat.le_mul_of_pos_left _ hk
      omega
theorem cut_le (neg : Bool) (n d k : Nat) (h : n ≤ k * 2 ^ d) : Toward.even.cut neg n d ≤ k := by
  unfold Toward.cut
  simp only [Nat.one_shiftLeft]
  have base : ∀ g low rest : Nat, n = g * low + rest → rest < g → n ≤ k * g → low + (decide (g < 2 * rest) || (g == 2 * rest && low % 2 == 1)).toNat ≤ k := by
    intro g low rest h1 h2 h3
    have hlow : low ≤ k := by
      refine Nat.le_of_mul_le_mul_left (c := g) ?_ (by omega)
      rw [Nat.mul_comm g k]; omega
    rcases Nat.lt_or_ge low k with hlt | hge
    · have : (decide (g < 2 * rest) || (g == 2 * rest && low % 2 == 1)).toNat ≤ 1 := Bool.toNat_le _
      omega
    · have hk : low = k := by omega
      subst hk
      have hr : rest = 0 := by rw [Nat.mul_comm low g] at h3; omega
      subst hr
      have h0 : 0 < g := h2
      have e1 : decide (g < 2 * 0) = false := by simp
      have e2 : (g == 2 * 0) = false := by simp; omega
      rw [e1, e2]; simp
  rcases Nat.le_total d (n.log2 + 2) with hd | hd
  · rw [Nat.min_eq_left hd]
    exact base (2 ^ d) (n / 2 ^ d) (n % 2 ^ d) (Nat.div_add_mod n _).symm (Nat.mod_lt _ (Nat.two_pow_pos d)) h
  · rw [Nat.min_eq_right hd]
    have hn : n < 2 ^ (n.log2 + 1) := Nat.lt_log2_self (n := n)
    have hp : 2 ^ (n.log2 + 2) = 2 * 2 ^ (n.log2 + 1) := by rw [Nat.pow_succ]; omega
    have e0 : n / 2 ^ (n.log2 + 2) = 0 := Nat.div_eq_of_lt (by omega)
    have e1 : n % 2 ^ (n.log2 + 2) = n := Nat.mod_eq_of_lt (by omega)
    rw [e0, e1]
    have f1 : decide (2 ^ (n.log2 + 2) < 2 * n) = false := by simp; omega
    have f2 : (2 ^ (n.log2 + 2) == 2 * n) = false := by simp; omega
    rw [f1, f2]; simp
/-- the rung that is nearest to mag * 2^place -/
def rg (mag : Nat) (place : Int) : Nat := if mag = 0 then 0 else min ((max (place + mag.log2 - 52) (-1074) + 1074).toNat * 2 ^ 52 + Toward.even.cut false (mag <<< (place - max (place + mag.log2 - 52) (-1074)).toNat) (max (place + mag.log2 - 52) (-1074) - place).toNat) (2047 * 2 ^ 52)
theorem cut_neg (b c : Bool) (n d : Nat) : Toward.even.cut b n d = Toward.even.cut c n d := rfl
theorem double_least : double.leastPlace = -1074 := by decide
theorem double_binade : double.binade = 2 ^ 52 := by decide
theorem double_inf : double.infRung = 2047 * 2 ^ 52 := by decide
theorem double_sw : double.signWeight = 2 ^ 63 := by decide
theorem nearest_eq (neg : Bool) (mag : Nat) (place : Int) : double.nearest neg mag place = double.word neg (rg mag place) := by
  unfold Format.nearest rg
  split
  · rfl
  · simp only [double_least, double_binade, double_inf]
    rfl
theorem pow_congr (k : Nat) {a b : Nat} (h : a = b) : k * 2 ^ a = k * 2 ^ b := by rw [h]
/-- what stands behind the rung that is nearest: with E binades skipped, K kept -/
theorem rg_spec (mag : Nat) (place : Int) (h0 : mag ≠ 0) (t : Nat) (ht : 0 ≤ place + t) (ht2 : 1074 ≤ t) : ∃ E K : Nat,
    rg mag place = min (E * 2 ^ 52 + K) (2047 * 2 ^ 52) ∧
    (∀ k, k * 2 ^ E * 2 ^ (t - 1074) ≤ mag * 2 ^ (place + t).toNat → k ≤ K) ∧
    (∀ k, mag * 2 ^ (place + t).toNat ≤ k * 2 ^ E * 2 ^ (t - 1074) → K ≤ k) ∧
    mag * 2 ^ (place + t).toNat < 2 ^ 53 * 2 ^ E * 2 ^ (t - 1074) ∧
    (0 < E → 2 ^ 52 * 2 ^ E * 2 ^ (t - 1074) ≤ mag * 2 ^ (place + t).toNat) := by
  unfold rg
  rw [if_neg h0]
  generalize hl : max (place + mag.log2 - 52) (-1074) = last
  have hl1 : -1074 ≤ last := by omega
  have hl2 : place + mag.log2 - 52 ≤ last := by omega
  have hlog1 : 2 ^ mag.log2 ≤ mag := Nat.log2_self_le h0
  have hlog2 : mag < 2 ^ (mag.log2 + 1) := Nat.lt_log2_self
  generalize mag.log2 = L at *
  refine ⟨(last + 1074).toNat, _, rfl, ?_, ?_, ?_, ?_⟩
  all_goals
    obtain ⟨E, hE⟩ : ∃ E : Nat, (last + 1074).toNat = E := ⟨_, rfl⟩
    rw [hE]
    obtain ⟨A, hA⟩ : ∃ A : Nat, (place + t).toNat = A := ⟨_, rfl⟩
    rw [hA]
  · intro k hk
    refine cut_ge _ _ _ _ ?_
    rw [Nat.shiftLeft_eq]
    rcases Int.le_total place last with hp | hp
    · have e1 : (place - last).toNat = 0 := by omega
      rw [e1, Nat.pow_zero, Nat.mul_one]
      refine Nat.le_of_mul_le_mul_right (c := 2 ^ A) ?_ (Nat.two_pow_pos A)
      refine Nat.le_trans (Nat.le_of_eq ?_) hk
      rw [Nat.mul_assoc, Nat.mul_assoc, ← Nat.pow_add, ← Nat.pow_add]
      exact pow_congr _ (by omega)
    · have e1 : (last - place).toNat = 0 := by omega
      rw [e1, Nat.pow_zero, Nat.mul_one]
      refine Nat.le_of_mul_le_mul_right (c := 2 ^ (E + (t - 1074))) ?_ (Nat.two_pow_pos _)
      refine Nat.le_trans (Nat.le_of_eq ?_) (Nat.le_trans hk (Nat.le_of_eq ?_))
      · rw [Nat.mul_assoc, ← Nat.pow_add]
      · rw [Nat.mul_assoc, ← Nat.pow_add]; exact pow_congr _ (by omega)
  · intro k hk
    refine cut_le _ _ _ _ ?_
    rw [Nat.shiftLeft_eq]
    rcases Int.le_total place last with hp | hp
    · have e1 : (place - last).toNat = 0 := by omega
      rw [e1, Nat.pow_zero, Nat.mul_one]
      refine Nat.le_of_mul_le_mul_right (c := 2 ^ A) ?_ (Nat.two_pow_pos A)
      refine Nat.le_trans hk (Nat.le_of_eq ?_)
      rw [Nat.mul_assoc, Nat.mul_assoc, ← Nat.pow_add, ← Nat.pow_add]
      exact pow_congr _ (by omega)
    · have e1 : (last - place).toNat = 0 := by omega
      rw [e1, Nat.pow_zero, Nat.mul_one]
      refine Nat.le_of_mul_le_mul_right (c := 2 ^ (E + (t - 1074))) ?_ (Nat.two_pow_pos _)
      refine Nat.le_trans (Nat.le_of_eq ?_) (Nat.le_trans hk (Nat.le_of_eq ?_))
      · rw [Nat.mul_assoc, ← Nat.pow_add]; exact pow_congr _ (by omega)
      · rw [Nat.mul_assoc, ← Nat.pow_add]
  · refine Nat.lt_of_lt_of_le (Nat.mul_lt_mul_of_pos_right hlog2 (Nat.two_pow_pos A)) ?_
    rw [← Nat.pow_add, ← Nat.pow_add, ← Nat.pow_add]
    exact Nat.pow_le_pow_right (by omega) (by omega)
  · intro hpos
    refine Nat.le_trans ?_ (Nat.mul_le_mul_right _ hlog1)
    rw [← Nat.pow_add, ← Nat.pow_add, ← Nat.pow_add]
    exact Nat.pow_le_pow_right (by omega) (by omega)
theorem mg_low (r : Nat) (h : r < 2 ^ 53) : mg r = r := by
  unfold mg
  split
  · rfl
  · have : r / 2 ^ 52 = 1 := by omega
    rw [this]; simp; omega
theorem mg_high (r : Nat) (h : 2 ^ 52 ≤ r) : mg r = (2 ^ 52 + r % 2 ^ 52) * 2 ^ (r / 2 ^ 52 - 1) := by
  unfold mg; rw [if_neg (by omega)]
/-- a rung that is not above the number is not above the nearest rung -/
theorem rg_ge (mag : Nat) (place : Int) (t : Nat) (ht : 0 ≤ place + t) (ht2 : 1074 ≤ t) (c : Nat) (hc : c ≤ 2047 * 2 ^ 52) (h : mg c * 2 ^ (t - 1074) ≤ mag * 2 ^ (place + t).toNat) : c ≤ rg mag place := by
  by_cases h0 : mag = 0
  · have : mg c = 0 := by
      subst h0
      rcases Nat.eq_zero_or_pos (mg c) with h1 | h1
      · exact h1
      · have := Nat.mul_pos h1 (Nat.two_pow_pos (t - 1074)); omega
    have hc0 : c = 0 := by
      rcases Nat.lt_or_ge c (2 ^ 53) with h1 | h1
      · rwa [mg_low c h1] at this
      · rw [mg_high c (by omega)] at this
        have h9 : 0 < 2 ^ 52 + c % 2 ^ 52 := by omega
        have := Nat.mul_pos h9 (Nat.two_pow_pos (c / 2 ^ 52 - 1)); omega
    omega
  obtain ⟨E, K, e, h1, h2, h3, h4⟩ := rg_spec mag place h0 t ht ht2
  rw [e]
  refine Nat.le_min.2 ⟨?_, hc⟩
  rcases Nat.lt_or_ge c (E * 2 ^ 52) with hlt | hge
  · omega
  have hT := Nat.two_pow_pos (t - 1074)
  have hmg : mg c < 2 ^ 53 * 2 ^ E := Nat.lt_of_mul_lt_mul_right (Nat.lt_of_le_of_lt h h3)
  rcases Nat.lt_or_ge c (2 ^ 52) with hs | hs
  · -- subnormal
    have hE : E = 0 := by omega
    subst hE
    have hck := h1 c (by rw [mg_low c (by omega)] at h; simpa using h)
    exact Nat.le_trans hck (Nat.le_add_left _ _)
  · rw [mg_high c hs] at hmg h
    obtain ⟨q, hq⟩ : ∃ q, c / 2 ^ 52 = q + 1 := ⟨c / 2 ^ 52 - 1, by omega⟩
    rw [hq, Nat.add_sub_cancel] at hmg h
    have hqE : q ≤ E := by
      rcases Nat.lt_or_ge E q with hlt | hge
      · exfalso
        have : 2 ^ (E + 1) ≤ 2 ^ q := Nat.pow_le_pow_right (by omega) hlt
        rw [Nat.pow_succ] at this
        have h5 : (2 ^ 52) * (2 ^ E * 2) ≤ (2 ^ 52 + c % 2 ^ 52) * 2 ^ q := Nat.mul_le_mul (by omega) this
        omega
      · exact hge
    rcases Nat.lt_or_ge q E with hlt | hge'
    · have := h1 (2 ^ 52) (h4 (by omega))
      omega
    · have hqe : q = E := by omega
      subst hqe
      have := h1 _ h
      omega
/-- a rung that is not below the number is not below the nearest rung -/
theorem rg_le (mag : Nat) (place : Int) (t : Nat) (ht : 0 ≤ place + t) (ht2 : 1074 ≤ t) (c : Nat) (h : mag * 2 ^ (place + t).toNat ≤ mg c * 2 ^ (t - 1074)) : rg mag place ≤ c := by
  by_cases h0 : mag = 0
  · subst h0; unfold rg; simp
  obtain ⟨E, K, e, h1, h2, h3, h4⟩ := rg_spec mag place h0 t ht ht2
  rw [e]
  refine Nat.le_trans (Nat.min_le_left _ _) ?_
  have hT := Nat.two_pow_pos (t - 1074)
  have hK := h2 (2 ^ 53) (Nat.le_of_lt h3)
  rcases Nat.lt_or_ge c (2 ^ 52) with hs | hs
  · rcases Nat.eq_zero_or_pos E with rfl | hE
    · have := h2 c (by rw [mg_low c (by omega)] at h; simpa using h)
      omega
    · exfalso
      have h5 := Nat.le_of_mul_le_mul_right (Nat.le_trans (h4 hE) h) hT
      rw [mg_low c (by omega)] at h5
      have : 1 ≤ 2 ^ E := Nat.two_pow_pos E
      have := Nat.mul_le_mul_left (2 ^ 52) this
      omega
  · rw [mg_high c hs] at h
    obtain ⟨q, hq⟩ : ∃ q, c / 2 ^ 52 = q + 1 := ⟨c / 2 ^ 52 - 1, by omega⟩
    rw [hq, Nat.add_sub_cancel] at h
    rcases Nat.lt_trichotomy q E with hlt | heq | hgt
    · exfalso
      have h5 := Nat.le_of_mul_le_mul_right (Nat.le_trans (h4 (by omega)) h) hT
      have : 2 ^ (q + 1) ≤ 2 ^ E := Nat.pow_le_pow_right (by omega) hlt
      rw [Nat.pow_succ] at this
      have h6 : (2 ^ 52 + c % 2 ^ 52) * 2 ^ q < (2 ^ 52 * 2) * 2 ^ q := Nat.mul_lt_mul_of_pos_right (by omega) (Nat.two_pow_pos q)
      have h7 : 2 ^ 52 * (2 ^ q * 2) ≤ 2 ^ 52 * 2 ^ E := Nat.mul_le_mul_left _ this
      omega
    · subst heq
      have := h2 _ h
      omega
    · have : (E + 2) * 2 ^ 52 ≤ c := by omega
      omega
end Go.Proofs.YtgodkfgnhpnhcaaGreatDoor
/- Floats: sums, products and comparisons by signed rungs. -/
namespace Go.Proofs.YtgodkfgnhpnhcaaGreatDoor
open Ieee
def infR : Nat := 2047 * 2 ^ 52
def fneg (b : Nat) : Bool := b / 2 ^ 63 % 2 == 1
def rung (b : Nat) : Nat := b % 2 ^ 63
/-- the signed rung of a word -/
def sr (b : Nat) : Int := if fneg b then -(rung b : Int) else (rung b : Int)
/-- what a signed rung stands for, in units of 2^-1074 -/
def fvr (s : Int) : Int := if s < 0 then -(mg s.natAbs : Int) else (mg s.natAbs : Int)
def fv (b : Nat) : Int := fvr (sr b)
def fin (b : Nat) : Prop := rung b < infR
/-- no NaN -/
def num (b : Nat) : Prop := rung b ≤ infR
theorem fin.num {b : Nat} (h : fin b) : num b := Nat.le_of_lt h
instance (b : Nat) : Decidable (fin b) := inferInstanceAs (Decidable (_ < _))
instance (b : Nat) : Decidable (num b) := inferInstanceAs (Decidable (_ ≤ _))
theorem mg_lt {a b : Nat} (h : a < b) : mg a < mg b := by
  rcases Nat.lt_or_ge b (2 ^ 53) with hb | hb
  · rw [mg_low a (by omega), mg_low b hb]; exact h
  · rw [mg_high b (by omega)]
    obtain ⟨q, hq⟩ : ∃ q, b / 2 ^ 52 = q + 1 := ⟨b / 2 ^ 52 - 1, by omega⟩
    rw [hq, Nat.add_sub_cancel]
    have hp := Nat.two_pow_pos q
    rcases Nat.lt_or_ge a (2 ^ 52) with ha | ha
    · rw [mg_low a (by omega)]
      have : (2 ^ 52 + b % 2 ^ 52) * 1 ≤ (2 ^ 52 + b % 2 ^ 52) * 2 ^ q := Nat.mul_le_mul_left _ hp
      omega
    · rw [mg_high a ha]
      obtain ⟨r, hr⟩ : ∃ r, a / 2 ^ 52 = r + 1 := ⟨a / 2 ^ 52 - 1, by omega⟩
      rw [hr, Nat.add_sub_cancel]
      rcases Nat.lt_or_ge r q with hrq | hrq
      · have h1 : 2 ^ (r + 1) ≤ 2 ^ q := Nat.pow_le_pow_right (by omega) hrq
        rw [Nat.pow_succ] at h1
        have h2 : (2 ^ 52 + a % 2 ^ 52) * 2 ^ r < (2 ^ 52 * 2) * 2 ^ r := Nat.mul_lt_mul_of_pos_right (by omega) (Nat.two_pow_pos r)
        have h3 : 2 ^ 52 * (2 ^ r * 2) ≤ (2 ^ 52 + b % 2 ^ 52) * 2 ^ q := Nat.mul_le_mul (by omega) h1
        omega
      · have : r = q := by omega
        subst this
        exact Nat.mul_lt_mul_of_pos_right (by omega) hp
theorem mg_le {a b : Nat} (h : a ≤ b) : mg a ≤ mg b := by
  rcases Nat.lt_or_eq_of_le h with h | rfl
  · exact Nat.le_of_lt (mg_lt h)
  · exact Nat.le_refl _
theorem mg_zero : mg 0 = 0 := by decide
theorem mg_pos {a : Nat} (h : 0 < a) : 0 < mg a := by have := mg_lt h; rwa [mg_zero] at this
theorem fvr_lt {a b : Int} (h : a < b) : fvr a < fvr b := by
  unfold fvr
  split <;> split
  · have := mg_lt (a := b.natAbs) (b := a.natAbs) (by omega); omega
  · have := mg_pos (a := a.natAbs) (by omega); omega
  · omega
  · have := mg_lt (a := a.natAbs) (b := b.natAbs) (by omega); omega
theorem fvr_le {a b : Int} (h : a ≤ b) : fvr a ≤ fvr b := by
  rcases Int.lt_or_eq_of_le h with h | rfl
  · exact Int.le_of_lt (fvr_lt h)
  · exact Int.le_refl _
theorem fvr_zero : fvr 0 = 0 := by decide
theorem fvr_lt_iff {a b : Int} : fvr a < fvr b ↔ a < b := ⟨fun h => by
  rcases Int.lt_or_le a b with h1 | h1
  · exact h1
  · have := fvr_le h1; omega, fvr_lt⟩
theorem fvr_le_iff {a b : Int} : fvr a ≤ fvr b ↔ a ≤ b := ⟨fun h => by
  rcases Int.lt_or_le b a with h1 | h1
  · have := fvr_lt h1; omega
  · exact h1, fvr_le⟩
theorem fvr_neg (a : Int) : fvr (-a) = -fvr a := by
  unfold fvr
  rw [Int.natAbs_neg]
  rcases Int.lt_trichotomy a 0 with h | h | h
  · rw [if_neg (by omega), if_pos h]; omega
  · subst h; simp [mg_zero]
  · rw [if_pos (by omega), if_neg (by omega)]
theorem cmp_eq {a b c d : Int} (h1 : a < b ↔ c < d) (h2 : b < a ↔ d < c) : compare a b = compare c d := by
  simp only [compare, compareOfLessAndEq]
  by_cases h : a < b
  · rw [if_pos h, if_pos (h1.1 h)]
  · rw [if_neg h, if_neg (fun h' => h (h1.2 h'))]
    by_cases e : a = b
    · have : c = d := by
        have a1 : ¬ c < d := fun h' => by have := h1.2 h'; omega
        have a2 : ¬ d < c := fun h' => by have := h2.2 h'; omega
        omega
      rw [if_pos e, if_pos this]
    · have : ¬ c = d := by
        have : b < a := by omega
        have := h2.1 this
        omega
      rw [if_neg e, if_neg this]
theorem read_fin {b : Nat} (h : fin b) : ∃ m p, double.read b = .number (fneg b) m p ∧ -1074 ≤ p ∧ m * 2 ^ (p + 1074).toNat = mg (rung b) := by
  have h' : b % 2 ^ 63 < 2047 * 2 ^ 52 := h
  unfold Format.read
  simp only [double_sw, double_binade, double_inf, double_least]
  split
  · rename_i hs
    refine ⟨_, _, rfl, by omega, ?_⟩
    have : rung b = b % 2 ^ 63 := rfl
    rw [this, mg_low _ (by omega)]; simp
  · rename_i hs
    refine ⟨_, _, rfl, by omega, ?_⟩
    have : rung b = b % 2 ^ 63 := rfl
    rw [this, mg_high _ (by omega)]
    congr 2; omega
theorem read_inf {b : Nat} (h : rung b = infR) : double.read b = .infinity (fneg b) := by
  have h' : b % 2 ^ 63 = 2047 * 2 ^ 52 := h
  unfold Format.read
  simp only [double_sw, double_binade, double_inf, double_least]
  rw [if_neg (by omega), if_neg (by omega), if_pos h']
  rfl
theorem signed_eq (s : Bool) (m k : Nat) : signed s m k = (if s then -((m * 2 ^ k : Nat) : Int) else ((m * 2 ^ k : Nat) : Int)) := by
  unfold signed; rw [Nat.shiftLeft_eq]
/-- the value of a finite word, by what is read of it -/
theorem fv_read {b m : Nat} {p : Int} (h : m * 2 ^ (p + 1074).toNat = mg (rung b)) : fv b = (if fneg b then -((m * 2 ^ (p + 1074).toNat : Nat) : Int) else ((m * 2 ^ (p + 1074).toNat : Nat) : Int)) := by
  rw [h]
  unfold fv sr fvr
  cases fneg b
  · simp only [Bool.false_eq_true, if_false]
    rw [if_neg (by omega), Int.natAbs_natCast]
  · simp only [if_true]
    rw [Int.natAbs_neg, Int.natAbs_natCast]
    rcases Nat.eq_zero_or_pos (rung b) with h0 | h0
    · rw [h0, mg_zero]; simp
    · rw [if_pos (by omega)]
theorem signed_scale (s : Bool) (m k j : Nat) : signed s m k * (2 ^ j : Nat) = signed s m (k + j) := by
  rw [signed_eq, signed_eq, Nat.pow_add]
  cases s <;> simp [Int.mul_assoc, Int.neg_mul]
theorem order_num {x y : Nat} (hx : num x) (hy : num y) : double.order x y = some (compare (sr x) (sr y)) := by
  have srx : -(infR : Int) ≤ sr x ∧ sr x ≤ infR := by unfold num at hx; unfold sr; split <;> omega
  have sry : -(infR : Int) ≤ sr y ∧ sr y ≤ infR := by unfold num at hy; unfold sr; split <;> omega
  unfold Format.order
  by_cases fx : fin x
  · obtain ⟨m, p, e1, p1, v1⟩ := read_fin fx
    have x1 : -(infR : Int) < sr x ∧ sr x < infR := by unfold fin at fx; unfold sr; split <;> omega
    by_cases fy : fin y
    · obtain ⟨n, q, e2, q1, v2⟩ := read_fin fy
      rw [e1, e2]
      simp only [Datum.order, Option.some.injEq]
      have hp := fv_read v1
      have hq := fv_read v2
      have s1 : signed (fneg x) m (p - min p q).toNat * (2 ^ (min p q + 1074).toNat : Nat) = fv x := by
        rw [signed_scale, signed_eq, hp]
        have : (p - min p q).toNat + (min p q + 1074).toNat = (p + 1074).toNat := by omega
        rw [this]
      have s2 : signed (fneg y) n (q - min p q).toNat * (2 ^ (min p q + 1074).toNat : Nat) = fv y := by
        rw [signed_scale, signed_eq, hq]
        have : (q - min p q).toNat + (min p q + 1074).toNat = (q + 1074).toNat := by omega
        rw [this]
      have hpos : (0 : Int) < (2 ^ (min p q + 1074).toNat : Nat) := Int.natCast_pos.2 (Nat.two_pow_pos _)
      refine cmp_eq ?_ ?_
      · exact ((Int.mul_lt_mul_right hpos).symm).trans (by rw [s1, s2]; exact fvr_lt_iff)
      · exact ((Int.mul_lt_mul_right hpos).symm).trans (by rw [s1, s2]; exact fvr_lt_iff)
    · have ry : rung y = infR := by unfold num fin at *; omega
      rw [e1, read_inf ry]
      simp only [Datum.order]
      unfold sr at *
      rw [ry] at *
      cases fneg y
      · simp only [Bool.false_eq_true, if_false] at *
        rw [show compare (if fneg x = true then -(rung x : Int) else (rung x : Int)) (infR : Int) = .lt from by rw [Int.compare_eq_lt]; exact x1.2]
      · simp only [if_true] at *
        rw [show compare (if fneg x = true then -(rung x : Int) else (rung x : Int)) (-(infR : Int)) = .gt from by rw [Int.compare_eq_gt]; exact x1.1]
  · have rx : rung x = infR := by unfold num fin at *; omega
    rw [read_inf rx]
    by_cases fy : fin y
    · obtain ⟨n, q, e2, q1, v2⟩ := read_fin fy
      have y1 : -(infR : Int) < sr y ∧ sr y < infR := by unfold fin at fy; unfold sr; split <;> omega
      rw [e2]
      simp only [Datum.order]
      unfold sr at *
      rw [rx] at *
      cases fneg x
      · simp only [Bool.false_eq_true, if_false] at *
        rw [show compare (infR : Int) (if fneg y = true then -(rung y : Int) else (rung y : Int)) = .gt from by rw [Int.compare_eq_gt]; exact y1.2]
      · simp only [if_true] at *
        rw [show compare (-(infR : Int)) (if fneg y = true then -(rung y : Int) else (rung y : Int)) = .lt from by rw [Int.compare_eq_lt]; exact y1.1]
    · have ry : rung y = infR := by unfold num fin at *; omega
      rw [read_inf ry]
      simp only [Datum.order]
      unfold sr
      rw [rx, ry]
      cases fneg x <;> cases fneg y <;> decide
/-- r is nearest to N * 2^-t -/
def Near (r : Nat) (N : Int) (t : Nat) : Prop := num r ∧
  (∀ c : Int, -(infR : Int) ≤ c → c ≤ infR → fvr c * (2 ^ (t - 1074) : Nat) ≤ N → c ≤ sr r) ∧
  (∀ c : Int, -(infR : Int) ≤ c → c ≤ infR → N ≤ fvr c * (2 ^ (t - 1074) : Nat) → sr r ≤ c)
theorem sr_word {neg : Bool} {r : Nat} (h : r ≤ infR) : sr (double.word neg r) = (if neg then -(r : Int) else (r : Int)) ∧ rung (double.word neg r) = r := by
  have h' : r ≤ 2047 * 2 ^ 52 := h
  unfold sr fneg rung Format.word
  simp only [double_sw]
  cases neg
  · simp only [Bool.false_eq_true, if_false]
    have e1 : r / 2 ^ 63 % 2 = 0 := by omega
    have e2 : r % 2 ^ 63 = r := by omega
    rw [e1, e2]; simp
  · simp only [if_true]
    have e1 : (2 ^ 63 + r) / 2 ^ 63 % 2 = 1 := by omega
    have e2 : (2 ^ 63 + r) % 2 ^ 63 = r := by omega
    rw [e1, e2]; simp
theorem rg_inf (mag : Nat) (place : Int) : rg mag place ≤ infR := by
  unfold rg; split
  · unfold infR; omega
  · exact Nat.min_le_right _ _
theorem near_nearest (neg : Bool) (mag : Nat) (place : Int) (t : Nat) (ht : 0 ≤ place + t) (ht2 : 1074 ≤ t) (N : Int) (hN : N = (if neg then -((mag * 2 ^ (place + t).toNat : Nat) : Int) else ((mag * 2 ^ (place + t).toNat : Nat) : Int))) :
    Near (double.nearest neg mag place) N t := by
  rw [nearest_eq]
  obtain ⟨e1, e2⟩ := sr_word (neg := neg) (rg_inf mag place)
  have hpos : (0 : Int) < (2 ^ (t - 1074) : Nat) := Int.natCast_pos.2 (Nat.two_pow_pos _)
  refine ⟨by unfold num; rw [e2]; exact rg_inf _ _, fun c c1 c2 h => ?_, fun c c1 c2 h => ?_⟩
  · rw [e1]
    cases neg
    · simp only [Bool.false_eq_true, if_false] at hN ⊢
      rcases Int.lt_or_le c 0 with hc | hc
      · omega
      · have : c.toNat ≤ rg mag place := by
          refine rg_ge mag place t ht ht2 _ (by unfold infR at c2; omega) ?_
          unfold fvr at h
          rw [if_neg (by omega), hN] at h
          have : c.natAbs = c.toNat := by omega
          rw [this] at h
          exact_mod_cast h
        omega
    · simp only [if_true] at hN ⊢
      rcases Int.lt_or_le c 0 with hc | hc
      · have : rg mag place ≤ c.natAbs := by
          refine rg_le mag place t ht ht2 _ ?_
          unfold fvr at h
          rw [if_pos hc, hN, Int.neg_mul] at h
          have h2 := Int.neg_le_neg_iff.1 h
          exact_mod_cast h2
        omega
      · have h1 : 0 ≤ fvr c := by have := fvr_le hc; rwa [fvr_zero] at this
        have h2 : 0 ≤ fvr c * (2 ^ (t - 1074) : Nat) := Int.mul_nonneg h1 (by omega)
        have h3 : mag * 2 ^ (place + t).toNat = 0 := by omega
        have h5 : rg mag place = 0 := by
          have := rg_le mag place t ht ht2 0 (by rw [h3]; exact Nat.zero_le _)
          omega
        have h6 : fvr c = 0 := by
          rcases Int.lt_or_eq_of_le h1 with h7 | h7
          · have := Int.mul_pos h7 hpos; omega
          · exact h7.symm
        have h8 : c ≤ 0 := by rw [← fvr_le_iff, h6, fvr_zero]; omega
        omega
  · rw [e1]
    cases neg
    · simp only [Bool.false_eq_true, if_false] at hN ⊢
      rcases Int.lt_or_le c 0 with hc | hc
      · have h1 : fvr c < 0 := by have := fvr_lt hc; rwa [fvr_zero] at this
        have h2 : fvr c * (2 ^ (t - 1074) : Nat) < 0 := Int.mul_neg_of_neg_of_pos h1 hpos
        omega
      · have : rg mag place ≤ c.natAbs := by
          refine rg_le mag place t ht ht2 _ ?_
          unfold fvr at h
          rw [if_neg (by omega), hN] at h
          exact_mod_cast h
        omega
    · simp only [if_true] at hN ⊢
      rcases Int.lt_or_le c 0 with hc | hc
      · have : c.natAbs ≤ rg mag place := by
          refine rg_ge mag place t ht ht2 _ (by unfold infR at c1; omega) ?_
          unfold fvr at h
          rw [if_pos hc, hN, Int.neg_mul] at h
          have h2 := Int.neg_le_neg_iff.1 h
          exact_mod_cast h2
        omega
      · omega
theorem add_near {x y : Nat} (hx : fin x) (hy : fin y) : ∃ r, double.add x y = some r ∧ r < 2 ^ 64 ∧ Near r (fv x + fv y) 1074 := by
  obtain ⟨m, p, e1, p1, v1⟩ := read_fin hx
  obtain ⟨n, q, e2, q1, v2⟩ := read_fin hy
  have hp := fv_read v1
  have hq := fv_read v2
  have h : double.add x y = some (double.nearest (if signed (fneg x) m (p - min p q).toNat + signed (fneg y) n (q - min p q).toNat = 0 then fneg x && fneg y else signed (fneg x) m (p - min p q).toNat + signed (fneg y) n (q - min p q).toNat < 0) (signed (fneg x) m (p - min p q).toNat + signed (fneg y) n (q - min p q).toNat).natAbs (min p q)) := by
    unfold Format.add; rw [e1, e2]; rfl
  refine ⟨_, h, double.add_lt h, ?_⟩
  refine near_nearest _ _ _ 1074 (by omega) (by omega) _ ?_
  have s1 : signed (fneg x) m (p - min p q).toNat * (2 ^ (min p q + 1074).toNat : Nat) = fv x := by
    rw [signed_scale, signed_eq, hp]
    have : (p - min p q).toNat + (min p q + 1074).toNat = (p + 1074).toNat := by omega
    rw [this]
  have s2 : signed (fneg y) n (q - min p q).toNat * (2 ^ (min p q + 1074).toNat : Nat) = fv y := by
    rw [signed_scale, signed_eq, hq]
    have : (q - min p q).toNat + (min p q + 1074).toNat = (q + 1074).toNat := by omega
    rw [this]
  rw [← s1, ← s2, ← Int.add_mul]
  generalize signed (fneg x) m (p - min p q).toNat + signed (fneg y) n (q - min p q).toNat = T
  have e : (min p q + (1074 : Nat) : Int).toNat = (min p q + 1074).toNat := rfl
  rw [e]
  generalize (2 ^ (min p q + 1074).toNat : Nat) = M
  by_cases h0 : T = 0
  · subst h0; simp
  · rw [if_neg h0]
    by_cases h1 : T < 0
    · rw [if_pos (by simpa using h1)]
      rw [Int.natCast_mul, ← Int.neg_mul]; congr 1; omega
    · rw [if_neg (by simpa using h1)]
      rw [Int.natCast_mul]; congr 1; omega
theorem mul_near {x y : Nat} (hx : fin x) (hy : fin y) : ∃ r, double.mul x y = some r ∧ r < 2 ^ 64 ∧ Near r (fv x * fv y) 2148 := by
  obtain ⟨m, p, e1, p1, v1⟩ := read_fin hx
  obtain ⟨n, q, e2, q1, v2⟩ := read_fin hy
  have hp := fv_read v1
  have hq := fv_read v2
  have h : double.mul x y = some (double.nearest (fneg x ^^ fneg y) (m * n) (p + q)) := by
    unfold Format.mul; rw [e1, e2]; rfl
  refine ⟨_, h, double.mul_lt h, ?_⟩
  refine near_nearest _ _ _ 2148 (by omega) (by omega) _ ?_
  rw [hp, hq]
  have e : m * n * 2 ^ (p + q + (2148 : Nat) : Int).toNat = (m * 2 ^ (p + 1074).toNat) * (n * 2 ^ (q + 1074).toNat) := by
    have : (p + q + (2148 : Nat) : Int).toNat = (p + 1074).toNat + (q + 1074).toNat := by omega
    rw [this, Nat.pow_add]
    simp only [Nat.mul_assoc, Nat.mul_left_comm]
  rw [e]
  cases fneg x <;> cases fneg y <;> simp [Int.natCast_mul, Int.neg_mul, Int.mul_neg]
/-- what stands beside the nearest word -/
theorem Near.below {r : Nat} {N : Int} {t : Nat} (h : Near r N t) (hr : -(infR : Int) < sr r) : fvr (sr r - 1) * (2 ^ (t - 1074) : Nat) < N := by
  obtain ⟨h0, h1, h2⟩ := h
  have : sr r ≤ infR := by unfold num at h0; unfold sr; split <;> omega
  rcases Int.lt_or_le (fvr (sr r - 1) * (2 ^ (t - 1074) : Nat)) N with h | h
  · exact h
  · have := h2 (sr r - 1) (by omega) (by omega) h; omega
theorem Near.above {r : Nat} {N : Int} {t : Nat} (h : Near r N t) (hr : sr r < (infR : Int)) : N < fvr (sr r + 1) * (2 ^ (t - 1074) : Nat) := by
  obtain ⟨h0, h1, h2⟩ := h
  have : -(infR : Int) ≤ sr r := by unfold num at h0; unfold sr; split <;> omega
  rcases Int.lt_or_le N (fvr (sr r + 1) * (2 ^ (t - 1074) : Nat)) with h | h
  · exact h
  · have := h1 (sr r + 1) (by omega) (by omega) h; omega
end Go.Proofs.YtgodkfgnhpnhcaaGreatDoor
