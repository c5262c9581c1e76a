/- A part of the proof: contracts of functions and plain laws (NatD, NatE, NatF, NatG, NatH, NatI, NatJ). -/
import Derived.Test.YtgodkfgnhpnhcaaGreatDoorJ01
import Derived.Test.YtgodkfgnhpnhcaaGreatDoorShelf
import Derived.Shelf.Spec.TrailingZeros
import Derived.Laws.Bits64b
set_option linter.unusedVariables false
set_option linter.unusedSimpArgs false
namespace Go.Proofs.YtgodkfgnhpnhcaaGreatDoor
open Go.RowKit
/-- the table of the library that TrailingZeros64 reads -/
def Tab (w : World) : Prop := TabAt 1 Lib.deBruijn64tab w
theorem Tab.keep {w w' : World} (h : Tab w) (hb : ∀ b, b < w.heap.size → w'.heap[b]? = w.heap[b]?) : Tab w' := by
  intro j hj
  have h1 := h j hj
  exact (World.cell?_of_block (w := w) (w' := w') (hb _ (World.block_lt_of_cell? w _ h1))).trans h1
theorem Tab.below {w w' : World} (h : Tab w) (hb : Below w.heap.size w w') : Tab w' := h.keep hb.block
set_option maxHeartbeats 1000000 in
theorem tz64_core (x k idx : Nat) (w : World) (hx0 : ((x : Int) == 0) = false)
    (key : IntKind.u64.wrap (Go.bits BinOp.and IntKind.u64 (x : Int) (IntKind.u64.wrap (-(x : Int))) * 285870213051353865) / 288230376151711744 = (idx : Int))
    (hi : idx < 64) (hk : k < 64) (hcell : w.cell? ⟨1, idx, none⟩ = some (.int .u8 k)) :
    Calls Tryz.prog 218 #[.int .u64 x] w fun e w' => e = .returned (.int .i64 k) ∧ w' = w := by
  go_enter Tryz.func218, Tryz.ntmps218
  go_wp2_with (simp only [key])
  go_ret
  exact ⟨rfl, rfl⟩
theorem tz64_any (x : Nat) (hx : x < 18446744073709551616) (hx0 : x ≠ 0) (w : World) (hT : Tab w) :
    Calls Tryz.prog 218 #[.int .u64 x] w fun e w' => e = .returned (.int .i64 (Lib.ctz 64 x)) ∧ w' = w := by
  obtain ⟨hlow, hk⟩ := Lib.lowest_bit 64 x hx0 hx
  obtain ⟨hi, htab⟩ := Lib.deBruijn64_at _ hk
  have hcell := hT _ hi
  rw [htab] at hcell
  exact tz64_core x _ _ w (by simp; omega) (tz64_key x _ hx hx0 hlow) hi hk hcell

def cmpN (a b : Nat) : Int := if a < b then -1 else if b < a then 1 else 0
/-- a number comes back; the world has drawn at most -/
def RetI (w : World) (n : Int) (e : Ending) (w' : World) : Prop := e = .returned (.int .i64 n) ∧ ∃ k, w' = w.drewN k
theorem RetI.of {w : World} {n m : Int} {k : Nat} (h : m = n) : RetI w n (.returned (.int .i64 m)) (w.drewN k) := by subst h; exact ⟨rfl, k, rfl⟩
theorem RetI.ofw {w w' : World} {n m : Int} (h : m = n) (hw : ∃ k, w' = w.drewN k) : RetI w n (.returned (.int .i64 m)) w' := by subst h; exact ⟨rfl, hw⟩
theorem RetI.of0 {w : World} {n m : Int} (h : m = n) : RetI w n (.returned (.int .i64 m)) w := by subst h; exact ⟨rfl, 0, rfl⟩
set_option maxHeartbeats 800000 in
theorem cmp_any {p q : Nat → Prop} {va vb : Value} {xs ys : List Nat} {w : World} (hx : NatP p w va xs) (hy : NatP q w vb ys) :
    Calls Tryz.prog 268 #[va, vb] w (RetI w (cmpN (val xs) (val ys))) := by
  go_enter Tryz.func268, Tryz.ntmps268
  go_wp2_with fail
  refine (trim_any hx).mono ?_
  rintro e w1 ⟨rfl, v1, xs1, rfl, hv1, ht1, hval1, -⟩
  go_wp2_with fail
  refine (trim_any hy).mono ?_
  rintro e w1 ⟨rfl, v2, ys1, rfl, hv2, ht2, hval2, -⟩
  have HV1 := Lib.hid hval1; have HV2 := Lib.hid hval2
  clear hval1 hval2 hx hy
  have ho1 := hv1.ok; have ho2 := hv2.ok
  obtain ⟨A1, c1, rfl, l1, l1', -, hc1⟩ := hv1
  obtain ⟨A2, c2, rfl, l2, l2', -, hc2⟩ := hv2
  obtain ⟨l1', l1b⟩ := l1'; obtain ⟨l2', l2b⟩ := l2'
  have HT1 := Lib.hid ht1; have HT2 := Lib.hid ht2; have HO1 := Lib.hid ho1; have HO2 := Lib.hid ho2; have HC1 := Lib.hid hc1; have HC2 := Lib.hid hc2
  clear ht1 ht2 ho1 ho2 hc1 hc2
  rcases Nat.lt_trichotomy xs1.length ys1.length with h | h | h
  · have hb : ((xs1.length : Int) != (ys1.length : Int)) = true := by simp; omega
    go_wp2
    go_ret
    have := val_lt_of_len xs1 ys1 HO1.out HT2.out h
    exact RetI.of0 (by rw [← HV1.out, ← HV2.out]; unfold cmpN; rw [if_pos this])
  · have hb : ((xs1.length : Int) != (ys1.length : Int)) = false := by simp; omega
    have HL := Lib.hid h; clear h
    have hlx : xs1.length ≤ 1099511627776 := by omega
    go_wp2
    go_loopw [5] (fun i wr => ∃ k n : Nat, k ≤ xs1.length ∧ i = .int .i64 ((k : Int) - 1) ∧ wr = w.drewN n ∧ Hid (xs1.drop k = ys1.drop k)) (fun i _ => (intOf i + 1).toNat)
    case atStart => exact ⟨xs1.length, 0, Nat.le_refl _, rfl, rfl, Lib.hid (by rw [List.drop_of_length_le (Nat.le_refl _), List.drop_of_length_le (by rw [HL.out]; exact Nat.le_refl _)])⟩
    case round =>
      obtain ⟨k, n, hk, rfl, rfl, hd⟩ := hrel
      rcases Nat.eq_zero_or_pos k with h0 | h0
      · subst h0
        go_wp2
        go_ret
        have := hd.out
        rw [List.drop_zero, List.drop_zero] at this
        exact RetI.of (by rw [← HV1.out, ← HV2.out, this]; unfold cmpN; rw [if_neg (by omega), if_neg (by omega)])
      · obtain ⟨j, rfl⟩ : ∃ j, k = j + 1 := ⟨k - 1, by omega⟩
        obtain ⟨b1, o1, rfl, -, -, hcell1⟩ := HC1.out (by omega)
        obtain ⟨b2, o2, rfl, -, -, hcell2⟩ := HC2.out (by rw [← HL.out]; omega)
        have g1 := hcell1 j (by omega)
        have g2 := hcell2 j (by rw [← HL.out]; omega)
        have hjy : j < ys1.length := by rw [← HL.out]; omega
        clear hcell1 hcell2
        have e1 : lim xs1 j = (xs1[j] : Int) := lim_eq (by omega)
        have e2 : lim ys1 j = (ys1[j] : Int) := lim_eq hjy
        have E1 := Lib.hid e1; have E2 := Lib.hid e2
        clear e1 e2
        have hlxy := HL.out
        rcases Int.lt_trichotomy (lim xs1 j) (lim ys1 j) with hlt | heq | hgt
        · go_wp2
          go_quiet (fail)
          go_wp2
          go_ret
          have := val_cmp_at xs1 ys1 j HO1.out HL.out (by omega) hd.out (by have := E1.out; have := E2.out; omega)
          exact RetI.ofw (hw := ⟨_, by simp only [World.drewN_drewN]; rfl⟩) (by rw [← HV1.out, ← HV2.out]; unfold cmpN; rw [if_pos this])
        · have hd' : Hid (xs1.drop j = ys1.drop j) := by
            refine Lib.hid ?_
            rw [List.drop_eq_getElem_cons (by omega : j < xs1.length), List.drop_eq_getElem_cons hjy, hd.out]
            congr 1
            have := E1.out; have := E2.out; omega
          have q1 : ¬ lim xs1 j < lim ys1 j := by omega
          have q2 : ¬ lim ys1 j < lim xs1 j := by omega
          clear heq hlxy
          go_wp2
          go_quiet (fail)
          go_wp2
          go_quiet (fail)
          go_wp2
          go_roundw
          case rel => exact ⟨j, _, by omega, by go_num, rfl, hd'⟩
          case measure => simp [intOf]
        · have q1 : ¬ lim xs1 j < lim ys1 j := by omega
          go_wp2
          go_quiet (fail)
          go_wp2
          go_quiet (fail)
          go_wp2
          go_ret
          have := val_cmp_at ys1 xs1 j HO2.out HL.out.symm hjy hd.out.symm (by have := E1.out; have := E2.out; omega)
          exact RetI.ofw (hw := ⟨_, by simp only [World.drewN_drewN]; rfl⟩) (by rw [← HV1.out, ← HV2.out]; unfold cmpN; rw [if_neg (by omega), if_pos this])
  · have hb : ((xs1.length : Int) != (ys1.length : Int)) = true := by simp; omega
    go_wp2
    go_ret
    have := val_lt_of_len ys1 xs1 HO2.out HT1.out h
    exact RetI.of0 (by rw [← HV1.out, ← HV2.out]; unfold cmpN; rw [if_neg (by omega), if_pos this])
theorem bits_half (x : Nat) (h : x ≠ 0) : bits x = 1 + bits (x / 2) := by
  unfold bits
  rw [if_neg h, Nat.log2_def x]
  split
  · rename_i h2
    rw [if_neg (by omega)]; omega
  · rw [if_pos (by omega)]
theorem lib_bitLen (n : Nat) (hn : n < 2 ^ 64) : Lib.bitLen n = bits n := by
  induction n using Nat.strongRecOn with
  | ind n ih =>
    by_cases h : n = 0
    · subst h; rfl
    · rw [Lib.bitLen_half n h hn, bits_half n h, ih (n / 2) (by omega) (by omega)]
set_option maxHeartbeats 400000 in
theorem bits_any {p : Nat → Prop} {va : Value} {xs : List Nat} {w : World} (hx : NatP p w va xs) :
    Calls Tryz.prog 178 #[va] w (RetI w (bits (val xs))) := by
  go_enter Tryz.func178, Tryz.ntmps178
  go_wp2_with fail
  refine (trim_any hx).mono ?_
  rintro e w1 ⟨rfl, v1, xs1, rfl, hv1, ht1, hval1, -⟩
  have HV1 := Lib.hid hval1
  clear hval1 hx
  have ho1 := hv1.ok
  obtain ⟨A1, c1, rfl, l1, l1', -, hc1⟩ := hv1
  obtain ⟨l1', l1b⟩ := l1'
  have HT1 := Lib.hid ht1; have HO1 := Lib.hid ho1
  clear ht1 ho1
  rcases Nat.eq_zero_or_pos xs1.length with h | h
  · have hn := List.eq_nil_of_length_eq_zero h
    subst hn
    clear h
    go_wp2
    go_ret
    exact RetI.of0 (by rw [← HV1.out]; rfl)
  · have hb : ((xs1.length : Int) == 0) = false := beq_eq_false_iff_ne.2 (by omega)
    obtain ⟨b1, o1, rfl, -, -, hcell1⟩ := hc1 h
    have g1 := hcell1 (xs1.length - 1) (by omega)
    clear hcell1 hc1
    have hne : xs1 ≠ [] := List.length_pos_iff.1 h
    obtain ⟨u, hu⟩ : ∃ u : Nat, u = xs1.getLast hne := ⟨_, rfl⟩
    have hul : lim xs1 (xs1.length - 1) = (u : Int) := by
      rw [lim_eq (by omega), hu, List.getLast_eq_getElem]
    have hub := (lim_lt HO1.out (xs1.length - 1)).2
    rw [hul] at g1 hub
    have hub' : u < 2 ^ 64 := by omega
    have hbb : bits u ≤ 64 := by rw [bits_le_iff]; exact hub'
    have hlb := lib_bitLen u hub'
    have HB := Lib.hid (bits_val_tr xs1 HO1.out HT1.out hne)
    rw [← hu] at HB
    clear hul hub'
    have hlen := Lib.hid hlb
    clear hlb hu hne
    go_wp2_with (go_at_call 199; refine (Tryz.bits_Len64 (u : Int) _ (by omega) (by omega)).mono ?_; rintro e w' ⟨rfl, rfl⟩; rw [Int.toNat_natCast, hlen.out])
    go_ret
    refine RetI.of0 ?_
    rw [← HV1.out, HB.out]
    omega
end Go.Proofs.YtgodkfgnhpnhcaaGreatDoor
namespace Go.Proofs.YtgodkfgnhpnhcaaGreatDoor
open Go.RowKit
theorem shl_or {u v : Int} {r : Nat} (hu : 0 ≤ u ∧ u < 18446744073709551616) (hv : 0 ≤ v) :
    Go.bits BinOp.or IntKind.u64 u (IntKind.u64.wrap (v * 2 ^ r)) = ((u.toNat ||| (v.toNat * 2 ^ r) % B64 : Nat) : Int) := by
  obtain ⟨U, rfl⟩ := Int.eq_ofNat_of_zero_le hu.1
  obtain ⟨V, rfl⟩ := Int.eq_ofNat_of_zero_le hv
  have e : IntKind.u64.wrap ((V : Int) * 2 ^ r) = ((V * 2 ^ r % B64 : Nat) : Int) := by
    rw [IntKind.wrap_u64, Int.natCast_emod, Int.natCast_mul, Int.natCast_pow]; rfl
  rw [e, show B64 = 18446744073709551616 from rfl, bits_or_u64_nat _ _ (by omega) (Nat.mod_lt _ (by omega))]
  simp only [Int.toNat_natCast]
theorem shr_nat {v : Int} {r : Nat} (hv : 0 ≤ v) : v / 2 ^ r = ((v.toNat / 2 ^ r : Nat) : Int) := by
  obtain ⟨V, rfl⟩ := Int.eq_ofNat_of_zero_le hv
  simp
theorem or_in (a b : Nat) (ha : a < B64) : 0 ≤ ((a ||| b % B64 : Nat) : Int) ∧ ((a ||| b % B64 : Nat) : Int) < 18446744073709551616 := by
  have h := or_lt_B64 a (b % B64) ha (Nat.mod_lt _ B64_pos)
  unfold B64 at h
  unfold B64
  omega
theorem u64_lt {x : Nat} (h : x < B64) : (x : Int) < 18446744073709551616 := by unfold B64 at h; omega
theorem left_keep (ys : List Nat) (i a b : Nat) (hz : ∀ j, i < j → j < ys.length → lim ys j = 0) : ∀ j, i + 1 < j → j < ((ys.set i a).set (i + 1) b).length → lim ((ys.set i a).set (i + 1) b) j = 0 := by
  intro j h1 h2
  rw [List.length_set, List.length_set] at h2
  have := hz j (by omega) h2
  rw [lim_eq (by rw [List.length_set, List.length_set]; exact h2), List.getElem_set_ne (by omega), List.getElem_set_ne (by omega)]
  rwa [lim_eq h2] at this
set_option maxHeartbeats 800000 in
theorem left_pos {p : Nat → Prop} {va : Value} {xs : List Nat} {n : Nat} {w : World} (hx : NatP p w va xs) (hn : xs.length + n / 64 < 1099511627776) (hpos : 0 < xs.length) :
    Calls Tryz.prog 247 #[va, .int .i64 n] w (RetN w.heap.size w (val xs * 2 ^ n)) := by
  have hok := Lib.hid hx.ok
  obtain ⟨A, c, rfl, h2, h3, -, h5⟩ := hx
  obtain ⟨h3, h3b⟩ := h3
  have hb : ((xs.length : Int) == 0) = false := beq_eq_false_iff_ne.2 (by omega)
  obtain ⟨b, off, rfl, -, hblt, hcell⟩ := h5 hpos
  have HC := Lib.hid hcell; clear hcell h5
  go_enter Tryz.func247, Tryz.ntmps247
  go_wp2_with (at_make; refine wpList_makeN _ rfl (.tmp 22) (.tmp 22) rfl .i64 .i64 _ (xs.length + n / 64 + 1) rfl rfl (by omega) (by omega) w.heap.size w (Below.refl _ _) (Nat.le_refl _) ?_; intro w1 hO1 hb1 hbb1 hs1)
  go_loopw [26] (fun i wr => ∃ (k : Nat) (ys : List Nat), k ≤ xs.length ∧ i = .int .i64 k ∧ Hid (OwnN wr w.heap.size ys) ∧ Hid (ys.length = xs.length + n / 64 + 1) ∧ Hid (Below w.heap.size w wr) ∧
      Hid (val ys = val (xs.take k) * 2 ^ (n % 64) * B64 ^ (n / 64)) ∧ Hid (lim ys (k + n / 64) < 2 ^ (n % 64)) ∧ Hid (∀ j, k + n / 64 < j → j < ys.length → lim ys j = 0)) (fun i _ => xs.length - (intOf i).toNat)
  case atStart =>
    have e : ∀ j, lim (List.replicate (xs.length + n / 64 + 1) 0) j = 0 := fun j => by unfold lim; rw [List.getD_eq_getElem?_getD, List.getElem?_replicate]; split <;> rfl
    exact ⟨0, _, Nat.zero_le _, rfl, hO1, Lib.hid (by simp), Lib.hid hb1, Lib.hid (by rw [val_replicate_zero]; simp [val]), Lib.hid (by rw [e]; exact Int.pow_pos (by omega)), Lib.hid (fun j _ _ => e j)⟩
  case round =>
    obtain ⟨k, ys, hk, rfl, hO, hL, hB, hV, hS, hZ⟩ := hrel
    by_cases hlt : k < xs.length
    · have hcx : wr.cell? ⟨b, off + k, none⟩ = some (.int .u64 (lim xs k)) := (hB.out.cell (p := ⟨b, off + k, none⟩) hblt).trans (HC.out k hlt)
      have hL' := hL.out
      have hcz : wr.cell? ⟨w.heap.size, k + n / 64, none⟩ = some (.int .u64 (lim ys (k + n / 64))) := hO.out.cell (by omega)
      have hcz2 : wr.cell? ⟨w.heap.size, k + n / 64 + 1, none⟩ = some (.int .u64 (lim ys (k + n / 64 + 1))) := hO.out.cell (by omega)
      have hfz := fun i => hO.out.frozen i
      have bx := lim_lt hok.out k
      have bz := lim_lt hO.out.2 (k + n / 64)
      have hi1 : k + n / 64 + 1 < ys.length := by omega
      have hr : n % 64 ≤ 64 := by omega
      have ex := lim_eq hlt
      have ez := lim_eq (xs := ys) (k := k + n / 64) (by omega)
      have hv64 : xs[k] < B64 := hok.out.get k hlt
      have hst := left_step ys (k + n / 64) xs[k] (n % 64) hi1 hr (by have := hS.out; rw [ez] at this; exact_mod_cast this) (by have := hZ.out (k + n / 64 + 1) (by omega) hi1; rw [lim_eq hi1] at this; omega)
      have e1 : Go.bits BinOp.or IntKind.u64 (lim ys (k + n / 64)) (IntKind.u64.wrap (lim xs k * 2 ^ (n % 64))) = ((ys[k + n / 64] ||| (xs[k] * 2 ^ (n % 64)) % B64 : Nat) : Int) := by
        rw [shl_or bz bx.1, ex, ez]; simp
      have e2 : lim xs k / 2 ^ (64 - n % 64) = ((xs[k] / 2 ^ (64 - n % 64) : Nat) : Int) := by rw [shr_nat bx.1, ex]; simp
      have hhs := high_small xs[k] (n % 64) hv64 hr
      have hb1' := or_in ys[k + n / 64] (xs[k] * 2 ^ (n % 64)) (hO.out.2.get _ _)
      have hb2' : xs[k] / 2 ^ (64 - n % 64) < B64 := Nat.lt_of_le_of_lt (Nat.div_le_self _ _) hv64
      have hO' := (hO.out.set_ (k + n / 64) hb1'.1 hb1'.2).set_ (k + n / 64 + 1) (x := ((xs[k] / 2 ^ (64 - n % 64) : Nat) : Int)) (Int.natCast_nonneg _) (u64_lt hb2')
      rw [Int.toNat_natCast, Int.toNat_natCast, ← e1, ← e2] at hO'
      have HO := Lib.hid hO'
      have HB := Lib.hid ((hB.out.setCell (p := ⟨w.heap.size, k + n / 64, none⟩) (Nat.le_refl _) (.int .u64 (Go.bits BinOp.or IntKind.u64 (lim ys (k + n / 64)) (IntKind.u64.wrap (lim xs k * 2 ^ (n % 64)))))).setCell (p := ⟨w.heap.size, k + n / 64 + 1, none⟩) (Nat.le_refl _) (.int .u64 (lim xs k / 2 ^ (64 - n % 64))))
      have HV : Hid (val ((ys.set (k + n / 64) (ys[k + n / 64] ||| (xs[k] * 2 ^ (n % 64)) % B64)).set (k + n / 64 + 1) (xs[k] / 2 ^ (64 - n % 64))) = val (xs.take (k + 1)) * 2 ^ (n % 64) * B64 ^ (n / 64)) := by
        refine Lib.hid ?_
        rw [hst, hV.out, val_take_succ xs k hlt, Nat.pow_add]
        grind
      have HS : Hid (lim ((ys.set (k + n / 64) (ys[k + n / 64] ||| (xs[k] * 2 ^ (n % 64)) % B64)).set (k + n / 64 + 1) (xs[k] / 2 ^ (64 - n % 64))) (k + 1 + n / 64) < 2 ^ (n % 64)) := by
        refine Lib.hid ?_
        have e3 : k + 1 + n / 64 = k + n / 64 + 1 := by omega
        rw [e3, lim_eq (by rw [List.length_set, List.length_set]; exact hi1), List.getElem_set_self]
        exact_mod_cast hhs
      have HZ := Lib.hid (left_keep ys (k + n / 64) (ys[k + n / 64] ||| (xs[k] * 2 ^ (n % 64)) % B64) (xs[k] / 2 ^ (64 - n % 64)) hZ.out)
      clear ex ez hv64 hst e1 e2 hhs hb1' hb2' hO'
      go_wp2
      go_roundw
      case rel => exact ⟨k + 1, _, by omega, by go_num, HO, Lib.hid (by rw [List.length_set, List.length_set]; exact hL.out), HB, HV, HS, Lib.hid (fun j h1 h2 => HZ.out j (by omega) h2)⟩
      case measure => simp [intOf]; omega
    · have : k = xs.length := by omega
      subst this
      go_wp2_with fail
      refine (trim_any (hO.out.natP (p := fun b => w.heap.size ≤ b) hL.out (Nat.le_refl _) (by omega) (Nat.le_refl _))).mono ?_
      rintro e w4 ⟨rfl, v, ys', rfl, hv4, ht4, hval, -⟩
      go_wp2
      go_ret
      refine RetN.of hB.out hv4 ht4 ?_
      rw [hval, hV.out, List.take_length, Nat.mul_assoc, B64_eq, ← Nat.pow_mul, ← Nat.pow_add, Nat.mod_add_div]
theorem left_any {p : Nat → Prop} {va : Value} {xs : List Nat} {n : Nat} {w : World} (hx : NatP p w va xs) (hn : xs.length + n / 64 < 1099511627776) :
    Calls Tryz.prog 247 #[va, .int .i64 n] w (RetN w.heap.size w (val xs * 2 ^ n)) := by
  rcases Nat.eq_zero_or_pos xs.length with h | h
  · have hn := List.eq_nil_of_length_eq_zero h
    subst hn
    obtain ⟨A, c, rfl, h2, h3, -, h5⟩ := hx
    clear h h2 h3 h5
    go_enter Tryz.func247, Tryz.ntmps247
    go_wp2
    go_ret
    exact RetN.of (Below.refl _ _) (NatP.nil w) Tr.nil (by simp [val])
  · exact left_pos hx hn h
end Go.Proofs.YtgodkfgnhpnhcaaGreatDoor
namespace Go.Proofs.YtgodkfgnhpnhcaaGreatDoor
open Go.RowKit
def lx (xs : List Nat) (i : Nat) : Nat := xs.getD i 0
theorem lim_lx (xs : List Nat) (i : Nat) : lim xs i = (lx xs i : Int) := rfl
theorem lx_lt {xs : List Nat} (h : OkL xs) (i : Nat) : lx xs i < B64 := by
  have := lim_lt h i
  rw [lim_lx] at this; unfold B64; omega
theorem lx_none {xs : List Nat} {i : Nat} (h : xs.length ≤ i) : lx xs i = 0 := by unfold lx; rw [List.getD_eq_getElem?_getD, List.getElem?_eq_none h]; rfl
theorem lx_get {xs : List Nat} {i : Nat} (h : i < xs.length) : lx xs i = xs[i] := by unfold lx; rw [List.getD_eq_getElem?_getD, List.getElem?_eq_getElem h]; rfl
/-- one limb more of the quotient -/
theorem right_step (ys xs : List Nat) (k s r : Nat) (hk : k < ys.length) (hks : k + s < xs.length) (hx : OkL xs) (hr : r ≤ 64)
    (h : val (ys.take k) * 2 ^ r + lx xs s % 2 ^ r = val ((xs.drop s).take k) + (lx xs (k + s) % 2 ^ r) * B64 ^ k) :
    val ((ys.set k (rlimb (lx xs (k + s)) (lx xs (k + s + 1)) r)).take (k + 1)) * 2 ^ r + lx xs s % 2 ^ r = val ((xs.drop s).take (k + 1)) + (lx xs (k + 1 + s) % 2 ^ r) * B64 ^ (k + 1) := by
  rw [val_take_succ _ k (by rw [List.length_set]; exact hk), val_take_succ (xs.drop s) k (by rw [List.length_drop]; omega), List.getElem_set_self, List.take_set_of_le (by omega : k ≤ k), List.getElem_drop]
  have e : s + k = k + s := Nat.add_comm _ _
  have e2 : k + 1 + s = k + s + 1 := by omega
  have hk2 := rlimb_eq (lx xs (k + s)) (lx xs (k + s + 1)) r (lx_lt hx _) hr
  rw [e2, Nat.pow_succ]
  have e3 : xs[s + k] = lx xs (k + s) := by rw [lx_get hks]; congr 1
  rw [e3]
  exact right_alg _ _ _ _ _ _ _ _ 0 _ _ h hk2
theorem right_end (ys xs : List Nat) (s r : Nat) (hl : ys.length = xs.length - s) (hs : s < xs.length) (hx : OkL xs)
    (h : val (ys.take (xs.length - s)) * 2 ^ r + lx xs s % 2 ^ r = val ((xs.drop s).take (xs.length - s)) + (lx xs (xs.length - s + s) % 2 ^ r) * B64 ^ (xs.length - s)) :
    val ys = val xs / (B64 ^ s * 2 ^ r) := by
  have e0 : xs.length - s + s = xs.length := by omega
  rw [e0, lx_none (Nat.le_refl _), Nat.zero_mod, Nat.zero_mul, Nat.add_zero, List.take_of_length_le (by omega), List.take_of_length_le (by rw [List.length_drop]; omega)] at h
  have hm := Nat.mod_lt (lx xs s) (Nat.two_pow_pos r)
  have h1 : val (xs.drop s) / 2 ^ r = val ys := by
    rw [← h, Nat.mul_comm, Nat.mul_add_div (Nat.two_pow_pos r), Nat.div_eq_of_lt hm, Nat.add_zero]
  have h2 : val xs / B64 ^ s = val (xs.drop s) := by
    rw [val_take_drop xs s (by omega), Nat.add_comm, Nat.mul_add_div (Nat.pow_pos B64_pos)]
    have := val_lt (xs.take s) (hx.take s)
    rw [List.length_take, Nat.min_eq_left (by omega)] at this
    rw [Nat.div_eq_of_lt this, Nat.add_zero]
  rw [← Nat.div_div_eq_div_mul, h2, h1]
theorem pow_split (n : Nat) : B64 ^ (n / 64) * 2 ^ (n % 64) = 2 ^ n := by
  rw [B64_eq, ← Nat.pow_mul, ← Nat.pow_add, Nat.div_add_mod]
set_option maxHeartbeats 1600000 in
theorem right_core {p : Nat → Prop} {va : Value} {xs : List Nat} {n : Nat} {w : World} (hx : NatP p w va xs) (hn : n / 64 < xs.length) :
    Calls Tryz.prog 248 #[va, .int .i64 n] w (RetN w.heap.size w (val xs / 2 ^ n)) := by
  have hok := Lib.hid hx.ok
  obtain ⟨A, c, rfl, h2, h3, -, h5⟩ := hx
  obtain ⟨h3, h3b⟩ := h3
  obtain ⟨b, off, rfl, -, hblt, hcell⟩ := h5 (by omega)
  have HC := Lib.hid hcell; clear hcell h5
  go_enter Tryz.func248, Tryz.ntmps248
  go_wp2_with (at_make; refine wpList_makeN _ rfl (.tmp 21) (.tmp 21) rfl .i64 .i64 _ (xs.length - n / 64) rfl rfl (by omega) (by omega) w.heap.size w (Below.refl _ _) (Nat.le_refl _) ?_; intro w1 hO1 hb1 hbb1 hs1)
  go_loopw [25] (fun i wr => ∃ (k : Nat) (ys : List Nat), k ≤ xs.length - n / 64 ∧ i = .int .i64 k ∧ Hid (OwnN wr w.heap.size ys) ∧ Hid (ys.length = xs.length - n / 64) ∧ Hid (Below w.heap.size w wr) ∧
      Hid (val (ys.take k) * 2 ^ (n % 64) + lx xs (n / 64) % 2 ^ (n % 64) = val ((xs.drop (n / 64)).take k) + (lx xs (k + n / 64) % 2 ^ (n % 64)) * B64 ^ k)) (fun i _ => xs.length - n / 64 - (intOf i).toNat)
  case atStart => exact ⟨0, _, Nat.zero_le _, rfl, hO1, Lib.hid (by simp), Lib.hid hb1, Lib.hid (by simp [val])⟩
  case round =>
    obtain ⟨k, ys, hk, rfl, hO, hL, hB, hV⟩ := hrel
    by_cases hlt : k < xs.length - n / 64
    · have hcx : wr.cell? ⟨b, off + (k + n / 64), none⟩ = some (.int .u64 (lim xs (k + n / 64))) := (hB.out.cell (p := ⟨b, off + (k + n / 64), none⟩) hblt).trans (HC.out _ (by omega))
      have hL' := hL.out
      have hcz : wr.cell? ⟨w.heap.size, k, none⟩ = some (.int .u64 (lim ys k)) := hO.out.cell (by omega)
      have hfz := fun i => hO.out.frozen i
      have bx := lim_lt hok.out (k + n / 64)
      have hst := right_step ys xs k (n / 64) (n % 64) (by omega) (by omega) hok.out (by omega) hV.out
      have e1 : lim xs (k + n / 64) / 2 ^ (n % 64) = ((lx xs (k + n / 64) / 2 ^ (n % 64) : Nat) : Int) := by rw [shr_nat bx.1, lim_lx]; simp
      have hq : lx xs (k + n / 64) / 2 ^ (n % 64) < B64 := Nat.lt_of_le_of_lt (Nat.div_le_self _ _) (lx_lt hok.out _)
      by_cases hlt2 : k + n / 64 + 1 < xs.length
      · have hcx2 : wr.cell? ⟨b, off + (k + n / 64 + 1), none⟩ = some (.int .u64 (lim xs (k + n / 64 + 1))) := (hB.out.cell (p := ⟨b, off + (k + n / 64 + 1), none⟩) hblt).trans (HC.out _ hlt2)
        have bx2 := lim_lt hok.out (k + n / 64 + 1)
        have e2 : Go.bits BinOp.or IntKind.u64 (lim xs (k + n / 64) / 2 ^ (n % 64)) (IntKind.u64.wrap (lim xs (k + n / 64 + 1) * 2 ^ (64 - n % 64))) = ((rlimb (lx xs (k + n / 64)) (lx xs (k + n / 64 + 1)) (n % 64) : Nat) : Int) := by
          rw [e1, shl_or ⟨Int.natCast_nonneg _, u64_lt hq⟩ bx2.1]; rfl
        have hO' := (hO.out.set_ k (x := ((lx xs (k + n / 64) / 2 ^ (n % 64) : Nat) : Int)) (Int.natCast_nonneg _) (u64_lt hq)).set_ k (x := ((rlimb (lx xs (k + n / 64)) (lx xs (k + n / 64 + 1)) (n % 64) : Nat) : Int)) (Int.natCast_nonneg _) (u64_lt (rlimb_lt _ _ _ (lx_lt hok.out _)))
        rw [Int.toNat_natCast, Int.toNat_natCast, ← e1, ← e2, List.set_set] at hO'
        have HO := Lib.hid hO'
        have HB := Lib.hid ((hB.out.setCell (p := ⟨w.heap.size, k, none⟩) (Nat.le_refl _) (.int .u64 (lim xs (k + n / 64) / 2 ^ (n % 64)))).setCell (p := ⟨w.heap.size, k, none⟩) (Nat.le_refl _) (.int .u64 (Go.bits BinOp.or IntKind.u64 (lim xs (k + n / 64) / 2 ^ (n % 64)) (IntKind.u64.wrap (lim xs (k + n / 64 + 1) * 2 ^ (64 - n % 64))))))
        have HV := Lib.hid hst
        clear hL' hst e1 e2 hq hO'
        go_wp2
        go_region
        all_goals go_wp2
        go_roundw
        case rel => exact ⟨k + 1, _, by omega, by go_num, HO, Lib.hid (by rw [List.length_set]; exact hL.out), Lib.hid HB.out.drew, HV⟩
        case measure => simp [intOf]; omega
      · have e3 : rlimb (lx xs (k + n / 64)) (lx xs (k + n / 64 + 1)) (n % 64) = lx xs (k + n / 64) / 2 ^ (n % 64) := by
          rw [lx_none (i := k + n / 64 + 1) (by omega)]; unfold rlimb; simp
        rw [e3] at hst
        have hO' := hO.out.set_ k (x := ((lx xs (k + n / 64) / 2 ^ (n % 64) : Nat) : Int)) (Int.natCast_nonneg _) (u64_lt hq)
        rw [Int.toNat_natCast, ← e1] at hO'
        have HO := Lib.hid hO'
        have HB := Lib.hid (hB.out.setCell (p := ⟨w.heap.size, k, none⟩) (Nat.le_refl _) (.int .u64 (lim xs (k + n / 64) / 2 ^ (n % 64))))
        have HV := Lib.hid hst
        clear hL' hst e1 e3 hq hO'
        go_wp2
        go_roundw
        case rel => exact ⟨k + 1, _, by omega, by go_num, HO, Lib.hid (by rw [List.length_set]; exact hL.out), HB, HV⟩
        case measure => simp [intOf]; omega
    · obtain rfl : k = xs.length - n / 64 := by omega
      go_wp2_with fail
      refine (trim_any (hO.out.natP (p := fun b => w.heap.size ≤ b) hL.out (Nat.le_refl _) (by omega) (Nat.le_refl _))).mono ?_
      rintro e w4 ⟨rfl, v, ys', rfl, hv4, ht4, hval, -⟩
      go_wp2
      go_ret
      refine RetN.of hB.out hv4 ht4 ?_
      rw [hval, right_end ys xs _ _ hL.out hn hok.out hV.out, pow_split]
theorem right_any {p : Nat → Prop} {va : Value} {xs : List Nat} {n : Nat} {w : World} (hx : NatP p w va xs) (hn : n ≤ 9223372036854775807) :
    Calls Tryz.prog 248 #[va, .int .i64 n] w (RetN w.heap.size w (val xs / 2 ^ n)) := by
  rcases Nat.lt_or_ge (n / 64) xs.length with h | h
  · exact right_core hx h
  · have hv : val xs / 2 ^ n = 0 := by
      have h1 := val_lt xs hx.ok
      have h2 : B64 ^ xs.length ≤ B64 ^ (n / 64) := Nat.pow_le_pow_right B64_pos h
      have h3 : B64 ^ (n / 64) * 1 ≤ B64 ^ (n / 64) * 2 ^ (n % 64) := Nat.mul_le_mul_left _ (Nat.two_pow_pos _)
      rw [pow_split] at h3
      exact Nat.div_eq_of_lt (by omega)
    rw [hv]
    clear hv
    obtain ⟨A, c, rfl, h2, h3, -, h5⟩ := hx
    obtain ⟨h3, h3b⟩ := h3
    clear h5
    go_enter Tryz.func248, Tryz.ntmps248
    go_wp2
    go_ret
    exact RetN.of (Below.refl _ _) (NatP.nil w) Tr.nil rfl
end Go.Proofs.YtgodkfgnhpnhcaaGreatDoor
namespace Go.Proofs.YtgodkfgnhpnhcaaGreatDoor
open Go.RowKit
theorem sub_step (zs xs ys : List Nat) (k : Nat) (d : Int) (b b' : Int) (hk : k < zs.length) (hky : k < ys.length) (h0 : 0 ≤ b) (h0' : 0 ≤ b') (hd0 : 0 ≤ d)
    (hs : d + lim ys k + b = lim zs k + 18446744073709551616 * b') (h : val zs + val (ys.take k) = val xs + b.toNat * B64 ^ k) :
    val (zs.set k d.toNat) + val (ys.take (k + 1)) = val xs + b'.toNat * B64 ^ (k + 1) := by
  have h1 := val_set zs k d.toNat hk
  rw [val_take_succ ys k hky, Nat.pow_succ]
  rw [lim_eq hk, lim_eq hky] at hs
  have e : d.toNat + ys[k] + b.toNat = zs[k] + B64 * b'.toNat := by unfold B64; omega
  generalize B64 ^ k = P at *
  generalize val (zs.set k d.toNat) = a1 at *
  generalize val zs = a2 at *
  generalize val xs = a3 at *
  generalize val (ys.take k) = a4 at *
  generalize ys[k] = a5 at *
  generalize zs[k] = a6 at *
  generalize d.toNat = a7 at *
  generalize b.toNat = a8 at *
  generalize b'.toNat = a9 at *
  generalize B64 = B at *
  clear hs h0 h0' hd0 hk hky
  have e2 : (a7 + a5 + a8) * P = (a6 + B * a9) * P := by rw [e]
  grind
theorem sub_step2 (zs xs ys : List Nat) (k : Nat) (hk : k < zs.length) (hz : OkL zs) (h : val zs + val ys = val xs + (1 : Int).toNat * B64 ^ k) :
    val (zs.set k (subD (lim zs k) 0 1).toNat) + val ys = val xs + (subB (lim zs k) 0 1).toNat * B64 ^ (k + 1) := by
  have h1 := val_set zs k (subD (lim zs k) 0 1).toNat hk
  have hl := lim_lt hz k
  have hs := sub_law (x := lim zs k) (y := 0) (b := 1) hl (by omega) (by omega)
  have hd := subD_in (lim zs k) 0 1
  have hb := subB_in (lim zs k) 0 1
  rw [Nat.pow_succ]
  rw [lim_eq hk] at *
  have e : (subD (zs[k] : Int) 0 1).toNat + 1 = zs[k] + B64 * (subB (zs[k] : Int) 0 1).toNat := by unfold B64; omega
  simp only [Int.toNat_one, Nat.one_mul] at h
  generalize (subD (zs[k] : Int) 0 1).toNat = d at *
  generalize (subB (zs[k] : Int) 0 1).toNat = b' at *
  generalize B64 ^ k = P at *
  generalize val (zs.set k d) = a1 at *
  generalize val zs = a2 at *
  generalize val xs = a3 at *
  generalize val ys = a4 at *
  generalize zs[k] = a6 at *
  generalize B64 = B at *
  clear hs hd hb hl hk hz
  have e2 : (d + 1) * P = (a6 + B * b') * P := by rw [e]
  grind
set_option maxHeartbeats 1600000 in
theorem sub_any {p q : Nat → Prop} {va vb : Value} {xs ys : List Nat} {w : World} (hx : NatP p w va xs) (hy : NatP q w vb ys) (hl : ys.length ≤ xs.length) (hle : val ys ≤ val xs) :
    Calls Tryz.prog 273 #[va, vb] w (RetN w.heap.size w (val xs - val ys)) := by
  have hx' := Lib.hid hx
  have hoy := hy.ok
  have hle' := Lib.hid hle; clear hle
  obtain ⟨A, c, rfl, h2, h3, -, -⟩ := hx
  obtain ⟨h3, h3b⟩ := h3
  obtain ⟨A', c', rfl, h2', h3', -, h5'⟩ := hy
  obtain ⟨h3', h3b'⟩ := h3'
  have H5 := Lib.hid h5'; clear h5'
  go_enter Tryz.func273, Tryz.ntmps273
  go_wp2_with (first
    | (at_make; refine wpList_makeN _ rfl (.tmp 11) (.tmp 11) rfl .i64 .i64 _ xs.length rfl rfl (by omega) (by omega) w.heap.size w (Below.refl _ _) (Nat.le_refl _) ?_; intro w1 hO1 hb1 hbb1 hs1)
    | (with_reducible refine wpList_copyN (w := w1) rfl (.tmp 13) (.tmp 14) rfl w.heap.size _ _ _ _ xs rfl rfl hO1.out (by simp) (hx'.out.below hb1) (by simp) w.heap.size w hb1 (Nat.le_refl _) ?_; intro w2 hO2 hb2)
    | fail)
  have hO2' : Hid (OwnN w2 w.heap.size xs) := by have := hO2.out; rw [drop_zeros, Nat.sub_self] at this; simpa using Lib.hid this
  clear hO2 hO1 hb1 hbb1 hs1
  go_loopw [6, 18] (fun b i wr => ∃ (k : Nat) (bo : Int) (zs : List Nat), k ≤ ys.length ∧ i = .int .i64 k ∧ b = .int .u64 bo ∧ 0 ≤ bo ∧ bo ≤ 1 ∧ Hid (OwnN wr w.heap.size zs) ∧ Hid (zs.length = xs.length) ∧ Hid (Below w.heap.size w wr) ∧
      Hid (val zs + val (ys.take k) = val xs + bo.toNat * B64 ^ k)) (fun _ i _ => ys.length - (intOf i).toNat)
  case atStart => exact ⟨0, 0, xs, Nat.zero_le _, rfl, rfl, by omega, by omega, hO2', Lib.hid rfl, Lib.hid hb2, Lib.hid (by simp [val])⟩
  case round =>
    obtain ⟨k, bo, zs, hk, rfl, rfl, hb0, hb1, hO, hL, hB, hV⟩ := hrel
    by_cases hlt : k < ys.length
    · obtain ⟨b, off, rfl, -, hblt, hcell⟩ := H5.out (by omega)
      have hcx : wr.cell? ⟨b, off + k, none⟩ = some (.int .u64 (lim ys k)) := (hB.out.cell (p := ⟨b, off + k, none⟩) hblt).trans (hcell k hlt)
      clear hcell
      have hcz : wr.cell? ⟨w.heap.size, k, none⟩ = some (.int .u64 (lim zs k)) := hO.out.cell (by rw [hL.out]; omega)
      have hfz : wr.frozen? ⟨w.heap.size, k, none⟩ = false := hO.out.frozen _
      have bx := lim_lt hoy k
      have bz := lim_lt hO.out.2 k
      have hsub := fun w => sub64_run bz bx ⟨hb0, hb1⟩ w
      have bs := subD_in (lim zs k) (lim ys k) bo
      have bc := subB_in (lim zs k) (lim ys k) bo
      have HV := Lib.hid (sub_step zs xs ys k _ bo _ (by rw [hL.out]; omega) hlt hb0 bc.1 bs.1 (sub_law bz bx ⟨hb0, hb1⟩) hV.out)
      have HO := Lib.hid (hO.out.set_ k bs.1 bs.2)
      have HB := Lib.hid (hB.out.setCell (p := ⟨w.heap.size, k, none⟩) (Nat.le_refl _) (.int .u64 (subD (lim zs k) (lim ys k) bo)))
      go_wp2
      go_roundw
      case rel => exact ⟨k + 1, _, _, by omega, by go_num, rfl, bc.1, bc.2, HO, Lib.hid (by rw [List.length_set]; exact hL.out), HB, HV⟩
      case measure => simp [intOf]; omega
    · obtain rfl : k = ys.length := by omega
      clear H5 hoy hb2 hO2'
      go_wp2_with fail
      go_loopw [6, 9] (fun b i wr => ∃ (j : Nat) (bo : Int) (zs : List Nat), j ≤ xs.length ∧ i = .int .i64 j ∧ b = .int .u64 bo ∧ 0 ≤ bo ∧ bo ≤ 1 ∧ Hid (OwnN wr w.heap.size zs) ∧ Hid (zs.length = xs.length) ∧ Hid (Below w.heap.size w wr) ∧
        Hid (val zs + val ys = val xs + bo.toNat * B64 ^ j)) (fun _ i _ => xs.length - (intOf i).toNat)
      case atStart => exact ⟨ys.length, bo, zs, hl, rfl, rfl, hb0, hb1, hO, hL, hB, Lib.hid (by have := hV.out; rwa [List.take_length] at this)⟩
      case round =>
        clear hO hL hB hV hb0 hb1
        obtain ⟨j, bo, zs, hj, rfl, rfl, hb0, hb1, hO, hL, hB, hV⟩ := hrel
        have hcy : bo = 0 ∨ bo = 1 := by omega
        rcases hcy with rfl | rfl
        · go_wp2_with fail
          refine (trim_any (hO.out.natP (p := fun b => w.heap.size ≤ b) hL.out (Nat.le_refl _) (by omega) (Nat.le_refl _))).mono ?_
          rintro e w4 ⟨rfl, v, ys', rfl, hv4, ht4, hval, -⟩
          go_wp2
          go_ret
          refine RetN.of hB.out hv4 ht4 ?_
          have := hV.out
          simp at this
          omega
        · have hlt : j < xs.length := by
            rcases Nat.lt_or_ge j xs.length with h | h
            · exact h
            · exfalso
              have e1 : j = xs.length := by omega
              have e2 := hV.out
              have e3 := val_lt zs hO.out.2
              have e4 := hle'.out
              rw [hL.out] at e3
              rw [e1] at e2
              simp only [Int.toNat_one, Nat.one_mul] at e2
              omega
          have hcz : wr.cell? ⟨w.heap.size, j, none⟩ = some (.int .u64 (lim zs j)) := hO.out.cell (by rw [hL.out]; exact hlt)
          have hfz : wr.frozen? ⟨w.heap.size, j, none⟩ = false := hO.out.frozen _
          have bz := lim_lt hO.out.2 j
          have hsub := fun w => sub64_run (y := 0) bz (by omega) ⟨hb0, hb1⟩ w
          have bs := subD_in (lim zs j) 0 1
          have bc := subB_in (lim zs j) 0 1
          have HV := Lib.hid (sub_step2 zs xs ys j (by rw [hL.out]; exact hlt) hO.out.2 hV.out)
          have HO := Lib.hid (hO.out.set_ j bs.1 bs.2)
          have HB := Lib.hid (hB.out.setCell (p := ⟨w.heap.size, j, none⟩) (Nat.le_refl _) (.int .u64 (subD (lim zs j) 0 1)))
          go_wp2
          go_roundw
          case rel => exact ⟨j + 1, _, _, by omega, by go_num, rfl, bc.1, bc.2, HO, Lib.hid (by rw [List.length_set]; exact hL.out), HB, HV⟩
          case measure => simp [intOf]; omega
end Go.Proofs.YtgodkfgnhpnhcaaGreatDoor
namespace Go.Proofs.YtgodkfgnhpnhcaaGreatDoor
open Go.RowKit
theorem low_val (xs : List Nat) (k : Nat) (hk : k < xs.length) (hx : OkL xs) (hz : ∀ j, j < k → lim xs j = 0) (hv : lx xs k ≠ 0) : ctz (val xs) = 64 * k + Lib.ctz 64 (lx xs k) := by
  have hlt := lx_lt hx k
  obtain ⟨m, hm, hc⟩ := Lib.ctzFrom_spec 64 (lx xs k) (by omega) (by rw [← B64_eq]; exact hlt)
  have e0 : Lib.ctz 64 (lx xs k) = Lib.ctzFrom 64 (lx xs k) := by unfold Lib.ctz; rw [if_neg hv]
  rw [e0]
  generalize Lib.ctzFrom 64 (lx xs k) = c at *
  have ht : val (xs.take k) = 0 := by
    have : ∀ ys : List Nat, (∀ y ∈ ys, y = 0) → val ys = 0 := by
      intro ys
      induction ys with
      | nil => intro _; rfl
      | cons y ys ih => intro h; simp only [val]; rw [h y (by simp), ih (fun z hz => h z (by simp [hz]))]; simp
    apply this
    intro y hy
    obtain ⟨j, hj, rfl⟩ := List.getElem_of_mem hy
    rw [List.length_take] at hj
    have := hz j (by omega)
    rw [lim_eq (by omega)] at this
    rw [List.getElem_take]; omega
  have hd : xs.drop k = lx xs k :: xs.drop (k + 1) := by rw [lx_get hk]; exact List.drop_eq_getElem_cons hk
  have e : val xs = 2 ^ (64 * k + c) * (2 * (m + 2 ^ (63 - c) * val (xs.drop (k + 1))) + 1) := by
    rw [val_take_drop xs k (by omega), ht, hd]
    simp only [val]
    have e2 : B64 = 2 ^ c * (2 * 2 ^ (63 - c)) := by
      rw [B64_eq, ← Nat.pow_succ', ← Nat.pow_add]; congr 1; omega
    have e3 : B64 ^ k = 2 ^ (64 * k) := by rw [B64_eq, ← Nat.pow_mul]
    rw [e3, Nat.pow_add]
    conv => lhs; rw [hm]
    rw [e2]
    generalize 2 ^ (64 * k) = P
    generalize 2 ^ c = C
    generalize 2 ^ (63 - c) = D
    generalize val (xs.drop (k + 1)) = R
    grind
  rw [e, ctz_of]
set_option maxHeartbeats 800000 in
theorem low_any {p : Nat → Prop} {va : Value} {xs : List Nat} {w : World} (hx : NatP p w va xs) (hT : Tab w) :
    Calls Tryz.prog 179 #[va] w (RetI w (ctz (val xs))) := by
  have hok := Lib.hid hx.ok
  have HT := Lib.hid hT; clear hT
  obtain ⟨A, c, rfl, h2, h3, -, h5⟩ := hx
  obtain ⟨h3, h3b⟩ := h3
  have H5 := Lib.hid h5; clear h5
  go_enter Tryz.func179, Tryz.ntmps179
  go_wp2_with fail
  go_loop [7] (fun i => ∃ k : Nat, k ≤ xs.length ∧ i = .int .i64 k ∧ Hid (∀ j, j < k → lim xs j = 0)) (fun i => xs.length - (intOf i).toNat)
  case atStart => exact ⟨0, Nat.zero_le _, rfl, Lib.hid (fun j hj => absurd hj (by omega))⟩
  case round =>
    obtain ⟨k, hk, rfl, hZ⟩ := hrel
    by_cases hlt : k < xs.length
    · obtain ⟨b, off, rfl, -, hblt, hcell⟩ := H5.out (by omega)
      have hcx := hcell k hlt
      rw [lim_lx] at hcx
      clear hcell
      have bx := lx_lt hok.out k
      by_cases h0 : lx xs k = 0
      · have hb : (((lx xs k : Nat) : Int) != 0) = false := by rw [h0]; rfl
        rw [h0] at hcx
        have hZ' : Hid (∀ j, j < k + 1 → lim xs j = 0) := Lib.hid fun j hj => by
          rcases Nat.lt_or_ge j k with h | h
          · exact hZ.out j h
          · have : j = k := by omega
            subst this; rw [lim_lx, h0]; rfl
        clear hb h0 bx
        go_wp2
        go_round
        case rel => exact ⟨k + 1, by omega, by go_num, hZ'⟩
        case measure => simp [intOf]; omega
      · have hb : (((lx xs k : Nat) : Int) != 0) = true := by rw [bne_iff_ne]; omega
        have hv := Lib.hid (low_val xs k hlt hok.out hZ.out h0)
        obtain ⟨u, hu⟩ : ∃ u : Nat, u = lx xs k := ⟨_, rfl⟩
        rw [← hu] at hcx hb bx h0 hv
        clear hu
        have hc64 : Lib.ctz 64 u ≤ 64 := by
          unfold Lib.ctz; rw [if_neg h0]
          obtain ⟨m, hm, hc⟩ := Lib.ctzFrom_spec 64 u (by omega) (by rw [← B64_eq]; exact bx)
          omega
        go_wp2_with (go_at_call 218; refine (tz64_any u bx h0 _ HT.out).mono ?_; rintro e w' ⟨rfl, rfl⟩)
        go_ret
        refine RetI.of0 ?_
        rw [hv.out]; omega
    · go_wp2
      go_ret
      refine RetI.of0 ?_
      have e : val xs = 0 := by
        have := val_take_zeros xs 0 (Nat.zero_le _) (fun j _ hj => hZ.out j (by omega))
        rw [← this]; rfl
      rw [e]; rfl

/-- append(Nat(nil), v...) -/
theorem wpList_appendN {p : Nat → Prop} {w : World} {ops : Array Oper} {rest : List Oper} {o : Oper} {a : Act} {Q : Exit → Act → World → Prop} (hgd : o.guard = none) (s x : Operand)
    (ho : o.op = .call { callee := .builtin .append, args := #[s, x], argTypes := #[168, 168] }) (v : Value) (xs : List Nat)
    (hs : a.eval s = .slice none 0 0) (hv : a.eval x = v) (hx : NatP p w v xs)
    (h : ∀ v' w', NatP (fun b => w.heap.size ≤ b) w' v' xs → Below w.heap.size w w' → wpList Tryz.prog ops Q rest (a.put o.dst v') w') : wpList Tryz.prog ops Q (o :: rest) a w := by
  obtain ⟨i0, hi, hz0, hz1, hz2⟩ := info_parts info_u64
  have hlen := hx.len
  have hok := hx.ok
  obtain ⟨A, c, rfl, h2, h3, -, h5⟩ := hx
  refine wpList_plain hgd fun K hK => ?_
  have key : ∃ v' w', (Builtin.append_ #[168, 168] o.type #[.slice none 0 0, .slice A xs.length c]).run Tryz.prog w = .ok v' w' ∧ NatP (fun b => w.heap.size ≤ b) w' v' xs ∧ Below w.heap.size w w' := by
    rcases A with _ | ad
    · have hn : xs = [] := by
        rcases Nat.eq_zero_or_pos xs.length with h0 | h0
        · exact List.eq_nil_of_length_eq_zero h0
        · obtain ⟨b, off, e, _⟩ := h5 h0; cases e
      subst hn
      refine ⟨.slice none 0 0, w, ?_, NatP.nil w, Below.refl _ _⟩
      simp [Builtin.append_, run_underlying und_nat, sizeOf, typeInfo, hi, Builtin.lenOf, Builtin.firstCells]
    · have hnews : ∀ j u, (xs.map fun (x : Nat) => Value.int .u64 (x : Int))[j]? = some u → w.cell? (ad.add j) = some u := by
        intro j u hu
        have hj : j < xs.length := by
          rcases Nat.lt_or_ge j xs.length with h | h
          · exact h
          · rw [List.getElem?_eq_none (by simpa using h)] at hu; cases hu
        obtain ⟨b, off, e, _, _, hc⟩ := h5 (by omega)
        obtain rfl : ad = ⟨b, off, none⟩ := Option.some.inj e
        rw [Addr.add_lit, hc j hj, lim_eq hj]
        rw [List.getElem?_map, List.getElem?_eq_getElem hj] at hu
        simpa using hu
      obtain ⟨v', w', hrun, hown, hg, _, _⟩ := run_append_own_at (P := Tryz.prog) w w.heap.size _ o.type 196 i0 (.int .u64 0) 1 8 und_nat hi hz0 hz1 hz2 rfl (by omega) (.slice none 0 0) 0 []
        (World.ownsRow_nil w _ _ _) ad xs.length c (xs.map fun (x : Nat) => Value.int .u64 (x : Int)) (by simp) hnews (by intro u hu; obtain ⟨x, _, rfl⟩ := List.mem_map.1 hu; rfl) (by simp only [maxLen]; omega) (by omega) (Nat.le_refl _)
      refine ⟨v', w', hrun, ?_, (Below.refl _ _).grown hg (Nat.le_refl _) (by simp [Value.ownBlock])⟩
      simp only [Nat.zero_add, List.nil_append] at hown
      rcases hown.2 with ⟨rfl, h0⟩ | ⟨g, cap, cur, rfl, hbg, hh, hnc, hcm, hcs, htake⟩
      · have hn := List.eq_nil_of_length_eq_zero h0
        subst hn
        exact NatP.nil w'
      · refine ⟨_, cap, rfl, hnc, ⟨hlen, by simp only [maxLen] at hcm; omega⟩, hok, fun hpos => ⟨g, 0, rfl, hbg, (Array.getElem?_eq_some_iff.1 hh).1, fun k hk => ?_⟩⟩
        have := hown.cells (g := g) rfl k (.int .u64 (lim xs k)) (by rw [lim_eq hk]; simp [hk])
        rwa [Addr.add_lit] at this
  obtain ⟨v', w', hrun, hN, hB⟩ := key
  unfold Oper.wp execOp
  simp only [ho, resolve, invoke, builtin, Sem.run_bind, Sem.run_pure, Result.andThen_ok, List.map_toArray, List.map_cons, List.map_nil, hs, hv, hrun]
  exact hK _ _ (h v' w' hN hB)
set_option maxHeartbeats 400000 in
theorem of_any {p : Nat → Prop} {va : Value} {xs : List Nat} {w : World} (hx : NatP p w va xs) :
    Calls Tryz.prog 219 #[va] w (RetN w.heap.size w (val xs)) := by
  go_enter Tryz.func219, Tryz.ntmps219
  go_wp2_with fail
  refine (trim_any hx).mono ?_
  rintro e w1 ⟨rfl, v1, xs1, rfl, hv1, ht1, hval1, -⟩
  have HV := Lib.hid hval1; clear hval1 hx
  have HN := Lib.hid hv1; clear hv1
  go_wp2_with (at_builtin; refine wpList_appendN rfl _ _ rfl v1 xs1 rfl rfl HN.out ?_; intro v2 w2 hn2 hb2)
  go_ret
  exact RetN.of hb2 hn2 ht1 HV.out
end Go.Proofs.YtgodkfgnhpnhcaaGreatDoor
namespace Go.Proofs.YtgodkfgnhpnhcaaGreatDoor
open Go.RowKit
def mulH (x y : Nat) : Nat := x * y / B64
def mulL (x y : Nat) : Nat := x * y % B64
theorem mul64_any (x y : Nat) (hx : x < B64) (hy : y < B64) (w : World) :
    Calls Tryz.prog 288 #[.int .u64 x, .int .u64 y] w fun e w' => e = .returned (.tuple #[.int .u64 (mulH x y : Nat), .int .u64 (mulL x y : Nat)]) ∧ w' = w :=
  Tryz.bits_Mul64 x y hx hy w
theorem mul_hl (x y : Nat) : B64 * mulH x y + mulL x y = x * y := Nat.div_add_mod _ _
theorem mulH_lt (x y : Nat) (hx : x < B64) (hy : y < B64) : mulH x y + 2 ≤ B64 := by
  unfold mulH
  have h1 : x * y ≤ (B64 - 1) * (B64 - 1) := Nat.mul_le_mul (by omega) (by omega)
  have h2 : x * y / B64 ≤ (B64 - 1) * (B64 - 1) / B64 := Nat.div_le_div_right h1
  have h3 : (B64 - 1) * (B64 - 1) / B64 = B64 - 2 := by decide
  have := B64_pos
  have h4 : B64 - 2 + 2 = B64 := by decide
  omega
theorem mulL_lt (x y : Nat) : mulL x y < B64 := Nat.mod_lt _ B64_pos
/-- a digit of the product: what two Add64 and the high part come to -/
theorem school_digit (x y z cy : Nat) (hx : x < B64) (hy : y < B64) (hz : z < B64) (hc : cy < B64) :
    let s1 := addS (mulL x y : Nat) (z : Nat) 0; let c1 := addC (mulL x y : Nat) (z : Nat) 0
    let s2 := addS s1 (cy : Nat) 0; let c2 := addC s1 (cy : Nat) 0
    s2 + 18446744073709551616 * ((mulH x y : Nat) + c1 + c2) = (x * y + z + cy : Nat) ∧ (mulH x y : Nat) + c1 ≤ 18446744073709551615 ∧ (mulH x y : Nat) + c1 + c2 ≤ 18446744073709551615 ∧ 0 ≤ c1 ∧ 0 ≤ c2 ∧ 0 ≤ s2 ∧ s2 < 18446744073709551616 ∧ 0 ≤ s1 ∧ s1 < 18446744073709551616 := by
  intro s1 c1 s2 c2
  have h1 := mul_hl x y
  have h2 := mulL_lt x y
  have h3 : x * y ≤ (B64 - 1) * (B64 - 1) := Nat.mul_le_mul (by omega) (by omega)
  have h4 : (B64 - 1) * (B64 - 1) + 2 * (B64 - 1) + 1 = B64 * B64 := by decide
  have hB : B64 = 18446744073709551616 := rfl
  have e1 := add_law (mulL x y : Nat) (z : Nat) 0
  have e2 := add_law s1 (cy : Nat) 0
  have b1 := addS_in (mulL x y : Nat) (z : Nat) 0
  have b2 := addS_in s1 (cy : Nat) 0
  have c1b := addC_in (x := ((mulL x y : Nat) : Int)) (y := ((z : Nat) : Int)) (c := 0) (by omega) (by omega) (by omega)
  have c2b := addC_in (x := s1) (y := ((cy : Nat) : Int)) (c := 0) b1 (by omega) (by omega)
  have hs1 : s1 = addS (mulL x y : Nat) (z : Nat) 0 := rfl
  have hc1 : c1 = addC (mulL x y : Nat) (z : Nat) 0 := rfl
  have hs2 : s2 = addS s1 (cy : Nat) 0 := rfl
  have hc2 : c2 = addC s1 (cy : Nat) 0 := rfl
  rw [← hs1] at e1 b1
  rw [← hc1] at e1 c1b
  rw [← hs2] at e2 b2
  rw [← hc2] at e2 c2b
  clear_value s1 c1 s2 c2
  rw [hB] at h1 h4
  generalize x * y = xy at *
  have h3' : xy ≤ 18446744073709551615 * 18446744073709551615 := h3
  push_cast
  refine ⟨by omega, by omega, by omega, c1b.1, c2b.1, b2.1, b2.2, b1.1, b1.2⟩
theorem school_alg (z' z0 z P s B hi T xv t a : Nat) (h1 : z' + z0 * P = z + s * P) (h2 : s + B * hi = T + z0 + a) (h : z + a * P = t) : z' + hi * (P * B) = t + T * P := by
  have : (s + B * hi) * P = (T + z0 + a) * P := by rw [h2]
  grind
theorem school_step (zs xs ys : List Nat) (i j cy : Nat) (s : Int) (hi : Int) (hij : i + j < zs.length) (hj : j < ys.length) (h0 : 0 ≤ s) (h0' : 0 ≤ hi)
    (hs : s + 18446744073709551616 * hi = (lx xs i * lx ys j + lx zs (i + j) + cy : Nat))
    (h : val zs + cy * B64 ^ (i + j) = val (xs.take i) * val ys + lx xs i * val (ys.take j) * B64 ^ i) :
    val (zs.set (i + j) s.toNat) + hi.toNat * B64 ^ (i + (j + 1)) = val (xs.take i) * val ys + lx xs i * val (ys.take (j + 1)) * B64 ^ i := by
  have h1 := val_set zs (i + j) s.toNat hij
  rw [← lx_get hij] at h1
  rw [val_take_succ ys j hj, ← lx_get hj]
  have e : s.toNat + B64 * hi.toNat = lx xs i * lx ys j + lx zs (i + j) + cy := by unfold B64; omega
  have e2 : B64 ^ (i + (j + 1)) = B64 ^ (i + j) * B64 := by rw [← Nat.add_assoc, Nat.pow_succ]
  rw [e2, school_alg _ _ _ _ _ _ _ _ 0 _ _ h1 e h, Nat.pow_add]
  grind
theorem zeros_set (zs : List Nat) (i m x : Nat) (him : i < m) (hz : ∀ j, m ≤ j → j < zs.length → lx zs j = 0) : ∀ j, m ≤ j → j < (zs.set i x).length → lx (zs.set i x) j = 0 := by
  intro j h1 h2
  rw [List.length_set] at h2
  have := hz j h1 h2
  rw [lx_get (by rw [List.length_set]; exact h2), List.getElem_set_ne (by omega)]
  rwa [lx_get h2] at this
set_option maxHeartbeats 3200000 in
theorem school_any {p q : Nat → Prop} {va vb : Value} {xs ys : List Nat} {w : World} (hx : NatP p w va xs) (hy : NatP q w vb ys) (hL : xs.length + ys.length ≤ 1099511627776) :
    Calls Tryz.prog 285 #[va, vb] w (RetN w.heap.size w (val xs * val ys)) := by
  have hox := Lib.hid hx.ok
  have hoy := Lib.hid hy.ok
  obtain ⟨A, c, rfl, h2, h3, -, h5⟩ := hx
  obtain ⟨h3, h3b⟩ := h3
  obtain ⟨A', c', rfl, h2', h3', -, h5'⟩ := hy
  obtain ⟨h3', h3b'⟩ := h3'
  have H5 := Lib.hid h5; clear h5
  have H5' := Lib.hid h5'; clear h5'
  go_enter Tryz.func285, Tryz.ntmps285
  go_wp2_with (first
    | (at_make; refine wpList_makeN _ rfl (.tmp 18) (.tmp 18) rfl .i64 .i64 _ (xs.length + ys.length) rfl rfl (by omega) (by omega) w.heap.size w (Below.refl _ _) (Nat.le_refl _) ?_; intro w1 hO1 hb1 hbb1 hs1)
    | fail)
  go_loopw [22] (fun i wr => ∃ (k : Nat) (zs : List Nat), k ≤ xs.length ∧ i = .int .i64 k ∧ Hid (OwnN wr w.heap.size zs) ∧ Hid (zs.length = xs.length + ys.length) ∧ Hid (Below w.heap.size w wr) ∧
      Hid (val zs = val (xs.take k) * val ys) ∧ Hid (∀ j, k + ys.length ≤ j → j < zs.length → lx zs j = 0)) (fun i _ => xs.length - (intOf i).toNat)
  case atStart =>
    exact ⟨0, _, Nat.zero_le _, rfl, hO1, Lib.hid (by simp), Lib.hid hb1, Lib.hid (by rw [val_replicate_zero]; simp [val]), Lib.hid (fun j _ hj => by rw [lx_get hj]; simp)⟩
  case round =>
    obtain ⟨k, zs, hk, rfl, hO, hLz, hB, hV, hZ⟩ := hrel
    by_cases hlt : k < xs.length
    · obtain ⟨b, off, rfl, -, hblt, hcell⟩ := H5.out (by omega)
      have hcx : wr.cell? ⟨b, off + k, none⟩ = some (.int .u64 (lx xs k : Nat)) := (hB.out.cell (p := ⟨b, off + k, none⟩) hblt).trans (hcell k hlt)
      clear hcell
      obtain ⟨wo, rfl⟩ : ∃ wo : World, wo = wr := ⟨_, rfl⟩
      go_wp2_with fail
      go_loopw [8, 29] (fun cc i wr => ∃ (j cy : Nat) (zs : List Nat), j ≤ ys.length ∧ i = .int .i64 j ∧ cc = .int .u64 (cy : Nat) ∧ Hid (cy < B64) ∧ Hid (OwnN wr w.heap.size zs) ∧ Hid (zs.length = xs.length + ys.length) ∧ Hid (Below w.heap.size w wr) ∧
        Hid (val zs + cy * B64 ^ (k + j) = val (xs.take k) * val ys + lx xs k * val (ys.take j) * B64 ^ k) ∧ Hid (∀ j, k + ys.length ≤ j → j < zs.length → lx zs j = 0)) (fun _ i _ => ys.length - (intOf i).toNat)
      case atStart => exact ⟨0, 0, zs, Nat.zero_le _, rfl, rfl, Lib.hid B64_pos, hO, hLz, hB, Lib.hid (by have := hV.out; simp [val, this]), hZ⟩
      case round =>
        clear hO hLz hB hV hZ hcx
        obtain ⟨j, cy, zs, hj, rfl, rfl, hcy, hO, hLz, hB, hV, hZ⟩ := hrel
        by_cases hjt : j < ys.length
        · obtain ⟨b2, off2, rfl, -, hblt2, hcell2⟩ := H5'.out (by omega)
          have hcy2 : wr.cell? ⟨b2, off2 + j, none⟩ = some (.int .u64 (lx ys j : Nat)) := (hB.out.cell (p := ⟨b2, off2 + j, none⟩) hblt2).trans (hcell2 j hjt)
          clear hcell2
          have hcz : wr.cell? ⟨w.heap.size, k + j, none⟩ = some (.int .u64 (lx zs (k + j) : Nat)) := hO.out.cell (by rw [hLz.out]; omega)
          have hfz : wr.frozen? ⟨w.heap.size, k + j, none⟩ = false := hO.out.frozen _
          have bx := lx_lt hox.out k
          have by_ := lx_lt hoy.out j
          have bz := lx_lt hO.out.2 (k + j)
          have hd := school_digit (lx xs k) (lx ys j) (lx zs (k + j)) cy bx by_ bz hcy.out
          obtain ⟨d1, d2, d3, d4, d5, d6, d7, d8, d9⟩ := hd
          have HV := Lib.hid (school_step zs xs ys k j cy _ _ (by rw [hLz.out]; omega) hjt d6 (by omega) d1 hV.out)
          have HO := Lib.hid (hO.out.set_ (k + j) d6 d7)
          have HB := Lib.hid (hB.out.setCell (p := ⟨w.heap.size, k + j, none⟩) (Nat.le_refl _) (.int .u64 (addS (addS (mulL (lx xs k) (lx ys j) : Nat) (lx zs (k + j) : Nat) 0) (cy : Nat) 0)))
          have HZ := Lib.hid (zeros_set zs (k + j) (k + ys.length) (addS (addS (mulL (lx xs k) (lx ys j) : Nat) (lx zs (k + j) : Nat) 0) (cy : Nat) 0).toNat (by omega) hZ.out)
          clear d1
          have hadd1 := fun w => add64_run (x := ((mulL (lx xs k) (lx ys j) : Nat) : Int)) (y := ((lx zs (k + j) : Nat) : Int)) (c := 0) (Int.natCast_nonneg _) (Int.natCast_nonneg _) (by omega) w
          have hadd2 := fun w => add64_run (x := addS (mulL (lx xs k) (lx ys j) : Nat) (lx zs (k + j) : Nat) 0) (y := ((cy : Nat) : Int)) (c := 0) d8 (Int.natCast_nonneg _) (by omega) w
          go_wp2_with (go_at_call 288; refine (mul64_any (lx xs k) (lx ys j) bx by_ _).mono ?_; rintro e w' ⟨rfl, rfl⟩)
          go_roundw
          case rel => exact ⟨j + 1, _, _, by omega, by go_num, by rw [Int.toNat_of_nonneg (by omega)], Lib.hid (by unfold B64; omega), HO, Lib.hid (by rw [List.length_set]; exact hLz.out), HB, HV, HZ⟩
          case measure => simp [intOf]; omega
        · obtain rfl : j = ys.length := by omega
          have hzl := hLz.out
          have hcz : wr.cell? ⟨w.heap.size, k + ys.length, none⟩ = some (.int .u64 (lx zs (k + ys.length) : Nat)) := hO.out.cell (by omega)
          have hfz : wr.frozen? ⟨w.heap.size, k + ys.length, none⟩ = false := hO.out.frozen _
          have hcy' := u64_lt hcy.out
          have hz0 := hZ.out (k + ys.length) (Nat.le_refl _) (by omega)
          have h1 := val_set zs (k + ys.length) cy (by omega)
          rw [← lx_get (by omega), hz0] at h1
          have hVs : val (zs.set (k + ys.length) cy) = val (xs.take (k + 1)) * val ys := by
            have := hV.out
            rw [List.take_length] at this
            rw [val_take_succ xs k hlt, ← lx_get hlt]
            grind
          have HV := Lib.hid hVs
          have hO' := hO.out.set_ (k + ys.length) (x := ((cy : Nat) : Int)) (Int.natCast_nonneg _) hcy'
          rw [Int.toNat_natCast] at hO'
          have HO := Lib.hid hO'
          have HB := Lib.hid (hB.out.setCell (p := ⟨w.heap.size, k + ys.length, none⟩) (Nat.le_refl _) (.int .u64 (cy : Nat)))
          have HZ : Hid (∀ j, k + 1 + ys.length ≤ j → j < (zs.set (k + ys.length) cy).length → lx (zs.set (k + ys.length) cy) j = 0) :=
            Lib.hid (zeros_set zs (k + ys.length) (k + 1 + ys.length) cy (by omega) (fun j h1 h2 => hZ.out j (by omega) h2))
          clear h1 hVs hO' hz0 hzl hcy'
          go_wp2
          go_roundw
          case rel => exact ⟨k + 1, _, by omega, by go_num, HO, Lib.hid (by rw [List.length_set]; exact hLz.out), HB, HV, HZ⟩
          case measure => simp [intOf]; omega
    · obtain rfl : k = xs.length := by omega
      go_wp2_with fail
      refine (trim_any (hO.out.natP (p := fun b => w.heap.size ≤ b) hLz.out (Nat.le_refl _) (by omega) (Nat.le_refl _))).mono ?_
      rintro e w4 ⟨rfl, v, ys', rfl, hv4, ht4, hval, -⟩
      go_wp2
      go_ret
      exact RetN.of hB.out hv4 ht4 (by rw [hval, hV.out, List.take_length])
end Go.Proofs.YtgodkfgnhpnhcaaGreatDoor
namespace Go.Proofs.YtgodkfgnhpnhcaaGreatDoor
open Go.RowKit
/-- a trimmed number below B^L has L limbs at most -/
theorem tr_len_le (xs : List Nat) (ht : Tr xs) (L : Nat) (h : val xs < B64 ^ L) : xs.length ≤ L := by
  rcases Nat.lt_or_ge L xs.length with h1 | h1
  · exfalso
    have hn : xs ≠ [] := by rintro rfl; simp at h1
    have h2 := val_pos_of_tr xs ht hn
    have h3 : B64 ^ L ≤ B64 ^ (xs.length - 1) := Nat.pow_le_pow_right B64_pos (by omega)
    omega
  · exact h1
theorem tr_len_mono (xs ys : List Nat) (hx : Tr xs) (hy : OkL ys) (h : val xs ≤ val ys) : xs.length ≤ ys.length :=
  tr_len_le xs hx _ (Nat.lt_of_le_of_lt h (val_lt ys hy))
/-- a new number n and a bool come back -/
def RetNB (B : Nat) (w0 : World) (n : Nat) (b : Bool) (e : Ending) (w' : World) : Prop :=
  Below B w0 w' ∧ ∃ v ys, e = .returned (.tuple #[v, .bool b]) ∧ NatP (fun b => B ≤ b) w' v ys ∧ Tr ys ∧ val ys = n
def absDiff (a b : Nat) : Nat := if a < b then b - a else a - b
theorem below_drewN (w : World) (n : Nat) : Below w.heap.size w (w.drewN n) := ⟨rfl, rfl, rfl, Nat.le_refl _, fun _ _ => rfl⟩
set_option maxHeartbeats 800000 in
theorem gap_any {p q : Nat → Prop} {va vb : Value} {xs ys : List Nat} {w : World} (hx : NatP p w va xs) (hy : NatP q w vb ys) :
    Calls Tryz.prog 286 #[va, vb] w (RetNB w.heap.size w (absDiff (val xs) (val ys)) (decide (val xs < val ys))) := by
  go_enter Tryz.func286, Tryz.ntmps286
  go_wp2_with fail
  refine (trim_any hx).mono ?_
  rintro e w1 ⟨rfl, v1, xs1, rfl, hv1, ht1, hval1, -⟩
  go_wp2_with fail
  refine (trim_any hy).mono ?_
  rintro e w1 ⟨rfl, v2, ys1, rfl, hv2, ht2, hval2, -⟩
  have HV1 := Lib.hid hval1; have HV2 := Lib.hid hval2
  have HT1 := Lib.hid ht1; have HT2 := Lib.hid ht2
  have H1 := Lib.hid hv1; have H2 := Lib.hid hv2
  have hlt0 := Lib.hid (show (val xs < val ys) ↔ (val xs1 < val ys1) by rw [hval1, hval2])
  clear hval1 hval2 hx hy ht1 ht2 hv1 hv2
  go_wp2_with fail
  refine (cmp_any H1.out H2.out).mono ?_
  rintro e w1 ⟨rfl, k, rfl⟩
  by_cases h : val xs1 < val ys1
  · have hc : cmpN (val xs1) (val ys1) = -1 := by unfold cmpN; rw [if_pos h]
    rw [hc]
    have h' := Lib.hid h
    clear h hc
    go_wp2_with fail
    refine (sub_any (w := w.drewN k) (H2.out.below (below_drewN w k)) (H1.out.below (below_drewN w k)) (tr_len_mono _ _ HT1.out H2.out.ok (Nat.le_of_lt h'.out)) (Nat.le_of_lt h'.out)).mono ?_
    rintro e w2 ⟨hb, v, zs, rfl, hz, htz, hvz⟩
    have hfin : RetNB w.heap.size w (absDiff (val xs) (val ys)) (decide (val xs < val ys)) (.returned (.tuple #[v, .bool true])) w2 := by
      refine ⟨(below_drewN w k).trans hb, v, zs, ?_, hz, htz, ?_⟩
      · rw [decide_eq_true (hlt0.out.2 h'.out)]
      · rw [hvz]; unfold absDiff; rw [if_pos (hlt0.out.2 h'.out), HV1.out, HV2.out]
    have HF := Lib.hid hfin
    clear hb hz htz hvz hfin
    go_wp2
    go_ret2
    exact HF.out
  · have hc : ¬ cmpN (val xs1) (val ys1) < 0 := by unfold cmpN; rw [if_neg h]; split <;> omega
    obtain ⟨u, hu⟩ : ∃ u, u = cmpN (val xs1) (val ys1) := ⟨_, rfl⟩
    rw [← hu] at hc ⊢
    clear hu
    have h' := Lib.hid h
    clear h
    go_wp2_with fail
    refine (sub_any (w := w.drewN k) (H1.out.below (below_drewN w k)) (H2.out.below (below_drewN w k)) (tr_len_mono _ _ HT2.out H1.out.ok (Nat.le_of_not_lt h'.out)) (Nat.le_of_not_lt h'.out)).mono ?_
    rintro e w2 ⟨hb, v, zs, rfl, hz, htz, hvz⟩
    have hfin : RetNB w.heap.size w (absDiff (val xs) (val ys)) (decide (val xs < val ys)) (.returned (.tuple #[v, .bool false])) w2 := by
      refine ⟨(below_drewN w k).trans hb, v, zs, ?_, hz, htz, ?_⟩
      · rw [decide_eq_false (fun h => h'.out (hlt0.out.1 h))]
      · rw [hvz]; unfold absDiff; rw [if_neg (fun h => h'.out (hlt0.out.1 h)), HV1.out, HV2.out]
    have HF := Lib.hid hfin
    clear hb hz htz hvz hfin
    go_wp2
    go_ret2
    exact HF.out
end Go.Proofs.YtgodkfgnhpnhcaaGreatDoor
