/- A part of the proof: contracts of functions and plain laws (NatK). -/
import Derived.Test.YtgodkfgnhpnhcaaGreatDoorJ02
import Derived.Deep.DeepCutAuto
set_option linter.unusedVariables false
set_option linter.unusedSimpArgs false
namespace Go.Proofs.YtgodkfgnhpnhcaaGreatDoor
open Go.RowKit
theorem NatP.drop {p : Nat → Prop} {w : World} {b off n c : Nat} {xs : List Nat} (h : NatP p w (.slice (some ⟨b, off, none⟩) n c) xs) {m : Nat} (hm : m ≤ n) : NatP p w (.slice (some ⟨b, off + m, none⟩) (n - m) (c - m)) (xs.drop m) := by
  obtain ⟨A, c', h1, h2, h3, h4, h5⟩ := h
  injection h1 with h1 h1n h1c
  subst h1n h1c
  have hl : (xs.drop m).length = xs.length - m := List.length_drop
  refine ⟨some ⟨b, off + m, none⟩, c - m, by rw [hl], by omega, ⟨by have := h3.1; omega, by have := h3.2; omega⟩, h4.drop m, fun hp => ?_⟩
  obtain ⟨b', off', e, hp, hb, hc⟩ := h5 (by omega)
  rw [← h1] at e
  obtain ⟨rfl, rfl⟩ : b = b' ∧ off = off' := by have := Option.some.inj e; exact ⟨congrArg Addr.block this, congrArg Addr.off this⟩
  refine ⟨_, _, rfl, hp, hb, fun k hk => ?_⟩
  have := hc (m + k) (by omega)
  rw [← Nat.add_assoc] at this
  rw [this]
  congr 2
  unfold lim
  rw [List.getD_eq_getElem?_getD, List.getD_eq_getElem?_getD, List.getElem?_drop]
theorem NatP.addr {p : Nat → Prop} {w : World} {v : Value} {xs : List Nat} (h : NatP p w v xs) (hp : 0 < xs.length) : ∃ b off c, v = .slice (some ⟨b, off, none⟩) xs.length c ∧ xs.length ≤ c ∧ xs.length ≤ 1099511627776 ∧ c ≤ 9223372036854775807 := by
  obtain ⟨A, c', h1, h2, h3, h4, h5⟩ := h
  obtain ⟨b', off', e, hp, hb, hc⟩ := h5 hp
  subst e
  exact ⟨b', off', c', h1, h2, h3.1, h3.2⟩
theorem prod_lt {a b la lb : Nat} (ha : a < B64 ^ la) (hb : b < B64 ^ lb) : a * b < B64 ^ (la + lb) := by
  rw [Nat.pow_add]
  rcases Nat.eq_zero_or_pos b with h | h
  · subst h; rw [Nat.mul_zero]; exact Nat.mul_pos (Nat.pow_pos B64_pos) (Nat.pow_pos B64_pos)
  · exact Nat.mul_lt_mul_of_lt_of_le ha (Nat.le_of_lt hb) (Nat.pow_pos B64_pos)
theorem val_cut (xs : List Nat) (m : Nat) (hm : m ≤ xs.length) (hx : OkL xs) : val xs = val (xs.take m) + B64 ^ m * val (xs.drop m) ∧ val (xs.take m) < B64 ^ m ∧ val (xs.drop m) < B64 ^ (xs.length - m) := by
  refine ⟨val_take_drop xs m hm, ?_, ?_⟩
  · have := val_lt (xs.take m) (hx.take m)
    rwa [List.length_take, Nat.min_eq_left hm] at this
  · have := val_lt (xs.drop m) (hx.drop m)
    rwa [List.length_drop] at this
/-- the cross products -/
def crossV (a0 a1 b0 b1 : Nat) : Nat := a0 * b1 + a1 * b0
theorem cross_pos (a0 a1 b0 b1 : Nat) (h : decide (a0 < a1) = decide (b1 < b0)) : a0 * b0 + a1 * b1 + absDiff a0 a1 * absDiff b1 b0 = crossV a0 a1 b0 b1 := by
  unfold absDiff crossV
  by_cases h1 : a0 < a1
  · have h2 : b1 < b0 := by simpa [h1] using h.symm
    rw [if_pos h1, if_pos h2]
    obtain ⟨d, rfl⟩ := Nat.le.dest (Nat.le_of_lt h1)
    obtain ⟨e, rfl⟩ := Nat.le.dest (Nat.le_of_lt h2)
    rw [Nat.add_sub_cancel_left, Nat.add_sub_cancel_left]; grind
  · have h2 : ¬ b1 < b0 := by simpa [h1] using h.symm
    rw [if_neg h1, if_neg h2]
    obtain ⟨d, rfl⟩ := Nat.le.dest (Nat.le_of_not_lt h1)
    obtain ⟨e, rfl⟩ := Nat.le.dest (Nat.le_of_not_lt h2)
    rw [Nat.add_sub_cancel_left, Nat.add_sub_cancel_left]; grind
theorem cross_neg (a0 a1 b0 b1 : Nat) (h : ¬ decide (a0 < a1) = decide (b1 < b0)) : a0 * b0 + a1 * b1 = crossV a0 a1 b0 b1 + absDiff a0 a1 * absDiff b1 b0 := by
  unfold absDiff crossV
  by_cases h1 : a0 < a1
  · have h2 : ¬ b1 < b0 := by simpa [h1] using h
    rw [if_pos h1, if_neg h2]
    obtain ⟨d, rfl⟩ := Nat.le.dest (Nat.le_of_lt h1)
    obtain ⟨e, rfl⟩ := Nat.le.dest (Nat.le_of_not_lt h2)
    rw [Nat.add_sub_cancel_left, Nat.add_sub_cancel_left]; grind
  · have h2 : b1 < b0 := by simpa [h1] using h
    rw [if_neg h1, if_pos h2]
    obtain ⟨d, rfl⟩ := Nat.le.dest (Nat.le_of_not_lt h1)
    obtain ⟨e, rfl⟩ := Nat.le.dest (Nat.le_of_lt h2)
    rw [Nat.add_sub_cancel_left, Nat.add_sub_cancel_left]; grind
theorem mulK_cross (a0 a1 b0 b1 P : Nat) : a0 * b0 + a1 * b1 * (P * P) + crossV a0 a1 b0 b1 * P = (a0 + P * a1) * (b0 + P * b1) := by unfold crossV; grind
theorem mulK_sum {a b c d L : Nat} (h1 : a < B64 ^ c) (h2 : b < B64 ^ d) (hc : c ≤ L) (hd : d ≤ L) : a + b < B64 ^ (L + 1) := by
  have e1 : B64 ^ c ≤ B64 ^ L := Nat.pow_le_pow_right B64_pos hc
  have e2 : B64 ^ d ≤ B64 ^ L := Nat.pow_le_pow_right B64_pos hd
  have e3 : B64 ^ L * 2 ≤ B64 ^ L * B64 := Nat.mul_le_mul_left _ (by unfold B64; omega)
  rw [Nat.pow_succ]; omega
theorem absDiff_lt {a b L : Nat} (ha : a < L) (hb : b < L) : absDiff a b < L := by unfold absDiff; split <;> omega
set_option maxHeartbeats 12800000 in
set_option maxRecDepth 100000 in
theorem mul_step (N : Nat) (ih : ∀ (cut : Nat) (p q : Nat → Prop) (va vb : Value) (xs ys : List Nat) (w : World), 2 ≤ cut → cut ≤ 1099511627776 → NatP p w va xs → NatP q w vb ys → xs.length + ys.length < N →
      Calls Tryz.prog 274 #[.int .i64 cut, va, vb] w (RetN w.heap.size w (val xs * val ys)))
    (cut : Nat) (p q : Nat → Prop) (va vb : Value) (xs ys : List Nat) (w : World) (hc2 : 2 ≤ cut) (hcM : cut ≤ 1099511627776) (hx : NatP p w va xs) (hy : NatP q w vb ys) (hN : xs.length + ys.length ≤ N) (hNM : N ≤ 549755813888) :
    Calls Tryz.prog 274 #[.int .i64 cut, va, vb] w (RetN w.heap.size w (val xs * val ys)) := by
  have IH := Lib.hid ih; clear ih
  go_enter Tryz.func274, Tryz.ntmps274
  go_wp2_with fail
  refine (trim_any hx).mono ?_
  rintro e w1 ⟨rfl, v1, xs1, rfl, hv1, ht1, hval1, hl1⟩
  go_wp2_with fail
  refine (trim_any hy).mono ?_
  rintro e w1 ⟨rfl, v2, ys1, rfl, hv2, ht2, hval2, hl2⟩
  have HV1 := Lib.hid hval1; have HV2 := Lib.hid hval2
  have HT1 := Lib.hid ht1; have HT2 := Lib.hid ht2
  have H1 := Lib.hid (hv1.any.weak (q := fun b => b ≠ w.heap.size) fun b _ h => by omega); have H2 := Lib.hid (hv2.any.weak (q := fun b => b ≠ w.heap.size) fun b _ h => by omega)
  clear hval1 hval2 hx hy ht1 ht2 hv1 hv2
  by_cases hlt : xs1.length < ys1.length
  · obtain ⟨A1, c1, e1, a1, ⟨a1', a1''⟩, -, -⟩ := H2.out
    obtain ⟨A2, c2, e2, a2, ⟨a2', a2''⟩, -, -⟩ := H1.out
    subst e1 e2
    by_cases hcut : xs1.length < cut
    · go_wp2_with fail
      refine (school_any H2.out H1.out (by omega)).mono ?_
      rintro e w2 ⟨hb, v, zs, rfl, hz, htz, hvz⟩
      have HF := Lib.hid (RetN.of (n := val xs * val ys) hb hz htz (by rw [hvz, HV2.out, HV1.out, Nat.mul_comm]))
      clear hb hz htz hvz
      go_wp2
      go_ret
      exact HF.out
    · obtain ⟨b1, o1, c1, e1, -, -, -⟩ := H2.out.addr (by omega)
      injection e1 with e1 _ e1c
      subst e1 e1c
      obtain ⟨b2, o2, c2, e2, -, -, -⟩ := H1.out.addr (by omega)
      injection e2 with e2 _ e2c
      subst e2 e2c
      have OX := Lib.hid H2.out.ok; have OY := Lib.hid H1.out.ok
      have hm1 : (ys1.length + 1) / 2 ≤ ys1.length := by omega
      have k0 : 0 ≤ ((ys1.length : Int) + 1) / 2 := by omega
      have k1 : ((ys1.length : Int) + 1) / 2 ≤ (c1 : Int) := by omega
      have k3 : ((ys1.length : Int) + 1) / 2 ≤ (ys1.length : Int) := by omega
      have k5 : (((ys1.length : Int) + 1) / 2).toNat = (ys1.length + 1) / 2 := by omega
      have k6 : ¬ c1 = (ys1.length + 1) / 2 := by omega
      obtain ⟨m, em⟩ : ∃ m, m = (ys1.length + 1) / 2 := ⟨_, rfl⟩
      have hmX : m ≤ ys1.length := by omega
      have CX := Lib.hid (val_cut ys1 m hmX OX.out)
      have EM := Lib.hid em; clear em
      by_cases hm : xs1.length ≤ (ys1.length + 1) / 2
      · go_wp2_with (at_make; refine wpList_makeN _ rfl (.tmp 43) (.tmp 43) rfl .i64 .i64 _ (ys1.length + xs1.length) rfl rfl (by omega) (by omega) w.heap.size w (Below.refl _ _) (Nat.le_refl _) ?_; intro w1 HZ hb1 hb hs1)
        have HB := Lib.hid hb1; clear hb1
        replace H2 := Lib.hid (NatP.below H2.out hb); replace H1 := Lib.hid (NatP.below H1.out hb); clear hb
        have F1 : Hid (val (ys1.take m) * val xs1 < B64 ^ (ys1.length + xs1.length)) := Lib.hid (Nat.lt_of_lt_of_le (prod_lt CX.out.2.1 (val_lt xs1 OY.out)) (Nat.pow_le_pow_right B64_pos (by omega)))
        have F2 : Hid (val (ys1.drop m) * val xs1 < B64 ^ (ys1.length - m + xs1.length)) := Lib.hid (prod_lt CX.out.2.2 (val_lt xs1 OY.out))
        have F3 : Hid (val ys1 * val xs1 < B64 ^ (ys1.length + xs1.length)) := Lib.hid (prod_lt (val_lt ys1 OX.out) (val_lt xs1 OY.out))
        have F4 : Hid (val ys1 * val xs1 = val (ys1.take m) * val xs1 + val (ys1.drop m) * val xs1 * B64 ^ m) := by refine Lib.hid ?_; rw [CX.out.1]; grind
        rw [EM.out] at F1 F2 F4
        refine (IH.out cut _ _ _ _ _ _ _ hc2 hcM (H2.out.take hm1) H1.out (by simp; omega)).mono ?_
        rintro e w2 ⟨hb, vl, zl, rfl, hzl, htl, hvl⟩
        have LO := Lib.hid (hzl.weak (q := fun b => b ≠ w.heap.size) fun b h _ => by omega)
        have VL := Lib.hid hvl; have TL := Lib.hid htl; clear hvl htl hzl
        replace H2 := Lib.hid (NatP.below H2.out hb); replace H1 := Lib.hid (NatP.below H1.out hb); replace HZ := Lib.hid (OwnN.below HZ.out hb); replace HB := Lib.hid (HB.out.trans (hb.mono HB.out.size)); clear hb
        go_wp2_with fail
        refine (addAt_any (at_ := 0) (by simp) HZ.out LO.out (fun b h => h) (by rw [List.length_replicate, Nat.zero_add]; exact tr_len_le zl TL.out _ (by rw [VL.out]; exact F1.out)) (by simp; omega) (by rw [val_replicate_zero, List.length_replicate, VL.out, Nat.pow_zero, Nat.mul_one, Nat.zero_add]; exact F1.out)).mono ?_
        rintro e w3 ⟨rfl, hg, z3, hO3, hl3, hv3⟩
        replace H2 := Lib.hid (NatP.grown H2.out hg (fun b hb e => hb (by injection e))); replace H1 := Lib.hid (NatP.grown H1.out hg (fun b hb e => hb (by injection e)))
        replace HB := Lib.hid (HB.out.trans (Below.of_grown hg HB.out.size (Nat.le_refl _)))
        have HZ3 := Lib.hid hO3; have HL3 := Lib.hid hl3; have HV3 := Lib.hid hv3
        clear hO3 hl3 hv3 hg HZ
        rw [List.length_replicate] at HL3
        rw [val_replicate_zero, VL.out, Nat.pow_zero, Nat.mul_one, Nat.zero_add] at HV3
        go_wp2_with fail
        refine (IH.out cut _ _ _ _ _ _ _ hc2 hcM (H2.out.drop hm1) H1.out (by simp; omega)).mono ?_
        rintro e w4 ⟨hb, vh, zh, rfl, hzh, hth, hvh⟩
        have HI := Lib.hid (hzh.weak (q := fun b => b ≠ w.heap.size) fun b h _ => by have := HZ3.out.lt; omega)
        have VH := Lib.hid hvh; have TH := Lib.hid hth; clear hvh hth hzh
        replace HZ3 := Lib.hid (OwnN.below HZ3.out hb); replace HB := Lib.hid (HB.out.trans (hb.mono HB.out.size)); clear hb
        go_wp2_with fail
        refine (addAt_any (at_ := (ys1.length + 1) / 2) HL3.out HZ3.out HI.out (fun b h => h) ?_ (by rw [HL3.out]; omega) ?_).mono ?_
        · rw [HL3.out]; have := tr_len_le zh TH.out _ (by rw [VH.out]; exact F2.out); omega
        · rw [HV3.out, VH.out, HL3.out, ← F4.out]; exact F3.out
        rintro e w5 ⟨rfl, hg, z5, hO5, hl5, hv5⟩
        replace HB := Lib.hid (HB.out.trans (Below.of_grown hg HB.out.size (Nat.le_refl _)))
        have HZ5 := Lib.hid hO5; have HL5 := Lib.hid hl5; have HV5 := Lib.hid hv5
        clear hO5 hl5 hv5 hg HZ3
        rw [HL3.out] at HL5
        rw [HV3.out, VH.out, ← F4.out] at HV5
        go_wp2_with fail
        refine (trim_any (HZ5.out.natP (p := fun b => w.heap.size ≤ b) HL5.out (Nat.le_refl _) (by omega) (Nat.le_refl _))).mono ?_
        rintro e w6 ⟨rfl, v, ys', rfl, hv4, ht4, hval, -⟩
        have HF := Lib.hid (RetN.of (n := val xs * val ys) HB.out hv4 ht4 (by rw [hval, HV5.out, HV2.out, HV1.out, Nat.mul_comm]))
        clear hv4 ht4 hval
        go_wp2
        go_ret
        exact HF.out
      · have hm2 : (ys1.length + 1) / 2 ≤ xs1.length := by omega
        have k2 : ((ys1.length : Int) + 1) / 2 ≤ (c2 : Int) := by omega
        have k4 : ((ys1.length : Int) + 1) / 2 ≤ (xs1.length : Int) := by omega
        have k7 : ¬ c2 = (ys1.length + 1) / 2 := by omega
        have hmY : m ≤ xs1.length := by have := EM.out; omega
        have CY := Lib.hid (val_cut xs1 m hmY OY.out)
        have ha1L : val (ys1.drop m) < B64 ^ m := Nat.lt_of_lt_of_le CX.out.2.2 (Nat.pow_le_pow_right B64_pos (by have := EM.out; omega))
        have hb1L : val (xs1.drop m) < B64 ^ m := Nat.lt_of_lt_of_le CY.out.2.2 (Nat.pow_le_pow_right B64_pos (by have := EM.out; omega))
        have AX := Lib.hid (absDiff_lt CX.out.2.1 ha1L); have AY := Lib.hid (absDiff_lt hb1L CY.out.2.1)
        have F1 := Lib.hid (prod_lt CX.out.2.1 CY.out.2.1)
        have F2 := Lib.hid (prod_lt CX.out.2.2 CY.out.2.2)
        have F3 : Hid (val ys1 * val xs1 < B64 ^ (ys1.length + xs1.length)) := Lib.hid (prod_lt (val_lt ys1 OX.out) (val_lt xs1 OY.out))
        have F4 : Hid (val (ys1.take m) * val (xs1.take m) + val (ys1.drop m) * val (xs1.drop m) * (B64 ^ m * B64 ^ m) + crossV (val (ys1.take m)) (val (ys1.drop m)) (val (xs1.take m)) (val (xs1.drop m)) * B64 ^ m = val ys1 * val xs1) := by
          refine Lib.hid ?_; rw [mulK_cross, ← CX.out.1, ← CY.out.1]
        clear ha1L hb1L
        rw [EM.out] at AX AY F1 F2 F4
        go_wp2_with (at_make; refine wpList_makeN _ rfl (.tmp 43) (.tmp 43) rfl .i64 .i64 _ (ys1.length + xs1.length) rfl rfl (by omega) (by omega) w.heap.size w (Below.refl _ _) (Nat.le_refl _) ?_; intro w1 HZ hb1 hb hs1)
        have HB := Lib.hid hb1; clear hb1
        replace H2 := Lib.hid (NatP.below H2.out hb); replace H1 := Lib.hid (NatP.below H1.out hb); clear hb
        go_still_tail 7, (by kernel_rfl)
        change wpList _ _ _ _ _ w1.drew
        have hb : Below w1.heap.size w1 w1.drew := (Below.refl _ _).drew
        generalize w1.drew = w1d at hb ⊢
        replace H2 := Lib.hid (NatP.below H2.out hb); replace H1 := Lib.hid (NatP.below H1.out hb); replace HZ := Lib.hid (OwnN.below HZ.out hb); replace HB := Lib.hid (HB.out.trans (hb.mono HB.out.size)); clear hb hs1
        go_wp2_with fail
        refine (IH.out cut _ _ _ _ _ _ _ hc2 hcM (H2.out.take hm1) (H1.out.take hm2) (by simp; omega)).mono ?_
        rintro e w2 ⟨hb, vl, zl, rfl, hzl, htl, hvl⟩
        have LO := Lib.hid (hzl.weak (q := fun b => b ≠ w.heap.size) fun b h _ => by have := HZ.out.lt; omega)
        have VL := Lib.hid hvl; have TL := Lib.hid htl; clear hvl htl hzl
        replace H2 := Lib.hid (NatP.below H2.out hb); replace H1 := Lib.hid (NatP.below H1.out hb); replace HZ := Lib.hid (OwnN.below HZ.out hb); replace HB := Lib.hid (HB.out.trans (hb.mono HB.out.size)); clear hb
        go_wp2_with fail
        go_still_tail 7, (by kernel_rfl)
        change wpList _ _ _ _ _ w2.drew
        have hb : Below w2.heap.size w2 w2.drew := (Below.refl _ _).drew
        generalize w2.drew = w2d at hb ⊢
        replace H2 := Lib.hid (NatP.below H2.out hb); replace H1 := Lib.hid (NatP.below H1.out hb); replace HZ := Lib.hid (OwnN.below HZ.out hb); replace LO := Lib.hid (NatP.below LO.out hb); replace HB := Lib.hid (HB.out.trans (hb.mono HB.out.size)); clear hb
        go_wp2_with fail
        refine (IH.out cut _ _ _ _ _ _ _ hc2 hcM (H2.out.drop hm1) (H1.out.drop hm2) (by simp; omega)).mono ?_
        rintro e w3 ⟨hb, vh, zh, rfl, hzh, hth, hvh⟩
        have HI := Lib.hid (hzh.weak (q := fun b => b ≠ w.heap.size) fun b h _ => by have := HZ.out.lt; omega)
        have VH := Lib.hid hvh; have TH := Lib.hid hth; clear hvh hth hzh
        replace H2 := Lib.hid (NatP.below H2.out hb); replace H1 := Lib.hid (NatP.below H1.out hb); replace HZ := Lib.hid (OwnN.below HZ.out hb); replace LO := Lib.hid (NatP.below LO.out hb); replace HB := Lib.hid (HB.out.trans (hb.mono HB.out.size)); clear hb
        go_wp2_with fail
        go_region_with ((go_at_call 286; refine (gap_any (NatP.below (H2.out.take hm1) (Below.refl _ _).drew) (NatP.below (H2.out.drop hm1) (Below.refl _ _).drew)).mono ?_; rintro e w4 ⟨hb, vx, zx, rfl, hzz, htz, hvz⟩))
        have XD := Lib.hid (hzz.weak (q := fun b => b ≠ w.heap.size) fun b h _ => Nat.ne_of_gt (Nat.lt_of_lt_of_le HZ.out.lt h)); have TX := Lib.hid htz; have VXD := Lib.hid hvz; clear hzz htz hvz
        replace hb : Below w3.heap.size w3 w4 := (Below.refl _ _).drew.trans hb
        replace H2 := Lib.hid (NatP.below H2.out hb); replace H1 := Lib.hid (NatP.below H1.out hb); replace LO := Lib.hid (NatP.below LO.out hb); replace HI := Lib.hid (NatP.below HI.out hb); replace HZ := Lib.hid (OwnN.below HZ.out hb); replace HB := Lib.hid (HB.out.trans (hb.mono HB.out.size)); clear hb
        generalize hxb : decide (val (ys1.take ((ys1.length + 1) / 2)) < val (ys1.drop ((ys1.length + 1) / 2))) = xb
        have XB := Lib.hid hxb; clear hxb
        go_wp2_with fail
        go_region_with ((go_at_call 286; refine (gap_any (NatP.below (H1.out.drop hm2) (Below.refl _ _).drew) (NatP.below (H1.out.take hm2) (Below.refl _ _).drew)).mono ?_; rintro e w5 ⟨hb, vy, zy, rfl, hzz, htz, hvz⟩))
        have YD := Lib.hid (hzz.weak (q := fun b => b ≠ w.heap.size) fun b h _ => Nat.ne_of_gt (Nat.lt_of_lt_of_le HZ.out.lt h)); have TY := Lib.hid htz; have VYD := Lib.hid hvz; clear hzz htz hvz
        replace hb : Below w4.heap.size w4 w5 := (Below.refl _ _).drew.trans hb
        replace LO := Lib.hid (NatP.below LO.out hb); replace HI := Lib.hid (NatP.below HI.out hb); replace XD := Lib.hid (NatP.below XD.out hb); replace HZ := Lib.hid (OwnN.below HZ.out hb); replace HB := Lib.hid (HB.out.trans (hb.mono HB.out.size)); clear hb
        generalize hyb : decide (val (xs1.drop ((ys1.length + 1) / 2)) < val (xs1.take ((ys1.length + 1) / 2))) = yb
        have YB := Lib.hid hyb; clear hyb
        have LX := Lib.hid (tr_len_le zx TX.out _ (by rw [VXD.out]; exact AX.out)); have LY := Lib.hid (tr_len_le zy TY.out _ (by rw [VYD.out]; exact AY.out))
        go_wp2_with fail
        refine (IH.out cut _ _ _ _ _ _ _ hc2 hcM XD.out YD.out (by have := LX.out; have := LY.out; omega)).mono ?_
        rintro e w6 ⟨hb, vm, zm, rfl, hzm, htm, hvm⟩
        have MI := Lib.hid (hzm.weak (q := fun b => b ≠ w.heap.size) fun b h _ => by have := HZ.out.lt; omega)
        have VM := Lib.hid hvm; have TM := Lib.hid htm; clear hvm htm hzm
        replace HZ := Lib.hid (OwnN.below HZ.out hb); replace LO := Lib.hid (NatP.below LO.out hb); replace HI := Lib.hid (NatP.below HI.out hb); replace HB := Lib.hid (HB.out.trans (hb.mono HB.out.size)); clear hb
        rw [VXD.out, VYD.out] at VM
        have LL := Lib.hid (tr_len_le zl TL.out _ (by rw [VL.out]; exact F1.out)); have LH := Lib.hid (tr_len_le zh TH.out _ (by rw [VH.out]; exact F2.out))
        have em := EM.out
        have ll := LL.out; have lh := LH.out
        go_wp2_with fail
        refine (add_any LO.out HI.out (by omega) (by omega)).mono ?_
        rintro e w7 ⟨hb, vc, zc, rfl, hzc, htc, hvc⟩
        have CR := Lib.hid (hzc.weak (q := fun b => b ≠ w.heap.size) fun b h _ => by have := HZ.out.lt; omega)
        have VC := Lib.hid hvc; have TC := Lib.hid htc; clear hvc htc hzc
        replace HZ := Lib.hid (OwnN.below HZ.out hb); replace LO := Lib.hid (NatP.below LO.out hb); replace HI := Lib.hid (NatP.below HI.out hb); replace MI := Lib.hid (NatP.below MI.out hb); replace HB := Lib.hid (HB.out.trans (hb.mono HB.out.size)); clear hb
        rw [VL.out, VH.out] at VC
        have hcross : ∀ (ee : Ending) (ww : World), RetN w7.heap.size w7 (crossV (val (ys1.take ((ys1.length + 1) / 2))) (val (ys1.drop ((ys1.length + 1) / 2))) (val (xs1.take ((ys1.length + 1) / 2))) (val (xs1.drop ((ys1.length + 1) / 2)))) ee ww →
            ∃ vk zk, ee = .returned vk ∧ NatP (fun b => b ≠ w.heap.size) ww vk zk ∧ Tr zk ∧ val zk = crossV (val (ys1.take ((ys1.length + 1) / 2))) (val (ys1.drop ((ys1.length + 1) / 2))) (val (xs1.take ((ys1.length + 1) / 2))) (val (xs1.drop ((ys1.length + 1) / 2))) ∧ Below w7.heap.size w7 ww := by
          rintro ee ww ⟨hb, vk, zk, rfl, hzk, htk, hvk⟩
          exact ⟨vk, zk, rfl, hzk.weak (fun b h _ => by have := HZ.out.lt; omega), htk, hvk, hb⟩
        have HCR := Lib.hid hcross; clear hcross
        have F5 : Hid (crossV (val (ys1.take ((ys1.length + 1) / 2))) (val (ys1.drop ((ys1.length + 1) / 2))) (val (xs1.take ((ys1.length + 1) / 2))) (val (xs1.drop ((ys1.length + 1) / 2))) < B64 ^ (ys1.length + xs1.length - m)) := by
          refine Lib.hid ?_
          have h1 := F3.out
          rw [← F4.out] at h1
          have h2 : ys1.length + xs1.length = (ys1.length + xs1.length - m) + m := by omega
          rw [h2, Nat.pow_add, em] at h1
          have h3 : crossV (val (ys1.take ((ys1.length + 1) / 2))) (val (ys1.drop ((ys1.length + 1) / 2))) (val (xs1.take ((ys1.length + 1) / 2))) (val (xs1.drop ((ys1.length + 1) / 2))) * B64 ^ ((ys1.length + 1) / 2) < B64 ^ (ys1.length + xs1.length - (ys1.length + 1) / 2) * B64 ^ ((ys1.length + 1) / 2) := by omega
          rw [em]
          exact Nat.lt_of_mul_lt_mul_right h3
        clear em ll lh
        by_cases hxy : xb = yb
        · have hbe : (xb == yb) = true := beq_iff_eq.2 hxy
          have VK := Lib.hid (cross_pos (val (ys1.take ((ys1.length + 1) / 2))) (val (ys1.drop ((ys1.length + 1) / 2))) (val (xs1.take ((ys1.length + 1) / 2))) (val (xs1.drop ((ys1.length + 1) / 2))) (by rw [XB.out, YB.out]; exact hxy))
          clear hxy
          go_wp2_with fail
          have lc := tr_len_le zc TC.out (ys1.length + xs1.length + 1) (by rw [VC.out]; exact mulK_sum F1.out F2.out (by have := EM.out; omega) (by have := EM.out; omega))
          have lm := tr_len_le zm TM.out _ (by rw [VM.out]; exact prod_lt AX.out AY.out)
          have em := EM.out
          refine (add_any CR.out MI.out (by omega) (by omega)).mono ?_
          rw [VC.out, VM.out, VK.out]
          intro e w8 hr
          obtain ⟨vk, zk, rfl, hzk, htk, hvk, hb⟩ := HCR.out _ _ hr
          clear hr lc lm em
          have KR := Lib.hid hzk; have VKK := Lib.hid hvk; have TK := Lib.hid htk; clear hvk htk hzk
          replace HZ := Lib.hid (OwnN.below HZ.out hb); replace LO := Lib.hid (NatP.below LO.out hb); replace HI := Lib.hid (NatP.below HI.out hb); replace HB := Lib.hid (HB.out.trans (hb.mono HB.out.size)); clear hb
          have F6 : Hid (val zl < B64 ^ (ys1.length + xs1.length)) := Lib.hid (by rw [VL.out]; exact Nat.lt_of_lt_of_le F1.out (Nat.pow_le_pow_right B64_pos (by have := EM.out; omega)))
          go_wp2_with fail
          refine (addAt_any (at_ := 0) (by simp) HZ.out LO.out (fun b h => h) (by rw [List.length_replicate, Nat.zero_add]; exact tr_len_le zl TL.out _ F6.out) (by simp; omega) (by rw [val_replicate_zero, List.length_replicate, Nat.pow_zero, Nat.mul_one, Nat.zero_add]; exact F6.out)).mono ?_
          rintro e w9 ⟨rfl, hg, z3, hO3, hl3, hv3⟩
          replace HI := Lib.hid (NatP.grown HI.out hg (fun b hb e => hb (by injection e))); replace KR := Lib.hid (NatP.grown KR.out hg (fun b hb e => hb (by injection e)))
          replace HB := Lib.hid (HB.out.trans (Below.of_grown hg HB.out.size (Nat.le_refl _)))
          have HZ3 := Lib.hid hO3; have HL3 := Lib.hid hl3; have HV3 := Lib.hid hv3
          clear hO3 hl3 hv3 hg HZ
          rw [List.length_replicate] at HL3
          rw [val_replicate_zero, VL.out, Nat.pow_zero, Nat.mul_one, Nat.zero_add] at HV3
          go_wp2_with fail
          refine (addAt_any (at_ := 2 * ((ys1.length + 1) / 2)) HL3.out HZ3.out HI.out (fun b h => h) ?_ (by rw [HL3.out]; omega) ?_).mono ?_
          · rw [HL3.out]; have := LH.out; have := EM.out; omega
          · rw [HV3.out, VH.out, HL3.out, Nat.two_mul, Nat.pow_add]; have := F3.out; rw [← F4.out] at this; exact Nat.lt_of_le_of_lt (Nat.le_add_right _ _) this
          rintro e w10 ⟨rfl, hg, z5, hO5, hl5, hv5⟩
          replace KR := Lib.hid (NatP.grown KR.out hg (fun b hb e => hb (by injection e)))
          replace HB := Lib.hid (HB.out.trans (Below.of_grown hg HB.out.size (Nat.le_refl _)))
          have HZ5 := Lib.hid hO5; have HL5 := Lib.hid hl5; have HV5 := Lib.hid hv5
          clear hO5 hl5 hv5 hg HZ3
          rw [HL3.out] at HL5
          rw [HV3.out, VH.out, Nat.two_mul, Nat.pow_add] at HV5
          go_wp2_with fail
          refine (addAt_any (at_ := (ys1.length + 1) / 2) HL5.out HZ5.out KR.out (fun b h => h) ?_ (by rw [HL5.out]; omega) ?_).mono ?_
          · rw [HL5.out]; have := tr_len_le zk TK.out _ (by rw [VKK.out]; exact F5.out); have := EM.out; omega
          · rw [HV5.out, VKK.out, HL5.out, F4.out]; exact F3.out
          rintro e w11 ⟨rfl, hg, z7, hO7, hl7, hv7⟩
          replace HB := Lib.hid (HB.out.trans (Below.of_grown hg HB.out.size (Nat.le_refl _)))
          have HZ7 := Lib.hid hO7; have HL7 := Lib.hid hl7; have HV7 := Lib.hid hv7
          clear hO7 hl7 hv7 hg HZ5
          rw [HL5.out] at HL7
          rw [HV5.out, VKK.out, F4.out] at HV7
          go_wp2_with fail
          refine (trim_any (HZ7.out.natP (p := fun b => w.heap.size ≤ b) HL7.out (Nat.le_refl _) (by omega) (Nat.le_refl _))).mono ?_
          rintro e w12 ⟨rfl, v, ys', rfl, hv4, ht4, hval, -⟩
          have HF := Lib.hid (RetN.of (n := val xs * val ys) HB.out hv4 ht4 (by rw [hval, HV7.out, HV2.out, HV1.out, Nat.mul_comm]))
          clear hv4 ht4 hval
          go_wp2
          go_ret
          exact HF.out
        · have hbe : (xb == yb) = false := beq_eq_false_iff_ne.2 hxy
          have VK := Lib.hid (cross_neg (val (ys1.take ((ys1.length + 1) / 2))) (val (ys1.drop ((ys1.length + 1) / 2))) (val (xs1.take ((ys1.length + 1) / 2))) (val (xs1.drop ((ys1.length + 1) / 2))) (by rw [XB.out, YB.out]; exact hxy))
          clear hxy
          go_wp2_with fail
          refine (sub_any CR.out MI.out (tr_len_mono _ _ TM.out CR.out.ok (by rw [VC.out, VM.out, VK.out]; exact Nat.le_add_left _ _)) (by rw [VC.out, VM.out, VK.out]; exact Nat.le_add_left _ _)).mono ?_
          rw [VC.out, VM.out, VK.out, Nat.add_sub_cancel]
          intro e w8 hr
          obtain ⟨vk, zk, rfl, hzk, htk, hvk, hb⟩ := HCR.out _ _ hr
          clear hr
          have KR := Lib.hid hzk; have VKK := Lib.hid hvk; have TK := Lib.hid htk; clear hvk htk hzk
          replace HZ := Lib.hid (OwnN.below HZ.out hb); replace LO := Lib.hid (NatP.below LO.out hb); replace HI := Lib.hid (NatP.below HI.out hb); replace HB := Lib.hid (HB.out.trans (hb.mono HB.out.size)); clear hb
          have F6 : Hid (val zl < B64 ^ (ys1.length + xs1.length)) := Lib.hid (by rw [VL.out]; exact Nat.lt_of_lt_of_le F1.out (Nat.pow_le_pow_right B64_pos (by have := EM.out; omega)))
          go_wp2_with fail
          refine (addAt_any (at_ := 0) (by simp) HZ.out LO.out (fun b h => h) (by rw [List.length_replicate, Nat.zero_add]; exact tr_len_le zl TL.out _ F6.out) (by simp; omega) (by rw [val_replicate_zero, List.length_replicate, Nat.pow_zero, Nat.mul_one, Nat.zero_add]; exact F6.out)).mono ?_
          rintro e w9 ⟨rfl, hg, z3, hO3, hl3, hv3⟩
          replace HI := Lib.hid (NatP.grown HI.out hg (fun b hb e => hb (by injection e))); replace KR := Lib.hid (NatP.grown KR.out hg (fun b hb e => hb (by injection e)))
          replace HB := Lib.hid (HB.out.trans (Below.of_grown hg HB.out.size (Nat.le_refl _)))
          have HZ3 := Lib.hid hO3; have HL3 := Lib.hid hl3; have HV3 := Lib.hid hv3
          clear hO3 hl3 hv3 hg HZ
          rw [List.length_replicate] at HL3
          rw [val_replicate_zero, VL.out, Nat.pow_zero, Nat.mul_one, Nat.zero_add] at HV3
          go_wp2_with fail
          refine (addAt_any (at_ := 2 * ((ys1.length + 1) / 2)) HL3.out HZ3.out HI.out (fun b h => h) ?_ (by rw [HL3.out]; omega) ?_).mono ?_
          · rw [HL3.out]; have := LH.out; have := EM.out; omega
          · rw [HV3.out, VH.out, HL3.out, Nat.two_mul, Nat.pow_add]; have := F3.out; rw [← F4.out] at this; exact Nat.lt_of_le_of_lt (Nat.le_add_right _ _) this
          rintro e w10 ⟨rfl, hg, z5, hO5, hl5, hv5⟩
          replace KR := Lib.hid (NatP.grown KR.out hg (fun b hb e => hb (by injection e)))
          replace HB := Lib.hid (HB.out.trans (Below.of_grown hg HB.out.size (Nat.le_refl _)))
          have HZ5 := Lib.hid hO5; have HL5 := Lib.hid hl5; have HV5 := Lib.hid hv5
          clear hO5 hl5 hv5 hg HZ3
          rw [HL3.out] at HL5
          rw [HV3.out, VH.out, Nat.two_mul, Nat.pow_add] at HV5
          go_wp2_with fail
          refine (addAt_any (at_ := (ys1.length + 1) / 2) HL5.out HZ5.out KR.out (fun b h => h) ?_ (by rw [HL5.out]; omega) ?_).mono ?_
          · rw [HL5.out]; have := tr_len_le zk TK.out _ (by rw [VKK.out]; exact F5.out); have := EM.out; omega
          · rw [HV5.out, VKK.out, HL5.out, F4.out]; exact F3.out
          rintro e w11 ⟨rfl, hg, z7, hO7, hl7, hv7⟩
          replace HB := Lib.hid (HB.out.trans (Below.of_grown hg HB.out.size (Nat.le_refl _)))
          have HZ7 := Lib.hid hO7; have HL7 := Lib.hid hl7; have HV7 := Lib.hid hv7
          clear hO7 hl7 hv7 hg HZ5
          rw [HL5.out] at HL7
          rw [HV5.out, VKK.out, F4.out] at HV7
          go_wp2_with fail
          refine (trim_any (HZ7.out.natP (p := fun b => w.heap.size ≤ b) HL7.out (Nat.le_refl _) (by omega) (Nat.le_refl _))).mono ?_
          rintro e w12 ⟨rfl, v, ys', rfl, hv4, ht4, hval, -⟩
          have HF := Lib.hid (RetN.of (n := val xs * val ys) HB.out hv4 ht4 (by rw [hval, HV7.out, HV2.out, HV1.out, Nat.mul_comm]))
          clear hv4 ht4 hval
          go_wp2
          go_ret
          exact HF.out
  · obtain ⟨A1, c1, e1, a1, ⟨a1', a1''⟩, -, -⟩ := H1.out
    obtain ⟨A2, c2, e2, a2, ⟨a2', a2''⟩, -, -⟩ := H2.out
    subst e1 e2
    by_cases hcut : ys1.length < cut
    · go_wp2_with fail
      refine (school_any H1.out H2.out (by omega)).mono ?_
      rintro e w2 ⟨hb, v, zs, rfl, hz, htz, hvz⟩
      have HF := Lib.hid (RetN.of (n := val xs * val ys) hb hz htz (by rw [hvz, HV1.out, HV2.out]))
      clear hb hz htz hvz
      go_wp2
      go_ret
      exact HF.out
    · obtain ⟨b1, o1, c1, e1, -, -, -⟩ := H1.out.addr (by omega)
      injection e1 with e1 _ e1c
      subst e1 e1c
      obtain ⟨b2, o2, c2, e2, -, -, -⟩ := H2.out.addr (by omega)
      injection e2 with e2 _ e2c
      subst e2 e2c
      have OX := Lib.hid H1.out.ok; have OY := Lib.hid H2.out.ok
      have hm1 : (xs1.length + 1) / 2 ≤ xs1.length := by omega
      have k0 : 0 ≤ ((xs1.length : Int) + 1) / 2 := by omega
      have k1 : ((xs1.length : Int) + 1) / 2 ≤ (c1 : Int) := by omega
      have k3 : ((xs1.length : Int) + 1) / 2 ≤ (xs1.length : Int) := by omega
      have k5 : (((xs1.length : Int) + 1) / 2).toNat = (xs1.length + 1) / 2 := by omega
      have k6 : ¬ c1 = (xs1.length + 1) / 2 := by omega
      obtain ⟨m, em⟩ : ∃ m, m = (xs1.length + 1) / 2 := ⟨_, rfl⟩
      have hmX : m ≤ xs1.length := by omega
      have CX := Lib.hid (val_cut xs1 m hmX OX.out)
      have EM := Lib.hid em; clear em
      by_cases hm : ys1.length ≤ (xs1.length + 1) / 2
      · go_wp2_with (at_make; refine wpList_makeN _ rfl (.tmp 43) (.tmp 43) rfl .i64 .i64 _ (xs1.length + ys1.length) rfl rfl (by omega) (by omega) w.heap.size w (Below.refl _ _) (Nat.le_refl _) ?_; intro w1 HZ hb1 hb hs1)
        have HB := Lib.hid hb1; clear hb1
        replace H1 := Lib.hid (NatP.below H1.out hb); replace H2 := Lib.hid (NatP.below H2.out hb); clear hb
        have F1 : Hid (val (xs1.take m) * val ys1 < B64 ^ (xs1.length + ys1.length)) := Lib.hid (Nat.lt_of_lt_of_le (prod_lt CX.out.2.1 (val_lt ys1 OY.out)) (Nat.pow_le_pow_right B64_pos (by omega)))
        have F2 : Hid (val (xs1.drop m) * val ys1 < B64 ^ (xs1.length - m + ys1.length)) := Lib.hid (prod_lt CX.out.2.2 (val_lt ys1 OY.out))
        have F3 : Hid (val xs1 * val ys1 < B64 ^ (xs1.length + ys1.length)) := Lib.hid (prod_lt (val_lt xs1 OX.out) (val_lt ys1 OY.out))
        have F4 : Hid (val xs1 * val ys1 = val (xs1.take m) * val ys1 + val (xs1.drop m) * val ys1 * B64 ^ m) := by refine Lib.hid ?_; rw [CX.out.1]; grind
        rw [EM.out] at F1 F2 F4
        refine (IH.out cut _ _ _ _ _ _ _ hc2 hcM (H1.out.take hm1) H2.out (by simp; omega)).mono ?_
        rintro e w2 ⟨hb, vl, zl, rfl, hzl, htl, hvl⟩
        have LO := Lib.hid (hzl.weak (q := fun b => b ≠ w.heap.size) fun b h _ => by omega)
        have VL := Lib.hid hvl; have TL := Lib.hid htl; clear hvl htl hzl
        replace H1 := Lib.hid (NatP.below H1.out hb); replace H2 := Lib.hid (NatP.below H2.out hb); replace HZ := Lib.hid (OwnN.below HZ.out hb); replace HB := Lib.hid (HB.out.trans (hb.mono HB.out.size)); clear hb
        go_wp2_with fail
        refine (addAt_any (at_ := 0) (by simp) HZ.out LO.out (fun b h => h) (by rw [List.length_replicate, Nat.zero_add]; exact tr_len_le zl TL.out _ (by rw [VL.out]; exact F1.out)) (by simp; omega) (by rw [val_replicate_zero, List.length_replicate, VL.out, Nat.pow_zero, Nat.mul_one, Nat.zero_add]; exact F1.out)).mono ?_
        rintro e w3 ⟨rfl, hg, z3, hO3, hl3, hv3⟩
        replace H1 := Lib.hid (NatP.grown H1.out hg (fun b hb e => hb (by injection e))); replace H2 := Lib.hid (NatP.grown H2.out hg (fun b hb e => hb (by injection e)))
        replace HB := Lib.hid (HB.out.trans (Below.of_grown hg HB.out.size (Nat.le_refl _)))
        have HZ3 := Lib.hid hO3; have HL3 := Lib.hid hl3; have HV3 := Lib.hid hv3
        clear hO3 hl3 hv3 hg HZ
        rw [List.length_replicate] at HL3
        rw [val_replicate_zero, VL.out, Nat.pow_zero, Nat.mul_one, Nat.zero_add] at HV3
        go_wp2_with fail
        refine (IH.out cut _ _ _ _ _ _ _ hc2 hcM (H1.out.drop hm1) H2.out (by simp; omega)).mono ?_
        rintro e w4 ⟨hb, vh, zh, rfl, hzh, hth, hvh⟩
        have HI := Lib.hid (hzh.weak (q := fun b => b ≠ w.heap.size) fun b h _ => by have := HZ3.out.lt; omega)
        have VH := Lib.hid hvh; have TH := Lib.hid hth; clear hvh hth hzh
        replace HZ3 := Lib.hid (OwnN.below HZ3.out hb); replace HB := Lib.hid (HB.out.trans (hb.mono HB.out.size)); clear hb
        go_wp2_with fail
        refine (addAt_any (at_ := (xs1.length + 1) / 2) HL3.out HZ3.out HI.out (fun b h => h) ?_ (by rw [HL3.out]; omega) ?_).mono ?_
        · rw [HL3.out]; have := tr_len_le zh TH.out _ (by rw [VH.out]; exact F2.out); omega
        · rw [HV3.out, VH.out, HL3.out, ← F4.out]; exact F3.out
        rintro e w5 ⟨rfl, hg, z5, hO5, hl5, hv5⟩
        replace HB := Lib.hid (HB.out.trans (Below.of_grown hg HB.out.size (Nat.le_refl _)))
        have HZ5 := Lib.hid hO5; have HL5 := Lib.hid hl5; have HV5 := Lib.hid hv5
        clear hO5 hl5 hv5 hg HZ3
        rw [HL3.out] at HL5
        rw [HV3.out, VH.out, ← F4.out] at HV5
        go_wp2_with fail
        refine (trim_any (HZ5.out.natP (p := fun b => w.heap.size ≤ b) HL5.out (Nat.le_refl _) (by omega) (Nat.le_refl _))).mono ?_
        rintro e w6 ⟨rfl, v, ys', rfl, hv4, ht4, hval, -⟩
        have HF := Lib.hid (RetN.of (n := val xs * val ys) HB.out hv4 ht4 (by rw [hval, HV5.out, HV1.out, HV2.out]))
        clear hv4 ht4 hval
        go_wp2
        go_ret
        exact HF.out
      · have hm2 : (xs1.length + 1) / 2 ≤ ys1.length := by omega
        have k2 : ((xs1.length : Int) + 1) / 2 ≤ (c2 : Int) := by omega
        have k4 : ((xs1.length : Int) + 1) / 2 ≤ (ys1.length : Int) := by omega
        have k7 : ¬ c2 = (xs1.length + 1) / 2 := by omega
        have hmY : m ≤ ys1.length := by have := EM.out; omega
        have CY := Lib.hid (val_cut ys1 m hmY OY.out)
        have ha1L : val (xs1.drop m) < B64 ^ m := Nat.lt_of_lt_of_le CX.out.2.2 (Nat.pow_le_pow_right B64_pos (by have := EM.out; omega))
        have hb1L : val (ys1.drop m) < B64 ^ m := Nat.lt_of_lt_of_le CY.out.2.2 (Nat.pow_le_pow_right B64_pos (by have := EM.out; omega))
        have AX := Lib.hid (absDiff_lt CX.out.2.1 ha1L); have AY := Lib.hid (absDiff_lt hb1L CY.out.2.1)
        have F1 := Lib.hid (prod_lt CX.out.2.1 CY.out.2.1)
        have F2 := Lib.hid (prod_lt CX.out.2.2 CY.out.2.2)
        have F3 : Hid (val xs1 * val ys1 < B64 ^ (xs1.length + ys1.length)) := Lib.hid (prod_lt (val_lt xs1 OX.out) (val_lt ys1 OY.out))
        have F4 : Hid (val (xs1.take m) * val (ys1.take m) + val (xs1.drop m) * val (ys1.drop m) * (B64 ^ m * B64 ^ m) + crossV (val (xs1.take m)) (val (xs1.drop m)) (val (ys1.take m)) (val (ys1.drop m)) * B64 ^ m = val xs1 * val ys1) := by
          refine Lib.hid ?_; rw [mulK_cross, ← CX.out.1, ← CY.out.1]
        clear ha1L hb1L
        rw [EM.out] at AX AY F1 F2 F4
        go_wp2_with (at_make; refine wpList_makeN _ rfl (.tmp 43) (.tmp 43) rfl .i64 .i64 _ (xs1.length + ys1.length) rfl rfl (by omega) (by omega) w.heap.size w (Below.refl _ _) (Nat.le_refl _) ?_; intro w1 HZ hb1 hb hs1)
        have HB := Lib.hid hb1; clear hb1
        replace H1 := Lib.hid (NatP.below H1.out hb); replace H2 := Lib.hid (NatP.below H2.out hb); clear hb
        go_still_tail 7, (by kernel_rfl)
        change wpList _ _ _ _ _ w1.drew
        have hb : Below w1.heap.size w1 w1.drew := (Below.refl _ _).drew
        generalize w1.drew = w1d at hb ⊢
        replace H1 := Lib.hid (NatP.below H1.out hb); replace H2 := Lib.hid (NatP.below H2.out hb); replace HZ := Lib.hid (OwnN.below HZ.out hb); replace HB := Lib.hid (HB.out.trans (hb.mono HB.out.size)); clear hb hs1
        go_wp2_with fail
        refine (IH.out cut _ _ _ _ _ _ _ hc2 hcM (H1.out.take hm1) (H2.out.take hm2) (by simp; omega)).mono ?_
        rintro e w2 ⟨hb, vl, zl, rfl, hzl, htl, hvl⟩
        have LO := Lib.hid (hzl.weak (q := fun b => b ≠ w.heap.size) fun b h _ => by have := HZ.out.lt; omega)
        have VL := Lib.hid hvl; have TL := Lib.hid htl; clear hvl htl hzl
        replace H1 := Lib.hid (NatP.below H1.out hb); replace H2 := Lib.hid (NatP.below H2.out hb); replace HZ := Lib.hid (OwnN.below HZ.out hb); replace HB := Lib.hid (HB.out.trans (hb.mono HB.out.size)); clear hb
        go_wp2_with fail
        go_still_tail 7, (by kernel_rfl)
        change wpList _ _ _ _ _ w2.drew
        have hb : Below w2.heap.size w2 w2.drew := (Below.refl _ _).drew
        generalize w2.drew = w2d at hb ⊢
        replace H1 := Lib.hid (NatP.below H1.out hb); replace H2 := Lib.hid (NatP.below H2.out hb); replace HZ := Lib.hid (OwnN.below HZ.out hb); replace LO := Lib.hid (NatP.below LO.out hb); replace HB := Lib.hid (HB.out.trans (hb.mono HB.out.size)); clear hb
        go_wp2_with fail
        refine (IH.out cut _ _ _ _ _ _ _ hc2 hcM (H1.out.drop hm1) (H2.out.drop hm2) (by simp; omega)).mono ?_
        rintro e w3 ⟨hb, vh, zh, rfl, hzh, hth, hvh⟩
        have HI := Lib.hid (hzh.weak (q := fun b => b ≠ w.heap.size) fun b h _ => by have := HZ.out.lt; omega)
        have VH := Lib.hid hvh; have TH := Lib.hid hth; clear hvh hth hzh
        replace H1 := Lib.hid (NatP.below H1.out hb); replace H2 := Lib.hid (NatP.below H2.out hb); replace HZ := Lib.hid (OwnN.below HZ.out hb); replace LO := Lib.hid (NatP.below LO.out hb); replace HB := Lib.hid (HB.out.trans (hb.mono HB.out.size)); clear hb
        go_wp2_with fail
        go_region_with ((go_at_call 286; refine (gap_any (NatP.below (H1.out.take hm1) (Below.refl _ _).drew) (NatP.below (H1.out.drop hm1) (Below.refl _ _).drew)).mono ?_; rintro e w4 ⟨hb, vx, zx, rfl, hzz, htz, hvz⟩))
        have XD := Lib.hid (hzz.weak (q := fun b => b ≠ w.heap.size) fun b h _ => Nat.ne_of_gt (Nat.lt_of_lt_of_le HZ.out.lt h)); have TX := Lib.hid htz; have VXD := Lib.hid hvz; clear hzz htz hvz
        replace hb : Below w3.heap.size w3 w4 := (Below.refl _ _).drew.trans hb
        replace H1 := Lib.hid (NatP.below H1.out hb); replace H2 := Lib.hid (NatP.below H2.out hb); replace LO := Lib.hid (NatP.below LO.out hb); replace HI := Lib.hid (NatP.below HI.out hb); replace HZ := Lib.hid (OwnN.below HZ.out hb); replace HB := Lib.hid (HB.out.trans (hb.mono HB.out.size)); clear hb
        generalize hxb : decide (val (xs1.take ((xs1.length + 1) / 2)) < val (xs1.drop ((xs1.length + 1) / 2))) = xb
        have XB := Lib.hid hxb; clear hxb
        go_wp2_with fail
        go_region_with ((go_at_call 286; refine (gap_any (NatP.below (H2.out.drop hm2) (Below.refl _ _).drew) (NatP.below (H2.out.take hm2) (Below.refl _ _).drew)).mono ?_; rintro e w5 ⟨hb, vy, zy, rfl, hzz, htz, hvz⟩))
        have YD := Lib.hid (hzz.weak (q := fun b => b ≠ w.heap.size) fun b h _ => Nat.ne_of_gt (Nat.lt_of_lt_of_le HZ.out.lt h)); have TY := Lib.hid htz; have VYD := Lib.hid hvz; clear hzz htz hvz
        replace hb : Below w4.heap.size w4 w5 := (Below.refl _ _).drew.trans hb
        replace LO := Lib.hid (NatP.below LO.out hb); replace HI := Lib.hid (NatP.below HI.out hb); replace XD := Lib.hid (NatP.below XD.out hb); replace HZ := Lib.hid (OwnN.below HZ.out hb); replace HB := Lib.hid (HB.out.trans (hb.mono HB.out.size)); clear hb
        generalize hyb : decide (val (ys1.drop ((xs1.length + 1) / 2)) < val (ys1.take ((xs1.length + 1) / 2))) = yb
        have YB := Lib.hid hyb; clear hyb
        have LX := Lib.hid (tr_len_le zx TX.out _ (by rw [VXD.out]; exact AX.out)); have LY := Lib.hid (tr_len_le zy TY.out _ (by rw [VYD.out]; exact AY.out))
        go_wp2_with fail
        refine (IH.out cut _ _ _ _ _ _ _ hc2 hcM XD.out YD.out (by have := LX.out; have := LY.out; omega)).mono ?_
        rintro e w6 ⟨hb, vm, zm, rfl, hzm, htm, hvm⟩
        have MI := Lib.hid (hzm.weak (q := fun b => b ≠ w.heap.size) fun b h _ => by have := HZ.out.lt; omega)
        have VM := Lib.hid hvm; have TM := Lib.hid htm; clear hvm htm hzm
        replace HZ := Lib.hid (OwnN.below HZ.out hb); replace LO := Lib.hid (NatP.below LO.out hb); replace HI := Lib.hid (NatP.below HI.out hb); replace HB := Lib.hid (HB.out.trans (hb.mono HB.out.size)); clear hb
        rw [VXD.out, VYD.out] at VM
        have LL := Lib.hid (tr_len_le zl TL.out _ (by rw [VL.out]; exact F1.out)); have LH := Lib.hid (tr_len_le zh TH.out _ (by rw [VH.out]; exact F2.out))
        have em := EM.out
        have ll := LL.out; have lh := LH.out
        go_wp2_with fail
        refine (add_any LO.out HI.out (by omega) (by omega)).mono ?_
        rintro e w7 ⟨hb, vc, zc, rfl, hzc, htc, hvc⟩
        have CR := Lib.hid (hzc.weak (q := fun b => b ≠ w.heap.size) fun b h _ => by have := HZ.out.lt; omega)
        have VC := Lib.hid hvc; have TC := Lib.hid htc; clear hvc htc hzc
        replace HZ := Lib.hid (OwnN.below HZ.out hb); replace LO := Lib.hid (NatP.below LO.out hb); replace HI := Lib.hid (NatP.below HI.out hb); replace MI := Lib.hid (NatP.below MI.out hb); replace HB := Lib.hid (HB.out.trans (hb.mono HB.out.size)); clear hb
        rw [VL.out, VH.out] at VC
        have hcross : ∀ (ee : Ending) (ww : World), RetN w7.heap.size w7 (crossV (val (xs1.take ((xs1.length + 1) / 2))) (val (xs1.drop ((xs1.length + 1) / 2))) (val (ys1.take ((xs1.length + 1) / 2))) (val (ys1.drop ((xs1.length + 1) / 2)))) ee ww →
            ∃ vk zk, ee = .returned vk ∧ NatP (fun b => b ≠ w.heap.size) ww vk zk ∧ Tr zk ∧ val zk = crossV (val (xs1.take ((xs1.length + 1) / 2))) (val (xs1.drop ((xs1.length + 1) / 2))) (val (ys1.take ((xs1.length + 1) / 2))) (val (ys1.drop ((xs1.length + 1) / 2))) ∧ Below w7.heap.size w7 ww := by
          rintro ee ww ⟨hb, vk, zk, rfl, hzk, htk, hvk⟩
          exact ⟨vk, zk, rfl, hzk.weak (fun b h _ => by have := HZ.out.lt; omega), htk, hvk, hb⟩
        have HCR := Lib.hid hcross; clear hcross
        have F5 : Hid (crossV (val (xs1.take ((xs1.length + 1) / 2))) (val (xs1.drop ((xs1.length + 1) / 2))) (val (ys1.take ((xs1.length + 1) / 2))) (val (ys1.drop ((xs1.length + 1) / 2))) < B64 ^ (xs1.length + ys1.length - m)) := by
          refine Lib.hid ?_
          have h1 := F3.out
          rw [← F4.out] at h1
          have h2 : xs1.length + ys1.length = (xs1.length + ys1.length - m) + m := by omega
          rw [h2, Nat.pow_add, em] at h1
          have h3 : crossV (val (xs1.take ((xs1.length + 1) / 2))) (val (xs1.drop ((xs1.length + 1) / 2))) (val (ys1.take ((xs1.length + 1) / 2))) (val (ys1.drop ((xs1.length + 1) / 2))) * B64 ^ ((xs1.length + 1) / 2) < B64 ^ (xs1.length + ys1.length - (xs1.length + 1) / 2) * B64 ^ ((xs1.length + 1) / 2) := by omega
          rw [em]
          exact Nat.lt_of_mul_lt_mul_right h3
        clear em ll lh
        by_cases hxy : xb = yb
        · have hbe : (xb == yb) = true := beq_iff_eq.2 hxy
          have VK := Lib.hid (cross_pos (val (xs1.take ((xs1.length + 1) / 2))) (val (xs1.drop ((xs1.length + 1) / 2))) (val (ys1.take ((xs1.length + 1) / 2))) (val (ys1.drop ((xs1.length + 1) / 2))) (by rw [XB.out, YB.out]; exact hxy))
          clear hxy
          go_wp2_with fail
          have lc := tr_len_le zc TC.out (xs1.length + ys1.length + 1) (by rw [VC.out]; exact mulK_sum F1.out F2.out (by have := EM.out; omega) (by have := EM.out; omega))
          have lm := tr_len_le zm TM.out _ (by rw [VM.out]; exact prod_lt AX.out AY.out)
          have em := EM.out
          refine (add_any CR.out MI.out (by omega) (by omega)).mono ?_
          rw [VC.out, VM.out, VK.out]
          intro e w8 hr
          obtain ⟨vk, zk, rfl, hzk, htk, hvk, hb⟩ := HCR.out _ _ hr
          clear hr lc lm em
          have KR := Lib.hid hzk; have VKK := Lib.hid hvk; have TK := Lib.hid htk; clear hvk htk hzk
          replace HZ := Lib.hid (OwnN.below HZ.out hb); replace LO := Lib.hid (NatP.below LO.out hb); replace HI := Lib.hid (NatP.below HI.out hb); replace HB := Lib.hid (HB.out.trans (hb.mono HB.out.size)); clear hb
          have F6 : Hid (val zl < B64 ^ (xs1.length + ys1.length)) := Lib.hid (by rw [VL.out]; exact Nat.lt_of_lt_of_le F1.out (Nat.pow_le_pow_right B64_pos (by have := EM.out; omega)))
          go_wp2_with fail
          refine (addAt_any (at_ := 0) (by simp) HZ.out LO.out (fun b h => h) (by rw [List.length_replicate, Nat.zero_add]; exact tr_len_le zl TL.out _ F6.out) (by simp; omega) (by rw [val_replicate_zero, List.length_replicate, Nat.pow_zero, Nat.mul_one, Nat.zero_add]; exact F6.out)).mono ?_
          rintro e w9 ⟨rfl, hg, z3, hO3, hl3, hv3⟩
          replace HI := Lib.hid (NatP.grown HI.out hg (fun b hb e => hb (by injection e))); replace KR := Lib.hid (NatP.grown KR.out hg (fun b hb e => hb (by injection e)))
          replace HB := Lib.hid (HB.out.trans (Below.of_grown hg HB.out.size (Nat.le_refl _)))
          have HZ3 := Lib.hid hO3; have HL3 := Lib.hid hl3; have HV3 := Lib.hid hv3
          clear hO3 hl3 hv3 hg HZ
          rw [List.length_replicate] at HL3
          rw [val_replicate_zero, VL.out, Nat.pow_zero, Nat.mul_one, Nat.zero_add] at HV3
          go_wp2_with fail
          refine (addAt_any (at_ := 2 * ((xs1.length + 1) / 2)) HL3.out HZ3.out HI.out (fun b h => h) ?_ (by rw [HL3.out]; omega) ?_).mono ?_
          · rw [HL3.out]; have := LH.out; have := EM.out; omega
          · rw [HV3.out, VH.out, HL3.out, Nat.two_mul, Nat.pow_add]; have := F3.out; rw [← F4.out] at this; exact Nat.lt_of_le_of_lt (Nat.le_add_right _ _) this
          rintro e w10 ⟨rfl, hg, z5, hO5, hl5, hv5⟩
          replace KR := Lib.hid (NatP.grown KR.out hg (fun b hb e => hb (by injection e)))
          replace HB := Lib.hid (HB.out.trans (Below.of_grown hg HB.out.size (Nat.le_refl _)))
          have HZ5 := Lib.hid hO5; have HL5 := Lib.hid hl5; have HV5 := Lib.hid hv5
          clear hO5 hl5 hv5 hg HZ3
          rw [HL3.out] at HL5
          rw [HV3.out, VH.out, Nat.two_mul, Nat.pow_add] at HV5
          go_wp2_with fail
          refine (addAt_any (at_ := (xs1.length + 1) / 2) HL5.out HZ5.out KR.out (fun b h => h) ?_ (by rw [HL5.out]; omega) ?_).mono ?_
          · rw [HL5.out]; have := tr_len_le zk TK.out _ (by rw [VKK.out]; exact F5.out); have := EM.out; omega
          · rw [HV5.out, VKK.out, HL5.out, F4.out]; exact F3.out
          rintro e w11 ⟨rfl, hg, z7, hO7, hl7, hv7⟩
          replace HB := Lib.hid (HB.out.trans (Below.of_grown hg HB.out.size (Nat.le_refl _)))
          have HZ7 := Lib.hid hO7; have HL7 := Lib.hid hl7; have HV7 := Lib.hid hv7
          clear hO7 hl7 hv7 hg HZ5
          rw [HL5.out] at HL7
          rw [HV5.out, VKK.out, F4.out] at HV7
          go_wp2_with fail
          refine (trim_any (HZ7.out.natP (p := fun b => w.heap.size ≤ b) HL7.out (Nat.le_refl _) (by omega) (Nat.le_refl _))).mono ?_
          rintro e w12 ⟨rfl, v, ys', rfl, hv4, ht4, hval, -⟩
          have HF := Lib.hid (RetN.of (n := val xs * val ys) HB.out hv4 ht4 (by rw [hval, HV7.out, HV1.out, HV2.out]))
          clear hv4 ht4 hval
          go_wp2
          go_ret
          exact HF.out
        · have hbe : (xb == yb) = false := beq_eq_false_iff_ne.2 hxy
          have VK := Lib.hid (cross_neg (val (xs1.take ((xs1.length + 1) / 2))) (val (xs1.drop ((xs1.length + 1) / 2))) (val (ys1.take ((xs1.length + 1) / 2))) (val (ys1.drop ((xs1.length + 1) / 2))) (by rw [XB.out, YB.out]; exact hxy))
          clear hxy
          go_wp2_with fail
          refine (sub_any CR.out MI.out (tr_len_mono _ _ TM.out CR.out.ok (by rw [VC.out, VM.out, VK.out]; exact Nat.le_add_left _ _)) (by rw [VC.out, VM.out, VK.out]; exact Nat.le_add_left _ _)).mono ?_
          rw [VC.out, VM.out, VK.out, Nat.add_sub_cancel]
          intro e w8 hr
          obtain ⟨vk, zk, rfl, hzk, htk, hvk, hb⟩ := HCR.out _ _ hr
          clear hr
          have KR := Lib.hid hzk; have VKK := Lib.hid hvk; have TK := Lib.hid htk; clear hvk htk hzk
          replace HZ := Lib.hid (OwnN.below HZ.out hb); replace LO := Lib.hid (NatP.below LO.out hb); replace HI := Lib.hid (NatP.below HI.out hb); replace HB := Lib.hid (HB.out.trans (hb.mono HB.out.size)); clear hb
          have F6 : Hid (val zl < B64 ^ (xs1.length + ys1.length)) := Lib.hid (by rw [VL.out]; exact Nat.lt_of_lt_of_le F1.out (Nat.pow_le_pow_right B64_pos (by have := EM.out; omega)))
          go_wp2_with fail
          refine (addAt_any (at_ := 0) (by simp) HZ.out LO.out (fun b h => h) (by rw [List.length_replicate, Nat.zero_add]; exact tr_len_le zl TL.out _ F6.out) (by simp; omega) (by rw [val_replicate_zero, List.length_replicate, Nat.pow_zero, Nat.mul_one, Nat.zero_add]; exact F6.out)).mono ?_
          rintro e w9 ⟨rfl, hg, z3, hO3, hl3, hv3⟩
          replace HI := Lib.hid (NatP.grown HI.out hg (fun b hb e => hb (by injection e))); replace KR := Lib.hid (NatP.grown KR.out hg (fun b hb e => hb (by injection e)))
          replace HB := Lib.hid (HB.out.trans (Below.of_grown hg HB.out.size (Nat.le_refl _)))
          have HZ3 := Lib.hid hO3; have HL3 := Lib.hid hl3; have HV3 := Lib.hid hv3
          clear hO3 hl3 hv3 hg HZ
          rw [List.length_replicate] at HL3
          rw [val_replicate_zero, VL.out, Nat.pow_zero, Nat.mul_one, Nat.zero_add] at HV3
          go_wp2_with fail
          refine (addAt_any (at_ := 2 * ((xs1.length + 1) / 2)) HL3.out HZ3.out HI.out (fun b h => h) ?_ (by rw [HL3.out]; omega) ?_).mono ?_
          · rw [HL3.out]; have := LH.out; have := EM.out; omega
          · rw [HV3.out, VH.out, HL3.out, Nat.two_mul, Nat.pow_add]; have := F3.out; rw [← F4.out] at this; exact Nat.lt_of_le_of_lt (Nat.le_add_right _ _) this
          rintro e w10 ⟨rfl, hg, z5, hO5, hl5, hv5⟩
          replace KR := Lib.hid (NatP.grown KR.out hg (fun b hb e => hb (by injection e)))
          replace HB := Lib.hid (HB.out.trans (Below.of_grown hg HB.out.size (Nat.le_refl _)))
          have HZ5 := Lib.hid hO5; have HL5 := Lib.hid hl5; have HV5 := Lib.hid hv5
          clear hO5 hl5 hv5 hg HZ3
          rw [HL3.out] at HL5
          rw [HV3.out, VH.out, Nat.two_mul, Nat.pow_add] at HV5
          go_wp2_with fail
          refine (addAt_any (at_ := (xs1.length + 1) / 2) HL5.out HZ5.out KR.out (fun b h => h) ?_ (by rw [HL5.out]; omega) ?_).mono ?_
          · rw [HL5.out]; have := tr_len_le zk TK.out _ (by rw [VKK.out]; exact F5.out); have := EM.out; omega
          · rw [HV5.out, VKK.out, HL5.out, F4.out]; exact F3.out
          rintro e w11 ⟨rfl, hg, z7, hO7, hl7, hv7⟩
          replace HB := Lib.hid (HB.out.trans (Below.of_grown hg HB.out.size (Nat.le_refl _)))
          have HZ7 := Lib.hid hO7; have HL7 := Lib.hid hl7; have HV7 := Lib.hid hv7
          clear hO7 hl7 hv7 hg HZ5
          rw [HL5.out] at HL7
          rw [HV5.out, VKK.out, F4.out] at HV7
          go_wp2_with fail
          refine (trim_any (HZ7.out.natP (p := fun b => w.heap.size ≤ b) HL7.out (Nat.le_refl _) (by omega) (Nat.le_refl _))).mono ?_
          rintro e w12 ⟨rfl, v, ys', rfl, hv4, ht4, hval, -⟩
          have HF := Lib.hid (RetN.of (n := val xs * val ys) HB.out hv4 ht4 (by rw [hval, HV7.out, HV1.out, HV2.out]))
          clear hv4 ht4 hval
          go_wp2
          go_ret
          exact HF.out
theorem mul_all (N : Nat) (hNM : N ≤ 549755813888) : ∀ (cut : Nat) (p q : Nat → Prop) (va vb : Value) (xs ys : List Nat) (w : World), 2 ≤ cut → cut ≤ 1099511627776 → NatP p w va xs → NatP q w vb ys → xs.length + ys.length ≤ N →
      Calls Tryz.prog 274 #[.int .i64 cut, va, vb] w (RetN w.heap.size w (val xs * val ys)) := by
  induction N with
  | zero =>
    intro cut p q va vb xs ys w h1 h2 hx hy hl
    exact mul_step 0 (fun _ _ _ _ _ _ _ _ _ _ _ _ h => absurd h (by omega)) cut p q va vb xs ys w h1 h2 hx hy hl hNM
  | succ N ih =>
    intro cut p q va vb xs ys w h1 h2 hx hy hl
    exact mul_step (N + 1) (fun cut p q va vb xs ys w h1 h2 hx hy h => ih (by omega) cut p q va vb xs ys w h1 h2 hx hy (by omega)) cut p q va vb xs ys w h1 h2 hx hy hl hNM
theorem mul_any {p q : Nat → Prop} {cut : Nat} {va vb : Value} {xs ys : List Nat} {w : World} (hc2 : 2 ≤ cut) (hcM : cut ≤ 1099511627776) (hx : NatP p w va xs) (hy : NatP q w vb ys) (hl : xs.length + ys.length ≤ 549755813888) :
    Calls Tryz.prog 274 #[.int .i64 cut, va, vb] w (RetN w.heap.size w (val xs * val ys)) :=
  mul_all 549755813888 (Nat.le_refl _) cut p q va vb xs ys w hc2 hcM hx hy hl
end Go.Proofs.YtgodkfgnhpnhcaaGreatDoor
