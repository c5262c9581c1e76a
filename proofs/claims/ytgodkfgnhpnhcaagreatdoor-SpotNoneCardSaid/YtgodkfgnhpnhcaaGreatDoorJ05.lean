/- A part of the proof: contracts of functions and plain laws (NatM, NatN, NatO, NatP, NatQ). -/
import Derived.Test.YtgodkfgnhpnhcaaGreatDoorJ03
import Derived.Test.YtgodkfgnhpnhcaaGreatDoorJ04
set_option linter.unusedVariables false
set_option linter.unusedSimpArgs false
namespace Go.Proofs.YtgodkfgnhpnhcaaGreatDoor
open Go.RowKit
theorem and_mask32 (x : Nat) (hx : x < 18446744073709551616) : Go.bits BinOp.and IntKind.u64 (x : Int) 4294967295 = ((x % 4294967296 : Nat) : Int) := by
  have h := bits_and_u64_nat x 4294967295 hx (by omega)
  have e : x &&& 4294967295 = x % 4294967296 := by
    have := Nat.and_two_pow_sub_one_eq_mod x 32
    exact this
  rw [e] at h
  exact h
theorem guess_ge (QT U L Y N1 N0 : Nat) (hY : Y = N1 * 4294967296 + N0) (hN : 0 < N1) (hL : L < 4294967296) (hT : QT = (U * 4294967296 + L) / Y) : QT ≤ U / N1 := by
  rw [Nat.le_div_iff_mul_le hN]
  have h1 : QT * Y ≤ U * 4294967296 + L := by rw [hT]; exact Nat.div_mul_le_self _ _
  have h2 : QT * N1 * 4294967296 ≤ QT * Y := by rw [hY, Nat.mul_add, ← Nat.mul_assoc]; omega
  generalize QT * N1 = a at *
  omega
theorem rest_wrap (U L1 Q1 Y V : Nat) (hV : U * 4294967296 + L1 = Q1 * Y + V) (hVl : V < 18446744073709551616) :
    IntKind.u64.wrap (((U * 4294967296 % 18446744073709551616 : Nat) : Int) + L1 - ((Q1 * Y % 18446744073709551616 : Nat) : Int)) = (V : Int) := by
  rw [IntKind.wrap_u64]
  generalize Q1 * Y = q at *
  omega
theorem wrap_nat (x : Nat) : IntKind.u64.wrap (x : Int) = ((x % 18446744073709551616 : Nat) : Int) := by rw [IntKind.wrap_u64]; omega
theorem wrap_u64_mul (U : Nat) : IntKind.u64.wrap ((U : Int) * 4294967296) = ((U * 4294967296 % 18446744073709551616 : Nat) : Int) := by rw [IntKind.wrap_u64]; omega
theorem high_room (U L1 : Nat) (h : L1 < 4294967296) : U * 4294967296 % 18446744073709551616 + L1 < 18446744073709551616 := by omega
set_option maxRecDepth 4000 in
theorem div64_any (hi lo y : Nat) (w : World) (hy : y < B64) (hlt : hi < y) (hlo : lo < B64) :
    Calls Tryz.prog 278 #[.int .u64 hi, .int .u64 lo, .int .u64 y] w fun e w' => e = .returned (.tuple #[.int .u64 ((hi * B64 + lo) / y : Nat), .int .u64 ((hi * B64 + lo) % y : Nat)]) ∧ ∃ k, w' = w.drewN k := by
  have hB : B64 = 18446744073709551616 := rfl
  have hy0 : y ≠ 0 := by omega
  rcases Nat.eq_zero_or_pos hi with h0 | h0
  · subst h0
    rw [Nat.zero_mul, Nat.zero_add]
    have b0 : ((y : Int) == 0) = false := beq_eq_false_iff_ne.2 (by omega)
    have hyi : (1 : Int) ≤ (y : Int) := by omega
    have e1 : ((lo / y : Nat) : Int) = (lo : Int) / y := Int.natCast_ediv ..
    have e2 : ((lo % y : Nat) : Int) = (lo : Int) % y := Int.natCast_emod ..
    have q1 : IntKind.u64.wrap ((lo : Int) / y) = (lo / y : Nat) := by
      rw [← e1, wrap_nat, Nat.mod_eq_of_lt (Nat.lt_of_le_of_lt (Nat.div_le_self _ _) (by omega))]
    obtain ⟨A, hA⟩ : ∃ A, A = lo / y := ⟨_, rfl⟩
    obtain ⟨C, hC⟩ : ∃ C, C = lo % y := ⟨_, rfl⟩
    rw [← hA] at q1 ⊢
    rw [← hC] at e2 ⊢
    clear hA hC e1 hB
    have e3 : (lo : Int) % (y : Int) = (C : Int) := e2.symm
    clear e2
    rw [show ((0 : Nat) : Int) = 0 from rfl]
    go_enter Tryz.func278, Tryz.ntmps278
    go_wp2
    go_quiet (fail)
    go_wp2
    go_ret2
    exact ⟨ret2_u64 (by rw [e3]), _, rfl⟩
  · have hbl : Lib.bitLen y = bits y := lib_bitLen y (by omega)
    have hb1 : 1 ≤ bits y := by unfold bits; rw [if_neg hy0]; omega
    have hb2 : bits y ≤ 64 := by rw [bits_le_iff]; omega
    obtain ⟨s, hs⟩ : ∃ s, s = 64 - bits y := ⟨_, rfl⟩
    have hYlt : y * 2 ^ s < 18446744073709551616 := by
      have h1 := lt_two_pow_bits y
      have h2 : y * 2 ^ s < 2 ^ bits y * 2 ^ s := Nat.mul_lt_mul_of_pos_right h1 (Nat.two_pow_pos s)
      rw [← Nat.pow_add, show bits y + s = 64 by omega] at h2
      omega
    have hYge : 9223372036854775808 ≤ y * 2 ^ s := by
      have h1 := two_pow_bits_le y hy0
      have h2 : 2 ^ (bits y - 1) * 2 ^ s ≤ y * 2 ^ s := Nat.mul_le_mul_right _ h1
      rw [← Nat.pow_add, show bits y - 1 + s = 63 by omega] at h2
      omega
    have hUlow : lo / 2 ^ (64 - s) < 2 ^ s := high_small lo s hlo (by omega)
    have hhis : hi * 2 ^ s + 2 ^ s ≤ y * 2 ^ s := by
      have : (hi + 1) * 2 ^ s ≤ y * 2 ^ s := Nat.mul_le_mul_right _ hlt
      rw [Nat.add_mul] at this; omega
    obtain ⟨Y, hYd⟩ : ∃ Y, Y = y * 2 ^ s := ⟨_, rfl⟩
    obtain ⟨U, hUd⟩ : ∃ U, U = hi * 2 ^ s + lo / 2 ^ (64 - s) := ⟨_, rfl⟩
    obtain ⟨L, hLd⟩ : ∃ L, L = (lo * 2 ^ s) % B64 := ⟨_, rfl⟩
    have hUY : U < Y := by rw [hUd, hYd]; omega
    have hLlt : L < 18446744073709551616 := by rw [hLd]; exact Nat.mod_lt _ B64_pos
    have hsplit := split_shift lo s (by omega)
    have hTS : (hi * B64 + lo) * 2 ^ s = U * B64 + L := by
      rw [hUd, hLd, Nat.add_mul, hsplit]
      grind
    have eY : IntKind.u64.wrap ((y : Int) * 2 ^ s) = (Y : Int) := by
      have : ((y : Int) * 2 ^ s) = ((y * 2 ^ s : Nat) : Int) := by rw [Int.natCast_mul, Int.natCast_pow]; rfl
      rw [this, wrap_nat, Nat.mod_eq_of_lt hYlt, hYd]
    have eL : IntKind.u64.wrap ((lo : Int) * 2 ^ s) = (L : Int) := by
      have : ((lo : Int) * 2 ^ s) = ((lo * 2 ^ s : Nat) : Int) := by rw [Int.natCast_mul, Int.natCast_pow]; rfl
      rw [this, wrap_nat, hLd]; rfl
    have eU : Go.bits BinOp.or IntKind.u64 (IntKind.u64.wrap ((hi : Int) * 2 ^ s)) ((lo : Int) / 2 ^ (64 - s)) = (U : Int) := by
      have h1 : ((hi : Int) * 2 ^ s) = ((hi * 2 ^ s : Nat) : Int) := by rw [Int.natCast_mul, Int.natCast_pow]; rfl
      have h2 : ((lo : Int) / 2 ^ (64 - s)) = ((lo / 2 ^ (64 - s) : Nat) : Int) := by rw [shr_nat (Int.natCast_nonneg _)]; simp
      have h3 : hi * 2 ^ s < 18446744073709551616 := Nat.lt_of_le_of_lt (Nat.le_trans (Nat.le_add_right _ _) hhis) hYlt
      have h4 : lo / 2 ^ (64 - s) < 18446744073709551616 := Nat.lt_of_le_of_lt (Nat.div_le_self _ _) hlo
      rw [h1, wrap_nat, Nat.mod_eq_of_lt h3, h2, bits_or_u64_nat _ _ h3 h4, Nat.or_comm]
      have h5 := or_low (lo / 2 ^ (64 - s)) hi s hUlow (by omega)
      rw [Nat.mod_eq_of_lt h3] at h5
      rw [h5, hUd, Nat.add_comm]
    clear hUlow hhis hsplit
    have hQ1 := Nat.div_add_mod (U * 4294967296 + L / 4294967296) Y
    have hV := Nat.mod_lt (U * 4294967296 + L / 4294967296) (show Y > 0 by omega)
    obtain ⟨Q1, hQ1d⟩ : ∃ Q1, Q1 = (U * 4294967296 + L / 4294967296) / Y := ⟨_, rfl⟩
    obtain ⟨V, hVd⟩ : ∃ V, V = (U * 4294967296 + L / 4294967296) % Y := ⟨_, rfl⟩
    rw [← hQ1d, ← hVd] at hQ1
    rw [← hVd] at hV
    have hQ2 := Nat.div_add_mod (V * 4294967296 + L % 4294967296) Y
    have hW := Nat.mod_lt (V * 4294967296 + L % 4294967296) (show Y > 0 by omega)
    obtain ⟨Q2, hQ2d⟩ : ∃ Q2, Q2 = (V * 4294967296 + L % 4294967296) / Y := ⟨_, rfl⟩
    obtain ⟨W, hWd⟩ : ∃ W, W = (V * 4294967296 + L % 4294967296) % Y := ⟨_, rfl⟩
    rw [← hQ2d, ← hWd] at hQ2
    rw [← hWd] at hW
    have hYN : Y = Y / 4294967296 * 4294967296 + Y % 4294967296 := by omega
    have hN1 : 2147483648 ≤ Y / 4294967296 := by omega
    have hN1' : Y / 4294967296 < 4294967296 := by omega
    have pQ1 := div_lt32 Q1 U (L / 4294967296) Y (by omega) hQ1d hUY
    have pQ2 := div_lt32 Q2 V (L % 4294967296) Y (by omega) hQ2d hV
    have gU := guess_ge Q1 U (L / 4294967296) Y _ _ hYN (by omega) (by omega) hQ1d
    have gV := guess_ge Q2 V (L % 4294967296) Y _ _ hYN (by omega) (by omega) hQ2d
    have hmulTS : (hi * B64 + lo) * 2 ^ s = (Q1 * 4294967296 + Q2) * Y + W := by
      rw [hTS, hB]
      clear hTS
      have e0 : L = L / 4294967296 * 4294967296 + L % 4294967296 := by omega
      have e1 : U * 18446744073709551616 + L = (U * 4294967296 + L / 4294967296) * 4294967296 + L % 4294967296 := by omega
      rw [e1, ← hQ1]
      have e2 : (Y * Q1 + V) * 4294967296 + L % 4294967296 = Y * Q1 * 4294967296 + (V * 4294967296 + L % 4294967296) := by rw [Nat.add_mul, Nat.add_assoc]
      rw [e2, ← hQ2]
      grind
    have hfin1 : (hi * B64 + lo) / y = Q1 * 4294967296 + Q2 := by
      have h1 : (hi * B64 + lo) * 2 ^ s / (y * 2 ^ s) = (hi * B64 + lo) / y := Nat.mul_div_mul_right _ _ (Nat.two_pow_pos s)
      rw [← h1, ← hYd, hmulTS, Nat.mul_comm, Nat.mul_add_div (by omega), Nat.div_eq_of_lt hW, Nat.add_zero]
    have hfin2 : (hi * B64 + lo) % y = W / 2 ^ s := by
      have h1 : (hi * B64 + lo) * 2 ^ s % (y * 2 ^ s) = (hi * B64 + lo) % y * 2 ^ s := Nat.mul_mod_mul_right _ _ _
      rw [← hYd, hmulTS, Nat.mul_comm, Nat.mul_add_mod, Nat.mod_eq_of_lt hW] at h1
      rw [h1, Nat.mul_div_cancel _ (Nat.two_pow_pos s)]
    rw [hfin1, hfin2]
    have hr (X : Nat) : X = X / (Y / 4294967296) * (Y / 4294967296) + X % (Y / 4294967296) := by
      have := Nat.div_add_mod X (Y / 4294967296); rw [Nat.mul_comm] at this; exact this.symm
    have hrl (X : Nat) : X % (Y / 4294967296) < Y / 4294967296 := Nat.mod_lt _ (by omega)
    have hgl (X : Nat) (hX : X < 18446744073709551616) : X / (Y / 4294967296) < 17179869184 := by
      rw [Nat.div_lt_iff_lt_mul (by omega)]
      have : 17179869184 * 2147483648 ≤ 17179869184 * (Y / 4294967296) := Nat.mul_le_mul_left _ hN1
      omega
    have hgm (X : Nat) (hX : X < 18446744073709551616) : IntKind.u64.wrap (((X / (Y / 4294967296) : Nat) : Int) * ((Y / 4294967296 : Nat) : Int)) = ((X / (Y / 4294967296) * (Y / 4294967296) : Nat) : Int) := by
      refine wrap_mul _ _ ?_
      have := Nat.div_mul_le_self X (Y / 4294967296)
      omega
    refine (div64_walk hi lo y s w (by omega) hlt (by omega) h0 (by omega) (by omega) Y (Y / 4294967296) (Y % 4294967296) U L (L / 4294967296) (L % 4294967296) Q1 V Q2 W
      (U / (Y / 4294967296)) (U / (Y / 4294967296) * (Y / 4294967296)) (U % (Y / 4294967296)) (V / (Y / 4294967296)) (V / (Y / 4294967296) * (Y / 4294967296)) (V % (Y / 4294967296))
      (U * 4294967296 % 18446744073709551616) (Q1 * Y % 18446744073709551616) (V * 4294967296 % 18446744073709551616) (Q2 * Y % 18446744073709551616)
      eY (by omega) (and_mask32 Y (by omega)) hN1 hN1' (by omega) eU eL (by omega) (and_mask32 L hLlt) (by omega) ⟨hYN, by omega⟩ hQ1d ⟨hUY, by omega⟩ hQ2d ⟨hV, by omega⟩
      (Int.natCast_ediv _ _).symm (hgm U (by omega)) (hr U) (by have := hrl U; omega) (hgl U (by omega)) (hr U) gU
      (by rw [wrap_u64_mul]) (high_room _ _ (by omega)) (by rw [← Int.natCast_mul, wrap_nat]) (rest_wrap U _ Q1 Y V (by rw [← hQ1, Nat.mul_comm]) (by omega)) (by omega)
      (Int.natCast_ediv _ _).symm (hgm V (by omega)) (hr V) (by have := hrl V; omega) (hgl V (by omega)) (hr V) gV
      (by rw [wrap_u64_mul]) (high_room _ _ (by omega)) (by rw [← Int.natCast_mul, wrap_nat]) (rest_wrap V _ Q2 Y W (by rw [← hQ2, Nat.mul_comm]) (by omega))
      pQ1 pQ2 (by omega) (by omega) _ _ ?_).mono (fun e w' h => ⟨h.1, 0, h.2⟩)
    show (_, _) = (_, _)
    rw [shr_nat (Int.natCast_nonneg _)]
    simp
end Go.Proofs.YtgodkfgnhpnhcaaGreatDoor
namespace Go.Proofs.YtgodkfgnhpnhcaaGreatDoor
open Go.RowKit
theorem ret_u64 {a b : Int} (h : a = b) : Ending.returned (.int .u64 a) = .returned (.int .u64 b) := by rw [h]
theorem OwnN.drewN {w : World} {g : Nat} {zs : List Nat} (h : OwnN w g zs) (k : Nat) : OwnN (w.drewN k) g zs := h
theorem grownBy_drewN {w w1 : World} {row : Option Nat} (h : w.grownBy w1 row) (k : Nat) : w.grownBy (w1.drewN k) row := ⟨h.os, h.tape, h.output, h.size, h.block⟩
theorem short_step (ys xs : List Nat) (j by_ rest q r : Nat) (hj : j < ys.length) (hl : ys.length = xs.length) (hq : q * by_ + r = rest * B64 + lx xs j) (ht : ys.take (j + 1) = xs.take (j + 1))
    (h : val (ys.drop (j + 1)) * by_ + rest = val (xs.drop (j + 1))) : val ((ys.set j q).drop j) * by_ + r = val (xs.drop j) ∧ (ys.set j q).take j = xs.take j := by
  constructor
  · have e1 : (ys.set j q).drop j = q :: ys.drop (j + 1) := by
      rw [List.drop_eq_getElem_cons (by rw [List.length_set]; exact hj), List.getElem_set_self, List.drop_set_of_lt (by omega)]
    have e2 : xs.drop j = lx xs j :: xs.drop (j + 1) := by rw [lx_get (by omega)]; exact List.drop_eq_getElem_cons (by omega)
    rw [e1, e2]
    simp only [val]
    rw [← h]
    generalize val (ys.drop (j + 1)) = a at *
    generalize lx xs j = x at *
    generalize B64 = B at *
    clear ht h e1 e2
    grind
  · rw [List.take_set_of_le (by omega)]
    have := congrArg (List.take j) ht
    rwa [List.take_take, List.take_take, Nat.min_eq_left (by omega)] at this
set_option maxHeartbeats 1600000 in
theorem short_any {g c n by_ : Nat} {xs : List Nat} {w : World} (hn : xs.length = n) (hz : OwnN w g xs) (hl : n ≤ 1099511627776) (hb0 : 0 < by_) (hb1 : by_ < B64) :
    Calls Tryz.prog 270 #[.slice (some ⟨g, 0, none⟩) n c, .int .u64 by_] w fun e w' =>
      e = .returned (.int .u64 (val xs % by_ : Nat)) ∧ w.grownBy w' (some g) ∧ ∃ ys, OwnN w' g ys ∧ ys.length = n ∧ val ys = val xs / by_ := by
  subst hn
  have hox := Lib.hid hz.2
  have HB1 := Lib.hid hb1; clear hb1
  go_enter Tryz.func270, Tryz.ntmps270
  go_wp2_with fail
  go_loopw [5, 6] (fun r i wr => ∃ (k rest : Nat) (ys : List Nat), k ≤ xs.length ∧ i = .int .i64 ((k : Int) - 1) ∧ r = .int .u64 (rest : Nat) ∧ Hid (rest < by_) ∧ Hid (OwnN wr g ys) ∧ Hid (ys.length = xs.length) ∧ Hid (w.grownBy wr (some g)) ∧
      Hid (val (ys.drop k) * by_ + rest = val (xs.drop k)) ∧ Hid (ys.take k = xs.take k)) (fun _ i _ => (intOf i + 1).toNat)
  case atStart => exact ⟨xs.length, 0, xs, Nat.le_refl _, rfl, rfl, Lib.hid hb0, Lib.hid hz, Lib.hid rfl, Lib.hid (World.grownBy.refl _ _), Lib.hid (by simp [val]), Lib.hid rfl⟩
  case round =>
    obtain ⟨k, rest, ys, hk, rfl, rfl, hr, hO, hL, hG, hV, hT⟩ := hrel
    rcases Nat.eq_zero_or_pos k with h0 | h0
    · have hk0 : (k : Int) - 1 < 0 := by omega
      have H0 := Lib.hid h0; clear h0
      go_wp2
      go_ret
      have e := hV.out
      rw [H0.out] at e
      rw [List.drop_zero, List.drop_zero] at e
      have h1 : val xs % by_ = rest := by rw [← e, Nat.mul_comm, Nat.mul_add_mod, Nat.mod_eq_of_lt hr.out]
      have h2 : val xs / by_ = val ys := by rw [← e, Nat.mul_comm, Nat.mul_add_div hb0, Nat.div_eq_of_lt hr.out, Nat.add_zero]
      exact ⟨ret_u64 (by rw [h1]), hG.out, ys, hO.out, hL.out, h2.symm⟩
    · obtain ⟨j, rfl⟩ : ∃ j, k = j + 1 := ⟨k - 1, by omega⟩
      have hjl : j < ys.length := by rw [hL.out]; omega
      have hyx : lx ys j = lx xs j := by
        have := congrArg (fun l => lx l j) hT.out
        simpa [lx, List.getD_eq_getElem?_getD, List.getElem?_take] using this
      have hcz : wr.cell? ⟨g, j, none⟩ = some (.int .u64 (lx xs j : Nat)) := by rw [← hyx]; exact hO.out.cell hjl
      have hfz : wr.frozen? ⟨g, j, none⟩ = false := hO.out.frozen _
      have hxl := lx_lt hox.out j
      obtain ⟨q, hq⟩ : ∃ q, q = (rest * B64 + lx xs j) / by_ := ⟨_, rfl⟩
      obtain ⟨r, hr'⟩ : ∃ r, r = (rest * B64 + lx xs j) % by_ := ⟨_, rfl⟩
      have hqr : q * by_ + r = rest * B64 + lx xs j := by rw [hq, hr', Nat.mul_comm]; exact Nat.div_add_mod _ _
      have hqB : q < B64 := by
        rw [hq, Nat.div_lt_iff_lt_mul hb0]
        have : (rest + 1) * B64 ≤ by_ * B64 := Nat.mul_le_mul_right _ hr.out
        rw [Nat.mul_comm by_, Nat.add_mul] at this
        omega
      have hrl : r < by_ := by rw [hr']; exact Nat.mod_lt _ hb0
      have S := short_step ys xs j by_ rest q r hjl hL.out hqr hT.out hV.out
      have HV := Lib.hid S.1; have HT := Lib.hid S.2; clear S
      have hO' := hO.out.set_ j (x := ((q : Nat) : Int)) (Int.natCast_nonneg _) (u64_lt hqB)
      have HR := Lib.hid hrl
      have hq' := Lib.hid hq; have hr'' := Lib.hid hr'
      have hlt := hr.out
      clear hqr hrl hq hr' hyx hqB hO'
      go_wp2_with (go_at_call 278; refine (div64_any rest (lx xs j) by_ _ HB1.out hlt hxl).mono ?_; rintro e w' ⟨rfl, kd, rfl⟩; rw [← hq'.out, ← hr''.out])
      have hqB : q < B64 := by
        have h := HB1.out
        rw [hq'.out, Nat.div_lt_iff_lt_mul hb0]
        have : (rest + 1) * B64 ≤ by_ * B64 := Nat.mul_le_mul_right _ hlt
        rw [Nat.mul_comm by_, Nat.add_mul] at this
        omega
      go_roundw
      case rel => exact ⟨j, r, ys.set j q, by omega, by go_num, rfl, HR, Lib.hid (by have := (hO.out.drewN kd).set_ j (x := ((q : Nat) : Int)) (Int.natCast_nonneg _) (u64_lt hqB); rwa [Int.toNat_natCast] at this), Lib.hid (by rw [List.length_set]; exact hL.out), Lib.hid (grownBy_set (i := j) (grownBy_drewN hG.out kd) (.int .u64 q)), HV, HT⟩
      case measure => simp [intOf]
end Go.Proofs.YtgodkfgnhpnhcaaGreatDoor
namespace Go.Proofs.YtgodkfgnhpnhcaaGreatDoor
open Go.RowKit
theorem mul_le_cases (d v r u : Nat) (h : B64 * mulH d v + mulL d v ≤ r * B64 + u) (hl : mulL d v < B64) (hu : u < B64) : mulH d v < r ∨ (mulH d v = r ∧ mulL d v ≤ u) := by
  generalize mulH d v = a at *
  generalize mulL d v = b at *
  rw [Nat.mul_comm r] at h
  rcases Nat.lt_trichotomy a r with h1 | h1 | h1
  · exact .inl h1
  · subst h1; exact .inr ⟨rfl, by omega⟩
  · exfalso
    have : B64 * (r + 1) ≤ B64 * a := Nat.mul_le_mul_left _ h1
    rw [Nat.mul_add] at this; omega
theorem mul_gt_cases (d v r u : Nat) (h : r * B64 + u < B64 * mulH d v + mulL d v) (hu : u < B64) : r < mulH d v ∨ (mulH d v = r ∧ u < mulL d v) := by
  have hl := mulL_lt d v
  generalize mulH d v = a at *
  generalize mulL d v = b at *
  rw [Nat.mul_comm r] at h
  rcases Nat.lt_trichotomy r a with h1 | h1 | h1
  · exact .inl h1
  · subst h1; exact .inr ⟨rfl, by omega⟩
  · exfalso
    have : B64 * (a + 1) ≤ B64 * r := Nat.mul_le_mul_left _ h1
    rw [Nat.mul_add] at this; omega
theorem wrap_pred (d : Nat) (h : 1 ≤ d) (hd : d < B64) : IntKind.u64.wrap ((d : Int) - 1) = ((d - 1 : Nat) : Int) := by
  rw [IntKind.wrap_u64]; unfold B64 at hd; omega
set_option maxHeartbeats 3200000 in
set_option maxRecDepth 100000 in
theorem estimate_any (u2 u1 u0 v1 v0 : Nat) (w : World) (hu2 : u2 ≤ v1) (hu1 : u1 < B64) (hu0 : u0 < B64) (hv1 : v1 < B64) (hv1p : 0 < v1) (hv0 : v0 < B64) :
    Calls Tryz.prog 280 #[.int .u64 u2, .int .u64 u1, .int .u64 u0, .int .u64 v1, .int .u64 v0] w fun e w' =>
      ∃ d : Nat, e = .returned (.int .u64 d) ∧ d < B64 ∧ (∀ q, q < B64 → q * (v1 * B64 + v0) ≤ u2 * B64 * B64 + u1 * B64 + u0 → q ≤ d) ∧ ∃ k, w' = w.drewN k := by
  have HU1 := Lib.hid hu1; have HU0 := Lib.hid hu0; have HV1 := Lib.hid hv1; have HV0 := Lib.hid hv0
  by_cases hlt : u2 < v1
  · have HD : Hid ((u2 * B64 + u1) / v1 < B64 ∧ (u2 * B64 + u1) % v1 < B64) := Lib.hid ⟨by
        rw [Nat.div_lt_iff_lt_mul hv1p]
        have : (u2 + 1) * B64 ≤ v1 * B64 := Nat.mul_le_mul_right _ hlt
        rw [Nat.mul_comm v1, Nat.add_mul] at this
        omega, Nat.lt_trans (Nat.mod_lt _ hv1p) hv1⟩
    clear hu1 hu0 hv1 hv0
    go_enter Tryz.func280, Tryz.ntmps280
    go_wp2_with (go_at_call 278; refine (div64_any u2 u1 v1 _ HV1.out hlt HU1.out).mono ?_; rintro e w' ⟨rfl, kd, rfl⟩)
    go_loopw [11, 12, 13] (fun dd rr oo wr => ∃ (d r o : Nat) (m : Nat), dd = .int .u64 (d : Nat) ∧ rr = .int .u64 (r : Nat) ∧ oo = .int .u64 (o : Nat) ∧ o ≤ 1 ∧ wr = w.drewN m ∧ Hid (d < B64 ∧ r < B64) ∧ Hid (r + o * B64 + d * v1 = u2 * B64 + u1) ∧
        Hid (∀ q, q < B64 → q * (v1 * B64 + v0) ≤ u2 * B64 * B64 + u1 * B64 + u0 → q ≤ d)) (fun dd _ _ _ => (intOf dd).toNat)
    case atStart => exact ⟨(u2 * B64 + u1) / v1, (u2 * B64 + u1) % v1, 0, kd, rfl, rfl, rfl, by omega, rfl, Lib.hid HD.out, Lib.hid (by rw [Nat.zero_mul, Nat.add_zero, Nat.add_comm, Nat.mul_comm]; exact Nat.div_add_mod _ _), Lib.hid (fun q _ hq => guess_div u2 u1 v1 q v0 u0 HU0.out hv1p hq)⟩
    case round =>
      obtain ⟨d, r, o, m, rfl, rfl, rfl, ho, rfl, hb, hE, hQ⟩ := hrel
      rcases Nat.eq_zero_or_pos o with h0 | h0
      · have hoi : (((o : Nat) : Int) == 0) = true := by rw [h0]; rfl
        have hE0 : Hid (r + d * v1 = u2 * B64 + u1) := Lib.hid (by have := hE.out; rw [h0] at this; omega)
        clear h0 hE
        have bd := hb.out.1; have br := hb.out.2
        have hml := mul_hl d v0
        have hmL := mulL_lt d v0
        have BD := Lib.hid bd; have BR := Lib.hid br
        by_cases hbrk : d * v0 ≤ r * B64 + u0
        · have hcase : mulH d v0 < r ∨ (mulH d v0 = r ∧ mulL d v0 ≤ u0) := mul_le_cases d v0 r u0 (by rw [hml]; exact hbrk) hmL HU0.out
          clear hml hbrk
          rcases hcase with h1 | ⟨h1, h2⟩
          · have k1 : ((mulH d v0 : Nat) : Int) < (r : Int) := by omega
            clear bd br h1 hmL
            go_wp2_with (go_at_call 288; refine (mul64_any d v0 BD.out HV0.out _).mono ?_; rintro e w' ⟨rfl, rfl⟩)
            go_ret
            exact ⟨d, rfl, BD.out, hQ.out, _, rfl⟩
          · have k1 : ¬ ((mulH d v0 : Nat) : Int) < (r : Int) := by omega
            have k2 : (((mulH d v0 : Nat) : Int) == (r : Int)) = true := by rw [h1]; exact beq_self_eq_true _
            have k3 : ((mulL d v0 : Nat) : Int) ≤ (u0 : Int) := by omega
            clear bd br h1 h2 hmL
            go_wp2_with (go_at_call 288; refine (mul64_any d v0 BD.out HV0.out _).mono ?_; rintro e w' ⟨rfl, rfl⟩)
            go_ret
            exact ⟨d, rfl, BD.out, hQ.out, _, rfl⟩
        · have hcase : r < mulH d v0 ∨ (mulH d v0 = r ∧ u0 < mulL d v0) := mul_gt_cases d v0 r u0 (by rw [hml]; omega) HU0.out
          have hdec : ∀ q, q < B64 → q * (v1 * B64 + v0) ≤ u2 * B64 * B64 + u1 * B64 + u0 → q ≤ d - 1 := by
            intro q _ hq
            have := guess_step d u2 u1 u0 v1 v0 r q hE0.out (by omega) hq
            omega
          have hd1 : 1 ≤ d := by
            rcases Nat.eq_zero_or_pos d with h | h
            · subst h; simp at hbrk
            · exact h
          have HW := Lib.hid (wrap_pred d hd1 bd)
          have HQ := Lib.hid hdec
          have hadd := fun w => add64_run (x := ((r : Nat) : Int)) (y := ((v1 : Nat) : Int)) (c := 0) (Int.natCast_nonneg _) (Int.natCast_nonneg _) (by omega) w
          have al := add_law (r : Nat) (v1 : Nat) 0
          have as_ := addS_in (r : Nat) (v1 : Nat) 0
          have hrI : 0 ≤ ((r : Nat) : Int) ∧ ((r : Nat) : Int) < 18446744073709551616 := ⟨Int.natCast_nonneg _, u64_lt br⟩
          have hvI : 0 ≤ ((v1 : Nat) : Int) ∧ ((v1 : Nat) : Int) < 18446744073709551616 := ⟨Int.natCast_nonneg _, u64_lt HV1.out⟩
          have ac := addC_in hrI hvI (c := 0) (by omega)
          obtain ⟨r', hr'⟩ := Int.eq_ofNat_of_zero_le as_.1
          obtain ⟨o', ho'⟩ := Int.eq_ofNat_of_zero_le ac.1
          rw [hr', ho'] at hadd al
          rw [hr'] at as_
          rw [ho'] at ac
          have HE : Hid (r' + o' * B64 + (d - 1) * v1 = u2 * B64 + u1) := Lib.hid (by
            rw [← hE0.out]
            obtain ⟨k, rfl⟩ : ∃ k, d = k + 1 := ⟨d - 1, by omega⟩
            rw [Nat.add_sub_cancel, Nat.add_mul, Nat.one_mul]
            have hB : B64 = 18446744073709551616 := rfl
            rw [hB]
            omega)
          have HB : Hid (d - 1 < B64 ∧ r' < B64) := Lib.hid ⟨by omega, by have hB : B64 = 18446744073709551616 := rfl; rw [hB]; omega⟩
          have ho1 : o' ≤ 1 := by omega
          clear hml hbrk hdec al as_ ac hrI hvI hr' ho'
          have K1 : (¬ ((mulH d v0 : Nat) : Int) < (r : Int) ∧ (((mulH d v0 : Nat) : Int) == (r : Int)) = false) ∨ ((¬ ((mulH d v0 : Nat) : Int) < (r : Int) ∧ (((mulH d v0 : Nat) : Int) == (r : Int)) = true) ∧ (u0 : Int) < ((mulL d v0 : Nat) : Int)) := by
            rcases hcase with h | ⟨h, h2⟩
            · exact .inl ⟨by omega, beq_eq_false_iff_ne.2 (by omega)⟩
            · exact .inr ⟨⟨by omega, by rw [h]; exact beq_self_eq_true _⟩, by omega⟩
          clear hcase hmL bd br
          rcases K1 with ⟨k1, k2⟩ | ⟨⟨k1, k2⟩, k3⟩
          all_goals
            go_wp2_with (go_at_call 288; refine (mul64_any d v0 BD.out HV0.out _).mono ?_; rintro e w' ⟨rfl, rfl⟩)
            go_roundw
            case rel => exact ⟨d - 1, r', o', m, by rw [HW.out], rfl, rfl, ho1, rfl, HB, HE, HQ⟩
            case measure => simp only [intOf]; rw [HW.out]; omega
      · have hoi : (((o : Nat) : Int) == 0) = false := beq_eq_false_iff_ne.2 (by omega)
        go_wp2
        go_ret
        exact ⟨d, rfl, hb.out.1, hQ.out, _, rfl⟩
  · have hu2' : u2 = v1 := by omega
    have hadd := fun w => add64_run (x := ((u1 : Nat) : Int)) (y := ((v1 : Nat) : Int)) (c := 0) (Int.natCast_nonneg _) (Int.natCast_nonneg _) (by omega) w
    have al := add_law (u1 : Nat) (v1 : Nat) 0
    have as_ := addS_in (u1 : Nat) (v1 : Nat) 0
    have ac := addC_in (x := ((u1 : Nat) : Int)) (y := ((v1 : Nat) : Int)) (c := 0) ⟨Int.natCast_nonneg _, u64_lt hu1⟩ ⟨Int.natCast_nonneg _, u64_lt hv1⟩ (by omega)
    obtain ⟨r', hr'⟩ := Int.eq_ofNat_of_zero_le as_.1
    obtain ⟨o', ho'⟩ := Int.eq_ofNat_of_zero_le ac.1
    rw [hr', ho'] at hadd al
    rw [hr'] at as_
    rw [ho'] at ac
    have HE : Hid (r' + o' * B64 + (B64 - 1) * v1 = u2 * B64 + u1) := Lib.hid (by
      have hB : B64 = 18446744073709551616 := rfl
      rw [hB, hu2']
      omega)
    have HB : Hid (B64 - 1 < B64 ∧ r' < B64) := Lib.hid ⟨by have := B64_pos; omega, by have hB : B64 = 18446744073709551616 := rfl; rw [hB]; omega⟩
    have ho1 : o' ≤ 1 := by omega
    have hnl : ¬ (u2 : Int) < (v1 : Int) := by omega
    clear al as_ ac hr' ho' hu2' hu1 hu0 hv1 hv0
    go_enter Tryz.func280, Tryz.ntmps280
    go_wp2_with fail
    go_loopw [11, 12, 13] (fun dd rr oo wr => ∃ (d r o : Nat) (m : Nat), dd = .int .u64 (d : Nat) ∧ rr = .int .u64 (r : Nat) ∧ oo = .int .u64 (o : Nat) ∧ o ≤ 1 ∧ wr = w.drewN m ∧ Hid (d < B64 ∧ r < B64) ∧ Hid (r + o * B64 + d * v1 = u2 * B64 + u1) ∧
        Hid (∀ q, q < B64 → q * (v1 * B64 + v0) ≤ u2 * B64 * B64 + u1 * B64 + u0 → q ≤ d)) (fun dd _ _ _ => (intOf dd).toNat)
    case atStart => exact ⟨B64 - 1, r', o', 0, rfl, rfl, rfl, ho1, rfl, HB, HE, Lib.hid (fun q hq _ => by omega)⟩
    case round =>
      obtain ⟨d, r, o, m, rfl, rfl, rfl, ho, rfl, hb, hE, hQ⟩ := hrel
      rcases Nat.eq_zero_or_pos o with h0 | h0
      · have hoi : (((o : Nat) : Int) == 0) = true := by rw [h0]; rfl
        have hE0 : Hid (r + d * v1 = u2 * B64 + u1) := Lib.hid (by have := hE.out; rw [h0] at this; omega)
        clear h0 hE
        have bd := hb.out.1; have br := hb.out.2
        have hml := mul_hl d v0
        have hmL := mulL_lt d v0
        have BD := Lib.hid bd; have BR := Lib.hid br
        by_cases hbrk : d * v0 ≤ r * B64 + u0
        · have hcase : mulH d v0 < r ∨ (mulH d v0 = r ∧ mulL d v0 ≤ u0) := mul_le_cases d v0 r u0 (by rw [hml]; exact hbrk) hmL HU0.out
          clear hml hbrk
          rcases hcase with h1 | ⟨h1, h2⟩
          · have k1 : ((mulH d v0 : Nat) : Int) < (r : Int) := by omega
            clear bd br h1 hmL
            go_wp2_with (go_at_call 288; refine (mul64_any d v0 BD.out HV0.out _).mono ?_; rintro e w' ⟨rfl, rfl⟩)
            go_ret
            exact ⟨d, rfl, BD.out, hQ.out, _, rfl⟩
          · have k1 : ¬ ((mulH d v0 : Nat) : Int) < (r : Int) := by omega
            have k2 : (((mulH d v0 : Nat) : Int) == (r : Int)) = true := by rw [h1]; exact beq_self_eq_true _
            have k3 : ((mulL d v0 : Nat) : Int) ≤ (u0 : Int) := by omega
            clear bd br h1 h2 hmL
            go_wp2_with (go_at_call 288; refine (mul64_any d v0 BD.out HV0.out _).mono ?_; rintro e w' ⟨rfl, rfl⟩)
            go_ret
            exact ⟨d, rfl, BD.out, hQ.out, _, rfl⟩
        · have hcase : r < mulH d v0 ∨ (mulH d v0 = r ∧ u0 < mulL d v0) := mul_gt_cases d v0 r u0 (by rw [hml]; omega) HU0.out
          have hdec : ∀ q, q < B64 → q * (v1 * B64 + v0) ≤ u2 * B64 * B64 + u1 * B64 + u0 → q ≤ d - 1 := by
            intro q _ hq
            have := guess_step d u2 u1 u0 v1 v0 r q hE0.out (by omega) hq
            omega
          have hd1 : 1 ≤ d := by
            rcases Nat.eq_zero_or_pos d with h | h
            · subst h; simp at hbrk
            · exact h
          have HW := Lib.hid (wrap_pred d hd1 bd)
          have HQ := Lib.hid hdec
          have hadd := fun w => add64_run (x := ((r : Nat) : Int)) (y := ((v1 : Nat) : Int)) (c := 0) (Int.natCast_nonneg _) (Int.natCast_nonneg _) (by omega) w
          have al := add_law (r : Nat) (v1 : Nat) 0
          have as_ := addS_in (r : Nat) (v1 : Nat) 0
          have hrI : 0 ≤ ((r : Nat) : Int) ∧ ((r : Nat) : Int) < 18446744073709551616 := ⟨Int.natCast_nonneg _, u64_lt br⟩
          have hvI : 0 ≤ ((v1 : Nat) : Int) ∧ ((v1 : Nat) : Int) < 18446744073709551616 := ⟨Int.natCast_nonneg _, u64_lt HV1.out⟩
          have ac := addC_in hrI hvI (c := 0) (by omega)
          obtain ⟨r', hr'⟩ := Int.eq_ofNat_of_zero_le as_.1
          obtain ⟨o', ho'⟩ := Int.eq_ofNat_of_zero_le ac.1
          rw [hr', ho'] at hadd al
          rw [hr'] at as_
          rw [ho'] at ac
          have HE : Hid (r' + o' * B64 + (d - 1) * v1 = u2 * B64 + u1) := Lib.hid (by
            rw [← hE0.out]
            obtain ⟨k, rfl⟩ : ∃ k, d = k + 1 := ⟨d - 1, by omega⟩
            rw [Nat.add_sub_cancel, Nat.add_mul, Nat.one_mul]
            have hB : B64 = 18446744073709551616 := rfl
            rw [hB]
            omega)
          have HB : Hid (d - 1 < B64 ∧ r' < B64) := Lib.hid ⟨by omega, by have hB : B64 = 18446744073709551616 := rfl; rw [hB]; omega⟩
          have ho1 : o' ≤ 1 := by omega
          clear hml hbrk hdec al as_ ac hrI hvI hr' ho'
          have K1 : (¬ ((mulH d v0 : Nat) : Int) < (r : Int) ∧ (((mulH d v0 : Nat) : Int) == (r : Int)) = false) ∨ ((¬ ((mulH d v0 : Nat) : Int) < (r : Int) ∧ (((mulH d v0 : Nat) : Int) == (r : Int)) = true) ∧ (u0 : Int) < ((mulL d v0 : Nat) : Int)) := by
            rcases hcase with h | ⟨h, h2⟩
            · exact .inl ⟨by omega, beq_eq_false_iff_ne.2 (by omega)⟩
            · exact .inr ⟨⟨by omega, by rw [h]; exact beq_self_eq_true _⟩, by omega⟩
          clear hcase hmL bd br
          rcases K1 with ⟨k1, k2⟩ | ⟨⟨k1, k2⟩, k3⟩
          all_goals
            go_wp2_with (go_at_call 288; refine (mul64_any d v0 BD.out HV0.out _).mono ?_; rintro e w' ⟨rfl, rfl⟩)
            go_roundw
            case rel => exact ⟨d - 1, r', o', m, by rw [HW.out], rfl, rfl, ho1, rfl, HB, HE, HQ⟩
            case measure => simp only [intOf]; rw [HW.out]; omega
      · have hoi : (((o : Nat) : Int) == 0) = false := beq_eq_false_iff_ne.2 (by omega)
        go_wp2
        go_ret
        exact ⟨d, rfl, hb.out.1, hQ.out, _, rfl⟩
end Go.Proofs.YtgodkfgnhpnhcaaGreatDoor
namespace Go.Proofs.YtgodkfgnhpnhcaaGreatDoor
open Go.RowKit
theorem give_step (ys zs xs : List Nat) (j k : Nat) (s : Int) (c c' : Int) (hi : j + k < ys.length) (hk : k < xs.length) (h0 : 0 ≤ c) (hs0 : 0 ≤ s) (hc' : 0 ≤ c')
    (hs : s + 18446744073709551616 * c' = lim ys (j + k) + lim xs k + c) (h : val ys + c.toNat * B64 ^ (j + k) = val zs + val (xs.take k) * B64 ^ j) :
    val (ys.set (j + k) s.toNat) + c'.toNat * B64 ^ (j + (k + 1)) = val zs + val (xs.take (k + 1)) * B64 ^ j := by
  have h1 := val_set ys (j + k) s.toNat hi
  rw [val_take_succ xs k hk]
  rw [lim_eq hi, lim_eq hk] at hs
  have e : s.toNat + B64 * c'.toNat = ys[j + k] + xs[k] + c.toNat := by unfold B64; omega
  have e2 : B64 ^ (j + (k + 1)) = B64 ^ (j + k) * B64 := by rw [← Nat.add_assoc, Nat.pow_succ]
  have e3 : xs[k] * B64 ^ k * B64 ^ j = xs[k] * B64 ^ (j + k) := by rw [Nat.pow_add]; grind
  rw [e2, Nat.add_mul, e3]
  exact alg1 _ _ _ _ _ _ _ _ _ _ _ _ h1 h e
set_option maxHeartbeats 1600000 in
theorem giveBack_any {p : Nat → Prop} {vx : Value} {g c j n : Nat} {zs xs : List Nat} {w : World} (hn : xs.length + 1 = n) (hz : OwnN w g zs) (hx : NatP p w vx xs) (hp : ∀ b, p b → b ≠ g) (hl : j + xs.length < zs.length) (hzl : zs.length ≤ 1099511627776) :
    Calls Tryz.prog 282 #[.slice (some ⟨g, j, none⟩) n c, vx] w fun e w' =>
      ∃ cy : Nat, e = .returned (.int .u64 cy) ∧ cy ≤ 1 ∧ w.grownBy w' (some g) ∧ ∃ ys, OwnN w' g ys ∧ ys.length = zs.length ∧ val ys + cy * B64 ^ (j + n) = val zs + val xs * B64 ^ j ∧ ys.drop (j + n) = zs.drop (j + n) := by
  subst hn
  have hok := hx.ok
  obtain ⟨A, cx, rfl, h2, h3, h4, h5⟩ := hx
  obtain ⟨h3, h3b⟩ := h3
  have h5' := Lib.hid h5; clear h5
  have hp' := Lib.hid hp; clear hp
  go_enter Tryz.func282, Tryz.ntmps282
  go_wp2_with fail
  go_loopw [5, 10] (fun c k wr => ∃ (kk : Nat) (cy : Int) (ys : List Nat), kk ≤ xs.length ∧ k = .int .i64 kk ∧ c = .int .u64 cy ∧ 0 ≤ cy ∧ cy ≤ 1 ∧ Hid (OwnN wr g ys) ∧ Hid (ys.length = zs.length) ∧ Hid (w.grownBy wr (some g)) ∧
      Hid (val ys + cy.toNat * B64 ^ (j + kk) = val zs + val (xs.take kk) * B64 ^ j) ∧ Hid (ys.drop (j + (xs.length + 1)) = zs.drop (j + (xs.length + 1)))) (fun _ k _ => xs.length - (intOf k).toNat)
  case atStart => exact ⟨0, 0, zs, Nat.zero_le _, rfl, rfl, by omega, by omega, Lib.hid hz, Lib.hid rfl, Lib.hid (World.grownBy.refl _ _), Lib.hid (by simp [val]), Lib.hid rfl⟩
  case round =>
    obtain ⟨kk, cy, ys, hkk, rfl, rfl, hc0, hc1, hO, hL, hG, hV, hDr⟩ := hrel
    have bz := lim_lt hO.out.2 (j + kk)
    have hLL := hL.out
    have hcz : wr.cell? ⟨g, j + kk, none⟩ = some (.int .u64 (lim ys (j + kk))) := hO.out.cell (by omega)
    have hfz : wr.frozen? ⟨g, j + kk, none⟩ = false := hO.out.frozen _
    have hi : j + kk < ys.length := by omega
    have HLL := Lib.hid hLL; clear hLL
    by_cases hlt : kk < xs.length
    · obtain ⟨b, off, rfl, hpb, hb, hcell⟩ := h5'.out (by omega)
      have hbg := hp'.out b hpb
      have hcx : wr.cell? ⟨b, off + kk, none⟩ = some (.int .u64 (lim xs kk)) := (World.cell?_of_block (hG.out.block b hb (fun e => hbg (by injection e)))).trans (hcell kk hlt)
      have bx := lim_lt hok kk
      have hadd := fun w => add64_run bz.1 bx.1 ⟨hc0, hc1⟩ w
      clear hcell hpb
      have bs := addS_in (lim ys (j + kk)) (lim xs kk) cy
      have bc := addC_in bz bx ⟨hc0, hc1⟩
      have HR := Lib.hid (give_step ys zs xs j kk _ cy _ hi hlt hc0 bs.1 bc.1 (add_law (lim ys (j + kk)) (lim xs kk) cy) hV.out)
      have HO := Lib.hid (hO.out.set_ (j + kk) bs.1 bs.2)
      have HG := Lib.hid (grownBy_set (i := j + kk) hG.out (.int .u64 (addS (lim ys (j + kk)) (lim xs kk) cy)))
      go_wp2
      go_roundw
      case rel => exact ⟨kk + 1, _, _, by omega, by go_num, rfl, bc.1, bc.2, HO, Lib.hid (by rw [List.length_set]; exact HLL.out), HG, HR, Lib.hid (by rw [List.drop_set_of_lt (by omega)]; exact hDr.out)⟩
      case measure => simp [intOf]; omega
    · obtain rfl : kk = xs.length := by omega
      have hadd := fun w => add64_run (x := lim ys (j + xs.length)) (y := 0) (c := cy) bz.1 (by omega) ⟨hc0, hc1⟩ w
      have bs := addS_in (lim ys (j + xs.length)) 0 cy
      have bc := addC_in (x := lim ys (j + xs.length)) (y := 0) (c := cy) bz (by omega) ⟨hc0, hc1⟩
      have al := add_law (lim ys (j + xs.length)) 0 cy
      have HR : Hid (val (ys.set (j + xs.length) (addS (lim ys (j + xs.length)) 0 cy).toNat) + (addC (lim ys (j + xs.length)) 0 cy).toNat * B64 ^ (j + (xs.length + 1)) = val zs + val xs * B64 ^ j) := by
        refine Lib.hid ?_
        have h1 := val_set ys (j + xs.length) (addS (lim ys (j + xs.length)) 0 cy).toNat hi
        have e2 : B64 ^ (j + (xs.length + 1)) = B64 ^ (j + xs.length) * B64 := by rw [← Nat.add_assoc, Nat.pow_succ]
        rw [lim_eq hi] at *
        have e : (addS (ys[j + xs.length] : Int) 0 cy).toNat + B64 * (addC (ys[j + xs.length] : Int) 0 cy).toNat = ys[j + xs.length] + 0 + cy.toNat := by unfold B64; omega
        have hv := hV.out
        rw [List.take_length] at hv
        rw [e2]
        have := alg1 _ _ _ _ _ 0 _ _ _ _ _ _ h1 hv e
        omega
      have HO := Lib.hid (hO.out.set_ (j + xs.length) bs.1 bs.2)
      have HG := Lib.hid (grownBy_set (i := j + xs.length) hG.out (.int .u64 (addS (lim ys (j + xs.length)) 0 cy)))
      clear al
      go_wp2
      go_ret
      exact ⟨(addC (lim ys (j + xs.length)) 0 cy).toNat, ret_u64 (Int.toNat_of_nonneg bc.1).symm, by omega, HG.out, _, HO.out, by rw [List.length_set]; exact HLL.out, HR.out, by rw [List.drop_set_of_lt (by omega)]; exact hDr.out⟩
theorem take_digit (x d cy z : Nat) (hx : x < B64) (hd : d < B64) (hc : cy < B64) (hz : z < B64) :
    let lo := addS (mulL x d : Nat) (cy : Nat) 0; let c1 := addC (mulL x d : Nat) (cy : Nat) 0
    let s := subD (z : Nat) lo 0; let b := subB (z : Nat) lo 0
    s + (x * d + cy : Nat) = (z : Nat) + 18446744073709551616 * ((mulH x d : Nat) + c1 + b) ∧ (mulH x d : Nat) + c1 + b < 18446744073709551616 ∧ (mulH x d : Nat) + c1 < 18446744073709551616 ∧ 0 ≤ c1 ∧ 0 ≤ b ∧ 0 ≤ s ∧ s < 18446744073709551616 ∧ 0 ≤ lo ∧ lo < 18446744073709551616 := by
  intro lo c1 s b
  have h1 := mul_hl x d
  have h2 := mulL_lt x d
  have h3 : x * d ≤ (B64 - 1) * (B64 - 1) := Nat.mul_le_mul (by omega) (by omega)
  have hB : B64 = 18446744073709551616 := rfl
  have e1 := add_law (mulL x d : Nat) (cy : Nat) 0
  have b1 := addS_in (mulL x d : Nat) (cy : Nat) 0
  have c1b := addC_in (x := ((mulL x d : Nat) : Int)) (y := ((cy : Nat) : Int)) (c := 0) (by omega) (by omega) (by omega)
  have hs1 : lo = addS (mulL x d : Nat) (cy : Nat) 0 := rfl
  have hc1 : c1 = addC (mulL x d : Nat) (cy : Nat) 0 := rfl
  rw [← hs1] at e1 b1
  rw [← hc1] at e1 c1b
  have e2 := sub_law (x := ((z : Nat) : Int)) (y := lo) (b := 0) (by omega) b1 (by omega)
  have b2 := subD_in (z : Nat) lo 0
  have c2b := subB_in (z : Nat) lo 0
  have hs2 : s = subD (z : Nat) lo 0 := rfl
  have hb2 : b = subB (z : Nat) lo 0 := rfl
  have hb0 : lo = 0 → b = 0 := by intro h; rw [hb2]; unfold subB; rw [if_neg (by omega)]
  rw [← hs2] at e2 b2
  rw [← hb2] at e2 c2b
  clear_value lo c1 s b
  rw [hB] at h1
  generalize x * d = xd at *
  have h3' : xd ≤ 18446744073709551615 * 18446744073709551615 := h3
  push_cast
  have hbb : b = 0 ∨ 0 < lo := by
    by_cases h : lo = 0
    · exact .inl (hb0 h)
    · exact .inr (by omega)
  refine ⟨by omega, ?_, by omega, c1b.1, c2b.1, b2.1, b2.2, b1.1, b1.2⟩
  rcases hbb with h | h <;> omega
theorem take_step (ys zs xs : List Nat) (j k d cy : Nat) (s cc : Int) (hi : j + k < ys.length) (hk : k < xs.length) (hs0 : 0 ≤ s) (hc0 : 0 ≤ cc)
    (hs : s + (lx xs k * d + cy : Nat) = (lx ys (j + k) : Nat) + 18446744073709551616 * cc) (h : val ys + d * val (xs.take k) * B64 ^ j = val zs + cy * B64 ^ (j + k)) :
    val (ys.set (j + k) s.toNat) + d * val (xs.take (k + 1)) * B64 ^ j = val zs + cc.toNat * B64 ^ (j + (k + 1)) := by
  have h1 := val_set ys (j + k) s.toNat hi
  rw [← lx_get hi] at h1
  rw [val_take_succ xs k hk, ← lx_get hk]
  have e : s.toNat + (lx xs k * d + cy) = lx ys (j + k) + B64 * cc.toNat := by unfold B64; omega
  have e2 : B64 ^ (j + (k + 1)) = B64 ^ (j + k) * B64 := by rw [← Nat.add_assoc, Nat.pow_succ]
  have e3 : lx xs k * B64 ^ k * d * B64 ^ j = lx xs k * d * B64 ^ (j + k) := by rw [Nat.pow_add]; grind
  have e4 : (s.toNat + (lx xs k * d + cy)) * B64 ^ (j + k) = (lx ys (j + k) + B64 * cc.toNat) * B64 ^ (j + k) := by rw [e]
  rw [e2]
  clear hs e hs0 hc0 hi hk
  generalize B64 ^ (j + k) = P at *
  generalize B64 ^ j = J at *
  generalize B64 ^ k = K at *
  generalize val (ys.set (j + k) s.toNat) = a1 at *
  generalize val ys = a2 at *
  generalize val zs = a3 at *
  generalize val (xs.take k) = a4 at *
  generalize lx ys (j + k) = a5 at *
  generalize lx xs k = a6 at *
  generalize s.toNat = a7 at *
  generalize cc.toNat = a8 at *
  generalize B64 = B at *
  clear e2
  grind
set_option maxHeartbeats 1600000 in
set_option maxRecDepth 100000 in
theorem take_any {p : Nat → Prop} {vx : Value} {g c j n d : Nat} {zs xs : List Nat} {w : World} (hn : xs.length + 1 = n) (hz : OwnN w g zs) (hx : NatP p w vx xs) (hp : ∀ b, p b → b ≠ g) (hl : j + xs.length < zs.length) (hzl : zs.length ≤ 1099511627776) (hd : d < B64) :
    Calls Tryz.prog 281 #[.slice (some ⟨g, j, none⟩) n c, vx, .int .u64 d] w fun e w' =>
      ∃ bo : Nat, e = .returned (.int .u64 bo) ∧ bo ≤ 1 ∧ w.grownBy w' (some g) ∧ ∃ ys, OwnN w' g ys ∧ ys.length = zs.length ∧ val ys + d * val xs * B64 ^ j = val zs + bo * B64 ^ (j + n) ∧ ys.drop (j + n) = zs.drop (j + n) := by
  subst hn
  have hok := hx.ok
  obtain ⟨A, cx, rfl, h2, h3, h4, h5⟩ := hx
  obtain ⟨h3, h3b⟩ := h3
  have h5' := Lib.hid h5; clear h5
  have hp' := Lib.hid hp; clear hp
  have HD := Lib.hid hd; clear hd
  go_enter Tryz.func281, Tryz.ntmps281
  go_wp2_with fail
  go_loopw [7, 16] (fun c k wr => ∃ (kk cy : Nat) (ys : List Nat), kk ≤ xs.length ∧ k = .int .i64 kk ∧ c = .int .u64 cy ∧ Hid (cy < B64) ∧ Hid (OwnN wr g ys) ∧ Hid (ys.length = zs.length) ∧ Hid (w.grownBy wr (some g)) ∧
      Hid (val ys + d * val (xs.take kk) * B64 ^ j = val zs + cy * B64 ^ (j + kk)) ∧ Hid (ys.drop (j + (xs.length + 1)) = zs.drop (j + (xs.length + 1)))) (fun _ k _ => xs.length - (intOf k).toNat)
  case atStart => exact ⟨0, 0, zs, Nat.zero_le _, rfl, rfl, Lib.hid B64_pos, Lib.hid hz, Lib.hid rfl, Lib.hid (World.grownBy.refl _ _), Lib.hid (by simp [val]), Lib.hid rfl⟩
  case round =>
    obtain ⟨kk, cy, ys, hkk, rfl, rfl, hcy, hO, hL, hG, hV, hDr⟩ := hrel
    have bz := lx_lt hO.out.2 (j + kk)
    have hLL := hL.out
    have hcz : wr.cell? ⟨g, j + kk, none⟩ = some (.int .u64 (lx ys (j + kk) : Nat)) := hO.out.cell (by omega)
    have hfz : wr.frozen? ⟨g, j + kk, none⟩ = false := hO.out.frozen _
    have hi : j + kk < ys.length := by omega
    have HLL := Lib.hid hLL; clear hLL
    have BZ := Lib.hid bz; clear bz
    by_cases hlt : kk < xs.length
    · obtain ⟨b, off, rfl, hpb, hb, hcell⟩ := h5'.out (by omega)
      have hbg := hp'.out b hpb
      have hcx : wr.cell? ⟨b, off + kk, none⟩ = some (.int .u64 (lx xs kk : Nat)) := (World.cell?_of_block (hG.out.block b hb (fun e => hbg (by injection e)))).trans (hcell kk hlt)
      have BX := Lib.hid (lx_lt hok kk)
      clear hcell hpb
      have hdg := take_digit (lx xs kk) d cy (lx ys (j + kk)) BX.out HD.out hcy.out BZ.out
      obtain ⟨d1, d2, d3, d4, d5, d6, d7, d8, d9⟩ := hdg
      have hadd := fun w => add64_run (x := ((mulL (lx xs kk) d : Nat) : Int)) (y := ((cy : Nat) : Int)) (c := 0) (Int.natCast_nonneg _) (Int.natCast_nonneg _) (by omega) w
      have hsub := fun w => sub64_run (x := ((lx ys (j + kk) : Nat) : Int)) (y := addS (mulL (lx xs kk) d : Nat) (cy : Nat) 0) (b := 0) ⟨Int.natCast_nonneg _, u64_lt BZ.out⟩ ⟨d8, d9⟩ (by omega) w
      have HR := Lib.hid (take_step ys zs xs j kk d cy _ _ hi hlt d6 (by omega) d1 hV.out)
      have HO := Lib.hid (hO.out.set_ (j + kk) d6 d7)
      have HG := Lib.hid (grownBy_set (i := j + kk) hG.out (.int .u64 (subD (lx ys (j + kk) : Nat) (addS (mulL (lx xs kk) d : Nat) (cy : Nat) 0) 0)))
      have hc0 : 0 ≤ ((mulH (lx xs kk) d : Nat) : Int) + addC (mulL (lx xs kk) d : Nat) (cy : Nat) 0 + subB (lx ys (j + kk) : Nat) (addS (mulL (lx xs kk) d : Nat) (cy : Nat) 0) 0 := by omega
      clear d1
      go_wp2_with (go_at_call 288; refine (mul64_any (lx xs kk) d BX.out HD.out _).mono ?_; rintro e w' ⟨rfl, rfl⟩)
      go_roundw
      case rel => exact ⟨kk + 1, _, _, by omega, by go_num, by rw [Int.toNat_of_nonneg hc0], Lib.hid (by unfold B64; omega), HO, Lib.hid (by rw [List.length_set]; exact HLL.out), HG, HR, Lib.hid (by rw [List.drop_set_of_lt (by omega)]; exact hDr.out)⟩
      case measure => simp [intOf]; omega
    · obtain rfl : kk = xs.length := by omega
      have hsub := fun w => sub64_run (x := ((lx ys (j + xs.length) : Nat) : Int)) (y := ((cy : Nat) : Int)) (b := 0) ⟨Int.natCast_nonneg _, u64_lt BZ.out⟩ ⟨Int.natCast_nonneg _, u64_lt hcy.out⟩ (by omega) w
      have bs := subD_in (lx ys (j + xs.length) : Nat) (cy : Nat) 0
      have bc := subB_in (lx ys (j + xs.length) : Nat) (cy : Nat) 0
      have sl := sub_law (x := ((lx ys (j + xs.length) : Nat) : Int)) (y := ((cy : Nat) : Int)) (b := 0) ⟨Int.natCast_nonneg _, u64_lt BZ.out⟩ ⟨Int.natCast_nonneg _, u64_lt hcy.out⟩ (by omega)
      have HR : Hid (val (ys.set (j + xs.length) (subD (lx ys (j + xs.length) : Nat) (cy : Nat) 0).toNat) + d * val xs * B64 ^ j = val zs + (subB (lx ys (j + xs.length) : Nat) (cy : Nat) 0).toNat * B64 ^ (j + (xs.length + 1))) := by
        refine Lib.hid ?_
        have h1 := val_set ys (j + xs.length) (subD (lx ys (j + xs.length) : Nat) (cy : Nat) 0).toNat hi
        rw [← lx_get hi] at h1
        have e2 : B64 ^ (j + (xs.length + 1)) = B64 ^ (j + xs.length) * B64 := by rw [← Nat.add_assoc, Nat.pow_succ]
        have e : (subD (lx ys (j + xs.length) : Nat) (cy : Nat) 0).toNat + cy = lx ys (j + xs.length) + B64 * (subB (lx ys (j + xs.length) : Nat) (cy : Nat) 0).toNat := by unfold B64; omega
        have hv := hV.out
        rw [List.take_length] at hv
        rw [e2]
        have e4 : ((subD (lx ys (j + xs.length) : Nat) (cy : Nat) 0).toNat + cy) * B64 ^ (j + xs.length) = (lx ys (j + xs.length) + B64 * (subB (lx ys (j + xs.length) : Nat) (cy : Nat) 0).toNat) * B64 ^ (j + xs.length) := by rw [e]
        clear e sl bs bc e2
        generalize B64 ^ (j + xs.length) = P at *
        generalize B64 ^ j = J at *
        generalize (subD (lx ys (j + xs.length) : Nat) (cy : Nat) 0).toNat = a1 at *
        generalize (subB (lx ys (j + xs.length) : Nat) (cy : Nat) 0).toNat = a2 at *
        generalize val (ys.set (j + xs.length) a1) = a3 at *
        generalize lx ys (j + xs.length) = a4 at *
        generalize B64 = B at *
        grind
      have HO := Lib.hid (hO.out.set_ (j + xs.length) bs.1 bs.2)
      have HG := Lib.hid (grownBy_set (i := j + xs.length) hG.out (.int .u64 (subD (lx ys (j + xs.length) : Nat) (cy : Nat) 0)))
      clear sl
      go_wp2
      go_ret
      exact ⟨(subB (lx ys (j + xs.length) : Nat) (cy : Nat) 0).toNat, ret_u64 (Int.toNat_of_nonneg bc.1).symm, by omega, HG.out, _, HO.out, by rw [List.length_set]; exact HLL.out, HR.out, by rw [List.drop_set_of_lt (by omega)]; exact hDr.out⟩
end Go.Proofs.YtgodkfgnhpnhcaaGreatDoor
namespace Go.Proofs.YtgodkfgnhpnhcaaGreatDoor
open Go.RowKit
theorem top_limb (xs : List Nat) (n : Nat) (hn : xs.length = n + 1) : val xs = val (xs.take n) + B64 ^ n * lx xs n := by
  have e := val_take_drop xs n (by omega)
  have hd : xs.drop n = [lx xs n] := by
    rw [lx_get (by omega), List.drop_eq_getElem_cons (by omega), List.drop_of_length_le (by omega)]
  rw [hd] at e
  simpa [val] using e
/-- the divisor, shifted: as many limbs, the highest bit set -/
theorem norm_div (ys vs : List Nat) (s : Nat) (hy : OkL ys) (ty : Tr ys) (hv : OkL vs) (tv : Tr vs) (hn : 2 ≤ ys.length) (hs : bits (lx ys (ys.length - 1)) + s = 64) (he : val vs = val ys * 2 ^ s) :
    vs.length = ys.length ∧ 9223372036854775808 ≤ lx vs (ys.length - 1) := by
  have hne : ys ≠ [] := by rintro rfl; simp at hn
  have hb := bits_val_tr ys hy ty hne
  have hlast : ys.getLast hne = lx ys (ys.length - 1) := by rw [lx_get (by omega), List.getLast_eq_getElem]
  rw [hlast] at hb
  have hy0 : val ys ≠ 0 := fun h => hne ((val_eq_zero_tr ys ty).1 h)
  have h1 := two_pow_bits_le (val ys) hy0
  have h2 := lt_two_pow_bits (val ys)
  have hb1 : 1 ≤ bits (lx ys (ys.length - 1)) := by
    have := ty hne
    rw [hlast] at this
    unfold bits; rw [if_neg this]; omega
  have hup : val vs < B64 ^ ys.length := by
    rw [he, B64_eq, ← Nat.pow_mul]
    have : val ys * 2 ^ s < 2 ^ bits (val ys) * 2 ^ s := Nat.mul_lt_mul_of_pos_right h2 (Nat.two_pow_pos s)
    rw [← Nat.pow_add, hb, show 64 * (ys.length - 1) + bits (lx ys (ys.length - 1)) + s = 64 * ys.length by omega] at this
    exact this
  have hlo : 2 ^ (64 * ys.length - 1) ≤ val vs := by
    rw [he]
    have : 2 ^ (bits (val ys) - 1) * 2 ^ s ≤ val ys * 2 ^ s := Nat.mul_le_mul_right _ h1
    rw [← Nat.pow_add, hb, show 64 * (ys.length - 1) + bits (lx ys (ys.length - 1)) - 1 + s = 64 * ys.length - 1 by omega] at this
    exact this
  have hlen : vs.length = ys.length := by
    apply Nat.le_antisymm (tr_len_le vs tv _ hup)
    apply Nat.le_of_not_lt
    intro h
    have h3 := val_lt vs hv
    have h4 : B64 ^ vs.length ≤ 2 ^ (64 * ys.length - 1) := by
      rw [B64_eq, ← Nat.pow_mul]
      exact Nat.pow_le_pow_right (by omega) (by omega)
    omega
  refine ⟨hlen, ?_⟩
  have ht := top_limb vs (ys.length - 1) (by omega)
  have hl := val_lt (vs.take (ys.length - 1)) (hv.take _)
  rw [List.length_take, Nat.min_eq_left (by omega)] at hl
  apply Nat.le_of_not_lt
  intro h
  have h5 : B64 ^ (ys.length - 1) * (lx vs (ys.length - 1) + 1) ≤ B64 ^ (ys.length - 1) * 9223372036854775808 := Nat.mul_le_mul_left _ h
  rw [Nat.mul_add] at h5
  have h6 : B64 ^ (ys.length - 1) * 9223372036854775808 = 2 ^ (64 * ys.length - 1) := by
    rw [B64_eq, ← Nat.pow_mul, show (9223372036854775808 : Nat) = 2 ^ 63 from rfl, ← Nat.pow_add]
    congr 1; omega
  omega
/-- the upper three limbs -/
theorem top3 (us : List Nat) (m : Nat) (hm : m + 3 ≤ us.length) (hu : OkL us) (h : val us < B64 ^ (m + 3)) :
    ∃ lo, val us = lo + B64 ^ m * (lx us (m + 2) * B64 * B64 + lx us (m + 1) * B64 + lx us m) ∧ lo < B64 ^ m := by
  have e := val_take_drop us m (by omega)
  have e3 := val_take_drop us (m + 3) hm
  have hz : val (us.drop (m + 3)) = 0 := by
    rcases Nat.eq_zero_or_pos (val (us.drop (m + 3))) with h0 | h0
    · exact h0
    · exfalso
      have : B64 ^ (m + 3) * 1 ≤ B64 ^ (m + 3) * val (us.drop (m + 3)) := Nat.mul_le_mul_left _ h0
      omega
  have hl := val_lt (us.take m) (hu.take m)
  rw [List.length_take, Nat.min_eq_left (by omega)] at hl
  refine ⟨val (us.take m), ?_, hl⟩
  rw [e]
  congr 2
  rw [List.drop_eq_getElem_cons (by omega : m < us.length), List.drop_eq_getElem_cons (by omega : m + 1 < us.length), List.drop_eq_getElem_cons (by omega : m + 1 + 1 < us.length)]
  simp only [val]
  have : m + 1 + 1 + 1 = m + 3 := rfl
  rw [this, hz, lx_get (by omega : m < us.length), lx_get (by omega : m + 1 < us.length), lx_get (by omega : m + 2 < us.length)]
  have e4 : us[m + 1 + 1] = us[m + 2] := rfl
  rw [e4]
  grind
theorem top2 (vs : List Nat) (m : Nat) (hm : vs.length = m + 2) (hv : OkL vs) : ∃ lo, val vs = lo + B64 ^ m * (lx vs (m + 1) * B64 + lx vs m) ∧ lo < B64 ^ m := by
  have e := val_take_drop vs m (by omega)
  have hl := val_lt (vs.take m) (hv.take m)
  rw [List.length_take, Nat.min_eq_left (by omega)] at hl
  refine ⟨val (vs.take m), ?_, hl⟩
  rw [e]
  congr 2
  rw [List.drop_eq_getElem_cons (by omega : m < vs.length), List.drop_eq_getElem_cons (by omega : m + 1 < vs.length), List.drop_of_length_le (by omega)]
  simp only [val]
  rw [lx_get (by omega : m < vs.length), lx_get (by omega : m + 1 < vs.length)]
  grind
/-- what estimate asks, out of the whole numbers -/
theorem long_digit (us vs : List Nat) (j n q : Nat) (hn : vs.length = n) (hn2 : 2 ≤ n) (hj : j + n < us.length) (hu : OkL us) (hv : OkL vs) (hlt : val us < val vs * B64 ^ (j + 1)) (hq : q * (val vs * B64 ^ j) ≤ val us) :
    q * (lx vs (n - 1) * B64 + lx vs (n - 2)) ≤ lx us (j + n) * B64 * B64 + lx us (j + n - 1) * B64 + lx us (j + n - 2) := by
  have hvl := val_lt vs hv
  rw [hn] at hvl
  have hub : val us < B64 ^ (j + n - 2 + 3) := by
    have : val vs * B64 ^ (j + 1) ≤ B64 ^ n * B64 ^ (j + 1) := Nat.mul_le_mul_right _ (Nat.le_of_lt hvl)
    rw [← Nat.pow_add, show n + (j + 1) = j + n - 2 + 3 by omega] at this
    omega
  obtain ⟨lo, hlo, hlo'⟩ := top3 us (j + n - 2) (by omega) hu hub
  obtain ⟨lv, hlv, hlv'⟩ := top2 vs (n - 2) (by omega) hv
  rw [show j + n - 2 + 2 = j + n by omega, show j + n - 2 + 1 = j + n - 1 by omega] at hlo
  rw [show n - 2 + 1 = n - 1 by omega] at hlv
  refine digit_bound (val us) (val vs * B64 ^ j) _ _ (B64 ^ (j + n - 2)) q lo (lv * B64 ^ j) hlo hlo' ?_ hq
  rw [hlv, show j + n - 2 = (n - 2) + j by omega, Nat.pow_add]
  generalize B64 ^ (n - 2) = P
  generalize B64 ^ j = J
  grind
theorem long_top (us vs : List Nat) (j n : Nat) (hn : vs.length = n) (hn2 : 2 ≤ n) (hj : j + n < us.length) (hu : OkL us) (hv : OkL vs) (hlt : val us < val vs * B64 ^ (j + 1)) : lx us (j + n) ≤ lx vs (n - 1) := by
  have hvl := val_lt vs hv
  rw [hn] at hvl
  have ht := top_limb vs (n - 1) (by omega)
  have htl := val_lt (vs.take (n - 1)) (hv.take _)
  rw [List.length_take, Nat.min_eq_left (by omega)] at htl
  have e := val_take_drop us (j + n) (by omega)
  have hd : us.drop (j + n) = lx us (j + n) :: us.drop (j + n + 1) := by rw [lx_get hj]; exact List.drop_eq_getElem_cons hj
  rw [hd] at e
  simp only [val] at e
  apply Nat.le_of_not_lt
  intro h
  have h1 : B64 ^ (j + n) * (lx vs (n - 1) + 1) ≤ B64 ^ (j + n) * lx us (j + n) := Nat.mul_le_mul_left _ h
  have h2 : B64 ^ (j + n) * lx us (j + n) ≤ val us := by rw [e, Nat.mul_add]; omega
  have h3 : val vs * B64 ^ (j + 1) ≤ B64 ^ (n - 1) * (lx vs (n - 1) + 1) * B64 ^ (j + 1) := Nat.mul_le_mul_right _ (by rw [Nat.mul_add]; omega)
  have h4 : B64 ^ (n - 1) * (lx vs (n - 1) + 1) * B64 ^ (j + 1) = B64 ^ (j + n) * (lx vs (n - 1) + 1) := by
    rw [show j + n = (n - 1) + (j + 1) by omega, Nat.pow_add]; grind
  omega
theorem q_lt (u v j : Nat) (hv : 0 < v) (h : u < v * B64 ^ (j + 1)) : u / (v * B64 ^ j) < B64 := by
  rw [Nat.div_lt_iff_lt_mul (Nat.mul_pos hv (Nat.pow_pos B64_pos))]
  rw [Nat.pow_succ] at h
  have : v * (B64 ^ j * B64) = B64 * (v * B64 ^ j) := by grind
  omega
theorem val_lt_of_drop (ys zs : List Nat) (m : Nat) (hm : m ≤ ys.length) (hm' : m ≤ zs.length) (hy : OkL ys) (hd : ys.drop m = zs.drop m) (hz : val zs < B64 ^ m) : val ys < B64 ^ m := by
  have e1 := val_take_drop ys m hm
  have e2 := val_take_drop zs m hm'
  have h0 : val (zs.drop m) = 0 := by
    rcases Nat.eq_zero_or_pos (val (zs.drop m)) with h0 | h0
    · exact h0
    · exfalso
      have : B64 ^ m * 1 ≤ B64 ^ m * val (zs.drop m) := Nat.mul_le_mul_left _ h0
      omega
  have hl := val_lt (ys.take m) (hy.take m)
  rw [List.length_take, Nat.min_eq_left hm] at hl
  rw [e1, hd, h0]; omega
theorem long_exit (u u1 v J d : Nat) (hvJ : 0 < v * J) (hq : u / (v * J) ≤ d) (h : u1 + d * v * J = u + 0 * 0) : d = u / (v * J) ∧ u1 < v * J := by
  have h1 : d * (v * J) ≤ u := by rw [← Nat.mul_assoc]; omega
  have h2 : d ≤ u / (v * J) := (Nat.le_div_iff_mul_le hvJ).2 h1
  have h3 : d = u / (v * J) := Nat.le_antisymm h2 hq
  refine ⟨h3, ?_⟩
  have h4 := Nat.div_add_mod u (v * J)
  have h5 := Nat.mod_lt u hvJ
  rw [← h3, Nat.mul_comm (v * J) d, ← Nat.mul_assoc] at h4
  omega
theorem long_back (u u1 v J d M : Nat) (hvJ : 0 < v * J) (h : u1 + d * v * J = u + 1 * M) (hu1 : u1 < M) : u / (v * J) < d := by
  rw [Nat.div_lt_iff_lt_mul hvJ, ← Nat.mul_assoc]; omega
theorem long_E1 (q' q v u u1 d J T M : Nat) (e1 : q' = q + d * J) (e2 : u1 + d * v * J = u + 0 * M) (e3 : q * v + u = T) : q' * v + u1 = T := by
  subst e1 e3
  grind
theorem long_E2 (u2 u1 u v J d cy M : Nat) (hd : 1 ≤ d) (hc : cy ≤ 1) (e1 : u1 + d * v * J = u + 1 * M) (e2 : u2 + cy * M = u1 + v * J) : u2 + (d - 1) * v * J = u + (1 - cy) * M := by
  obtain ⟨d', rfl⟩ : ∃ d', d = d' + 1 := ⟨d - 1, by omega⟩
  rw [Nat.add_sub_cancel]
  have hcc : cy = 0 ∨ cy = 1 := by omega
  rcases hcc with rfl | rfl <;> grind
theorem long_fin (q u x y P : Nat) (hP : 0 < P) (h : q * (y * P) + u = x * P) (hu : u < y * P) : q = x / y ∧ u / P = x % y := by
  have h1 : x * P / (y * P) = x / y := Nat.mul_div_mul_right _ _ hP
  have h2 : x * P % (y * P) = x % y * P := Nat.mul_mod_mul_right _ _ _
  rw [← h, Nat.mul_comm q] at h1 h2
  rw [Nat.mul_add_div (by omega), Nat.div_eq_of_lt hu, Nat.add_zero] at h1
  rw [Nat.mul_add_mod, Nat.mod_eq_of_lt hu] at h2
  exact ⟨h1, by rw [h2, Nat.mul_div_cancel _ hP]⟩
end Go.Proofs.YtgodkfgnhpnhcaaGreatDoor
