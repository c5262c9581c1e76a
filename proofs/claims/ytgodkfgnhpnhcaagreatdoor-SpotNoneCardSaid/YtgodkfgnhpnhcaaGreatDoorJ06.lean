/- A part of the proof: contracts of functions and plain laws (NatR, NatS, NatT, NatU, NatV). -/
import Derived.Test.YtgodkfgnhpnhcaaGreatDoorJ05
set_option linter.unusedVariables false
set_option linter.unusedSimpArgs false
namespace Go.Proofs.YtgodkfgnhpnhcaaGreatDoor
open Go.RowKit
theorem NatP.cell {p : Nat → Prop} {w : World} {b off n c : Nat} {xs : List Nat} (h : NatP p w (.slice (some ⟨b, off, none⟩) n c) xs) {k : Nat} (hk : k < n) : w.cell? ⟨b, off + k, none⟩ = some (.int .u64 (lx xs k : Nat)) := by
  obtain ⟨A, c', h1, h2, h3, h4, h5⟩ := h
  injection h1 with h1 h1n h1c
  subst h1n h1c
  obtain ⟨b', off', e, hp, hb, hc⟩ := h5 (by omega)
  rw [← h1] at e
  obtain ⟨rfl, rfl⟩ : b = b' ∧ off = off' := by have := Option.some.inj e; exact ⟨congrArg Addr.block this, congrArg Addr.off this⟩
  exact hc k hk
theorem NatP.blk {p : Nat → Prop} {w : World} {b off n c : Nat} {xs : List Nat} (h : NatP p w (.slice (some ⟨b, off, none⟩) n c) xs) (hn : 0 < n) : p b := by
  obtain ⟨A, c', h1, h2, h3, h4, h5⟩ := h
  injection h1 with h1 h1n h1c
  subst h1n h1c
  obtain ⟨b', off', e, hp, hb, hc⟩ := h5 hn
  rw [← h1] at e
  obtain ⟨rfl, rfl⟩ : b = b' ∧ off = off' := by have := Option.some.inj e; exact ⟨congrArg Addr.block this, congrArg Addr.off this⟩
  exact hp
/-- two new numbers come back -/
def RetNN (B : Nat) (w0 : World) (m n : Nat) (e : Ending) (w' : World) : Prop :=
  Below B w0 w' ∧ ∃ v1 v2 xs ys, e = .returned (.tuple #[v1, v2]) ∧ NatP (fun b => B ≤ b) w' v1 xs ∧ Tr xs ∧ val xs = m ∧ NatP (fun b => B ≤ b) w' v2 ys ∧ Tr ys ∧ val ys = n
set_option maxHeartbeats 6400000 in
set_option maxRecDepth 100000 in
theorem long_any {p q : Nat → Prop} {va vb : Value} {xs ys : List Nat} {w : World} (hx : NatP p w va xs) (hy : NatP q w vb ys) (tx : Tr xs) (ty : Tr ys) (hn : 2 ≤ ys.length) (hle : val ys ≤ val xs) (hL : xs.length < 1073741824) :
    Calls Tryz.prog 271 #[va, vb] w (RetNN w.heap.size w (val xs / val ys) (val xs % val ys)) := by
  have hlxy := tr_len_mono ys xs ty hx.ok hle
  have HX := Lib.hid hx; have HY := Lib.hid hy
  have OX := Lib.hid hx.ok; have OY := Lib.hid hy.ok
  have TX := Lib.hid tx; have TY := Lib.hid ty; have HLE := Lib.hid hle
  clear tx ty hle
  obtain ⟨A, c, rfl, h2, h3, -, -⟩ := hx
  obtain ⟨h3, h3b⟩ := h3
  obtain ⟨A', c', rfl, h2', h3', -, h5'⟩ := hy
  obtain ⟨h3', h3b'⟩ := h3'
  obtain ⟨b, off, rfl, -, hblt, hcell⟩ := h5' (by omega)
  have hcy : w.cell? ⟨b, off + (ys.length - 1), none⟩ = some (.int .u64 (lx ys (ys.length - 1) : Nat)) := hcell _ (by omega)
  clear hcell h5'
  have htl := lx_lt OY.out (ys.length - 1)
  obtain ⟨tl, htl'⟩ : ∃ tl, tl = lx ys (ys.length - 1) := ⟨_, rfl⟩
  have hne : ys ≠ [] := by rintro rfl; simp at hn
  have htl0 : tl ≠ 0 := by
    have := TY.out hne
    rwa [List.getLast_eq_getElem, ← lx_get, ← htl'] at this
  obtain ⟨s, hs⟩ : ∃ s, s = 64 - bits tl := ⟨_, rfl⟩
  have hb1 : 1 ≤ bits tl := by unfold bits; rw [if_neg htl0]; omega
  have hb2 : bits tl ≤ 64 := by rw [bits_le_iff]; rw [← htl'] at htl; exact htl
  rw [← htl'] at hcy htl
  have es : (64 : Int) - (Lib.bitLen tl : Int) = (s : Int) := by rw [lib_bitLen tl htl]; omega
  have ES := Lib.hid es; have HS := Lib.hid (show bits (lx ys (ys.length - 1)) + s = 64 by rw [← htl']; omega)
  have hs63 : s ≤ 63 := by omega
  have htlI : (tl : Int) ≤ 18446744073709551615 := by have := u64_lt htl; omega
  clear es hs htl hb1 hb2 htl' htl0 hne
  go_enter Tryz.func271, Tryz.ntmps271
  go_wp2_with (go_at_call 279; refine (Tryz.bits_LeadingZeros64 (tl : Int) _ (by omega) htlI).mono ?_; rintro e w' ⟨rfl, hw⟩; obtain rfl := hw.symm; rw [Int.toNat_natCast, ES.out])
  clear hcy htlI
  refine (left_any HY.out (by omega)).mono ?_
  rintro e w1 ⟨hb, vv, vs, rfl, hv, tv, hvv⟩
  obtain ⟨hvl, hvt⟩ := norm_div ys vs s OY.out TY.out hv.ok tv hn HS.out hvv
  have HV := Lib.hid (hv.weak (q := fun b => w.heap.size ≤ b ∧ b < w1.heap.size) fun b h h2 => ⟨h, h2⟩)
  have OV := Lib.hid hv.ok
  have VV := Lib.hid hvv; have HVT := Lib.hid hvt; have HVL := Lib.hid hvl
  have HB := Lib.hid hb
  replace HX := Lib.hid (NatP.below HX.out hb)
  obtain ⟨bv, ov, cv, e1, -, -, -⟩ := HV.out.addr (by omega)
  subst e1
  rw [hvl] at HV ⊢
  clear hv tv hvv hvt hvl hb hblt
  have hs1 := Lib.hid HB.out.size
  go_wp2_with (at_make; refine wpList_makeN _ rfl (.tmp 28) (.tmp 28) rfl .i64 .i64 _ (xs.length + 1) rfl rfl (by omega) (by omega) w1.heap.size w1 (Below.refl _ _) (Nat.le_refl _) ?_; intro w2 HU hb2 hb hsz)
  clear hb2
  obtain ⟨gu, hgu⟩ : ∃ gu, gu = w1.heap.size := ⟨_, rfl⟩
  rw [← hgu] at HU HV hb hsz ⊢
  have hgw : w.heap.size ≤ gu := by have := hs1.out; omega
  replace HX := Lib.hid (NatP.below HX.out (by rw [← hgu]; exact hb)); replace HB := Lib.hid (HB.out.trans (hb.mono hgw))
  replace HV := Lib.hid (NatP.below HV.out (by rw [← hgu]; exact hb))
  clear hb hgu hs1
  refine (left_any HX.out (by omega)).mono ?_
  rintro e w3 ⟨hb, vl, ls, rfl, hl, tl', hvl⟩
  have HLS := Lib.hid hl; have VLS := Lib.hid hvl
  have hlsl : ls.length ≤ xs.length + 1 := tr_len_le ls tl' _ (by
    rw [hvl, Nat.pow_succ]
    have h1 := val_lt xs OX.out
    have h2 : 2 ^ s ≤ B64 := by rw [B64_eq]; exact Nat.pow_le_pow_right (by omega) (by omega)
    have h3 : val xs * 2 ^ s ≤ val xs * B64 := Nat.mul_le_mul_left _ h2
    have h4 : val xs * B64 < B64 ^ xs.length * B64 := Nat.mul_lt_mul_of_pos_right h1 B64_pos
    omega)
  replace HU := Lib.hid (OwnN.below HU.out hb); replace HB := Lib.hid (HB.out.trans (hb.mono HB.out.size)); replace HV := Lib.hid (NatP.below HV.out hb)
  clear hl tl' hvl hb hsz HX
  go_wp2_with (first
    | (with_reducible refine wpList_copyN (w := w3) rfl (.tmp 30) (.tmp 33) rfl gu _ _ _ _ ls rfl rfl HU.out (by simp) HLS.out (by rw [List.length_replicate]; exact hlsl) gu w3 (Below.refl _ _) (Nat.le_refl _) ?_; intro w4 HU4 hb4)
    | (at_make; refine wpList_makeN _ rfl (.tmp 39) (.tmp 39) rfl .i64 .i64 _ (xs.length - ys.length + 1) rfl rfl (by omega) (by omega) w4.heap.size w4 (Below.refl _ _) (Nat.le_refl _) ?_; intro w5 HQ5 hb5' hb5 hsz5)
    | fail)
  clear hb5' HLS
  have hgu3 := HU.out.lt
  have hgu4 : gu < w4.heap.size := HU4.out.lt
  replace HV := Lib.hid ((HV.out.keep hb4.size (fun b hp _ => hb4.block b hp.2)).below hb5)
  replace HU4 := Lib.hid (OwnN.below HU4.out hb5)
  replace HB := Lib.hid ((HB.out.trans (hb4.mono hgw)).trans (hb5.mono (by omega)))
  obtain ⟨gq, hgq⟩ : ∃ gq, gq = w4.heap.size := ⟨_, rfl⟩
  rw [← hgq] at HQ5 hgu4 ⊢
  clear hgq hb4 hb5 hsz5 hgu3 HU
  -- the dividend, shifted
  have hlu : (ls ++ (List.replicate (xs.length + 1) 0).drop ls.length).length = xs.length + 1 := by simp; omega
  have hvu : val (ls ++ (List.replicate (xs.length + 1) 0).drop ls.length) = val xs * 2 ^ s := by rw [drop_zeros, val_zeros_app, VLS.out]
  obtain ⟨us0, hus0⟩ : ∃ us0, us0 = ls ++ (List.replicate (xs.length + 1) 0).drop ls.length := ⟨_, rfl⟩
  rw [← hus0] at hlu hvu HU4
  have hV0 : 0 < val vs := by rw [VV.out]; exact Nat.mul_pos (Nat.pos_of_ne_zero (fun h => by have := (val_eq_zero_tr ys TY.out).1 h; rw [this] at hn; simp at hn)) (Nat.two_pow_pos s)
  have hA : val us0 < val vs * B64 ^ (xs.length - ys.length + 1) := by
    have h1 := top_limb vs (ys.length - 1) (by rw [HVL.out]; omega)
    have h2 := HVT.out
    have h3 : B64 ^ (ys.length - 1) * 9223372036854775808 ≤ val vs := by
      have : B64 ^ (ys.length - 1) * 9223372036854775808 ≤ B64 ^ (ys.length - 1) * lx vs (ys.length - 1) := Nat.mul_le_mul_left _ h2
      omega
    have h4 := val_lt xs OX.out
    have h5 : 2 ^ s ≤ 2 ^ 63 := Nat.pow_le_pow_right (by omega) hs63
    have h6 : val xs * 2 ^ s < B64 ^ xs.length * 9223372036854775808 := Nat.lt_of_le_of_lt (Nat.mul_le_mul_left _ h5) (Nat.mul_lt_mul_of_pos_right h4 (by omega))
    have h7 : B64 ^ (ys.length - 1) * 9223372036854775808 * B64 ^ (xs.length - ys.length + 1) ≤ val vs * B64 ^ (xs.length - ys.length + 1) := Nat.mul_le_mul_right _ h3
    have h8 : B64 ^ (ys.length - 1) * 9223372036854775808 * B64 ^ (xs.length - ys.length + 1) = B64 ^ xs.length * 9223372036854775808 := by
      have : xs.length = (ys.length - 1) + (xs.length - ys.length + 1) := by omega
      rw [show B64 ^ xs.length = B64 ^ ((ys.length - 1) + (xs.length - ys.length + 1)) from congrArg (B64 ^ ·) this, Nat.pow_add B64 (ys.length - 1) (xs.length - ys.length + 1)]
      generalize B64 ^ (ys.length - 1) = P
      generalize B64 ^ (xs.length - ys.length + 1) = Q
      rw [Nat.mul_right_comm]
    rw [hvu]; omega
  have HA := Lib.hid hA; have HVU := Lib.hid hvu; have HLU := Lib.hid hlu; have HV0 := Lib.hid hV0
  clear hA hvu hlu hus0 hlsl hV0
  go_wp2_with fail
  go_loopw [11] (fun i wr => ∃ (k : Nat) (us qs : List Nat), k ≤ xs.length - ys.length + 1 ∧ i = .int .i64 ((k : Int) - 1) ∧ Hid (OwnN wr gu us) ∧ Hid (OwnN wr gq qs) ∧ Hid (us.length = xs.length + 1) ∧ Hid (qs.length = xs.length - ys.length + 1) ∧
      Hid (NatP (fun b => w.heap.size ≤ b ∧ b < gu) wr (.slice (some ⟨bv, ov, none⟩) ys.length cv) vs) ∧ Hid (Below w.heap.size w wr) ∧
      Hid (val qs * val vs + val us = val xs * 2 ^ s) ∧ Hid (val us < val vs * B64 ^ k) ∧ Hid (∀ j, j < k → lx qs j = 0)) (fun i _ => (intOf i + 1).toNat)
  case atStart => exact ⟨xs.length - ys.length + 1, us0, _, Nat.le_refl _, by go_num, HU4, HQ5, HLU, Lib.hid (by simp), HV, HB, Lib.hid (by rw [val_replicate_zero, HVU.out]; simp), HA, Lib.hid (fun j hj => by rw [lx_get (by simp; omega)]; simp)⟩
  case round =>
    clear HU4 HQ5 HB HV HA HVU HLU
    obtain ⟨k, us, qs, hk, rfl, HU, HQ, HLU, HLQ, HV, HB, HE, HLT, HZ⟩ := hrel
    rcases Nat.eq_zero_or_pos k with h0 | h0
    · have hk0 : (k : Int) - 1 < 0 := by omega
      have H0 := Lib.hid h0; clear h0
      have hfin := long_fin (val qs) (val us) (val xs) (val ys) (2 ^ s) (Nat.two_pow_pos s) (by rw [← VV.out]; exact HE.out) (by have := HLT.out; rw [H0.out, Nat.pow_zero, Nat.mul_one, VV.out] at this; exact this)
      have HF := Lib.hid hfin; clear hfin
      go_wp2_with fail
      refine (trim_any (HQ.out.natP (p := fun b => w.heap.size ≤ b) HLQ.out (Nat.le_refl _) (by omega) (by omega))).mono ?_
      rintro e w9 ⟨rfl, v1, q', rfl, hq, tq, hvq, -⟩
      have Q1 := Lib.hid hq; have Q2 := Lib.hid tq; have Q3 := Lib.hid hvq
      clear hq tq hvq
      go_wp2_with fail
      refine (trim_any (HU.out.natP (p := fun b => w.heap.size ≤ b) HLU.out (Nat.le_refl _) (by omega) hgw)).mono ?_
      rintro e w9 ⟨rfl, v2, u', rfl, hu, tu, hvu, -⟩
      have U1 := Lib.hid hu; have U3 := Lib.hid hvu
      clear hu tu hvu
      go_wp2_with fail
      refine (right_any U1.out (by omega)).mono ?_
      rintro e w10 ⟨hb, v3, r', rfl, hr, tr, hvr⟩
      have HFF : Hid (RetNN w.heap.size w (val xs / val ys) (val xs % val ys) (.returned (.tuple #[v1, v3])) w10) := by
        refine Lib.hid ⟨HB.out.trans (hb.mono HB.out.size), v1, v3, q', r', rfl, Q1.out.below hb, Q2.out, by rw [Q3.out, HF.out.1], hr.weak (fun b h _ => Nat.le_trans HB.out.size h), tr, by rw [hvr, U3.out, HF.out.2]⟩
      clear hb hr tr hvr
      go_wp2
      go_ret2
      exact HFF.out
    · obtain ⟨j, rfl⟩ : ∃ j, k = j + 1 := ⟨k - 1, by omega⟩
      have hB : ∀ i, i < xs.length + 1 → wr.cell? ⟨gu, i, none⟩ = some (.int .u64 (lx us i : Nat)) := fun i hi => HU.out.cell (by rw [HLU.out]; exact hi)
      have c1 := hB (j + ys.length) (by omega)
      have c2 := hB (j + ys.length - 1) (by omega)
      have c3 := hB (j + ys.length - 2) (by omega)
      clear hB
      have c4 := HV.out.cell (k := ys.length - 1) (by omega)
      have c5 := HV.out.cell (k := ys.length - 2) (by omega)
      have OU := Lib.hid HU.out.2
      have hjn : j + ys.length < us.length := by rw [HLU.out]; omega
      have t0 := long_top us vs j ys.length HVL.out hn hjn OU.out OV.out HLT.out
      have t1 := lx_lt OU.out (j + ys.length - 1)
      have t2 := lx_lt OU.out (j + ys.length - 2)
      have t3 := lx_lt OV.out (ys.length - 1)
      have t4 : 0 < lx vs (ys.length - 1) := by have := HVT.out; omega
      have t5 := lx_lt OV.out (ys.length - 2)
      have T0 := Lib.hid t0; have T1 := Lib.hid t1; have T2 := Lib.hid t2; have T3 := Lib.hid t3; have T4 := Lib.hid t4; have T5 := Lib.hid t5
      clear t0 t1 t2 t3 t4 t5
      have HQT : Hid (val us / (val vs * B64 ^ j) < B64) := Lib.hid (q_lt _ _ _ HV0.out HLT.out)
      have HQD : Hid ((val us / (val vs * B64 ^ j)) * (lx vs (ys.length - 1) * B64 + lx vs (ys.length - 2)) ≤ lx us (j + ys.length) * B64 * B64 + lx us (j + ys.length - 1) * B64 + lx us (j + ys.length - 2)) :=
        Lib.hid (long_digit us vs j ys.length _ HVL.out hn hjn OU.out OV.out HLT.out (Nat.div_mul_le_self _ _))
      have HJN := Lib.hid hjn; clear hjn
      have ej : ((j + 1 : Nat) : Int) - 1 = (j : Int) := by omega
      rw [ej]
      clear ej
      go_wp2_with fail
      have s1 : IntKind.i64.wrap ((j : Int) + (ys.length : Int)) = (j : Int) + (ys.length : Int) := IntWalk.i64_in _ (by omega)
      have s2 : IntKind.i64.wrap ((j : Int) + (ys.length : Int) - 1) = (j : Int) + (ys.length : Int) - 1 := IntWalk.i64_in _ (by omega)
      have s3 : IntKind.i64.wrap ((j : Int) + (ys.length : Int) - 2) = (j : Int) + (ys.length : Int) - 2 := IntWalk.i64_in _ (by omega)
      have s4 : IntKind.i64.wrap ((ys.length : Int) - 1) = (ys.length : Int) - 1 := IntWalk.i64_in _ (by omega)
      have s5 : IntKind.i64.wrap ((ys.length : Int) - 2) = (ys.length : Int) - 2 := IntWalk.i64_in _ (by omega)
      have i1 : ((j : Int) + (ys.length : Int)).toNat = j + ys.length := by omega
      have i2 : ((j : Int) + (ys.length : Int) - 1).toNat = j + ys.length - 1 := by omega
      have i3 : ((j : Int) + (ys.length : Int) - 2).toNat = j + ys.length - 2 := by omega
      have i4 : ((ys.length : Int) - 1).toNat = ys.length - 1 := by omega
      have i5 : ((ys.length : Int) - 2).toNat = ys.length - 2 := by omega
      have l1 : 0 ≤ (j : Int) + (ys.length : Int) := by omega
      have l2 : 0 ≤ (j : Int) + (ys.length : Int) - 1 := by omega
      have l3 : 0 ≤ (j : Int) + (ys.length : Int) - 2 := by omega
      have l4 : 0 ≤ (ys.length : Int) - 1 := by omega
      have l5 : 0 ≤ (ys.length : Int) - 2 := by omega
      have l6 : 1 ≤ (j : Int) + (ys.length : Int) := by omega
      have l7 : 2 ≤ (j : Int) + (ys.length : Int) := by omega
      have l8 : 1 ≤ (ys.length : Int) := by omega
      have l9 : 2 ≤ (ys.length : Int) := by omega
      have la : 1 ≤ ys.length := by omega
      have u1 : (j : Int) + (ys.length : Int) < (xs.length : Int) + 1 := by omega
      have u2 : (j : Int) + (ys.length : Int) - 1 < (xs.length : Int) + 1 := by omega
      have u3 : (j : Int) + (ys.length : Int) - 2 < (xs.length : Int) + 1 := by omega
      have u4 : (ys.length : Int) - 1 < (ys.length : Int) := by omega
      have u5 : (ys.length : Int) - 2 < (ys.length : Int) := by omega
      go_still_tail 30, (by kernel_rfl)
      change wpList _ _ _ _ _ wr.drew
      clear s1 s2 s3 s4 s5 i1 i2 i3 i4 i5 l1 l2 l3 l4 l5 l6 l7 l8 l9 la u1 u2 u3 u4 u5
      go_wp2_with fail
      refine (estimate_any _ _ _ _ _ _ T0.out T1.out T2.out T3.out T4.out T5.out).mono ?_
      rintro e w6 ⟨d, rfl, hd, hdq, kd, rfl⟩
      have HD := Lib.hid hd
      have HDQ := Lib.hid (hdq _ HQT.out HQD.out)
      clear hd hdq c1 c2 c3 c4 c5
      go_wp2_with fail
      have hjl : j + vs.length < us.length := by have := HVL.out; have := HJN.out; omega
      refine (take_any (zs := us) (xs := vs) (by rw [HVL.out]; omega) (HU.out.drewN _) (HV.out.below (below_drewN wr _)) (fun b h => Nat.ne_of_lt h.2) hjl (by rw [HLU.out]; omega) HD.out).mono ?_
      rintro e w7 ⟨bo, rfl, hbo, hg, us1, hO1, hl1, hv1, hdr1⟩
      have HU1 := Lib.hid hO1; have HL1 := Lib.hid (hl1.trans HLU.out); have HV1 := Lib.hid hv1
      replace HV := Lib.hid ((HV.out.below (below_drewN wr (1 + kd))).grown hg (fun b h e => Nat.ne_of_lt h.2 (by injection e)))
      have HQ1 := Lib.hid ((HQ.out.drewN (1 + kd)).keep (hg.block gq HQ.out.lt (fun e => Nat.ne_of_lt hgu4 (by injection e with e; exact e.symm))))
      replace HB := Lib.hid ((HB.out.trans ((below_drewN wr (1 + kd)).mono HB.out.size)).trans (Below.of_grown hg HB.out.size hgw))
      have hen : j + (j + ys.length + 1 - j) = j + ys.length + 1 := by omega
      rw [hen] at HV1 hdr1
      have HDR := Lib.hid hdr1; clear hdr1
      clear hO1 hl1 hv1 hg HU HQ hjl hen
      go_wp2_with fail
      go_loopw [12, 13] (fun dd bb wx => ∃ (d bo : Nat) (us1 : List Nat), dd = .int .u64 (d : Nat) ∧ bb = .int .u64 (bo : Nat) ∧ bo ≤ 1 ∧ Hid (d < B64) ∧ Hid (val us / (val vs * B64 ^ j) ≤ d) ∧ Hid (OwnN wx gu us1) ∧ Hid (OwnN wx gq qs) ∧ Hid (us1.length = xs.length + 1) ∧
          Hid (NatP (fun b => w.heap.size ≤ b ∧ b < gu) wx (.slice (some ⟨bv, ov, none⟩) ys.length cv) vs) ∧ Hid (Below w.heap.size w wx) ∧
          Hid (val us1 + d * val vs * B64 ^ j = val us + bo * B64 ^ (j + ys.length + 1)) ∧ Hid (us1.drop (j + ys.length + 1) = us.drop (j + ys.length + 1))) (fun dd _ _ => (intOf dd).toNat)
      case atStart => exact ⟨d, bo, us1, rfl, rfl, hbo, HD, HDQ, HU1, HQ1, HL1, HV, HB, HV1, HDR⟩
      case round =>
        clear HD HDQ HU1 HQ1 HL1 HV HB HV1 HDR hbo
        obtain ⟨d, bo, us1, rfl, rfl, hbo, HD, HDQ, HU1, HQ1, HL1, HV, HB, HV1, HDR⟩ := hrel
        rcases Nat.eq_zero_or_pos bo with h0 | h0
        · have hbi : (((bo : Nat) : Int) != 0) = false := by rw [h0]; rfl
          have hvJ : 0 < val vs * B64 ^ j := Nat.mul_pos HV0.out (Nat.pow_pos B64_pos)
          have hex := long_exit (val us) (val us1) (val vs) (B64 ^ j) d hvJ HDQ.out (by have := HV1.out; rw [h0] at this; omega)
          have hjq : j < qs.length := by rw [HLQ.out]; omega
          have hcq : wr.cell? ⟨gq, j, none⟩ = some (.int .u64 (lx qs j : Nat)) := HQ1.out.cell hjq
          have hfq : wr.frozen? ⟨gq, j, none⟩ = false := HQ1.out.frozen _
          have hO' := HQ1.out.set_ j (x := ((d : Nat) : Int)) (Int.natCast_nonneg _) (u64_lt HD.out)
          rw [Int.toNat_natCast] at hO'
          have HQ2 := Lib.hid hO'
          have HU2 : Hid (OwnN (wr.setCell ⟨gq, j, none⟩ (.int .u64 (d : Nat))) gu us1) := Lib.hid (HU1.out.keep (Below.heap_setCell wr ⟨gq, j, none⟩ _ gu (Nat.ne_of_lt hgu4)))
          have HV2 : Hid (NatP (fun b => w.heap.size ≤ b ∧ b < gu) (wr.setCell ⟨gq, j, none⟩ (.int .u64 (d : Nat))) (.slice (some ⟨bv, ov, none⟩) ys.length cv) vs) := Lib.hid (HV.out.keep (by simp [World.setCell]) (fun b h _ => Below.heap_setCell wr ⟨gq, j, none⟩ _ b (by have := h.2; show b ≠ gq; omega)))
          have HB2 := Lib.hid (HB.out.setCell (p := ⟨gq, j, none⟩) (by show w.heap.size ≤ gq; omega) (.int .u64 (d : Nat)))
          have HE2 : Hid (val (qs.set j d) * val vs + val us1 = val xs * 2 ^ s) := by
            refine Lib.hid ?_
            have e1 := val_set qs j d hjq
            rw [← lx_get hjq, HZ.out j (by omega), Nat.zero_mul, Nat.add_zero] at e1
            have e2 := HV1.out
            rw [h0] at e2
            exact long_E1 _ _ _ _ _ _ _ _ _ e1 e2 HE.out
          have HLT2 := Lib.hid hex.2
          have HZ2 : Hid (∀ i, i < j → lx (qs.set j d) i = 0) := Lib.hid (fun i hi => by rw [lx_get (by rw [List.length_set]; omega), List.getElem_set_ne (by omega), ← lx_get]; exact HZ.out i (by omega))
          clear hvJ hex hO' h0
          go_wp2
          go_roundw
          case rel => exact ⟨j, us1, qs.set j d, by omega, by go_num, HU2, HQ2, HL1, Lib.hid (by rw [List.length_set]; exact HLQ.out), HV2, HB2, HE2, HLT2, HZ2⟩
          case measure => simp [intOf]
        · have hbi : (((bo : Nat) : Int) != 0) = true := by rw [bne_iff_ne]; omega
          obtain rfl : bo = 1 := by omega
          have hvJ : 0 < val vs * B64 ^ j := Nat.mul_pos HV0.out (Nat.pow_pos B64_pos)
          have hub : val us < B64 ^ (j + ys.length + 1) := by
            have h1 := val_lt vs OV.out
            have h2 : val vs * B64 ^ (j + 1) ≤ B64 ^ vs.length * B64 ^ (j + 1) := Nat.mul_le_mul_right _ (Nat.le_of_lt h1)
            rw [← Nat.pow_add, HVL.out, show ys.length + (j + 1) = j + ys.length + 1 by omega] at h2
            have := HLT.out
            omega
          have hu1 := val_lt_of_drop us1 us (j + ys.length + 1) (by rw [HL1.out]; omega) (by rw [HLU.out]; omega) HU1.out.2 HDR.out hub
          have hqd := long_back (val us) (val us1) (val vs) (B64 ^ j) d _ hvJ HV1.out hu1
          have hd1 : 1 ≤ d := Nat.lt_of_le_of_lt (Nat.zero_le _) hqd
          have HW := Lib.hid (wrap_pred d hd1 HD.out)
          have HD2 : Hid (d - 1 < B64) := Lib.hid (by have := HD.out; omega)
          have HDQ2 : Hid (val us / (val vs * B64 ^ j) ≤ d - 1) := Lib.hid (Nat.le_sub_one_of_lt hqd)
          have HD1 := Lib.hid hd1
          clear hvJ hub hu1 hqd h0
          go_wp2_with fail
          refine (giveBack_any (zs := us1) (xs := vs) (by rw [HVL.out]; omega) HU1.out HV.out (fun b h => Nat.ne_of_lt h.2) (by rw [HVL.out, HL1.out]; omega) (by rw [HL1.out]; omega)).mono ?_
          rintro e w8 ⟨cy, rfl, hcy, hg, us2, hO2, hl2, hv2, hdr2⟩
          have hen : j + (j + ys.length + 1 - j) = j + ys.length + 1 := by omega
          rw [hen] at hv2 hdr2
          have HU2 := Lib.hid hO2; have HL2 := Lib.hid (hl2.trans HL1.out)
          have HV2 := Lib.hid (HV.out.grown hg (fun b h e => Nat.ne_of_lt h.2 (by injection e)))
          have HQ2 := Lib.hid (HQ1.out.keep (hg.block gq HQ1.out.lt (fun e => Nat.ne_of_lt hgu4 (by injection e with e; exact e.symm))))
          have HB2 := Lib.hid (HB.out.trans (Below.of_grown hg HB.out.size hgw))
          have HE2 : Hid (val us2 + (d - 1) * val vs * B64 ^ j = val us + (1 - cy) * B64 ^ (j + ys.length + 1)) := Lib.hid (long_E2 _ _ _ _ _ _ _ _ HD1.out hcy HV1.out hv2)
          have HDR2 := Lib.hid (hdr2.trans HDR.out)
          have HC : Hid ((1 : Int) - (cy : Int) = ((1 - cy : Nat) : Int)) := Lib.hid (by omega)
          clear hO2 hl2 hv2 hdr2 hg hen
          go_wp2
          go_roundw
          case rel => exact ⟨d - 1, 1 - cy, us2, by rw [HW.out], by rw [← HC.out], by omega, HD2, HDQ2, HU2, HQ2, HL2, HV2, HB2, HE2, HDR2⟩
          case measure => simp only [intOf]; rw [HW.out]; have := HD1.out; omega
end Go.Proofs.YtgodkfgnhpnhcaaGreatDoor
namespace Go.Proofs.YtgodkfgnhpnhcaaGreatDoor
open Go.RowKit
/-- two new numbers and true come back -/
def RetNNT (B : Nat) (w0 : World) (m n : Nat) (e : Ending) (w' : World) : Prop :=
  Below B w0 w' ∧ ∃ v1 v2 xs ys, e = .returned (.tuple #[v1, v2, .bool true]) ∧ NatP (fun b => B ≤ b) w' v1 xs ∧ Tr xs ∧ val xs = m ∧ NatP (fun b => B ≤ b) w' v2 ys ∧ Tr ys ∧ val ys = n
theorem NatP.one {p : Nat → Prop} {w : World} {g x : Nat} (hx : x < B64) {T : TypeId} (h : w.heap[g]? = some (.cells #[.int .u64 (x : Nat)] T (0, 0))) (hp : p g) : NatP p w (.slice (some ⟨g, 0, none⟩) 1 1) [x] := by
  refine ⟨_, 1, rfl, Nat.le_refl _, ⟨by simp, by omega⟩, fun y hy => by simp at hy; subst hy; exact hx, fun _ => ⟨g, 0, rfl, hp, (Array.getElem?_eq_some_iff.1 h).1, fun k hk => ?_⟩⟩
  obtain rfl : k = 0 := by simpa using hk
  rw [cell_of_row w g (0 + 0) _ _ _ h]
  rfl
theorem val_one (x : Nat) : val [x] = x := by simp [val]
set_option maxHeartbeats 800000 in
theorem divmod_zero {p q : Nat → Prop} {va vb : Value} {xs ys : List Nat} {w : World} (hx : NatP p w va xs) (hy : NatP q w vb ys) (h0 : val ys = 0) :
    Calls Tryz.prog 260 #[va, vb] w fun e w' => e = .returned (.tuple #[.slice none 0 0, .slice none 0 0, .bool false]) ∧ w = w' := by
  go_enter Tryz.func260, Tryz.ntmps260
  go_wp2_with fail
  refine (trim_any hx).mono ?_
  rintro e w1 ⟨rfl, v1, xs1, rfl, hv1, -, -, -⟩
  clear hx
  obtain ⟨A1, c1, rfl, a1, ⟨a1', a1''⟩, -, -⟩ := hv1
  go_wp2_with fail
  refine (trim_any hy).mono ?_
  rintro e w1 ⟨rfl, v2, ys1, rfl, hv2, ht2, hval2, -⟩
  have hn : ys1 = [] := (val_eq_zero_tr ys1 ht2).1 (by rw [hval2, h0])
  subst hn
  obtain ⟨A2, c2, rfl, a2, ⟨a2', a2''⟩, -, -⟩ := hv2
  clear hy h0 ht2 hval2
  go_wp2
  go_ret3
  exact ⟨rfl, rfl⟩
set_option maxHeartbeats 3200000 in
theorem divmod_pos {p q : Nat → Prop} {va vb : Value} {xs ys : List Nat} {w : World} (hx : NatP p w va xs) (hy : NatP q w vb ys) (h0 : val ys ≠ 0) (hL : xs.length < 1073741824) :
    Calls Tryz.prog 260 #[va, vb] w (RetNNT w.heap.size w (val xs / val ys) (val xs % val ys)) := by
  go_enter Tryz.func260, Tryz.ntmps260
  go_wp2_with fail
  refine (trim_any hx).mono ?_
  rintro e w1 ⟨rfl, v1, xs1, rfl, hv1, ht1, hval1, hl1⟩
  go_wp2_with fail
  refine (trim_any hy).mono ?_
  rintro e w1 ⟨rfl, v2, ys1, rfl, hv2, ht2, hval2, -⟩
  have HV1 := Lib.hid hval1; have HV2 := Lib.hid hval2
  have HT1 := Lib.hid ht1; have HT2 := Lib.hid ht2
  have H1 := Lib.hid hv1; have H2 := Lib.hid hv2
  have hpos : 0 < ys1.length := by
    rcases Nat.eq_zero_or_pos ys1.length with h | h
    · exact absurd (by rw [← hval2, List.eq_nil_of_length_eq_zero h]; rfl) h0
    · exact h
  clear hval1 hval2 hx hy ht1 ht2 hv1 hv2
  have hb0 : ((ys1.length : Int) == 0) = false := beq_eq_false_iff_ne.2 (by omega)
  have H0 := Lib.hid h0; clear h0
  obtain ⟨A1, c1, e1, a1, ⟨a1', a1''⟩, -, -⟩ := H1.out
  obtain ⟨A2, c2, e2, a2, ⟨a2', a2''⟩, -, -⟩ := H2.out
  subst e1 e2
  go_wp2_with fail
  refine (cmp_any H1.out H2.out).mono ?_
  rintro e w1 ⟨rfl, kd, rfl⟩
  have hbd := below_drewN w kd
  by_cases hlt : val xs1 < val ys1
  · have hc : cmpN (val xs1) (val ys1) = -1 := by unfold cmpN; rw [if_pos hlt]
    rw [hc]
    have HLT := Lib.hid hlt
    clear hlt hc
    go_wp2_with fail
    refine (of_any (H1.out.below hbd)).mono ?_
    rintro e w2 ⟨hb, v, zs, rfl, hz, tz, hvz⟩
    have HF : Hid (RetNNT w.heap.size w (val xs / val ys) (val xs % val ys) (.returned (.tuple #[.slice none 0 0, v, .bool true])) w2) :=
      Lib.hid ⟨hbd.trans hb, _, _, [], zs, rfl, NatP.nil _, Tr.nil, by rw [← HV1.out, ← HV2.out, Nat.div_eq_of_lt HLT.out]; rfl, hz, tz, by rw [hvz, ← HV1.out, ← HV2.out, Nat.mod_eq_of_lt HLT.out]⟩
    clear hb hz tz hvz hbd
    go_wp2
    go_ret3
    exact HF.out
  · have hc : ¬ cmpN (val xs1) (val ys1) < 0 := by unfold cmpN; rw [if_neg hlt]; split <;> omega
    obtain ⟨u, hu⟩ : ∃ u, u = cmpN (val xs1) (val ys1) := ⟨_, rfl⟩
    rw [← hu] at hc ⊢
    clear hu
    have HLE := Lib.hid (Nat.le_of_not_lt hlt)
    clear hlt
    by_cases h1 : ys1.length = 1
    · obtain ⟨b2, o2, c2, e2, -, -, -⟩ := H2.out.addr (by omega)
      injection e2 with e2 _ e2c
      subst e2 e2c
      have hb1 : ((ys1.length : Int) == 1) = true := by rw [h1]; rfl
      replace H1 := Lib.hid (H1.out.below hbd); replace H2 := Lib.hid (H2.out.below hbd)
      generalize w.drewN kd = wd at H1 H2 hbd ⊢
      have hcy := H2.out.cell (k := 0) (by omega)
      rw [Nat.add_zero] at hcy
      have O2 := Lib.hid H2.out.ok
      have hv1 : val ys1 = lx ys1 0 := by
        match ys1, h1 with
        | [y], _ => simp [val, lx]
      have HY1 := Lib.hid hv1; have HN1 := Lib.hid h1
      have hby := lx_lt O2.out 0
      have hby0 : 0 < lx ys1 0 := Nat.pos_of_ne_zero (by rw [← hv1, HV2.out]; exact H0.out)
      have HBY := Lib.hid hby
      obtain ⟨y0, hy0⟩ : ∃ y0, y0 = lx ys1 0 := ⟨_, rfl⟩
      rw [← hy0] at hcy hby0 HBY HY1
      clear h1 hv1 hby hy0
      have hbw := Lib.hid hbd; have hsw := Lib.hid hbd.size
      have h2b := H2.out.weak (q := fun b => b < wd.heap.size) (fun b _ h => h)
      have hb2b := h2b.blk (by omega)
      clear h2b hbd
      go_wp2_with (first
        | (at_make; refine wpList_makeN _ rfl (.tmp 31) (.tmp 31) rfl .i64 .i64 _ xs1.length rfl rfl (by omega) (by omega) wd.heap.size wd (Below.refl _ _) (Nat.le_refl _) ?_; intro w1 hO1 hb1' hbb1 hs1)
        | (with_reducible refine wpList_copyN (w := w1) rfl (.tmp 33) (.tmp 34) rfl wd.heap.size _ _ _ _ xs1 rfl rfl hO1.out (by simp) (H1.out.below hbb1) (by simp) wd.heap.size wd hb1' (Nat.le_refl _) ?_; intro w2 hO2 hb2; have hcy2 := (hb2.cell (p := ⟨b2, o2, none⟩) hb2b).trans hcy)
        | fail)
      have hO2' : OwnN w2 wd.heap.size xs1 := by have := hO2.out; rw [drop_zeros, Nat.sub_self] at this; simpa using this
      refine (short_any (xs := xs1) rfl hO2' (by omega) hby0 HBY.out).mono ?_
      rintro e w3 ⟨rfl, hg, qs, hO3, hl3, hv3⟩
      have HO3 := Lib.hid hO3; have HL3 := Lib.hid hl3; have HV3 := Lib.hid hv3
      have HB3 : Hid (Below w.heap.size w w3) := Lib.hid ((hbw.out.trans (hb2.mono hsw.out)).trans (Below.of_grown hg (by have := hb2.size; have := hsw.out; omega) hsw.out))
      have hrl : val xs1 % y0 < B64 := Nat.lt_trans (Nat.mod_lt _ hby0) HBY.out
      have HRL := Lib.hid hrl
      obtain ⟨r0, hr0⟩ : ∃ r0, r0 = val xs1 % y0 := ⟨_, rfl⟩
      rw [← hr0] at HRL ⊢
      have HR0 := Lib.hid hr0
      clear hO3 hl3 hv3 hg hO2 hO2' hO1 hb2 hb1' hbb1 hs1 hrl hr0 hcy hcy2
      go_wp2_with fail
      refine (trim_any (HO3.out.natP (p := fun b => w.heap.size ≤ b) HL3.out (Nat.le_refl _) (by omega) hsw.out)).mono ?_
      rintro e w4 ⟨rfl, v1, q', rfl, hq, tq, hvq, -⟩
      have Q1 := Lib.hid hq; have Q2 := Lib.hid tq; have Q3 := Lib.hid hvq
      clear hq tq hvq
      go_wp2_with fail
      have hbn : Below w3.heap.size w3 (w3.alloc (Obj.cells #[Value.int .u64 (r0 : Nat)] 196)) := (Below.refl _ _).alloc (Nat.le_refl _) _
      have hone : NatP AnyB (w3.alloc (Obj.cells #[Value.int .u64 (r0 : Nat)] 196)) (.slice (some ⟨w3.heap.size, 0, none⟩) 1 1) [r0] := NatP.one HRL.out (heap_alloc_new w3 _) trivial
      refine (of_any hone).mono ?_
      rintro e w5 ⟨hb, v2, r', rfl, hr, tr, hvr⟩
      have hb5 : Below w3.heap.size w3 w5 := hbn.trans (hb.mono hbn.size)
      have HF : Hid (RetNNT w.heap.size w (val xs / val ys) (val xs % val ys) (.returned (.tuple #[v1, v2, .bool true])) w5) :=
        Lib.hid ⟨HB3.out.trans (hb5.mono HB3.out.size), _, _, q', r', rfl, Q1.out.below hb5, Q2.out, by rw [Q3.out, HV3.out, ← HV1.out, ← HV2.out, HY1.out],
          hr.weak (fun b h _ => Nat.le_trans HB3.out.size (Nat.le_trans hbn.size h)), tr, by rw [hvr, val_one, HR0.out, ← HV1.out, ← HV2.out, HY1.out]⟩
      clear hb hr tr hvr hbn hone hb5
      go_wp2
      go_ret3
      exact HF.out
    · have hb1 : ((ys1.length : Int) == 1) = false := beq_eq_false_iff_ne.2 (by omega)
      go_wp2_with fail
      refine (long_any (H1.out.below hbd) (H2.out.below hbd) HT1.out HT2.out (by omega) HLE.out (by omega)).mono ?_
      rintro e w2 ⟨hb, v1, v2, qs, rs, rfl, hq, tq, hvq, hr, tr, hvr⟩
      have HF : Hid (RetNNT w.heap.size w (val xs / val ys) (val xs % val ys) (.returned (.tuple #[v1, v2, .bool true])) w2) :=
        Lib.hid ⟨hbd.trans hb, _, _, qs, rs, rfl, hq, tq, by rw [hvq, HV1.out, HV2.out], hr, tr, by rw [hvr, HV1.out, HV2.out]⟩
      clear hb hq tq hvq hr tr hvr hbd
      go_wp2
      go_ret3
      exact HF.out
end Go.Proofs.YtgodkfgnhpnhcaaGreatDoor
namespace Go.Proofs.YtgodkfgnhpnhcaaGreatDoor
open Go.RowKit
theorem NatP.len_val {p : Nat → Prop} {w : World} {v : Value} {xs : List Nat} (h : NatP p w v xs) (ht : Tr xs) (L : Nat) (hb : bits (val xs) ≤ 64 * L) : xs.length ≤ L :=
  tr_len_le xs ht L (by rw [B64_eq, ← Nat.pow_mul]; exact (bits_le_iff _ _).1 hb)
set_option maxHeartbeats 800000 in
theorem subX_ge {p q : Nat → Prop} {va vb : Value} {xs ys : List Nat} {w : World} (hx : NatP p w va xs) (hy : NatP q w vb ys) (hle : val ys ≤ val xs) :
    Calls Tryz.prog 276 #[va, vb] w (RetNB w.heap.size w (val xs - val ys) true) := by
  go_enter Tryz.func276, Tryz.ntmps276
  go_wp2_with fail
  refine (trim_any hx).mono ?_
  rintro e w1 ⟨rfl, v1, xs1, rfl, hv1, ht1, hval1, -⟩
  go_wp2_with fail
  refine (trim_any hy).mono ?_
  rintro e w1 ⟨rfl, v2, ys1, rfl, hv2, ht2, hval2, -⟩
  have HV1 := Lib.hid hval1; have HV2 := Lib.hid hval2; have HT2 := Lib.hid ht2
  have H1 := Lib.hid hv1; have H2 := Lib.hid hv2
  have HLE := Lib.hid (show val ys1 ≤ val xs1 by rw [hval1, hval2]; exact hle)
  clear hval1 hval2 hx hy ht1 ht2 hv1 hv2 hle
  go_wp2_with fail
  refine (cmp_any H1.out H2.out).mono ?_
  rintro e w1 ⟨rfl, k, rfl⟩
  have hc : ¬ cmpN (val xs1) (val ys1) < 0 := by have := HLE.out; unfold cmpN; rw [if_neg (by omega)]; split <;> omega
  obtain ⟨u, hu⟩ : ∃ u, u = cmpN (val xs1) (val ys1) := ⟨_, rfl⟩
  rw [← hu] at hc ⊢
  clear hu
  go_wp2_with fail
  refine (sub_any (w := w.drewN k) (H1.out.below (below_drewN w k)) (H2.out.below (below_drewN w k)) (tr_len_mono _ _ HT2.out H1.out.ok HLE.out) HLE.out).mono ?_
  rintro e w2 ⟨hb, v, zs, rfl, hz, htz, hvz⟩
  have HF : Hid (RetNB w.heap.size w (val xs - val ys) true (.returned (.tuple #[v, .bool true])) w2) := Lib.hid ⟨(below_drewN w k).trans hb, v, zs, rfl, hz, htz, by rw [hvz, HV1.out, HV2.out]⟩
  clear hb hz htz hvz
  go_wp2
  go_ret2
  exact HF.out
set_option maxHeartbeats 800000 in
theorem subX_lt {p q : Nat → Prop} {va vb : Value} {xs ys : List Nat} {w : World} (hx : NatP p w va xs) (hy : NatP q w vb ys) (hlt : val xs < val ys) :
    Calls Tryz.prog 276 #[va, vb] w fun e w' => e = .returned (.tuple #[.slice none 0 0, .bool false]) ∧ ∃ k, w' = w.drewN k := by
  go_enter Tryz.func276, Tryz.ntmps276
  go_wp2_with fail
  refine (trim_any hx).mono ?_
  rintro e w1 ⟨rfl, v1, xs1, rfl, hv1, ht1, hval1, -⟩
  go_wp2_with fail
  refine (trim_any hy).mono ?_
  rintro e w1 ⟨rfl, v2, ys1, rfl, hv2, ht2, hval2, -⟩
  have H1 := Lib.hid hv1; have H2 := Lib.hid hv2
  have hc : cmpN (val xs1) (val ys1) = -1 := by unfold cmpN; rw [hval1, hval2, if_pos hlt]
  clear hval1 hval2 hx hy ht1 ht2 hv1 hv2 hlt
  have HC := Lib.hid hc; clear hc
  go_wp2_with fail
  refine (cmp_any H1.out H2.out).mono ?_
  rintro e w1 ⟨rfl, k, rfl⟩
  rw [HC.out]
  go_wp2
  go_ret2
  exact ⟨rfl, k, rfl⟩
set_option maxHeartbeats 400000 in
theorem shl_any {p : Nat → Prop} {va : Value} {xs : List Nat} {n : Nat} {w : World} (hx : NatP p w va xs) (hn : n ≤ 16777216) (hL : xs.length < 1073741824) :
    Calls Tryz.prog 269 #[va, .int .i64 n] w (RetN w.heap.size w (val xs * 2 ^ n)) := by
  have hni : (n : Int) ≤ 16777216 := by omega
  have HN := Lib.hid hn; clear hn
  go_enter Tryz.func269, Tryz.ntmps269
  go_wp2_with fail
  refine (trim_any hx).mono ?_
  rintro e w1 ⟨rfl, v1, xs1, rfl, hv1, ht1, hval1, hl1⟩
  have HV1 := Lib.hid hval1; have H1 := Lib.hid hv1
  clear hx hval1 hv1 ht1
  go_wp2_with fail
  refine (left_any H1.out (by have := HN.out; omega)).mono ?_
  rintro e w2 ⟨hb, v, zs, rfl, hz, htz, hvz⟩
  have HF := Lib.hid (RetN.of (n := val xs * 2 ^ n) hb hz htz (by rw [hvz, HV1.out]))
  clear hb hz htz hvz
  go_wp2
  go_ret
  exact HF.out
set_option maxHeartbeats 400000 in
theorem shr_any {p : Nat → Prop} {va : Value} {xs : List Nat} {n : Nat} {w : World} (hx : NatP p w va xs) (hn : n ≤ 16777216) :
    Calls Tryz.prog 220 #[va, .int .i64 n] w (RetN w.heap.size w (val xs / 2 ^ n)) := by
  have hni : (n : Int) ≤ 16777216 := by omega
  have HN := Lib.hid hn; clear hn
  go_enter Tryz.func220, Tryz.ntmps220
  go_wp2_with fail
  refine (trim_any hx).mono ?_
  rintro e w1 ⟨rfl, v1, xs1, rfl, hv1, ht1, hval1, hl1⟩
  have HV1 := Lib.hid hval1; have H1 := Lib.hid hv1
  clear hx hval1 hv1 ht1
  go_wp2_with fail
  refine (right_any H1.out (by have := HN.out; omega)).mono ?_
  rintro e w2 ⟨hb, v, zs, rfl, hz, htz, hvz⟩
  have HF := Lib.hid (RetN.of (n := val xs / 2 ^ n) hb hz htz (by rw [hvz, HV1.out]))
  clear hb hz htz hvz
  go_wp2
  go_ret
  exact HF.out
set_option maxHeartbeats 400000 in
theorem mulX_any {p q : Nat → Prop} {cut : Nat} {va vb : Value} {xs ys : List Nat} {w : World} (hc2 : 2 ≤ cut) (hcM : cut ≤ 1099511627776) (hx : NatP p w va xs) (hy : NatP q w vb ys) (hl : xs.length + ys.length ≤ 549755813888) :
    Calls Tryz.prog 267 #[.int .i64 cut, va, vb] w (RetN w.heap.size w (val xs * val ys)) := by
  have hci : (2 : Int) ≤ (cut : Int) := by omega
  go_enter Tryz.func267, Tryz.ntmps267
  go_wp2_with fail
  refine (mul_any hc2 hcM hx hy hl).mono ?_
  rintro e w2 ⟨hb, v, zs, rfl, hz, htz, hvz⟩
  have HF := Lib.hid (RetN.of hb hz htz hvz)
  clear hb hz htz hvz
  go_wp2
  go_ret
  exact HF.out
set_option maxHeartbeats 1600000 in
theorem add2_any {p q : Nat → Prop} {g off c : Nat} {va vb : Value} {xs ys : List Nat} {w : World} (ha : w.cell? ⟨g, off, none⟩ = some va) (hb' : w.cell? ⟨g, off + 1, none⟩ = some vb) (hx : NatP p w va xs) (hy : NatP q w vb ys) (hL : xs.length + ys.length < 1073741824) (hc : 2 ≤ c) :
    Calls Tryz.prog 256 #[.slice (some ⟨g, off, none⟩) 2 c] w (RetN w.heap.size w (val xs + val ys)) := by
  have hgl : g < w.heap.size := World.block_lt_of_cell? w _ ha
  have HX := Lib.hid hx; have HY := Lib.hid hy
  have HA := Lib.hid ha; have HBb := Lib.hid hb'
  clear hx hy ha hb'
  go_enter Tryz.func256, Tryz.ntmps256
  go_wp2_with fail
  go_loopw [3, 8] (fun sv i wr => ∃ (k : Nat) (ss : List Nat), k ≤ 2 ∧ i = .int .i64 k ∧ Hid (NatP (fun b => w.heap.size ≤ b) wr sv ss) ∧ Hid (Below w.heap.size w wr) ∧ Hid (Tr ss) ∧ Hid (val ss = if k = 0 then 0 else if k = 1 then val xs else val xs + val ys)) (fun _ i _ => 2 - (intOf i).toNat)
  case atStart => exact ⟨0, [], by omega, rfl, Lib.hid (NatP.nil w), Lib.hid (Below.refl _ _), Lib.hid Tr.nil, Lib.hid rfl⟩
  case round =>
    obtain ⟨k, ss, hk, rfl, HS, HB, HT, HV⟩ := hrel
    have hk3 : k = 0 ∨ k = 1 ∨ k = 2 := by omega
    rcases hk3 with rfl | rfl | rfl
    · have hca : wr.cell? ⟨g, off, none⟩ = some va := (HB.out.cell (p := ⟨g, off, none⟩) hgl).trans HA.out
      go_wp2_with fail
      refine (trim_any (HX.out.below HB.out)).mono ?_
      rintro e w1 ⟨rfl, v1, xs1, rfl, hv1, ht1, hval1, hl1⟩
      have H1 := Lib.hid hv1; have HV1 := Lib.hid hval1
      clear hv1 hval1 ht1
      have hss : ss.length ≤ 0 := tr_len_le ss HT.out 0 (by rw [HV.out]; simp)
      go_wp2_with fail
      refine (add_any HS.out H1.out (by omega) (by omega)).mono ?_
      rintro e w2 ⟨hb, v, zs, rfl, hz, htz, hvz⟩
      have HS2 := Lib.hid (hz.weak (q := fun b => w.heap.size ≤ b) fun b h _ => Nat.le_trans HB.out.size h)
      have HB2 := Lib.hid (HB.out.trans (hb.mono HB.out.size)); have HT2 := Lib.hid htz
      have HV2 : Hid (val zs = if 1 = 0 then 0 else if 1 = 1 then val xs else val xs + val ys) := Lib.hid (by rw [hvz, HV.out, HV1.out]; simp)
      clear hb hz htz hvz hss
      go_wp2
      go_roundw
      case rel => exact ⟨1, zs, by omega, by go_num, HS2, HB2, HT2, HV2⟩
      case measure => simp [intOf]
    · have hca : wr.cell? ⟨g, off + 1, none⟩ = some vb := (HB.out.cell (p := ⟨g, off + 1, none⟩) hgl).trans HBb.out
      go_wp2_with fail
      refine (trim_any (HY.out.below HB.out)).mono ?_
      rintro e w1 ⟨rfl, v1, xs1, rfl, hv1, ht1, hval1, hl1⟩
      have H1 := Lib.hid hv1; have HV1 := Lib.hid hval1
      clear hv1 hval1 ht1
      have hss : ss.length ≤ xs.length := tr_len_le ss HT.out _ (by rw [HV.out]; exact val_lt xs HX.out.ok)
      go_wp2_with fail
      refine (add_any HS.out H1.out (by omega) (by omega)).mono ?_
      rintro e w2 ⟨hb, v, zs, rfl, hz, htz, hvz⟩
      have HS2 := Lib.hid (hz.weak (q := fun b => w.heap.size ≤ b) fun b h _ => Nat.le_trans HB.out.size h)
      have HB2 := Lib.hid (HB.out.trans (hb.mono HB.out.size)); have HT2 := Lib.hid htz
      have HV2 : Hid (val zs = if 2 = 0 then 0 else if 2 = 1 then val xs else val xs + val ys) := Lib.hid (by rw [hvz, HV.out, HV1.out]; simp)
      clear hb hz htz hvz hss
      go_wp2
      go_roundw
      case rel => exact ⟨2, zs, by omega, by go_num, HS2, HB2, HT2, HV2⟩
      case measure => simp [intOf]
    · go_wp2_with fail
      refine (trim_any HS.out).mono ?_
      rintro e w1 ⟨rfl, v1, ss1, rfl, hv1, ht1, hval1, -⟩
      have HF := Lib.hid (RetN.of (n := val xs + val ys) HB.out hv1 ht1 (by rw [hval1, HV.out]; simp))
      clear hv1 hval1 ht1
      go_wp2
      go_ret
      exact HF.out
end Go.Proofs.YtgodkfgnhpnhcaaGreatDoor
namespace Go.Proofs.YtgodkfgnhpnhcaaGreatDoor
open Go.RowKit
theorem wrap_div (x r : Nat) (hx : x < B64) : IntKind.u64.wrap ((x : Int) / (r : Int)) = ((x / r : Nat) : Int) := by
  have h := Nat.lt_of_le_of_lt (Nat.div_le_self x r) hx
  unfold B64 at h
  rw [← Int.natCast_ediv, wrap_nat, Nat.mod_eq_of_lt h]
theorem two_pow33 (k : Nat) (h : k ≤ 32) : 2 ^ k ≤ 4294967296 := Nat.pow_le_pow_right (n := 2) (by omega) h
set_option maxHeartbeats 800000 in
set_option maxRecDepth 100000 in
theorem limbRoot_any {p : Nat → Prop} {va : Value} {xs : List Nat} {w : World} (hx : NatP p w va xs) (tx : Tr xs) (hl : xs.length ≤ 1) :
    Calls Tryz.prog 283 #[va] w fun e w' => e = .returned (.int .u64 (isqrt (val xs) : Nat)) ∧ w = w' := by
  have hok := Lib.hid hx.ok
  rcases Nat.eq_zero_or_pos xs.length with h | h
  · have hn := List.eq_nil_of_length_eq_zero h
    subst hn
    obtain ⟨A, c, rfl, h2, h3, -, -⟩ := hx
    clear h hl h2 h3 hok tx
    go_enter Tryz.func283, Tryz.ntmps283
    go_wp2
    go_ret
    exact ⟨rfl, rfl⟩
  · obtain ⟨b, off, c, rfl, -, -, -⟩ := hx.addr h
    have hcell := hx.cell (k := 0) h
    rw [Nat.add_zero] at hcell
    have hb0 : ((xs.length : Int) == 0) = false := beq_eq_false_iff_ne.2 (by omega)
    have hxlt := lx_lt hok.out 0
    have hv : val xs = lx xs 0 := by
      match xs, h, hl with
      | [y], _, _ => simp [val, lx]
    have hlen : (0 : Int) < (xs.length : Int) := by omega
    obtain ⟨x, hx'⟩ : ∃ x, x = lx xs 0 := ⟨_, rfl⟩
    rw [← hx'] at hcell hxlt hv
    have HV := Lib.hid hv
    have HX := Lib.hid hxlt
    have hbb : bits x ≤ 64 := by rw [bits_le_iff]; exact hxlt
    have hlb := lib_bitLen x (by rw [← B64_eq]; exact hxlt)
    have hxI : (x : Int) ≤ 18446744073709551615 := by have := u64_lt hxlt; omega
    have HLB := Lib.hid hlb
    have hx0 : x ≠ 0 := by
      rw [← hv]
      intro h0
      have := (val_eq_zero_tr xs tx).1 h0
      rw [this] at h; simp at h
    obtain ⟨s, hs⟩ := isRoot_ex x
    have hs1 : 0 < s := by
      rcases Nat.eq_zero_or_pos s with h5 | h5
      · subst h5; have := hs.2; simp at this; omega
      · exact h5
    have HS := Lib.hid hs
    have hr0 : ((2 : Int) ^ ((bits x + 1) / 2)) = ((2 ^ ((bits x + 1) / 2) : Nat) : Int) := by rw [Int.natCast_pow]; rfl
    have hr1 := two_pow33 ((bits x + 1) / 2) (by omega)
    obtain ⟨r0, hr0'⟩ : ∃ r0, r0 = 2 ^ ((bits x + 1) / 2) := ⟨_, rfl⟩
    have hsr : s ≤ r0 := by rw [hr0']; exact root_first x s hs
    have hr0p : 0 < r0 := by rw [hr0']; exact Nat.two_pow_pos _
    rw [← hr0'] at hr0 hr1
    have hwr : IntKind.u64.wrap ((2 : Int) ^ ((bits x + 1) / 2)) = (r0 : Int) := by rw [hr0, wrap_nat, Nat.mod_eq_of_lt (by omega)]
    have HSR := Lib.hid hsr
    obtain ⟨k, hk⟩ : ∃ k, k = bits x := ⟨_, rfl⟩
    rw [← hk] at hwr hbb HLB
    clear tx hx0 hx hv hxlt hlb hs hr0 hr0' hsr hx' hok hl hk
    go_enter Tryz.func283, Tryz.ntmps283
    go_wp2_with (go_at_call 199; refine (Tryz.bits_Len64 (x : Int) _ (by omega) hxI).mono ?_; rintro e w' ⟨rfl, hw⟩; obtain rfl := hw.symm; rw [Int.toNat_natCast, HLB.out])
    go_loop [3] (fun rr => ∃ r : Nat, rr = .int .u64 r ∧ 0 < r ∧ r ≤ 4294967296 ∧ Hid (s ≤ r)) (fun rr => (intOf rr).toNat)
    case atStart => exact ⟨r0, by rw [hwr], hr0p, hr1, HSR⟩
    case round =>
      obtain ⟨r, rfl, hrp, hrl, hsr⟩ := hrel
      have hrI : (1 : Int) ≤ (r : Int) := by omega
      have hq := wrap_div x r HX.out
      obtain ⟨q, hq'⟩ : ∃ q, q = x / r := ⟨_, rfl⟩
      rw [← hq'] at hq
      have HQ := Lib.hid hq'
      by_cases hlt : r ≤ q
      · have hge : ((r : Nat) : Int) ≤ (q : Int) := by omega
        have hd : decide (((r : Nat) : Int) ≤ (q : Int)) = true := decide_eq_true hge
        have hrs : s = r := by
          have h1 := newton_end x r hrp (by rw [← hq']; exact hlt)
          refine Nat.le_antisymm hsr.out ?_
          apply Nat.le_of_not_lt
          intro h4
          have : (s + 1) * (s + 1) ≤ r * r := Nat.mul_le_mul h4 h4
          have := HS.out.2
          omega
        have HRS := Lib.hid hrs
        clear hq' hlt hrs
        go_wp2
        go_ret
        exact ⟨ret_u64 (by rw [HV.out, isqrt_eq HS.out, HRS.out]), rfl⟩
      · have hge : (q : Int) < ((r : Nat) : Int) := by omega
        have hd : decide (((r : Nat) : Int) ≤ (q : Int)) = false := decide_eq_false (by omega)
        have hnw := newton_ge x r s hrp HS.out.1
        rw [← hq'] at hnw
        have HN := Lib.hid hnw
        have hr'0 : 0 < (r + q) / 2 := Nat.lt_of_lt_of_le hs1 hnw
        have hr'1 : (r + q) / 2 < r := by omega
        have hcast : ((r : Int) + (q : Int)) / 2 = (((r + q) / 2 : Nat) : Int) := by omega
        have HC := Lib.hid hcast; have HR1 := Lib.hid hr'1
        clear hq' hlt hnw hcast hr'1
        go_wp2
        go_round
        case rel => exact ⟨(r + q) / 2, by rw [HC.out], hr'0, by have := HR1.out; omega, HN⟩
        case measure => simp only [intOf]; rw [HC.out]; have := HR1.out; omega
end Go.Proofs.YtgodkfgnhpnhcaaGreatDoor
namespace Go.Proofs.YtgodkfgnhpnhcaaGreatDoor
open Go.RowKit
theorem NatP.unique {p q : Nat → Prop} {w : World} {v : Value} {xs ys : List Nat} (h : NatP p w v xs) (h' : NatP q w v ys) : xs = ys := by
  obtain ⟨A, c, e1, h2, h3, h4, h5⟩ := h
  obtain ⟨A', c', e1', h2', h3', h4', h5'⟩ := h'
  rw [e1] at e1'
  injection e1' with ea el ec
  subst ea
  refine List.ext_getElem el fun i hi hi' => ?_
  obtain ⟨b, off, e, _, _, hc⟩ := h5 (by omega)
  obtain ⟨b', off', e', _, _, hc'⟩ := h5' (by omega)
  rw [e] at e'
  obtain ⟨rfl, rfl⟩ : b = b' ∧ off = off' := by have := Option.some.inj e'; exact ⟨congrArg Addr.block this, congrArg Addr.off this⟩
  have h6 := hc i hi
  rw [hc' i hi', lim_eq hi, lim_eq hi'] at h6
  have h7 : (ys[i] : Int) = (xs[i] : Int) := by
    have := Option.some.inj h6
    injection this
  omega
open Classical in
/-- the number that a slice reads as -/
noncomputable def readN (w : World) (v : Value) : Nat := if h : ∃ xs, NatV w v xs then val h.choose else 0
theorem readN_eq {p : Nat → Prop} {w : World} {v : Value} {xs : List Nat} (h : NatP p w v xs) : readN w v = val xs := by
  have hex : ∃ xs, NatV w v xs := ⟨xs, h.any⟩
  unfold readN
  rw [dif_pos hex]
  rw [NatP.unique hex.choose_spec h]
theorem isqrt_le (n : Nat) : isqrt n ≤ n := by
  have h := (isqrt_spec n).1
  rcases Nat.eq_zero_or_pos (isqrt n) with h0 | h0
  · omega
  · have : isqrt n * 1 ≤ isqrt n * isqrt n := Nat.mul_le_mul_left _ h0
    omega
theorem isRoot_le2 {r s n : Nat} (h : r * r ≤ n) (hs : IsRoot s n) : r ≤ s := by
  apply Nat.le_of_not_lt
  intro h1
  have : (s + 1) * (s + 1) ≤ r * r := Nat.mul_le_mul h1 h1
  have := hs.2
  omega
theorem isqrt_pos {n : Nat} (h : 0 < n) : 0 < isqrt n := by
  have h1 := (isqrt_spec n).2
  rcases Nat.eq_zero_or_pos (isqrt n) with h0 | h0
  · rw [h0] at h1; omega
  · exact h0
theorem root_begin (a h : Nat) : isqrt a ≤ (isqrt (a / 2 ^ (2 * h)) + 1) * 2 ^ h ∧ 0 < (isqrt (a / 2 ^ (2 * h)) + 1) * 2 ^ h :=
  ⟨root_start a h _ (isqrt_spec _).1 (isqrt_spec _).2 _ (isqrt_spec _).1, Nat.mul_pos (by omega) (Nat.two_pow_pos _)⟩
theorem root_begin_lt (a h n : Nat) (ha : a < B64 ^ n) (h0 : 0 < a) (hh1 : 1 ≤ h) (hh : h ≤ bits a / 4) : (isqrt (a / 2 ^ (2 * h)) + 1) * 2 ^ h < B64 ^ (n + 1) := by
  have h1 := isqrt_le (a / 2 ^ (2 * h))
  have h2 : a / 2 ^ (2 * h) * 2 ^ (2 * h) ≤ a := Nat.div_mul_le_self _ _
  have h3 : (2 : Nat) ^ (2 * h) = 2 ^ h * 2 ^ h := by rw [← Nat.pow_add]; congr 1; omega
  have h4 : 1 ≤ 2 ^ h := Nat.two_pow_pos _
  have h5 : 2 ^ h ≤ a := by
    have h6 : 2 ^ (bits a - 1) ≤ a := two_pow_bits_le a (by omega)
    exact Nat.le_trans (Nat.pow_le_pow_right (by omega) (by omega)) h6
  have h6 : (a / 2 ^ (2 * h)) * 2 ^ h ≤ a := by
    refine Nat.le_trans ?_ h2
    rw [h3, ← Nat.mul_assoc]
    exact Nat.le_mul_of_pos_right _ h4
  have h7 : isqrt (a / 2 ^ (2 * h)) * 2 ^ h ≤ (a / 2 ^ (2 * h)) * 2 ^ h := Nat.mul_le_mul_right _ h1
  have h8 : (isqrt (a / 2 ^ (2 * h)) + 1) * 2 ^ h = isqrt (a / 2 ^ (2 * h)) * 2 ^ h + 2 ^ h := by rw [Nat.add_mul, Nat.one_mul]
  have h9 : B64 ^ n * 2 ≤ B64 ^ (n + 1) := by rw [Nat.pow_succ]; exact Nat.mul_le_mul_left _ (by unfold B64; omega)
  omega
set_option maxHeartbeats 3200000 in
theorem root_step (N : Nat) (ih : ∀ (p : Nat → Prop) (va : Value) (xs : List Nat) (w : World), NatP p w va xs → Tr xs → xs.length ≤ 268435456 → val xs < N → Calls Tryz.prog 272 #[va] w (RetN w.heap.size w (isqrt (val xs))))
    (p : Nat → Prop) (va : Value) (xs : List Nat) (w : World) (hx : NatP p w va xs) (tx : Tr xs) (hl : xs.length ≤ 268435456) (hN : val xs ≤ N) : Calls Tryz.prog 272 #[va] w (RetN w.heap.size w (isqrt (val xs))) := by
  have IH := Lib.hid ih; clear ih
  have HX := Lib.hid hx; have TX := Lib.hid tx; have OX := Lib.hid hx.ok; have HN := Lib.hid hN
  clear hN
  obtain ⟨A, c, rfl, h2, ⟨h3, h3b⟩, -, -⟩ := hx
  by_cases h2l : xs.length < 2
  · go_enter Tryz.func272, Tryz.ntmps272
    go_wp2_with fail
    refine (limbRoot_any HX.out TX.out (by omega)).mono ?_
    rintro e w1 ⟨rfl, rfl⟩
    have hr : isqrt (val xs) < B64 := by
      have h1 := isqrt_le (val xs)
      have h2 := val_lt xs OX.out
      have h3 : B64 ^ xs.length ≤ B64 ^ 1 := Nat.pow_le_pow_right B64_pos (by omega)
      rw [Nat.pow_one] at h3
      omega
    have HR := Lib.hid hr; clear hr
    go_wp2_with fail
    have hbn : Below w.heap.size w (w.alloc (Obj.cells #[Value.int .u64 (isqrt (val xs) : Nat)] 196)) := (Below.refl _ _).alloc (Nat.le_refl _) _
    have hone : NatP AnyB (w.alloc (Obj.cells #[Value.int .u64 (isqrt (val xs) : Nat)] 196)) (.slice (some ⟨w.heap.size, 0, none⟩) 1 1) [isqrt (val xs)] := NatP.one HR.out (heap_alloc_new w _) trivial
    refine (of_any hone).mono ?_
    rintro e w5 ⟨hb, v2, r', rfl, hr, tr, hvr⟩
    have HF := Lib.hid (RetN.of (n := isqrt (val xs)) (hbn.trans (hb.mono hbn.size)) (hr.weak (fun b h _ => Nat.le_trans hbn.size h)) tr (by rw [hvr, val_one]))
    clear hb hr tr hvr hbn hone
    go_wp2
    go_ret
    exact HF.out
  · have hne : xs ≠ [] := by rintro rfl; simp at h2l
    have hbv := bits_val_tr xs OX.out TX.out hne
    have hbl : 1 ≤ bits (xs.getLast hne) ∧ bits (xs.getLast hne) ≤ 64 := by
      have h0 := TX.out hne
      have h1 := OX.out _ (List.getLast_mem hne)
      refine ⟨by unfold bits; rw [if_neg h0]; omega, by rw [bits_le_iff]; exact h1⟩
    have hb1 : 65 ≤ bits (val xs) := by omega
    have hb2 : bits (val xs) ≤ 64 * xs.length := by omega
    obtain ⟨h, hh⟩ : ∃ h, h = bits (val xs) / 4 := ⟨_, rfl⟩
    have hh1 : 1 ≤ h := by omega
    have hh2 : h ≤ 16 * xs.length := by omega
    have hhI : ((bits (val xs) : Nat) : Int) / 4 = (h : Int) := by omega
    have HH := Lib.hid hhI
    have hv0 : 0 < val xs := by
      rcases Nat.eq_zero_or_pos (val xs) with h0 | h0
      · exact absurd ((val_eq_zero_tr xs TX.out).1 h0) hne
      · exact h0
    have HV0 := Lib.hid hv0
    have hle := Lib.hid hb2
    have HH1 := Lib.hid (show 1 ≤ h ∧ h ≤ bits (val xs) / 4 from ⟨hh1, Nat.le_of_eq hh⟩)
    clear hbv hbl hb1 hb2 hh hhI hv0 tx
    go_enter Tryz.func272, Tryz.ntmps272
    go_wp2_with fail
    refine (bits_any HX.out).mono ?_
    rintro e w1 ⟨rfl, kd, rfl⟩
    replace HX := Lib.hid (HX.out.below (below_drewN w kd))
    have HB := Lib.hid (below_drewN w kd)
    generalize w.drewN kd = w1 at HX HB ⊢
    have hsmall : ((bits (val xs) : Nat) : Int) ≤ 64 * (xs.length : Int) := by have := hle.out; omega
    have hh3 := HH.out
    go_wp2_with fail
    have e2h : 2 * (h : Int) = ((2 * h : Nat) : Int) := by omega
    rw [e2h]
    clear hh3 hsmall
    refine (right_any HX.out (by omega)).mono ?_
    rintro e w2 ⟨hb, v2, hs, rfl, hh, th, hvh⟩
    replace HX := Lib.hid (HX.out.below hb); replace HB := Lib.hid (HB.out.trans (hb.mono HB.out.size))
    have HHv := Lib.hid hvh; have HHn := Lib.hid hh; have HHt := Lib.hid th
    have hlt : val hs < val xs := by
      rw [hvh]
      refine Nat.div_lt_self HV0.out ?_
      exact Nat.lt_of_lt_of_le (by omega) (Nat.pow_le_pow_right (n := 2) (by omega) (show 1 ≤ 2 * h by omega))
    have HLT := Lib.hid hlt
    have hhl : hs.length ≤ xs.length := tr_len_le hs th _ (Nat.lt_trans hlt (val_lt xs OX.out))
    clear hb hh th hvh hlt e2h
    go_wp2_with fail
    refine (IH.out _ _ hs _ HHn.out HHt.out (by omega) (by have := HN.out; have := HLT.out; omega)).mono ?_
    rintro e w3 ⟨hb, v3, ss, rfl, hss, ts, hvs⟩
    replace HX := Lib.hid (HX.out.below hb); replace HB := Lib.hid (HB.out.trans (hb.mono HB.out.size))
    have HSv := Lib.hid hvs; have HSn := Lib.hid hss; have HSt := Lib.hid ts
    have hsl : ss.length ≤ xs.length := tr_len_le ss ts _ (by
      rw [hvs]
      have := isqrt_le (val hs); have := HLT.out; have := val_lt xs OX.out; omega)
    clear hb hss ts hvs
    go_wp2_with fail
    have hbn : Below w3.heap.size w3 (w3.alloc (Obj.cells #[Value.int .u64 1] 196)) := (Below.refl _ _).alloc (Nat.le_refl _) _
    have hone : NatP AnyB (w3.alloc (Obj.cells #[Value.int .u64 1] 196)) (.slice (some ⟨w3.heap.size, 0, none⟩) 1 1) [1] := NatP.one (x := 1) (by unfold B64; omega) (heap_alloc_new w3 _) trivial
    refine (add_any (HSn.out.below hbn) hone (by omega) (by simp)).mono ?_
    rintro e w4 ⟨hb, v4, s1, rfl, hs1, ts1, hvs1⟩
    replace HX := Lib.hid (HX.out.below (hbn.trans (hb.mono hbn.size))); replace HB := Lib.hid (HB.out.trans ((hbn.trans (hb.mono hbn.size)).mono HB.out.size))
    have HS1v := Lib.hid hvs1; have HS1n := Lib.hid hs1; have HS1t := Lib.hid ts1
    have hs1l : s1.length ≤ xs.length + 1 := tr_len_le s1 ts1 _ (by
      rw [hvs1, val_one, HSv.out, Nat.pow_succ]
      have h1 := isqrt_le (val hs); have h2 := HLT.out; have h3 := val_lt xs OX.out
      have h4 : B64 ^ xs.length * 1 ≤ B64 ^ xs.length * B64 := Nat.mul_le_mul_left _ (by unfold B64; omega)
      omega)
    clear hb hs1 ts1 hvs1 hbn hone
    go_wp2_with fail
    refine (left_any HS1n.out (by omega)).mono ?_
    rintro e w5 ⟨hb, v5, r0, rfl, hr0, tr0, hvr0⟩
    have hsz := HB.out.size
    replace HX := Lib.hid (HX.out.below hb); replace HB := Lib.hid (HB.out.trans (hb.mono HB.out.size))
    have HRn := Lib.hid (hr0.weak (q := fun b => w.heap.size ≤ b) fun b h _ => Nat.le_trans hsz h); have HRt := Lib.hid tr0
    have hr0v : val r0 = (isqrt (val xs / 2 ^ (2 * h)) + 1) * 2 ^ h := by rw [hvr0, HS1v.out, val_one, HSv.out, HHv.out]
    have HG := Lib.hid (root_begin (val xs) h); rw [← hr0v] at HG
    have hr0l : r0.length ≤ xs.length + 1 := tr_len_le r0 tr0 _ (by
      rw [hr0v]; exact root_begin_lt _ _ _ (val_lt xs OX.out) HV0.out HH1.out.1 HH1.out.2)
    clear hb hr0 tr0 hvr0 hr0v hsz hs1l hsl hhl HS1n HS1t HS1v HSn HSt HSv HHn HHt HHv HLT
    go_wp2_with fail
    go_loopw [4] (fun v wr => ∃ rs : List Nat, rs.length ≤ xs.length + 1 ∧ Hid (NatP (fun b => w.heap.size ≤ b) wr v rs) ∧ Hid (Tr rs) ∧ Hid (Below w.heap.size w wr) ∧ Hid (NatP p wr (.slice A xs.length c) xs) ∧
      Hid (isqrt (val xs) ≤ val rs ∧ 0 < val rs)) (fun v wr => readN wr v)
    case atStart => exact ⟨r0, hr0l, HRn, HRt, HB, HX, HG⟩
    case round =>
      clear HRn HRt HB HX HG hr0l
      obtain ⟨rs, hrl, HR, HT, HB, HX, HG⟩ := hrel
      have HRv := Lib.hid (readN_eq HR.out)
      go_wp2_with fail
      refine (divmod_pos HX.out HR.out (by have := HG.out.2; omega) (by omega)).mono ?_
      rintro e w6 ⟨hb, v1, v2, qs, ms, rfl, hq, tq, hvq, -, -, -⟩
      have HX0 := HX; have HB0 := HB; have HR0 := HR
      replace HX := Lib.hid (HX.out.below hb); replace HB := Lib.hid (HB.out.trans (hb.mono HB.out.size)); replace HR := Lib.hid (HR.out.below hb)
      have HQ := Lib.hid hq; have HQt := Lib.hid tq; have HQv := Lib.hid hvq
      clear hb hq tq hvq HX0 HB0 HR0
      go_wp2_with fail
      refine (cmp_any HQ.out HR.out).mono ?_
      rintro e w7 ⟨rfl, kd, rfl⟩
      replace HX := Lib.hid (HX.out.below (below_drewN w6 kd)); replace HR := Lib.hid (HR.out.below (below_drewN w6 kd)); replace HQ := Lib.hid (HQ.out.below (below_drewN w6 kd))
      replace HB := Lib.hid (HB.out.trans ((below_drewN w6 kd).mono HB.out.size))
      generalize w6.drewN kd = w7 at HX HB HR HQ ⊢
      rcases Nat.lt_or_ge (val qs) (val rs) with hlt | hge
      · have hci : cmpN (val qs) (val rs) = -1 := by unfold cmpN; rw [if_pos hlt]
        have HLT := Lib.hid hlt; clear hlt
        rw [hci]; clear hci
        have hql : qs.length ≤ xs.length + 1 := Nat.le_trans (tr_len_mono _ _ HQt.out HR.out.ok (Nat.le_of_lt HLT.out)) hrl
        go_wp2_with fail
        refine (add_any HR.out HQ.out (by omega) (by omega)).mono ?_
        rintro e w8 ⟨hb, v3, ts, rfl, ht, tt, hvt⟩
        replace HX := Lib.hid (HX.out.below hb); replace HB := Lib.hid (HB.out.trans (hb.mono HB.out.size))
        have HTn := Lib.hid ht; have HTv := Lib.hid hvt
        clear hb ht tt hvt
        go_wp2_with fail
        refine (right_any (n := 1) HTn.out (by omega)).mono ?_
        rintro e w9 ⟨hb, v4, ns, rfl, hn, tn, hvn⟩
        have hsz := HB.out.size
        replace HX := Lib.hid (HX.out.below hb); replace HB := Lib.hid (HB.out.trans (hb.mono HB.out.size))
        have HN1 := Lib.hid (hn.weak (q := fun b => w.heap.size ≤ b) fun b h _ => Nat.le_trans hsz h); have HNt := Lib.hid tn
        have hns : val ns = (val rs + val qs) / 2 := by rw [hvn, HTv.out, Nat.pow_one]
        have HNs := Lib.hid hns
        clear hb hn tn hvn hsz hns
        go_wp2
        go_roundw
        case rel =>
          have hlt := HLT.out
          have hns := HNs.out
          refine ⟨ns, Nat.le_trans (tr_len_mono _ _ HNt.out HR.out.ok (by omega)) hrl, HN1, HNt, HB, HX, Lib.hid ?_⟩
          have h1 := newton_ge (val xs) (val rs) _ HG.out.2 (isqrt_spec (val xs)).1
          rw [← HQv.out] at h1
          refine ⟨by omega, ?_⟩
          have h2 := isqrt_pos HV0.out
          omega
        case measure =>
          rw [HRv.out, readN_eq HN1.out, HNs.out]
          have hlt := HLT.out
          omega
      · have hci : ∃ m : Nat, cmpN (val qs) (val rs) = (m : Int) := by
          unfold cmpN; rw [if_neg (by omega)]
          split
          · exact ⟨1, rfl⟩
          · exact ⟨0, rfl⟩
        obtain ⟨m, hm⟩ := hci
        rw [hm]; clear hm
        have hfin : val rs = isqrt (val xs) := by
          have h1 := newton_end (val xs) (val rs) HG.out.2 (by rw [← HQv.out]; exact hge)
          exact Nat.le_antisymm (isRoot_le2 h1 (isqrt_spec (val xs))) HG.out.1
        have HF := Lib.hid (RetN.of HB.out HR.out HT.out hfin)
        clear hfin hge
        have hm0 : ((m : Int) ≥ 0) := by omega
        go_wp2
        go_ret
        exact HF.out
end Go.Proofs.YtgodkfgnhpnhcaaGreatDoor
