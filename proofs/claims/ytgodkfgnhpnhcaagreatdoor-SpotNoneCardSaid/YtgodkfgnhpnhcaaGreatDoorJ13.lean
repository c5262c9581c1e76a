/- A part of the proof: contracts of functions and plain laws (NearA, Map, DagA, DagB, WalkA). -/
import Derived.Test.YtgodkfgnhpnhcaaGreatDoorJ12
import Derived.Test.YtgodkfgnhpnhcaaGreatDoorJ01
import Derived.Maps.OwnSet
set_option linter.unusedVariables false
set_option linter.unusedSimpArgs false
namespace Go.Proofs.YtgodkfgnhpnhcaaGreatDoor
open Go.RowKit
/-- the dyadic number of a value, in units of 2^-1074 -/
def dv (V : Int) : Dy := mkDy V (-1074)
theorem dv_idem (V : Int) : mkDy (dv V).man (dv V).exp = dv V := mkDy_idem _ _
theorem dv_add (X Y : Int) : addD (dv X) (dv Y) = dv (X + Y) := addD_mk _ _ _
theorem dv_not (X : Int) : notD (dv X) = dv (-X) := notD_mk _ _
theorem mulV {n : Nat} {X Y Z : Int} (h : Z * (pow2 n : Int) = X * Y) : mulD (mkDy X (-(n : Int))) (mkDy Y (-(n : Int))) = mkDy Z (-(n : Int)) := by
  rw [mulD_mk]
  refine mkDy_eq (j := 0) (k := n) ?_ (by omega)
  rw [show ((2 ^ n : Nat) : Int) = (pow2 n : Int) from rfl, h]; simp
theorem dv_mul {X Y Z : Int} (h : Z * (U74 : Int) = X * Y) : mulD (dv X) (dv Y) = dv Z := mulV (n := 1074) h
theorem dv_sign (X : Int) : (dv X).man.sign = X.sign := sign_mk _ _
/-- few bits, near to 1 -/
def SmV (V : Int) : Prop := bits (dv V).man.natAbs ≤ 32 ∧ -2000000 ≤ (dv V).exp ∧ (dv V).exp ≤ 2000000
theorem SmV.smD {V : Int} (h : SmV V) : SmD (dv V) := ⟨by have := h.1; omega, by have := h.2; omega⟩
theorem notD_spec (V : Int) : (dv (-V)).man = -(dv V).man ∧ (dv (-V)).exp = (dv V).exp := by
  by_cases h : V = 0
  · subst h; exact ⟨by decide, by decide⟩
  · obtain ⟨j, j1, j2, j3, -⟩ := mkDy_spec V (-1074) h
    obtain ⟨k, k1, k2, k3, -⟩ := mkDy_spec (-V) (-1074) (by omega)
    have h3 : (-(mkDy (-V) (-1074)).man) * (2 ^ k : Nat) = (mkDy V (-1074)).man * (2 ^ j : Nat) := by rw [Int.neg_mul, ← k1, ← j1]; omega
    obtain ⟨e1, e2⟩ := odd_pow_unique (a := -(mkDy (-V) (-1074)).man) (by omega) j3 h3
    exact ⟨by unfold dv; omega, by unfold dv; rw [j2, k2, e2]⟩
theorem notD_abs (V : Int) : (notD (dv V)).man.natAbs = (dv V).man.natAbs := by rw [dv_not, (notD_spec V).1]; omega
theorem notD_exp (V : Int) : (notD (dv V)).exp = (dv V).exp := by rw [dv_not, (notD_spec V).2]
/-- six cells -/
def Six (v : Value) : Prop := ∃ a b c d e f, v = .agg #[a, b, c, d, e, f]
theorem BalP.six {p : Nat → Prop} {w : World} {v : Value} {d : Dy} (h : BalP p w v d) : Six v := by
  obtain ⟨b, A, n, c, b', A', n', c', e, -, -⟩ := h; exact ⟨_, _, _, _, _, _, e⟩
def RetLB (B : Nat) (w0 : World) (d : Dy) (e : Ending) (w' : World) : Prop := Below B w0 w' ∧ ∃ v, e = .returned (.tuple #[v, .bool true]) ∧ BalP (fun b => B ≤ b) w' v d
theorem retlb_of {B : Nat} {w0 w' : World} {d : Dy} {v : Value} (h : RetL B w0 d (.returned v) w') : RetLB B w0 d (.returned (.tuple #[v, .bool true])) w' := by
  obtain ⟨h1, v', e, h2⟩ := h
  injection e with e; subst e
  exact ⟨h1, v, rfl, h2⟩
set_option maxHeartbeats 6400000 in
set_option maxRecDepth 100000 in
theorem ncombine_any {p q : Nat → Prop} {n : Nd} {va vb : Value} {X Y Z : Int} {P : Int} {w : World} (hn : n.kind = 0 → n.val < 18446744073709551616 ∧ fin n.val) (s1 : Six va) (s2 : Six vb) (hx : n.kind ≠ 0 → BalP p w va (dv X) ∧ SmV X) (hy : n.kind ≠ 0 → BalP q w vb (dv Y) ∧ SmV Y)
    (hp : ∀ b, p b → b < w.heap.size) (hq : ∀ b, q b → b < w.heap.size) (hT : Tab w) (hZ : nodeVal n X Y Z) (hs : SmV Z) (hP : 32 ≤ P ∧ P ≤ 65536) :
    Calls Tryz.prog 174 #[nodeV n, va, vb, .int .i64 P] w (RetLB w.heap.size w (dv Z)) := by
  obtain ⟨kind, val, na, nb⟩ := n
  simp only [nodeVal] at hZ hn hx hy
  unfold nodeV
  obtain ⟨a0, a1, a2, a3, a4, a5, rfl⟩ := s1
  obtain ⟨z0, z1, z2, z3, z4, z5, rfl⟩ := s2
  obtain ⟨w4, hw4, hb4, hs4, b1, b2, b3, b4⟩ := pro4 w (.cells #[.int .i64 kind, .float .f64 val, .int .i64 na, .int .i64 nb] 122) (.cells #[a0, a1, a2, a3, a4, a5] 174) (.cells #[z0, z1, z2, z3, z4, z5] 174) (.cells #[Value.bool false, Value.slice none 0 0, .int .i64 0, Value.bool false, Value.slice none 0 0, .int .i64 0] 174)
  have HB := Lib.hid hb4; have B2 := Lib.hid b2; have B3 := Lib.hid b3; have B4 := Lib.hid b4; have HS := Lib.hid hs4; have HT := Lib.hid (hT.below hb4); have HTAB0 := Lib.hid hT
  obtain ⟨k0, k1, k2, k3⟩ := cells4 b1
  have hpw : ∀ b, p b → b < w4.heap.size := fun b h => by have := hp b h; omega
  have hqw : ∀ b, q b → b < w4.heap.size := fun b h => by have := hq b h; omega
  have FIN : Hid (∀ (w5 : World), Below w4.heap.size w4 w5 → ∀ (v : Value), BalP (fun b => w4.heap.size ≤ b) w5 v (dv Z) → ∃ u0 u1 u2 u3 u4 u5, v = .agg #[u0, u1, u2, u3, u4, u5] ∧ (∃ b1 A1 n1 c1 b2 A2 n2 c2, u0 = .bool b1 ∧ u1 = .slice A1 n1 c1 ∧ u2 = .int .i64 (dv Z).exp ∧ u3 = .bool b2 ∧ u4 = .slice A2 n2 c2 ∧ u5 = .int .i64 (dv Z).exp) ∧
      RetLB w.heap.size w (dv Z) (.returned (.tuple #[.agg #[u0, u1, u2, u3, u4, u5], .bool true])) (put6 w5 (w.heap.size + 3) u0 u1 u2 u3 u4 u5) ∧ (put6 w5 (w.heap.size + 3) u0 u1 u2 u3 u4 u5).heap[w.heap.size + 3]? = some (.cells #[u0, u1, u2, u3, u4, u5] 174 (0, 0))) := Lib.hid (by
    intro w5 h5 v hv
    obtain ⟨b, A, n, c, b', A', n', c', rfl, g1, g2⟩ := hv
    obtain ⟨r1, r2⟩ := retl_store (HB.out.trans (h5.mono HB.out.size)) (g := w.heap.size + 3) (by omega) (heap_below B4.out h5 (heap_lt B4.out)) g1 g2 (fun b hb => by have := HS.out; omega)
    exact ⟨_, _, _, _, _, _, rfl, ⟨_, _, _, _, _, _, _, _, rfl, rfl, rfl, rfl, rfl, rfl⟩, retlb_of r1.out, r2⟩)
  have hP1 : 1 ≤ P ∧ P ≤ 65536 := by omega
  have hbt : (bits (dv Z).man.natAbs : Int) ≤ P := by have := hs.1; omega
  have hsD := hs.smD
  rcases hZ with ⟨rfl, hZ⟩ | ⟨rfl, hZ⟩ | ⟨rfl, hZ⟩ | ⟨rfl, hZ⟩
  · have HD := Lib.hid (floDyad_any (hn rfl).1 (hn rfl).2 HT.out)
    rw [← hZ] at HD
    replace HD : Hid (Calls Tryz.prog 210 #[.float .f64 val] w4 (RetDB w4.heap.size w4 (dv Z) true)) := HD
    have HAT : Hid (∀ (w' : World) (v : Value), Below w4.heap.size w4 w' → DyP AnyB w' v (dv Z) → Calls Tryz.prog 211 #[v] w' (RetL w'.heap.size w' (dv Z))) := Lib.hid fun w' v h hv => ballAt_any hv (HT.out.below h) hsD (dv_idem Z)
    clear hn hx hy hp hq hpw hqw hs hP hP1 hbt hsD hb4 b1 b2 b3 b4 hs4 hT hZ
    go_enter Tryz.func174, Tryz.ntmps174
    go_wp2_with fail
    refine HD.out.mono ?_
    rintro e w5 ⟨hb5, v5, rfl, hz⟩
    obtain ⟨b5, A5, n5, c5, rfl, hz⟩ := hz
    obtain ⟨w6, hw6, hb6, hs6, q1⟩ := pro1 w5 (.cells #[Value.bool false, Value.slice none 0 0, .int .i64 0] 172)
    obtain ⟨e0, e1, e2, e3, e4, e5⟩ := cells3 q1
    have S1 := set3 q1 (.bool b5) (.slice A5 n5 c5) (.int .i64 (dv Z).exp)
    have g1 := hb6.setCell (p := ⟨w5.heap.size, 0, none⟩) (Nat.le_refl _) (.bool b5)
    have g2 := g1.setCell (p := ⟨w5.heap.size, 1, none⟩) (Nat.le_refl _) (.slice A5 n5 c5)
    have g3 := g2.setCell (p := ⟨w5.heap.size, 2, none⟩) (Nat.le_refl _) (.int .i64 (dv Z).exp)
    have F := And.intro S1 g3
    clear S1 g1 g2 g3 hb6 hs6 q1
    generalize hW : ((w6.setCell ⟨w5.heap.size, 0, none⟩ (.bool b5)).setCell ⟨w5.heap.size, 1, none⟩ (.slice A5 n5 c5)).setCell ⟨w5.heap.size, 2, none⟩ (.int .i64 (dv Z).exp) = w7 at F
    obtain ⟨S1, g3⟩ := F
    obtain ⟨x0, x1, x2, -, -, -⟩ := cells3 S1
    have HBL := Lib.hid (HAT.out w7 _ (below_up hb5 g3) ⟨b5, A5, n5, c5, rfl, ((hz.any).below g3)⟩)
    have HB7 := Lib.hid (below_up hb5 g3)
    clear S1 g3 hb5 hz k0 k1 k2 k3 hw4
    go_wp2_with fail
    refine HBL.out.mono ?_
    rintro e w8 ⟨hb8, v8, rfl, hz⟩
    have hb48 := below_up HB7.out hb8
    have B48 := heap_below B4.out hb48 (heap_lt B4.out)
    obtain ⟨r0, r1, r2, r3, r4, r5⟩ := cells6 B48
    obtain ⟨t0, t1, t2, t3, t4, t5⟩ := free6 B48
    obtain ⟨u0, u1, u2, u3, u4, u5, rfl, ⟨_, _, _, _, _, _, _, _, rfl, rfl, rfl, rfl, rfl, rfl⟩, hR, hF⟩ := FIN.out w8 hb48 _ (hz.weak fun b h _ => Nat.le_trans HB7.out.size h)
    have HR := Lib.hid hR; have hFF := Lib.hid hF
    clear hb8 hz hb48 B48 hR hF
    go_wp2
    obtain ⟨f0, f1, f2, f3, f4, f5⟩ := cells6 hFF.out
    unfold put6 at f0 f1 f2 f3 f4 f5
    refine bodyPost_ret (v := .tuple #[.agg #[_, _, _, _, _, _], _]) (by simp [results, Tryz.results174, go_sem, f0, f1, f2, f3, f4, f5]; first | exact ⟨⟨rfl, rfl, rfl, rfl, rfl, rfl⟩, rfl⟩ | rfl) rfl ?_
    exact HR.out
  · have HA : Hid (Calls Tryz.prog 213 #[.agg #[a0, a1, a2, a3, a4, a5], .agg #[z0, z1, z2, z3, z4, z5], .int .i64 P] w4 (RetL w4.heap.size w4 (dv Z))) := Lib.hid (by
      have hX := hx (by decide); have hY := hy (by decide)
      have he : addD (dv X) (dv Y) = dv Z := by rw [dv_add, hZ]
      have := ballAdd_any (w := w4) (hX.1.below hb4) (hY.1.below hb4) hpw hqw HT.out hX.2.smD hY.2.smD (by rw [he]; exact hsD) hP1 (by rw [he]; exact hbt)
      rwa [he] at this)
    obtain ⟨c0, c1, c2, c3, c4, c5⟩ := cells6 b2
    obtain ⟨d0, d1, d2, d3, d4, d5⟩ := cells6 b3
    clear hn hx hy hp hq hpw hqw hs hP hP1 hbt hsD hb4 b1 b2 b3 b4 hs4 hT hZ
    go_enter Tryz.func174, Tryz.ntmps174
    go_wp2_with fail
    refine HA.out.mono ?_
    rintro e w8 ⟨hb8, v8, rfl, hz⟩
    have hb48 := hb8
    have B48 := heap_below B4.out hb48 (heap_lt B4.out)
    clear c0 c1 c2 c3 c4 c5 d0 d1 d2 d3 d4 d5 k0 k1 k2 k3 hw4
    obtain ⟨r0, r1, r2, r3, r4, r5⟩ := cells6 B48
    obtain ⟨t0, t1, t2, t3, t4, t5⟩ := free6 B48
    obtain ⟨u0, u1, u2, u3, u4, u5, rfl, ⟨_, _, _, _, _, _, _, _, rfl, rfl, rfl, rfl, rfl, rfl⟩, hR, hF⟩ := FIN.out w8 hb48 _ hz
    have HR := Lib.hid hR; have hFF := Lib.hid hF
    clear hb8 hz hb48 B48 hR hF
    go_wp2
    obtain ⟨f0, f1, f2, f3, f4, f5⟩ := cells6 hFF.out
    unfold put6 at f0 f1 f2 f3 f4 f5
    refine bodyPost_ret (v := .tuple #[.agg #[_, _, _, _, _, _], _]) (by simp [results, Tryz.results174, go_sem, f0, f1, f2, f3, f4, f5]; first | exact ⟨⟨rfl, rfl, rfl, rfl, rfl, rfl⟩, rfl⟩ | rfl) rfl ?_
    exact HR.out
  · have hX := hx (by decide)
    have hY := hy (by decide)
    have he : addD (dv X) (notD (dv Y)) = dv Z := by rw [dv_not, dv_add, hZ]; rfl
    have HN : Hid (Calls Tryz.prog 212 #[.agg #[z0, z1, z2, z3, z4, z5]] w4 (RetL w4.heap.size w4 (notD (dv Y)))) := Lib.hid (ballNot_any (hY.1.below hb4) HT.out hY.2.smD)
    have HA : Hid (∀ (w' : World) (v : Value), Below w4.heap.size w4 w' ∨ True → BalP p w' (.agg #[a0, a1, a2, a3, a4, a5]) (dv X) → BalP (fun b => b < w'.heap.size) w' v (notD (dv Y)) → Tab w' → w4.heap.size ≤ w'.heap.size → Calls Tryz.prog 213 #[.agg #[a0, a1, a2, a3, a4, a5], v, .int .i64 P] w' (RetL w'.heap.size w' (dv Z))) := Lib.hid fun w' v _ h1 h2 h3 h4 => by
      have sn : SmD (notD (dv Y)) := by
        have h := hY.2.smD
        refine ⟨?_, ?_⟩
        · rw [dv_not]; have e2 : (dv (-Y)).man.natAbs = (dv Y).man.natAbs := by rw [← dv_not]; exact notD_abs Y
          rw [e2]; exact h.1
        · rw [notD_exp Y]; exact h.2
      have := ballAdd_any (P := P) h1 h2 (fun b hb => by have := hpw b hb; omega) (fun b hb => hb) h3 hX.2.smD sn (by rw [he]; exact hsD) hP1 (by rw [he]; exact hbt)
      rwa [he] at this
    have HXp := Lib.hid (hX.1.below hb4); have HPW := Lib.hid hp
    obtain ⟨c0, c1, c2, c3, c4, c5⟩ := cells6 b2
    obtain ⟨d0, d1, d2, d3, d4, d5⟩ := cells6 b3
    obtain ⟨dd0, dd1, dd2, dd3, dd4, dd5⟩ := free6 b3
    clear hn hx hy hX hY hp hq hpw hqw hs hP hP1 hbt hsD hb4 b1 b2 b3 b4 hs4 hT hZ he
    go_enter Tryz.func174, Tryz.ntmps174
    go_wp2_with fail
    refine HN.out.mono ?_
    rintro e w5 ⟨hb5, v5, rfl, hz⟩
    obtain ⟨b5, A5, n5, m5, b6, A6, n6, m6, rfl, hz1, hz2⟩ := hz
    have B35 := heap_below B3.out hb5 (heap_lt B3.out)
    have B25 := heap_below B2.out hb5 (heap_lt B2.out)
    have B45 := heap_below B4.out hb5 (heap_lt B4.out)
    obtain ⟨e0, e1, e2, e3, e4, e5⟩ := cells6 B35
    obtain ⟨g0, g1, g2, g3, g4, g5⟩ := free6 B35
    clear c0 c1 c2 c3 c4 c5 d0 d1 d2 d3 d4 d5 dd0 dd1 dd2 dd3 dd4 dd5 k0 k1 k2 k3 hw4
    have hS := HS.out
    have F : (put6 w5 (w.heap.size + 2) (.bool b5) (.slice A5 n5 m5) (.int .i64 (notD (dv Y)).exp) (.bool b6) (.slice A6 n6 m6) (.int .i64 (notD (dv Y)).exp)).heap[w.heap.size + 1]? = some (.cells #[a0, a1, a2, a3, a4, a5] 174 (0, 0)) ∧
        (put6 w5 (w.heap.size + 2) (.bool b5) (.slice A5 n5 m5) (.int .i64 (notD (dv Y)).exp) (.bool b6) (.slice A6 n6 m6) (.int .i64 (notD (dv Y)).exp)).heap[w.heap.size + 2]? = some (.cells #[.bool b5, .slice A5 n5 m5, .int .i64 (notD (dv Y)).exp, .bool b6, .slice A6 n6 m6, .int .i64 (notD (dv Y)).exp] 174 (0, 0)) ∧
        (put6 w5 (w.heap.size + 2) (.bool b5) (.slice A5 n5 m5) (.int .i64 (notD (dv Y)).exp) (.bool b6) (.slice A6 n6 m6) (.int .i64 (notD (dv Y)).exp)).heap[w.heap.size + 3]? = some (.cells #[Value.bool false, Value.slice none 0 0, .int .i64 0, Value.bool false, Value.slice none 0 0, .int .i64 0] 174 (0, 0)) ∧
        Below w.heap.size w (put6 w5 (w.heap.size + 2) (.bool b5) (.slice A5 n5 m5) (.int .i64 (notD (dv Y)).exp) (.bool b6) (.slice A6 n6 m6) (.int .i64 (notD (dv Y)).exp)) ∧
        BalP p (put6 w5 (w.heap.size + 2) (.bool b5) (.slice A5 n5 m5) (.int .i64 (notD (dv Y)).exp) (.bool b6) (.slice A6 n6 m6) (.int .i64 (notD (dv Y)).exp)) (.agg #[a0, a1, a2, a3, a4, a5]) (dv X) ∧
        BalP (fun b => w4.heap.size ≤ b) (put6 w5 (w.heap.size + 2) (.bool b5) (.slice A5 n5 m5) (.int .i64 (notD (dv Y)).exp) (.bool b6) (.slice A6 n6 m6) (.int .i64 (notD (dv Y)).exp)) (.agg #[.bool b5, .slice A5 n5 m5, .int .i64 (notD (dv Y)).exp, .bool b6, .slice A6 n6 m6, .int .i64 (notD (dv Y)).exp]) (notD (dv Y)) ∧
        w4.heap.size ≤ (put6 w5 (w.heap.size + 2) (.bool b5) (.slice A5 n5 m5) (.int .i64 (notD (dv Y)).exp) (.bool b6) (.slice A6 n6 m6) (.int .i64 (notD (dv Y)).exp)).heap.size := by
      refine ⟨(put6_other (by omega) _ _ _ _ _ _).trans B25, put6_heap B35 _ _ _ _ _ _, (put6_other (by omega) _ _ _ _ _ _).trans B45, put6_below (HB.out.trans (hb5.mono HB.out.size)) (by omega) _ _ _ _ _ _, ?_, ?_, ?_⟩
      · obtain ⟨j1, j2, j3, j4, j5, j6, j7, j8, je, h1, h2⟩ := HXp.out.below hb5
        exact ⟨j1, j2, j3, j4, j5, j6, j7, j8, je, put6_int h1 (fun b hb => by have := HPW.out b hb; omega) _ _ _ _ _ _, put6_int h2 (fun b hb => by have := HPW.out b hb; omega) _ _ _ _ _ _⟩
      · exact ⟨_, _, _, _, _, _, _, _, rfl, put6_int hz1 (fun b hb => by omega) _ _ _ _ _ _, put6_int hz2 (fun b hb => by omega) _ _ _ _ _ _⟩
      · have := (put6_below (g := w.heap.size + 2) (HB.out.trans (hb5.mono HB.out.size)) (by omega) (.bool b5) (.slice A5 n5 m5) (.int .i64 (notD (dv Y)).exp) (.bool b6) (.slice A6 n6 m6) (.int .i64 (notD (dv Y)).exp)).size
        have e1 : (put6 w5 (w.heap.size + 2) (.bool b5) (.slice A5 n5 m5) (.int .i64 (notD (dv Y)).exp) (.bool b6) (.slice A6 n6 m6) (.int .i64 (notD (dv Y)).exp)).heap.size = w5.heap.size := by simp [put6, World.setCell]
        rw [e1]; exact hb5.size
    have HTT := HTAB0.out
    clear B25 B35 B45 hz1 hz2 hb5
    unfold put6 at F
    generalize hW : (((((w5.setCell ⟨w.heap.size + 2, 0, none⟩ (.bool b5)).setCell ⟨w.heap.size + 2, 1, none⟩ (.slice A5 n5 m5)).setCell ⟨w.heap.size + 2, 2, none⟩ (.int .i64 (notD (dv Y)).exp)).setCell ⟨w.heap.size + 2, 3, none⟩ (.bool b6)).setCell ⟨w.heap.size + 2, 4, none⟩ (.slice A6 n6 m6)).setCell ⟨w.heap.size + 2, 5, none⟩ (.int .i64 (notD (dv Y)).exp) = w7 at F
    obtain ⟨F1, F2, F3, F4, F5, F6, F7⟩ := F
    obtain ⟨c0, c1, c2, c3, c4, c5⟩ := cells6 F1
    obtain ⟨d0, d1, d2, d3, d4, d5⟩ := cells6 F2
    have HA7 := Lib.hid (HA.out w7 _ (Or.inr trivial) F5 (F6.weak fun b _ h => h) (HTT.below F4) F7)
    have HF3 := Lib.hid F3; have HF4 := Lib.hid F4; have HF7 := Lib.hid F7
    clear F1 F2 F3 F4 F5 F6 F7 HTT
    go_wp2_with fail
    refine HA7.out.mono ?_
    rintro e w8 ⟨hb8, v8, rfl, hz⟩
    have B48 := heap_below HF3.out hb8 (heap_lt HF3.out)
    obtain ⟨b, A, n, c, b', A', n', c', rfl, y1, y2⟩ := hz
    obtain ⟨r1, r2⟩ := retl_store (HF4.out.trans (hb8.mono HF4.out.size)) (g := w.heap.size + 3) (by omega) B48 y1 y2 (fun b hb => by have := HF7.out; omega)
    obtain ⟨q0, q1, q2, q3, q4, q5⟩ := cells6 B48
    obtain ⟨t0, t1, t2, t3, t4, t5⟩ := free6 B48
    have HR := Lib.hid (retlb_of r1.out); have hFF := Lib.hid r2
    clear hb8 B48 r1 r2 y1 y2 c0 c1 c2 c3 c4 c5 d0 d1 d2 d3 d4 d5 hS
    go_wp2
    obtain ⟨f0, f1, f2, f3, f4, f5⟩ := cells6 hFF.out
    unfold put6 at f0 f1 f2 f3 f4 f5
    refine bodyPost_ret (v := .tuple #[.agg #[_, _, _, _, _, _], _]) (by simp [results, Tryz.results174, go_sem, f0, f1, f2, f3, f4, f5]; first | exact ⟨⟨rfl, rfl, rfl, rfl, rfl, rfl⟩, rfl⟩ | rfl) rfl ?_
    exact HR.out
  · have HA : Hid (Calls Tryz.prog 214 #[.agg #[a0, a1, a2, a3, a4, a5], .agg #[z0, z1, z2, z3, z4, z5], .int .i64 P] w4 (RetL w4.heap.size w4 (dv Z))) := Lib.hid (by
      have hX := hx (by decide); have hY := hy (by decide)
      have he : mulD (dv X) (dv Y) = dv Z := dv_mul hZ
      have := ballMul_any (w := w4) (hX.1.below hb4) (hY.1.below hb4) HT.out hX.2.smD hY.2.smD (by rw [he]; exact hsD) hP1 (by rw [he]; exact hbt)
      rwa [he] at this)
    obtain ⟨c0, c1, c2, c3, c4, c5⟩ := cells6 b2
    obtain ⟨d0, d1, d2, d3, d4, d5⟩ := cells6 b3
    clear hn hx hy hp hq hpw hqw hs hP hP1 hbt hsD hb4 b1 b2 b3 b4 hs4 hT hZ
    go_enter Tryz.func174, Tryz.ntmps174
    go_wp2_with fail
    refine HA.out.mono ?_
    rintro e w8 ⟨hb8, v8, rfl, hz⟩
    have hb48 := hb8
    have B48 := heap_below B4.out hb48 (heap_lt B4.out)
    clear c0 c1 c2 c3 c4 c5 d0 d1 d2 d3 d4 d5 k0 k1 k2 k3 hw4
    obtain ⟨r0, r1, r2, r3, r4, r5⟩ := cells6 B48
    obtain ⟨t0, t1, t2, t3, t4, t5⟩ := free6 B48
    obtain ⟨u0, u1, u2, u3, u4, u5, rfl, ⟨_, _, _, _, _, _, _, _, rfl, rfl, rfl, rfl, rfl, rfl⟩, hR, hF⟩ := FIN.out w8 hb48 _ hz
    have HR := Lib.hid hR; have hFF := Lib.hid hF
    clear hb8 hz hb48 B48 hR hF
    go_wp2
    obtain ⟨f0, f1, f2, f3, f4, f5⟩ := cells6 hFF.out
    unfold put6 at f0 f1 f2 f3 f4 f5
    refine bodyPost_ret (v := .tuple #[.agg #[_, _, _, _, _, _], _]) (by simp [results, Tryz.results174, go_sem, f0, f1, f2, f3, f4, f5]; first | exact ⟨⟨rfl, rfl, rfl, rfl, rfl, rfl⟩, rfl⟩ | rfl) rfl ?_
    exact HR.out
end Go.Proofs.YtgodkfgnhpnhcaaGreatDoor
/- Maps of any elements: what a block holds, as a function of the key. -/
namespace Go.Proofs.YtgodkfgnhpnhcaaGreatDoor
open Go.RowKit Go.Maps Go.ChangeMaps
/-- block b is a map with keys of type k; m tells what lies at each key -/
def MapP (P : Program) (k : TypeId) (w : World) (b : Nat) (m : Value → Option Value) : Prop :=
  ∃ es clock, w.heap[b]? = some (.map es clock) ∧ (∀ e ∈ es.toList, ∃ l, keyOf P k e.key = some l) ∧ (es.toList.map (·.key)).Nodup ∧ (∀ e ∈ es.toList, m e.key = some e.val) ∧ ∀ key, (∀ e ∈ es.toList, e.key ≠ key) → m key = none
/-- m' is m but for one key -/
def Upd (m : Value → Option Value) (key : Value) (o : Option Value) (m' : Value → Option Value) : Prop := m' key = o ∧ ∀ x, x ≠ key → m' x = m x
theorem upd_ex (m : Value → Option Value) (key : Value) (o : Option Value) : ∃ m', Upd m key o m' := by
  classical
  exact ⟨fun x => if x = key then o else m x, by simp, fun x hx => by simp [hx]⟩
section
variable {P : Program} {k e t : TypeId} {w w' : World} {b : Nat} {m : Value → Option Value}
theorem MapP.lt (h : MapP P k w b m) : b < w.heap.size := by obtain ⟨es, clock, hb, -⟩ := h; exact (Array.getElem?_eq_some_iff.1 hb).1
theorem MapP.keep (h : MapP P k w b m) (hb : w'.heap[b]? = w.heap[b]?) : MapP P k w' b m := by
  obtain ⟨es, clock, h1, h2⟩ := h; exact ⟨es, clock, hb.trans h1, h2⟩
theorem MapP.below {B : Nat} (h : MapP P k w b m) (hb : Below B w w') (hB : b < B) : MapP P k w' b m := h.keep (hb.block b hB)
theorem MapP.made {es : Array MapEntry} (h : w.heap[b]? = some (.map #[] 0)) : MapP P k w b (fun _ => none) :=
  ⟨#[], 0, h, by simp, by simp, by simp, by simp⟩
theorem MapP.look (h : MapP P k w b m) (K : Keyed P k) (ht : P.underlying t = some (.map k e)) {z : Value} (hz : (zeroValue e).run P w = .ok z w) {key : Value} {kl : Lit} (hkey : keyOf P k key = some kl) (c : Bool) :
    (Instr.lookup t (.map (some b)) key c).run P w = .ok (if c then .tuple #[(m key).getD z, .bool (m key).isSome] else (m key).getD z) w := by
  obtain ⟨es, clock, hb, hk, hn, hm, h0⟩ := h
  rcases K.find w hkey es.toList hk with ⟨h1, h2⟩ | ⟨j, e0, h1, h2, h3⟩
  · rw [h0 key h2]
    simp [Instr.lookup, run_underlying ht, MapKept.run_getObj_map hb, K.check w _ hkey, h1, hz, Result.andThen]
  · have := hm e0 (List.mem_of_getElem? h2)
    rw [h3] at this
    rw [this]
    simp [Instr.lookup, run_underlying ht, MapKept.run_getObj_map hb, K.check w _ hkey, h1, Result.andThen]
theorem nodup_at {es : List MapEntry} (hn : (es.map (·.key)).Nodup) {j i : Nat} {a c : MapEntry} (hj : es[j]? = some a) (hi : es[i]? = some c) (h : a.key = c.key) : j = i := by
  obtain ⟨j1, j2⟩ := List.getElem?_eq_some_iff.1 hj
  obtain ⟨i1, i2⟩ := List.getElem?_eq_some_iff.1 hi
  have hp := List.pairwise_iff_getElem.1 hn
  rcases Nat.lt_trichotomy j i with hji | hji | hji
  · exact (hp j i (by simpa using j1) (by simpa using i1) hji (by simp [j2, i2, h])).elim
  · exact hji
  · exact (hp i j (by simpa using i1) (by simpa using j1) hji (by simp [j2, i2, h])).elim
theorem MapP.store (h : MapP P k w b m) (K : Keyed P k) (ht : P.underlying t = some (.map k e)) {key val : Value} {kl : Lit} (hkey : keyOf P k key = some kl) {m' : Value → Option Value} (hu : Upd m key (some val) m') :
    ∃ w', (Instr.mapUpdate t (.map (some b)) key val).run P w = .ok () w' ∧ MapP P k w' b m' ∧ w.grownBy w' (some b) ∧ w'.heap.size = w.heap.size := by
  obtain ⟨es, clock, hb, hk, hn, hm, h0⟩ := h
  obtain ⟨u1, u2⟩ := hu
  have grown : ∀ o, w.grownBy (setBlock w b o) (some b) := fun o => ⟨rfl, rfl, rfl, by simp [setBlock], fun i _ hi => heap_setBlock_other hb _ (fun e => hi (by rw [e]))⟩
  rcases K.find w hkey es.toList hk with ⟨h1, h2⟩ | ⟨j, e0, h1, h2, h3⟩
  · refine ⟨setBlock w b (.map (es.push ⟨key, val, clock⟩) (clock + 1)), ?_, ⟨_, _, heap_setBlock_same hb _, ?_, ?_, ?_, ?_⟩, grown _, by simp [setBlock]⟩
    · simp [Instr.mapUpdate, run_underlying ht, MapKept.run_getObj_map hb, K.check w false hkey, h1, MapKept.run_setObj_map _ hb, Result.andThen, setBlock]
    · intro x hx
      simp only [Array.toList_push, List.mem_append, List.mem_singleton] at hx
      rcases hx with hx | rfl
      · exact hk x hx
      · exact ⟨kl, hkey⟩
    · simp only [Array.toList_push, List.map_append, List.map_cons, List.map_nil]
      refine List.nodup_append.2 ⟨hn, by simp, ?_⟩
      intro a ha c hc
      obtain ⟨x, hx, rfl⟩ := List.mem_map.1 ha
      simp only [List.mem_singleton] at hc
      subst hc
      exact h2 x hx
    · intro x hx
      simp only [Array.toList_push, List.mem_append, List.mem_singleton] at hx
      rcases hx with hx | rfl
      · rw [u2 _ (h2 x hx)]; exact hm x hx
      · exact u1
    · intro x hx
      simp only [Array.toList_push, List.mem_append, List.mem_singleton] at hx
      have hxk : x ≠ key := fun hh => hx ⟨key, val, clock⟩ (Or.inr rfl) hh.symm
      rw [u2 _ hxk]
      exact h0 x fun y hy => hx y (Or.inl hy)
  · have hj : es[j]? = some e0 := by simpa using h2
    have hlist : (es.modify j (fun e' => { e' with key := key, val := val })).toList = es.toList.set j { e0 with key := key, val := val } := by rw [Array.toList_modify, modify_eq_set _ _ _ _ h2]
    refine ⟨setBlock w b (.map (es.modify j (fun e' => { e' with key := key, val := val })) clock), ?_, ⟨_, _, heap_setBlock_same hb _, ?_, ?_, ?_, ?_⟩, grown _, by simp [setBlock]⟩
    · simp [Instr.mapUpdate, run_underlying ht, MapKept.run_getObj_map hb, K.check w false hkey, h1, hj, h3, K.stays w hkey, MapKept.run_setObj_map _ hb, Result.andThen, setBlock]
    · intro x hx
      rw [hlist] at hx
      rcases List.mem_or_eq_of_mem_set hx with hx | rfl
      · exact hk x hx
      · exact ⟨kl, hkey⟩
    · rw [hlist, List.map_set]
      have : (es.toList.map (·.key)).set j key = es.toList.map (·.key) := by
        apply List.ext_getElem?
        intro i
        rw [List.getElem?_set]
        split
        · rename_i hij
          subst hij
          split
          · rw [List.getElem?_map, h2, ← h3]; rfl
          · rename_i hlt; rw [List.getElem?_eq_none (by omega)]
        · rfl
      rw [this]; exact hn
    · intro x hx
      rw [hlist] at hx
      obtain ⟨i, hi⟩ := List.mem_iff_getElem?.1 hx
      rw [List.getElem?_set] at hi
      split at hi
      · split at hi
        · cases hi; exact u1
        · cases hi
      · rename_i hij
        rw [u2]
        · exact hm x (List.mem_of_getElem? hi)
        · intro hh
          exact hij (nodup_at hn h2 hi (by rw [h3, hh]))
    · intro x hx
      rw [hlist] at hx
      have hxk : x ≠ key := fun hh => hx { e0 with key := key, val := val } (List.mem_iff_getElem?.2 ⟨j, List.getElem?_set_self (List.getElem?_eq_some_iff.1 h2).1⟩) hh.symm
      rw [u2 _ hxk]
      refine h0 x fun y hy => ?_
      obtain ⟨i, hi⟩ := List.mem_iff_getElem?.1 hy
      by_cases hij : j = i
      · subst hij; rw [h2] at hi; cases hi; rw [h3]; exact fun hh => hxk hh.symm
      · exact hx y (List.mem_iff_getElem?.2 ⟨i, by rw [List.getElem?_set, if_neg hij]; exact hi⟩)
theorem MapP.drop (h : MapP P k w b m) (K : Keyed P k) (ht : P.underlying t = some (.map k e)) {key : Value} {kl : Lit} (hkey : keyOf P k key = some kl) (ty : TypeId) {m' : Value → Option Value} (hu : Upd m key none m') :
    ∃ w', (Builtin.delete_ #[t, k] ty #[.map (some b), key]).run P w = .ok (.tuple #[]) w' ∧ MapP P k w' b m' ∧ w.grownBy w' (some b) ∧ w'.heap.size = w.heap.size := by
  obtain ⟨es, clock, hb, hk, hn, hm, h0⟩ := h
  obtain ⟨u1, u2⟩ := hu
  have grown : ∀ o, w.grownBy (setBlock w b o) (some b) := fun o => ⟨rfl, rfl, rfl, by simp [setBlock], fun i _ hi => heap_setBlock_other hb _ (fun e => hi (by rw [e]))⟩
  rcases K.find w hkey es.toList hk with ⟨h1, h2⟩ | ⟨j, e0, h1, h2, h3⟩
  · refine ⟨setBlock w b (.map es clock), ?_, ⟨_, _, heap_setBlock_same hb _, hk, hn, ?_, ?_⟩, grown _, by simp [setBlock]⟩
    · simp [Builtin.delete_, run_underlying ht, MapKept.run_getObj_map hb, K.check w _ hkey, h1, MapKept.run_setObj_map _ hb, Result.andThen, setBlock]
    · intro x hx; rw [u2 _ (h2 x hx)]; exact hm x hx
    · intro x hx
      by_cases hxk : x = key
      · rw [hxk]; exact u1
      · rw [u2 _ hxk]; exact h0 x hx
  · have hjl : j < es.toList.length := (List.getElem?_eq_some_iff.1 h2).1
    have hjs : j < es.size := by simpa using hjl
    have hsub : (es.eraseIdxIfInBounds j).toList = es.toList.eraseIdx j := by
      unfold Array.eraseIdxIfInBounds
      rw [dif_pos hjs]
      simp
    refine ⟨setBlock w b (.map (es.eraseIdxIfInBounds j) clock), ?_, ⟨_, _, heap_setBlock_same hb _, ?_, ?_, ?_, ?_⟩, grown _, by simp [setBlock]⟩
    · simp [Builtin.delete_, run_underlying ht, MapKept.run_getObj_map hb, K.check w _ hkey, h1, MapKept.run_setObj_map _ hb, Result.andThen, setBlock]
    · intro x hx
      rw [hsub] at hx
      exact hk x ((List.eraseIdx_sublist _ _).subset hx)
    · rw [hsub]
      exact hn.sublist ((List.eraseIdx_sublist _ _).map _)
    · intro x hx
      rw [hsub] at hx
      obtain ⟨i, hne, hi⟩ := List.mem_eraseIdx_iff_getElem?.1 hx
      rw [u2]
      · exact hm x (List.mem_of_getElem? hi)
      · intro hh
        exact hne (nodup_at hn hi h2 (by rw [h3, hh]))
    · intro x hx
      rw [hsub] at hx
      by_cases hxk : x = key
      · rw [hxk]; exact u1
      · rw [u2 _ hxk]
        refine h0 x fun y hy => ?_
        obtain ⟨i, hi⟩ := List.mem_iff_getElem?.1 hy
        by_cases hij : i = j
        · subst hij; rw [h2] at hi; cases hi; rw [h3]; exact fun hh => hxk hh.symm
        · exact hx y (List.mem_eraseIdx_iff_getElem?.2 ⟨i, hij, hi⟩)
end
section
variable {P : Program} (w : World) {ops : Array Oper} {rest : List Oper} {o : Oper} {a : Act} {Q : Exit → Act → World → Prop}
/-- m[key], with or without ok -/
theorem wpList_look (hg : o.guard = none) (mo x : Operand) (t : TypeId) (c : Bool) (hop : o.op = Op.lookup t mo x c)
    (k e : TypeId) (K : Keyed P k) (ht : P.underlying t = some (.map k e)) {z : Value} (hz : (zeroValue e).run P w = .ok z w) (b : Nat) (m : Value → Option Value)
    (hm : a.eval mo = .map (some b)) (hown : MapP P k w b m) (key : Value) (kl : Lit) (hx : a.eval x = key) (hkey : keyOf P k key = some kl)
    (hK : wpList P ops Q rest (a.put o.dst (if c then .tuple #[(m key).getD z, .bool (m key).isSome] else (m key).getD z)) w) :
    wpList P ops Q (o :: rest) a w := by
  refine wpList_plain hg fun K' hK' => ?_
  have hrun := hown.look K ht hz hkey c
  generalize (if c then Value.tuple #[(m key).getD z, .bool (m key).isSome] else (m key).getD z) = R at hrun hK
  unfold Oper.wp
  simp [execOp, hop, hm, hx, hrun, Result.andThen]
  exact hK' _ _ hK
/-- m[key], what lies there being known -/
theorem wpList_look1 (hg : o.guard = none) (mo x : Operand) (t : TypeId) (hop : o.op = Op.lookup t mo x false)
    (k e : TypeId) (K : Keyed P k) (ht : P.underlying t = some (.map k e)) {z : Value} (hz : (zeroValue e).run P w = .ok z w) (b : Nat) (m : Value → Option Value)
    (hm : a.eval mo = .map (some b)) (hown : MapP P k w b m) (key : Value) (kl : Lit) (hx : a.eval x = key) (hkey : keyOf P k key = some kl) (v : Value) (hv : (m key).getD z = v)
    (hK : wpList P ops Q rest (a.put o.dst v) w) :
    wpList P ops Q (o :: rest) a w :=
  wpList_look w hg mo x t false hop k e K ht hz b m hm hown key kl hx hkey (by rw [hv]; exact hK)
/-- v, ok := m[key], what lies there being known -/
theorem wpList_look2 (hg : o.guard = none) (mo x : Operand) (t : TypeId) (hop : o.op = Op.lookup t mo x true)
    (k e : TypeId) (K : Keyed P k) (ht : P.underlying t = some (.map k e)) {z : Value} (hz : (zeroValue e).run P w = .ok z w) (b : Nat) (m : Value → Option Value)
    (hm : a.eval mo = .map (some b)) (hown : MapP P k w b m) (key : Value) (kl : Lit) (hx : a.eval x = key) (hkey : keyOf P k key = some kl) (v : Value) (hv : (m key).getD z = v) (c : Bool) (hc : (m key).isSome = c)
    (hK : wpList P ops Q rest (a.put o.dst (.tuple #[v, .bool c])) w) :
    wpList P ops Q (o :: rest) a w :=
  wpList_look w hg mo x t true hop k e K ht hz b m hm hown key kl hx hkey (by rw [hv, hc]; exact hK)
/-- m[key] = val -/
theorem wpList_put (hg : o.guard = none) (mo x v : Operand) (t : TypeId) (hop : o.op = Op.mapUpdate t mo x v)
    (k e : TypeId) (K : Keyed P k) (ht : P.underlying t = some (.map k e)) (b : Nat) (m m' : Value → Option Value)
    (hm : a.eval mo = .map (some b)) (hown : MapP P k w b m) (key val : Value) (kl : Lit) (hx : a.eval x = key) (hv : a.eval v = val) (hkey : keyOf P k key = some kl) (hu : Upd m key (some val) m')
    (hK : ∀ w', Hid (MapP P k w' b m') → w.grownBy w' (some b) → w'.heap.size = w.heap.size → wpList P ops Q rest (a.put o.dst undef) w') :
    wpList P ops Q (o :: rest) a w := by
  refine wpList_plain hg fun K' hK' => ?_
  obtain ⟨w', hrun, r1, r2, r3⟩ := hown.store K ht hkey hu
  unfold Oper.wp
  simp [execOp, hop, hm, hx, hv, hrun, Result.andThen]
  exact hK' _ _ (hK w' (Lib.hid r1) r2 r3)
/-- delete(m, key) -/
theorem wpList_drop (hg : o.guard = none) (mo x : Operand) (t k : TypeId) (hop : o.op = Op.call { callee := Callee.builtin Builtin.delete, args := #[mo, x], argTypes := #[t, k] })
    (e : TypeId) (K : Keyed P k) (ht : P.underlying t = some (.map k e)) (b : Nat) (m m' : Value → Option Value)
    (hm : a.eval mo = .map (some b)) (hown : MapP P k w b m) (key : Value) (kl : Lit) (hx : a.eval x = key) (hkey : keyOf P k key = some kl) (hu : Upd m key none m')
    (hK : ∀ w', Hid (MapP P k w' b m') → w.grownBy w' (some b) → w'.heap.size = w.heap.size → wpList P ops Q rest (a.put o.dst (.tuple #[])) w') :
    wpList P ops Q (o :: rest) a w := by
  refine wpList_plain hg fun K' hK' => ?_
  obtain ⟨w', hrun, r1, r2, r3⟩ := hown.drop K ht hkey o.type hu
  unfold Oper.wp
  simp [execOp, hop, resolve, invoke, builtin, hm, hx, hrun, Result.andThen]
  exact hK' _ _ (hK w' (Lib.hid r1) r2 r3)
end
end Go.Proofs.YtgodkfgnhpnhcaaGreatDoor
namespace Go.Proofs.YtgodkfgnhpnhcaaGreatDoor
open Go.RowKit Go.Maps
def ndCells (n : Nd) : List Value := [.int .i64 n.kind, .float .f64 n.val, .int .i64 n.a, .int .i64 n.b]
def nodeCells (ns : List Nd) : List Value := ns.flatMap ndCells
def keyV (n : Nd) : Value := .agg #[.int .i64 n.kind, .int .i64 n.a, .int .i64 n.b, .int .u64 (n.val : Int)]
theorem nodeCells_len (ns : List Nd) : (nodeCells ns).length = ns.length * 4 := by
  induction ns with
  | nil => rfl
  | cons n ns ih => simp [nodeCells, ndCells] at ih ⊢; omega
theorem nodeCells_at {ns : List Nd} {i : Nat} {n : Nd} (h : ns[i]? = some n) (j : Nat) (hj : j < 4) : (nodeCells ns)[i * 4 + j]? = (ndCells n)[j]? := by
  induction ns generalizing i with
  | nil => simp at h
  | cons m ns ih =>
    have e : nodeCells (m :: ns) = ndCells m ++ nodeCells ns := by simp [nodeCells]
    rw [e]
    cases i with
    | zero =>
      simp at h; subst h
      rw [List.getElem?_append_left (by simp [ndCells]; omega)]; simp
    | succ i =>
      rw [List.getElem?_append_right (by simp [ndCells]; omega)]
      have : (i + 1) * 4 + j - (ndCells m).length = i * 4 + j := by simp [ndCells]; omega
      rw [this]
      exact ih (by simpa using h)
/-- the dag in block g has the nodes ns -/
def DagP (w : World) (g : Nat) (ns : List Nd) : Prop :=
  ∃ v mb m, w.heap[g]? = some (.cells #[v, .map (some mb)] 110 (0, 0)) ∧ w.ownsRow 0 122 4 v ns.length (nodeCells ns) ∧ MapP Tryz.prog 198 w mb m ∧
    (∀ key val, m key = some val → ∃ (i : Nat) (n : Nd), ns[i]? = some n ∧ val = .int .i64 (i : Int) ∧ keyV n = key) ∧ v.ownBlock ≠ some g ∧ mb ≠ g ∧ v.ownBlock ≠ some mb ∧ ns.length ≤ 20000 ∧ ∀ n ∈ ns, n.val < 18446744073709551616
theorem ownBlock_lt {w : World} {base : Nat} {e : TypeId} {size : Nat} {v : Value} {n : Nat} {xs : List Value} (h : w.ownsRow base e size v n xs) : ∀ k, v.ownBlock = some k → k < w.heap.size := fun k hk => (h.lt k hk).2
theorem DagP.below {w w' : World} {g : Nat} {ns : List Nd} (h : DagP w g ns) (hb : Below w.heap.size w w') : DagP w' g ns := by
  obtain ⟨v, mb, m, h1, h2, h3, h4, h5, h6, h7, h8, h9⟩ := h
  refine ⟨v, mb, m, heap_below h1 hb (heap_lt h1), h2.kept (grownBy_of_below (row := none) hb) ?_, h3.below hb h3.lt, h4, h5, h6, h7, h8, h9⟩
  cases hv : v.ownBlock
  · exact Or.inl rfl
  · exact Or.inr (by simp)
theorem DagP.len {w : World} {g : Nat} {ns : List Nd} (h : DagP w g ns) : ns.length ≤ 20000 := by obtain ⟨v, mb, m, h1, h2, h3, h4, h5, h6, h7, h8, h9⟩ := h; exact h8
theorem DagP.val {w : World} {g : Nat} {ns : List Nd} (h : DagP w g ns) {i : Nat} {n : Nd} (hi : ns[i]? = some n) : n.val < 18446744073709551616 := by obtain ⟨v, mb, m, h1, h2, h3, h4, h5, h6, h7, h8, h9⟩ := h; exact h9 n (List.mem_of_getElem? hi)
theorem DagP.glt {w : World} {g : Nat} {ns : List Nd} (h : DagP w g ns) : g < w.heap.size := by obtain ⟨v, mb, m, h1, -⟩ := h; exact heap_lt h1
/-- what the walk needs of the nodes' slice -/
theorem DagP.slice {w : World} {g : Nat} {ns : List Nd} (h : DagP w g ns) : ∃ A c, w.cell? ⟨g, 0, none⟩ = some (.slice A ns.length c) ∧ ns.length ≤ c ∧ c ≤ maxLen ∧
    ∀ i n, ns[i]? = some n → ∃ r, A = some ⟨r, 0, none⟩ ∧ ∀ j u, (ndCells n)[j]? = some u → w.cell? ⟨r, i * 4 + j, none⟩ = some u := by
  obtain ⟨v, mb, m, h1, h2, -⟩ := h
  obtain ⟨c0, -, -, -⟩ := cells2 h1
  rcases id h2.2 with ⟨rfl, hn⟩ | ⟨r, cap, cur, rfl, hr, hh, hcap, hmax, hsz, hcur⟩
  · refine ⟨none, 0, by rw [hn]; exact c0, by omega, by unfold maxLen; omega, fun i n hi => ?_⟩
    have := (List.getElem?_eq_some_iff.1 hi).1; omega
  · refine ⟨some ⟨r, 0, none⟩, cap, c0, hcap, hmax, fun i n hi => ⟨r, rfl, fun j u hu => ?_⟩⟩
    have hj : j < 4 := by have := (List.getElem?_eq_some_iff.1 hu).1; simpa [ndCells] using this
    have hi' := (List.getElem?_eq_some_iff.1 hi).1
    rw [h2.cellAt (i * 4 + j) (by omega), nodeCells_at hi j hj]; exact hu
set_option maxHeartbeats 1600000 in
theorem has_any {w : World} {g : Nat} {ns : List Nd} {i : Nat} (hd : DagP w g ns) (hi : i < ns.length) :
    Calls Tryz.prog 102 #[.pointer (some ⟨g, 0, none⟩), .int .i64 i] w (fun e w' => e = .returned (.bool true) ∧ w = w') := by
  obtain ⟨A, c, c0, -, -, -⟩ := hd.slice
  have h0 : (0 : Int) ≤ (i : Int) := by omega
  have h1 : (i : Int) < (ns.length : Int) := by omega
  clear hd
  go_enter Tryz.func102, Tryz.ntmps102
  go_wp2
  go_ret
  exact ⟨rfl, rfl⟩
theorem free4 {w : World} {g : Nat} {T : TypeId} {a b c d : Value} (h : w.heap[g]? = some (.cells #[a, b, c, d] T (0, 0))) :
    w.frozen? ⟨g, 0, none⟩ = false ∧ w.frozen? ⟨g, 1, none⟩ = false ∧ w.frozen? ⟨g, 2, none⟩ = false ∧ w.frozen? ⟨g, 3, none⟩ = false := by
  refine ⟨?_, ?_, ?_, ?_⟩ <;> simp [World.frozen?, h]
theorem set4 {w : World} {g : Nat} {T : TypeId} {a b c d : Value} (h : w.heap[g]? = some (.cells #[a, b, c, d] T (0, 0))) (u v x y : Value) :
    ((((w.setCell ⟨g, 0, none⟩ u).setCell ⟨g, 1, none⟩ v).setCell ⟨g, 2, none⟩ x).setCell ⟨g, 3, none⟩ y).heap[g]? = some (.cells #[u, v, x, y] T (0, 0)) := by
  have hg : g < w.heap.size := (Array.getElem?_eq_some_iff.1 h).1
  have h' : w.heap[g] = .cells #[a, b, c, d] T (0, 0) := (Array.getElem?_eq_some_iff.1 h).2
  simp [World.setCell, hg, Array.getElem_modify, h']
set_option maxHeartbeats 1600000 in
theorem node_any {w : World} {g : Nat} {ns : List Nd} {i : Nat} {n : Nd} (hd : DagP w g ns) (hi : ns[i]? = some n) :
    Calls Tryz.prog 91 #[.pointer (some ⟨g, 0, none⟩), .int .i64 i] w (fun e w' => e = .returned (.tuple #[nodeV n, .bool true]) ∧ Below w.heap.size w w') := by
  obtain ⟨w1, hw1, hb1, hs1, b1⟩ := pro1 w (.cells #[.int .i64 0, .float .f64 0, .int .i64 0, .int .i64 0] 122)
  have hlt := (List.getElem?_eq_some_iff.1 hi).1
  have HD1 := Lib.hid (hd.below hb1)
  obtain ⟨A, c, c0, hc1, hc2, hel⟩ := HD1.out.slice
  obtain ⟨r, rfl, hcell⟩ := hel i n hi
  have HH := Lib.hid (has_any (w := w1) (i := i) HD1.out hlt)
  have HB := Lib.hid hb1
  have B1 := Lib.hid b1
  obtain ⟨d0, d1, d2, d3⟩ := cells4 b1
  obtain ⟨f0, f1, f2, f3⟩ := free4 b1
  obtain ⟨kind, val, na, nb⟩ := n
  have e0 : w1.cell? ⟨r, i * 4, none⟩ = some (.int .i64 kind) := hcell 0 _ rfl
  have e1 := hcell 1 _ rfl; have e2 := hcell 2 _ rfl; have e3 := hcell 3 _ rfl
  have h0 : (0 : Int) ≤ (i : Int) := by omega
  have h1 : (i : Int) < (ns.length : Int) := by omega
  have hst := store_float
  have S1 := Lib.hid (set4 b1 (.int .i64 kind) (.float .f64 val) (.int .i64 na) (.int .i64 nb))
  clear hd hel hcell hb1 hs1 hi hc1 hc2 b1
  unfold nodeV
  dsimp only at e0 e1 e2 e3 ⊢
  go_enter Tryz.func91, Tryz.ntmps91
  go_wp2_with fail
  refine HH.out.mono ?_
  rintro e w2 ⟨rfl, hw⟩
  obtain rfl := hw
  go_wp2_with fail
  go_wp2
  obtain ⟨x0, x1, x2, x3⟩ := cells4 S1.out
  refine bodyPost_ret (v := .tuple #[.agg #[_, _, _, _], _]) (by simp [results, Tryz.results91, go_sem, x0, x1, x2, x3]; first | exact ⟨⟨rfl, rfl, rfl, rfl⟩, rfl⟩ | rfl) rfl ?_
  exact ⟨rfl, (((HB.out.setCell (by simp) _).setCell (by simp) _).setCell (by simp) _).setCell (by simp) _⟩
end Go.Proofs.YtgodkfgnhpnhcaaGreatDoor
namespace Go.Proofs.YtgodkfgnhpnhcaaGreatDoor
open Go.RowKit Go.Maps
def RetV (w : World) (v : Value) (e : Ending) (w' : World) : Prop := e = .returned v ∧ Below w.heap.size w w'
set_option maxHeartbeats 6400000 in
set_option maxRecDepth 100000 in
theorem keyOf_any {w : World} {n : Nd} : Calls Tryz.prog 127 #[.agg #[.int .i64 n.kind, .float .f64 n.val, .int .i64 n.a, .int .i64 n.b]] w (RetV w (keyV n)) := by
  obtain ⟨kind, val, na, nb⟩ := n
  unfold keyV
  obtain ⟨w1, hw1, hb1, hs1, b1⟩ := pro1 w (.cells #[.int .i64 kind, .float .f64 val, .int .i64 na, .int .i64 nb] 122)
  obtain ⟨w2, hw2, hb2, hs2, b2⟩ := pro1 w1 (.cells #[.int .i64 0, .int .i64 0, .int .i64 0, .int .u64 0] 198)
  obtain ⟨c0, c1, c2, c3⟩ := cells4 (heap_below b1 hb2 (heap_lt b1))
  obtain ⟨d0, d1, d2, d3⟩ := cells4 b2
  obtain ⟨f0, f1, f2, f3⟩ := free4 b2
  have HFF := Lib.hid (set4 b2 (.int .i64 kind) (.int .i64 na) (.int .i64 nb) (.int .u64 (val : Int)))
  have hk : w.heap.size ≤ w1.heap.size := hb1.size
  have HB := Lib.hid ((((((below_up hb1 hb2).setCell (p := ⟨w1.heap.size, 0, none⟩) hk (.int .i64 kind)).setCell (p := ⟨w1.heap.size, 1, none⟩) hk (.int .i64 na)).setCell (p := ⟨w1.heap.size, 2, none⟩) hk (.int .i64 nb)).setCell (p := ⟨w1.heap.size, 3, none⟩) hk (.int .u64 (val : Int))).drew)
  have hne : w.heap.size ≠ w1.heap.size := by omega
  have hbits := float64bits_run val
  clear hb1 hb2 hs1 hs2 b1 b2 hk
  go_enter Tryz.func127, Tryz.ntmps127
  go_wp2
  go_region
  all_goals
    go_wp2
    obtain ⟨x0, x1, x2, x3⟩ := cells4 HFF.out
    refine bodyPost_ret (v := .agg #[_, _, _, _]) (by simp [results, Tryz.results127, go_sem, x0, x1, x2, x3]; first | exact ⟨rfl, rfl, rfl, rfl⟩ | rfl) rfl ?_
    exact ⟨rfl, HB.out⟩
set_option maxHeartbeats 6400000 in
set_option maxRecDepth 100000 in
theorem fits_in {w : World} {v : Int} (h : 0 ≤ v ∧ v ≤ 65535) : Calls Tryz.prog 183 #[.int .i64 v] w (RetV w (.bool true)) := by
  have h1 := h.1; have h2 := h.2
  go_enter Tryz.func183, Tryz.ntmps183
  go_wp2
  go_ret
  exact ⟨rfl, Below.refl _ _⟩
/-- a node that may be put -/
def NdOk (n : Nd) : Prop := n.kind = 0 ∧ n.a = 0 ∧ n.b = 0 ∨ (n.kind = 1 ∨ n.kind = 2 ∨ n.kind = 3 ∨ n.kind = 4) ∧ n.val = 0 ∧ (0 ≤ n.a ∧ n.a ≤ 65535) ∧ (0 ≤ n.b ∧ n.b ≤ 65535) ∨ n.kind = 5 ∧ n.val = 0 ∧ (0 ≤ n.a ∧ n.a ≤ 65535) ∧ n.b = 0
set_option maxHeartbeats 6400000 in
set_option maxRecDepth 100000 in
theorem valid_any {w : World} {n : Nd} (h : NdOk n) : Calls Tryz.prog 152 #[.agg #[.int .i64 n.kind, .float .f64 n.val, .int .i64 n.a, .int .i64 n.b]] w (RetV w (.bool true)) := by
  obtain ⟨kind, val, na, nb⟩ := n
  obtain ⟨w1, hw1, hb1, hs1, b1⟩ := pro1 w (.cells #[.int .i64 kind, .float .f64 val, .int .i64 na, .int .i64 nb] 122)
  obtain ⟨c0, c1, c2, c3⟩ := cells4 b1
  have HB := Lib.hid hb1
  have hbits := float64bits_run
  clear hb1 hs1 b1
  rcases h with ⟨h1, h2, h3⟩ | ⟨h1, h2, h3, h4⟩ | ⟨h1, h2, h3, h4⟩
  · simp only at h1 h2 h3
    subst h1; subst h2; subst h3
    go_enter Tryz.func152, Tryz.ntmps152
    go_wp2
    go_ret
    exact ⟨rfl, HB.out⟩
  · simp only at h1 h2 h3 h4
    subst h2
    have HA : Hid (∀ w', Calls Tryz.prog 183 #[.int .i64 na] w' (RetV w' (.bool true))) := Lib.hid fun w' => fits_in h3
    have HB2 : Hid (∀ w', Calls Tryz.prog 183 #[.int .i64 nb] w' (RetV w' (.bool true))) := Lib.hid fun w' => fits_in h4
    clear h3 h4
    rcases h1 with rfl | rfl | rfl | rfl
    all_goals
      go_enter Tryz.func152, Tryz.ntmps152
      go_wp2_with fail
      refine (HA.out _).mono ?_
      rintro e w3 ⟨rfl, hb3⟩
      replace c0 := cell_below c0 hb3 (Nat.le_refl _)
      replace c1 := cell_below c1 hb3 (Nat.le_refl _)
      replace c2 := cell_below c2 hb3 (Nat.le_refl _)
      replace c3 := cell_below c3 hb3 (Nat.le_refl _)
      have HB3 := Lib.hid (below_up HB.out hb3)
      clear hb3
      go_wp2_with fail
      refine (HB2.out _).mono ?_
      rintro e w4 ⟨rfl, hb4⟩
      have HB4 := Lib.hid (below_up HB3.out hb4)
      clear hb4
      go_wp2
      go_ret
      exact ⟨rfl, HB4.out⟩
  · simp only at h1 h2 h3 h4
    subst h2; subst h1; subst h4
    have HA : Hid (∀ w', Calls Tryz.prog 183 #[.int .i64 na] w' (RetV w' (.bool true))) := Lib.hid fun w' => fits_in h3
    have HB2 : Hid (∀ w', Calls Tryz.prog 183 #[.int .i64 0] w' (RetV w' (.bool true))) := Lib.hid fun w' => fits_in (by omega)
    clear h3
    go_enter Tryz.func152, Tryz.ntmps152
    go_wp2_with fail
    refine (HA.out _).mono ?_
    rintro e w3 ⟨rfl, hb3⟩
    replace c0 := cell_below c0 hb3 (Nat.le_refl _)
    replace c1 := cell_below c1 hb3 (Nat.le_refl _)
    replace c2 := cell_below c2 hb3 (Nat.le_refl _)
    replace c3 := cell_below c3 hb3 (Nat.le_refl _)
    have HB3 := Lib.hid (below_up HB.out hb3)
    clear hb3
    go_wp2_with fail
    refine (HB2.out _).mono ?_
    rintro e w4 ⟨rfl, hb4⟩
    have HB4 := Lib.hid (below_up HB3.out hb4)
    clear hb4
    go_wp2
    go_ret
    exact ⟨rfl, HB4.out⟩
theorem has_int {w : World} {g : Nat} {ns : List Nd} {i : Int} (hd : DagP w g ns) (h0 : 0 ≤ i) (hi : i < ns.length) :
    Calls Tryz.prog 102 #[.pointer (some ⟨g, 0, none⟩), .int .i64 i] w (RetV w (.bool true)) := by
  have := has_any (i := i.toNat) hd (by omega)
  rw [Int.toNat_of_nonneg h0] at this
  exact this.mono fun e w' h => ⟨h.1, h.2 ▸ Below.refl _ _⟩
/-- what a node needs to be put: its operands are there; a leaf is finite -/
def NdIn (n : Nd) (len : Nat) : Prop := NdOk n ∧ (n.kind = 0 → fin n.val) ∧ (n.kind ≠ 0 → (0 ≤ n.a ∧ n.a < len)) ∧ (n.kind ≠ 0 → n.kind ≠ 5 → (0 ≤ n.b ∧ n.b < len))
set_option maxHeartbeats 6400000 in
set_option maxRecDepth 100000 in
theorem takes_any {w : World} {g : Nat} {ns : List Nd} {n : Nd} (hd : DagP w g ns) (hn : NdIn n ns.length) (hv : n.val < 18446744073709551616) :
    Calls Tryz.prog 126 #[.pointer (some ⟨g, 0, none⟩), .agg #[.int .i64 n.kind, .float .f64 n.val, .int .i64 n.a, .int .i64 n.b]] w (RetV w (.bool true)) := by
  obtain ⟨kind, val, na, nb⟩ := n
  obtain ⟨ok, hf, ha, hb⟩ := hn
  simp only at hf ha hb hv
  obtain ⟨w1, hw1, hb1, hs1, b1⟩ := pro1 w (.cells #[.int .i64 kind, .float .f64 val, .int .i64 na, .int .i64 nb] 122)
  obtain ⟨c0, c1, c2, c3⟩ := cells4 b1
  have HV := Lib.hid (valid_any (w := w1) ok)
  have HB := Lib.hid hb1
  have hk : kind = 0 ∨ kind = 5 ∨ (kind = 1 ∨ kind = 2 ∨ kind = 3 ∨ kind = 4) := by
    rcases ok with h | h | h
    · exact Or.inl h.1
    · exact Or.inr (Or.inr h.1)
    · exact Or.inr (Or.inl h.1)
  have HD := Lib.hid hd
  have HHA : Hid (kind ≠ 0 → ∀ w', Below w.heap.size w w' → Calls Tryz.prog 102 #[.pointer (some ⟨g, 0, none⟩), .int .i64 na] w' (RetV w' (.bool true))) := Lib.hid fun h w' hb => has_int (hd.below hb) (ha h).1 (ha h).2
  have HHB : Hid (kind ≠ 0 → kind ≠ 5 → ∀ w', Below w.heap.size w w' → Calls Tryz.prog 102 #[.pointer (some ⟨g, 0, none⟩), .int .i64 nb] w' (RetV w' (.bool true))) := Lib.hid fun h h5 w' hk => has_int (hd.below hk) (hb h h5).1 (hb h h5).2
  have HF : Hid (kind = 0 → ∀ w', Calls Tryz.prog 123 #[.float .f64 val] w' (RetB w' true)) := Lib.hid fun h w' => by have := finite_any (w := w') hv; rwa [decide_eq_true (hf h)] at this
  clear hd ha hb hf hb1 hs1 b1 ok hv
  rcases hk with rfl | rfl | rfl | rfl | rfl | rfl
  all_goals
    go_enter Tryz.func126, Tryz.ntmps126
    go_wp2_with fail
    refine HV.out.mono ?_
    rintro e w3 ⟨rfl, hb3⟩
    replace c0 := cell_below c0 hb3 (Nat.le_refl _)
    replace c1 := cell_below c1 hb3 (Nat.le_refl _)
    replace c2 := cell_below c2 hb3 (Nat.le_refl _)
    replace c3 := cell_below c3 hb3 (Nat.le_refl _)
    have HB3 := Lib.hid (below_up HB.out hb3)
    clear hb3
    go_wp2_with fail
  · refine (HF.out trivial _).mono ?_
    rintro e w4 ⟨rfl, hw⟩
    obtain rfl := hw
    go_wp2
    go_ret
    exact ⟨rfl, HB3.out⟩
  · refine (HHA.out (by decide) _ HB3.out).mono ?_
    rintro e w4 ⟨rfl, hb4⟩
    have HB4 := Lib.hid (below_up HB3.out hb4)
    clear hb4
    go_wp2
    go_ret
    exact ⟨rfl, HB4.out⟩
  all_goals
    refine (HHA.out (by decide) _ HB3.out).mono ?_
    rintro e w4 ⟨rfl, hb4⟩
    replace c0 := cell_below c0 hb4 (Nat.le_refl _)
    replace c1 := cell_below c1 hb4 (Nat.le_refl _)
    replace c2 := cell_below c2 hb4 (Nat.le_refl _)
    replace c3 := cell_below c3 hb4 (Nat.le_refl _)
    have HB4 := Lib.hid (below_up HB3.out hb4)
    clear hb4
    go_wp2_with fail
    refine (HHB.out (by decide) (by decide) _ HB4.out).mono ?_
    rintro e w5 ⟨rfl, hb5⟩
    have HB5 := Lib.hid (below_up HB4.out hb5)
    clear hb5
    go_wp2
    go_ret
    exact ⟨rfl, HB5.out⟩
end Go.Proofs.YtgodkfgnhpnhcaaGreatDoor
namespace Go.Proofs.YtgodkfgnhpnhcaaGreatDoor
open Go.RowKit Go.Maps
/-- the operands of a node -/
def opsN (n : Nd) : List Int := if n.kind = 0 then [] else if n.kind = 5 then [n.a] else [n.a, n.b]
def ops2 (n : Nd) : Int × Int := if n.kind = 0 then (0, 0) else if n.kind = 5 then (n.a, 0) else (n.a, n.b)
set_option maxHeartbeats 1600000 in
theorem parts_any {n : Nd} {w : World} : Calls Tryz.prog 131 #[nodeV n] w (fun e w' => e = .returned (.tuple #[.agg #[.int .i64 (ops2 n).1, .int .i64 (ops2 n).2], .int .i64 ((opsN n).length : Nat)]) ∧ Below w.heap.size w w') := by
  obtain ⟨kind, val, na, nb⟩ := n
  unfold nodeV
  obtain ⟨w2, hw2, hb2, hs2, b1, b2⟩ := pro2 w (.cells #[.int .i64 kind, .float .f64 val, .int .i64 na, .int .i64 nb] 122) (.cells #[.int .i64 0, .int .i64 0] 22)
  obtain ⟨c0, c1, c2, c3⟩ := cells4 b1
  obtain ⟨d0, d1, d2, d3⟩ := cells2 b2
  have HB := Lib.hid hb2
  have S := fun u v => Lib.hid (set2 b2 u v)
  clear hb2 b1 b2 hs2
  by_cases h0 : kind = 0
  · subst h0
    simp only [ops2, opsN, if_true, List.length_nil]
    go_enter Tryz.func131, Tryz.ntmps131
    go_wp2
    obtain ⟨x0, x1, -, -⟩ := cells2 (S (.int .i64 0) (.int .i64 0)).out
    refine bodyPost_ret (v := .tuple #[.agg #[_, _], _]) (by simp [results, Tryz.results131, go_sem, x0, x1]; first | exact ⟨⟨rfl, rfl⟩, rfl⟩ | rfl) rfl ?_
    exact ⟨rfl, (HB.out.setCell (by simp) _).setCell (by simp) _⟩
  · by_cases h5 : kind = 5
    · subst h5
      have e1 : ops2 ⟨5, val, na, nb⟩ = (na, 0) := by simp [ops2]
      have e2 : (opsN ⟨5, val, na, nb⟩).length = 1 := by simp [opsN]
      rw [e1, e2]
      clear e1 e2 h0
      go_enter Tryz.func131, Tryz.ntmps131
      go_wp2
      obtain ⟨x0, x1, -, -⟩ := cells2 (S (.int .i64 na) (.int .i64 0)).out
      refine bodyPost_ret (v := .tuple #[.agg #[_, _], _]) (by simp [results, Tryz.results131, go_sem, x0, x1]; first | exact ⟨⟨rfl, rfl⟩, rfl⟩ | rfl) rfl ?_
      exact ⟨rfl, (HB.out.setCell (by simp) _).setCell (by simp) _⟩
    · have e1 : ops2 ⟨kind, val, na, nb⟩ = (na, nb) := by simp [ops2, h0, h5]
      have e2 : (opsN ⟨kind, val, na, nb⟩).length = 2 := by simp [opsN, h0, h5]
      rw [e1, e2]
      have t0 : (kind == 0) = false := beq_eq_false_iff_ne.2 h0
      have t5 : (kind == 5) = false := beq_eq_false_iff_ne.2 h5
      clear e1 e2 h0 h5
      go_enter Tryz.func131, Tryz.ntmps131
      go_wp2
      obtain ⟨x0, x1, -, -⟩ := cells2 (S (.int .i64 na) (.int .i64 nb)).out
      refine bodyPost_ret (v := .tuple #[.agg #[_, _], _]) (by simp [results, Tryz.results131, go_sem, x0, x1]; first | exact ⟨⟨rfl, rfl⟩, rfl⟩ | rfl) rfl ?_
      exact ⟨rfl, (HB.out.setCell (by simp) _).setCell (by simp) _⟩
theorem und_mapii : Tryz.prog.underlying 156 = some (.map 3 3) := by kernel_rfl
theorem und_int : Tryz.prog.underlying 3 = some (.int .i64) := by kernel_rfl
theorem und_ints : Tryz.prog.underlying 56 = some (.slice 3) := by kernel_rfl
theorem keyed_int : Keyed Tryz.prog 3 := int_keyed und_int
theorem info_int : (Tryz.prog.info? 3).map (fun i => (i.zero, i.size, i.bytes)) = some (some (.int .i64 0), 1, 8) := by kernel_rfl
theorem zero_int (w : World) : (zeroValue 3).run Tryz.prog w = .ok (.int .i64 0) w := by kernel_rfl
theorem key_int {i : Int} (h : -9223372036854775808 ≤ i ∧ i < 9223372036854775808) : keyOf Tryz.prog 3 (.int .i64 i) = some (.int .i64 i) := keyOf_int_mk und_int (by
  have e1 : IntKind.i64.min = -9223372036854775808 := rfl
  have e2 : IntKind.i64.max = 9223372036854775807 := rfl
  simp [Lit.wf, e1, e2]; omega)
/-- numbers as cells -/
def cellsI (l : List Nat) : List Value := l.map fun (x : Nat) => Value.int .i64 (x : Int)
/-- the state of the search: what has been visited, what is still on the stack -/
def VS (w : World) (gv gs mb : Nat) (sv : Value) (vis st : List Nat) : Prop :=
  ∃ m, w.heap[gv]? = some (.cells #[.map (some mb)] 156 (0, 0)) ∧ w.heap[gs]? = some (.cells #[sv] 56 (0, 0)) ∧ MapP Tryz.prog 3 w mb m ∧
    (∀ i : Nat, m (.int .i64 (i : Int)) = if i ∈ vis then some (.int .i64 1) else none) ∧ w.ownsRow 0 3 1 sv st.length (cellsI st) ∧ gv ≠ gs ∧ mb ≠ gs ∧ mb ≠ gv ∧ sv.ownBlock ≠ some gs ∧ sv.ownBlock ≠ some gv ∧ sv.ownBlock ≠ some mb
end Go.Proofs.YtgodkfgnhpnhcaaGreatDoor
