/- A part of the proof: contracts of functions and plain laws (BalC). -/
import Derived.Test.YtgodkfgnhpnhcaaGreatDoorJ11
set_option linter.unusedVariables false
set_option linter.unusedSimpArgs false
namespace Go.Proofs.YtgodkfgnhpnhcaaGreatDoor
open Go.RowKit
theorem cmpD_self (x : Dy) : cmpD x x = 0 := by
  unfold cmpD alignA alignB
  rw [if_pos (Int.le_refl _), if_pos (Int.le_refl _)]
  simp [cmpI]
/-- a block that holds z, below a bound -/
def HasD (w : World) (g : Nat) (b : Bool) (A : Option Addr) (n c : Nat) (z : Dy) : Prop :=
  w.heap[g]? = some (.cells #[.bool b, .slice A n c, .int .i64 z.exp] 172 (0, 0)) ∧ IntP AnyB w (.agg #[.bool b, .slice A n c]) z.man
theorem index3_0 (a0 a1 a2 a3 a4 a5 a6 a7 a8 : Value) (w : World) : (Instr.index 314 (.agg #[a0, a1, a2, a3, a4, a5, a6, a7, a8]) (.int .i64 0)).run Tryz.prog w = .ok (.agg #[a0, a1, a2]) w := by kernel_rfl
theorem index3_1 (a0 a1 a2 a3 a4 a5 a6 a7 a8 : Value) (w : World) : (Instr.index 314 (.agg #[a0, a1, a2, a3, a4, a5, a6, a7, a8]) (.int .i64 1)).run Tryz.prog w = .ok (.agg #[a3, a4, a5]) w := by kernel_rfl
theorem index3_2 (a0 a1 a2 a3 a4 a5 a6 a7 a8 : Value) (w : World) : (Instr.index 314 (.agg #[a0, a1, a2, a3, a4, a5, a6, a7, a8]) (.int .i64 2)).run Tryz.prog w = .ok (.agg #[a6, a7, a8]) w := by kernel_rfl
theorem st2_facts {w6 w8 : World} {gl gh : Nat} {T T' : TypeId} {a b c a' b' c' : Value} (hb : Below w6.heap.size w6 w8) (h1 : w6.heap.size ≤ gl) (h2 : w6.heap.size ≤ gh) (hne : gl ≠ gh) (t1 : w8.heap[gl]? = some (.cells #[a, b, c] T (0, 0))) (t2 : w8.heap[gh]? = some (.cells #[a', b', c'] T' (0, 0))) (u v x : Value) :
    Below w6.heap.size w6 ((((((w8.setCell ⟨gl, 0, none⟩ u).setCell ⟨gl, 1, none⟩ v).setCell ⟨gl, 2, none⟩ x).setCell ⟨gh, 0, none⟩ u).setCell ⟨gh, 1, none⟩ v).setCell ⟨gh, 2, none⟩ x).drew ∧
    ((((((w8.setCell ⟨gl, 0, none⟩ u).setCell ⟨gl, 1, none⟩ v).setCell ⟨gl, 2, none⟩ x).setCell ⟨gh, 0, none⟩ u).setCell ⟨gh, 1, none⟩ v).setCell ⟨gh, 2, none⟩ x).drew.heap[gl]? = some (.cells #[u, v, x] T (0, 0)) ∧
    ((((((w8.setCell ⟨gl, 0, none⟩ u).setCell ⟨gl, 1, none⟩ v).setCell ⟨gl, 2, none⟩ x).setCell ⟨gh, 0, none⟩ u).setCell ⟨gh, 1, none⟩ v).setCell ⟨gh, 2, none⟩ x).drew.heap[gh]? = some (.cells #[u, v, x] T' (0, 0)) := by
  have e1 := set3 t1 u v x
  have e2 := (set3_other (i := gh) hne u v x).trans t2
  have e3 := set3 e2 u v x
  have e4 := (set3_other (i := gl) (Ne.symm hne) u v x).trans e1
  have b1 := hb.setCell (p := ⟨gl, 0, none⟩) h1 u
  have b2 := b1.setCell (p := ⟨gl, 1, none⟩) h1 v
  have b3 := b2.setCell (p := ⟨gl, 2, none⟩) h1 x
  have b4 := b3.setCell (p := ⟨gh, 0, none⟩) h2 u
  have b5 := b4.setCell (p := ⟨gh, 1, none⟩) h2 v
  have b6 := b5.setCell (p := ⟨gh, 2, none⟩) h2 x
  have d : ∀ w : World, w.drew.heap = w.heap := fun _ => rfl
  rw [d]
  exact ⟨b6.drew, e4, e3⟩
set_option maxHeartbeats 6400000 in
set_option maxRecDepth 100000 in
theorem ballMul_any {p q : Nat → Prop} {va vb : Value} {x y : Dy} {P : Int} {w : World} (hx : BalP p w va x) (hy : BalP q w vb y) (hT : Tab w) (sx : SmD x) (sy : SmD y) (ss : SmD (mulD x y)) (hP : 1 ≤ P ∧ P ≤ 65536) (hbt : (bits (mulD x y).man.natAbs : Int) ≤ P) :
    Calls Tryz.prog 214 #[va, vb, .int .i64 P] w (RetL w.heap.size w (mulD x y)) := by
  obtain ⟨ba, A, n, c, bb, A', n', c', rfl, h1, h2⟩ := hx
  obtain ⟨bd, E, m, k, be, E', m', k', rfl, h3, h4⟩ := hy
  obtain ⟨w3, hw3, hb3, hs3, b1, b2, b3⟩ := pro3 w (.cells #[Value.bool ba, .slice A n c, .int .i64 x.exp, Value.bool bb, .slice A' n' c', .int .i64 x.exp] 174) (.cells #[Value.bool bd, .slice E m k, .int .i64 y.exp, Value.bool be, .slice E' m' k', .int .i64 y.exp] 174) (.cells #[Value.bool false, Value.slice none 0 0, .int .i64 0, Value.bool false, Value.slice none 0 0, .int .i64 0] 174)
  have HB := Lib.hid hb3; have HS := Lib.hid hs3; have B3 := Lib.hid b3
  obtain ⟨c0, c1, c2, c3, c4, c5⟩ := cells6 b1
  obtain ⟨d0, d1, d2, d3, d4, d5⟩ := cells6 b2
  have HT2 := Lib.hid (hT.below hb3)
  have hmu : ∀ {b1 b2 : Bool} {A1 A2 : Option Addr} {n1 n2 k1 k2 : Nat} {p q : Nat → Prop}, IntP p w (.agg #[.bool b1, .slice A1 n1 k1]) x.man → IntP q w (.agg #[.bool b2, .slice A2 n2 k2]) y.man → ∀ w', Below w3.heap.size w3 w' → Calls Tryz.prog 243 #[.agg #[.bool b1, .slice A1 n1 k1, .int .i64 x.exp], .agg #[.bool b2, .slice A2 n2 k2, .int .i64 y.exp]] w' (RetD w'.heap.size w' (mulD x y)) :=
    fun h h' w' hw => mulD_any ⟨_, _, _, _, rfl, (h.below hb3).below hw⟩ ⟨_, _, _, _, rfl, (h'.below hb3).below hw⟩ (HT2.out.below hw) (by have := sx.1; have := sy.1; omega) (by have := sx.2; omega) (by have := sy.2; omega)
  have HM11 := Lib.hid (hmu h1 h3); have HM12 := Lib.hid (hmu h1 h4); have HM21 := Lib.hid (hmu h2 h3); have HM22 := Lib.hid (hmu h2 h4)
  have HR : Hid (∀ (w' : World) (v : Value) (dir : Int), Below w3.heap.size w3 w' → DyP AnyB w' v (mulD x y) → Calls Tryz.prog 242 #[v, .int .i64 P, .int .i64 dir] w' (RetD w'.heap.size w' (mulD x y))) := Lib.hid fun w' v dir h hv => by
    have := roundD_any (dir := dir) hv (HT2.out.below h) ss hP (by rw [mulD_idem]; exact hbt)
    rwa [mulD_idem] at this
  have SS := Lib.hid ss
  clear h1 h2 h3 h4 hb3 b1 b2 b3 hs3 hT sx sy ss hP hbt HT2 hmu
  generalize mulD x y = z at *
  go_enter Tryz.func214, Tryz.ntmps214
  go_wp2_with fail
  refine (HM11.out w3 (Below.refl _ _)).mono ?_
  rintro r w4 ⟨hb, v4, rfl, hz⟩
  obtain ⟨b4, A4, n4, k4, rfl, hz⟩ := hz
  replace c0 := cell_below c0 hb (Nat.le_refl _)
  replace c1 := cell_below c1 hb (Nat.le_refl _)
  replace c2 := cell_below c2 hb (Nat.le_refl _)
  replace c3 := cell_below c3 hb (Nat.le_refl _)
  replace c4 := cell_below c4 hb (Nat.le_refl _)
  replace c5 := cell_below c5 hb (Nat.le_refl _)
  replace d0 := cell_below d0 hb (Nat.le_refl _)
  replace d1 := cell_below d1 hb (Nat.le_refl _)
  replace d2 := cell_below d2 hb (Nat.le_refl _)
  replace d3 := cell_below d3 hb (Nat.le_refl _)
  replace d4 := cell_below d4 hb (Nat.le_refl _)
  replace d5 := cell_below d5 hb (Nat.le_refl _)
  obtain ⟨w5, hw5, hb5, hs5, q1⟩ := pro1 w4 (.cells #[Value.bool false, Value.slice none 0 0, .int .i64 0] 172)
  obtain ⟨e0, e1, e2, e3, e4, e5⟩ := cells3 q1
  have S1 := set3 q1 (.bool b4) (.slice A4 n4 k4) (.int .i64 z.exp)
  have hb6 : Below w4.heap.size w4 (((w5.setCell ⟨w4.heap.size, 0, none⟩ (.bool b4)).setCell ⟨w4.heap.size, 1, none⟩ (.slice A4 n4 k4)).setCell ⟨w4.heap.size, 2, none⟩ (.int .i64 z.exp)) := ((hb5.setCell (by simp) _).setCell (by simp) _).setCell (by simp) _
  have HZ := Lib.hid (((hz.weak (q := fun b => b < w4.heap.size) fun b _ h => h).below hb6).any)
  generalize hW : ((w5.setCell ⟨w4.heap.size, 0, none⟩ (.bool b4)).setCell ⟨w4.heap.size, 1, none⟩ (.slice A4 n4 k4)).setCell ⟨w4.heap.size, 2, none⟩ (.int .i64 z.exp) = w6 at *
  have HBW := Lib.hid (below_up hb hb6)
  have HSZ6 : Hid (w6.heap.size = w4.heap.size + 1) := Lib.hid (by rw [← hW]; simp [World.setCell, hs5])
  replace c0 := cell_below c0 hb6 (Nat.le_refl _)
  replace c1 := cell_below c1 hb6 (Nat.le_refl _)
  replace c2 := cell_below c2 hb6 (Nat.le_refl _)
  replace c3 := cell_below c3 hb6 (Nat.le_refl _)
  replace c4 := cell_below c4 hb6 (Nat.le_refl _)
  replace c5 := cell_below c5 hb6 (Nat.le_refl _)
  replace d0 := cell_below d0 hb6 (Nat.le_refl _)
  replace d1 := cell_below d1 hb6 (Nat.le_refl _)
  replace d2 := cell_below d2 hb6 (Nat.le_refl _)
  replace d3 := cell_below d3 hb6 (Nat.le_refl _)
  replace d4 := cell_below d4 hb6 (Nat.le_refl _)
  replace d5 := cell_below d5 hb6 (Nat.le_refl _)
  have HS1 := Lib.hid S1
  clear hb6 hb5 hs5 q1 hz hb hw3
  go_wp2_with fail
  obtain ⟨g0, g1, g2, -, -, -⟩ := cells3 HS1.out
  obtain ⟨w7, hw7, hb7, hs7, t1⟩ := pro1 w6 (.cells #[Value.bool false, Value.slice none 0 0, .int .i64 0] 172)
  obtain ⟨w8, hw8, hb8, hs8, t2⟩ := pro1 w7 (.cells #[Value.bool false, Value.slice none 0 0, .int .i64 0] 172)
  rw [hs7] at t2
  have t1' := heap_below t1 hb8 (heap_lt t1)
  have s7 := heap_below HS1.out hb7 (heap_lt HS1.out)
  have s8 := heap_below s7 hb8 (heap_lt s7)
  have hlt : w4.heap.size < w6.heap.size := by rw [HSZ6.out]; omega
  obtain ⟨ga0, ga1, ga2, -, -, -⟩ := cells3 s7
  obtain ⟨gb0, gb1, gb2, -, -, -⟩ := cells3 s8
  obtain ⟨i0, i1, i2, i3, i4, i5⟩ := cells3 t1'
  obtain ⟨j0, j1, j2, j3, j4, j5⟩ := cells3 t2
  have A3 := (set3_other (w := w8) (g := w6.heap.size) (i := w6.heap.size + 1) (by omega) (.bool b4) (.slice A4 n4 k4) (.int .i64 z.exp)).trans t2
  have A4' := (set3_other (w := w8) (g := w6.heap.size + 1) (i := w6.heap.size) (by omega) (.bool b4) (.slice A4 n4 k4) (.int .i64 z.exp)).trans t1'
  have A5 := (set3_other (w := w8) (g := w6.heap.size) (i := w4.heap.size) (by omega) (.bool b4) (.slice A4 n4 k4) (.int .i64 z.exp)).trans s8
  have A6 := (set3_other (w := w8) (g := w6.heap.size + 1) (i := w4.heap.size) (by omega) (.bool b4) (.slice A4 n4 k4) (.int .i64 z.exp)).trans s8
  obtain ⟨l0, l1, l2, l3, l4, l5⟩ := cells3 A3
  obtain ⟨o0, o1, o2, o3, o4, o5⟩ := cells3 A4'
  obtain ⟨u0, u1, u2, -, -, -⟩ := cells3 A5
  obtain ⟨v0, v1, v2, -, -, -⟩ := cells3 A6
  clear A3 A4' A5 A6 hlt
  clear hw5
  go_region
  · have F : Below w6.heap.size w6 (((((((w8.setCell ⟨w6.heap.size, 0, none⟩ (.bool b4)).setCell ⟨w6.heap.size, 1, none⟩ (.slice A4 n4 k4)).setCell ⟨w6.heap.size, 2, none⟩ (.int .i64 z.exp)).setCell ⟨w6.heap.size + 1, 0, none⟩ (.bool b4)).setCell ⟨w6.heap.size + 1, 1, none⟩ (.slice A4 n4 k4)).setCell ⟨w6.heap.size + 1, 2, none⟩ (.int .i64 z.exp))).drew ∧ (((((((w8.setCell ⟨w6.heap.size, 0, none⟩ (.bool b4)).setCell ⟨w6.heap.size, 1, none⟩ (.slice A4 n4 k4)).setCell ⟨w6.heap.size, 2, none⟩ (.int .i64 z.exp)).setCell ⟨w6.heap.size + 1, 0, none⟩ (.bool b4)).setCell ⟨w6.heap.size + 1, 1, none⟩ (.slice A4 n4 k4)).setCell ⟨w6.heap.size + 1, 2, none⟩ (.int .i64 z.exp))).drew.heap[w6.heap.size]? = some (.cells #[.bool b4, .slice A4 n4 k4, .int .i64 z.exp] 172 (0, 0)) ∧ (((((((w8.setCell ⟨w6.heap.size, 0, none⟩ (.bool b4)).setCell ⟨w6.heap.size, 1, none⟩ (.slice A4 n4 k4)).setCell ⟨w6.heap.size, 2, none⟩ (.int .i64 z.exp)).setCell ⟨w6.heap.size + 1, 0, none⟩ (.bool b4)).setCell ⟨w6.heap.size + 1, 1, none⟩ (.slice A4 n4 k4)).setCell ⟨w6.heap.size + 1, 2, none⟩ (.int .i64 z.exp))).drew.heap[w6.heap.size + 1]? = some (.cells #[.bool b4, .slice A4 n4 k4, .int .i64 z.exp] 172 (0, 0)) :=
      st2_facts (below_up hb7 hb8) (by omega) (by omega) (by omega) t1' t2 _ _ _
    clear t1 t1' t2 s7 s8
    revert F
    clear i0 i1 i2 i3 i4 i5 j0 j1 j2 j3 j4 j5 l0 l1 l2 l3 l4 l5 o0 o1 o2 o3 o4 o5 u0 u1 u2 v0 v1 v2 ga0 ga1 ga2 gb0 gb1 gb2 g0 g1 g2 hw7 hw8 hs7 hs8 hb7 hb8
    generalize (((((((w8.setCell ⟨w6.heap.size, 0, none⟩ (.bool b4)).setCell ⟨w6.heap.size, 1, none⟩ (.slice A4 n4 k4)).setCell ⟨w6.heap.size, 2, none⟩ (.int .i64 z.exp)).setCell ⟨w6.heap.size + 1, 0, none⟩ (.bool b4)).setCell ⟨w6.heap.size + 1, 1, none⟩ (.slice A4 n4 k4)).setCell ⟨w6.heap.size + 1, 2, none⟩ (.int .i64 z.exp))).drew = w9
    rintro ⟨hb68, T3, T2⟩
    have HZ9 := Lib.hid (HZ.out.below hb68)
    replace c0 := cell_below c0 hb68 (Nat.le_refl _)
    replace c1 := cell_below c1 hb68 (Nat.le_refl _)
    replace c2 := cell_below c2 hb68 (Nat.le_refl _)
    replace c3 := cell_below c3 hb68 (Nat.le_refl _)
    replace c4 := cell_below c4 hb68 (Nat.le_refl _)
    replace c5 := cell_below c5 hb68 (Nat.le_refl _)
    replace d0 := cell_below d0 hb68 (Nat.le_refl _)
    replace d1 := cell_below d1 hb68 (Nat.le_refl _)
    replace d2 := cell_below d2 hb68 (Nat.le_refl _)
    replace d3 := cell_below d3 hb68 (Nat.le_refl _)
    replace d4 := cell_below d4 hb68 (Nat.le_refl _)
    replace d5 := cell_below d5 hb68 (Nat.le_refl _)
    obtain ⟨l0, l1, l2, -, -, -⟩ := cells3 T3
    obtain ⟨o0, o1, o2, -, -, -⟩ := cells3 T2
    have HBW0 := Lib.hid HBW.out
    have HBW := below_up HBW.out hb68
    clear T2 T3 hb68 HS1 HZ HM11
    go_wp2_with fail
    have hdr : Below w9.heap.size w9 w9.drew := (Below.refl _ _).drew
    replace c0 := cell_below c0 hdr (Nat.le_refl _)
    replace c1 := cell_below c1 hdr (Nat.le_refl _)
    replace c2 := cell_below c2 hdr (Nat.le_refl _)
    replace c3 := cell_below c3 hdr (Nat.le_refl _)
    replace c4 := cell_below c4 hdr (Nat.le_refl _)
    replace c5 := cell_below c5 hdr (Nat.le_refl _)
    replace d0 := cell_below d0 hdr (Nat.le_refl _)
    replace d1 := cell_below d1 hdr (Nat.le_refl _)
    replace d2 := cell_below d2 hdr (Nat.le_refl _)
    replace d3 := cell_below d3 hdr (Nat.le_refl _)
    replace d4 := cell_below d4 hdr (Nat.le_refl _)
    replace d5 := cell_below d5 hdr (Nat.le_refl _)
    have HBW := HBW.drew
    have HBL := hdr
    clear hdr
    have M1 : True := trivial
    have M2 : True := trivial
    go_region_held3 (fun w' => w'.cell? ⟨w.heap.size, 0, none⟩ = some (.bool ba) ∧ w'.cell? ⟨w.heap.size, 1, none⟩ = some (.slice A n c) ∧ w'.cell? ⟨w.heap.size, 2, none⟩ = some (.int .i64 x.exp) ∧ w'.cell? ⟨w.heap.size, 3, none⟩ = some (.bool bb) ∧ w'.cell? ⟨w.heap.size, 4, none⟩ = some (.slice A' n' c') ∧ w'.cell? ⟨w.heap.size, 5, none⟩ = some (.int .i64 x.exp) ∧ w'.cell? ⟨w.heap.size + 1, 0, none⟩ = some (.bool bd) ∧ w'.cell? ⟨w.heap.size + 1, 1, none⟩ = some (.slice E m k) ∧ w'.cell? ⟨w.heap.size + 1, 2, none⟩ = some (.int .i64 y.exp) ∧ w'.cell? ⟨w.heap.size + 1, 3, none⟩ = some (.bool be) ∧ w'.cell? ⟨w.heap.size + 1, 4, none⟩ = some (.slice E' m' k') ∧ w'.cell? ⟨w.heap.size + 1, 5, none⟩ = some (.int .i64 y.exp)) (go_keep)
      (first
      | (go_at_call 243
         clear M1
         with_reducible refine (HM12.out _ (by assumption)).mono ?_
         rintro r w10 ⟨hb, v5, hz⟩
         obtain ⟨rfl, hz⟩ := hz
         obtain ⟨b5, A5, n5, k5, rfl, hz⟩ := hz
         have c0 := cell_below c0 hb (Nat.le_refl _)
         have c1 := cell_below c1 hb (Nat.le_refl _)
         have c2 := cell_below c2 hb (Nat.le_refl _)
         have c3 := cell_below c3 hb (Nat.le_refl _)
         have c4 := cell_below c4 hb (Nat.le_refl _)
         have c5 := cell_below c5 hb (Nat.le_refl _)
         have d0 := cell_below d0 hb (Nat.le_refl _)
         have d1 := cell_below d1 hb (Nat.le_refl _)
         have d2 := cell_below d2 hb (Nat.le_refl _)
         have d3 := cell_below d3 hb (Nat.le_refl _)
         have d4 := cell_below d4 hb (Nat.le_refl _)
         have d5 := cell_below d5 hb (Nat.le_refl _)
         have HBW := below_up HBW hb
         have HBL := below_up HBL hb
         have HZ5 := Lib.hid hz.any
         clear hb hz)
      | (go_at_call 243
         clear M2
         with_reducible refine (HM21.out _ (by assumption)).mono ?_
         rintro r w11 ⟨hb, v6, hz⟩
         obtain ⟨rfl, hz⟩ := hz
         obtain ⟨b6, A6, n6, k6, rfl, hz⟩ := hz
         have c0 := cell_below c0 hb (Nat.le_refl _)
         have c1 := cell_below c1 hb (Nat.le_refl _)
         have c2 := cell_below c2 hb (Nat.le_refl _)
         have c3 := cell_below c3 hb (Nat.le_refl _)
         have c4 := cell_below c4 hb (Nat.le_refl _)
         have c5 := cell_below c5 hb (Nat.le_refl _)
         have d0 := cell_below d0 hb (Nat.le_refl _)
         have d1 := cell_below d1 hb (Nat.le_refl _)
         have d2 := cell_below d2 hb (Nat.le_refl _)
         have d3 := cell_below d3 hb (Nat.le_refl _)
         have d4 := cell_below d4 hb (Nat.le_refl _)
         have d5 := cell_below d5 hb (Nat.le_refl _)
         have HBW := below_up HBW hb
         have HBL := below_up HBL hb
         have HZ6 := Lib.hid hz.any
         have HZ56 := Lib.hid (HZ5.out.below hb)
         clear hb hz)
      | (go_at_call 243
         with_reducible refine (HM22.out _ (by assumption)).mono ?_
         rintro r w12 ⟨hb, v7, hz⟩
         obtain ⟨rfl, hz⟩ := hz
         obtain ⟨b7, A7, n7, k7, rfl, hz⟩ := hz
         have c0 := cell_below c0 hb (Nat.le_refl _)
         have c1 := cell_below c1 hb (Nat.le_refl _)
         have c2 := cell_below c2 hb (Nat.le_refl _)
         have c3 := cell_below c3 hb (Nat.le_refl _)
         have c4 := cell_below c4 hb (Nat.le_refl _)
         have c5 := cell_below c5 hb (Nat.le_refl _)
         have d0 := cell_below d0 hb (Nat.le_refl _)
         have d1 := cell_below d1 hb (Nat.le_refl _)
         have d2 := cell_below d2 hb (Nat.le_refl _)
         have d3 := cell_below d3 hb (Nat.le_refl _)
         have d4 := cell_below d4 hb (Nat.le_refl _)
         have d5 := cell_below d5 hb (Nat.le_refl _)
         have HBW := below_up HBW hb
         have HBL := below_up HBL hb
         have HZ7 := Lib.hid hz.any
         have HZ57 := Lib.hid (HZ56.out.below hb)
         have HZ67 := Lib.hid (HZ6.out.below hb)
         clear hb hz))
    have HW12 := Lib.hid HBW
    have HX0 := Lib.hid (HZ9.out.below HBL)
    have l0 := cell_below l0 HBL (Nat.le_refl _); have l1 := cell_below l1 HBL (Nat.le_refl _); have l2 := cell_below l2 HBL (Nat.le_refl _)
    have o0 := cell_below o0 HBL (Nat.le_refl _); have o1 := cell_below o1 HBL (Nat.le_refl _); have o2 := cell_below o2 HBL (Nat.le_refl _)
    clear HBL HBW c0 c1 c2 c3 c4 c5 d0 d1 d2 d3 d4 d5
    clear HM12 HM21 HM22
    have HCM : Hid (∀ {b1 b2 : Bool} {A1 A2 : Option Addr} {n1 n2 k1 k2 : Nat} (w' : World), IntP AnyB w' (.agg #[.bool b1, .slice A1 n1 k1]) z.man → IntP AnyB w' (.agg #[.bool b2, .slice A2 n2 k2]) z.man → Calls Tryz.prog 244 #[.agg #[.bool b1, .slice A1 n1 k1, .int .i64 z.exp], .agg #[.bool b2, .slice A2 n2 k2, .int .i64 z.exp]] w' (RetK w' 0)) := Lib.hid fun w' h h' => by
      have := cmpD_any (p := fun b => b < w'.heap.size) (q := fun b => b < w'.heap.size) (x := z) (y := z) ⟨_, _, _, _, rfl, h.weak fun b _ h => h⟩ ⟨_, _, _, _, rfl, h'.weak fun b _ h => h⟩ (fun b hb => hb) (fun b hb => hb) SS.out SS.out
      rwa [cmpD_self] at this
    have HBS : Hid (Below w12.heap.size w12 w12) := Lib.hid (Below.refl _ _)
    go_wp2_with fail
    go_loopw [35] (fun i wr => ∃ k : Int, (0 ≤ k ∧ k ≤ 3) ∧ i = .int .i64 k ∧ Hid (Below w12.heap.size w12 wr)) (fun i _ => (3 - intOf i).toNat)
    case atStart => exact ⟨0, by omega, rfl, HBS⟩
    case round =>
      obtain ⟨kk, hkk, rfl, HR2⟩ := hrel
      have hbr := HR2.out
      have l0 := cell_below l0 hbr (Nat.le_refl _); have l1 := cell_below l1 hbr (Nat.le_refl _); have l2 := cell_below l2 hbr (Nat.le_refl _)
      have o0 := cell_below o0 hbr (Nat.le_refl _); have o1 := cell_below o1 hbr (Nat.le_refl _); have o2 := cell_below o2 hbr (Nat.le_refl _)
      have HX1 := Lib.hid (HX0.out.below hbr); have HE5 := Lib.hid (HZ57.out.below hbr); have HE6 := Lib.hid (HZ67.out.below hbr); have HE7 := Lib.hid (HZ7.out.below hbr)
      clear hbr
      rcases (show kk = 0 ∨ kk = 1 ∨ kk = 2 ∨ kk = 3 by omega) with rfl | rfl | rfl | rfl
      · have hix := index3_0 (.bool b5) (.slice A5 n5 k5) (.int .i64 z.exp) (.bool b6) (.slice A6 n6 k6) (.int .i64 z.exp) (.bool b7) (.slice A7 n7 k7) (.int .i64 z.exp)
        obtain ⟨wa, hwa, hba, hsa, q1⟩ := pro1 wr (.cells #[Value.bool false, Value.slice none 0 0, .int .i64 0] 172)
        obtain ⟨e0, e1, e2, e3, e4, e5⟩ := cells3 q1
        have S1 := set3 q1 (.bool b5) (.slice A5 n5 k5) (.int .i64 z.exp)
        have hc1 := hba.setCell (p := ⟨wr.heap.size, 0, none⟩) (Nat.le_refl _) (.bool b5)
        have hc2 := hc1.setCell (p := ⟨wr.heap.size, 1, none⟩) (Nat.le_refl _) (.slice A5 n5 k5)
        have hc3 := hc2.setCell (p := ⟨wr.heap.size, 2, none⟩) (Nat.le_refl _) (.int .i64 z.exp)
        clear hc1 hc2 hba hsa q1
        have F := And.intro S1 hc3
        clear S1 hc3
        generalize hW : ((wa.setCell ⟨wr.heap.size, 0, none⟩ (.bool b5)).setCell ⟨wr.heap.size, 1, none⟩ (.slice A5 n5 k5)).setCell ⟨wr.heap.size, 2, none⟩ (.int .i64 z.exp) = wb at F
        obtain ⟨S1, hc3⟩ := F
        obtain ⟨x0, x1, x2, -, -, -⟩ := cells3 S1
        have l0 := cell_below l0 hc3 (Nat.le_refl _); have l1 := cell_below l1 hc3 (Nat.le_refl _); have l2 := cell_below l2 hc3 (Nat.le_refl _)
        have o0 := cell_below o0 hc3 (Nat.le_refl _); have o1 := cell_below o1 hc3 (Nat.le_refl _); have o2 := cell_below o2 hc3 (Nat.le_refl _)
        have HCA := Lib.hid (HCM.out wb (HE5.out.below hc3) (HX1.out.below hc3))
        have HBb := Lib.hid (below_up HR2.out hc3)
        have HEb := Lib.hid (HE5.out.below hc3); have HXb := Lib.hid (HX1.out.below hc3)
        clear S1 hc3
        go_wp2_with fail
        refine HCA.out.mono ?_
        rintro r wc ⟨rfl, hb⟩
        have l0 := cell_below l0 hb (Nat.le_refl _)
        have l1 := cell_below l1 hb (Nat.le_refl _)
        have l2 := cell_below l2 hb (Nat.le_refl _)
        have o0 := cell_below o0 hb (Nat.le_refl _)
        have o1 := cell_below o1 hb (Nat.le_refl _)
        have o2 := cell_below o2 hb (Nat.le_refl _)
        have x0 := cell_below x0 hb (Nat.le_refl _)
        have x1 := cell_below x1 hb (Nat.le_refl _)
        have x2 := cell_below x2 hb (Nat.le_refl _)
        have HCB := Lib.hid (HCM.out wc (HEb.out.below hb) (HXb.out.below hb))
        have HBc := Lib.hid (below_up HBb.out hb)
        clear hb
        go_wp2_with fail
        refine HCB.out.mono ?_
        rintro r wd ⟨rfl, hb⟩
        have HBd := Lib.hid (below_up HBc.out hb)
        clear hb
        go_wp2
        go_roundw
        case rel => exact ⟨1, by omega, by go_num, HBd⟩
        case measure => simp [intOf]
      · have hix := index3_1 (.bool b5) (.slice A5 n5 k5) (.int .i64 z.exp) (.bool b6) (.slice A6 n6 k6) (.int .i64 z.exp) (.bool b7) (.slice A7 n7 k7) (.int .i64 z.exp)
        obtain ⟨wa, hwa, hba, hsa, q1⟩ := pro1 wr (.cells #[Value.bool false, Value.slice none 0 0, .int .i64 0] 172)
        obtain ⟨e0, e1, e2, e3, e4, e5⟩ := cells3 q1
        have S1 := set3 q1 (.bool b6) (.slice A6 n6 k6) (.int .i64 z.exp)
        have hc1 := hba.setCell (p := ⟨wr.heap.size, 0, none⟩) (Nat.le_refl _) (.bool b6)
        have hc2 := hc1.setCell (p := ⟨wr.heap.size, 1, none⟩) (Nat.le_refl _) (.slice A6 n6 k6)
        have hc3 := hc2.setCell (p := ⟨wr.heap.size, 2, none⟩) (Nat.le_refl _) (.int .i64 z.exp)
        clear hc1 hc2 hba hsa q1
        have F := And.intro S1 hc3
        clear S1 hc3
        generalize hW : ((wa.setCell ⟨wr.heap.size, 0, none⟩ (.bool b6)).setCell ⟨wr.heap.size, 1, none⟩ (.slice A6 n6 k6)).setCell ⟨wr.heap.size, 2, none⟩ (.int .i64 z.exp) = wb at F
        obtain ⟨S1, hc3⟩ := F
        obtain ⟨x0, x1, x2, -, -, -⟩ := cells3 S1
        have l0 := cell_below l0 hc3 (Nat.le_refl _); have l1 := cell_below l1 hc3 (Nat.le_refl _); have l2 := cell_below l2 hc3 (Nat.le_refl _)
        have o0 := cell_below o0 hc3 (Nat.le_refl _); have o1 := cell_below o1 hc3 (Nat.le_refl _); have o2 := cell_below o2 hc3 (Nat.le_refl _)
        have HCA := Lib.hid (HCM.out wb (HE6.out.below hc3) (HX1.out.below hc3))
        have HBb := Lib.hid (below_up HR2.out hc3)
        have HEb := Lib.hid (HE6.out.below hc3); have HXb := Lib.hid (HX1.out.below hc3)
        clear S1 hc3
        go_wp2_with fail
        refine HCA.out.mono ?_
        rintro r wc ⟨rfl, hb⟩
        have l0 := cell_below l0 hb (Nat.le_refl _)
        have l1 := cell_below l1 hb (Nat.le_refl _)
        have l2 := cell_below l2 hb (Nat.le_refl _)
        have o0 := cell_below o0 hb (Nat.le_refl _)
        have o1 := cell_below o1 hb (Nat.le_refl _)
        have o2 := cell_below o2 hb (Nat.le_refl _)
        have x0 := cell_below x0 hb (Nat.le_refl _)
        have x1 := cell_below x1 hb (Nat.le_refl _)
        have x2 := cell_below x2 hb (Nat.le_refl _)
        have HCB := Lib.hid (HCM.out wc (HEb.out.below hb) (HXb.out.below hb))
        have HBc := Lib.hid (below_up HBb.out hb)
        clear hb
        go_wp2_with fail
        refine HCB.out.mono ?_
        rintro r wd ⟨rfl, hb⟩
        have HBd := Lib.hid (below_up HBc.out hb)
        clear hb
        go_wp2
        go_roundw
        case rel => exact ⟨2, by omega, by go_num, HBd⟩
        case measure => simp [intOf]
      · have hix := index3_2 (.bool b5) (.slice A5 n5 k5) (.int .i64 z.exp) (.bool b6) (.slice A6 n6 k6) (.int .i64 z.exp) (.bool b7) (.slice A7 n7 k7) (.int .i64 z.exp)
        obtain ⟨wa, hwa, hba, hsa, q1⟩ := pro1 wr (.cells #[Value.bool false, Value.slice none 0 0, .int .i64 0] 172)
        obtain ⟨e0, e1, e2, e3, e4, e5⟩ := cells3 q1
        have S1 := set3 q1 (.bool b7) (.slice A7 n7 k7) (.int .i64 z.exp)
        have hc1 := hba.setCell (p := ⟨wr.heap.size, 0, none⟩) (Nat.le_refl _) (.bool b7)
        have hc2 := hc1.setCell (p := ⟨wr.heap.size, 1, none⟩) (Nat.le_refl _) (.slice A7 n7 k7)
        have hc3 := hc2.setCell (p := ⟨wr.heap.size, 2, none⟩) (Nat.le_refl _) (.int .i64 z.exp)
        clear hc1 hc2 hba hsa q1
        have F := And.intro S1 hc3
        clear S1 hc3
        generalize hW : ((wa.setCell ⟨wr.heap.size, 0, none⟩ (.bool b7)).setCell ⟨wr.heap.size, 1, none⟩ (.slice A7 n7 k7)).setCell ⟨wr.heap.size, 2, none⟩ (.int .i64 z.exp) = wb at F
        obtain ⟨S1, hc3⟩ := F
        obtain ⟨x0, x1, x2, -, -, -⟩ := cells3 S1
        have l0 := cell_below l0 hc3 (Nat.le_refl _); have l1 := cell_below l1 hc3 (Nat.le_refl _); have l2 := cell_below l2 hc3 (Nat.le_refl _)
        have o0 := cell_below o0 hc3 (Nat.le_refl _); have o1 := cell_below o1 hc3 (Nat.le_refl _); have o2 := cell_below o2 hc3 (Nat.le_refl _)
        have HCA := Lib.hid (HCM.out wb (HE7.out.below hc3) (HX1.out.below hc3))
        have HBb := Lib.hid (below_up HR2.out hc3)
        have HEb := Lib.hid (HE7.out.below hc3); have HXb := Lib.hid (HX1.out.below hc3)
        clear S1 hc3
        go_wp2_with fail
        refine HCA.out.mono ?_
        rintro r wc ⟨rfl, hb⟩
        have l0 := cell_below l0 hb (Nat.le_refl _)
        have l1 := cell_below l1 hb (Nat.le_refl _)
        have l2 := cell_below l2 hb (Nat.le_refl _)
        have o0 := cell_below o0 hb (Nat.le_refl _)
        have o1 := cell_below o1 hb (Nat.le_refl _)
        have o2 := cell_below o2 hb (Nat.le_refl _)
        have x0 := cell_below x0 hb (Nat.le_refl _)
        have x1 := cell_below x1 hb (Nat.le_refl _)
        have x2 := cell_below x2 hb (Nat.le_refl _)
        have HCB := Lib.hid (HCM.out wc (HEb.out.below hb) (HXb.out.below hb))
        have HBc := Lib.hid (below_up HBb.out hb)
        clear hb
        go_wp2_with fail
        refine HCB.out.mono ?_
        rintro r wd ⟨rfl, hb⟩
        have HBd := Lib.hid (below_up HBc.out hb)
        clear hb
        go_wp2
        go_roundw
        case rel => exact ⟨3, by omega, by go_num, HBd⟩
        case measure => simp [intOf]
      · have hb12 := HR2.out
        have HW13 := Lib.hid (below_up HW12.out hb12)
        have hdr : Below wr.heap.size wr wr.drew := (Below.refl _ _).drew
        have l0 := cell_below l0 hdr (Nat.le_refl _); have l1 := cell_below l1 hdr (Nat.le_refl _); have l2 := cell_below l2 hdr (Nat.le_refl _)
        have o0 := cell_below o0 hdr (Nat.le_refl _); have o1 := cell_below o1 hdr (Nat.le_refl _); have o2 := cell_below o2 hdr (Nat.le_refl _)
        have HB13 := Lib.hid (HB.out.trans (HW13.out.mono HB.out.size))
        have B39 := Lib.hid (heap_below B3.out HW13.out (heap_lt B3.out))
        have HRR : Hid (∀ (w' : World) (dir : Int), Below wr.heap.size wr w' → Calls Tryz.prog 242 #[.agg #[.bool b4, .slice A4 n4 k4, .int .i64 z.exp], .int .i64 P, .int .i64 dir] w' (RetD w'.heap.size w' z)) := Lib.hid fun w' dir h => HR.out w' _ dir (below_up HW13.out h) ⟨_, _, _, _, rfl, HX1.out.below h⟩
        have n1 : w.heap.size + 1 + 1 ≠ w6.heap.size := by have := HBW0.out.size; have := HS.out; omega
        have n2 : w.heap.size + 1 + 1 ≠ w6.heap.size + 1 := by have := HBW0.out.size; have := HS.out; omega
        have n3 : w.heap.size + 1 ≠ w6.heap.size := by have := HBW0.out.size; have := HS.out; omega
        have M1 : True := trivial
        have HBW := hdr
        clear hb12 hdr HR HCM
        go_wp2_with fail
        go_region_held3 (fun w' => w'.cell? ⟨w6.heap.size, 0, none⟩ = some (.bool b4) ∧ w'.cell? ⟨w6.heap.size, 1, none⟩ = some (.slice A4 n4 k4) ∧ w'.cell? ⟨w6.heap.size, 2, none⟩ = some (.int .i64 z.exp) ∧ w'.cell? ⟨w6.heap.size + 1, 0, none⟩ = some (.bool b4) ∧ w'.cell? ⟨w6.heap.size + 1, 1, none⟩ = some (.slice A4 n4 k4) ∧ w'.cell? ⟨w6.heap.size + 1, 2, none⟩ = some (.int .i64 z.exp)) (go_keep)
          (first
          | (go_at_call 242
             clear M1
             refine (HRR.out _ (-1) HBW).mono ?_
             rintro r w15 ⟨hb, v8, hz⟩
             obtain ⟨rfl, hz⟩ := hz
             obtain ⟨b8, A8, n8, k8, rfl, hz⟩ := hz
             have l0 := cell_below l0 hb (Nat.le_refl _)
             have l1 := cell_below l1 hb (Nat.le_refl _)
             have l2 := cell_below l2 hb (Nat.le_refl _)
             have o0 := cell_below o0 hb (Nat.le_refl _)
             have o1 := cell_below o1 hb (Nat.le_refl _)
             have o2 := cell_below o2 hb (Nat.le_refl _)
             have HSZ3 := Lib.hid HBW.size
             have HBW := below_up HBW hb
             have HZA := Lib.hid hz
             clear hb hz)
          | (go_at_call 242
             refine (HRR.out _ 1 HBW).mono ?_
             rintro r w16 ⟨hb, v9, hz⟩
             obtain ⟨rfl, hz⟩ := hz
             obtain ⟨b9, A9, n9, k9, rfl, hz⟩ := hz
             have l0 := cell_below l0 hb (Nat.le_refl _)
             have l1 := cell_below l1 hb (Nat.le_refl _)
             have l2 := cell_below l2 hb (Nat.le_refl _)
             have o0 := cell_below o0 hb (Nat.le_refl _)
             have o1 := cell_below o1 hb (Nat.le_refl _)
             have o2 := cell_below o2 hb (Nat.le_refl _)
             have HSZ4 := Lib.hid HBW.size
             have HBW := below_up HBW hb
             have HZC := Lib.hid hz
             have HZB := Lib.hid (HZA.out.below hb)
             have B24 := Lib.hid (heap_below B39.out HBW (heap_lt B39.out))
             obtain ⟨e0, e1, e2, e3, e4, e5⟩ := cells6 B24.out
             obtain ⟨f0, f1, f2, f3, f4, f5⟩ := free6 B24.out
             clear hb hz))
        have hq : ∀ b, wr.heap.size ≤ b → w.heap.size ≤ b ∧ b ≠ w.heap.size + 2 := fun b hb => by have := HS.out; have := HW13.out.size; omega
        obtain ⟨HFF, hFF⟩ := retl_store (HB13.out.trans (HBW.mono HB13.out.size)) (g := w.heap.size + 2) (by omega) B24.out (HZB.out.weak (q := fun b => wr.heap.size ≤ b) fun b hb _ => Nat.le_trans HSZ3.out hb) (HZC.out.weak (q := fun b => wr.heap.size ≤ b) fun b hb _ => Nat.le_trans HSZ4.out hb) hq
        replace hFF := Lib.hid hFF
        clear hq
        go_wp2
        obtain ⟨f0, f1, f2, f3, f4, f5⟩ := cells6 hFF.out
        unfold put6 at f0 f1 f2 f3 f4 f5
        refine bodyPost_ret (v := .agg #[_, _, _, _, _, _]) (by simp [results, Tryz.results214, go_sem, f0, f1, f2, f3, f4, f5]; first | exact ⟨rfl, rfl, rfl, rfl, rfl, rfl⟩ | rfl) rfl ?_
        exact HFF.out
  · have F : Below w6.heap.size w6 (((((((w8.setCell ⟨w6.heap.size + 1, 0, none⟩ (.bool b4)).setCell ⟨w6.heap.size + 1, 1, none⟩ (.slice A4 n4 k4)).setCell ⟨w6.heap.size + 1, 2, none⟩ (.int .i64 z.exp)).setCell ⟨w6.heap.size, 0, none⟩ (.bool b4)).setCell ⟨w6.heap.size, 1, none⟩ (.slice A4 n4 k4)).setCell ⟨w6.heap.size, 2, none⟩ (.int .i64 z.exp))).drew ∧ (((((((w8.setCell ⟨w6.heap.size + 1, 0, none⟩ (.bool b4)).setCell ⟨w6.heap.size + 1, 1, none⟩ (.slice A4 n4 k4)).setCell ⟨w6.heap.size + 1, 2, none⟩ (.int .i64 z.exp)).setCell ⟨w6.heap.size, 0, none⟩ (.bool b4)).setCell ⟨w6.heap.size, 1, none⟩ (.slice A4 n4 k4)).setCell ⟨w6.heap.size, 2, none⟩ (.int .i64 z.exp))).drew.heap[w6.heap.size + 1]? = some (.cells #[.bool b4, .slice A4 n4 k4, .int .i64 z.exp] 172 (0, 0)) ∧ (((((((w8.setCell ⟨w6.heap.size + 1, 0, none⟩ (.bool b4)).setCell ⟨w6.heap.size + 1, 1, none⟩ (.slice A4 n4 k4)).setCell ⟨w6.heap.size + 1, 2, none⟩ (.int .i64 z.exp)).setCell ⟨w6.heap.size, 0, none⟩ (.bool b4)).setCell ⟨w6.heap.size, 1, none⟩ (.slice A4 n4 k4)).setCell ⟨w6.heap.size, 2, none⟩ (.int .i64 z.exp))).drew.heap[w6.heap.size]? = some (.cells #[.bool b4, .slice A4 n4 k4, .int .i64 z.exp] 172 (0, 0)) :=
      st2_facts (below_up hb7 hb8) (by omega) (by omega) (by omega) t2 t1' _ _ _
    clear t1 t1' t2 s7 s8
    revert F
    clear i0 i1 i2 i3 i4 i5 j0 j1 j2 j3 j4 j5 l0 l1 l2 l3 l4 l5 o0 o1 o2 o3 o4 o5 u0 u1 u2 v0 v1 v2 ga0 ga1 ga2 gb0 gb1 gb2 g0 g1 g2 hw7 hw8 hs7 hs8 hb7 hb8
    generalize (((((((w8.setCell ⟨w6.heap.size + 1, 0, none⟩ (.bool b4)).setCell ⟨w6.heap.size + 1, 1, none⟩ (.slice A4 n4 k4)).setCell ⟨w6.heap.size + 1, 2, none⟩ (.int .i64 z.exp)).setCell ⟨w6.heap.size, 0, none⟩ (.bool b4)).setCell ⟨w6.heap.size, 1, none⟩ (.slice A4 n4 k4)).setCell ⟨w6.heap.size, 2, none⟩ (.int .i64 z.exp))).drew = w9
    rintro ⟨hb68, T3, T2⟩
    have HZ9 := Lib.hid (HZ.out.below hb68)
    replace c0 := cell_below c0 hb68 (Nat.le_refl _)
    replace c1 := cell_below c1 hb68 (Nat.le_refl _)
    replace c2 := cell_below c2 hb68 (Nat.le_refl _)
    replace c3 := cell_below c3 hb68 (Nat.le_refl _)
    replace c4 := cell_below c4 hb68 (Nat.le_refl _)
    replace c5 := cell_below c5 hb68 (Nat.le_refl _)
    replace d0 := cell_below d0 hb68 (Nat.le_refl _)
    replace d1 := cell_below d1 hb68 (Nat.le_refl _)
    replace d2 := cell_below d2 hb68 (Nat.le_refl _)
    replace d3 := cell_below d3 hb68 (Nat.le_refl _)
    replace d4 := cell_below d4 hb68 (Nat.le_refl _)
    replace d5 := cell_below d5 hb68 (Nat.le_refl _)
    obtain ⟨l0, l1, l2, -, -, -⟩ := cells3 T3
    obtain ⟨o0, o1, o2, -, -, -⟩ := cells3 T2
    have HBW0 := Lib.hid HBW.out
    have HBW := below_up HBW.out hb68
    clear T2 T3 hb68 HS1 HZ HM11
    go_wp2_with fail
    have hdr : Below w9.heap.size w9 w9.drew := (Below.refl _ _).drew
    replace c0 := cell_below c0 hdr (Nat.le_refl _)
    replace c1 := cell_below c1 hdr (Nat.le_refl _)
    replace c2 := cell_below c2 hdr (Nat.le_refl _)
    replace c3 := cell_below c3 hdr (Nat.le_refl _)
    replace c4 := cell_below c4 hdr (Nat.le_refl _)
    replace c5 := cell_below c5 hdr (Nat.le_refl _)
    replace d0 := cell_below d0 hdr (Nat.le_refl _)
    replace d1 := cell_below d1 hdr (Nat.le_refl _)
    replace d2 := cell_below d2 hdr (Nat.le_refl _)
    replace d3 := cell_below d3 hdr (Nat.le_refl _)
    replace d4 := cell_below d4 hdr (Nat.le_refl _)
    replace d5 := cell_below d5 hdr (Nat.le_refl _)
    have HBW := HBW.drew
    have HBL := hdr
    clear hdr
    have M1 : True := trivial
    have M2 : True := trivial
    go_region_held3 (fun w' => w'.cell? ⟨w.heap.size, 0, none⟩ = some (.bool ba) ∧ w'.cell? ⟨w.heap.size, 1, none⟩ = some (.slice A n c) ∧ w'.cell? ⟨w.heap.size, 2, none⟩ = some (.int .i64 x.exp) ∧ w'.cell? ⟨w.heap.size, 3, none⟩ = some (.bool bb) ∧ w'.cell? ⟨w.heap.size, 4, none⟩ = some (.slice A' n' c') ∧ w'.cell? ⟨w.heap.size, 5, none⟩ = some (.int .i64 x.exp) ∧ w'.cell? ⟨w.heap.size + 1, 0, none⟩ = some (.bool bd) ∧ w'.cell? ⟨w.heap.size + 1, 1, none⟩ = some (.slice E m k) ∧ w'.cell? ⟨w.heap.size + 1, 2, none⟩ = some (.int .i64 y.exp) ∧ w'.cell? ⟨w.heap.size + 1, 3, none⟩ = some (.bool be) ∧ w'.cell? ⟨w.heap.size + 1, 4, none⟩ = some (.slice E' m' k') ∧ w'.cell? ⟨w.heap.size + 1, 5, none⟩ = some (.int .i64 y.exp)) (go_keep)
      (first
      | (go_at_call 243
         clear M1
         with_reducible refine (HM12.out _ (by assumption)).mono ?_
         rintro r w10 ⟨hb, v5, hz⟩
         obtain ⟨rfl, hz⟩ := hz
         obtain ⟨b5, A5, n5, k5, rfl, hz⟩ := hz
         have c0 := cell_below c0 hb (Nat.le_refl _)
         have c1 := cell_below c1 hb (Nat.le_refl _)
         have c2 := cell_below c2 hb (Nat.le_refl _)
         have c3 := cell_below c3 hb (Nat.le_refl _)
         have c4 := cell_below c4 hb (Nat.le_refl _)
         have c5 := cell_below c5 hb (Nat.le_refl _)
         have d0 := cell_below d0 hb (Nat.le_refl _)
         have d1 := cell_below d1 hb (Nat.le_refl _)
         have d2 := cell_below d2 hb (Nat.le_refl _)
         have d3 := cell_below d3 hb (Nat.le_refl _)
         have d4 := cell_below d4 hb (Nat.le_refl _)
         have d5 := cell_below d5 hb (Nat.le_refl _)
         have HBW := below_up HBW hb
         have HBL := below_up HBL hb
         have HZ5 := Lib.hid hz.any
         clear hb hz)
      | (go_at_call 243
         clear M2
         with_reducible refine (HM21.out _ (by assumption)).mono ?_
         rintro r w11 ⟨hb, v6, hz⟩
         obtain ⟨rfl, hz⟩ := hz
         obtain ⟨b6, A6, n6, k6, rfl, hz⟩ := hz
         have c0 := cell_below c0 hb (Nat.le_refl _)
         have c1 := cell_below c1 hb (Nat.le_refl _)
         have c2 := cell_below c2 hb (Nat.le_refl _)
         have c3 := cell_below c3 hb (Nat.le_refl _)
         have c4 := cell_below c4 hb (Nat.le_refl _)
         have c5 := cell_below c5 hb (Nat.le_refl _)
         have d0 := cell_below d0 hb (Nat.le_refl _)
         have d1 := cell_below d1 hb (Nat.le_refl _)
         have d2 := cell_below d2 hb (Nat.le_refl _)
         have d3 := cell_below d3 hb (Nat.le_refl _)
         have d4 := cell_below d4 hb (Nat.le_refl _)
         have d5 := cell_below d5 hb (Nat.le_refl _)
         have HBW := below_up HBW hb
         have HBL := below_up HBL hb
         have HZ6 := Lib.hid hz.any
         have HZ56 := Lib.hid (HZ5.out.below hb)
         clear hb hz)
      | (go_at_call 243
         with_reducible refine (HM22.out _ (by assumption)).mono ?_
         rintro r w12 ⟨hb, v7, hz⟩
         obtain ⟨rfl, hz⟩ := hz
         obtain ⟨b7, A7, n7, k7, rfl, hz⟩ := hz
         have c0 := cell_below c0 hb (Nat.le_refl _)
         have c1 := cell_below c1 hb (Nat.le_refl _)
         have c2 := cell_below c2 hb (Nat.le_refl _)
         have c3 := cell_below c3 hb (Nat.le_refl _)
         have c4 := cell_below c4 hb (Nat.le_refl _)
         have c5 := cell_below c5 hb (Nat.le_refl _)
         have d0 := cell_below d0 hb (Nat.le_refl _)
         have d1 := cell_below d1 hb (Nat.le_refl _)
         have d2 := cell_below d2 hb (Nat.le_refl _)
         have d3 := cell_below d3 hb (Nat.le_refl _)
         have d4 := cell_below d4 hb (Nat.le_refl _)
         have d5 := cell_below d5 hb (Nat.le_refl _)
         have HBW := below_up HBW hb
         have HBL := below_up HBL hb
         have HZ7 := Lib.hid hz.any
         have HZ57 := Lib.hid (HZ56.out.below hb)
         have HZ67 := Lib.hid (HZ6.out.below hb)
         clear hb hz))
    have HW12 := Lib.hid HBW
    have HX0 := Lib.hid (HZ9.out.below HBL)
    have l0 := cell_below l0 HBL (Nat.le_refl _); have l1 := cell_below l1 HBL (Nat.le_refl _); have l2 := cell_below l2 HBL (Nat.le_refl _)
    have o0 := cell_below o0 HBL (Nat.le_refl _); have o1 := cell_below o1 HBL (Nat.le_refl _); have o2 := cell_below o2 HBL (Nat.le_refl _)
    clear HBL HBW c0 c1 c2 c3 c4 c5 d0 d1 d2 d3 d4 d5
    clear HM12 HM21 HM22
    have HCM : Hid (∀ {b1 b2 : Bool} {A1 A2 : Option Addr} {n1 n2 k1 k2 : Nat} (w' : World), IntP AnyB w' (.agg #[.bool b1, .slice A1 n1 k1]) z.man → IntP AnyB w' (.agg #[.bool b2, .slice A2 n2 k2]) z.man → Calls Tryz.prog 244 #[.agg #[.bool b1, .slice A1 n1 k1, .int .i64 z.exp], .agg #[.bool b2, .slice A2 n2 k2, .int .i64 z.exp]] w' (RetK w' 0)) := Lib.hid fun w' h h' => by
      have := cmpD_any (p := fun b => b < w'.heap.size) (q := fun b => b < w'.heap.size) (x := z) (y := z) ⟨_, _, _, _, rfl, h.weak fun b _ h => h⟩ ⟨_, _, _, _, rfl, h'.weak fun b _ h => h⟩ (fun b hb => hb) (fun b hb => hb) SS.out SS.out
      rwa [cmpD_self] at this
    have HBS : Hid (Below w12.heap.size w12 w12) := Lib.hid (Below.refl _ _)
    go_wp2_with fail
    go_loopw [35] (fun i wr => ∃ k : Int, (0 ≤ k ∧ k ≤ 3) ∧ i = .int .i64 k ∧ Hid (Below w12.heap.size w12 wr)) (fun i _ => (3 - intOf i).toNat)
    case atStart => exact ⟨0, by omega, rfl, HBS⟩
    case round =>
      obtain ⟨kk, hkk, rfl, HR2⟩ := hrel
      have hbr := HR2.out
      have l0 := cell_below l0 hbr (Nat.le_refl _); have l1 := cell_below l1 hbr (Nat.le_refl _); have l2 := cell_below l2 hbr (Nat.le_refl _)
      have o0 := cell_below o0 hbr (Nat.le_refl _); have o1 := cell_below o1 hbr (Nat.le_refl _); have o2 := cell_below o2 hbr (Nat.le_refl _)
      have HX1 := Lib.hid (HX0.out.below hbr); have HE5 := Lib.hid (HZ57.out.below hbr); have HE6 := Lib.hid (HZ67.out.below hbr); have HE7 := Lib.hid (HZ7.out.below hbr)
      clear hbr
      rcases (show kk = 0 ∨ kk = 1 ∨ kk = 2 ∨ kk = 3 by omega) with rfl | rfl | rfl | rfl
      · have hix := index3_0 (.bool b5) (.slice A5 n5 k5) (.int .i64 z.exp) (.bool b6) (.slice A6 n6 k6) (.int .i64 z.exp) (.bool b7) (.slice A7 n7 k7) (.int .i64 z.exp)
        obtain ⟨wa, hwa, hba, hsa, q1⟩ := pro1 wr (.cells #[Value.bool false, Value.slice none 0 0, .int .i64 0] 172)
        obtain ⟨e0, e1, e2, e3, e4, e5⟩ := cells3 q1
        have S1 := set3 q1 (.bool b5) (.slice A5 n5 k5) (.int .i64 z.exp)
        have hc1 := hba.setCell (p := ⟨wr.heap.size, 0, none⟩) (Nat.le_refl _) (.bool b5)
        have hc2 := hc1.setCell (p := ⟨wr.heap.size, 1, none⟩) (Nat.le_refl _) (.slice A5 n5 k5)
        have hc3 := hc2.setCell (p := ⟨wr.heap.size, 2, none⟩) (Nat.le_refl _) (.int .i64 z.exp)
        clear hc1 hc2 hba hsa q1
        have F := And.intro S1 hc3
        clear S1 hc3
        generalize hW : ((wa.setCell ⟨wr.heap.size, 0, none⟩ (.bool b5)).setCell ⟨wr.heap.size, 1, none⟩ (.slice A5 n5 k5)).setCell ⟨wr.heap.size, 2, none⟩ (.int .i64 z.exp) = wb at F
        obtain ⟨S1, hc3⟩ := F
        obtain ⟨x0, x1, x2, -, -, -⟩ := cells3 S1
        have l0 := cell_below l0 hc3 (Nat.le_refl _); have l1 := cell_below l1 hc3 (Nat.le_refl _); have l2 := cell_below l2 hc3 (Nat.le_refl _)
        have o0 := cell_below o0 hc3 (Nat.le_refl _); have o1 := cell_below o1 hc3 (Nat.le_refl _); have o2 := cell_below o2 hc3 (Nat.le_refl _)
        have HCA := Lib.hid (HCM.out wb (HE5.out.below hc3) (HX1.out.below hc3))
        have HBb := Lib.hid (below_up HR2.out hc3)
        have HEb := Lib.hid (HE5.out.below hc3); have HXb := Lib.hid (HX1.out.below hc3)
        clear S1 hc3
        go_wp2_with fail
        refine HCA.out.mono ?_
        rintro r wc ⟨rfl, hb⟩
        have l0 := cell_below l0 hb (Nat.le_refl _)
        have l1 := cell_below l1 hb (Nat.le_refl _)
        have l2 := cell_below l2 hb (Nat.le_refl _)
        have o0 := cell_below o0 hb (Nat.le_refl _)
        have o1 := cell_below o1 hb (Nat.le_refl _)
        have o2 := cell_below o2 hb (Nat.le_refl _)
        have x0 := cell_below x0 hb (Nat.le_refl _)
        have x1 := cell_below x1 hb (Nat.le_refl _)
        have x2 := cell_below x2 hb (Nat.le_refl _)
        have HCB := Lib.hid (HCM.out wc (HEb.out.below hb) (HXb.out.below hb))
        have HBc := Lib.hid (below_up HBb.out hb)
        clear hb
        go_wp2_with fail
        refine HCB.out.mono ?_
        rintro r wd ⟨rfl, hb⟩
        have HBd := Lib.hid (below_up HBc.out hb)
        clear hb
        go_wp2
        go_roundw
        case rel => exact ⟨1, by omega, by go_num, HBd⟩
        case measure => simp [intOf]
      · have hix := index3_1 (.bool b5) (.slice A5 n5 k5) (.int .i64 z.exp) (.bool b6) (.slice A6 n6 k6) (.int .i64 z.exp) (.bool b7) (.slice A7 n7 k7) (.int .i64 z.exp)
        obtain ⟨wa, hwa, hba, hsa, q1⟩ := pro1 wr (.cells #[Value.bool false, Value.slice none 0 0, .int .i64 0] 172)
        obtain ⟨e0, e1, e2, e3, e4, e5⟩ := cells3 q1
        have S1 := set3 q1 (.bool b6) (.slice A6 n6 k6) (.int .i64 z.exp)
        have hc1 := hba.setCell (p := ⟨wr.heap.size, 0, none⟩) (Nat.le_refl _) (.bool b6)
        have hc2 := hc1.setCell (p := ⟨wr.heap.size, 1, none⟩) (Nat.le_refl _) (.slice A6 n6 k6)
        have hc3 := hc2.setCell (p := ⟨wr.heap.size, 2, none⟩) (Nat.le_refl _) (.int .i64 z.exp)
        clear hc1 hc2 hba hsa q1
        have F := And.intro S1 hc3
        clear S1 hc3
        generalize hW : ((wa.setCell ⟨wr.heap.size, 0, none⟩ (.bool b6)).setCell ⟨wr.heap.size, 1, none⟩ (.slice A6 n6 k6)).setCell ⟨wr.heap.size, 2, none⟩ (.int .i64 z.exp) = wb at F
        obtain ⟨S1, hc3⟩ := F
        obtain ⟨x0, x1, x2, -, -, -⟩ := cells3 S1
        have l0 := cell_below l0 hc3 (Nat.le_refl _); have l1 := cell_below l1 hc3 (Nat.le_refl _); have l2 := cell_below l2 hc3 (Nat.le_refl _)
        have o0 := cell_below o0 hc3 (Nat.le_refl _); have o1 := cell_below o1 hc3 (Nat.le_refl _); have o2 := cell_below o2 hc3 (Nat.le_refl _)
        have HCA := Lib.hid (HCM.out wb (HE6.out.below hc3) (HX1.out.below hc3))
        have HBb := Lib.hid (below_up HR2.out hc3)
        have HEb := Lib.hid (HE6.out.below hc3); have HXb := Lib.hid (HX1.out.below hc3)
        clear S1 hc3
        go_wp2_with fail
        refine HCA.out.mono ?_
        rintro r wc ⟨rfl, hb⟩
        have l0 := cell_below l0 hb (Nat.le_refl _)
        have l1 := cell_below l1 hb (Nat.le_refl _)
        have l2 := cell_below l2 hb (Nat.le_refl _)
        have o0 := cell_below o0 hb (Nat.le_refl _)
        have o1 := cell_below o1 hb (Nat.le_refl _)
        have o2 := cell_below o2 hb (Nat.le_refl _)
        have x0 := cell_below x0 hb (Nat.le_refl _)
        have x1 := cell_below x1 hb (Nat.le_refl _)
        have x2 := cell_below x2 hb (Nat.le_refl _)
        have HCB := Lib.hid (HCM.out wc (HEb.out.below hb) (HXb.out.below hb))
        have HBc := Lib.hid (below_up HBb.out hb)
        clear hb
        go_wp2_with fail
        refine HCB.out.mono ?_
        rintro r wd ⟨rfl, hb⟩
        have HBd := Lib.hid (below_up HBc.out hb)
        clear hb
        go_wp2
        go_roundw
        case rel => exact ⟨2, by omega, by go_num, HBd⟩
        case measure => simp [intOf]
      · have hix := index3_2 (.bool b5) (.slice A5 n5 k5) (.int .i64 z.exp) (.bool b6) (.slice A6 n6 k6) (.int .i64 z.exp) (.bool b7) (.slice A7 n7 k7) (.int .i64 z.exp)
        obtain ⟨wa, hwa, hba, hsa, q1⟩ := pro1 wr (.cells #[Value.bool false, Value.slice none 0 0, .int .i64 0] 172)
        obtain ⟨e0, e1, e2, e3, e4, e5⟩ := cells3 q1
        have S1 := set3 q1 (.bool b7) (.slice A7 n7 k7) (.int .i64 z.exp)
        have hc1 := hba.setCell (p := ⟨wr.heap.size, 0, none⟩) (Nat.le_refl _) (.bool b7)
        have hc2 := hc1.setCell (p := ⟨wr.heap.size, 1, none⟩) (Nat.le_refl _) (.slice A7 n7 k7)
        have hc3 := hc2.setCell (p := ⟨wr.heap.size, 2, none⟩) (Nat.le_refl _) (.int .i64 z.exp)
        clear hc1 hc2 hba hsa q1
        have F := And.intro S1 hc3
        clear S1 hc3
        generalize hW : ((wa.setCell ⟨wr.heap.size, 0, none⟩ (.bool b7)).setCell ⟨wr.heap.size, 1, none⟩ (.slice A7 n7 k7)).setCell ⟨wr.heap.size, 2, none⟩ (.int .i64 z.exp) = wb at F
        obtain ⟨S1, hc3⟩ := F
        obtain ⟨x0, x1, x2, -, -, -⟩ := cells3 S1
        have l0 := cell_below l0 hc3 (Nat.le_refl _); have l1 := cell_below l1 hc3 (Nat.le_refl _); have l2 := cell_below l2 hc3 (Nat.le_refl _)
        have o0 := cell_below o0 hc3 (Nat.le_refl _); have o1 := cell_below o1 hc3 (Nat.le_refl _); have o2 := cell_below o2 hc3 (Nat.le_refl _)
        have HCA := Lib.hid (HCM.out wb (HE7.out.below hc3) (HX1.out.below hc3))
        have HBb := Lib.hid (below_up HR2.out hc3)
        have HEb := Lib.hid (HE7.out.below hc3); have HXb := Lib.hid (HX1.out.below hc3)
        clear S1 hc3
        go_wp2_with fail
        refine HCA.out.mono ?_
        rintro r wc ⟨rfl, hb⟩
        have l0 := cell_below l0 hb (Nat.le_refl _)
        have l1 := cell_below l1 hb (Nat.le_refl _)
        have l2 := cell_below l2 hb (Nat.le_refl _)
        have o0 := cell_below o0 hb (Nat.le_refl _)
        have o1 := cell_below o1 hb (Nat.le_refl _)
        have o2 := cell_below o2 hb (Nat.le_refl _)
        have x0 := cell_below x0 hb (Nat.le_refl _)
        have x1 := cell_below x1 hb (Nat.le_refl _)
        have x2 := cell_below x2 hb (Nat.le_refl _)
        have HCB := Lib.hid (HCM.out wc (HEb.out.below hb) (HXb.out.below hb))
        have HBc := Lib.hid (below_up HBb.out hb)
        clear hb
        go_wp2_with fail
        refine HCB.out.mono ?_
        rintro r wd ⟨rfl, hb⟩
        have HBd := Lib.hid (below_up HBc.out hb)
        clear hb
        go_wp2
        go_roundw
        case rel => exact ⟨3, by omega, by go_num, HBd⟩
        case measure => simp [intOf]
      · have hb12 := HR2.out
        have HW13 := Lib.hid (below_up HW12.out hb12)
        have hdr : Below wr.heap.size wr wr.drew := (Below.refl _ _).drew
        have l0 := cell_below l0 hdr (Nat.le_refl _); have l1 := cell_below l1 hdr (Nat.le_refl _); have l2 := cell_below l2 hdr (Nat.le_refl _)
        have o0 := cell_below o0 hdr (Nat.le_refl _); have o1 := cell_below o1 hdr (Nat.le_refl _); have o2 := cell_below o2 hdr (Nat.le_refl _)
        have HB13 := Lib.hid (HB.out.trans (HW13.out.mono HB.out.size))
        have B39 := Lib.hid (heap_below B3.out HW13.out (heap_lt B3.out))
        have HRR : Hid (∀ (w' : World) (dir : Int), Below wr.heap.size wr w' → Calls Tryz.prog 242 #[.agg #[.bool b4, .slice A4 n4 k4, .int .i64 z.exp], .int .i64 P, .int .i64 dir] w' (RetD w'.heap.size w' z)) := Lib.hid fun w' dir h => HR.out w' _ dir (below_up HW13.out h) ⟨_, _, _, _, rfl, HX1.out.below h⟩
        have n1 : w.heap.size + 1 + 1 ≠ w6.heap.size + 1 := by have := HBW0.out.size; have := HS.out; omega
        have n2 : w.heap.size + 1 + 1 ≠ w6.heap.size := by have := HBW0.out.size; have := HS.out; omega
        have n3 : w.heap.size + 1 ≠ w6.heap.size := by have := HBW0.out.size; have := HS.out; omega
        have M1 : True := trivial
        have HBW := hdr
        clear hb12 hdr HR HCM
        go_wp2_with fail
        go_region_held3 (fun w' => w'.cell? ⟨w6.heap.size + 1, 0, none⟩ = some (.bool b4) ∧ w'.cell? ⟨w6.heap.size + 1, 1, none⟩ = some (.slice A4 n4 k4) ∧ w'.cell? ⟨w6.heap.size + 1, 2, none⟩ = some (.int .i64 z.exp) ∧ w'.cell? ⟨w6.heap.size, 0, none⟩ = some (.bool b4) ∧ w'.cell? ⟨w6.heap.size, 1, none⟩ = some (.slice A4 n4 k4) ∧ w'.cell? ⟨w6.heap.size, 2, none⟩ = some (.int .i64 z.exp)) (go_keep)
          (first
          | (go_at_call 242
             clear M1
             refine (HRR.out _ (-1) HBW).mono ?_
             rintro r w15 ⟨hb, v8, hz⟩
             obtain ⟨rfl, hz⟩ := hz
             obtain ⟨b8, A8, n8, k8, rfl, hz⟩ := hz
             have l0 := cell_below l0 hb (Nat.le_refl _)
             have l1 := cell_below l1 hb (Nat.le_refl _)
             have l2 := cell_below l2 hb (Nat.le_refl _)
             have o0 := cell_below o0 hb (Nat.le_refl _)
             have o1 := cell_below o1 hb (Nat.le_refl _)
             have o2 := cell_below o2 hb (Nat.le_refl _)
             have HSZ3 := Lib.hid HBW.size
             have HBW := below_up HBW hb
             have HZA := Lib.hid hz
             clear hb hz)
          | (go_at_call 242
             refine (HRR.out _ 1 HBW).mono ?_
             rintro r w16 ⟨hb, v9, hz⟩
             obtain ⟨rfl, hz⟩ := hz
             obtain ⟨b9, A9, n9, k9, rfl, hz⟩ := hz
             have l0 := cell_below l0 hb (Nat.le_refl _)
             have l1 := cell_below l1 hb (Nat.le_refl _)
             have l2 := cell_below l2 hb (Nat.le_refl _)
             have o0 := cell_below o0 hb (Nat.le_refl _)
             have o1 := cell_below o1 hb (Nat.le_refl _)
             have o2 := cell_below o2 hb (Nat.le_refl _)
             have HSZ4 := Lib.hid HBW.size
             have HBW := below_up HBW hb
             have HZC := Lib.hid hz
             have HZB := Lib.hid (HZA.out.below hb)
             have B24 := Lib.hid (heap_below B39.out HBW (heap_lt B39.out))
             obtain ⟨e0, e1, e2, e3, e4, e5⟩ := cells6 B24.out
             obtain ⟨f0, f1, f2, f3, f4, f5⟩ := free6 B24.out
             clear hb hz))
        have hq : ∀ b, wr.heap.size ≤ b → w.heap.size ≤ b ∧ b ≠ w.heap.size + 2 := fun b hb => by have := HS.out; have := HW13.out.size; omega
        obtain ⟨HFF, hFF⟩ := retl_store (HB13.out.trans (HBW.mono HB13.out.size)) (g := w.heap.size + 2) (by omega) B24.out (HZB.out.weak (q := fun b => wr.heap.size ≤ b) fun b hb _ => Nat.le_trans HSZ3.out hb) (HZC.out.weak (q := fun b => wr.heap.size ≤ b) fun b hb _ => Nat.le_trans HSZ4.out hb) hq
        replace hFF := Lib.hid hFF
        clear hq
        go_wp2
        obtain ⟨f0, f1, f2, f3, f4, f5⟩ := cells6 hFF.out
        unfold put6 at f0 f1 f2 f3 f4 f5
        refine bodyPost_ret (v := .agg #[_, _, _, _, _, _]) (by simp [results, Tryz.results214, go_sem, f0, f1, f2, f3, f4, f5]; first | exact ⟨rfl, rfl, rfl, rfl, rfl, rfl⟩ | rfl) rfl ?_
        exact HFF.out
end Go.Proofs.YtgodkfgnhpnhcaaGreatDoor
