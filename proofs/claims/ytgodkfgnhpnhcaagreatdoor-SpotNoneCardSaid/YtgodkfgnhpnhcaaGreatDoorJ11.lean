/- A part of the proof: contracts of functions and plain laws (BalA, BalB). -/
import Derived.Test.YtgodkfgnhpnhcaaGreatDoorJ10
set_option linter.unusedVariables false
set_option linter.unusedSimpArgs false
namespace Go.Proofs.YtgodkfgnhpnhcaaGreatDoor
open Go.RowKit
/-- a ball of one number -/
def BalP (p : Nat → Prop) (w : World) (v : Value) (d : Dy) : Prop :=
  ∃ b A n c b' A' n' c', v = .agg #[.bool b, .slice A n c, .int .i64 d.exp, .bool b', .slice A' n' c', .int .i64 d.exp] ∧ IntP p w (.agg #[.bool b, .slice A n c]) d.man ∧ IntP p w (.agg #[.bool b', .slice A' n' c']) d.man
def RetL (B : Nat) (w0 : World) (d : Dy) (e : Ending) (w' : World) : Prop := Below B w0 w' ∧ ∃ v, e = .returned v ∧ BalP (fun b => B ≤ b) w' v d
theorem BalP.below {p : Nat → Prop} {w w' : World} {v : Value} {d : Dy} (h : BalP p w v d) (hb : Below w.heap.size w w') : BalP p w' v d := by
  obtain ⟨b, A, n, c, b', A', n', c', e, h1, h2⟩ := h; exact ⟨b, A, n, c, b', A', n', c', e, h1.below hb, h2.below hb⟩
theorem BalP.weak {p q : Nat → Prop} {w : World} {v : Value} {d : Dy} (h : BalP p w v d) (hq : ∀ b, p b → b < w.heap.size → q b) : BalP q w v d := by
  obtain ⟨b, A, n, c, b', A', n', c', e, h1, h2⟩ := h; exact ⟨b, A, n, c, b', A', n', c', e, h1.weak hq, h2.weak hq⟩
theorem BalP.setCell {p : Nat → Prop} {w : World} {v : Value} {d : Dy} (h : BalP p w v d) {a : Addr} (ha : ∀ b, p b → b ≠ a.block) (u : Value) : BalP p (w.setCell a u) v d := by
  obtain ⟨b, A, n, c, b', A', n', c', e, h1, h2⟩ := h; exact ⟨b, A, n, c, b', A', n', c', e, h1.setCell ha u, h2.setCell ha u⟩
theorem DyP.setCell {p : Nat → Prop} {w : World} {v : Value} {d : Dy} (h : DyP p w v d) {a : Addr} (ha : ∀ b, p b → b ≠ a.block) (u : Value) : DyP p (w.setCell a u) v d := by
  obtain ⟨b, A, n, c, e, h1⟩ := h; exact ⟨b, A, n, c, e, h1.setCell ha u⟩
theorem cells6 {w : World} {g : Nat} {T : TypeId} {a b c d e f : Value} (h : w.heap[g]? = some (.cells #[a, b, c, d, e, f] T (0, 0))) :
    w.cell? ⟨g, 0, none⟩ = some a ∧ w.cell? ⟨g, 1, none⟩ = some b ∧ w.cell? ⟨g, 2, none⟩ = some c ∧ w.cell? ⟨g, 3, none⟩ = some d ∧ w.cell? ⟨g, 4, none⟩ = some e ∧ w.cell? ⟨g, 5, none⟩ = some f := by
  refine ⟨?_, ?_, ?_, ?_, ?_, ?_⟩ <;> simp [World.cell?, h]
theorem free6 {w : World} {g : Nat} {T : TypeId} {a b c d e f : Value} (h : w.heap[g]? = some (.cells #[a, b, c, d, e, f] T (0, 0))) :
    w.frozen? ⟨g, 0, none⟩ = false ∧ w.frozen? ⟨g, 1, none⟩ = false ∧ w.frozen? ⟨g, 2, none⟩ = false ∧ w.frozen? ⟨g, 3, none⟩ = false ∧ w.frozen? ⟨g, 4, none⟩ = false ∧ w.frozen? ⟨g, 5, none⟩ = false := by
  refine ⟨?_, ?_, ?_, ?_, ?_, ?_⟩ <;> simp [World.frozen?, h]
/-- six cells are written -/
def put6 (w : World) (g : Nat) (a b c d e f : Value) : World :=
  (((((w.setCell ⟨g, 0, none⟩ a).setCell ⟨g, 1, none⟩ b).setCell ⟨g, 2, none⟩ c).setCell ⟨g, 3, none⟩ d).setCell ⟨g, 4, none⟩ e).setCell ⟨g, 5, none⟩ f
theorem put6_heap {w : World} {g : Nat} {T : TypeId} {a b c d e f : Value} (h : w.heap[g]? = some (.cells #[a, b, c, d, e, f] T (0, 0))) (u v x y z t : Value) :
    (put6 w g u v x y z t).heap[g]? = some (.cells #[u, v, x, y, z, t] T (0, 0)) := by
  have hg : g < w.heap.size := (Array.getElem?_eq_some_iff.1 h).1
  have h' : w.heap[g] = .cells #[a, b, c, d, e, f] T (0, 0) := (Array.getElem?_eq_some_iff.1 h).2
  simp [put6, World.setCell, hg, Array.getElem_modify, h']
theorem put6_below {B : Nat} {w0 w : World} {g : Nat} (hb : Below B w0 w) (hg : B ≤ g) (u v x y z t : Value) : Below B w0 (put6 w g u v x y z t) :=
  (((((hb.setCell hg _).setCell hg _).setCell hg _).setCell hg _).setCell hg _).setCell hg _
theorem put6_other {w : World} {g i : Nat} (h : g ≠ i) (u v x y z t : Value) : (put6 w g u v x y z t).heap[i]? = w.heap[i]? := by
  unfold put6
  rw [Below.heap_setCell _ _ _ _ (by simp; omega), Below.heap_setCell _ _ _ _ (by simp; omega), Below.heap_setCell _ _ _ _ (by simp; omega), Below.heap_setCell _ _ _ _ (by simp; omega), Below.heap_setCell _ _ _ _ (by simp; omega), Below.heap_setCell _ _ _ _ (by simp; omega)]
theorem put6_int {p : Nat → Prop} {w : World} {va : Value} {z0 : Int} {g : Nat} (h : IntP p w va z0) (ha : ∀ b, p b → b ≠ g) (u v x y z t : Value) : IntP p (put6 w g u v x y z t) va z0 :=
  (((((h.setCell (a := ⟨g, 0, none⟩) ha u).setCell (a := ⟨g, 1, none⟩) ha v).setCell (a := ⟨g, 2, none⟩) ha x).setCell (a := ⟨g, 3, none⟩) ha y).setCell (a := ⟨g, 4, none⟩) ha z).setCell (a := ⟨g, 5, none⟩) ha t
/-- the store of a ball into a variable of its own -/
theorem retl_store {B g : Nat} {w0 w1 : World} {T : TypeId} {a b c d e f : Value} {b1 b2 : Bool} {A1 A2 : Option Addr} {n1 n2 c1 c2 : Nat} {x : Dy} {q : Nat → Prop} (hb : Below B w0 w1) (hg : B ≤ g) (hw : w1.heap[g]? = some (.cells #[a, b, c, d, e, f] T (0, 0)))
    (h1 : IntP q w1 (.agg #[.bool b1, .slice A1 n1 c1]) x.man) (h2 : IntP q w1 (.agg #[.bool b2, .slice A2 n2 c2]) x.man) (hq : ∀ b, q b → B ≤ b ∧ b ≠ g) :
    Hid (RetL B w0 x (.returned (.agg #[.bool b1, .slice A1 n1 c1, .int .i64 x.exp, .bool b2, .slice A2 n2 c2, .int .i64 x.exp])) (put6 w1 g (.bool b1) (.slice A1 n1 c1) (.int .i64 x.exp) (.bool b2) (.slice A2 n2 c2) (.int .i64 x.exp))) ∧
    (put6 w1 g (.bool b1) (.slice A1 n1 c1) (.int .i64 x.exp) (.bool b2) (.slice A2 n2 c2) (.int .i64 x.exp)).heap[g]? = some (.cells #[.bool b1, .slice A1 n1 c1, .int .i64 x.exp, .bool b2, .slice A2 n2 c2, .int .i64 x.exp] T (0, 0)) := by
  refine ⟨Lib.hid ⟨put6_below hb hg _ _ _ _ _ _, _, rfl, b1, A1, n1, c1, b2, A2, n2, c2, rfl, ?_, ?_⟩, put6_heap hw _ _ _ _ _ _⟩
  · exact (put6_int h1 (fun b hb => (hq b hb).2) _ _ _ _ _ _).weak fun b hb _ => (hq b hb).1
  · exact (put6_int h2 (fun b hb => (hq b hb).2) _ _ _ _ _ _).weak fun b hb _ => (hq b hb).1
set_option maxHeartbeats 1600000 in
theorem same_any {p : Nat → Prop} {va : Value} {x : Dy} {w : World} (hx : DyP p w va x) (hT : Tab w) (sx : SmD x) :
    Calls Tryz.prog 240 #[va] w (RetD w.heap.size w (mkDy x.man x.exp)) := by
  obtain ⟨ba, A, n, c, rfl, h⟩ := hx
  obtain ⟨w2, hw2, hb2, hs2, b1, b2⟩ := pro2 w (.cells #[Value.bool ba, .slice A n c, .int .i64 x.exp] 172) (.cells #[Value.bool false, Value.slice none 0 0, .int .i64 0] 172)
  have HB := Lib.hid hb2; have HS := Lib.hid hs2; have B2 := Lib.hid b2
  obtain ⟨c0, c1, c2, -, -, -⟩ := cells3 b1
  have HMK := Lib.hid (makeD_any (e := x.exp) (h.below hb2) (hT.below hb2) (by have := sx.1; omega) (by have := sx.2; omega))
  clear h hb2 b1 b2 hs2 hT sx
  go_enter Tryz.func240, Tryz.ntmps240
  go_wp2_with fail
  refine HMK.out.mono ?_
  rintro r w3 ⟨hb, v5, rfl, hz⟩
  obtain ⟨b6, A6, n6, c6, rfl, -⟩ := id hz
  have B23 := heap_below B2.out hb (heap_lt B2.out)
  obtain ⟨e0, e1, e2, e3, e4, e5⟩ := cells3 B23
  obtain ⟨HFF, hFF⟩ := retd_store (HB.out.trans (hb.mono HB.out.size)) (g := w.heap.size + 1) (by omega) B23 hz (fun b hb => by have := HS.out; omega)
  replace hFF := Lib.hid hFF
  clear hz hb B23 c0 c1 c2
  go_wp2
  obtain ⟨f0, f1, f2, -, -, -⟩ := cells3 hFF.out
  refine bodyPost_ret (v := .agg #[_, _, _]) (by simp [results, Tryz.results240, go_sem, f0, f1, f2]; first | exact ⟨rfl, rfl, rfl⟩ | rfl) rfl ?_
  exact HFF.out
set_option maxHeartbeats 3200000 in
set_option maxRecDepth 100000 in
theorem ballAt_any {p : Nat → Prop} {va : Value} {x : Dy} {w : World} (hx : DyP p w va x) (hT : Tab w) (sx : SmD x) (hc : mkDy x.man x.exp = x) :
    Calls Tryz.prog 211 #[va] w (RetL w.heap.size w x) := by
  obtain ⟨ba, A, n, c, rfl, h⟩ := hx
  obtain ⟨w2, hw2, hb2, hs2, b1, b2⟩ := pro2 w (.cells #[Value.bool ba, .slice A n c, .int .i64 x.exp] 172) (.cells #[Value.bool false, Value.slice none 0 0, .int .i64 0, Value.bool false, Value.slice none 0 0, .int .i64 0] 174)
  have HB := Lib.hid hb2; have HS := Lib.hid hs2; have B2 := Lib.hid b2
  obtain ⟨c0, c1, c2, -, -, -⟩ := cells3 b1
  have HD : Hid (DyP p w2 (.agg #[.bool ba, .slice A n c, .int .i64 x.exp]) x) := Lib.hid ⟨_, _, _, _, rfl, h.below hb2⟩
  have HT2 := Lib.hid (hT.below hb2)
  have HSM : Hid (∀ w', Below w2.heap.size w2 w' → Calls Tryz.prog 240 #[.agg #[.bool ba, .slice A n c, .int .i64 x.exp]] w' (RetD w'.heap.size w' x)) := Lib.hid fun w' h => by
    have := same_any (HD.out.below h) (HT2.out.below h) sx
    rwa [hc] at this
  clear h hb2 b1 b2 hs2 hT sx hc HD HT2
  go_enter Tryz.func211, Tryz.ntmps211
  go_wp2_with fail
  have HBW : Below w2.heap.size w2 w2.drew := (Below.refl _ _).drew
  replace c0 := cell_below c0 HBW (Nat.le_refl _)
  replace c1 := cell_below c1 HBW (Nat.le_refl _)
  replace c2 := cell_below c2 HBW (Nat.le_refl _)
  have n1 : w.heap.size + 1 ≠ w.heap.size := by omega
  have M1 : True := trivial
  go_region_held3 (fun w' => w'.cell? ⟨w.heap.size, 0, none⟩ = some (.bool ba) ∧ w'.cell? ⟨w.heap.size, 1, none⟩ = some (.slice A n c) ∧ w'.cell? ⟨w.heap.size, 2, none⟩ = some (.int .i64 x.exp)) (go_keep)
    (first
    | (go_at_call 240
       clear M1
       with_reducible refine (HSM.out _ (by assumption)).mono ?_
       rintro r w3 ⟨hb, v3, hz⟩
       obtain ⟨rfl, hz⟩ := hz
       obtain ⟨b5, A5, n5, k5, rfl, hz⟩ := hz
       have c0 := cell_below c0 hb (Nat.le_refl _)
       have c1 := cell_below c1 hb (Nat.le_refl _)
       have c2 := cell_below c2 hb (Nat.le_refl _)
       have HSZ3 := Lib.hid HBW.size
       have HBW := below_up HBW hb
       have HZ := Lib.hid hz
       clear hb hz)
    | (go_at_call 240
       with_reducible refine (HSM.out _ (by assumption)).mono ?_
       rintro r w4 ⟨hb, v4, hz⟩
       obtain ⟨rfl, hz⟩ := hz
       obtain ⟨b6, A6, n6, k6, rfl, hz⟩ := hz
       have c0 := cell_below c0 hb (Nat.le_refl _)
       have c1 := cell_below c1 hb (Nat.le_refl _)
       have c2 := cell_below c2 hb (Nat.le_refl _)
       have HSZ4 := Lib.hid HBW.size
       have HBW := below_up HBW hb
       have HZ4 := Lib.hid hz
       have HZ3 := Lib.hid (HZ.out.below hb)
       have B24 := Lib.hid (heap_below B2.out HBW (heap_lt B2.out))
       obtain ⟨e0, e1, e2, e3, e4, e5⟩ := cells6 B24.out
       obtain ⟨f0, f1, f2, f3, f4, f5⟩ := free6 B24.out
       clear hb hz))
  have hq : ∀ b, w2.heap.size ≤ b → w.heap.size ≤ b ∧ b ≠ w.heap.size + 1 := fun b hb => by have := HS.out; omega
  obtain ⟨HFF, hFF⟩ := retl_store (HB.out.trans (HBW.mono HB.out.size)) (g := w.heap.size + 1) (by omega) B24.out (HZ3.out.weak (q := fun b => w2.heap.size ≤ b) fun b hb _ => Nat.le_trans HSZ3.out hb) (HZ4.out.weak (q := fun b => w2.heap.size ≤ b) fun b hb _ => Nat.le_trans HSZ4.out hb) hq
  replace hFF := Lib.hid hFF
  clear hq
  go_wp2
  obtain ⟨f0, f1, f2, f3, f4, f5⟩ := cells6 hFF.out
  unfold put6 at f0 f1 f2 f3 f4 f5
  refine bodyPost_ret (v := .agg #[_, _, _, _, _, _]) (by simp [results, Tryz.results211, go_sem, f0, f1, f2, f3, f4, f5]; first | exact ⟨rfl, rfl, rfl, rfl, rfl, rfl⟩ | rfl) rfl ?_
  exact HFF.out
end Go.Proofs.YtgodkfgnhpnhcaaGreatDoor
namespace Go.Proofs.YtgodkfgnhpnhcaaGreatDoor
open Go.RowKit
set_option maxHeartbeats 1600000 in
theorem ballSign_any {p : Nat → Prop} {va : Value} {x : Dy} {w : World} (hx : BalP p w va x) :
    Calls Tryz.prog 116 #[va] w (RetKB w x.man.sign true) := by
  obtain ⟨ba, A, n, c, bb, A', n', c', rfl, h, h'⟩ := hx
  obtain ⟨w1, hw1, hb1, hs1, b1⟩ := pro1 w (.cells #[Value.bool ba, .slice A n c, .int .i64 x.exp, Value.bool bb, .slice A' n' c', .int .i64 x.exp] 174)
  have HB := Lib.hid hb1
  obtain ⟨c0, c1, c2, c3, c4, c5⟩ := cells6 b1
  have D1 : Hid (DyP p w1 (.agg #[.bool ba, .slice A n c, .int .i64 x.exp]) x) := Lib.hid ⟨_, _, _, _, rfl, h.below hb1⟩
  have D2 : Hid (DyP p w1 (.agg #[.bool bb, .slice A' n' c', .int .i64 x.exp]) x) := Lib.hid ⟨_, _, _, _, rfl, h'.below hb1⟩
  clear h h' hb1 b1 hs1
  go_enter Tryz.func116, Tryz.ntmps116
  go_wp2_with fail
  refine (signD_any D1.out).mono ?_
  rintro r w3 ⟨rfl, hb⟩
  replace c0 := cell_below c0 hb (Nat.le_refl _)
  replace c1 := cell_below c1 hb (Nat.le_refl _)
  replace c2 := cell_below c2 hb (Nat.le_refl _)
  replace c3 := cell_below c3 hb (Nat.le_refl _)
  replace c4 := cell_below c4 hb (Nat.le_refl _)
  replace c5 := cell_below c5 hb (Nat.le_refl _)
  replace D2 := Lib.hid (D2.out.below hb); replace HB := Lib.hid (HB.out.trans (hb.mono HB.out.size))
  clear hb hw1
  go_wp2_with fail
  refine (signD_any D2.out).mono ?_
  rintro r w4 ⟨rfl, hb⟩
  have HF : Hid (RetKB w x.man.sign true (.returned (.tuple #[.int .i64 x.man.sign, .bool true])) w4) := Lib.hid ⟨rfl, HB.out.trans (hb.mono HB.out.size)⟩
  have hne : (x.man.sign != x.man.sign) = false := by simp
  clear hb
  go_wp2
  go_ret2
  exact HF.out
theorem addD_idem (x y : Dy) : mkDy (addD x y).man (addD x y).exp = addD x y := by
  unfold addD; split
  · exact mkDy_idem _ _
  · split
    · exact mkDy_idem _ _
    · exact mkDy_idem _ _
theorem notD_idem (x : Dy) : mkDy (notD x).man (notD x).exp = notD x := mkDy_idem _ _
theorem mulD_idem (x y : Dy) : mkDy (mulD x y).man (mulD x y).exp = mulD x y := mkDy_idem _ _
set_option maxHeartbeats 3200000 in
set_option maxRecDepth 100000 in
theorem ballNot_any {p : Nat → Prop} {va : Value} {x : Dy} {w : World} (hx : BalP p w va x) (hT : Tab w) (sx : SmD x) :
    Calls Tryz.prog 212 #[va] w (RetL w.heap.size w (notD x)) := by
  obtain ⟨ba, A, n, c, bb, A', n', c', rfl, h, h'⟩ := hx
  obtain ⟨w2, hw2, hb2, hs2, b1, b2⟩ := pro2 w (.cells #[Value.bool ba, .slice A n c, .int .i64 x.exp, Value.bool bb, .slice A' n' c', .int .i64 x.exp] 174) (.cells #[Value.bool false, Value.slice none 0 0, .int .i64 0, Value.bool false, Value.slice none 0 0, .int .i64 0] 174)
  have HB := Lib.hid hb2; have HS := Lib.hid hs2; have B2 := Lib.hid b2
  obtain ⟨c0, c1, c2, c3, c4, c5⟩ := cells6 b1
  have D1 : Hid (DyP p w2 (.agg #[.bool ba, .slice A n c, .int .i64 x.exp]) x) := Lib.hid ⟨_, _, _, _, rfl, h.below hb2⟩
  have D2 : Hid (DyP p w2 (.agg #[.bool bb, .slice A' n' c', .int .i64 x.exp]) x) := Lib.hid ⟨_, _, _, _, rfl, h'.below hb2⟩
  have HT2 := Lib.hid (hT.below hb2)
  have HN2 : Hid (∀ w', Below w2.heap.size w2 w' → Calls Tryz.prog 118 #[.agg #[.bool bb, .slice A' n' c', .int .i64 x.exp]] w' (RetD w'.heap.size w' (notD x))) := Lib.hid fun w' h => notD_any (D2.out.below h) (HT2.out.below h) (by have := sx.1; omega) (by have := sx.2; omega)
  have HN1 : Hid (∀ w', Below w2.heap.size w2 w' → Calls Tryz.prog 118 #[.agg #[.bool ba, .slice A n c, .int .i64 x.exp]] w' (RetD w'.heap.size w' (notD x))) := Lib.hid fun w' h => notD_any (D1.out.below h) (HT2.out.below h) (by have := sx.1; omega) (by have := sx.2; omega)
  clear h h' hb2 b1 b2 hs2 hT sx D1 D2 HT2
  go_enter Tryz.func212, Tryz.ntmps212
  go_wp2_with fail
  have HBW : Below w2.heap.size w2 w2.drew := (Below.refl _ _).drew
  replace c0 := cell_below c0 HBW (Nat.le_refl _)
  replace c1 := cell_below c1 HBW (Nat.le_refl _)
  replace c2 := cell_below c2 HBW (Nat.le_refl _)
  replace c3 := cell_below c3 HBW (Nat.le_refl _)
  replace c4 := cell_below c4 HBW (Nat.le_refl _)
  replace c5 := cell_below c5 HBW (Nat.le_refl _)
  have n1 : w.heap.size + 1 ≠ w.heap.size := by omega
  have M1 : True := trivial
  go_region_held3 (fun w' => w'.cell? ⟨w.heap.size, 0, none⟩ = some (.bool ba) ∧ w'.cell? ⟨w.heap.size, 1, none⟩ = some (.slice A n c) ∧ w'.cell? ⟨w.heap.size, 2, none⟩ = some (.int .i64 x.exp) ∧ w'.cell? ⟨w.heap.size, 3, none⟩ = some (.bool bb) ∧ w'.cell? ⟨w.heap.size, 4, none⟩ = some (.slice A' n' c') ∧ w'.cell? ⟨w.heap.size, 5, none⟩ = some (.int .i64 x.exp)) (go_keep)
    (first
    | (go_at_call 118
       clear M1
       with_reducible refine (HN2.out _ (by assumption)).mono ?_
       rintro r w3 ⟨hb, v3, hz⟩
       obtain ⟨rfl, hz⟩ := hz
       obtain ⟨b5, A5, n5, k5, rfl, hz⟩ := hz
       have c0 := cell_below c0 hb (Nat.le_refl _)
       have c1 := cell_below c1 hb (Nat.le_refl _)
       have c2 := cell_below c2 hb (Nat.le_refl _)
       have c3 := cell_below c3 hb (Nat.le_refl _)
       have c4 := cell_below c4 hb (Nat.le_refl _)
       have c5 := cell_below c5 hb (Nat.le_refl _)
       have HSZ3 := Lib.hid HBW.size
       have HBW := below_up HBW hb
       have HZ := Lib.hid hz
       clear hb hz)
    | (go_at_call 118
       with_reducible refine (HN1.out _ (by assumption)).mono ?_
       rintro r w4 ⟨hb, v4, hz⟩
       obtain ⟨rfl, hz⟩ := hz
       obtain ⟨b6, A6, n6, k6, rfl, hz⟩ := hz
       have c0 := cell_below c0 hb (Nat.le_refl _)
       have c1 := cell_below c1 hb (Nat.le_refl _)
       have c2 := cell_below c2 hb (Nat.le_refl _)
       have c3 := cell_below c3 hb (Nat.le_refl _)
       have c4 := cell_below c4 hb (Nat.le_refl _)
       have c5 := cell_below c5 hb (Nat.le_refl _)
       have HSZ4 := Lib.hid HBW.size
       have HBW := below_up HBW hb
       have HZ4 := Lib.hid hz
       have HZ3 := Lib.hid (HZ.out.below hb)
       have B24 := Lib.hid (heap_below B2.out HBW (heap_lt B2.out))
       obtain ⟨e0, e1, e2, e3, e4, e5⟩ := cells6 B24.out
       obtain ⟨f0, f1, f2, f3, f4, f5⟩ := free6 B24.out
       clear hb hz))
  have hq : ∀ b, w2.heap.size ≤ b → w.heap.size ≤ b ∧ b ≠ w.heap.size + 1 := fun b hb => by have := HS.out; omega
  obtain ⟨HFF, hFF⟩ := retl_store (HB.out.trans (HBW.mono HB.out.size)) (g := w.heap.size + 1) (by omega) B24.out (HZ3.out.weak (q := fun b => w2.heap.size ≤ b) fun b hb _ => Nat.le_trans HSZ3.out hb) (HZ4.out.weak (q := fun b => w2.heap.size ≤ b) fun b hb _ => Nat.le_trans HSZ4.out hb) hq
  replace hFF := Lib.hid hFF
  clear hq
  go_wp2
  obtain ⟨f0, f1, f2, f3, f4, f5⟩ := cells6 hFF.out
  unfold put6 at f0 f1 f2 f3 f4 f5
  refine bodyPost_ret (v := .agg #[_, _, _, _, _, _]) (by simp [results, Tryz.results212, go_sem, f0, f1, f2, f3, f4, f5]; first | exact ⟨rfl, rfl, rfl, rfl, rfl, rfl⟩ | rfl) rfl ?_
  exact HFF.out
set_option maxHeartbeats 6400000 in
set_option maxRecDepth 100000 in
theorem ballAdd_any {p q : Nat → Prop} {va vb : Value} {x y : Dy} {P : Int} {w : World} (hx : BalP p w va x) (hy : BalP q w vb y) (hp : ∀ b, p b → b < w.heap.size) (hq : ∀ b, q b → b < w.heap.size) (hT : Tab w) (sx : SmD x) (sy : SmD y) (ss : SmD (addD x y)) (hP : 1 ≤ P ∧ P ≤ 65536) (hbt : (bits (addD x y).man.natAbs : Int) ≤ P) :
    Calls Tryz.prog 213 #[va, vb, .int .i64 P] w (RetL w.heap.size w (addD x y)) := by
  obtain ⟨ba, A, n, c, bb, A', n', c', rfl, h1, h2⟩ := hx
  obtain ⟨bd, E, m, k, be, E', m', k', rfl, h3, h4⟩ := hy
  obtain ⟨w3, hw3, hb3, hs3, b1, b2, b3⟩ := pro3 w (.cells #[Value.bool ba, .slice A n c, .int .i64 x.exp, Value.bool bb, .slice A' n' c', .int .i64 x.exp] 174) (.cells #[Value.bool bd, .slice E m k, .int .i64 y.exp, Value.bool be, .slice E' m' k', .int .i64 y.exp] 174) (.cells #[Value.bool false, Value.slice none 0 0, .int .i64 0, Value.bool false, Value.slice none 0 0, .int .i64 0] 174)
  have HB := Lib.hid hb3; have HS := Lib.hid hs3; have B3 := Lib.hid b3
  obtain ⟨c0, c1, c2, c3, c4, c5⟩ := cells6 b1
  obtain ⟨d0, d1, d2, d3, d4, d5⟩ := cells6 b2
  have hpp : ∀ {p : Nat → Prop}, (∀ b, p b → b < w.heap.size) → ∀ w', Below w3.heap.size w3 w' → ∀ b, p b → b < w'.heap.size := fun hp w' h b hb => by have := hp b hb; have := h.size; omega
  have HT2 := Lib.hid (hT.below hb3)
  have HA1 : Hid (∀ w', Below w3.heap.size w3 w' → Calls Tryz.prog 241 #[.agg #[.bool ba, .slice A n c, .int .i64 x.exp], .agg #[.bool bd, .slice E m k, .int .i64 y.exp]] w' (RetD w'.heap.size w' (addD x y))) :=
    Lib.hid fun w' h => addD_any (p := p) (q := q) ⟨_, _, _, _, rfl, (h1.below hb3).below h⟩ ⟨_, _, _, _, rfl, (h3.below hb3).below h⟩ (HT2.out.below h) (hpp hp w' h) (hpp hq w' h) sx sy
  have HA2 : Hid (∀ w', Below w3.heap.size w3 w' → Calls Tryz.prog 241 #[.agg #[.bool bb, .slice A' n' c', .int .i64 x.exp], .agg #[.bool be, .slice E' m' k', .int .i64 y.exp]] w' (RetD w'.heap.size w' (addD x y))) :=
    Lib.hid fun w' h => addD_any (p := p) (q := q) ⟨_, _, _, _, rfl, (h2.below hb3).below h⟩ ⟨_, _, _, _, rfl, (h4.below hb3).below h⟩ (HT2.out.below h) (hpp hp w' h) (hpp hq w' h) sx sy
  have HR : Hid (∀ (w' : World) (v : Value) (B : Nat) (dir : Int), Below w3.heap.size w3 w' → DyP (fun b => B ≤ b) w' v (addD x y) → Calls Tryz.prog 242 #[v, .int .i64 P, .int .i64 dir] w' (RetD w'.heap.size w' (addD x y))) := Lib.hid fun w' v B dir h hv => by
    have := roundD_any (dir := dir) hv (HT2.out.below h) ss hP (by rw [addD_idem]; exact hbt)
    rwa [addD_idem] at this
  clear h1 h2 h3 h4 hb3 b1 b2 b3 hs3 hT sx sy ss hP hbt hp hq hpp HT2
  go_enter Tryz.func213, Tryz.ntmps213
  go_wp2_with fail
  have HBW : Below w3.heap.size w3 w3.drew := (Below.refl _ _).drew
  replace c0 := cell_below c0 HBW (Nat.le_refl _)
  replace c1 := cell_below c1 HBW (Nat.le_refl _)
  replace c2 := cell_below c2 HBW (Nat.le_refl _)
  replace c3 := cell_below c3 HBW (Nat.le_refl _)
  replace c4 := cell_below c4 HBW (Nat.le_refl _)
  replace c5 := cell_below c5 HBW (Nat.le_refl _)
  replace d0 := cell_below d0 HBW (Nat.le_refl _)
  replace d1 := cell_below d1 HBW (Nat.le_refl _)
  replace d2 := cell_below d2 HBW (Nat.le_refl _)
  replace d3 := cell_below d3 HBW (Nat.le_refl _)
  replace d4 := cell_below d4 HBW (Nat.le_refl _)
  replace d5 := cell_below d5 HBW (Nat.le_refl _)
  have n1 : w.heap.size + 1 + 1 ≠ w.heap.size := by omega
  have n2 : w.heap.size + 1 + 1 ≠ w.heap.size + 1 := by omega
  have M1 : True := trivial
  have M2 : True := trivial
  go_region_held3 (fun w' => w'.cell? ⟨w.heap.size, 0, none⟩ = some (.bool ba) ∧ w'.cell? ⟨w.heap.size, 1, none⟩ = some (.slice A n c) ∧ w'.cell? ⟨w.heap.size, 2, none⟩ = some (.int .i64 x.exp) ∧ w'.cell? ⟨w.heap.size, 3, none⟩ = some (.bool bb) ∧ w'.cell? ⟨w.heap.size, 4, none⟩ = some (.slice A' n' c') ∧ w'.cell? ⟨w.heap.size, 5, none⟩ = some (.int .i64 x.exp) ∧ w'.cell? ⟨w.heap.size + 1, 0, none⟩ = some (.bool bd) ∧ w'.cell? ⟨w.heap.size + 1, 1, none⟩ = some (.slice E m k) ∧ w'.cell? ⟨w.heap.size + 1, 2, none⟩ = some (.int .i64 y.exp) ∧ w'.cell? ⟨w.heap.size + 1, 3, none⟩ = some (.bool be) ∧ w'.cell? ⟨w.heap.size + 1, 4, none⟩ = some (.slice E' m' k') ∧ w'.cell? ⟨w.heap.size + 1, 5, none⟩ = some (.int .i64 y.exp)) (go_keep)
    (first
    | (go_at_call 241
       clear M1
       with_reducible refine (HA1.out _ (by assumption)).mono ?_
       rintro r w4 ⟨hb, v4, hz⟩
       obtain ⟨rfl, hz⟩ := hz
       obtain ⟨b4, A4, n4, k4, rfl, hz⟩ := hz
       have c0 := cell_below c0 hb (Nat.le_refl _)
       have c1 := cell_below c1 hb (Nat.le_refl _)
       have c2 := cell_below c2 hb (Nat.le_refl _)
       have c3 := cell_below c3 hb (Nat.le_refl _)
       have c4 := cell_below c4 hb (Nat.le_refl _)
       have c5 := cell_below c5 hb (Nat.le_refl _)
       have d0 := cell_below d0 hb (Nat.le_refl _)
       have d1 := cell_below d1 hb (Nat.le_refl _)
       have d2 := cell_below d2 hb (Nat.le_refl _)
       have d3 := cell_below d3 hb (Nat.le_refl _)
       have d4 := cell_below d4 hb (Nat.le_refl _)
       have d5 := cell_below d5 hb (Nat.le_refl _)
       have HBW := below_up HBW hb
       have HRA := Lib.hid (HR.out _ _ _ (-1) HBW ⟨b4, A4, n4, k4, rfl, hz⟩)
       clear hb hz)
    | (go_at_call 242
       clear M2
       refine HRA.out.mono ?_
       rintro r w5 ⟨hb, v5, hz⟩
       obtain ⟨rfl, hz⟩ := hz
       obtain ⟨b5, A5, n5, k5, rfl, hz⟩ := hz
       have c0 := cell_below c0 hb (Nat.le_refl _)
       have c1 := cell_below c1 hb (Nat.le_refl _)
       have c2 := cell_below c2 hb (Nat.le_refl _)
       have c3 := cell_below c3 hb (Nat.le_refl _)
       have c4 := cell_below c4 hb (Nat.le_refl _)
       have c5 := cell_below c5 hb (Nat.le_refl _)
       have d0 := cell_below d0 hb (Nat.le_refl _)
       have d1 := cell_below d1 hb (Nat.le_refl _)
       have d2 := cell_below d2 hb (Nat.le_refl _)
       have d3 := cell_below d3 hb (Nat.le_refl _)
       have d4 := cell_below d4 hb (Nat.le_refl _)
       have d5 := cell_below d5 hb (Nat.le_refl _)
       have HSZ5 := Lib.hid HBW.size
       have HBW := below_up HBW hb
       have HZ5 := Lib.hid hz
       clear hb hz)
    | (go_at_call 241
       with_reducible refine (HA2.out _ (by assumption)).mono ?_
       rintro r w6 ⟨hb, v6, hz⟩
       obtain ⟨rfl, hz⟩ := hz
       obtain ⟨b6, A6, n6, k6, rfl, hz⟩ := hz
       have c0 := cell_below c0 hb (Nat.le_refl _)
       have c1 := cell_below c1 hb (Nat.le_refl _)
       have c2 := cell_below c2 hb (Nat.le_refl _)
       have c3 := cell_below c3 hb (Nat.le_refl _)
       have c4 := cell_below c4 hb (Nat.le_refl _)
       have c5 := cell_below c5 hb (Nat.le_refl _)
       have d0 := cell_below d0 hb (Nat.le_refl _)
       have d1 := cell_below d1 hb (Nat.le_refl _)
       have d2 := cell_below d2 hb (Nat.le_refl _)
       have d3 := cell_below d3 hb (Nat.le_refl _)
       have d4 := cell_below d4 hb (Nat.le_refl _)
       have d5 := cell_below d5 hb (Nat.le_refl _)
       have HBW := below_up HBW hb
       have HZ6 := Lib.hid (HZ5.out.below hb)
       have HRB := Lib.hid (HR.out _ _ _ 1 HBW ⟨b6, A6, n6, k6, rfl, hz⟩)
       clear hb hz)
    | (go_at_call 242
       refine HRB.out.mono ?_
       rintro r w7 ⟨hb, v7, hz⟩
       obtain ⟨rfl, hz⟩ := hz
       obtain ⟨b7, A7, n7, k7, rfl, hz⟩ := hz
       have c0 := cell_below c0 hb (Nat.le_refl _)
       have c1 := cell_below c1 hb (Nat.le_refl _)
       have c2 := cell_below c2 hb (Nat.le_refl _)
       have c3 := cell_below c3 hb (Nat.le_refl _)
       have c4 := cell_below c4 hb (Nat.le_refl _)
       have c5 := cell_below c5 hb (Nat.le_refl _)
       have d0 := cell_below d0 hb (Nat.le_refl _)
       have d1 := cell_below d1 hb (Nat.le_refl _)
       have d2 := cell_below d2 hb (Nat.le_refl _)
       have d3 := cell_below d3 hb (Nat.le_refl _)
       have d4 := cell_below d4 hb (Nat.le_refl _)
       have d5 := cell_below d5 hb (Nat.le_refl _)
       have HSZ7 := Lib.hid HBW.size
       have HBW := below_up HBW hb
       have HZ7 := Lib.hid hz
       have HZ8 := Lib.hid (HZ6.out.below hb)
       have B37 := Lib.hid (heap_below B3.out HBW (heap_lt B3.out))
       obtain ⟨e0, e1, e2, e3, e4, e5⟩ := cells6 B37.out
       obtain ⟨f0, f1, f2, f3, f4, f5⟩ := free6 B37.out
       clear hb hz))
  have hq : ∀ b, w3.heap.size ≤ b → w.heap.size ≤ b ∧ b ≠ w.heap.size + 2 := fun b hb => by have := HS.out; omega
  obtain ⟨HFF, hFF⟩ := retl_store (HB.out.trans (HBW.mono HB.out.size)) (g := w.heap.size + 2) (by omega) B37.out (HZ8.out.weak (q := fun b => w3.heap.size ≤ b) fun b hb _ => Nat.le_trans HSZ5.out hb) (HZ7.out.weak (q := fun b => w3.heap.size ≤ b) fun b hb _ => Nat.le_trans HSZ7.out hb) hq
  replace hFF := Lib.hid hFF
  clear hq
  go_wp2
  obtain ⟨f0, f1, f2, f3, f4, f5⟩ := cells6 hFF.out
  unfold put6 at f0 f1 f2 f3 f4 f5
  refine bodyPost_ret (v := .agg #[_, _, _, _, _, _]) (by simp [results, Tryz.results213, go_sem, f0, f1, f2, f3, f4, f5]; first | exact ⟨rfl, rfl, rfl, rfl, rfl, rfl⟩ | rfl) rfl ?_
  exact HFF.out
end Go.Proofs.YtgodkfgnhpnhcaaGreatDoor
