/- A part of the proof: contracts of functions and plain laws (RlE, RlF, SpA, Stg). -/
import Derived.Test.YtgodkfgnhpnhcaaGreatDoorJ18
set_option linter.unusedVariables false
set_option linter.unusedSimpArgs false
/- real.Add, Mul, Sqrt. -/
namespace Go.Proofs.YtgodkfgnhpnhcaaGreatDoor
open Go.RowKit Go.Maps
set_option maxHeartbeats 6400000 in
set_option maxRecDepth 100000 in
theorem add_num {P : Ex → Prop} {B N : Nat} {w : World} {g i : Nat} {ns : List Nd} {v : Value} {l : List Nat} {e0 : Ex} {es : List Ex} (hs : St P B N w g ns) (hl : NumsP w v g l) (hlen : l.length = es.length) (h0 : 0 < l.length)
    (he0 : Is ns e0 i) (hes : ∀ (m x : Nat) e, l[m]? = some x → es[m]? = some e → Is ns e x) (hP : ∀ m, m < es.length → P (foldE 1 e0 (es.take (m + 1)))) (hN : N + l.length ≤ 20000) :
    Calls Tryz.prog 22 #[numV g i, v] w (RetE P B (N + l.length) w g ns (numV g) (foldE 1 e0 es)) := by
  obtain ⟨w2, hw2, hb2, hs2, b1, b2⟩ := pro2 w (.cells #[.pointer (some ⟨g, 0, none⟩), .int .i64 (i : Int)] 27) (.cells #[.pointer none, .int .i64 0] 27)
  have hll : ∀ x ∈ l, x < ns.length := fun x hx => by
    obtain ⟨m, hm⟩ := List.getElem?_of_mem hx
    have hml := (List.getElem?_eq_some_iff.1 hm).1
    exact (hes m x es[m] hm (List.getElem?_eq_getElem (by omega))).lt
  have HG := Lib.hid (goes_any (hs.dag.below hb2) he0.lt (hl.below hb2) hll)
  have HIDS : Hid (∀ w', Below w.heap.size w w' → Calls Tryz.prog 69 #[.agg #[.pointer (some ⟨g, 0, none⟩), .int .i64 (i : Int)], v] w' (RetIds w' (i :: l))) := Lib.hid fun w' h => ids_any (hl.below h)
  have HAW : Hid (∀ w' (c : Nat), Below w.heap.size w w' → w.heap.size ≤ c → ¬ DagB w' g c) := Lib.hid fun w' c h => hs.away h
  have HOP : Hid (∀ w' v' (q : Nat), Below w.heap.size w w' → w.heap.size ≤ q → IntsP (fun b => q ≤ b) w' v' (i :: l) → Calls Tryz.prog 39 #[.pointer (some ⟨g, 0, none⟩), v'] w' (RetE P B (N + l.length) w' g ns idV (foldE 1 e0 es))) :=
    Lib.hid fun w' v' q h hq hi => by
      obtain ⟨b, c, q1, q2, q3, q4, q5, q6⟩ := hi
      exact addN_put (hs.below h) ⟨b, c, q1, q2, q3, hs.away h (Nat.le_trans hq q4), q5, q6⟩ hlen h0 he0 hes hP hN
  have HGL := Lib.hid hs.dag.glt; have HBL := Lib.hid hs.hB
  obtain ⟨e0', e1', -, -⟩ := cells2 b1
  have HB2 := Lib.hid hb2; have B2 := Lib.hid b2
  have HSZ : Hid (w.heap.size + 1 < w2.heap.size) := Lib.hid (by omega)
  obtain ⟨bv, cv, rfl, -⟩ := id hl
  clear hs hl hlen h0 he0 hes hP hN hll hb2 hs2 b1 b2
  go_enter Tryz.func22, Tryz.ntmps22
  go_wp2_with fail
  refine HG.out.mono ?_
  rintro e w5 ⟨rfl, hb5⟩
  have hb5d : Below w2.heap.size w2 w5.drew := below_up hb5 (Below.refl _ _).drew
  replace e0' := cell_below e0' hb5d (Nat.le_refl _)
  replace e1' := cell_below e1' hb5d (Nat.le_refl _)
  have HB5 := Lib.hid (below_up HB2.out hb5d)
  have B5 := Lib.hid (heap_below B2.out hb5d (heap_lt B2.out))
  clear hb5 hb5d
  have n1 : w.heap.size + 1 ≠ w.heap.size := by omega
  have n2 : w.heap.size ≠ w.heap.size + 1 := by omega
  go_wp2_with fail
  go_region_held3 (fun w' => w'.cell? ⟨w.heap.size, 0, none⟩ = some (.pointer (some ⟨g, 0, none⟩)) ∧ w'.cell? ⟨w.heap.size, 1, none⟩ = some (.int .i64 (i : Int))) (go_keep)
    (first
    | (go_at_call 69
       refine (HIDS.out _ HB5.out).mono ?_
       rintro e w6 ⟨hb6, v6, rfl, hi6⟩
       have e0' := cell_below e0' hb6 (Nat.le_refl _)
       have e1' := cell_below e1' hb6 (Nat.le_refl _)
       have HB6 := Lib.hid (below_up HB5.out hb6)
       have B6 := Lib.hid (heap_below B5.out hb6 (heap_lt B5.out))
       have HADD := Lib.hid (HOP.out w6 v6 _ HB6.out HB5.out.size hi6)
       obtain ⟨b6, c6, rfl, -⟩ := hi6
       clear hb6)
    | (go_at_call 39
       refine HADD.out.mono ?_
       rintro e w7 ⟨k, ns', rfl, h1, h2, h3, h4⟩
       have e0' := h4.cell e0' (HAW.out _ _ HB6.out (by simp))
       have e1' := h4.cell e1' (HAW.out _ _ HB6.out (by simp))
       have hlt6 : w.heap.size + 1 < w6.heap.size := heap_lt B6.out
       have B7 := (h4.heap (b := w.heap.size + 1) hlt6 (HAW.out _ _ HB6.out (by omega))).trans B6.out
       obtain ⟨r0, r1, f0, f1⟩ := cells2 B7
       have HF : Hid (FoldSt P B (N + l.length) w g ns (foldE 1 e0 es) k ((w7.setCell ⟨w.heap.size + 1, 0, none⟩ (.pointer (some ⟨g, 0, none⟩))).setCell ⟨w.heap.size + 1, 1, none⟩ (.int .i64 (k : Int)))) :=
         Lib.hid (FoldSt.set2 (w0 := w) ⟨ns', h1, h2, h3, h4⟩ (Or.inr trivial) HGL.out HB6.out (by omega) (HAW.out _ _ HB6.out (by omega)) hlt6 (by have := HBL.out; omega) _ _)
       have HX := Lib.hid (set2 B7 (.pointer (some ⟨g, 0, none⟩)) (.int .i64 (k : Int)))
       clear h1 h2 h3 h4 B7 hlt6))
  go_wp2
  obtain ⟨x0, x1, -, -⟩ := cells2 HX.out
  refine bodyPost_ret (v := .agg #[_, _]) (by simp [results, Tryz.results22, go_sem, x0, x1]; first | exact ⟨rfl, rfl⟩ | rfl) rfl ?_
  exact HF.out.ret (numV g)
set_option maxHeartbeats 6400000 in
set_option maxRecDepth 100000 in
theorem mul_num {P : Ex → Prop} {B N : Nat} {w : World} {g i : Nat} {ns : List Nd} {v : Value} {l : List Nat} {e0 : Ex} {es : List Ex} (hs : St P B N w g ns) (hl : NumsP w v g l) (hlen : l.length = es.length) (h0 : 0 < l.length)
    (he0 : Is ns e0 i) (hes : ∀ (m x : Nat) e, l[m]? = some x → es[m]? = some e → Is ns e x) (hP : ∀ m, m < es.length → P (foldE 3 e0 (es.take (m + 1)))) (hN : N + l.length ≤ 20000) :
    Calls Tryz.prog 24 #[numV g i, v] w (RetE P B (N + l.length) w g ns (numV g) (foldE 3 e0 es)) := by
  obtain ⟨w2, hw2, hb2, hs2, b1, b2⟩ := pro2 w (.cells #[.pointer (some ⟨g, 0, none⟩), .int .i64 (i : Int)] 27) (.cells #[.pointer none, .int .i64 0] 27)
  have hll : ∀ x ∈ l, x < ns.length := fun x hx => by
    obtain ⟨m, hm⟩ := List.getElem?_of_mem hx
    have hml := (List.getElem?_eq_some_iff.1 hm).1
    exact (hes m x es[m] hm (List.getElem?_eq_getElem (by omega))).lt
  have HG := Lib.hid (goes_any (hs.dag.below hb2) he0.lt (hl.below hb2) hll)
  have HIDS : Hid (∀ w', Below w.heap.size w w' → Calls Tryz.prog 69 #[.agg #[.pointer (some ⟨g, 0, none⟩), .int .i64 (i : Int)], v] w' (RetIds w' (i :: l))) := Lib.hid fun w' h => ids_any (hl.below h)
  have HAW : Hid (∀ w' (c : Nat), Below w.heap.size w w' → w.heap.size ≤ c → ¬ DagB w' g c) := Lib.hid fun w' c h => hs.away h
  have HOP : Hid (∀ w' v' (q : Nat), Below w.heap.size w w' → w.heap.size ≤ q → IntsP (fun b => q ≤ b) w' v' (i :: l) → Calls Tryz.prog 38 #[.pointer (some ⟨g, 0, none⟩), v'] w' (RetE P B (N + l.length) w' g ns idV (foldE 3 e0 es))) :=
    Lib.hid fun w' v' q h hq hi => by
      obtain ⟨b, c, q1, q2, q3, q4, q5, q6⟩ := hi
      exact mulN_put (hs.below h) ⟨b, c, q1, q2, q3, hs.away h (Nat.le_trans hq q4), q5, q6⟩ hlen h0 he0 hes hP hN
  have HGL := Lib.hid hs.dag.glt; have HBL := Lib.hid hs.hB
  obtain ⟨e0', e1', -, -⟩ := cells2 b1
  have HB2 := Lib.hid hb2; have B2 := Lib.hid b2
  have HSZ : Hid (w.heap.size + 1 < w2.heap.size) := Lib.hid (by omega)
  obtain ⟨bv, cv, rfl, -⟩ := id hl
  clear hs hl hlen h0 he0 hes hP hN hll hb2 hs2 b1 b2
  go_enter Tryz.func24, Tryz.ntmps24
  go_wp2_with fail
  refine HG.out.mono ?_
  rintro e w5 ⟨rfl, hb5⟩
  have hb5d : Below w2.heap.size w2 w5.drew := below_up hb5 (Below.refl _ _).drew
  replace e0' := cell_below e0' hb5d (Nat.le_refl _)
  replace e1' := cell_below e1' hb5d (Nat.le_refl _)
  have HB5 := Lib.hid (below_up HB2.out hb5d)
  have B5 := Lib.hid (heap_below B2.out hb5d (heap_lt B2.out))
  clear hb5 hb5d
  have n1 : w.heap.size + 1 ≠ w.heap.size := by omega
  have n2 : w.heap.size ≠ w.heap.size + 1 := by omega
  go_wp2_with fail
  go_region_held3 (fun w' => w'.cell? ⟨w.heap.size, 0, none⟩ = some (.pointer (some ⟨g, 0, none⟩)) ∧ w'.cell? ⟨w.heap.size, 1, none⟩ = some (.int .i64 (i : Int))) (go_keep)
    (first
    | (go_at_call 69
       refine (HIDS.out _ HB5.out).mono ?_
       rintro e w6 ⟨hb6, v6, rfl, hi6⟩
       have e0' := cell_below e0' hb6 (Nat.le_refl _)
       have e1' := cell_below e1' hb6 (Nat.le_refl _)
       have HB6 := Lib.hid (below_up HB5.out hb6)
       have B6 := Lib.hid (heap_below B5.out hb6 (heap_lt B5.out))
       have HADD := Lib.hid (HOP.out w6 v6 _ HB6.out HB5.out.size hi6)
       obtain ⟨b6, c6, rfl, -⟩ := hi6
       clear hb6)
    | (go_at_call 38
       refine HADD.out.mono ?_
       rintro e w7 ⟨k, ns', rfl, h1, h2, h3, h4⟩
       have e0' := h4.cell e0' (HAW.out _ _ HB6.out (by simp))
       have e1' := h4.cell e1' (HAW.out _ _ HB6.out (by simp))
       have hlt6 : w.heap.size + 1 < w6.heap.size := heap_lt B6.out
       have B7 := (h4.heap (b := w.heap.size + 1) hlt6 (HAW.out _ _ HB6.out (by omega))).trans B6.out
       obtain ⟨r0, r1, f0, f1⟩ := cells2 B7
       have HF : Hid (FoldSt P B (N + l.length) w g ns (foldE 3 e0 es) k ((w7.setCell ⟨w.heap.size + 1, 0, none⟩ (.pointer (some ⟨g, 0, none⟩))).setCell ⟨w.heap.size + 1, 1, none⟩ (.int .i64 (k : Int)))) :=
         Lib.hid (FoldSt.set2 (w0 := w) ⟨ns', h1, h2, h3, h4⟩ (Or.inr trivial) HGL.out HB6.out (by omega) (HAW.out _ _ HB6.out (by omega)) hlt6 (by have := HBL.out; omega) _ _)
       have HX := Lib.hid (set2 B7 (.pointer (some ⟨g, 0, none⟩)) (.int .i64 (k : Int)))
       clear h1 h2 h3 h4 B7 hlt6))
  go_wp2
  obtain ⟨x0, x1, -, -⟩ := cells2 HX.out
  refine bodyPost_ret (v := .agg #[_, _]) (by simp [results, Tryz.results24, go_sem, x0, x1]; first | exact ⟨rfl, rfl⟩ | rfl) rfl ?_
  exact HF.out.ret (numV g)
set_option maxHeartbeats 6400000 in
set_option maxRecDepth 100000 in
theorem goes_none {w : World} {g k : Nat} {ns : List Nd} (hd : DagP w g ns) (hk : k < ns.length) :
    Calls Tryz.prog 67 #[.agg #[.pointer (some ⟨g, 0, none⟩), .int .i64 (k : Int)], .slice none 0 0] w (RetV w (.bool true)) := by
  obtain ⟨w1, hw1, hb1, hs1, b1⟩ := pro1 w (.cells #[.pointer (some ⟨g, 0, none⟩), .int .i64 (k : Int)] 27)
  obtain ⟨c0, c1, -, -⟩ := cells2 b1
  have HV := Lib.hid (valid_num (hd.below hb1) hk)
  have HB := Lib.hid hb1
  clear hd hk hb1 hs1 b1
  go_enter Tryz.func67, Tryz.ntmps67
  go_wp2_with fail
  refine HV.out.mono ?_
  rintro e w2 ⟨rfl, hb2⟩
  have HB2 := Lib.hid (below_up HB.out hb2)
  clear hb2
  go_wp2_with fail
  go_loopw [12] (fun i wr => i = .int .i64 0 ∧ Hid (wr = w2)) (fun _ _ => 0)
  case atStart => exact ⟨rfl, Lib.hid rfl⟩
  case round =>
    obtain ⟨rfl, HW⟩ := hrel
    obtain rfl := HW.out
    clear HW
    go_wp2
    go_ret
    exact ⟨rfl, HB2.out⟩
set_option maxHeartbeats 6400000 in
set_option maxRecDepth 100000 in
theorem sqrt_num {P : Ex → Prop} {B N : Nat} {w : World} {g i : Nat} {ns : List Nd} {a : Ex} (hs : St P B N w g ns) (hN : N < 20000) (ha : Is ns a i) (hP : P (.root a)) :
    Calls Tryz.prog 30 #[numV g i] w (RetE P B (N + 1) w g ns (numV g) (.root a)) := by
  obtain ⟨w4, hw4, hb4, hs4, b1, b2⟩ := pro2 w (.cells #[.pointer (some ⟨g, 0, none⟩), .int .i64 (i : Int)] 27) (.cells #[.pointer none, .int .i64 0] 27)
  have HG := Lib.hid (goes_none (hs.dag.below hb4) ha.lt)
  have HOP : Hid (∀ w', Below w.heap.size w w' → Calls Tryz.prog 36 #[.pointer (some ⟨g, 0, none⟩), .int .i64 (i : Int)] w' (RetE P B (N + 1) w' g ns idV (.root a))) := Lib.hid fun w' h => root_put (hs.below h) hN ha hP
  have HAW : Hid (∀ w' (c : Nat), Below w.heap.size w w' → w.heap.size ≤ c → ¬ DagB w' g c) := Lib.hid fun w' c h => hs.away h
  have HGL := Lib.hid hs.dag.glt; have HBL := Lib.hid hs.hB
  obtain ⟨e0, e1, -, -⟩ := cells2 b1
  have HB4 := Lib.hid hb4
  have B3 := Lib.hid b2
  clear hs hN ha hP hb4 b1 b2 hs4
  go_enter Tryz.func30, Tryz.ntmps30
  go_wp2_with fail
  refine HG.out.mono ?_
  rintro e w5 ⟨rfl, hb5⟩
  have hb5d : Below w4.heap.size w4 w5.drew := below_up hb5 (Below.refl _ _).drew
  replace e0 := cell_below e0 hb5d (Nat.le_refl _)
  replace e1 := cell_below e1 hb5d (Nat.le_refl _)
  have HB5 := Lib.hid (below_up HB4.out hb5d)
  have B5 := Lib.hid (heap_below B3.out hb5d (heap_lt B3.out))
  clear hb5 hb5d hw4
  have n1 : w.heap.size + 1 ≠ w.heap.size := by omega
  have n2 : w.heap.size ≠ w.heap.size + 1 := by omega
  go_wp2_with fail
  go_region_held3 (fun w' => w'.cell? ⟨w.heap.size, 0, none⟩ = some (.pointer (some ⟨g, 0, none⟩)) ∧ w'.cell? ⟨w.heap.size, 1, none⟩ = some (.int .i64 (i : Int))) (go_keep)
    (first
    | (go_at_call 36
       refine (HOP.out _ HB5.out).mono ?_
       rintro e w6 ⟨k, ns', rfl, h1, h2, h3, h4⟩
       have e0 := h4.cell e0 (HAW.out _ _ HB5.out (by simp))
       have e1 := h4.cell e1 (HAW.out _ _ HB5.out (by simp))
       have hlt5 : w.heap.size + 1 < w5.drew.heap.size := heap_lt B5.out
       have B6 := (h4.heap (b := w.heap.size + 1) hlt5 (HAW.out _ _ HB5.out (by omega))).trans B5.out
       obtain ⟨r0, r1, f0, f1⟩ := cells2 B6
       have HF : Hid (FoldSt P B (N + 1) w g ns (.root a) k ((w6.setCell ⟨w.heap.size + 1, 0, none⟩ (.pointer (some ⟨g, 0, none⟩))).setCell ⟨w.heap.size + 1, 1, none⟩ (.int .i64 (k : Int)))) :=
         Lib.hid (FoldSt.set2 (w0 := w) ⟨ns', h1, h2, h3, h4⟩ (Or.inr trivial) HGL.out HB5.out (by omega) (HAW.out _ _ HB5.out (by omega)) hlt5 (by have := HBL.out; omega) _ _)
       have HX := Lib.hid (set2 B6 (.pointer (some ⟨g, 0, none⟩)) (.int .i64 (k : Int)))
       clear h1 h2 h3 h4 B6 hlt5))
  go_wp2
  obtain ⟨x0, x1, -, -⟩ := cells2 HX.out
  refine bodyPost_ret (v := .agg #[_, _]) (by simp [results, Tryz.results30, go_sem, x0, x1]; first | exact ⟨rfl, rfl⟩ | rfl) rfl ?_
  exact HF.out.ret (numV g)
end Go.Proofs.YtgodkfgnhpnhcaaGreatDoor
/- real.Sign, Cmp: by an oracle for the sign of an expression. -/
namespace Go.Proofs.YtgodkfgnhpnhcaaGreatDoor
open Go.RowKit Go.Maps
def RetS (w : World) (s : Int) (e : Ending) (w' : World) : Prop := e = .returned (.tuple #[.int .i64 s, .nilIface]) ∧ Below w.heap.size w w'
/-- whichever node stands for x, its sign is told to be s -/
def SgnOk (P : Ex → Prop) (x : Ex) (s : Int) : Prop := ∀ (B N : Nat) (w : World) (g k : Nat) (ns : List Nd), St P B N w g ns → Is ns x k →
  Calls Tryz.prog 42 #[.pointer (some ⟨g, 0, none⟩), .int .i64 (k : Int), .slice none 0 0] w (RetS w s)
/-- a question is answered with v; the dag may have grown -/
def RetQ (P : Ex → Prop) (B N : Nat) (w : World) (g : Nat) (ns : List Nd) (v : Value) (e : Ending) (w' : World) : Prop :=
  e = .returned v ∧ ∃ ns', St P B N w' g ns' ∧ ns <+: ns' ∧ DS g w w'
set_option maxHeartbeats 6400000 in
set_option maxRecDepth 100000 in
theorem sign_num {P : Ex → Prop} {B N : Nat} {w : World} {g k : Nat} {ns : List Nd} {x : Ex} {s : Int} (hs : St P B N w g ns) (hx : Is ns x k) (hS : SgnOk P x s) :
    Calls Tryz.prog 20 #[numV g k] w (RetS w s) := by
  obtain ⟨w1, hw1, hb1, hs1, b1⟩ := pro1 w (.cells #[.pointer (some ⟨g, 0, none⟩), .int .i64 (k : Int)] 27)
  obtain ⟨c0, c1, -, -⟩ := cells2 b1
  have HV := Lib.hid (valid_num (hs.dag.below hb1) hx.lt)
  have HS : Hid (∀ w', Below w.heap.size w w' → Calls Tryz.prog 42 #[.pointer (some ⟨g, 0, none⟩), .int .i64 (k : Int), .slice none 0 0] w' (RetS w' s)) := Lib.hid fun w' h => hS B N w' g k ns (hs.below h) hx
  have HB := Lib.hid hb1
  clear hs hx hS hb1 hs1 b1
  go_enter Tryz.func20, Tryz.ntmps20
  go_wp2_with fail
  refine HV.out.mono ?_
  rintro e w2 ⟨rfl, hb2⟩
  replace c0 := cell_below c0 hb2 (Nat.le_refl _)
  replace c1 := cell_below c1 hb2 (Nat.le_refl _)
  have HB2 := Lib.hid (below_up HB.out hb2)
  clear hb2
  go_wp2_with fail
  refine (HS.out _ HB2.out).mono ?_
  rintro e w3 ⟨rfl, hb3⟩
  have HB3 := Lib.hid (below_up HB2.out hb3)
  clear hb3
  go_wp2
  go_ret2
  exact ⟨rfl, HB3.out⟩
set_option maxHeartbeats 6400000 in
set_option maxRecDepth 100000 in
theorem cmp_num {P : Ex → Prop} {B N : Nat} {w : World} {g i j : Nat} {ns : List Nd} {a b : Ex} {s : Int} (hs : St P B N w g ns) (hN : N < 20000) (ha : Is ns a i) (hb : Is ns b j) (hP : P (.sub a b)) (hS : SgnOk P (.sub a b) s) :
    Calls Tryz.prog 21 #[numV g i, numV g j] w (RetQ P B (N + 1) w g ns (.tuple #[.int .i64 s, .nilIface])) := by
  obtain ⟨w2, hw2, hb2, hs2, b1, b2⟩ := pro2 w (.cells #[.pointer (some ⟨g, 0, none⟩), .int .i64 (i : Int)] 27) (.cells #[.pointer (some ⟨g, 0, none⟩), .int .i64 (j : Int)] 27)
  obtain ⟨c0, c1, -, -⟩ := cells2 b1
  obtain ⟨d0, d1, -, -⟩ := cells2 b2
  have HSUB := Lib.hid (sub_num (hs.below hb2) hN ha hb hP)
  have HDS := Lib.hid (DS.of_below hs.dag.glt hb2)
  have HSG : Hid (∀ w' k ns', St P B (N + 1) w' g ns' → Is ns' (.sub a b) k → Calls Tryz.prog 20 #[numV g k] w' (RetS w' s)) := Lib.hid fun w' k ns' h1 h2 => sign_num h1 h2 hS
  clear hs hN ha hb hP hS hb2 hs2 b1 b2
  go_enter Tryz.func21, Tryz.ntmps21
  go_wp2_with fail
  refine HSUB.out.mono ?_
  rintro e w3 ⟨k, ns', rfl, h1, h2, h3, h4⟩
  have HC := Lib.hid (HSG.out w3 k ns' h1 h3)
  have HR : Hid (∀ w', Below w3.heap.size w3 w' → RetQ P B (N + 1) w g ns (.tuple #[.int .i64 s, .nilIface]) (.returned (.tuple #[.int .i64 s, .nilIface])) w') := Lib.hid fun w' h => ⟨rfl, ns', h1.below h, h2, HDS.out.trans (h4.trans (DS.of_below h1.dag.glt h))⟩
  clear h1 h2 h3 h4
  go_wp2_with fail
  refine HC.out.mono ?_
  rintro e w4 ⟨rfl, hb4⟩
  have HF := Lib.hid (HR.out _ hb4)
  clear hb4
  go_wp2
  go_ret2
  exact HF.out
end Go.Proofs.YtgodkfgnhpnhcaaGreatDoor
/- spot.At, Cmp, Same. -/
namespace Go.Proofs.YtgodkfgnhpnhcaaGreatDoor
open Go.RowKit Go.Maps
abbrev spotV (g i j : Nat) : Value := .agg #[.pointer (some ⟨g, 0, none⟩), .int .i64 (i : Int), .pointer (some ⟨g, 0, none⟩), .int .i64 (j : Int)]
/-- a point comes back -/
def RetSp (P : Ex → Prop) (B N : Nat) (w : World) (g : Nat) (ns : List Nd) (x y : Ex) (e : Ending) (w' : World) : Prop :=
  ∃ (i j : Nat) (ns' : List Nd), e = .returned (spotV g i j) ∧ St P B N w' g ns' ∧ ns <+: ns' ∧ Is ns' x i ∧ Is ns' y j ∧ DS g w w'
/-- the dag has grown, nothing else -/
def Grew (P : Ex → Prop) (B N : Nat) (w : World) (g : Nat) (ns ns' : List Nd) (w' : World) : Prop := St P B N w' g ns' ∧ ns <+: ns' ∧ DS g w w'
section
variable {P : Ex → Prop} {B N : Nat} {w w' w'' w0 : World} {g : Nat} {ns ns' : List Nd}
theorem St.setCell (h : St P B N w g ns) {b i : Nat} (hn : ¬ DagB w g b) (hB : B ≤ b) (u : Value) : St P B N (w.setCell ⟨b, i, none⟩ u) g ns :=
  ⟨h.dag.setCell hn u, h.all, fun c hc => h.hi c ((dagB_set hn u).1 hc), h.tab.step (Below.heap_setCell w _ u _ (by have := h.tb; simp; omega)), h.tb, by simpa [World.setCell] using h.hB, h.room⟩
theorem Grew.setCell (h : Grew P B N w g ns ns' w') {b i : Nat} (hb : w.heap.size ≤ b) (hn : ¬ DagB w' g b) (hB : B ≤ b) (u : Value) : Grew P B N w g ns ns' (w'.setCell ⟨b, i, none⟩ u) :=
  ⟨h.1.setCell hn hB u, h.2.1, h.2.2.setCell hb hn u⟩
theorem Grew.below (h : Grew P B N w g ns ns' w') (hb : Below w'.heap.size w' w'') : Grew P B N w g ns ns' w'' :=
  ⟨h.1.below hb, h.2.1, h.2.2.trans (DS.of_below h.1.dag.glt hb)⟩
theorem Grew.start (h : St P B N w g ns) (hb : Below w.heap.size w w') : Grew P B N w g ns ns w' := ⟨h.below hb, List.prefix_rfl, DS.of_below h.dag.glt hb⟩
theorem Grew.trans {M : Nat} {ns'' : List Nd} (h : Grew P B N w g ns ns' w') (k : Grew P B M w' g ns' ns'' w'') : Grew P B M w g ns ns'' w'' := ⟨k.1, h.2.1.trans k.2.1, h.2.2.trans k.2.2⟩
theorem Grew.away (h : Grew P B N w g ns ns' w') (hs : St P B N w g ns ∨ True) {b : Nat} (hlt : b < w.heap.size) (hn : ¬ DagB w g b) : ¬ DagB w' g b := h.2.2.2 b hlt hn
end
theorem set4' {w : World} {g : Nat} {T : TypeId} {a b c d : Value} (h : w.heap[g]? = some (.cells #[a, b, c, d] T (0, 0))) (u v x y : Value) :
    ((((w.setCell ⟨g, 0, none⟩ u).setCell ⟨g, 1, none⟩ v).setCell ⟨g, 2, none⟩ x).setCell ⟨g, 3, none⟩ y).heap[g]? = some (.cells #[u, v, x, y] T (0, 0)) := set4 h u v x y
set_option maxHeartbeats 6400000 in
set_option maxRecDepth 100000 in
theorem at_spot {P : Ex → Prop} {B N : Nat} {w : World} {g : Nat} {ns : List Nd} {x y : Nat} (hs : St P B N w g ns) (hN : N + 1 < 20000) (hx : x < 18446744073709551616) (hy : y < 18446744073709551616) (fx : fin x) (fy : fin y) (hP : P (.leaf x)) (hQ : P (.leaf y)) :
    Calls Tryz.prog 17 #[.pointer (some ⟨g, 0, none⟩), .float .f64 x, .float .f64 y] w (RetSp P B (N + 2) w g ns (.leaf x) (.leaf y)) := by
  obtain ⟨w1, hw1, hb1, hs1, b1⟩ := pro1 w (.cells #[.pointer none, .int .i64 0, .pointer none, .int .i64 0] 29)
  have HL := Lib.hid (of_num (hs.below hb1) (by omega) hx fx hP)
  have HM : Hid (∀ w' ns', St P B (N + 1) w' g ns' → Calls Tryz.prog 25 #[.pointer (some ⟨g, 0, none⟩), .float .f64 y] w' (RetE P B (N + 2) w' g ns' (numV g) (.leaf y))) := Lib.hid fun w' ns' h => of_num h hN hy fy hQ
  have hn1 : ¬ DagB w1 g w.heap.size := hs.away hb1 (Nat.le_refl _)
  have HN1 := Lib.hid hn1; have HB1 := Lib.hid b1; have HGR := Lib.hid (Grew.start hs hb1); have HBL := Lib.hid hs.hB
  have HS1 : Hid (w.heap.size < w1.heap.size) := Lib.hid (by omega)
  clear hs hN hx hy fx fy hP hQ hb1 hs1 b1 hn1
  go_enter Tryz.func17, Tryz.ntmps17
  go_wp2_with fail
  refine HL.out.mono ?_
  rintro e w2 ⟨i, ns1, rfl, h1, h2, h3, h4⟩
  have HM2 := Lib.hid (HM.out w2 ns1 h1)
  have HI := Lib.hid h3; have HG2 := Lib.hid (HGR.out.trans ⟨h1, h2, h4⟩)
  have HN2 := Lib.hid (h4.2 _ HS1.out HN1.out)
  have HB2 := Lib.hid ((h4.heap HS1.out HN1.out).trans HB1.out)
  have HS2 : Hid (w.heap.size < w2.heap.size) := Lib.hid (Nat.lt_of_lt_of_le HS1.out h4.size)
  clear h1 h2 h3 h4
  go_wp2_with fail
  refine HM2.out.mono ?_
  rintro e w3 ⟨j, ns2, rfl, h1, h2, h3, h4⟩
  have hn3 := h4.2 _ HS2.out HN2.out
  have b3 := (h4.heap HS2.out HN2.out).trans HB2.out
  obtain ⟨c0, c1, c2, c3⟩ := cells4 b3
  obtain ⟨f0, f1, f2, f3⟩ := free4 b3
  have HX := Lib.hid (set4 b3 (.pointer (some ⟨g, 0, none⟩)) (.int .i64 (i : Int)) (.pointer (some ⟨g, 0, none⟩)) (.int .i64 (j : Int)))
  have HF : Hid (RetSp P B (N + 2) w g ns (.leaf x) (.leaf y) (.returned (spotV g i j)) ((((w3.setCell ⟨w.heap.size, 0, none⟩ (.pointer (some ⟨g, 0, none⟩))).setCell ⟨w.heap.size, 1, none⟩ (.int .i64 (i : Int))).setCell ⟨w.heap.size, 2, none⟩ (.pointer (some ⟨g, 0, none⟩))).setCell ⟨w.heap.size, 3, none⟩ (.int .i64 (j : Int)))) := Lib.hid (by
    have g0 := HG2.out.trans ⟨h1, h2, h4⟩
    have q : ∀ (w' : World), ¬ DagB w' g w.heap.size → ∀ i u, ¬ DagB (w'.setCell ⟨w.heap.size, i, none⟩ u) g w.heap.size := fun w' hn i u hd => hn ((dagB_set hn u).1 hd)
    have g1 := (((g0.setCell (i := 0) (Nat.le_refl _) hn3 HBL.out (.pointer (some ⟨g, 0, none⟩))).setCell (i := 1) (Nat.le_refl _) (q _ hn3 _ _) HBL.out (.int .i64 (i : Int))).setCell (i := 2) (Nat.le_refl _) (q _ (q _ hn3 _ _) _ _) HBL.out (.pointer (some ⟨g, 0, none⟩))).setCell (i := 3) (Nat.le_refl _) (q _ (q _ (q _ hn3 _ _) _ _) _ _) HBL.out (.int .i64 (j : Int))
    exact ⟨i, j, ns2, rfl, g1.1, g1.2.1, HI.out.mono h2, h3, g1.2.2⟩)
  clear h1 h2 h3 h4 b3 hn3
  go_wp2
  obtain ⟨x0, x1, x2, x3⟩ := cells4 HX.out
  refine bodyPost_ret (v := .agg #[_, _, _, _]) (by simp [results, Tryz.results17, go_sem, x0, x1, x2, x3]; first | exact ⟨rfl, rfl, rfl, rfl⟩ | rfl) rfl ?_
  exact HF.out
/-- how two points compare -/
def CmpOk (P : Ex → Prop) (px py qx qy : Ex) (s : Int) : Prop := ∃ s1 s2, P (.sub px qx) ∧ SgnOk P (.sub px qx) s1 ∧ (s1 = 0 → P (.sub py qy) ∧ SgnOk P (.sub py qy) s2) ∧ s = if s1 = 0 then s2 else s1
set_option maxHeartbeats 6400000 in
set_option maxRecDepth 100000 in
theorem cmp_spot {P : Ex → Prop} {B N : Nat} {w : World} {g i j k l : Nat} {ns : List Nd} {px py qx qy : Ex} {s : Int} (hs : St P B N w g ns) (hN : N + 1 < 20000) (hi : Is ns px i) (hj : Is ns py j) (hk : Is ns qx k) (hl : Is ns qy l) (hc : CmpOk P px py qx qy s) :
    Calls Tryz.prog 44 #[spotV g i j, spotV g k l] w (RetQ P B (N + 2) w g ns (.tuple #[.int .i64 s, .nilIface])) := by
  obtain ⟨s1, s2, hp1, hs1, hs2, rfl⟩ := hc
  obtain ⟨w2, hw2, hb2, hz2, b1, b2⟩ := pro2 w (.cells #[.pointer (some ⟨g, 0, none⟩), .int .i64 (i : Int), .pointer (some ⟨g, 0, none⟩), .int .i64 (j : Int)] 29) (.cells #[.pointer (some ⟨g, 0, none⟩), .int .i64 (k : Int), .pointer (some ⟨g, 0, none⟩), .int .i64 (l : Int)] 29)
  obtain ⟨c0, c1, c2, c3⟩ := cells4 b1
  obtain ⟨d0, d1, d2, d3⟩ := cells4 b2
  have HC := Lib.hid (cmp_num (hs.below hb2) (by omega) hi hk hp1 hs1)
  have HD : Hid (s1 = 0 → ∀ w' ns', St P B (N + 1) w' g ns' → ns <+: ns' → Calls Tryz.prog 21 #[numV g j, numV g l] w' (RetQ P B (N + 2) w' g ns' (.tuple #[.int .i64 s2, .nilIface]))) :=
    Lib.hid fun h0 w' ns' h hp => cmp_num h (by omega) (hj.mono hp) (hl.mono hp) (hs2 h0).1 (hs2 h0).2
  have HGR := Lib.hid (Grew.start hs hb2)
  have HAW : Hid (∀ c : Nat, w.heap.size ≤ c → ¬ DagB w2 g c) := Lib.hid fun c h => hs.away hb2 h
  clear hs hN hi hj hk hl hp1 hs1 hs2 hb2 hz2 b1 b2
  by_cases h0 : s1 = 0
  · have HD0 : Hid (∀ w' ns', St P B (N + 1) w' g ns' → ns <+: ns' → Calls Tryz.prog 21 #[numV g j, numV g l] w' (RetQ P B (N + 2) w' g ns' (.tuple #[.int .i64 s2, .nilIface]))) := Lib.hid (HD.out h0)
    clear HD
    subst h0
    rw [if_pos rfl]
    go_enter Tryz.func44, Tryz.ntmps44
    go_wp2_with fail
    refine HC.out.mono ?_
    rintro e w3 ⟨rfl, ns1, h1, h2, h3⟩
    have e2 := h3.cell c2 (HAW.out _ (by simp))
    have e3 := h3.cell c3 (HAW.out _ (by simp))
    have e4 := h3.cell d2 (HAW.out _ (by simp))
    have e5 := h3.cell d3 (HAW.out _ (by simp))
    have HD1 := Lib.hid (HD0.out w3 ns1 h1 h2)
    have HG1 := Lib.hid (HGR.out.trans ⟨h1, h2, h3⟩)
    clear h1 h2 h3
    go_wp2_with fail
    refine HD1.out.mono ?_
    rintro e w4 ⟨rfl, ns2, h1, h2, h3⟩
    have HF := Lib.hid (HG1.out.trans ⟨h1, h2, h3⟩)
    clear h1 h2 h3
    go_wp2
    go_ret2
    exact ⟨rfl, ns2, HF.out⟩
  · rw [if_neg h0]
    have hb0 : (s1 != 0) = true := by simpa using h0
    have hb1 : (s1 == 0) = false := by simpa using h0
    clear HD
    go_enter Tryz.func44, Tryz.ntmps44
    go_wp2_with fail
    refine HC.out.mono ?_
    rintro e w3 ⟨rfl, ns1, h1, h2, h3⟩
    have HF := Lib.hid (HGR.out.trans ⟨h1.more (M := N + 2) (by omega), h2, h3⟩)
    clear h1 h2 h3
    go_wp2
    go_ret2
    exact ⟨rfl, ns1, HF.out⟩
set_option maxHeartbeats 6400000 in
set_option maxRecDepth 100000 in
theorem same_spot {P : Ex → Prop} {B N : Nat} {w : World} {g i j k l : Nat} {ns : List Nd} {px py qx qy : Ex} {s : Int} (hs : St P B N w g ns) (hN : N + 1 < 20000) (hi : Is ns px i) (hj : Is ns py j) (hk : Is ns qx k) (hl : Is ns qy l) (hc : CmpOk P px py qx qy s) :
    Calls Tryz.prog 29 #[spotV g i j, spotV g k l] w (RetQ P B (N + 2) w g ns (.tuple #[.bool (s == 0), .nilIface])) := by
  obtain ⟨w2, hw2, hb2, hz2, b1, b2⟩ := pro2 w (.cells #[.pointer (some ⟨g, 0, none⟩), .int .i64 (i : Int), .pointer (some ⟨g, 0, none⟩), .int .i64 (j : Int)] 29) (.cells #[.pointer (some ⟨g, 0, none⟩), .int .i64 (k : Int), .pointer (some ⟨g, 0, none⟩), .int .i64 (l : Int)] 29)
  obtain ⟨c0, c1, c2, c3⟩ := cells4 b1
  obtain ⟨d0, d1, d2, d3⟩ := cells4 b2
  have HC := Lib.hid (cmp_spot (hs.below hb2) hN hi hj hk hl hc)
  have HGR := Lib.hid (Grew.start hs hb2)
  clear hs hN hi hj hk hl hc hb2 hz2 b1 b2
  go_enter Tryz.func29, Tryz.ntmps29
  go_wp2_with fail
  refine HC.out.mono ?_
  rintro e w3 ⟨rfl, ns1, h1, h2, h3⟩
  have HF := Lib.hid (HGR.out.trans ⟨h1, h2, h3⟩)
  clear h1 h2 h3
  go_wp2
  go_ret2
  exact ⟨rfl, ns1, HF.out⟩
end Go.Proofs.YtgodkfgnhpnhcaaGreatDoor
/- Blocks that are kept while a dag grows. -/
namespace Go.Proofs.YtgodkfgnhpnhcaaGreatDoor
open Go.RowKit Go.Maps
/-- the dag has grown since w; the blocks of l hold what l says, and are none of the dag's -/
structure Stg (P : Ex → Prop) (B N : Nat) (w : World) (g : Nat) (ns : List Nd) (W : World) (ns' : List Nd) (l : List (Nat × Obj)) : Prop where
  grew : Grew P B N w g ns ns' W
  kept : ∀ p ∈ l, W.heap[p.1]? = some p.2 ∧ ¬ DagB W g p.1 ∧ w.heap.size ≤ p.1
  hw : B ≤ w.heap.size
  nodup : (l.map (·.1)).Nodup
section
variable {P : Ex → Prop} {B N M : Nat} {w W W' : World} {g : Nat} {ns ns' ns'' : List Nd} {l : List (Nat × Obj)}
theorem Stg.start (h : St P B N w g ns) : Stg P B N w g ns w ns [] := ⟨⟨h, List.prefix_rfl, DS.refl g w⟩, fun p hp => by simp at hp, h.hB, by simp⟩
theorem Stg.pre (h : Stg P B N w g ns W ns' l) : ns <+: ns' := h.grew.2.1
theorem Stg.st (h : Stg P B N w g ns W ns' l) : St P B N W g ns' := h.grew.1
theorem Stg.lt (h : Stg P B N w g ns W ns' l) {p : Nat × Obj} (hp : p ∈ l) : p.1 < W.heap.size := heap_lt (h.kept p hp).1
theorem Stg.below (h : Stg P B N w g ns W ns' l) (hb : Below W.heap.size W W') : Stg P B N w g ns W' ns' l :=
  ⟨h.grew.below hb, fun p hp => ⟨heap_below (h.kept p hp).1 hb (h.lt hp), fun hd => (h.kept p hp).2.1 ((DagB.congr (hb.block g h.grew.1.dag.glt)).1 hd), (h.kept p hp).2.2⟩, h.hw, h.nodup⟩
theorem Stg.drew (h : Stg P B N w g ns W ns' l) : Stg P B N w g ns W.drew ns' l := h.below (Below.refl _ _).drew
theorem Stg.alloc (h : Stg P B N w g ns W ns' l) (o : Obj) : Stg P B N w g ns (W.alloc o) ns' ((W.heap.size, o) :: l) := by
  have hb : Below W.heap.size W (W.alloc o) := below_alloc W o
  have h' := h.below hb
  refine ⟨h'.grew, fun p hp => ?_, h.hw, ?_⟩
  · rcases List.mem_cons.1 hp with rfl | hp
    · exact ⟨heap_alloc_new W o, fun hd => by have := h.grew.1.dag.dagB ((DagB.congr (hb.block g h.grew.1.dag.glt)).1 hd); simp at this, h.grew.2.2.size⟩
    · exact h'.kept p hp
  · simp only [List.map_cons, List.nodup_cons]
    refine ⟨fun hm => ?_, h.nodup⟩
    obtain ⟨p, hp, e⟩ := List.mem_map.1 hm
    have := h.lt hp; omega
/-- a call that makes the dag grow -/
theorem Stg.step (h : Stg P B N w g ns W ns' l) (hs : St P B M W' g ns'') (hp : ns' <+: ns'') (hd : DS g W W') : Stg P B M w g ns W' ns'' l :=
  ⟨h.grew.trans ⟨hs, hp, hd⟩, fun p hp => ⟨(hd.heap (h.lt hp) (h.kept p hp).2.1).trans (h.kept p hp).1, hd.2 _ (h.lt hp) (h.kept p hp).2.1, (h.kept p hp).2.2⟩, h.hw, h.nodup⟩
theorem Stg.more (h : Stg P B N w g ns W ns' l) (hM : N ≤ M) : Stg P B M w g ns W ns' l := ⟨⟨h.grew.1.more hM, h.grew.2⟩, h.kept, h.hw, h.nodup⟩
theorem Stg.hd {p : Nat × Obj} (h : Stg P B N w g ns W ns' (p :: l)) : W.heap[p.1]? = some p.2 := (h.kept p (by simp)).1
theorem Stg.hd2 {p q : Nat × Obj} (h : Stg P B N w g ns W ns' (q :: p :: l)) : W.heap[p.1]? = some p.2 := (h.kept p (by simp)).1
theorem Stg.at {b : Nat} {o : Obj} (h : Stg P B N w g ns W ns' l) (hp : (b, o) ∈ l) : W.heap[b]? = some o := (h.kept _ hp).1
theorem Stg.tl {p : Nat × Obj} (h : Stg P B N w g ns W ns' (p :: l)) : Stg P B N w g ns W ns' l := ⟨h.grew, fun q hq => h.kept q (List.mem_cons_of_mem _ hq), h.hw, (List.nodup_cons.1 h.nodup).2⟩
theorem Stg.tl2 {p q : Nat × Obj} (h : Stg P B N w g ns W ns' (p :: q :: l)) : Stg P B N w g ns W ns' (p :: l) :=
  ⟨h.grew, fun r hr => h.kept r (by rcases List.mem_cons.1 hr with rfl | hr <;> simp [*]), h.hw, by
    have := h.nodup
    simp only [List.map_cons, List.nodup_cons, List.mem_cons, not_or] at this ⊢
    exact ⟨this.1.2, this.2.2⟩⟩
theorem DagP.off {b : Nat} (h : DagP W g ns) (hn : ¬ DagB W g b) (hg : W.grownBy W' (some b)) : DagP W' g ns := by
  obtain ⟨A, c, mb, m, ho⟩ := h.opened
  obtain ⟨q1, q2, q3⟩ := ho.dagB hn
  obtain ⟨h1, h2, h3, h4⟩ := ho
  exact (show DagO _ g ns A c mb m from ⟨(hg.block g (heap_lt h1) (fun e => q1 (Option.some.inj e).symm)).trans h1, h2.kept hg (Or.inr q3), h3.keep (hg.block mb h3.lt (fun e => q2 (Option.some.inj e).symm)), h4⟩).dag
/-- the head block is written -/
theorem Stg.write {b : Nat} {o o' : Obj} (h : Stg P B N w g ns W ns' ((b, o) :: l)) (hb : W.grownBy W' (some b)) (ho : W'.heap[b]? = some o') : Stg P B N w g ns W' ns' ((b, o') :: l) := by
  obtain ⟨q1, q2, q3⟩ := h.kept (b, o) (by simp)
  have hgb : some g ≠ some b := fun e => q2 (Or.inl (Option.some.inj e).symm)
  have hg := hb.block g h.grew.1.dag.glt hgb
  have hst := h.grew.1
  have hwz : w.heap.size ≤ W.heap.size := h.grew.2.2.size
  refine ⟨⟨⟨hst.dag.off q2 hb, hst.all, fun c hc => hst.hi c ((DagB.congr hg).1 hc), ?_, hst.tb, Nat.le_trans hst.hB hb.size, hst.room⟩, h.grew.2.1, ?_⟩, ?_, h.hw, h.nodup⟩
  · exact hst.tab.step (hb.block _ (by have := hst.tb; have := hst.hB; omega) (fun e => by have := Option.some.inj e; have := hst.tb; have := h.hw; simp only at q3; omega))
  · refine ⟨⟨hb.os.trans h.grew.2.2.1.os, hb.tape.trans h.grew.2.2.1.tape, hb.output.trans h.grew.2.2.1.output, Nat.le_trans hwz hb.size, fun c hc hn => ?_⟩, fun c hc hn hd => h.grew.2.2.2 c hc hn ((DagB.congr hg).1 hd)⟩
    exact (hb.block c (by omega) (fun e => by have := Option.some.inj e; simp only at q3; omega)).trans (h.grew.2.2.1.block c hc hn)
  · intro p hp
    rcases List.mem_cons.1 hp with rfl | hp
    · exact ⟨ho, fun hd => q2 ((DagB.congr hg).1 hd), q3⟩
    · have hne : p.1 ≠ b := fun e => (List.nodup_cons.1 h.nodup).1 (List.mem_map.2 ⟨p, hp, e⟩)
      obtain ⟨r1, r2, r3⟩ := h.kept p (by simp [hp])
      exact ⟨(hb.block p.1 (heap_lt r1) (fun e => hne (Option.some.inj e))).trans r1, fun hd => r2 ((DagB.congr hg).1 hd), r3⟩
end
abbrev numO (g k : Nat) : Obj := .cells #[.pointer (some ⟨g, 0, none⟩), .int .i64 (k : Int)] 27
abbrev zeroO : Obj := .cells #[.pointer none, .int .i64 0] 27
abbrev spotO (g i j : Nat) : Obj := .cells #[.pointer (some ⟨g, 0, none⟩), .int .i64 (i : Int), .pointer (some ⟨g, 0, none⟩), .int .i64 (j : Int)] 29
theorem size_al (w : World) (o : Obj) : (w.alloc o).heap.size = w.heap.size + 1 := by simp
/-- x times the one number y, which lies in block b -/
theorem mul1_num {P : Ex → Prop} {B N : Nat} {w : World} {g i j b : Nat} {ns : List Nd} {x y : Ex} (hs : St P B N w g ns) (hN : N < 20000) (hx : Is ns x i) (hy : Is ns y j) (hb : w.heap[b]? = some (numO g j)) (hP : P (.mul x y)) :
    Calls Tryz.prog 24 #[numV g i, .slice (some ⟨b, 0, none⟩) 1 1] w (RetE P B (N + 1) w g ns (numV g) (.mul x y)) := by
  have := mul_num (l := [j]) (es := [y]) hs (nums_one hb) rfl (by simp) hx (fun m z e h1 h2 => by
    cases m with
    | zero => simp at h1 h2; subst h1; subst h2; exact hy
    | succ m => simp at h1) (fun m hm => by
    have : m = 0 := by simp at hm; omega
    subst this; exact hP) (by simp; omega)
  exact this
theorem add1_num {P : Ex → Prop} {B N : Nat} {w : World} {g i j b : Nat} {ns : List Nd} {x y : Ex} (hs : St P B N w g ns) (hN : N < 20000) (hx : Is ns x i) (hy : Is ns y j) (hb : w.heap[b]? = some (numO g j)) (hP : P (.add x y)) :
    Calls Tryz.prog 22 #[numV g i, .slice (some ⟨b, 0, none⟩) 1 1] w (RetE P B (N + 1) w g ns (numV g) (.add x y)) := by
  have := add_num (l := [j]) (es := [y]) hs (nums_one hb) rfl (by simp) hx (fun m z e h1 h2 => by
    cases m with
    | zero => simp at h1 h2; subst h1; subst h2; exact hy
    | succ m => simp at h1) (fun m hm => by
    have : m = 0 := by simp at hm; omega
    subst this; exact hP) (by simp; omega)
  exact this
/-- a number comes back; the kept blocks are kept -/
def RetK2 (P : Ex → Prop) (B N : Nat) (w : World) (g : Nat) (ns ns' : List Nd) (l : List (Nat × Obj)) (x : Ex) (e : Ending) (W' : World) : Prop :=
  ∃ (k : Nat) (ns'' : List Nd), e = .returned (numV g k) ∧ Stg P B N w g ns W' ns'' l ∧ ns' <+: ns'' ∧ Is ns'' x k
section
variable {P : Ex → Prop} {B N M : Nat} {w W W' : World} {g i j b v : Nat} {ns ns' ns'' : List Nd} {l : List (Nat × Obj)} {x y : Ex}
theorem RetE.kept {e : Ending} (h : Stg P B N w g ns W ns' l) (hr : RetE P B M W g ns' (numV g) x e W') : RetK2 P B M w g ns ns' l x e W' := by
  obtain ⟨k, ns'', e1, h1, h2, h3, h4⟩ := hr
  exact ⟨k, ns'', e1, h.step h1 h2 h4, h2, h3⟩
theorem subK (h : Stg P B N w g ns W ns' l) (hN : N < 20000) (hx : Is ns' x i) (hy : Is ns' y j) (hP : P (.sub x y)) : Calls Tryz.prog 31 #[numV g i, numV g j] W (RetK2 P B (N + 1) w g ns ns' l (.sub x y)) :=
  (sub_num h.grew.1 hN hx hy hP).mono fun _ _ hr => hr.kept h
theorem divK (h : Stg P B N w g ns W ns' l) (hN : N < 20000) (hx : Is ns' x i) (hy : Is ns' y j) (hP : P (.div x y)) : Calls Tryz.prog 55 #[numV g i, numV g j] W (RetK2 P B (N + 1) w g ns ns' l (.div x y)) :=
  (div_num h.grew.1 hN hx hy hP).mono fun _ _ hr => hr.kept h
theorem mulK (h : Stg P B N w g ns W ns' l) (hN : N < 20000) (hx : Is ns' x i) (hy : Is ns' y j) (hP : P (.mul x y)) (hb : W.heap[b]? = some (numO g j)) : Calls Tryz.prog 24 #[numV g i, .slice (some ⟨b, 0, none⟩) 1 1] W (RetK2 P B (N + 1) w g ns ns' l (.mul x y)) :=
  (mul1_num h.grew.1 hN hx hy hb hP).mono fun _ _ hr => hr.kept h
theorem addK (h : Stg P B N w g ns W ns' l) (hN : N < 20000) (hx : Is ns' x i) (hy : Is ns' y j) (hP : P (.add x y)) (hb : W.heap[b]? = some (numO g j)) : Calls Tryz.prog 22 #[numV g i, .slice (some ⟨b, 0, none⟩) 1 1] W (RetK2 P B (N + 1) w g ns ns' l (.add x y)) :=
  (add1_num h.grew.1 hN hx hy hb hP).mono fun _ _ hr => hr.kept h
theorem sqrtK (h : Stg P B N w g ns W ns' l) (hN : N < 20000) (hx : Is ns' x i) (hP : P (.root x)) : Calls Tryz.prog 30 #[numV g i] W (RetK2 P B (N + 1) w g ns ns' l (.root x)) :=
  (sqrt_num h.grew.1 hN hx hP).mono fun _ _ hr => hr.kept h
theorem ofK (h : Stg P B N w g ns W ns' l) (hN : N < 20000) (hv : v < 18446744073709551616) (hf : fin v) (hP : P (.leaf v)) : Calls Tryz.prog 25 #[.pointer (some ⟨g, 0, none⟩), .float .f64 v] W (RetK2 P B (N + 1) w g ns ns' l (.leaf v)) :=
  (of_num h.grew.1 hN hv hf hP).mono fun _ _ hr => hr.kept h
theorem Stg.write2 {T : TypeId} {u v x y : Value} (h : Stg P B N w g ns W ns' ((b, .cells #[u, v] T) :: l)) : Stg P B N w g ns ((W.setCell ⟨b, 0, none⟩ x).setCell ⟨b, 1, none⟩ y) ns' ((b, .cells #[x, y] T) :: l) :=
  h.write (grownBy_set (grownBy_set (grownBy_refl W (some b)) x) y) (set2 h.hd x y)
end
end Go.Proofs.YtgodkfgnhpnhcaaGreatDoor
