/- A part of the proof: contracts of functions and plain laws (SgnB, SgnC, SgnD, SgnE, RlA, RlB, RlC, RlD). -/
import Derived.Test.YtgodkfgnhpnhcaaGreatDoorJ17
import Derived.Test.YtgodkfgnhpnhcaaGreatDoorJ16
import Derived.Lib.Builder
import Derived.Laws.MakeOwn
set_option linter.unusedVariables false
set_option linter.unusedSimpArgs false
namespace Go.Proofs.YtgodkfgnhpnhcaaGreatDoor
open Go.RowKit Go.Maps
theorem setA3 {w : World} {g : Nat} {T : TypeId} {a b c : Value} (h : w.heap[g]? = some (.cells #[a, b, c] T (0, 0))) (d e : Value) :
    (w.setCell ⟨g, 0, none⟩ d).heap[g]? = some (.cells #[d, b, c] T (0, 0)) ∧ (w.setCell ⟨g, 1, none⟩ e).heap[g]? = some (.cells #[a, e, c] T (0, 0)) := by
  have hg : g < w.heap.size := (Array.getElem?_eq_some_iff.1 h).1
  have h' : w.heap[g] = .cells #[a, b, c] T (0, 0) := (Array.getElem?_eq_some_iff.1 h).2
  constructor <;> simp [World.setCell, hg, Array.getElem_modify, h']
/-- the cells of a block with three cells, and that they may be written -/
def C3 (w : World) (g : Nat) (a b c : Value) : Prop := w.cell? ⟨g, 0, none⟩ = some a ∧ w.cell? ⟨g, 1, none⟩ = some b ∧ w.cell? ⟨g, 2, none⟩ = some c ∧ w.frozen? ⟨g, 0, none⟩ = false ∧ w.frozen? ⟨g, 1, none⟩ = false ∧ w.frozen? ⟨g, 2, none⟩ = false
theorem works (w : World) (T : TypeId) (z1 z2 z3 s n p : Value) : ∃ w1, w.alloc (.cells #[z1, z2, z3] T) = w1 ∧ ∃ w2, w1.alloc (.cells #[z1, z2, z3] T) = w2 ∧ C3 w2 w1.heap.size z1 z2 z3 ∧
    ∃ w3, ((w2.setCell ⟨w1.heap.size, 0, none⟩ z1).setCell ⟨w1.heap.size, 1, none⟩ z2).setCell ⟨w1.heap.size, 2, none⟩ s = w3 ∧ C3 w3 w1.heap.size z1 z2 s ∧
    ∃ w4, w3.setCell ⟨w1.heap.size, 0, none⟩ n = w4 ∧ C3 w4 w1.heap.size n z2 s ∧
    ∃ w5, w4.setCell ⟨w1.heap.size, 1, none⟩ p = w5 ∧ w5.heap[w1.heap.size]? = some (.cells #[n, p, s] T (0, 0)) ∧ w5.heap[w.heap.size]? = some (.cells #[z1, z2, z3] T (0, 0)) ∧ Below w.heap.size w w5 ∧ w.heap.size < w1.heap.size := by
  obtain ⟨w1, hw1, hb1, hs1, b1⟩ := pro1 w (.cells #[z1, z2, z3] T)
  obtain ⟨w2, hw2, hb2, hs2, b2⟩ := pro1 w1 (.cells #[z1, z2, z3] T)
  have h12 := heap_below b1 hb2 (heap_lt b1)
  have hb := below_up hb1 hb2
  have g1 := set3 b2 z1 z2 s
  have g2 := (setA3 g1 n p).1
  have g3 := (setA3 g2 n p).2
  have hk : w.heap.size ≤ w1.heap.size := hb1.size
  have hlt : w.heap.size < w1.heap.size := by omega
  refine ⟨w1, hw1, w2, hw2, cells3 b2, _, rfl, cells3 g1, _, rfl, cells3 g2, _, rfl, g3, ?_, ((((hb.setCell hk _).setCell hk _).setCell hk _).setCell hk _).setCell hk _, hlt⟩
  rw [Below.heap_setCell _ _ _ _ (by simp; omega), Below.heap_setCell _ _ _ _ (by simp; omega), Below.heap_setCell _ _ _ _ (by simp; omega), Below.heap_setCell _ _ _ _ (by simp; omega), Below.heap_setCell _ _ _ _ (by simp; omega)]
  exact h12
def RetSr (w : World) (s : Int) (e : Ending) (w' : World) : Prop := Below w.heap.size w w' ∧ ∃ v, e = .returned (.tuple #[.int .i64 s, v, .bool true])
set_option maxHeartbeats 6400000 in
set_option maxRecDepth 100000 in
theorem search_any {w : World} {g root : Nat} {sep : Int} {bd : Bool} {ns : List Nd} {val : Nat → Int} (hd : DagP w g ns) (ok : OkNs ns) (hv : DV ns val) (hlf : LeafOk ns) (hr : root < ns.length) (hT : Tab w) :
    Calls Tryz.prog 88 #[.pointer (some ⟨g, 0, none⟩), .int .i64 (root : Int), .int .i64 32, .int .i64 sep, .bool bd] w (RetSr w (val root).sign) := by
  obtain ⟨w1, hw1, w2, hw2, ⟨a0, a1, a2, a3, a4, a5⟩, w3, hw3, ⟨b0, b1, b2, b3, b4, b5⟩, w4, hw4, ⟨c0, c1, c2, c3, c4, c5⟩, w5, hw5, hB, hA, hb5, hlt⟩ := works w 77 (.int .i64 0) (.int .i64 0) (.int .i64 0) (.int .i64 sep) (.int .i64 1) (.int .i64 32)
  have HNE := Lib.hid (nearOf_any (P := 32) (hd.below hb5) ok hv hlf hr (hT.below hb5) (by omega))
  have HB5 := Lib.hid hb5; have HA := Lib.hid hA; have HBB := Lib.hid hB; have HLT := Lib.hid hlt
  clear hd ok hv hlf hr hT hb5 hA hB hlt
  go_enter Tryz.func88, Tryz.ntmps88
  go_wp2_with fail
  go_loopw [14] (fun i wr => i = .int .i64 32 ∧ Hid (wr = w3)) (fun _ _ => 0)
  case atStart => exact ⟨rfl, Lib.hid rfl⟩
  case round =>
    obtain ⟨rfl, HW⟩ := hrel
    obtain rfl := HW.out
    clear HW
    go_wp2_with fail
    refine HNE.out.mono ?_
    rintro e w6 ⟨hb6, v, rfl, hbal⟩
    obtain ⟨e1, A1, n1, q1, e2, A2, n2, q2, rfl, i1, i2⟩ := id hbal
    obtain ⟨w7, hw7, ⟨p0, p1, p2, p3, p4, p5⟩, ⟨r0, r1, r2, r3, r4, r5⟩, w8, hw8, hb8, hs8⟩ := new6 w6 174 (.bool false) (.slice none 0 0) (.int .i64 0) (.bool false) (.slice none 0 0) (.int .i64 0) (.bool e1) (.slice A1 n1 q1) (.int .i64 (dv (val root)).exp) (.bool e2) (.slice A2 n2 q2) (.int .i64 (dv (val root)).exp)
    obtain ⟨x0, x1, x2, x3, x4, x5⟩ := cells6 hs8
    have HSG := Lib.hid (ballSign_any (w := w8) (hbal.below hb8))
    rw [dv_sign] at HSG
    have HB8 := Lib.hid (below_up hb6 hb8)
    clear hb6 hb8 hs8 hbal i1 i2 a0 a1 a2 a3 a4 a5 b0 b1 b2 b3 b4 b5 c0 c1 c2 c3 c4 c5
    go_wp2_with fail
    refine HSG.out.mono ?_
    rintro e w9 ⟨rfl, hb9⟩
    have HB9 := Lib.hid (below_up HB8.out hb9)
    have hB9 := heap_below HBB.out HB9.out (heap_lt HBB.out)
    have hA9 := heap_below HA.out HB9.out (heap_lt HA.out)
    obtain ⟨y0, y1, y2, -, -, -⟩ := cells3 hB9
    obtain ⟨z0, z1, z2, z3, z4, z5⟩ := cells3 hA9
    have g3 := set3 hA9 (.int .i64 1) (.int .i64 32) (.int .i64 sep)
    have hbw := HB5.out.trans (HB9.out.mono HB5.out.size)
    have HFF := Lib.hid g3
    have HR := Lib.hid (((hbw.setCell (p := ⟨w.heap.size, 0, none⟩) (Nat.le_refl _) (.int .i64 1)).setCell (p := ⟨w.heap.size, 1, none⟩) (Nat.le_refl _) (.int .i64 32)).setCell (p := ⟨w.heap.size, 2, none⟩) (Nat.le_refl _) (.int .i64 sep)).drew
    clear hb9 hB9 hA9 g3 hbw x0 x1 x2 x3 x4 x5 p0 p1 p2 p3 p4 p5 r0 r1 r2 r3 r4 r5 hw7 hw8
    go_wp2
    go_region
    all_goals
      go_wp2
      obtain ⟨f0, f1, f2, -, -, -⟩ := cells3 HFF.out
      refine bodyPost_ret (v := .tuple #[_, .agg #[_, _, _], _]) (by simp [results, Tryz.results88, go_sem, f0, f1, f2]; first | exact ⟨rfl, ⟨rfl, rfl, rfl⟩, rfl⟩ | rfl) rfl ?_
      exact ⟨HR.out, _, rfl⟩
end Go.Proofs.YtgodkfgnhpnhcaaGreatDoor
namespace Go.Proofs.YtgodkfgnhpnhcaaGreatDoor
open Go.RowKit Go.Maps
/-- a judge stands at block j: its maps hold the root's gap, and no sign -/
def JP (w : World) (j ms g root : Nat) (X : Int) : Prop := ∃ mg m lo hi, w.heap[j]? = some (.cells #[.pointer (some ⟨g, 0, none⟩), .bool true, .int .i64 32, .map (some mg), .map none, .map (some ms)] 158 (0, 0)) ∧
  MapP Tryz.prog 3 w mg m ∧ m (.int .i64 (root : Int)) = some (gv lo hi) ∧ GapS lo hi X ∧ MapP Tryz.prog 3 w ms (fun _ => none)
theorem JP.below {w w' : World} {j ms g root : Nat} {X : Int} (h : JP w j ms g root X) (hb : Below w.heap.size w w') : JP w' j ms g root X := by
  obtain ⟨mg, m, lo, hi, h1, h2, h3, h4, h5⟩ := h
  exact ⟨mg, m, lo, hi, heap_below h1 hb (heap_lt h1), h2.below hb h2.lt, h3, h4, h5.below hb h5.lt⟩
def RetJ (w : World) (g root : Nat) (X : Int) (e : Ending) (w' : World) : Prop := Below w.heap.size w w' ∧ ∃ j ms, e = .returned (.pointer (some ⟨j, 0, none⟩)) ∧ w.heap.size ≤ ms ∧ JP w' j ms g root X
theorem RetJ.to {w w1 w2 : World} {g root : Nat} {X : Int} {e : Ending} (h : RetJ w g root X e w1) (hb : Below w1.heap.size w1 w2) : RetJ w g root X e w2 := by
  obtain ⟨h1, j, ms, e, h2, h3⟩ := h
  exact ⟨h1.trans (hb.mono h1.size), j, ms, e, h2, h3.below hb⟩
theorem JP.of {w : World} {j g root mg ms : Nat} {X : Int} {lo hi : Nat} {m : Value → Option Value} (h1 : w.heap[j]? = some (.cells #[.pointer (some ⟨g, 0, none⟩), .bool true, .int .i64 32, .map (some mg), .map none, .map (some ms)] 158 (0, 0)))
    (h2 : MapP Tryz.prog 3 w mg m) (h3 : m (.int .i64 (root : Int)) = some (gv lo hi)) (h4 : GapS lo hi X) (h5 : w.heap[ms]? = some (.map #[] 0)) : JP w j ms g root X := ⟨mg, m, lo, hi, h1, h2, h3, h4, MapP.made (es := #[]) h5⟩
theorem judge_laid {w wa w3 w4 w5 : World} {g root mg : Nat} {X : Int} {lo hi : Nat} {m : Value → Option Value} (ha : Below w.heap.size w wa) (hb3 : Below wa.heap.size wa w3) (hm : MapP Tryz.prog 3 w3 mg m) (hmr : m (.int .i64 (root : Int)) = some (gv lo hi)) (hg : GapS lo hi X)
    (hb4 : Below w3.heap.size w3 w4) (b4 : w4.heap[w3.heap.size]? = some (.map #[] 0)) (hb5 : Below w4.heap.size w4 w5) (b5 : w5.heap[w4.heap.size]? = some (.cells #[.pointer (some ⟨g, 0, none⟩), .bool true, .int .i64 32, .map (some mg), .map none, .map (some w3.heap.size)] 158 (0, 0))) :
    RetJ w g root X (.returned (.pointer (some ⟨w4.heap.size, 0, none⟩))) w5 := by
  have h34 := below_up hb4 hb5
  have h := JP.of b5 (hm.below h34 hm.lt) hmr hg (heap_below b4 hb5 (heap_lt b4))
  have hall := ha.trans ((below_up hb3 h34).mono ha.size)
  exact ⟨hall, _, _, rfl, by have := ha.size; have := hb3.size; omega, h⟩
theorem judge_laid2 {w wa w3 w5 : World} {g root mg ms : Nat} {X : Int} {lo hi : Nat} {m : Value → Option Value} (hms : w.heap.size ≤ ms) (ha : Below w.heap.size w wa) (hs : wa.heap[ms]? = some (.map #[] 0)) (hb3 : Below wa.heap.size wa w3) (hm : MapP Tryz.prog 3 w3 mg m) (hmr : m (.int .i64 (root : Int)) = some (gv lo hi)) (hg : GapS lo hi X)
    (hb5 : Below w3.heap.size w3 w5) (b5 : w5.heap[w3.heap.size]? = some (.cells #[.pointer (some ⟨g, 0, none⟩), .bool true, .int .i64 32, .map (some mg), .map none, .map (some ms)] 158 (0, 0))) :
    RetJ w g root X (.returned (.pointer (some ⟨w3.heap.size, 0, none⟩))) w5 := by
  have h := JP.of b5 (hm.below hb5 hm.lt) hmr hg (heap_below hs (below_up hb3 hb5) (heap_lt hs))
  have hall := ha.trans ((below_up hb3 hb5).mono ha.size)
  exact ⟨hall, _, _, rfl, hms, h⟩
set_option maxHeartbeats 6400000 in
set_option maxRecDepth 100000 in
theorem newJudge_any {w : World} {g root : Nat} {ns : List Nd} {val : Nat → Int} (hd : DagP w g ns) (ok : OkNs ns) (hv : DV ns val) (hlf : LeafOk ns) (hr : root < ns.length) :
    Calls Tryz.prog 103 #[.pointer (some ⟨g, 0, none⟩), .int .i64 (root : Int), .agg #[.bool true, .int .i64 32]] w (RetJ w g root (val root)) := by
  obtain ⟨w1, hw1, hb1, hs1, b1⟩ := pro1 w (.cells #[.bool true, .int .i64 32] 61)
  obtain ⟨c0, c1, -, -⟩ := cells2 b1
  have HB1 := Lib.hid hb1
  have HGA : Hid (∀ w', Below w.heap.size w w' → Calls Tryz.prog 128 #[.pointer (some ⟨g, 0, none⟩), .int .i64 (root : Int)] w' (RetMG w' val root)) := Lib.hid fun w' h => guessAll_any (hd.below h) ok hv hlf hr
  have HBW : Below w1.heap.size w1 w1.drew := (Below.refl _ _).drew
  clear hd ok hv hlf hr hb1 b1 hs1
  have hmm := @run_makeMap Tryz.prog
  go_enter Tryz.func103, Tryz.ntmps103
  go_wp2_with fail
  obtain ⟨w2, hw2, hb2, hs2, b2⟩ := pro1 w1 (.map #[] 0)
  have e0 := cell_below c0 hb2 (Nat.le_refl _)
  have e1 := cell_below c1 hb2 (Nat.le_refl _)
  have HA := Lib.hid (HB1.out.trans (HBW.mono HB1.out.size))
  have HX := Lib.hid (HB1.out.trans ((hb2.drew).mono HB1.out.size))
  have HB2 := Lib.hid b2; have HBB2 := Lib.hid hb2
  clear hb2 b2 hs2
  go_region_held3 (fun w' => w'.cell? ⟨w.heap.size, 0, none⟩ = some (.bool true) ∧ w'.cell? ⟨w.heap.size, 1, none⟩ = some (.int .i64 32)) (go_keep)
    (first
    | (go_at_call 128
       with_reducible refine (HGA.out _ HA.out).mono ?_
       rintro r w3 ⟨hb3, mg, m, lo, hi, rfl, hm, hmr, hgs⟩
       have c0 := cell_below c0 ((Below.refl _ _).drew.trans hb3) (Nat.le_refl _)
       have c1 := cell_below c1 ((Below.refl _ _).drew.trans hb3) (Nat.le_refl _)
       obtain ⟨w4, hw4, hb4, hs4, b4⟩ := pro1 w3 (.map #[] 0)
       have d0 := cell_below c0 hb4 (Nat.le_refl _)
       have d1 := cell_below c1 hb4 (Nat.le_refl _)
       obtain ⟨w5, hw5, hb5, hs5, b5⟩ := pro1 w4 (.cells #[.pointer (some ⟨g, 0, none⟩), .bool true, .int .i64 32, .map (some mg), .map none, .map (some w3.heap.size)] 158)
       have x0 := cell_below d0 hb5 (Nat.le_refl _)
       have x1 := cell_below d1 hb5 (Nat.le_refl _)
       have HJ : Hid (RetJ w g root (val root) (.returned (.pointer (some ⟨w4.heap.size, 0, none⟩))) w5) := Lib.hid (judge_laid HA.out hb3 hm hmr hgs hb4 b4 hb5 b5)
       clear hb3 hm hmr hgs hb4 hs4 b4 hb5 hs5 b5)
    | (go_at_call 128
       with_reducible refine (HGA.out _ HX.out).mono ?_
       rintro r w3 ⟨hb3, mg, m, lo, hi, rfl, hm, hmr, hgs⟩
       have c0 := cell_below e0 ((Below.refl _ _).drew.trans hb3) (Nat.le_refl _)
       have c1 := cell_below e1 ((Below.refl _ _).drew.trans hb3) (Nat.le_refl _)
       obtain ⟨w5, hw5, hb5, hs5, b5⟩ := pro1 w3 (.cells #[.pointer (some ⟨g, 0, none⟩), .bool true, .int .i64 32, .map (some mg), .map none, .map (some w1.heap.size)] 158)
       have x0 := cell_below c0 hb5 (Nat.le_refl _)
       have x1 := cell_below c1 hb5 (Nat.le_refl _)
       have HJ : Hid (RetJ w g root (val root) (.returned (.pointer (some ⟨w3.heap.size, 0, none⟩))) w5) := Lib.hid (judge_laid2 HB1.out.size HX.out (heap_below HB2.out ((Below.refl _ _).drew) (heap_lt HB2.out)) hb3 hm hmr hgs hb5 b5)
       clear hb3 hm hmr hgs hb5 hs5 b5))
  all_goals
    go_wp2
    go_quiet (fail)
    go_wp2
    go_ret
    exact HJ.out.to (below_drewN w5 _)
end Go.Proofs.YtgodkfgnhpnhcaaGreatDoor
namespace Go.Proofs.YtgodkfgnhpnhcaaGreatDoor
open Go.RowKit Go.Maps
set_option maxHeartbeats 6400000 in
set_option maxRecDepth 100000 in
theorem judgeSign_any {w : World} {j ms g root : Nat} {ns : List Nd} {val : Nat → Int} {c : Nat → Int} (hj : JP w j ms g root (val root)) (hd : DagP w g ns) (ok : OkNs ns) (hv : DV ns val) (hlf : LeafOk ns) (hco : CO ns c) (hT : Tab w) (hr : root < ns.length) (hc : c root ≤ 32767) :
    Calls Tryz.prog 77 #[.pointer (some ⟨j, 0, none⟩), .int .i64 (root : Int)] w (fun e w' => e = .returned (.tuple #[.int .i64 (val root).sign, .nilIface]) ∧ Fr (fun b => b = ms) w w') := by
  have HSE : Hid (∀ w', Below w.heap.size w w' → Calls Tryz.prog 87 #[.pointer (some ⟨g, 0, none⟩), .int .i64 (root : Int)] w' (fun e w'' => (∃ s : Int, e = .returned (.tuple #[.int .i64 s, .bool true])) ∧ Below w'.heap.size w' w'')) := Lib.hid fun w' h => separation_any (hd.below h) ok hv hlf hco (hT.below h) hr hc
  have HSR : Hid (∀ w' s, Below w.heap.size w w' → Calls Tryz.prog 88 #[.pointer (some ⟨g, 0, none⟩), .int .i64 (root : Int), .int .i64 32, .int .i64 s, .bool true] w' (RetSr w' (val root).sign)) := Lib.hid fun w' s h => search_any (hd.below h) ok hv hlf hr (hT.below h)
  have HK := Lib.hid (key_nat (i := root) (by have := hd.len; omega))
  obtain ⟨mg, m, lo, hi, b1, hm, hmr, hg, hms⟩ := hj
  have B1 := Lib.hid b1; have HM := Lib.hid hm; have HMS := Lib.hid hms
  have HG1 := Lib.hid (gsign_any (w := w) hg.1 hg.2.1)
  obtain ⟨m', hu⟩ := upd_ex (fun _ => none) (.int .i64 (root : Int)) (some (.int .i64 (val root).sign))
  have HU := Lib.hid hu
  have HGD : Hid ((m (.int .i64 (root : Int))).getD (.agg #[.float .f64 0, .float .f64 0]) = gv lo hi) := Lib.hid (by rw [hmr]; rfl)
  have HN : Hid (∀ w', Below w.heap.size w w' → ((some (Value.int .i64 (val root).sign)).isSome = true)) := Lib.hid (fun _ _ => rfl)
  have hok : (gapSign lo hi).2 = true → (gapSign lo hi).1 = (val root).sign := gapSign_ok hg
  obtain ⟨c0, c1, c2, c3, c4, c5⟩ := cells6 b1
  clear hd ok hv hlf hco hT hr hc hm hms hu b1 hmr hg
  generalize gapSign lo hi = G at *
  obtain ⟨gs, gk⟩ := G
  replace hok : gk = true → gs = (val root).sign := hok
  replace HG1 : Hid (Calls Tryz.prog 107 #[gv lo hi] w (RetKB w gs gk)) := HG1
  cases gk
  · clear hok
    go_enter Tryz.func77, Tryz.ntmps77
    go_wp2_with (first
      | (at_lookup
         refine wpList_look2 _ rfl _ _ _ rfl _ _ keyed_int und_mapii (zero_int _) _ (fun _ => none) rfl HMS.out (.int .i64 (root : Int)) _ rfl HK.out (.int .i64 0) rfl false rfl ?_)
      | (at_lookup
         refine wpList_look1 _ rfl _ _ _ rfl _ _ keyed_int und_gaps (zero_gap _) _ m rfl HM.out (.int .i64 (root : Int)) _ rfl HK.out (gv lo hi) HGD.out ?_))
    refine HG1.out.mono ?_
    rintro e w1 ⟨rfl, hb1⟩
    replace c0 := cell_below c0 hb1 (Nat.le_refl _)
    replace c1 := cell_below c1 hb1 (Nat.le_refl _)
    replace c2 := cell_below c2 hb1 (Nat.le_refl _)
    replace c3 := cell_below c3 hb1 (Nat.le_refl _)
    replace c4 := cell_below c4 hb1 (Nat.le_refl _)
    replace c5 := cell_below c5 hb1 (Nat.le_refl _)
    have HB1 := Lib.hid hb1
    clear hb1
    go_wp2_with fail
    refine (HSE.out _ HB1.out).mono ?_
    rintro e w2 ⟨⟨s, rfl⟩, hb2⟩
    replace c0 := cell_below c0 hb2 (Nat.le_refl _)
    replace c1 := cell_below c1 hb2 (Nat.le_refl _)
    replace c2 := cell_below c2 hb2 (Nat.le_refl _)
    replace c3 := cell_below c3 hb2 (Nat.le_refl _)
    replace c4 := cell_below c4 hb2 (Nat.le_refl _)
    replace c5 := cell_below c5 hb2 (Nat.le_refl _)
    have HB2 := Lib.hid (below_up HB1.out hb2)
    have HB3 := Lib.hid (below_up (below_up HB1.out hb2) (Below.refl _ _).drew)
    clear hb2
    go_wp2_with fail
    have hdr : Below w2.heap.size w2 w2.drew := (Below.refl _ _).drew
    replace c0 := cell_below c0 hdr (Nat.le_refl _)
    replace c1 := cell_below c1 hdr (Nat.le_refl _)
    replace c2 := cell_below c2 hdr (Nat.le_refl _)
    replace c3 := cell_below c3 hdr (Nat.le_refl _)
    replace c4 := cell_below c4 hdr (Nat.le_refl _)
    replace c5 := cell_below c5 hdr (Nat.le_refl _)
    clear hdr
    go_region_held3 (fun w' => w'.cell? ⟨j, 0, none⟩ = some (.pointer (some ⟨g, 0, none⟩)) ∧ w'.cell? ⟨j, 2, none⟩ = some (.int .i64 32) ∧ w'.cell? ⟨j, 5, none⟩ = some (.map (some ms))) (go_keep)
      (first
      | (go_at_call 88
         refine (HSR.out _ s HB3.out).mono ?_
         rintro e w4 ⟨hb4, v, rfl⟩
         have c0 := cell_below c0 hb4 (Nat.le_refl _)
         have c1 := cell_below c1 hb4 (Nat.le_refl _)
         have c2 := cell_below c2 hb4 (Nat.le_refl _)
         have c3 := cell_below c3 hb4 (Nat.le_refl _)
         have c4 := cell_below c4 hb4 (Nat.le_refl _)
         have c5 := cell_below c5 hb4 (Nat.le_refl _)
         have HBF := Lib.hid (below_up HB3.out hb4)
         have HMF := Lib.hid (HMS.out.below (below_up HB3.out hb4) HMS.out.lt)
         clear hb4))
    go_wp2_with (first
      | (at_mapUpdate
         refine wpList_put _ rfl _ _ _ _ rfl _ _ keyed_int und_mapii _ (fun _ => none) m' rfl HMF.out (.int .i64 (root : Int)) (.int .i64 (val root).sign) _ rfl rfl HK.out HU.out ?_
         intro w9 HM9 hgr hsz
         have HF9 := Lib.hid ((Fr.of_below HBF.out).trans (Fr.of_grown hgr (fun i e => (Option.some.inj e).symm)))
         clear hgr hsz))
    go_ret2
    exact ⟨rfl, HF9.out⟩
  · obtain rfl := hok rfl
    clear hok
    go_enter Tryz.func77, Tryz.ntmps77
    go_wp2_with (first
      | (at_lookup
         refine wpList_look2 _ rfl _ _ _ rfl _ _ keyed_int und_mapii (zero_int _) _ (fun _ => none) rfl HMS.out (.int .i64 (root : Int)) _ rfl HK.out (.int .i64 0) rfl false rfl ?_)
      | (at_lookup
         refine wpList_look1 _ rfl _ _ _ rfl _ _ keyed_int und_gaps (zero_gap _) _ m rfl HM.out (.int .i64 (root : Int)) _ rfl HK.out (gv lo hi) HGD.out ?_))
    refine HG1.out.mono ?_
    rintro e w1 ⟨rfl, hb1⟩
    replace c0 := cell_below c0 hb1 (Nat.le_refl _)
    replace c1 := cell_below c1 hb1 (Nat.le_refl _)
    replace c2 := cell_below c2 hb1 (Nat.le_refl _)
    replace c3 := cell_below c3 hb1 (Nat.le_refl _)
    replace c4 := cell_below c4 hb1 (Nat.le_refl _)
    replace c5 := cell_below c5 hb1 (Nat.le_refl _)
    have HBF := Lib.hid hb1
    have HMF := Lib.hid (HMS.out.below hb1 HMS.out.lt)
    clear hb1
    go_wp2_with (first
      | (at_mapUpdate
         refine wpList_put _ rfl _ _ _ _ rfl _ _ keyed_int und_mapii _ (fun _ => none) m' rfl HMF.out (.int .i64 (root : Int)) (.int .i64 (val root).sign) _ rfl rfl HK.out HU.out ?_
         intro w9 HM9 hgr hsz
         have HF9 := Lib.hid ((Fr.of_below HBF.out).trans (Fr.of_grown hgr (fun i e => (Option.some.inj e).symm)))
         clear hgr hsz))
    go_ret2
    exact ⟨rfl, HF9.out⟩
end Go.Proofs.YtgodkfgnhpnhcaaGreatDoor
namespace Go.Proofs.YtgodkfgnhpnhcaaGreatDoor
open Go.RowKit Go.Maps
def RetJx (w : World) (g root : Nat) (X : Int) (e : Ending) (w' : World) : Prop := Below w.heap.size w w' ∧ ∃ j ms, e = .returned (.tuple #[.pointer (some ⟨j, 0, none⟩), .nilIface]) ∧ w.heap.size ≤ ms ∧ JP w' j ms g root X
set_option maxHeartbeats 6400000 in
set_option maxRecDepth 100000 in
theorem examine_any {w : World} {g root : Nat} {ns : List Nd} {val : Nat → Int} (hd : DagP w g ns) (ok : OkNs ns) (hv : DV ns val) (hlf : LeafOk ns) (hr : root < ns.length) :
    Calls Tryz.prog 75 #[.pointer (some ⟨g, 0, none⟩), .int .i64 (root : Int), .agg #[.bool true, .int .i64 32]] w (RetJx w g root (val root)) := by
  obtain ⟨w1, hw1, hb1, hs1, b1⟩ := pro1 w (.cells #[.bool true, .int .i64 32] 61)
  obtain ⟨c0, c1, -, -⟩ := cells2 b1
  obtain ⟨nr, hnr⟩ : ∃ n, ns[root]? = some n := ⟨_, List.getElem?_eq_getElem hr⟩
  have HB1 := Lib.hid hb1
  have HN1 := Lib.hid (node_open (hd.below hb1) hnr)
  have HDW := Lib.hid hd
  have HV := Lib.hid hv; have HLN := Lib.hid hd.len
  have HNJ : Hid (∀ w', Below w.heap.size w w' → Calls Tryz.prog 103 #[.pointer (some ⟨g, 0, none⟩), .int .i64 (root : Int), .agg #[.bool true, .int .i64 32]] w' (RetJ w' g root (val root))) := Lib.hid fun w' h => newJudge_any (hd.below h) ok hv hlf hr
  have HBE : Hid (∀ w' b0, Below w.heap.size w w' → w'.heap[b0]? = some (.cells #[.int .i64 (root : Int)] 3 (0, 0)) → Calls Tryz.prog 104 #[.pointer (some ⟨g, 0, none⟩), .slice (some ⟨b0, 0, none⟩) 1 1] w' (RetBelow w' ns root)) := Lib.hid fun w' b0 h hb => below_any (hd.below h) ok hr hb
  clear hd ok hv hlf hr hb1 b1 hs1 hnr
  have hst := store_float
  go_enter Tryz.func75, Tryz.ntmps75
  go_wp2_with fail
  refine HN1.out.mono ?_
  rintro e w2 ⟨rfl, hb2⟩
  obtain ⟨w3, hw3, z0, z1, z2, z3, y0, y1, y2, y3, w4, hw4, hb4, hs4⟩ := new4 w2 122 (.int .i64 0) (.float .f64 0) (.int .i64 0) (.int .i64 0) (.int .i64 nr.kind) (.float .f64 nr.val) (.int .i64 nr.a) (.int .i64 nr.b)
  have h14 := below_up hb2 hb4
  replace c0 := cell_below c0 h14 (Nat.le_refl _)
  replace c1 := cell_below c1 h14 (Nat.le_refl _)
  have HB4 := Lib.hid (HB1.out.trans (h14.mono HB1.out.size))
  clear hb2 hb4 hs4 h14
  go_wp2_with fail
  refine (HNJ.out _ HB4.out).mono ?_
  rintro e w5 ⟨hb5, j, ms, rfl, hms, hjp⟩
  obtain ⟨w6, hw6, hb6, hs6, b6⟩ := pro1 w5 (.cells #[.int .i64 (root : Int)] 3)
  have h46 := below_up hb5 hb6
  have HB6 := Lib.hid (HB4.out.trans (h46.mono HB4.out.size))
  have HJ6 := Lib.hid (hjp.below hb6)
  have HMS := Lib.hid (Nat.le_trans HB4.out.size hms)
  have HBE6 := Lib.hid (HBE.out w6 _ HB6.out b6)
  clear hb5 hb6 hs6 b6 h46 hjp hms c0 c1 z0 z1 z2 z3 y0 y1 y2 y3 hw3 hw4
  go_wp2_with fail
  refine HBE6.out.mono ?_
  rintro e w7 ⟨hb7, v7, l, rfl, hl, hI⟩
  obtain ⟨bl, cl, rfl, hlc, hcm, -⟩ := id hl
  have HL := Lib.hid hl; have HI := Lib.hid hI
  have HB7 := Lib.hid (HB6.out.trans (hb7.mono HB6.out.size))
  have HJ7 := Lib.hid (HJ6.out.below hb7)
  have HLL := Lib.hid (list_len hI HLN.out)
  clear hb7 hl hI hlc hcm hw6
  go_wp2_with fail
  go_loopw [37] (fun i wr => ∃ k : Nat, k ≤ l.length ∧ i = .int .i64 (k : Int) ∧ Hid (Below w7.heap.size w7 wr)) (fun i _ => ((l.length : Int) - intOf i).toNat)
  case atStart => exact ⟨0, Nat.zero_le _, rfl, Lib.hid (Below.refl _ _)⟩
  case round =>
    obtain ⟨k, hk, rfl, HF⟩ := hrel
    have HBR : Hid (Below w.heap.size w wr) := Lib.hid (HB7.out.trans (HF.out.mono HB7.out.size))
    rcases Nat.lt_or_ge k l.length with hlt | hge
    · obtain ⟨x, hx⟩ : ∃ x, l[k]? = some x := ⟨_, List.getElem?_eq_getElem hlt⟩
      have hxl : x < ns.length := HI.out.lt x (List.mem_of_getElem? hx)
      obtain ⟨n, hn⟩ : ∃ n, ns[x]? = some n := ⟨_, List.getElem?_eq_getElem hxl⟩
      have cx := (HL.out.below HF.out).cell hx
      have HN := Lib.hid (node_open (HDW.out.below HBR.out) hn)
      have hkI : (k : Int) < (l.length : Int) := by omega
      have hk0 : (0 : Int) ≤ (k : Int) := by omega
      have hlI : (l.length : Int) ≤ 20000 := by have := HLL.out; omega
      have hk5 : n.kind ≠ 5 := by rcases (HV.out x n hn).1 with h | h | h | h <;> omega
      have hk4 : n.kind ≠ 4 := by rcases (HV.out x n hn).1 with h | h | h | h <;> omega
      have HKL := Lib.hid hlt
      clear hx hn hxl hlt
      go_wp2_with fail
      refine HN.out.mono ?_
      rintro e w8 ⟨rfl, hb8⟩
      obtain ⟨w9, hw9, z0, z1, z2, z3, y0, y1, y2, y3, wa, hwa, hba, hsa⟩ := new4 w8 122 (.int .i64 0) (.float .f64 0) (.int .i64 0) (.int .i64 0) (.int .i64 n.kind) (.float .f64 n.val) (.int .i64 n.a) (.int .i64 n.b)
      obtain ⟨x0, x1, x2, x3⟩ := cells4 hsa
      have HFa := Lib.hid (below_up HF.out (below_up hb8 hba))
      clear hb8 hba hsa cx
      go_wp2_with fail
      go_roundw
      case rel => exact ⟨k + 1, by have := HKL.out; omega, by go_num, HFa⟩
      case measure => have := HKL.out; simp [intOf]; omega
    · have hke : k = l.length := by omega
      subst hke
      have HRES : Hid (RetJx w g root (val root) (.returned (.tuple #[.pointer (some ⟨j, 0, none⟩), .nilIface])) wr) := Lib.hid ⟨HBR.out, j, ms, rfl, HMS.out, HJ7.out.below HF.out⟩
      clear hk hge
      go_wp2
      go_ret2
      exact HRES.out
set_option maxHeartbeats 6400000 in
set_option maxRecDepth 100000 in
/-- the sign of a number is that of its value -/
theorem signOf_any {w : World} {g root : Nat} {ns : List Nd} {val : Nat → Int} {c : Nat → Int} (hd : DagP w g ns) (ok : OkNs ns) (hv : DV ns val) (hlf : LeafOk ns) (hco : CO ns c) (hT : Tab w) (hr : root < ns.length) (hc : c root ≤ 32767) :
    Calls Tryz.prog 42 #[.pointer (some ⟨g, 0, none⟩), .int .i64 (root : Int), .slice none 0 0] w (fun e w' => e = .returned (.tuple #[.int .i64 (val root).sign, .nilIface]) ∧ Below w.heap.size w w') := by
  have HEX : Hid (∀ w', Below w.heap.size w w' → Calls Tryz.prog 75 #[.pointer (some ⟨g, 0, none⟩), .int .i64 (root : Int), .agg #[.bool true, .int .i64 32]] w' (RetJx w' g root (val root))) := Lib.hid fun w' h => examine_any (hd.below h) ok hv hlf hr
  have HJS : Hid (∀ w' j ms, Below w.heap.size w w' → JP w' j ms g root (val root) → Calls Tryz.prog 77 #[.pointer (some ⟨j, 0, none⟩), .int .i64 (root : Int)] w' (fun e w'' => e = .returned (.tuple #[.int .i64 (val root).sign, .nilIface]) ∧ Fr (fun b => b = ms) w' w'')) := Lib.hid fun w' j ms h hj => judgeSign_any hj (hd.below h) ok hv hlf hco (hT.below h) hr hc
  clear hd ok hv hlf hco hT hr hc
  go_enter Tryz.func42, Tryz.ntmps42
  go_wp2_with fail
  refine chosen_any.mono ?_
  rintro e w1 ⟨rfl, hb1⟩
  have HB1 := Lib.hid hb1
  clear hb1
  go_wp2_with fail
  refine (HEX.out _ HB1.out).mono ?_
  rintro e w2 ⟨hb2, j, ms, rfl, hms, hjp⟩
  have HB2 := Lib.hid (HB1.out.trans (hb2.mono HB1.out.size))
  have HMS := Lib.hid (Nat.le_trans HB1.out.size hms)
  have HJC := Lib.hid (HJS.out _ j ms HB2.out hjp)
  clear hb2 hms hjp HJS HEX
  go_wp2_with fail
  refine HJC.out.mono ?_
  rintro e w3 ⟨rfl, hf⟩
  have HB3 := Lib.hid (HB2.out.trans (hf.below HB2.out.size (fun b hb => by have := HMS.out; omega)))
  clear hf
  go_wp2
  go_ret2
  exact ⟨rfl, HB3.out⟩
end Go.Proofs.YtgodkfgnhpnhcaaGreatDoor
/- dag.New; real: Valid, goes, ids. -/
namespace Go.Proofs.YtgodkfgnhpnhcaaGreatDoor
open Go.RowKit Go.Maps
def RetNew (P : Ex → Prop) (B : Nat) (w : World) (e : Ending) (w' : World) : Prop := ∃ g, e = .returned (.pointer (some ⟨g, 0, none⟩)) ∧ St P B 0 w' g [] ∧ Below w.heap.size w w' ∧ w.heap.size ≤ g
set_option maxHeartbeats 6400000 in
set_option maxRecDepth 100000 in
theorem new_any {P : Ex → Prop} {B : Nat} {w : World} (hT : Tab w) (htb : 1 < B) (hB : B ≤ w.heap.size) :
    Calls Tryz.prog 16 #[.bool true] w (RetNew P B w) := by
  obtain ⟨w1, hw1, hb1, hs1, b1⟩ := pro1 w (.cells #[.slice none 0 0, .map none] 110)
  obtain ⟨w2, hw2, hb2, hs2, b2⟩ := pro1 w1 (.map #[] 0)
  have h12 := below_up hb1 hb2
  have b1' := heap_below b1 hb2 (heap_lt b1)
  obtain ⟨c0, c1, f0, f1⟩ := cells2 b1'
  have hmm := @run_makeMap Tryz.prog
  have HR : Hid (RetNew P B w (.returned (.pointer (some ⟨w.heap.size, 0, none⟩))) (w2.setCell ⟨w.heap.size, 1, none⟩ (.map (some w1.heap.size)))) := Lib.hid (by
    have hb3 : Below w.heap.size w (w2.setCell ⟨w.heap.size, 1, none⟩ (.map (some w1.heap.size))) := h12.setCell (Nat.le_refl _) _
    have g1 := setB b1' (.map (some w1.heap.size))
    have g2 : (w2.setCell ⟨w.heap.size, 1, none⟩ (.map (some w1.heap.size))).heap[w1.heap.size]? = some (.map #[] 0) := by
      rw [Below.heap_setCell _ _ _ _ (by simp; omega)]; exact b2
    exact ⟨_, rfl, St.made (hT.below hb3) htb (Nat.le_trans hB hb3.size) g1 g2 (by omega) hB (by omega), hb3, Nat.le_refl _⟩)
  clear hT htb hB hb1 hb2 b1 b2 b1' h12 hs1 hs2
  go_enter Tryz.func16, Tryz.ntmps16
  go_wp2
  go_ret
  exact HR.out
/-- a number of the dag -/
abbrev numV (g k : Nat) : Value := .agg #[.pointer (some ⟨g, 0, none⟩), .int .i64 (k : Int)]
set_option maxHeartbeats 6400000 in
set_option maxRecDepth 100000 in
theorem valid_num {w : World} {g k : Nat} {ns : List Nd} (hd : DagP w g ns) (hk : k < ns.length) : Calls Tryz.prog 50 #[.agg #[.pointer (some ⟨g, 0, none⟩), .int .i64 (k : Int)]] w (RetV w (.bool true)) := by
  obtain ⟨w1, hw1, hb1, hs1, b1⟩ := pro1 w (.cells #[.pointer (some ⟨g, 0, none⟩), .int .i64 (k : Int)] 27)
  obtain ⟨c0, c1, -, -⟩ := cells2 b1
  obtain ⟨n, hn⟩ : ∃ n, ns[k]? = some n := ⟨_, List.getElem?_eq_getElem hk⟩
  have HN := Lib.hid (node_any (hd.below hb1) hn)
  have HB := Lib.hid hb1
  obtain ⟨kind, val, na, nb⟩ := n
  unfold nodeV at HN
  have hst := store_float
  clear hd hk hn hb1 hs1 b1
  go_enter Tryz.func50, Tryz.ntmps50
  go_wp2_with fail
  refine HN.out.mono ?_
  rintro e w2 ⟨rfl, hb2⟩
  obtain ⟨w3, hw3, z0, z1, z2, z3, y0, y1, y2, y3, w4, hw4, hb4, hs4⟩ := new4 w2 122 (.int .i64 0) (.float .f64 0) (.int .i64 0) (.int .i64 0) (.int .i64 kind) (.float .f64 val) (.int .i64 na) (.int .i64 nb)
  have HB4 := Lib.hid (below_up (below_up HB.out hb2) hb4)
  clear hb2 hb4 hs4
  go_wp2
  go_ret
  exact ⟨rfl, HB4.out⟩
theorem und_dag : Tryz.prog.underlying 24 = some (.pointer 110) := by kernel_rfl
theorem info_dag : (Tryz.prog.info? 110).map (·.size) = some 2 := by kernel_rfl
set_option maxRecDepth 100000 in
/-- two pointers to one dag -/
theorem neq_dag (a : Addr) (w : World) : (binOp .neq 24 (.pointer (some a)) (.pointer (some a))).run Tryz.prog w = .ok (.bool false) w := by
  cases h : Tryz.prog.info? 110 with
  | none => have := info_dag; rw [h] at this; simp at this
  | some j => exact Go.Lib.run_neq_ptr_same w a und_dag h
/-- a slice of numbers of the dag -/
def NumsP (w : World) (v : Value) (g : Nat) (l : List Nat) : Prop :=
  ∃ b c, v = .slice (some ⟨b, 0, none⟩) l.length c ∧ l.length ≤ 1000 ∧ ∀ (i x : Nat), l[i]? = some x → w.cell? ⟨b, i * 2, none⟩ = some (.pointer (some ⟨g, 0, none⟩)) ∧ w.cell? ⟨b, i * 2 + 1, none⟩ = some (.int .i64 (x : Int))
theorem NumsP.below {w w' : World} {v : Value} {g : Nat} {l : List Nat} (h : NumsP w v g l) (hb : Below w.heap.size w w') : NumsP w' v g l := by
  obtain ⟨b, c, e, h1, h2⟩ := h
  exact ⟨b, c, e, h1, fun i x hx => ⟨cell_below (h2 i x hx).1 hb (Nat.le_refl _), cell_below (h2 i x hx).2 hb (Nat.le_refl _)⟩⟩
theorem NumsP.at {w : World} {g b n c : Nat} {l : List Nat} (h : NumsP w (.slice (some ⟨b, 0, none⟩) n c) g l) {i x : Nat} (hx : l[i]? = some x) : w.cell? ⟨b, i * 2, none⟩ = some (.pointer (some ⟨g, 0, none⟩)) ∧ w.cell? ⟨b, i * 2 + 1, none⟩ = some (.int .i64 (x : Int)) := by
  obtain ⟨b', c', e, h1, h2⟩ := h
  injection e with e; cases e
  exact h2 i x hx
set_option maxHeartbeats 6400000 in
set_option maxRecDepth 100000 in
theorem goes_any {w : World} {g k : Nat} {v : Value} {l : List Nat} {ns : List Nd} (hd : DagP w g ns) (hk : k < ns.length) (hl : NumsP w v g l) (hll : ∀ x ∈ l, x < ns.length) :
    Calls Tryz.prog 67 #[.agg #[.pointer (some ⟨g, 0, none⟩), .int .i64 (k : Int)], v] w (RetV w (.bool true)) := by
  obtain ⟨w1, hw1, hb1, hs1, b1⟩ := pro1 w (.cells #[.pointer (some ⟨g, 0, none⟩), .int .i64 (k : Int)] 27)
  obtain ⟨c0, c1, -, -⟩ := cells2 b1
  have HV := Lib.hid (valid_num (hd.below hb1) hk)
  have HD := Lib.hid hd; have HLL := Lib.hid hll; have HNP := Lib.hid hl; have HB := Lib.hid hb1
  obtain ⟨b, c, rfl, hl1, -⟩ := id hl
  have hlI : (l.length : Int) ≤ 1000 := by omega
  have hnq := neq_dag ⟨g, 0, none⟩
  clear hd hk hl hll hb1 hs1 b1 hl1
  go_enter Tryz.func67, Tryz.ntmps67
  go_wp2_with fail
  refine HV.out.mono ?_
  rintro e w2 ⟨rfl, hb2⟩
  have HB2 := Lib.hid (below_up HB.out hb2)
  replace c0 := cell_below c0 hb2 (Nat.le_refl _)
  replace c1 := cell_below c1 hb2 (Nat.le_refl _)
  clear hb2
  go_wp2_with fail
  go_loopw [12] (fun i wr => ∃ m : Nat, m ≤ l.length ∧ i = .int .i64 (m : Int) ∧ Hid (Below w2.heap.size w2 wr)) (fun i _ => ((l.length : Int) - intOf i).toNat)
  case atStart => exact ⟨0, Nat.zero_le _, rfl, Lib.hid (Below.refl _ _)⟩
  case round =>
    obtain ⟨m, hm, rfl, HF⟩ := hrel
    rcases Nat.lt_or_ge m l.length with hlt | hge
    · obtain ⟨x, hx⟩ : ∃ x, l[m]? = some x := ⟨_, List.getElem?_eq_getElem hlt⟩
      have hbr := HB2.out.trans (HF.out.mono HB2.out.size)
      obtain ⟨x0, x1⟩ := (HNP.out.below hbr).at hx
      obtain ⟨w3, hw3, hb3, hs3, b3⟩ := pro1 wr (.cells #[.pointer none, .int .i64 0] 27)
      obtain ⟨p0, p1, pf0, pf1⟩ := cells2 b3
      have g1 := set2 b3 (.pointer (some ⟨g, 0, none⟩)) (.int .i64 (x : Int))
      obtain ⟨w4, hw4⟩ : ∃ w4, (w3.setCell ⟨wr.heap.size, 0, none⟩ (.pointer (some ⟨g, 0, none⟩))).setCell ⟨wr.heap.size, 1, none⟩ (.int .i64 (x : Int)) = w4 := ⟨_, rfl⟩
      have hb4 : Below wr.heap.size wr w4 := by rw [← hw4]; exact (hb3.setCell (Nat.le_refl _) _).setCell (Nat.le_refl _) _
      rw [hw4] at g1
      obtain ⟨y0, y1, -, -⟩ := cells2 g1
      have e0 := cell_below (cell_below c0 HF.out (Nat.le_refl _)) hb4 (Nat.le_refl _)
      have e1 := cell_below (cell_below c1 HF.out (Nat.le_refl _)) hb4 (Nat.le_refl _)
      have HVX := Lib.hid (valid_num (HD.out.below (hbr.trans (hb4.mono hbr.size))) (HLL.out x (List.mem_of_getElem? hx)))
      have HF4 := Lib.hid (below_up HF.out hb4)
      have hkI : (m : Int) < (l.length : Int) := by omega
      have hk0 : (0 : Int) ≤ (m : Int) := by omega
      have HLT := Lib.hid hlt
      clear hx hbr hb3 hs3 b3 g1 hb4 hlt
      go_wp2_with fail
      refine HVX.out.mono ?_
      rintro e w5 ⟨rfl, hb5⟩
      have HF5 := Lib.hid (below_up HF4.out hb5)
      clear hb5
      go_wp2_with fail
      go_roundw
      case rel => exact ⟨m + 1, by have := HLT.out; omega, by go_num, HF5⟩
      case measure => have := HLT.out; simp [intOf]; omega
    · have hme : m = l.length := by omega
      subst hme
      have HR := Lib.hid (HB2.out.trans (HF.out.mono HB2.out.size))
      clear hm hge HF
      go_wp2
      go_ret
      exact ⟨rfl, HR.out⟩
end Go.Proofs.YtgodkfgnhpnhcaaGreatDoor
/- real.ids. -/
namespace Go.Proofs.YtgodkfgnhpnhcaaGreatDoor
open Go.RowKit Go.Maps
theorem own_ints {w : World} {base : Nat} {v : Value} {l : List Nat} (h : w.ownsRow base 3 1 v l.length (cellsI l)) (hl : 0 < l.length) : IntsP (fun b => base ≤ b) w v l := by
  rcases id h.2 with ⟨rfl, hn⟩ | ⟨r, cap, cur, rfl, hr, hh, hcap, hmax, hsz, hcur⟩
  · omega
  · refine ⟨r, cap, rfl, hcap, hmax, hr, heap_lt hh, fun k x hx => ?_⟩
    have hk := (List.getElem?_eq_some_iff.1 hx).1
    rw [h.cellAt k (by omega)]
    simp [cellsI, hx]
def RetIds (w : World) (l : List Nat) (e : Ending) (w' : World) : Prop := Below w.heap.size w w' ∧ ∃ v, e = .returned v ∧ IntsP (fun b => w.heap.size ≤ b) w' v l
theorem cellsI_snoc (l : List Nat) (x : Nat) : cellsI l ++ [.int .i64 (x : Int)] = cellsI (l ++ [x]) := by simp [cellsI]
set_option maxHeartbeats 6400000 in
set_option maxRecDepth 100000 in
theorem ids_any {w : World} {g k : Nat} {v : Value} {l : List Nat} (hl : NumsP w v g l) :
    Calls Tryz.prog 69 #[.agg #[.pointer (some ⟨g, 0, none⟩), .int .i64 (k : Int)], v] w (RetIds w (k :: l)) := by
  obtain ⟨w1, hw1, hb1, hs1, b1⟩ := pro1 w (.cells #[.pointer (some ⟨g, 0, none⟩), .int .i64 (k : Int)] 27)
  obtain ⟨c0, c1, -, -⟩ := cells2 b1
  obtain ⟨b, c, rfl, hl1, -⟩ := id hl
  have hlI : (l.length : Int) ≤ 1000 := by omega
  obtain ⟨i0, hi0, hz0, hz1, hz2⟩ := info_parts info_int
  obtain ⟨w2, hrun, hown, hgr⟩ := run_make_own (P := Tryz.prog) w1 w1.heap.size 56 3 i0 (.int .i64 0) 1 und_ints hi0 hz0 hz1 .i64 .i64 (l.length + 1) (by rw [hz2]; omega) (by unfold maxLen; omega) (Nat.le_refl _)
  have hb2 : Below w1.heap.size w1 w2 := ⟨hgr.os, hgr.tape, hgr.output, hgr.size, fun b hb => hgr.block b hb (by simp)⟩
  have hrun' : (Instr.makeSlice 56 (.int .i64 0) (.int .i64 ((l.length : Int) + 1))).run Tryz.prog w1 = .ok (.slice (some ⟨w1.heap.size, 0, none⟩) 0 (l.length + 1)) w2 := by simpa using hrun
  obtain ⟨w3, hw3, hb3, hs3, b3⟩ := pro1 w2 (.cells #[.int .i64 (k : Int)] 3)
  replace c0 := cell_below c0 hb2 (Nat.le_refl _)
  replace c1 := cell_below c1 hb2 (Nat.le_refl _)
  have HNP := Lib.hid hl; have HB1 := Lib.hid hb1; have HB3 := Lib.hid (below_up hb2 hb3)
  have HO3 := Lib.hid (hown.kept (grownBy_of_below (row := none) hb3) (Or.inr (by simp [Value.ownBlock])))
  have HC3 := Lib.hid (cells_of_one b3)
  have HI0 := Lib.hid hi0; have HZ0 := Lib.hid hz0; have HZ1 := Lib.hid hz1; have HZ2 := Lib.hid hz2
  have d0 := cell_below c0 hb3 (Nat.le_refl _)
  have d1 := cell_below c1 hb3 (Nat.le_refl _)
  have HL1 := Lib.hid hl1
  have HS3 : Hid (w1.heap.size ≤ w3.heap.size) := Lib.hid (below_up hb2 hb3).size
  clear hl hb1 hs1 b1 hl1 hi0 hz0 hz1 hz2 hrun hown hgr hb2 hb3 hs3 b3
  go_enter Tryz.func69, Tryz.ntmps69
  go_wp2_with (first
      | (at_builtin
         go_loud (
         refine wpList_append_lies _ rfl _ _ 56 rfl w1.heap.size 3 i0 (.int .i64 0) 1 8 und_ints HI0.out HZ0.out HZ1.out HZ2.out rfl (by decide) _ 0 [] rfl HO3.out ⟨w2.heap.size, 0, none⟩ 1 1 [.int .i64 (k : Int)] rfl rfl HC3.out (by simp [Value.oneCell']) (by decide) (by unfold maxLen; omega) (by omega) HS3.out w3.heap.size rfl ?_
         intro r cap w4 hown4 hgrow4 hat4 hlt4
         have HO4 := Lib.hid hown4
         have HG4 := Lib.hid hgrow4
         clear hown4 hgrow4 hat4 hlt4)))
  have HR4 : Hid (w4.ownsRow w1.heap.size 3 1 (.slice (some ⟨r, 0, none⟩) 1 cap) 1 (cellsI [k]) ∧ Below w1.heap.size w1 w4) := Lib.hid ⟨by simpa [cellsI] using HO4.out, HB3.out.trans (Below.of_grown HG4.out HS3.out (by simp [Value.ownBlock] at *))⟩
  clear hw3 hw1 hrun' c0 c1 d0 d1
  go_loopw [5, 19] (fun v i wr => ∃ m r cap : Nat, m ≤ l.length ∧ i = .int .i64 (m : Int) ∧ v = .slice (some ⟨r, 0, none⟩) (m + 1) cap ∧ Hid (wr.ownsRow w1.heap.size 3 1 (.slice (some ⟨r, 0, none⟩) (m + 1) cap) (m + 1) (cellsI (k :: l.take m)) ∧ Below w1.heap.size w1 wr)) (fun _ i _ => ((l.length : Int) - intOf i).toNat)
  case atStart => exact ⟨0, r, cap, Nat.zero_le _, rfl, rfl, by simpa using HR4⟩
  case round =>
    obtain ⟨m, r1, cap1, hm, rfl, rfl, HF⟩ := hrel
    rcases Nat.lt_or_ge m l.length with hlt | hge
    · obtain ⟨x, hx⟩ : ∃ x, l[m]? = some x := ⟨_, List.getElem?_eq_getElem hlt⟩
      obtain ⟨hown, hbl⟩ := HF.out
      have hbr := HB1.out.trans (hbl.mono HB1.out.size)
      obtain ⟨x0, x1⟩ := (HNP.out.below hbr).at hx
      obtain ⟨w5, hw5, hb5, hs5, b5⟩ := pro1 wr (.cells #[.pointer none, .int .i64 0] 27)
      obtain ⟨p0, p1, pf0, pf1⟩ := cells2 b5
      have g1 := set2 b5 (.pointer (some ⟨g, 0, none⟩)) (.int .i64 (x : Int))
      obtain ⟨w6, hw6⟩ : ∃ w6, (w5.setCell ⟨wr.heap.size, 0, none⟩ (.pointer (some ⟨g, 0, none⟩))).setCell ⟨wr.heap.size, 1, none⟩ (.int .i64 (x : Int)) = w6 := ⟨_, rfl⟩
      have hb6 : Below wr.heap.size wr w6 := by rw [← hw6]; exact (hb5.setCell (Nat.le_refl _) _).setCell (Nat.le_refl _) _
      rw [hw6] at g1
      obtain ⟨y0, y1, -, -⟩ := cells2 g1
      obtain ⟨w7, hw7, hb7, hs7, b7⟩ := pro1 w6 (.cells #[.int .i64 (x : Int)] 3)
      have h7 := below_up hb6 hb7
      have HO7 := Lib.hid (hown.kept (grownBy_of_below (row := none) h7) (Or.inr (by simp [Value.ownBlock])))
      have HC7 := Lib.hid (cells_of_one b7)
      have HB7 := Lib.hid (hbl.trans (h7.mono hbl.size))
      have HSZ : Hid (w1.heap.size ≤ w7.heap.size) := Lib.hid HB7.out.size
      have hkI : (m : Int) < (l.length : Int) := by omega
      have hk0 : (0 : Int) ≤ (m : Int) := by omega
      have HLT := Lib.hid hlt
      have HTK : Hid (l.take (m + 1) = l.take m ++ [x]) := Lib.hid (by rw [List.take_add_one, hx]; rfl)
      have HRB := Lib.hid (hown.lt r1 rfl).1
      clear hx hbr hb5 hs5 b5 g1 hb6 hb7 hs7 b7 h7 hown hbl hlt HF
      go_wp2_with (first
      | (at_builtin
         go_loud (
         refine wpList_append_lies _ rfl _ _ 56 rfl w1.heap.size 3 i0 (.int .i64 0) 1 8 und_ints HI0.out HZ0.out HZ1.out HZ2.out rfl (by decide) _ (m + 1) (cellsI (k :: l.take m)) rfl HO7.out ⟨w6.heap.size, 0, none⟩ 1 1 [.int .i64 (x : Int)] rfl rfl HC7.out (by simp [Value.oneCell']) (by decide) (by have := HL1.out; unfold maxLen; omega) (by have := HL1.out; omega) HSZ.out w7.heap.size rfl ?_
         intro r2 cap2 w8 hown8 hgrow8 hat8 hlt8
         have HF8 : Hid (w8.ownsRow w1.heap.size 3 1 (.slice (some ⟨r2, 0, none⟩) (m + 1 + 1) cap2) (m + 1 + 1) (cellsI (k :: l.take (m + 1))) ∧ Below w1.heap.size w1 w8) := Lib.hid ⟨by rw [HTK.out, ← List.cons_append, ← cellsI_snoc]; exact hown8, HB7.out.trans (Below.of_grown hgrow8 HSZ.out HRB.out)⟩
         clear hown8 hgrow8 hat8 hlt8)))
      go_roundw
      case rel => exact ⟨m + 1, r2, cap2, by have := HLT.out; omega, by go_num, rfl, HF8⟩
      case measure => have := HLT.out; simp [intOf]; omega
    · have hme : m = l.length := by omega
      subst hme
      have HRES : Hid (RetIds w (k :: l) (.returned (.slice (some ⟨r1, 0, none⟩) (l.length + 1) cap1)) wr) := Lib.hid (by
        obtain ⟨hown, hbl⟩ := HF.out
        refine ⟨HB1.out.trans (hbl.mono HB1.out.size), _, rfl, ?_⟩
        rw [List.take_of_length_le (Nat.le_refl _)] at hown
        obtain ⟨b', c', q1, q2, q3, q4, q5⟩ := own_ints (l := k :: l) hown (by simp)
        exact ⟨b', c', q1, q2, q3, Nat.le_trans HB1.out.size q4, q5⟩)
      clear hm hge HF
      go_wp2
      go_ret
      exact HRES.out
end Go.Proofs.YtgodkfgnhpnhcaaGreatDoor
/- real.Of, Sub, Div. -/
namespace Go.Proofs.YtgodkfgnhpnhcaaGreatDoor
open Go.RowKit Go.Maps
section
variable {P : Ex → Prop} {B N : Nat} {w w' w'' : World} {g k : Nat} {ns ns' : List Nd} {x : Ex}
theorem St.away (hs : St P B N w g ns) (hb : Below w.heap.size w w') {b : Nat} (h : w.heap.size ≤ b) : ¬ DagB w' g b := fun hd => by
  have := hs.dag.dagB ((DagB.congr (hb.block g hs.dag.glt)).1 hd); omega
theorem ownsRow_set {w : World} {base : Nat} {e : TypeId} {size : Nat} {v : Value} {n : Nat} {xs : List Value} (h : w.ownsRow base e size v n xs) {b i : Nat} (hb : v.ownBlock ≠ some b) (u : Value) : (w.setCell ⟨b, i, none⟩ u).ownsRow base e size v n xs := by
  refine h.kept (grownBy_set (grownBy_refl w (some b)) u) ?_
  exact Or.inr hb
theorem DagP.setCell (h : DagP w g ns) {b i : Nat} (hn : ¬ DagB w g b) (u : Value) : DagP (w.setCell ⟨b, i, none⟩ u) g ns := by
  obtain ⟨A, c, mb, m, ho⟩ := h.opened
  obtain ⟨q1, q2, q3⟩ := ho.dagB hn
  obtain ⟨h1, h2, h3, h4⟩ := ho
  exact (show DagO _ g ns A c mb m from ⟨(Below.heap_setCell w _ u g (by simpa using Ne.symm q1)).trans h1, ownsRow_set h2 q3 u, h3.keep (Below.heap_setCell w _ u mb (by simpa using Ne.symm q2)), h4⟩).dag
theorem dagB_set {b i c : Nat} (hn : ¬ DagB w g b) (u : Value) : DagB (w.setCell ⟨b, i, none⟩ u) g c ↔ DagB w g c :=
  DagB.congr (Below.heap_setCell w _ u g (fun e => hn (Or.inl (by simpa using e.symm))))
theorem DS.setCell (h : DS g w w') {b i : Nat} (hb : w.heap.size ≤ b) (hn : ¬ DagB w' g b) (u : Value) : DS g w (w'.setCell ⟨b, i, none⟩ u) :=
  ⟨⟨h.1.os, h.1.tape, h.1.output, by simpa [World.setCell] using h.1.size, fun c hc hd => (Below.heap_setCell w' _ u c (by simp; omega)).trans (h.1.block c hc hd)⟩, fun c hc hd hd' => h.2 c hc hd ((dagB_set hn u).1 hd')⟩
theorem FoldSt.setCell (h : FoldSt P B N w g ns x k w') {b i : Nat} (hb : w.heap.size ≤ b) (hn : ¬ DagB w' g b) (hB : B ≤ b) (u : Value) : FoldSt P B N w g ns x k (w'.setCell ⟨b, i, none⟩ u) := by
  obtain ⟨ns', h1, h2, h3, h4⟩ := h
  refine ⟨ns', ⟨h1.dag.setCell hn u, h1.all, fun c hc => h1.hi c ((dagB_set hn u).1 hc), h1.tab.step (Below.heap_setCell w' _ u _ (by have := h1.tb; simp; omega)), h1.tb, by simpa [World.setCell] using h1.hB, h1.room⟩, h2, h3, h4.setCell hb hn u⟩
theorem FoldSt.below (h : FoldSt P B N w g ns x k w') (hb : Below w'.heap.size w' w'') : FoldSt P B N w g ns x k w'' := by
  obtain ⟨ns', h1, h2, h3, h4⟩ := h
  exact ⟨ns', h1.below hb, h2, h3, h4.trans (DS.of_below h1.dag.glt hb)⟩
theorem FoldSt.ret (h : FoldSt P B N w g ns x k w') (mk : Nat → Value) : RetE P B N w g ns mk x (.returned (mk k)) w' := by
  obtain ⟨ns', h1, h2, h3, h4⟩ := h
  exact ⟨k, ns', rfl, h1, h2, h3, h4⟩
/-- the world grows by w0 → w ahead of a put -/
theorem FoldSt.ahead {w0 : World} (h : FoldSt P B N w g ns x k w') (hg : g < w0.heap.size) (hb : Below w0.heap.size w0 w) : FoldSt P B N w0 g ns x k w' := by
  obtain ⟨ns', h1, h2, h3, h4⟩ := h
  exact ⟨ns', h1, h2, h3, (DS.of_below hg hb).trans h4⟩
/-- two cells of the call's own block, set behind the put -/
theorem FoldSt.set2 {b : Nat} {w0 : World} (h : FoldSt P B N w g ns x k w') (hs : St P B 0 w0 g [] ∨ True) (hg : g < w0.heap.size) (hb0 : Below w0.heap.size w0 w) (hb : w0.heap.size ≤ b) (hn : ¬ DagB w g b) (hlt : b < w.heap.size) (hB : B ≤ b) (u v : Value) :
    FoldSt P B N w0 g ns x k ((w'.setCell ⟨b, 0, none⟩ u).setCell ⟨b, 1, none⟩ v) := by
  have h0 := h.ahead hg hb0
  have hn' : ¬ DagB w' g b := by
    obtain ⟨ns', h1, h2, h3, h4⟩ := h
    exact h4.2 b hlt hn
  exact (h0.setCell hb hn' hB u).setCell hb (fun hd => hn' ((dagB_set hn' u).1 hd)) hB v
end
set_option maxHeartbeats 6400000 in
set_option maxRecDepth 100000 in
theorem of_num {P : Ex → Prop} {B N : Nat} {w : World} {g : Nat} {ns : List Nd} {v : Nat} (hs : St P B N w g ns) (hN : N < 20000) (hv : v < 18446744073709551616) (hf : fin v) (hP : P (.leaf v)) :
    Calls Tryz.prog 25 #[.pointer (some ⟨g, 0, none⟩), .float .f64 v] w (RetE P B (N + 1) w g ns (numV g) (.leaf v)) := by
  obtain ⟨w1, hw1, hb1, hs1, b1⟩ := pro1 w (.cells #[.pointer none, .int .i64 0] 27)
  have HL := Lib.hid (leaf_put (hs.below hb1) hN hv hf hP)
  have hn1 : ¬ DagB w1 g w.heap.size := hs.away hb1 (Nat.le_refl _)
  have HB1 := Lib.hid b1; have HN1 := Lib.hid hn1; have HGL := Lib.hid hs.dag.glt; have HBL := Lib.hid hs.hB; have HBB := Lib.hid hb1
  have HS1 : Hid (w.heap.size < w1.heap.size) := Lib.hid (by omega)
  clear hs hN hv hf hP hb1 hs1 b1 hn1
  go_enter Tryz.func25, Tryz.ntmps25
  go_wp2_with fail
  refine HL.out.mono ?_
  rintro e w2 ⟨k, ns', rfl, h1, h2, h3, h4⟩
  have b2 := (h4.heap HS1.out HN1.out).trans HB1.out
  obtain ⟨c0, c1, f0, f1⟩ := cells2 b2
  have HF : Hid (FoldSt P B (N + 1) w g ns (.leaf v) k ((w2.setCell ⟨w.heap.size, 0, none⟩ (.pointer (some ⟨g, 0, none⟩))).setCell ⟨w.heap.size, 1, none⟩ (.int .i64 (k : Int)))) :=
    Lib.hid (FoldSt.set2 (w0 := w) (w := w1) ⟨ns', h1, h2, h3, h4⟩ (Or.inr trivial) HGL.out HBB.out (Nat.le_refl _) HN1.out HS1.out HBL.out _ _)
  have HG := Lib.hid (set2 b2 (.pointer (some ⟨g, 0, none⟩)) (.int .i64 (k : Int)))
  clear h1 h2 h3 h4 b2
  go_wp2
  obtain ⟨x0, x1, -, -⟩ := cells2 HG.out
  refine bodyPost_ret (v := .agg #[_, _]) (by simp [results, Tryz.results25, go_sem, x0, x1]; first | exact ⟨rfl, rfl⟩ | rfl) rfl ?_
  exact HF.out.ret (numV g)
end Go.Proofs.YtgodkfgnhpnhcaaGreatDoor
/- real.Sub, Div, Sqrt. -/
namespace Go.Proofs.YtgodkfgnhpnhcaaGreatDoor
open Go.RowKit Go.Maps
theorem nums_one {w : World} {g j b : Nat} {T : TypeId} (h : w.heap[b]? = some (.cells #[.pointer (some ⟨g, 0, none⟩), .int .i64 (j : Int)] T (0, 0))) : NumsP w (.slice (some ⟨b, 0, none⟩) 1 1) g [j] := by
  obtain ⟨c0, c1, -, -⟩ := cells2 h
  refine ⟨b, 1, rfl, by simp, fun i x hx => ?_⟩
  cases i with
  | zero => simp at hx; subst hx; exact ⟨c0, c1⟩
  | succ i => simp at hx
set_option maxHeartbeats 6400000 in
set_option maxRecDepth 100000 in
theorem sub_num {P : Ex → Prop} {B N : Nat} {w : World} {g i j : Nat} {ns : List Nd} {a b : Ex} (hs : St P B N w g ns) (hN : N < 20000) (ha : Is ns a i) (hb : Is ns b j) (hP : P (.sub a b)) :
    Calls Tryz.prog 31 #[numV g i, numV g j] w (RetE P B (N + 1) w g ns (numV g) (.sub a b)) := by
  obtain ⟨w3, hw3, hb3, hs3, b1, b2, b3⟩ := pro3 w (.cells #[.pointer (some ⟨g, 0, none⟩), .int .i64 (i : Int)] 27) (.cells #[.pointer (some ⟨g, 0, none⟩), .int .i64 (j : Int)] 27) (.cells #[.pointer none, .int .i64 0] 27)
  obtain ⟨w4, hw4, hb4, hs4, b4⟩ := pro1 w3 (.cells #[.pointer (some ⟨g, 0, none⟩), .int .i64 (j : Int)] 27)
  have h34 := below_up hb3 hb4
  have HG := Lib.hid (goes_any (hs.dag.below h34) ha.lt (nums_one b4) (fun x hx => by simp at hx; subst hx; exact hb.lt))
  have HOP : Hid (∀ w', Below w.heap.size w w' → Calls Tryz.prog 37 #[.pointer (some ⟨g, 0, none⟩), .int .i64 (i : Int), .int .i64 (j : Int)] w' (RetE P B (N + 1) w' g ns idV (.sub a b))) := Lib.hid fun w' h => sub_put (hs.below h) hN ha hb hP
  have HAW : Hid (∀ w' (c : Nat), Below w.heap.size w w' → w.heap.size ≤ c → ¬ DagB w' g c) := Lib.hid fun w' c h => hs.away h
  have HGL := Lib.hid hs.dag.glt; have HBL := Lib.hid hs.hB
  obtain ⟨c0, c1, -, -⟩ := cells2 b1
  obtain ⟨d0, d1, -, -⟩ := cells2 b2
  have HB4 := Lib.hid h34
  have B3 := Lib.hid (heap_below b3 hb4 (heap_lt b3))
  have HSZ : Hid (w.heap.size + 2 < w4.heap.size) := Lib.hid (by omega)
  have e0 := cell_below c0 hb4 (Nat.le_refl _)
  have e1 := cell_below c1 hb4 (Nat.le_refl _)
  have e2 := cell_below d0 hb4 (Nat.le_refl _)
  have e3 := cell_below d1 hb4 (Nat.le_refl _)
  clear hs hN ha hb hP hb3 hb4 h34 b1 b2 b3 b4 hs3 hs4
  go_enter Tryz.func31, Tryz.ntmps31
  go_wp2_with fail
  refine HG.out.mono ?_
  rintro e w5 ⟨rfl, hb5⟩
  have hb5d : Below w4.heap.size w4 w5.drew := below_up hb5 (Below.refl _ _).drew
  replace e0 := cell_below e0 hb5d (Nat.le_refl _)
  replace e1 := cell_below e1 hb5d (Nat.le_refl _)
  replace e2 := cell_below e2 hb5d (Nat.le_refl _)
  replace e3 := cell_below e3 hb5d (Nat.le_refl _)
  have HB5 := Lib.hid (below_up HB4.out hb5d)
  have B5 := Lib.hid (heap_below B3.out hb5d (heap_lt B3.out))
  have HSZ5 : Hid (w.heap.size + 2 < w5.drew.heap.size) := Lib.hid (by have := hb5d.size; have := HSZ.out; omega)
  clear hb5 hb5d c0 c1 d0 d1 hw3 hw4
  have n1 : w.heap.size + 1 + 1 ≠ w.heap.size := by omega
  have n2 : w.heap.size ≠ w.heap.size + 1 + 1 := by omega
  go_wp2_with fail
  go_region_held3 (fun w' => w'.cell? ⟨w.heap.size, 0, none⟩ = some (.pointer (some ⟨g, 0, none⟩)) ∧ w'.cell? ⟨w.heap.size, 1, none⟩ = some (.int .i64 (i : Int)) ∧ w'.cell? ⟨w.heap.size + 1, 1, none⟩ = some (.int .i64 (j : Int))) (go_keep)
    (first
    | (go_at_call 37
       refine (HOP.out _ HB5.out).mono ?_
       rintro e w6 ⟨k, ns', rfl, h1, h2, h3, h4⟩
       have e0 := h4.cell e0 (HAW.out _ _ HB5.out (by simp))
       have e1 := h4.cell e1 (HAW.out _ _ HB5.out (by simp))
       have e3 := h4.cell e3 (HAW.out _ _ HB5.out (by simp))
       have B6 := (h4.heap (b := w.heap.size + 2) HSZ5.out (HAW.out _ _ HB5.out (by omega))).trans B5.out
       obtain ⟨r0, r1, f0, f1⟩ := cells2 B6
       have HF : Hid (FoldSt P B (N + 1) w g ns (.sub a b) k ((w6.setCell ⟨w.heap.size + 2, 0, none⟩ (.pointer (some ⟨g, 0, none⟩))).setCell ⟨w.heap.size + 2, 1, none⟩ (.int .i64 (k : Int)))) :=
         Lib.hid (FoldSt.set2 (w0 := w) ⟨ns', h1, h2, h3, h4⟩ (Or.inr trivial) HGL.out HB5.out (by omega) (HAW.out _ _ HB5.out (by omega)) HSZ5.out (by have := HBL.out; omega) _ _)
       have HX := Lib.hid (set2 B6 (.pointer (some ⟨g, 0, none⟩)) (.int .i64 (k : Int)))
       clear h1 h2 h3 h4 B6))
  go_wp2
  obtain ⟨x0, x1, -, -⟩ := cells2 HX.out
  refine bodyPost_ret (v := .agg #[_, _]) (by simp [results, Tryz.results31, go_sem, x0, x1]; first | exact ⟨rfl, rfl⟩ | rfl) rfl ?_
  exact HF.out.ret (numV g)
set_option maxHeartbeats 6400000 in
set_option maxRecDepth 100000 in
theorem div_num {P : Ex → Prop} {B N : Nat} {w : World} {g i j : Nat} {ns : List Nd} {a b : Ex} (hs : St P B N w g ns) (hN : N < 20000) (ha : Is ns a i) (hb : Is ns b j) (hP : P (.div a b)) :
    Calls Tryz.prog 55 #[numV g i, numV g j] w (RetE P B (N + 1) w g ns (numV g) (.div a b)) := by
  obtain ⟨w3, hw3, hb3, hs3, b1, b2, b3⟩ := pro3 w (.cells #[.pointer (some ⟨g, 0, none⟩), .int .i64 (i : Int)] 27) (.cells #[.pointer (some ⟨g, 0, none⟩), .int .i64 (j : Int)] 27) (.cells #[.pointer none, .int .i64 0] 27)
  obtain ⟨w4, hw4, hb4, hs4, b4⟩ := pro1 w3 (.cells #[.pointer (some ⟨g, 0, none⟩), .int .i64 (j : Int)] 27)
  have h34 := below_up hb3 hb4
  have HG := Lib.hid (goes_any (hs.dag.below h34) ha.lt (nums_one b4) (fun x hx => by simp at hx; subst hx; exact hb.lt))
  have HOP : Hid (∀ w', Below w.heap.size w w' → Calls Tryz.prog 40 #[.pointer (some ⟨g, 0, none⟩), .int .i64 (i : Int), .int .i64 (j : Int)] w' (RetE P B (N + 1) w' g ns idV (.div a b))) := Lib.hid fun w' h => div_put (hs.below h) hN ha hb hP
  have HAW : Hid (∀ w' (c : Nat), Below w.heap.size w w' → w.heap.size ≤ c → ¬ DagB w' g c) := Lib.hid fun w' c h => hs.away h
  have HGL := Lib.hid hs.dag.glt; have HBL := Lib.hid hs.hB
  obtain ⟨c0, c1, -, -⟩ := cells2 b1
  obtain ⟨d0, d1, -, -⟩ := cells2 b2
  have HB4 := Lib.hid h34
  have B3 := Lib.hid (heap_below b3 hb4 (heap_lt b3))
  have HSZ : Hid (w.heap.size + 2 < w4.heap.size) := Lib.hid (by omega)
  have e0 := cell_below c0 hb4 (Nat.le_refl _)
  have e1 := cell_below c1 hb4 (Nat.le_refl _)
  have e2 := cell_below d0 hb4 (Nat.le_refl _)
  have e3 := cell_below d1 hb4 (Nat.le_refl _)
  clear hs hN ha hb hP hb3 hb4 h34 b1 b2 b3 b4 hs3 hs4
  go_enter Tryz.func55, Tryz.ntmps55
  go_wp2_with fail
  refine HG.out.mono ?_
  rintro e w5 ⟨rfl, hb5⟩
  have hb5d : Below w4.heap.size w4 w5.drew := below_up hb5 (Below.refl _ _).drew
  replace e0 := cell_below e0 hb5d (Nat.le_refl _)
  replace e1 := cell_below e1 hb5d (Nat.le_refl _)
  replace e2 := cell_below e2 hb5d (Nat.le_refl _)
  replace e3 := cell_below e3 hb5d (Nat.le_refl _)
  have HB5 := Lib.hid (below_up HB4.out hb5d)
  have B5 := Lib.hid (heap_below B3.out hb5d (heap_lt B3.out))
  have HSZ5 : Hid (w.heap.size + 2 < w5.drew.heap.size) := Lib.hid (by have := hb5d.size; have := HSZ.out; omega)
  clear hb5 hb5d c0 c1 d0 d1 hw3 hw4
  have n1 : w.heap.size + 1 + 1 ≠ w.heap.size := by omega
  have n2 : w.heap.size ≠ w.heap.size + 1 + 1 := by omega
  go_wp2_with fail
  go_region_held3 (fun w' => w'.cell? ⟨w.heap.size, 0, none⟩ = some (.pointer (some ⟨g, 0, none⟩)) ∧ w'.cell? ⟨w.heap.size, 1, none⟩ = some (.int .i64 (i : Int)) ∧ w'.cell? ⟨w.heap.size + 1, 1, none⟩ = some (.int .i64 (j : Int))) (go_keep)
    (first
    | (go_at_call 40
       refine (HOP.out _ HB5.out).mono ?_
       rintro e w6 ⟨k, ns', rfl, h1, h2, h3, h4⟩
       have e0 := h4.cell e0 (HAW.out _ _ HB5.out (by simp))
       have e1 := h4.cell e1 (HAW.out _ _ HB5.out (by simp))
       have e3 := h4.cell e3 (HAW.out _ _ HB5.out (by simp))
       have B6 := (h4.heap (b := w.heap.size + 2) HSZ5.out (HAW.out _ _ HB5.out (by omega))).trans B5.out
       obtain ⟨r0, r1, f0, f1⟩ := cells2 B6
       have HF : Hid (FoldSt P B (N + 1) w g ns (.div a b) k ((w6.setCell ⟨w.heap.size + 2, 0, none⟩ (.pointer (some ⟨g, 0, none⟩))).setCell ⟨w.heap.size + 2, 1, none⟩ (.int .i64 (k : Int)))) :=
         Lib.hid (FoldSt.set2 (w0 := w) ⟨ns', h1, h2, h3, h4⟩ (Or.inr trivial) HGL.out HB5.out (by omega) (HAW.out _ _ HB5.out (by omega)) HSZ5.out (by have := HBL.out; omega) _ _)
       have HX := Lib.hid (set2 B6 (.pointer (some ⟨g, 0, none⟩)) (.int .i64 (k : Int)))
       clear h1 h2 h3 h4 B6))
  go_wp2
  obtain ⟨x0, x1, -, -⟩ := cells2 HX.out
  refine bodyPost_ret (v := .agg #[_, _]) (by simp [results, Tryz.results55, go_sem, x0, x1]; first | exact ⟨rfl, rfl⟩ | rfl) rfl ?_
  exact HF.out.ret (numV g)
end Go.Proofs.YtgodkfgnhpnhcaaGreatDoor
