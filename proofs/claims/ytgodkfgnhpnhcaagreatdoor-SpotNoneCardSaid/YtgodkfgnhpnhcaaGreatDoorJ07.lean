/- A part of the proof: contracts of functions and plain laws (NatW, Int, IntA, IntB, IntC, IntD, Held, IntE, IntF, DyA). -/
import Derived.Test.YtgodkfgnhpnhcaaGreatDoorJ06
import Derived.Deep.RegionHeld3
import Derived.StillTail
set_option linter.unusedVariables false
set_option linter.unusedSimpArgs false
namespace Go.Proofs.YtgodkfgnhpnhcaaGreatDoor
open Go.RowKit
theorem root_any {p : Nat → Prop} {va : Value} {xs : List Nat} {w : World} (hx : NatP p w va xs) (tx : Tr xs) (hl : xs.length ≤ 268435456) : Calls Tryz.prog 272 #[va] w (RetN w.heap.size w (isqrt (val xs))) := by
  have key : ∀ N : Nat, ∀ (p : Nat → Prop) (va : Value) (xs : List Nat) (w : World), NatP p w va xs → Tr xs → xs.length ≤ 268435456 → val xs < N → Calls Tryz.prog 272 #[va] w (RetN w.heap.size w (isqrt (val xs))) := by
    intro N
    induction N with
    | zero => intro p va xs w _ _ _ h; omega
    | succ N ih => intro p va xs w hx tx hl h; exact root_step N ih p va xs w hx tx hl (by omega)
  exact key (val xs + 1) p va xs w hx tx hl (by omega)
/-- two new numbers come back -/
def RetNNN (B : Nat) (w0 : World) (m n : Nat) (e : Ending) (w' : World) : Prop :=
  Below B w0 w' ∧ ∃ v1 v2 xs ys, e = .returned (.tuple #[v1, v2]) ∧ NatP (fun b => B ≤ b) w' v1 xs ∧ Tr xs ∧ val xs = m ∧ NatP (fun b => B ≤ b) w' v2 ys ∧ Tr ys ∧ val ys = n
theorem sqrt_any {p : Nat → Prop} {va : Value} {xs : List Nat} {w : World} (hx : NatP p w va xs) (hl : xs.length ≤ 268435456) : Calls Tryz.prog 262 #[va] w (RetNNN w.heap.size w (isqrt (val xs)) (val xs - isqrt (val xs) * isqrt (val xs))) := by
  go_enter Tryz.func262, Tryz.ntmps262
  go_wp2_with fail
  refine (trim_any hx).mono ?_
  rintro e w1 ⟨hw, v1, ys, rfl, hy, ty, hvy, hly⟩
  obtain rfl := hw
  have HY := Lib.hid hy
  have HV := Lib.hid hvy
  clear hx hy hvy
  go_wp2_with fail
  refine (root_any HY.out ty (by omega)).mono ?_
  rintro e w2 ⟨hb, v2, rs, rfl, hr, tr, hvr⟩
  have HB := Lib.hid hb
  replace HY := Lib.hid (HY.out.below hb)
  have HR := Lib.hid hr; have HT := Lib.hid tr
  rw [HV.out] at hvr
  have hrl : rs.length ≤ ys.length := tr_len_mono _ _ tr HY.out.ok (by rw [hvr, HV.out]; exact isqrt_le _)
  have HVR := Lib.hid hvr
  clear hb hr hvr tr
  go_wp2_with fail
  refine (mul_any (cut := 40) (by omega) (by omega) HR.out HR.out (by omega)).mono ?_
  rintro e w3 ⟨hb, v3, ps, rfl, hp, tp, hvp⟩
  have hsz := HB.out.size
  replace HB := Lib.hid (HB.out.trans (hb.mono HB.out.size))
  replace HY := Lib.hid (HY.out.below hb); replace HR := Lib.hid (HR.out.below hb)
  have HP := Lib.hid hp
  rw [HVR.out] at hvp
  have hle : val ps ≤ val ys := by rw [hvp, HV.out]; exact (isqrt_spec _).1
  have hpl : ps.length ≤ ys.length := tr_len_mono _ _ tp HY.out.ok hle
  have HVP := Lib.hid hvp; have HLE := Lib.hid hle
  clear hb hp hvp tp hsz hle
  go_wp2_with fail
  refine (sub_any HY.out HP.out hpl HLE.out).mono ?_
  rintro e w4 ⟨hb, v4, ds, rfl, hd, td, hvd⟩
  have hsz := HB.out.size
  replace HB := Lib.hid (HB.out.trans (hb.mono HB.out.size))
  replace HR := Lib.hid (HR.out.below hb)
  rw [HV.out, HVP.out] at hvd
  have HF : Hid (RetNNN w.heap.size w (isqrt (val xs)) (val xs - isqrt (val xs) * isqrt (val xs)) (.returned (.tuple #[v2, v4])) w4) := Lib.hid ⟨HB.out, v2, v4, rs, ds, rfl, HR.out, HT.out, HVR.out, hd.weak (fun b h _ => Nat.le_trans hsz h), td, hvd⟩
  clear hb hd hvd td hsz
  go_wp2
  go_ret2
  exact HF.out
end Go.Proofs.YtgodkfgnhpnhcaaGreatDoor
namespace Go.Proofs.YtgodkfgnhpnhcaaGreatDoor
open Go.RowKit
/-- the number of a sign and a magnitude -/
def sg (neg : Bool) (n : Nat) : Int := if neg then -(n : Int) else n
/-- a value that reads as the whole number z, all its limbs in blocks of which p says something -/
def IntP (p : Nat → Prop) (w : World) (v : Value) (z : Int) : Prop :=
  ∃ vm xs, v = .agg #[.bool (decide (z < 0)), vm] ∧ NatP p w vm xs ∧ Tr xs ∧ val xs = z.natAbs
/-- a whole number comes back -/
def RetZ (B : Nat) (w0 : World) (z : Int) (e : Ending) (w' : World) : Prop :=
  Below B w0 w' ∧ ∃ v, e = .returned v ∧ IntP (fun b => B ≤ b) w' v z
theorem sg_natAbs (b : Bool) (n : Nat) : (sg b n).natAbs = n := by cases b <;> simp [sg]
theorem sg_neg (b : Bool) (n : Nat) : decide (sg b n < 0) = (b && decide ((n : Nat) ≠ 0)) := by
  cases b
  · simp [sg]
  · simp only [sg, if_true, Bool.true_and]; congr 1; exact propext ⟨fun h => by omega, fun h => by omega⟩
theorem NatP.setCell {p : Nat → Prop} {w : World} {v : Value} {xs : List Nat} (h : NatP p w v xs) {a : Addr} (ha : ∀ b, p b → b ≠ a.block) (u : Value) : NatP p (w.setCell a u) v xs :=
  h.keep (by simp) fun b hp _ => Below.heap_setCell w a u b (ha b hp)
theorem cells2 {w : World} {g : Nat} {T : TypeId} {a b : Value} (h : w.heap[g]? = some (.cells #[a, b] T (0, 0))) :
    w.cell? ⟨g, 0, none⟩ = some a ∧ w.cell? ⟨g, 1, none⟩ = some b ∧ w.frozen? ⟨g, 0, none⟩ = false ∧ w.frozen? ⟨g, 1, none⟩ = false := by
  refine ⟨?_, ?_, ?_, ?_⟩ <;> simp [World.cell?, World.frozen?, h]
theorem set2 {w : World} {g : Nat} {T : TypeId} {a b : Value} (h : w.heap[g]? = some (.cells #[a, b] T (0, 0))) (c d : Value) :
    ((w.setCell ⟨g, 0, none⟩ c).setCell ⟨g, 1, none⟩ d).heap[g]? = some (.cells #[c, d] T (0, 0)) := by
  have hg : g < w.heap.size := (Array.getElem?_eq_some_iff.1 h).1
  have h' : w.heap[g] = .cells #[a, b] T (0, 0) := (Array.getElem?_eq_some_iff.1 h).2
  simp [World.setCell, hg, Array.getElem_modify, h']
set_option maxHeartbeats 1600000 in
theorem make_any {p : Nat → Prop} {b : Bool} {va : Value} {xs : List Nat} {w : World} (hx : NatP p w va xs) :
    Calls Tryz.prog 180 #[.bool b, va] w (RetZ w.heap.size w (sg b (val xs))) := by
  go_enter Tryz.func180, Tryz.ntmps180
  go_wp2_with fail
  have hbn : Below w.heap.size w (w.alloc (Obj.cells #[Value.bool false, Value.slice none 0 0] 170)) := (Below.refl _ _).alloc (Nat.le_refl _) _
  refine (of_any (hx.below hbn)).mono ?_
  rintro e w1 ⟨hb, v1, ys, rfl, hy, ty, hvy⟩
  have HB := Lib.hid (hbn.trans (hb.mono hbn.size))
  have hy2 := hy.weak (q := fun b => w.heap.size < b) fun b h _ => by simp at h; omega
  have HY := Lib.hid hy2
  have HTY := Lib.hid ty; have HVY := Lib.hid hvy
  have HW : Hid (w1.heap[w.heap.size]? = some (Obj.cells #[Value.bool false, Value.slice none 0 0] 170 (0, 0))) := Lib.hid (by rw [hb.block _ (by simp)]; exact heap_alloc_new w _)
  clear hb hy hy2 hvy ty hbn hx
  obtain ⟨A, c, rfl, -⟩ := HY.out
  obtain ⟨hc0, hc1, hf0, hf1⟩ := cells2 HW.out
  have key : ∀ n : Int, n = sg b (val xs) → Hid (RetZ w.heap.size w (sg b (val xs)) (.returned (.agg #[.bool (decide (n < 0)), .slice A ys.length c])) ((w1.setCell ⟨w.heap.size, 0, none⟩ (.bool (decide (n < 0)))).setCell ⟨w.heap.size, 1, none⟩ (.slice A ys.length c))) := by
    rintro n rfl
    refine Lib.hid ⟨(HB.out.setCell (Nat.le_refl _) _).setCell (Nat.le_refl _) _, _, rfl, _, ys, rfl, ?_, HTY.out, by rw [HVY.out, sg_natAbs]⟩
    exact ((HY.out.setCell (fun b hb => by simp; omega) _).setCell (fun b hb => by simp; omega) _).weak fun b hb _ => Nat.le_of_lt hb
  have hs := fun n : Int => set2 HW.out (.bool (decide (n < 0))) (.slice A ys.length c)
  cases b
  · have hd : decide (sg false (val xs) < 0) = false := by rw [sg_neg]; rfl
    have HF := key _ rfl
    have hs' := hs (sg false (val xs))
    rw [hd] at HF hs'
    clear key hs hd
    go_wp2
    obtain ⟨c0, c1, -, -⟩ := cells2 hs'
    refine bodyPost_ret (v := .agg #[_, _]) (by simp [results, Tryz.results180, go_sem, c0, c1]; first | exact ⟨rfl, rfl⟩ | rfl) rfl ?_
    exact HF.out
  · rcases Nat.eq_zero_or_pos ys.length with h0 | h0
    · have hv0 : val xs = 0 := by
        obtain rfl := List.length_eq_zero_iff.1 h0
        rw [← HVY.out]; rfl
      have hi : decide (0 < ys.length) = false := decide_eq_false (by omega)
      clear h0
      have hd : decide (sg true (val xs) < 0) = false := by rw [sg_neg, hv0]; rfl
      have HF := key _ rfl
      have hs' := hs (sg true (val xs))
      rw [hd] at HF hs'
      clear key hs hd
      go_wp2
      obtain ⟨c0, c1, -, -⟩ := cells2 hs'
      refine bodyPost_ret (v := .agg #[_, _]) (by simp [results, Tryz.results180, go_sem, c0, c1]; first | exact ⟨rfl, rfl⟩ | rfl) rfl ?_
      exact HF.out
    · have hv0 : val xs ≠ 0 := by
        intro h
        rw [← HVY.out] at h
        have := (val_eq_zero_tr ys HTY.out).1 h
        rw [this] at h0; simp at h0
      have hi : decide (0 < ys.length) = true := decide_eq_true (by omega)
      clear h0
      have hd : decide (sg true (val xs) < 0) = true := by rw [sg_neg]; simp [hv0]
      have HF := key _ rfl
      have hs' := hs (sg true (val xs))
      rw [hd] at HF hs'
      clear key hs hd
      go_wp2
      obtain ⟨c0, c1, -, -⟩ := cells2 hs'
      refine bodyPost_ret (v := .agg #[_, _]) (by simp [results, Tryz.results180, go_sem, c0, c1]; first | exact ⟨rfl, rfl⟩ | rfl) rfl ?_
      exact HF.out
end Go.Proofs.YtgodkfgnhpnhcaaGreatDoor
namespace Go.Proofs.YtgodkfgnhpnhcaaGreatDoor
open Go.RowKit
/-- a number comes back; what was there before the call stands as it was -/
def RetK (w : World) (n : Int) (e : Ending) (w' : World) : Prop := e = .returned (.int .i64 n) ∧ Below w.heap.size w w'
theorem IntP.below {p : Nat → Prop} {w w' : World} {v : Value} {z : Int} (h : IntP p w v z) (hb : Below w.heap.size w w') : IntP p w' v z := by
  obtain ⟨vm, xs, h1, h2, h3, h4⟩ := h
  exact ⟨vm, xs, h1, h2.below hb, h3, h4⟩
theorem IntP.weak {p q : Nat → Prop} {w : World} {v : Value} {z : Int} (h : IntP p w v z) (hq : ∀ b, p b → b < w.heap.size → q b) : IntP q w v z := by
  obtain ⟨vm, xs, h1, h2, h3, h4⟩ := h
  exact ⟨vm, xs, h1, h2.weak hq, h3, h4⟩
theorem IntP.setCell {p : Nat → Prop} {w : World} {v : Value} {z : Int} (h : IntP p w v z) {a : Addr} (ha : ∀ b, p b → b ≠ a.block) (u : Value) : IntP p (w.setCell a u) v z := by
  obtain ⟨vm, xs, h1, h2, h3, h4⟩ := h
  exact ⟨vm, xs, h1, h2.setCell ha u, h3, h4⟩
theorem heap_below {w w' : World} {g : Nat} {o : Obj} {B : Nat} (h : w.heap[g]? = some o) (hb : Below B w w') (hg : g < B) : w'.heap[g]? = some o := by rw [hb.block g hg]; exact h
theorem heap_lt {w : World} {g : Nat} {o : Obj} (h : w.heap[g]? = some o) : g < w.heap.size := (Array.getElem?_eq_some_iff.1 h).1
theorem below_alloc (w : World) (o : Obj) : Below w.heap.size w (w.alloc o) := (Below.refl _ _).alloc (Nat.le_refl _) _
theorem alloc_size (w : World) (o : Obj) : (w.alloc o).heap.size = w.heap.size + 1 := by simp
theorem bits_eq_zero (n : Nat) : bits n = 0 ↔ n = 0 := by
  unfold bits; split <;> simp_all
theorem bits_ne {n : Nat} {z : Int} (h : n = z.natAbs) (hz : z ≠ 0) : bits n ≠ 0 := fun h' => hz (by have := (bits_eq_zero n).1 h'; omega)
set_option maxHeartbeats 1600000 in
theorem sign_any {p : Nat → Prop} {v : Value} {z : Int} {w : World} (hx : IntP p w v z) :
    Calls Tryz.prog 177 #[v] w (RetK w z.sign) := by
  obtain ⟨vm, xs, rfl, h1, h2, h3⟩ := hx
  have hbn := below_alloc w (Obj.cells #[Value.bool (decide (z < 0)), vm] 170)
  have HB := Lib.hid hbn
  have H1 := Lib.hid (h1.below hbn)
  have HW := Lib.hid (heap_alloc_new w (Obj.cells #[Value.bool (decide (z < 0)), vm] 170))
  clear hbn
  go_enter Tryz.func177, Tryz.ntmps177
  go_wp2_with fail
  refine (bits_any H1.out).mono ?_
  rintro e w1 ⟨rfl, k, rfl⟩
  have HB1 := Lib.hid (HB.out.trans ((below_drewN _ k).mono HB.out.size))
  replace HW := Lib.hid (heap_below HW.out (below_drewN _ k) (heap_lt HW.out))
  generalize World.drewN _ k = w1 at HB1 HW ⊢
  clear HB
  obtain ⟨c0, c1, -, -⟩ := cells2 HW.out
  rcases Int.lt_trichotomy z 0 with hz | hz | hz
  · have hd : decide (z < 0) = true := decide_eq_true hz
    have hb : (((bits (val xs) : Nat) : Int) == 0) = false := beq_eq_false_iff_ne.2 (by have := bits_ne h3 (by omega); omega)
    have HF : Hid (RetK w z.sign (.returned (.int .i64 (-1))) w1) := Lib.hid ⟨by rw [Int.sign_eq_neg_one_of_neg hz], HB1.out⟩
    rw [hd] at c0
    clear hz hd h3
    go_wp2
    go_ret
    exact HF.out
  · have hb : bits (val xs) = 0 := (bits_eq_zero _).2 (by omega)
    have HF : Hid (RetK w z.sign (.returned (.int .i64 0)) w1) := Lib.hid ⟨by rw [hz]; rfl, HB1.out⟩
    rw [hb]
    clear hz hb h3
    go_wp2
    go_ret
    exact HF.out
  · have hd : decide (z < 0) = false := decide_eq_false (by omega)
    have hb : (((bits (val xs) : Nat) : Int) == 0) = false := beq_eq_false_iff_ne.2 (by have := bits_ne h3 (by omega); omega)
    have HF : Hid (RetK w z.sign (.returned (.int .i64 1)) w1) := Lib.hid ⟨by rw [Int.sign_eq_one_of_pos hz], HB1.out⟩
    rw [hd] at c0
    clear hz hd h3
    go_wp2
    go_ret
    exact HF.out
end Go.Proofs.YtgodkfgnhpnhcaaGreatDoor
namespace Go.Proofs.YtgodkfgnhpnhcaaGreatDoor
open Go.RowKit
theorem retz_store {B g : Nat} {w0 w1 : World} {T : TypeId} {a b u vm : Value} {z : Int} {q : Nat → Prop} (hb : Below B w0 w1) (hg : B ≤ g) (hw : w1.heap[g]? = some (.cells #[a, b] T (0, 0)))
    (h : IntP q w1 (.agg #[u, vm]) z) (hq : ∀ b, q b → B ≤ b ∧ b ≠ g) :
    Hid (RetZ B w0 z (.returned (.agg #[u, vm])) ((w1.setCell ⟨g, 0, none⟩ u).setCell ⟨g, 1, none⟩ vm)) ∧
    ((w1.setCell ⟨g, 0, none⟩ u).setCell ⟨g, 1, none⟩ vm).heap[g]? = some (.cells #[u, vm] T (0, 0)) :=
  ⟨Lib.hid ⟨(hb.setCell hg _).setCell hg _, _, rfl, ((h.setCell (fun b hb => (hq b hb).2) _).setCell (fun b hb => (hq b hb).2) _).weak fun b hb _ => (hq b hb).1⟩, set2 hw u vm⟩
theorem IntP.shape {p : Nat → Prop} {w : World} {v : Value} {z : Int} (h : IntP p w v z) : ∃ b A n c, v = .agg #[.bool b, .slice A n c] := by
  obtain ⟨vm, xs, h, ⟨A, c, rfl, -⟩, -⟩ := h; exact ⟨_, _, _, _, h⟩
theorem IntP.mk {p : Nat → Prop} {w : World} {b : Bool} {vm : Value} {xs : List Nat} (h : NatP p w vm xs) (ht : Tr xs) (hb : b = true → val xs ≠ 0) : IntP p w (.agg #[.bool b, vm]) (sg b (val xs)) := by
  refine ⟨vm, xs, ?_, h, ht, (sg_natAbs _ _).symm⟩
  rw [sg_neg]
  cases b
  · rfl
  · simp [hb rfl]
theorem sg_of (z : Int) : sg (decide (z < 0)) z.natAbs = z := by
  unfold sg; by_cases h : z < 0
  · rw [decide_eq_true h]; simp; omega
  · rw [decide_eq_false h]; simp; omega
theorem sg_not (z : Int) : sg (!decide (z < 0)) z.natAbs = -z := by
  unfold sg; by_cases h : z < 0
  · rw [decide_eq_true h]; simp; omega
  · rw [decide_eq_false h]; simp; omega
set_option maxHeartbeats 1600000 in
theorem not_any {p : Nat → Prop} {v : Value} {z : Int} {w : World} (hx : IntP p w v z) :
    Calls Tryz.prog 149 #[v] w (RetZ w.heap.size w (-z)) := by
  obtain ⟨vm, xs, rfl, h1, h2, h3⟩ := hx
  have hbn := below_alloc w (Obj.cells #[Value.bool (decide (z < 0)), vm] 170)
  generalize hw1 : w.alloc (Obj.cells #[Value.bool (decide (z < 0)), vm] 170) = w1 at hbn
  have hs1 : w1.heap.size = w.heap.size + 1 := by rw [← hw1]; simp
  have hbn2 := below_alloc w1 (Obj.cells #[Value.bool false, Value.slice none 0 0] 170)
  generalize hw2 : w1.alloc (Obj.cells #[Value.bool false, Value.slice none 0 0] 170) = w2 at hbn2
  have HB := Lib.hid (hbn.trans (hbn2.mono hbn.size))
  have H1 := Lib.hid ((h1.below hbn).below hbn2)
  have HS : Hid (w.heap.size + 2 = w2.heap.size) := Lib.hid (by rw [← hw2]; simp; omega)
  have HW : Hid (w2.heap[w.heap.size + 1]? = some (.cells #[Value.bool false, Value.slice none 0 0] 170 (0, 0))) := Lib.hid (by rw [← hs1, ← hw2]; exact heap_alloc_new w1 _)
  have HX : Hid (w2.heap[w.heap.size]? = some (.cells #[Value.bool (decide (z < 0)), vm] 170 (0, 0))) := Lib.hid (heap_below (by rw [← hw1]; exact heap_alloc_new w _) hbn2 (by omega))
  obtain ⟨c0, c1, -, -⟩ := cells2 HX.out
  have HN := Lib.hid (sg_not z); rw [← h3] at HN
  clear hbn hbn2 h1 h3
  go_enter Tryz.func149, Tryz.ntmps149
  go_wp2_with fail
  refine (make_any H1.out).mono ?_
  rintro e w3 ⟨hb, v, rfl, h⟩
  rw [HN.out] at h
  obtain ⟨b', A', n', c', rfl⟩ := h.shape
  have hs := HS.out
  obtain ⟨HF, hF⟩ := retz_store (HB.out.trans (hb.mono HB.out.size)) (by omega) (heap_below HW.out hb (by omega)) h (g := w.heap.size + 1) (fun b hb => by omega)
  obtain ⟨e0, e1, e2, e3⟩ := cells2 (heap_below HW.out hb (by omega))
  replace hF := Lib.hid hF
  clear hb h hs
  go_wp2
  obtain ⟨f0, f1, -, -⟩ := cells2 hF.out
  refine bodyPost_ret (v := .agg #[_, _]) (by simp [results, Tryz.results149, go_sem, f0, f1]; first | exact ⟨rfl, rfl⟩ | rfl) rfl ?_
  exact HF.out
end Go.Proofs.YtgodkfgnhpnhcaaGreatDoor
namespace Go.Proofs.YtgodkfgnhpnhcaaGreatDoor
open Go.RowKit
theorem tr_len_bits (xs : List Nat) (hx : OkL xs) (ht : Tr xs) : 64 * xs.length ≤ bits (val xs) + 63 := by
  by_cases h : xs = []
  · subst h; simp
  · have h1 := bits_val_tr xs hx ht h
    have h2 := ht h
    have h3 : 1 ≤ bits (xs.getLast h) := by
      have : bits (xs.getLast h) ≠ 0 := fun h' => h2 ((bits_eq_zero _).1 h')
      omega
    have h4 : 0 < xs.length := List.length_pos_iff.2 h
    omega
theorem pro1 (w : World) (o1 : Obj) : ∃ w1, w.alloc o1 = w1 ∧ Below w.heap.size w w1 ∧ w1.heap.size = w.heap.size + 1 ∧ w1.heap[w.heap.size]? = some o1 :=
  ⟨_, rfl, below_alloc w o1, by simp, heap_alloc_new w o1⟩
theorem pro2 (w : World) (o1 o2 : Obj) : ∃ w2, (w.alloc o1).alloc o2 = w2 ∧ Below w.heap.size w w2 ∧ w2.heap.size = w.heap.size + 2 ∧ w2.heap[w.heap.size]? = some o1 ∧ w2.heap[w.heap.size + 1]? = some o2 := by
  refine ⟨_, rfl, (below_alloc w o1).alloc (by simp) _, by simp, ?_, ?_⟩
  · exact heap_below (heap_alloc_new w o1) (below_alloc (w.alloc o1) o2) (by simp)
  · have := heap_alloc_new (w.alloc o1) o2; simpa using this
theorem pro3 (w : World) (o1 o2 o3 : Obj) : ∃ w3, ((w.alloc o1).alloc o2).alloc o3 = w3 ∧ Below w.heap.size w w3 ∧ w3.heap.size = w.heap.size + 3 ∧ w3.heap[w.heap.size]? = some o1 ∧ w3.heap[w.heap.size + 1]? = some o2 ∧ w3.heap[w.heap.size + 2]? = some o3 := by
  obtain ⟨w2, rfl, hb, hs, h1, h2⟩ := pro2 w o1 o2
  refine ⟨_, rfl, hb.alloc (by omega) _, by simp, ?_, ?_, ?_⟩
  · exact heap_below h1 (below_alloc _ o3) (by omega)
  · exact heap_below h2 (below_alloc _ o3) (by omega)
  · have := heap_alloc_new ((w.alloc o1).alloc o2) o3; simpa using this
theorem sg_add (b : Bool) (m n : Nat) : sg b (m + n) = sg b m + sg b n := by cases b <;> simp [sg] <;> omega
theorem sg_sub {b c : Bool} {m n : Nat} (hbc : ¬ b = c) (h : m ≤ n) : sg c (n - m) = sg b m + sg c n := by cases b <;> cases c <;> simp_all [sg] <;> omega
theorem cell_below {w w' : World} {B : Nat} {a : Addr} {v : Value} (h : w.cell? a = some v) (hb : Below B w w') (hB : w.heap.size ≤ B) : w'.cell? a = some v := by
  rw [hb.cell (Nat.lt_of_lt_of_le (World.block_lt_of_cell? w a h) hB)]; exact h
set_option maxHeartbeats 3200000 in
set_option maxRecDepth 100000 in
theorem plus_any {p q : Nat → Prop} {va vb : Value} {x y : Int} {w : World} (hx : IntP p w va x) (hy : IntP q w vb y) (hL : bits x.natAbs + bits y.natAbs ≤ 1073741824) :
    Calls Tryz.prog 265 #[va, vb] w (RetZ w.heap.size w (x + y)) := by
  obtain ⟨vm, xs, rfl, h1, h2, h3⟩ := hx
  obtain ⟨vn, ys, rfl, k1, k2, k3⟩ := hy
  obtain ⟨A, c, rfl, -⟩ := id h1
  obtain ⟨A', c', rfl, -⟩ := id k1
  obtain ⟨w3, hw3, hb3, hs3, b1, b2, b3⟩ := pro3 w (.cells #[Value.bool (decide (x < 0)), .slice A xs.length c] 170) (.cells #[Value.bool (decide (y < 0)), .slice A' ys.length c'] 170) (.cells #[Value.bool false, Value.slice none 0 0] 170)
  have HB := Lib.hid hb3
  have H1 := Lib.hid (h1.below hb3); have K1 := Lib.hid (k1.below hb3)
  have hlen : xs.length + ys.length < 16777218 := by
    have e1 := tr_len_bits xs h1.ok h2; have e2 := tr_len_bits ys k1.ok k2
    rw [h3] at e1; rw [k3] at e2; omega
  have HS := Lib.hid hs3; have B1 := Lib.hid b1; have B2 := Lib.hid b2; have B3 := Lib.hid b3; have H3 := Lib.hid h3; have K3 := Lib.hid k3; have H2 := Lib.hid h2; have K2 := Lib.hid k2
  obtain ⟨c0, c1, -, -⟩ := cells2 b1
  obtain ⟨d0, d1, -, -⟩ := cells2 b2
  obtain ⟨e0, e1, e2, e3⟩ := cells2 b3
  clear h1 k1 h2 k2 h3 k3 hb3 b1 b2 b3 hs3 hL
  by_cases hs : decide (x < 0) = decide (y < 0)
  · have X0 := Lib.hid (sg_of x); have Y0 := Lib.hid (sg_of y)
    generalize decide (x < 0) = ba at *
    generalize decide (y < 0) = bb at *
    subst hs
    go_enter Tryz.func265, Tryz.ntmps265
    go_wp2_with fail
    have HBA : Hid (Below w3.heap.size w3 (w3.alloc (.cells #[.slice A xs.length c, .slice A' ys.length c'] 168)).drew) := Lib.hid ((Below.refl _ _).alloc (Nat.le_refl _) _).drew
    have HBA2 : Hid ((w3.alloc (.cells #[.slice A xs.length c, .slice A' ys.length c'] 168)).drew.heap[w3.heap.size]? = some (.cells #[.slice A xs.length c, .slice A' ys.length c'] 168 (0, 0))) := Lib.hid (heap_alloc_new w3 _)
    have HADD := Lib.hid (add2_any (cells2 HBA2.out).1 (cells2 HBA2.out).2.1 (H1.out.below HBA.out) (K1.out.below HBA.out) (by omega) (Nat.le_refl 2))
    have n1 : w.heap.size + 1 + 1 ≠ w.heap.size := by omega
    go_region_held3 (fun w' => w'.cell? ⟨w.heap.size, 0, none⟩ = some (.bool ba) ∧ w'.cell? ⟨w.heap.size, 1, none⟩ = some (.slice A xs.length c) ∧ w'.cell? ⟨w.heap.size + 1, 1, none⟩ = some (.slice A' ys.length c')) (go_keep)
      (first
      | (go_at_call 256
         refine HADD.out.mono ?_
         rintro e w4 ⟨hb, v4, zs, rfl, hz, tz, hvz⟩
         have HB4 := Lib.hid (HBA.out.trans (hb.mono HBA.out.size))
         have g0 := cell_below c0 HB4.out (Nat.le_refl _)
         have g1 := cell_below c1 HB4.out (Nat.le_refl _)
         have g2 := cell_below d1 HB4.out (Nat.le_refl _)
         have HS4 := Lib.hid HB4.out.size; have HZ := Lib.hid hz; have HVZ := Lib.hid hvz
         clear hb hz tz hvz)
      | (go_at_call 180
         refine (make_any HZ.out).mono ?_
         rintro e w5 ⟨hb, v5, hz⟩
         obtain ⟨rfl, hz⟩ := hz
         obtain ⟨b5, A5, n5, c5, rfl⟩ := hz.shape
         have g0' := cell_below g0 hb (Nat.le_refl _)
         have g1' := cell_below g1 hb (Nat.le_refl _)
         have g2' := cell_below g2 hb (Nat.le_refl _)
         replace HB4 := Lib.hid (HB4.out.trans (hb.mono HB4.out.size))
         have HF := Lib.hid hz
         have f0' := cell_below e0 HB4.out (Nat.le_refl _)
         have f1' := cell_below e1 HB4.out (Nat.le_refl _)
         have B35 := Lib.hid (heap_below B3.out HB4.out (by have := HS.out; omega))
         obtain ⟨-, -, f2', f3'⟩ := cells2 B35.out
         clear hb hz))
    clear n1
    have hfin : sg ba (val zs) = x + y := by rw [HVZ.out, H3.out, K3.out, sg_add, X0.out, Y0.out]
    have hF := HF.out
    rw [hfin] at hF
    obtain ⟨HFF, hFF⟩ := retz_store (HB.out.trans (HB4.out.mono HB.out.size)) (g := w.heap.size + 2) (by omega) B35.out hF (fun b hb => by have := HS.out; have := HS4.out; omega)
    replace hFF := Lib.hid hFF
    clear hF
    go_wp2
    obtain ⟨f0, f1, -, -⟩ := cells2 hFF.out
    refine bodyPost_ret (v := .agg #[_, _]) (by simp [results, Tryz.results265, go_sem, f0, f1]; first | exact ⟨rfl, rfl⟩ | rfl) rfl ?_
    exact HFF.out
  · have X0 := Lib.hid (sg_of x); have Y0 := Lib.hid (sg_of y)
    generalize decide (x < 0) = ba at *
    generalize decide (y < 0) = bb at *
    have hsb : (ba == bb) = false := beq_eq_false_iff_ne.2 hs
    have HN := Lib.hid hs
    clear hs
    rcases Nat.lt_or_ge (val xs) (val ys) with hlt | hge
    · have HLT := Lib.hid hlt; clear hlt
      go_enter Tryz.func265, Tryz.ntmps265
      go_wp2_with fail
      refine (subX_lt H1.out K1.out HLT.out).mono ?_
      rintro e w4 ⟨rfl, k, rfl⟩
      have hb := below_drewN w3 k
      replace c0 := cell_below c0 hb (Nat.le_refl _); replace c1 := cell_below c1 hb (Nat.le_refl _); replace d0 := cell_below d0 hb (Nat.le_refl _); replace d1 := cell_below d1 hb (Nat.le_refl _)
      replace H1 := Lib.hid (H1.out.below hb); replace K1 := Lib.hid (K1.out.below hb)
      replace B3 := Lib.hid (heap_below B3.out hb (by have := HS.out; omega))
      replace HB := Lib.hid (HB.out.trans (hb.mono HB.out.size))
      replace HS : Hid ((w3.drewN k).heap.size = w.heap.size + 3) := Lib.hid (by rw [← HS.out]; simp)
      clear e0 e1 e2 e3 hw3 hb
      generalize w3.drewN k = w4 at *
      go_wp2_with fail
      refine (subX_ge K1.out H1.out (Nat.le_of_lt HLT.out)).mono ?_
      rintro e w5 ⟨hb, v5, zs, rfl, hz, tz, hvz⟩
      replace d0 := cell_below d0 hb (Nat.le_refl _)
      replace B3 := Lib.hid (heap_below B3.out hb (by have := HS.out; omega))
      replace HB := Lib.hid (HB.out.trans (hb.mono HB.out.size))
      have HZ := Lib.hid hz; have HVZ := Lib.hid hvz; have HS5 := Lib.hid hb.size
      clear c0 c1 d1 hz hvz tz hb
      go_wp2_with fail
      refine (make_any HZ.out).mono ?_
      rintro e w6 ⟨hb, v6, rfl, h⟩
      replace B3 := Lib.hid (heap_below B3.out hb (by have := HS.out; have := HS5.out; omega))
      replace HB := Lib.hid (HB.out.trans (hb.mono HB.out.size))
      have hfin : sg bb (val zs) = x + y := by rw [HVZ.out, H3.out, K3.out, ← X0.out, ← Y0.out, sg_natAbs, sg_natAbs]; exact sg_sub HN.out (by have := HLT.out; rw [H3.out, K3.out] at this; omega)
      rw [hfin] at h
      obtain ⟨b', A2, n', c', rfl⟩ := h.shape
      obtain ⟨HFF, hFF⟩ := retz_store HB.out (g := w.heap.size + 2) (by omega) B3.out h (fun b hb => by have := HS.out; have := HS5.out; omega)
      obtain ⟨e0, e1, e2, e3⟩ := cells2 B3.out
      replace hFF := Lib.hid hFF
      clear h hb
      go_wp2
      obtain ⟨f0, f1, -, -⟩ := cells2 hFF.out
      refine bodyPost_ret (v := .agg #[_, _]) (by simp [results, Tryz.results265, go_sem, f0, f1]; first | exact ⟨rfl, rfl⟩ | rfl) rfl ?_
      exact HFF.out
    · have HGE := Lib.hid hge; clear hge
      go_enter Tryz.func265, Tryz.ntmps265
      go_wp2_with fail
      refine (subX_ge H1.out K1.out HGE.out).mono ?_
      rintro e w4 ⟨hb, v5, zs, rfl, hz, tz, hvz⟩
      replace c0 := cell_below c0 hb (Nat.le_refl _)
      replace B3 := Lib.hid (heap_below B3.out hb (by have := HS.out; omega))
      replace HB := Lib.hid (HB.out.trans (hb.mono HB.out.size))
      have HZ := Lib.hid hz; have HVZ := Lib.hid hvz; have HS5 := Lib.hid hb.size
      clear c1 d0 d1 hz hvz tz hb hw3 e0 e1 e2 e3
      go_wp2_with fail
      refine (make_any HZ.out).mono ?_
      rintro e w6 ⟨hb, v6, rfl, h⟩
      replace B3 := Lib.hid (heap_below B3.out hb (by have := HS.out; have := HS5.out; omega))
      replace HB := Lib.hid (HB.out.trans (hb.mono HB.out.size))
      have hfin : sg ba (val zs) = x + y := by rw [HVZ.out, H3.out, K3.out, Int.add_comm, ← X0.out, ← Y0.out, sg_natAbs, sg_natAbs]; exact sg_sub (fun h => HN.out h.symm) (by have := HGE.out; rw [H3.out, K3.out] at this; omega)
      rw [hfin] at h
      obtain ⟨b', A2, n', c', rfl⟩ := h.shape
      obtain ⟨HFF, hFF⟩ := retz_store HB.out (g := w.heap.size + 2) (by omega) B3.out h (fun b hb => by have := HS.out; have := HS5.out; omega)
      obtain ⟨e0, e1, e2, e3⟩ := cells2 B3.out
      replace hFF := Lib.hid hFF
      clear h hb
      go_wp2
      obtain ⟨f0, f1, -, -⟩ := cells2 hFF.out
      refine bodyPost_ret (v := .agg #[_, _]) (by simp [results, Tryz.results265, go_sem, f0, f1]; first | exact ⟨rfl, rfl⟩ | rfl) rfl ?_
      exact HFF.out
end Go.Proofs.YtgodkfgnhpnhcaaGreatDoor
namespace Go.Proofs.YtgodkfgnhpnhcaaGreatDoor
open Go.RowKit
set_option maxHeartbeats 3200000 in
set_option maxRecDepth 100000 in
theorem addI_any {p q : Nat → Prop} {va : Value} {x y : Int} {w : World} {g n c : Nat} {b : Bool} {T : TypeId} {A : Option Addr} (hx : IntP p w va x) (hg : w.heap[g]? = some (.cells #[.bool b, .slice A n c] T (0, 0))) (hy : IntP q w (.agg #[.bool b, .slice A n c]) y)
    (hL : bits x.natAbs + bits y.natAbs ≤ 1073741824) :
    Calls Tryz.prog 253 #[va, .slice (some ⟨g, 0, none⟩) 1 1] w (RetZ w.heap.size w (x + y)) := by
  obtain ⟨vm, xs, rfl, h1, h2, h3⟩ := hx
  obtain ⟨A0, c0', rfl, -⟩ := id h1
  obtain ⟨w2, hw2, hb2, hs2, b1, b2⟩ := pro2 w (.cells #[Value.bool (decide (x < 0)), .slice A0 xs.length c0'] 170) (.cells #[Value.bool false, Value.slice none 0 0] 170)
  have X0 := Lib.hid (sg_of x); rw [← h3] at X0
  have HB := Lib.hid hb2; have H1 := Lib.hid (h1.below hb2)
  have HS := Lib.hid hs2; have B2 := Lib.hid b2
  have HG := Lib.hid hg; have HY := Lib.hid hy
  obtain ⟨c0, c1, -, -⟩ := cells2 b1
  generalize decide (x < 0) = ba at *
  clear h1 h2 h3 hb2 b1 b2 hs2 hg hy
  go_enter Tryz.func253, Tryz.ntmps253
  go_wp2_with fail
  refine (make_any H1.out).mono ?_
  rintro e w3 ⟨hb, v, rfl, h⟩
  rw [X0.out] at h
  obtain ⟨b', A1, n1, c1', rfl⟩ := h.shape
  replace B2 := Lib.hid (heap_below B2.out hb (by have := HS.out; omega))
  have HS3 := Lib.hid (Nat.le_trans (Nat.le_of_eq HS.out.symm) hb.size)
  replace HB := Lib.hid (HB.out.trans (hb.mono HB.out.size))
  have HX := Lib.hid h
  clear h hb hw2 c0 c1
  go_wp2_with fail
  go_loopw [15] (fun i wr => ∃ k : Nat, k ≤ 1 ∧ i = .int .i64 k ∧ Hid (Below w.heap.size w wr) ∧ Hid (∃ bs As ns cs, wr.heap[w3.heap.size]? = some (.cells #[.bool bs, .slice As ns cs] 170 (0, 0)) ∧ IntP (fun b => w.heap.size ≤ b ∧ b ≠ w3.heap.size ∧ b ≠ w.heap.size + 1) wr (.agg #[.bool bs, .slice As ns cs]) (if k = 0 then x else x + y)) ∧
     Hid (wr.heap[w.heap.size + 1]? = some (.cells #[Value.bool false, Value.slice none 0 0] 170 (0, 0)))) (fun i _ => 1 - (intOf i).toNat)
  case atStart =>
    have hs := HS.out; have hs3 := HS3.out
    refine ⟨0, by omega, rfl, Lib.hid (HB.out.alloc (by omega) _), Lib.hid ⟨_, _, _, _, heap_alloc_new w3 _, ?_⟩, Lib.hid (heap_below B2.out (below_alloc w3 _) (heap_lt B2.out))⟩
    exact (HX.out.weak fun b h1 h2 => by omega).below (below_alloc w3 _)
  case round =>
    clear HB HX B2
    obtain ⟨k, hk, rfl, HB, HR, B2⟩ := hrel
    obtain ⟨bs, As, ns, cs, hR, hX⟩ := HR.out
    have HR0 := Lib.hid hR; have HX := Lib.hid hX
    obtain ⟨r0, r1, r2, r3⟩ := cells2 hR
    clear hR hX
    have hkk : k = 0 ∨ k = 1 := by omega
    rcases hkk with rfl | rfl
    · obtain ⟨y0, y1, -, -⟩ := cells2 (heap_below HG.out HB.out (heap_lt HG.out))
      obtain ⟨w4, hw4, hba, hs4, q4⟩ := pro1 wr (.cells #[Value.bool b, .slice A n c] 170)
      obtain ⟨q0, q1, -, -⟩ := cells2 (heap_below HR0.out hba (heap_lt HR0.out))
      obtain ⟨q2, q3, -, -⟩ := cells2 q4
      go_wp2_with fail
      refine (plus_any (HX.out.below hba) ((HY.out.below HB.out).below hba) hL).mono ?_
      rintro e w5 ⟨hb, v5, rfl, h⟩
      obtain ⟨b5, A5, n5, c5, rfl⟩ := h.shape
      have hbb := hba.trans (hb.mono hba.size)
      have R5 := heap_below HR0.out hbb (heap_lt HR0.out)
      have HR5 := Lib.hid R5
      obtain ⟨r0, r1, r2, r3⟩ := cells2 R5
      have hs := HS.out; have hs3 := HS3.out
      have hrs := heap_lt HR0.out
      have hsz := HB.out.size
      have B25 := heap_below B2.out hbb (heap_lt B2.out)
      have HB2 := Lib.hid (((HB.out.trans (hbb.mono HB.out.size)).setCell (p := ⟨w3.heap.size, 0, none⟩) (by simp; omega) (.bool b5)).setCell (p := ⟨w3.heap.size, 1, none⟩) (by simp; omega) (.slice A5 n5 c5))
      have HR2 : Hid (∃ bs As ns cs, ((w5.setCell ⟨w3.heap.size, 0, none⟩ (.bool b5)).setCell ⟨w3.heap.size, 1, none⟩ (.slice A5 n5 c5)).heap[w3.heap.size]? = some (.cells #[.bool bs, .slice As ns cs] 170 (0, 0)) ∧ IntP (fun b => w.heap.size ≤ b ∧ b ≠ w3.heap.size ∧ b ≠ w.heap.size + 1) ((w5.setCell ⟨w3.heap.size, 0, none⟩ (.bool b5)).setCell ⟨w3.heap.size, 1, none⟩ (.slice A5 n5 c5)) (.agg #[.bool bs, .slice As ns cs]) (if 1 = 0 then x else x + y)) := by
        refine Lib.hid ⟨_, _, _, _, set2 R5 _ _, ?_⟩
        have h' := h.weak (q := fun b => w.heap.size ≤ b ∧ b ≠ w3.heap.size ∧ b ≠ w.heap.size + 1) fun b h1 h2 => by have := hba.size; omega
        exact (h'.setCell (fun b hb => hb.2.1) _).setCell (fun b hb => hb.2.1) _
      have HB22 : Hid (((w5.setCell ⟨w3.heap.size, 0, none⟩ (.bool b5)).setCell ⟨w3.heap.size, 1, none⟩ (.slice A5 n5 c5)).heap[w.heap.size + 1]? = some (.cells #[Value.bool false, Value.slice none 0 0] 170 (0, 0))) := by
        refine Lib.hid ?_
        rw [Below.heap_setCell _ _ _ _ (by simp; omega), Below.heap_setCell _ _ _ _ (by simp; omega)]; exact B25
      clear h hb hbb hba R5 B25 hs hs3 hrs hsz y0 y1 q0 q1 q2 q3 q4 hw4 hs4
      go_wp2
      go_roundw
      case rel => exact ⟨1, by omega, by go_num, HB2, HR2, HB22⟩
      case measure => simp [intOf]
    · obtain ⟨e0, e1, e2, e3⟩ := cells2 B2.out
      have hs := HS.out; have hs3 := HS3.out
      obtain ⟨HFF, hFF⟩ := retz_store HB.out (g := w.heap.size + 1) (by omega) B2.out HX.out (fun b hb => by omega)
      replace hFF := Lib.hid hFF
      replace HFF : Hid (RetZ w.heap.size w (x + y) (.returned (.agg #[.bool bs, .slice As ns cs])) ((wr.setCell ⟨w.heap.size + 1, 0, none⟩ (.bool bs)).setCell ⟨w.heap.size + 1, 1, none⟩ (.slice As ns cs))) := HFF
      clear hs hs3
      go_wp2
      obtain ⟨f0, f1, -, -⟩ := cells2 hFF.out
      refine bodyPost_ret (v := .agg #[_, _]) (by simp [results, Tryz.results253, go_sem, f0, f1]; first | exact ⟨rfl, rfl⟩ | rfl) rfl ?_
      exact HFF.out
end Go.Proofs.YtgodkfgnhpnhcaaGreatDoor
namespace Go.Proofs.YtgodkfgnhpnhcaaGreatDoor
open Go.RowKit
section
variable {P : Program} {ops : Array Oper} {Q : Exit → Act → World → Prop} {md : Region.Mode} {S : World → Prop} {z : Nat}
/-- whatever order is picked from here on, S holding behind every operation but the last one, z -/
def anyG (P : Program) (md : Region.Mode) (ops : Array Oper) (Q : Exit → Act → World → Prop) (S : World → Prop) (z : Nat) : Nat → Array Bool → Act → World → Prop
  | 0, listed, a, w => Region.ready md ops listed = [] ∧ Q .normal a w
  | fuel + 1, listed, a, w => (Region.ready md ops listed = [] → Q .normal a w) ∧
    ∀ i ∈ Region.ready md ops listed, wpOp P ops Q i (fun a' w' => (i ≠ z → S w') ∧ anyG P md ops Q S z fuel (listed.setIfInBounds i true) a' w') a w
theorem any_of_G : ∀ (fuel : Nat) (listed : Array Bool) (a : Act) (w : World), anyG P md ops Q S z fuel listed a w → wpAny P md ops Q fuel listed a w
  | 0, _, _, _, h => h
  | fuel + 1, _, _, _, h => ⟨h.1, fun i hi => wpOp_mono (fun a' w' h' => any_of_G fuel _ a' w' h'.2) (h.2 i hi)⟩
theorem anyG_first {i : Nat} {oi : Oper} {v : Value} (hi : ops[i]? = some oi) (hiz : Region.waitsFor md ops z i = true) (hsel : ∀ (j : Nat) (o : Oper) cs b, ops[j]? = some o → o.op ≠ .select cs b)
    (hQ : ∀ c a w, Q (.panic c) (a.put oi.dst v) w → Q (.panic c) a w) (fuel : Nat) :
    ∀ (listed : Array Bool) (a : Act) (w : World),
      (∀ j oj, ops[j]? = some oj → j ≠ i → listed.getD j true = false → (∀ e ∈ oj.after, Region.binds md e = true → e.on ≠ i) → oi.apart ops oj = true) →
      i ∈ Region.ready md ops listed → YieldsIf P ops S oi v a → S w →
      anyG P md ops Q S z fuel (listed.setIfInBounds i true) (a.put oi.dst v) w → anyG P md ops Q S z (fuel + 1) listed a w := by
  induction fuel with
  | zero =>
    intro listed a w _ hr hy hS H
    refine ⟨fun h => (by rw [h] at hr; cases hr), fun j hj => ?_⟩
    rcases Decidable.em (j = i) with rfl | hji
    · exact hy.wpOp hi hS ⟨fun _ => hS, H⟩
    · have h0 := ready_mono hj hji
      rw [H.1] at h0; cases h0
  | succ fuel ih =>
    intro listed a w hfree hr hy hS H
    refine ⟨fun h => (by rw [h] at hr; cases hr), fun j hj => ?_⟩
    rcases Decidable.em (j = i) with rfl | hji
    · exact hy.wpOp hi hS ⟨fun _ => hS, H⟩
    obtain ⟨hjun, oj, hoj, hall⟩ := mem_ready.1 hj
    have hun : listed.getD i true = false := (mem_ready.1 hr).1
    have hnot : ∀ e ∈ oj.after, Region.binds md e = true → e.on ≠ i := by
      intro e he hb heq
      have hl := hall e he hb
      rw [heq] at hl
      rcases Nat.lt_or_ge i listed.size with h | h
      · simp [h] at hun hl; rw [hun] at hl; cases hl
      · simp [Array.getElem?_eq_none h] at hl
    have hjz : j ≠ z := by
      rintro rfl
      obtain ⟨oz, hoz, e, he, hb, hon⟩ := Region.waitsFor_spec hiz
      rw [hoj] at hoz
      cases hoz
      exact hnot e he hb hon
    have step := wpOp_putIf hoj (hfree j oj hoj hji hjun hnot) (fun cs b => hsel i oi cs b hi) (fun cs b => hsel j oj cs b hoj) hQ hy (H.2 j (ready_mono hj hji))
    refine wpOp_mono (fun a' w' hh => ⟨fun _ => hh.2.1 hjz, ih (listed.setIfInBounds j true) a' w' ?_ (ready_mono hr (Ne.symm hji)) hh.1 (hh.2.1 hjz) ?_⟩) step
    · intro k ok hk hki hku hno
      refine hfree k ok hk hki ?_ hno
      rcases Decidable.em (j = k) with rfl | hjk
      · exact hjun
      · rwa [getD_set_ne true hjk] at hku
    · rw [Array.setIfInBounds_comm _ _ hji]; exact hh.2.2
/-- take number i first -/
theorem anyG_take (i : Nat) {oi : Oper} (v : Value) {fuel : Nat} {listed : Array Bool} {a : Act} {w : World} (hi : ops[i]? = some oi) (hiz : Region.waitsFor md ops z i = true)
    (hs : Region.noSelect ops = true) (hf : Region.free md ops listed i = true) (hr : (Region.ready md ops listed).contains i = true)
    (hQ : ∀ c a w, Q (.panic c) (a.put oi.dst v) w → Q (.panic c) a w) (hw : Region.wanted oi (yielded ops a.tmps) = true) (hy : ∀ w, S w → (execOp a.eval oi).run P w = .ok (.value v) w) (hS : S w)
    (h : anyG P md ops Q S z fuel (listed.setIfInBounds i true) (a.put oi.dst v) w) : anyG P md ops Q S z (fuel + 1) listed a w :=
  anyG_first hi hiz (Region.noSelect_spec hs) hQ fuel listed a w (Region.free_spec hi hf) (by simpa using hr) (Or.inl ⟨hw, hy⟩) hS h
/-- one operation may come up, i: it is carried out -/
theorem anyG_one (i : Nat) {o : Oper} {fuel : Nat} {listed : Array Bool} {a : Act} {w : World} (hr : Region.ready md ops listed = [i]) (ho : ops[i]? = some o)
    (h : ∀ K' : Act → World → Prop, Shut (∀ a w, (i ≠ z → S w) → anyG P md ops Q S z fuel (listed.setIfInBounds i true) a w → K' a w) → if Region.wanted o (yielded ops a.tmps) = true then Oper.wp P o a w K' Q else K' (a.put o.dst undef) w) :
    anyG P md ops Q S z (fuel + 1) listed a w :=
  ⟨fun h0 => (by rw [hr] at h0; cases h0), fun j hj => by
    rw [hr] at hj
    obtain rfl : j = i := by simpa using hj
    exact wpOp_step ho (fun K' hK => h K' (fun a w h1 h2 => hK a w ⟨h1, h2⟩))⟩
theorem anyG_done {fuel : Nat} {listed : Array Bool} {a : Act} {w : World} (hr : Region.ready md ops listed = []) (h : Q .normal a w) : anyG P md ops Q S z fuel listed a w := by
  cases fuel
  · exact ⟨hr, h⟩
  · exact ⟨fun _ => h, by rw [hr]; simp⟩
theorem anyG_begin (S : World → Prop) (z : Nat) {id : Nat} {a : Act} {w : World} (hm : P.follows .mixedOrders = true)
    (h : anyG P .any ops Q S z ops.size (Array.replicate ops.size false) a w.drew) : (Code.region id ops true).wp P Q a w :=
  wp_region_any hm (any_of_G _ _ _ _ h)
end
end Go.Proofs.YtgodkfgnhpnhcaaGreatDoor
namespace Go.Proofs.YtgodkfgnhpnhcaaGreatDoor
open Go.RowKit
theorem IntP.get {p : Nat → Prop} {w : World} {b : Bool} {v : Value} {z : Int} (h : IntP p w (.agg #[.bool b, v]) z) : ∃ xs, NatP p w v xs ∧ Tr xs ∧ val xs = z.natAbs ∧ b = decide (z < 0) := by
  obtain ⟨vm, xs, e, h1, h2, h3⟩ := h
  injection e with e
  have e1 : Value.bool b = .bool (decide (z < 0)) := congrArg (fun a : Array Value => a.getD 0 undef) e
  have e2 : v = vm := congrArg (fun a : Array Value => a.getD 1 undef) e
  subst e2
  injection e1 with e1
  exact ⟨xs, h1, h2, h3, e1⟩
theorem sg_mul (b c : Bool) (m n : Nat) : sg (b != c) (m * n) = sg b m * sg c n := by cases b <;> cases c <;> simp [sg, Int.neg_mul, Int.mul_neg]
theorem sg_mul_of (x y : Int) : sg (decide (x < 0) != decide (y < 0)) (x.natAbs * y.natAbs) = x * y := by rw [sg_mul, sg_of, sg_of]
set_option maxHeartbeats 6400000 in
set_option maxRecDepth 100000 in
theorem mulI_any {p q : Nat → Prop} {va : Value} {x y : Int} {w : World} {g n c : Nat} {b : Bool} {T : TypeId} {A : Option Addr} (hx : IntP p w va x) (hg : w.heap[g]? = some (.cells #[.bool b, .slice A n c] T (0, 0))) (hy : IntP q w (.agg #[.bool b, .slice A n c]) y)
    (hL : bits x.natAbs + bits y.natAbs ≤ 1073741824) :
    Calls Tryz.prog 257 #[va, .slice (some ⟨g, 0, none⟩) 1 1] w (RetZ w.heap.size w (x * y)) := by
  obtain ⟨vm, xs, rfl, h1, h2, h3⟩ := hx
  obtain ⟨A0, c0', rfl, -⟩ := id h1
  obtain ⟨w2, hw2, hb2, hs2, b1, b2⟩ := pro2 w (.cells #[Value.bool (decide (x < 0)), .slice A0 xs.length c0'] 170) (.cells #[Value.bool false, Value.slice none 0 0] 170)
  have X0 := Lib.hid (sg_of x); rw [← h3] at X0
  have HB := Lib.hid hb2; have H1 := Lib.hid (h1.below hb2)
  have HS := Lib.hid hs2; have B2 := Lib.hid b2
  have HG := Lib.hid hg; have HY := Lib.hid hy
  obtain ⟨c0, c1, -, -⟩ := cells2 b1
  generalize decide (x < 0) = ba at *
  clear h1 h2 h3 hb2 b1 b2 hs2 hg hy
  go_enter Tryz.func257, Tryz.ntmps257
  go_wp2_with fail
  refine (make_any H1.out).mono ?_
  rintro e w3 ⟨hb, v, rfl, h⟩
  rw [X0.out] at h
  obtain ⟨b', A1, n1, c1', rfl⟩ := h.shape
  replace B2 := Lib.hid (heap_below B2.out hb (by have := HS.out; omega))
  have HS3 := Lib.hid (Nat.le_trans (Nat.le_of_eq HS.out.symm) hb.size)
  replace HB := Lib.hid (HB.out.trans (hb.mono HB.out.size))
  have HX := Lib.hid h
  clear h hb hw2 c0 c1
  go_wp2_with fail
  go_loopw [15] (fun i wr => ∃ k : Nat, k ≤ 1 ∧ i = .int .i64 k ∧ Hid (Below w.heap.size w wr) ∧ Hid (∃ bs As ns cs, wr.heap[w3.heap.size]? = some (.cells #[.bool bs, .slice As ns cs] 170 (0, 0)) ∧ IntP (fun b => w.heap.size ≤ b ∧ b ≠ w3.heap.size ∧ b ≠ w.heap.size + 1) wr (.agg #[.bool bs, .slice As ns cs]) (if k = 0 then x else x * y)) ∧
     Hid (wr.heap[w.heap.size + 1]? = some (.cells #[Value.bool false, Value.slice none 0 0] 170 (0, 0)))) (fun i _ => 1 - (intOf i).toNat)
  case atStart =>
    have hs := HS.out; have hs3 := HS3.out
    refine ⟨0, by omega, rfl, Lib.hid (HB.out.alloc (by omega) _), Lib.hid ⟨_, _, _, _, heap_alloc_new w3 _, ?_⟩, Lib.hid (heap_below B2.out (below_alloc w3 _) (heap_lt B2.out))⟩
    exact (HX.out.weak fun b h1 h2 => by omega).below (below_alloc w3 _)
  case round =>
    clear HB HX B2
    obtain ⟨k, hk, rfl, HB, HR, B2⟩ := hrel
    obtain ⟨bs, As, ns, cs, hR, hX⟩ := HR.out
    have HR0 := Lib.hid hR; have HX := Lib.hid hX
    obtain ⟨r0, r1, r2, r3⟩ := cells2 hR
    clear hR hX
    have hkk : k = 0 ∨ k = 1 := by omega
    rcases hkk with rfl | rfl
    · obtain ⟨y0, y1, -, -⟩ := cells2 (heap_below HG.out HB.out (heap_lt HG.out))
      obtain ⟨w4, hw4, hba, hs4, q4⟩ := pro1 wr (.cells #[Value.bool b, .slice A n c] 170)
      obtain ⟨q0, q1, -, -⟩ := cells2 (heap_below HR0.out hba (heap_lt HR0.out))
      obtain ⟨q2, q3, -, -⟩ := cells2 q4
      go_wp2_with fail
      obtain ⟨xs', hx1, hx2, hx3, hx4⟩ := HX.out.get
      replace hx3 : val xs' = x.natAbs := hx3
      replace hx4 : bs = decide (x < 0) := hx4
      obtain ⟨ys', hy1, hy2, hy3, hy4⟩ := HY.out.get
      have hlen : xs'.length + ys'.length ≤ 549755813888 := by
        have e1 := tr_len_bits xs' hx1.ok hx2; have e2 := tr_len_bits ys' hy1.ok hy2
        rw [hx3] at e1; rw [hy3] at e2; omega
      have HMUL := Lib.hid (mulX_any (cut := 40) (by omega) (by omega) ((hx1.below hba).below (Below.refl _ _).drew) (((hy1.below HB.out).below hba).below (Below.refl _ _).drew) hlen)
      have HP := Lib.hid (sg_mul_of x y)
      rw [← hx3, ← hy3, ← hx4, ← hy4] at HP
      have HR4 := Lib.hid (heap_below HR0.out hba (heap_lt HR0.out))
      clear hx1 hx2 hx3 hx4 hy1 hy2 hy3 hy4 hlen
      refine wp_region_noPanic ?_
      refine anyG_begin (fun w' => w'.cell? ⟨w3.heap.size, 0, none⟩ = some (.bool bs) ∧ w'.cell? ⟨w3.heap.size, 1, none⟩ = some (.slice As ns cs) ∧ w'.cell? ⟨wr.heap.size, 0, none⟩ = some (.bool b) ∧ w'.cell? ⟨wr.heap.size, 1, none⟩ = some (.slice A n c)) 11 (by kernel_rfl) ?_
      have hSd : (fun w' : World => w'.cell? ⟨w3.heap.size, 0, none⟩ = some (.bool bs) ∧ w'.cell? ⟨w3.heap.size, 1, none⟩ = some (.slice As ns cs) ∧ w'.cell? ⟨wr.heap.size, 0, none⟩ = some (.bool b) ∧ w'.cell? ⟨wr.heap.size, 1, none⟩ = some (.slice A n c)) w4.drew := ⟨q0, q1, q2, q3⟩
      refine anyG_take 0 (.pointer (some ⟨w3.heap.size, 0, none⟩)) rfl (by kernel_rfl) (by kernel_rfl) (by kernel_rfl) (by kernel_rfl) (fun _ _ _ h => h) (by rfl) ?_ (by assumption) ?_
      · intro w' hSw; (try dsimp only at hSw); go_split_ands; go_simp; all_goals first | rfl | (cases bs <;> cases b <;> rfl)
      simp only [Act.put, List.setIfInBounds_toArray, List.set_cons_zero, List.set_cons_succ]
      refine anyG_take 1 (.bool bs) rfl (by kernel_rfl) (by kernel_rfl) (by kernel_rfl) (by kernel_rfl) (fun _ _ _ h => h) (by rfl) ?_ (by assumption) ?_
      · intro w' hSw; (try dsimp only at hSw); go_split_ands; go_simp; all_goals first | rfl | (cases bs <;> cases b <;> rfl)
      simp only [Act.put, List.setIfInBounds_toArray, List.set_cons_zero, List.set_cons_succ]
      refine anyG_take 2 (.pointer (some ⟨wr.heap.size, 0, none⟩)) rfl (by kernel_rfl) (by kernel_rfl) (by kernel_rfl) (by kernel_rfl) (fun _ _ _ h => h) (by rfl) ?_ (by assumption) ?_
      · intro w' hSw; (try dsimp only at hSw); go_split_ands; go_simp; all_goals first | rfl | (cases bs <;> cases b <;> rfl)
      simp only [Act.put, List.setIfInBounds_toArray, List.set_cons_zero, List.set_cons_succ]
      refine anyG_take 3 (.bool b) rfl (by kernel_rfl) (by kernel_rfl) (by kernel_rfl) (by kernel_rfl) (fun _ _ _ h => h) (by rfl) ?_ (by assumption) ?_
      · intro w' hSw; (try dsimp only at hSw); go_split_ands; go_simp; all_goals first | rfl | (cases bs <;> cases b <;> rfl)
      simp only [Act.put, List.setIfInBounds_toArray, List.set_cons_zero, List.set_cons_succ]
      refine anyG_take 4 (.bool (bs != b)) rfl (by kernel_rfl) (by kernel_rfl) (by kernel_rfl) (by kernel_rfl) (fun _ _ _ h => h) (by rfl) ?_ (by assumption) ?_
      · intro w' hSw; (try dsimp only at hSw); go_split_ands; go_simp; all_goals first | rfl | (cases bs <;> cases b <;> rfl)
      simp only [Act.put, List.setIfInBounds_toArray, List.set_cons_zero, List.set_cons_succ]
      refine anyG_take 5 (.pointer (some ⟨w3.heap.size, 1, none⟩)) rfl (by kernel_rfl) (by kernel_rfl) (by kernel_rfl) (by kernel_rfl) (fun _ _ _ h => h) (by rfl) ?_ (by assumption) ?_
      · intro w' hSw; (try dsimp only at hSw); go_split_ands; go_simp; all_goals first | rfl | (cases bs <;> cases b <;> rfl)
      simp only [Act.put, List.setIfInBounds_toArray, List.set_cons_zero, List.set_cons_succ]
      refine anyG_take 6 (.slice As ns cs) rfl (by kernel_rfl) (by kernel_rfl) (by kernel_rfl) (by kernel_rfl) (fun _ _ _ h => h) (by rfl) ?_ (by assumption) ?_
      · intro w' hSw; (try dsimp only at hSw); go_split_ands; go_simp; all_goals first | rfl | (cases bs <;> cases b <;> rfl)
      simp only [Act.put, List.setIfInBounds_toArray, List.set_cons_zero, List.set_cons_succ]
      refine anyG_take 7 (.pointer (some ⟨wr.heap.size, 1, none⟩)) rfl (by kernel_rfl) (by kernel_rfl) (by kernel_rfl) (by kernel_rfl) (fun _ _ _ h => h) (by rfl) ?_ (by assumption) ?_
      · intro w' hSw; (try dsimp only at hSw); go_split_ands; go_simp; all_goals first | rfl | (cases bs <;> cases b <;> rfl)
      simp only [Act.put, List.setIfInBounds_toArray, List.set_cons_zero, List.set_cons_succ]
      refine anyG_take 8 (.slice A n c) rfl (by kernel_rfl) (by kernel_rfl) (by kernel_rfl) (by kernel_rfl) (fun _ _ _ h => h) (by rfl) ?_ (by assumption) ?_
      · intro w' hSw; (try dsimp only at hSw); go_split_ands; go_simp; all_goals first | rfl | (cases bs <;> cases b <;> rfl)
      try simp only [Act.put, List.setIfInBounds_toArray, List.set_cons_zero, List.set_cons_succ]
      refine anyG_one 9 (by kernel_rfl) rfl fun K hK => ?_
      go_simp
      refine HMUL.out.mono ?_
      rintro e w6 ⟨hb, v6, zs, rfl, hz, tz, hvz⟩
      have HB6 : Hid (Below w4.heap.size w4 w6) := Lib.hid ((Below.refl _ _).drew.trans hb)
      have q0' := cell_below q0 HB6.out (Nat.le_refl _)
      have q1' := cell_below q1 HB6.out (Nat.le_refl _)
      have q2' := cell_below q2 HB6.out (Nat.le_refl _)
      have q3' := cell_below q3 HB6.out (Nat.le_refl _)
      have HMK := Lib.hid (make_any (b := bs != b) hz); have HVZ := Lib.hid hvz
      clear hb hz tz hvz
      refine hK.out _ _ (fun _ => ⟨q0', q1', q2', q3'⟩) ?_
      clear hK
      try simp only [Act.put, List.setIfInBounds_toArray, List.set_cons_zero, List.set_cons_succ]
      refine anyG_one 10 (by kernel_rfl) rfl fun K hK => ?_
      go_simp
      refine HMK.out.mono ?_
      rintro e w5 ⟨hb, v5, hz⟩
      obtain ⟨rfl, hz⟩ := hz
      obtain ⟨b5, A5, n5, c5, rfl⟩ := hz.shape
      have q0'' := cell_below q0' hb (Nat.le_refl _)
      have q1'' := cell_below q1' hb (Nat.le_refl _)
      have q2'' := cell_below q2' hb (Nat.le_refl _)
      have q3'' := cell_below q3' hb (Nat.le_refl _)
      have HSZ := Lib.hid HB6.out.size
      replace HB6 := Lib.hid (HB6.out.trans (hb.mono HB6.out.size))
      have HF := Lib.hid hz
      obtain ⟨f0', f1', f2', f3'⟩ := cells2 (heap_below HR4.out HB6.out (heap_lt HR4.out))
      clear hb hz
      refine hK.out _ _ (fun _ => ⟨q0'', q1'', q2'', q3''⟩) ?_
      clear hK
      try simp only [Act.put, List.setIfInBounds_toArray, List.set_cons_zero, List.set_cons_succ]
      refine anyG_one 11 (by kernel_rfl) rfl fun K hK => ?_
      go_simp
      refine hK.out _ _ (fun h => absurd rfl h) ?_
      clear hK
      refine anyG_done (by kernel_rfl) ?_
      refine NoPanic.normal ?_
      have h := HF.out
      rw [HVZ.out, HP.out] at h
      have hb := HB6.out
      have hsz6 := HSZ.out
      have hbb := hba.trans (hb.mono hba.size)
      have R5 := heap_below HR0.out hbb (heap_lt HR0.out)
      have HR5 := Lib.hid R5
      obtain ⟨r0, r1, r2, r3⟩ := cells2 R5
      have hs := HS.out; have hs3 := HS3.out
      have hrs := heap_lt HR0.out
      have hsz := HB.out.size
      have B25 := heap_below B2.out hbb (heap_lt B2.out)
      have HB2 := Lib.hid (((HB.out.trans (hbb.mono HB.out.size)).setCell (p := ⟨w3.heap.size, 0, none⟩) (by simp; omega) (.bool b5)).setCell (p := ⟨w3.heap.size, 1, none⟩) (by simp; omega) (.slice A5 n5 c5))
      have HR2 : Hid (∃ bs As ns cs, ((w5.setCell ⟨w3.heap.size, 0, none⟩ (.bool b5)).setCell ⟨w3.heap.size, 1, none⟩ (.slice A5 n5 c5)).heap[w3.heap.size]? = some (.cells #[.bool bs, .slice As ns cs] 170 (0, 0)) ∧ IntP (fun b => w.heap.size ≤ b ∧ b ≠ w3.heap.size ∧ b ≠ w.heap.size + 1) ((w5.setCell ⟨w3.heap.size, 0, none⟩ (.bool b5)).setCell ⟨w3.heap.size, 1, none⟩ (.slice A5 n5 c5)) (.agg #[.bool bs, .slice As ns cs]) (if 1 = 0 then x else x * y)) := by
        refine Lib.hid ⟨_, _, _, _, set2 R5 _ _, ?_⟩
        have h' := h.weak (q := fun b => w.heap.size ≤ b ∧ b ≠ w3.heap.size ∧ b ≠ w.heap.size + 1) fun b h1 h2 => by have := hba.size; omega
        exact (h'.setCell (fun b hb => hb.2.1) _).setCell (fun b hb => hb.2.1) _
      have HB22 : Hid (((w5.setCell ⟨w3.heap.size, 0, none⟩ (.bool b5)).setCell ⟨w3.heap.size, 1, none⟩ (.slice A5 n5 c5)).heap[w.heap.size + 1]? = some (.cells #[Value.bool false, Value.slice none 0 0] 170 (0, 0))) := by
        refine Lib.hid ?_
        rw [Below.heap_setCell _ _ _ _ (by simp; omega), Below.heap_setCell _ _ _ _ (by simp; omega)]; exact B25
      clear hsz6 hSd q0' q1' q2' q3' q0'' q1'' q2'' q3''; clear h hb hbb hba R5 B25 hs hs3 hrs hsz y0 y1 q0 q1 q2 q3 q4 hw4 hs4
      go_wp2
      go_roundw
      case rel => exact ⟨1, by omega, by go_num, HB2, HR2, HB22⟩
      case measure => simp [intOf]
    · obtain ⟨e0, e1, e2, e3⟩ := cells2 B2.out
      have hs := HS.out; have hs3 := HS3.out
      obtain ⟨HFF, hFF⟩ := retz_store HB.out (g := w.heap.size + 1) (by omega) B2.out HX.out (fun b hb => by omega)
      replace hFF := Lib.hid hFF
      replace HFF : Hid (RetZ w.heap.size w (x * y) (.returned (.agg #[.bool bs, .slice As ns cs])) ((wr.setCell ⟨w.heap.size + 1, 0, none⟩ (.bool bs)).setCell ⟨w.heap.size + 1, 1, none⟩ (.slice As ns cs))) := HFF
      clear hs hs3
      go_wp2
      obtain ⟨f0, f1, -, -⟩ := cells2 hFF.out
      refine bodyPost_ret (v := .agg #[_, _]) (by simp [results, Tryz.results257, go_sem, f0, f1]; first | exact ⟨rfl, rfl⟩ | rfl) rfl ?_
      exact HFF.out
end Go.Proofs.YtgodkfgnhpnhcaaGreatDoor
namespace Go.Proofs.YtgodkfgnhpnhcaaGreatDoor
open Go.RowKit
/-- -1, 0 or 1, as x stands to y -/
def cmpI (x y : Int) : Int := if x < y then -1 else if y < x then 1 else 0
theorem cmp_sign_lt {x y : Int} (h : x.sign < y.sign) : cmpI x y = -1 := by
  have : x < y := by
    rcases Int.lt_trichotomy x 0 with hx | hx | hx <;> rcases Int.lt_trichotomy y 0 with hy | hy | hy <;> simp_all [Int.sign_eq_neg_one_of_neg, Int.sign_eq_one_of_pos] <;> omega
  unfold cmpI; rw [if_pos this]
theorem cmp_sign_gt {x y : Int} (h : y.sign < x.sign) : cmpI x y = 1 := by
  have : y < x := by
    rcases Int.lt_trichotomy x 0 with hx | hx | hx <;> rcases Int.lt_trichotomy y 0 with hy | hy | hy <;> simp_all [Int.sign_eq_neg_one_of_neg, Int.sign_eq_one_of_pos] <;> omega
  unfold cmpI; rw [if_neg (by omega), if_pos this]
theorem cmp_sign_eq {x y : Int} (h : x.sign = y.sign) : cmpI x y = x.sign * cmpN x.natAbs y.natAbs := by
  rcases Int.lt_trichotomy x 0 with hx | hx | hx <;> rcases Int.lt_trichotomy y 0 with hy | hy | hy <;>
    simp_all [Int.sign_eq_neg_one_of_neg, Int.sign_eq_one_of_pos] <;> simp only [cmpI, cmpN] <;> (repeat' split) <;> omega
theorem below_up {a b c : World} (h : Below a.heap.size a b) (k : Below b.heap.size b c) : Below a.heap.size a c := h.trans (k.mono h.size)
set_option maxHeartbeats 3200000 in
set_option maxRecDepth 100000 in
theorem cmpI_any {p q : Nat → Prop} {va vb : Value} {x y : Int} {w : World} (hx : IntP p w va x) (hy : IntP q w vb y) :
    Calls Tryz.prog 258 #[va, vb] w (RetK w (cmpI x y)) := by
  obtain ⟨ba, A, n, c, rfl⟩ := hx.shape
  obtain ⟨bb, A', n', c', rfl⟩ := hy.shape
  obtain ⟨w2, hw2, hb2, hs2, b1, b2⟩ := pro2 w (.cells #[Value.bool ba, .slice A n c] 170) (.cells #[Value.bool bb, .slice A' n' c'] 170)
  have HB := Lib.hid hb2; have H1 := Lib.hid (hx.below hb2); have H2 := Lib.hid (hy.below hb2)
  have HS := Lib.hid hs2; have B1 := Lib.hid b1; have B2 := Lib.hid b2
  obtain ⟨c0, c1, -, -⟩ := cells2 b1
  obtain ⟨d0, d1, -, -⟩ := cells2 b2
  clear hx hy hb2 b1 b2 hs2
  go_enter Tryz.func258, Tryz.ntmps258
  go_wp2_with fail
  have HSA : Hid (∀ w', Below w2.heap.size w2 w' → Calls Tryz.prog 177 #[.agg #[.bool ba, .slice A n c]] w' (RetK w' x.sign)) := Lib.hid fun w' h => sign_any (H1.out.below h)
  have HSB : Hid (∀ w', Below w2.heap.size w2 w' → Calls Tryz.prog 177 #[.agg #[.bool bb, .slice A' n' c']] w' (RetK w' y.sign)) := Lib.hid fun w' h => sign_any (H2.out.below h)
  have HBW : Below w2.heap.size w2 w2.drew := (Below.refl _ _).drew
  replace c0 : w2.drew.cell? ⟨w.heap.size, 0, none⟩ = some (.bool ba) := c0
  replace c1 : w2.drew.cell? ⟨w.heap.size, 1, none⟩ = some (.slice A n c) := c1
  replace d0 : w2.drew.cell? ⟨w.heap.size + 1, 0, none⟩ = some (.bool bb) := d0
  replace d1 : w2.drew.cell? ⟨w.heap.size + 1, 1, none⟩ = some (.slice A' n' c') := d1
  go_region_held3 (fun w' => w'.cell? ⟨w.heap.size, 0, none⟩ = some (.bool ba) ∧ w'.cell? ⟨w.heap.size, 1, none⟩ = some (.slice A n c) ∧ w'.cell? ⟨w.heap.size + 1, 0, none⟩ = some (.bool bb) ∧ w'.cell? ⟨w.heap.size + 1, 1, none⟩ = some (.slice A' n' c')) (go_keep)
    (first
    | (go_at_call 177
       with_reducible refine (HSA.out _ (by assumption)).mono ?_
       rintro e w3 ⟨rfl, hb⟩
       have c0 := cell_below c0 hb (Nat.le_refl _)
       have c1 := cell_below c1 hb (Nat.le_refl _)
       have d0 := cell_below d0 hb (Nat.le_refl _)
       have d1 := cell_below d1 hb (Nat.le_refl _)
       have HBW := below_up HBW hb)
    | (go_at_call 177
       with_reducible refine (HSB.out _ (by assumption)).mono ?_
       rintro e w3 ⟨rfl, hb⟩
       have c0 := cell_below c0 hb (Nat.le_refl _)
       have c1 := cell_below c1 hb (Nat.le_refl _)
       have d0 := cell_below d0 hb (Nat.le_refl _)
       have d1 := cell_below d1 hb (Nat.le_refl _)
       have HBW := below_up HBW hb))
  have HBF := Lib.hid (HB.out.trans (HBW.mono HB.out.size))
  obtain ⟨xs, hx1, hx2, hx3, -⟩ := (H1.out.below HBW).get
  obtain ⟨ys, hy1, hy2, hy3, -⟩ := (H2.out.below HBW).get
  have HX1 := Lib.hid hx1; have HY1 := Lib.hid hy1; have HX3 := Lib.hid hx3; have HY3 := Lib.hid hy3
  clear hx1 hx2 hx3 hy1 hy2 hy3 HBW
  have HLT := Lib.hid (@cmp_sign_lt x y); have HGT := Lib.hid (@cmp_sign_gt x y); have HEQ := Lib.hid (@cmp_sign_eq x y)
  generalize x.sign = s at *
  generalize y.sign = t at *
  rcases Int.lt_trichotomy s t with h | h | h
  · have h2 := HLT.out h
    have HF : Hid (RetK w (cmpI x y) (.returned (.int .i64 (-1))) _) := Lib.hid ⟨by rw [h2], HBF.out⟩
    clear h2
    go_wp2
    go_ret
    exact HF.out
  · subst h
    have h2 := HEQ.out rfl
    rw [← HX3.out, ← HY3.out] at h2
    have hb : -1 ≤ cmpI x y ∧ cmpI x y ≤ 1 := by unfold cmpI; (repeat' split) <;> omega
    have HF0 := Lib.hid h2; have HBB := Lib.hid hb
    clear h2 hb
    go_wp2_with fail
    refine (cmp_any HX1.out HY1.out).mono ?_
    rintro e w7 ⟨rfl, k, rfl⟩
    have HF := Lib.hid (HBF.out.trans ((below_drewN _ k).mono HBF.out.size))
    have hm := HF0.out; have hb1 := HBB.out.1; have hb2 := HBB.out.2
    generalize cmpN (val xs) (val ys) = m at *
    rw [hm] at hb1 hb2
    have HR : Hid (RetK w (cmpI x y) (.returned (.int .i64 (s * m))) _) := Lib.hid ⟨by rw [hm], HF.out⟩
    go_wp2
    go_ret
    exact HR.out
  · have h2 := HGT.out h
    have HF : Hid (RetK w (cmpI x y) (.returned (.int .i64 1)) _) := Lib.hid ⟨by rw [h2], HBF.out⟩
    have h3 : ¬ s < t := by omega
    clear h2
    go_wp2
    go_ret
    exact HF.out
end Go.Proofs.YtgodkfgnhpnhcaaGreatDoor
namespace Go.Proofs.YtgodkfgnhpnhcaaGreatDoor
open Go.RowKit
theorem div_step (a K m : Nat) (h : K ≤ m) : a / 2 ^ K / 2 ^ (m - K) = a / 2 ^ m := by
  rw [Nat.div_div_eq_div_mul, ← Nat.pow_add, Nat.add_sub_cancel' h]
theorem shr_big {p : Nat → Prop} {va : Value} {xs : List Nat} {w : World} (hx : NatP p w va xs) :
    Calls Tryz.prog 220 #[va, .int .i64 16777216] w (fun e w' => ∃ K : Nat, (K : Int) = 16777216 ∧ RetN w.heap.size w (val xs / 2 ^ K) e w') :=
  (shr_any (n := 16777216) hx (Nat.le_refl _)).mono fun _ _ h => ⟨16777216, rfl, h⟩
set_option maxHeartbeats 3200000 in
theorem dright_any {p : Nat → Prop} {va : Value} {xs : List Nat} {n : Nat} {w : World} (hx : NatP p w va xs) (hn : n ≤ 9223372036854775807) :
    Calls Tryz.prog 181 #[va, .int .i64 n] w (RetN w.heap.size w (val xs / 2 ^ n)) := by
  have HX := Lib.hid hx.any
  clear hx
  go_enter Tryz.func181, Tryz.ntmps181
  go_wp2_with fail
  go_loopw [0, 1] (fun sv i wr => ∃ (m : Nat) (ys : List Nat), m ≤ n ∧ i = .int .i64 m ∧ Hid (NatP AnyB wr sv ys) ∧ Hid (Below w.heap.size w wr) ∧ Hid (val ys / 2 ^ m = val xs / 2 ^ n)) (fun _ i _ => (intOf i).toNat)
  case atStart => exact ⟨n, xs, Nat.le_refl _, rfl, HX, Lib.hid (Below.refl _ _), Lib.hid rfl⟩
  case round =>
    obtain ⟨m, ys, hm, rfl, HY, HB, HV⟩ := hrel
    rcases Nat.lt_or_ge 16777216 m with h | h
    · have hi : (16777216 : Int) < (m : Int) := by omega
      go_wp2_with fail
      refine (shr_big HY.out).mono ?_
      rintro e w1 ⟨K, hK, hb, v1, zs, rfl, hz, tz, hvz⟩
      have HZ := Lib.hid hz.any
      have HB2 := Lib.hid (HB.out.trans (hb.mono HB.out.size))
      have HV2 : Hid (val zs / 2 ^ (m - K) = val xs / 2 ^ n) := Lib.hid (by
        rw [hvz, ← HV.out]; exact div_step _ _ _ (by omega))
      have hsub : (m : Int) - 16777216 = ((m - K : Nat) : Int) := by omega
      clear hb hz tz hvz
      go_wp2
      go_roundw
      case rel => exact ⟨m - K, zs, by omega, by go_num, HZ, HB2, HV2⟩
      case measure => simp [intOf]; omega
    · have hi : ¬ (16777216 : Int) < (m : Int) := by omega
      go_wp2_with fail
      refine (shr_any HY.out h).mono ?_
      rintro e w1 ⟨hb, v1, zs, rfl, hz, tz, hvz⟩
      have HF := Lib.hid (RetN.of (n := val xs / 2 ^ n) (HB.out.trans (hb.mono HB.out.size)) (hz.weak fun b h _ => Nat.le_trans HB.out.size h) tz (by rw [hvz, HV.out]))
      clear hb hz tz hvz
      go_wp2
      go_ret
      exact HF.out
end Go.Proofs.YtgodkfgnhpnhcaaGreatDoor
