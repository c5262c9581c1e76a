/- A part of the proof: contracts of functions and plain laws (SdB, Sem, LwA, LawK, LwB, LwC). -/
import Derived.Test.YtgodkfgnhpnhcaaGreatDoorJ20
import Derived.Test.YtgodkfgnhpnhcaaGreatDoorRows
import Derived.ProofKit
import Derived.OpenShut
import Derived.LaidMore
import Derived.Lay
import Derived.Lib.LaidTab
import Derived.Stop.Joined
set_option linter.unusedVariables false
set_option linter.unusedSimpArgs false
/- side.Between, the first point not behind the second. -/
namespace Go.Proofs.YtgodkfgnhpnhcaaGreatDoor
open Go.RowKit Go.Maps
set_option maxHeartbeats 12800000 in
set_option maxRecDepth 100000 in
theorem between_side {P : Ex → Prop} {B N : Nat} {w : World} {g ax ay bx ey cx cy : Nat} {ns : List Nd} {AX AY BX EY CX CY : Ex} {c1 c2 c3 : Int} (hs : St P B N w g ns) (hN : N + 6 ≤ 20000) (hax : Is ns AX ax) (hay : Is ns AY ay) (hbx : Is ns BX bx) (hey : Is ns EY ey) (hcx : Is ns CX cx) (hcy : Is ns CY cy)
    (h1 : CmpOk P AX AY BX EY c1) (h2 : CmpOk P CX CY AX AY c2) (h3 : CmpOk P CX CY BX EY c3) (k1 : c1 ≤ 0) (k2 : 0 ≤ c2) :
    Calls Tryz.prog 72 #[spotV g ax ay, spotV g bx ey, spotV g cx cy] w (RetQ P B (N + 6) w g ns (.tuple #[.bool (decide (c3 ≤ 0)), .nilIface])) := by
  have h3' := (((Stg.start hs).alloc (spotO g ax ay)).alloc (spotO g bx ey)).alloc (spotO g cx cy)
  obtain ⟨w3, hw3⟩ : ∃ w3, ((w.alloc (spotO g ax ay)).alloc (spotO g bx ey)).alloc (spotO g cx cy) = w3 := ⟨_, rfl⟩
  rw [hw3] at h3'
  simp only [size_al] at h3'
  have ST3 := Lib.hid h3'
  have HC := Lib.hid (And.intro h1 (And.intro h2 h3))
  have HIS := Lib.hid (And.intro hax (And.intro hay (And.intro hbx (And.intro hey (And.intro hcx hcy)))))
  have HNN := Lib.hid hN
  have HC1 := Lib.hid (cmpK ST3.out (by omega) hax hay hbx hey h1)
  obtain ⟨a0, a1, a2, a3⟩ := cells4 (ST3.out.at (b := w.heap.size) (o := spotO g ax ay) (.tail _ (.tail _ (.head _))))
  obtain ⟨e0, e1, e2, e3⟩ := cells4 (ST3.out.at (b := w.heap.size + 1) (o := spotO g bx ey) (.tail _ (.head _)))
  obtain ⟨d0, d1, d2, d3⟩ := cells4 (ST3.out.at (b := w.heap.size + 1 + 1) (o := spotO g cx cy) (.head _))
  have t1 : ¬ 0 < c1 := by omega
  have t1' : decide (0 < c1) = false := by simpa using k1
  have t2 : ¬ c2 < 0 := by omega
  have t2' : decide (c2 < 0) = false := by simpa using k2
  clear hs hN hax hay hbx hey hcx hcy h1 h2 h3 h3' k1 k2
  go_enter Tryz.func72, Tryz.ntmps72
  go_wp2_with fail
  refine HC1.out.mono ?_
  rintro e w4 ⟨rfl, ns4, ST4, hp4⟩
  have HC2 := Lib.hid (cmpK ST4 (by have := HNN.out; omega) (HIS.out.2.2.2.2.1.mono ST4.pre) (HIS.out.2.2.2.2.2.mono ST4.pre) (HIS.out.1.mono ST4.pre) (HIS.out.2.1.mono ST4.pre) HC.out.2.1)
  obtain ⟨a0, a1, a2, a3⟩ := cells4 (ST4.at (b := w.heap.size) (o := spotO g ax ay) (.tail _ (.tail _ (.head _))))
  obtain ⟨d0, d1, d2, d3⟩ := cells4 (ST4.at (b := w.heap.size + 1 + 1) (o := spotO g cx cy) (.head _))
  clear ST4 hp4
  go_wp2_with fail
  refine HC2.out.mono ?_
  rintro e w5 ⟨rfl, ns5, ST5, hp5⟩
  have HC3 := Lib.hid (cmpK ST5 (by have := HNN.out; omega) (HIS.out.2.2.2.2.1.mono ST5.pre) (HIS.out.2.2.2.2.2.mono ST5.pre) (HIS.out.2.2.1.mono ST5.pre) (HIS.out.2.2.2.1.mono ST5.pre) HC.out.2.2)
  obtain ⟨e0, e1, e2, e3⟩ := cells4 (ST5.at (b := w.heap.size + 1) (o := spotO g bx ey) (.tail _ (.head _)))
  obtain ⟨d0, d1, d2, d3⟩ := cells4 (ST5.at (b := w.heap.size + 1 + 1) (o := spotO g cx cy) (.head _))
  clear ST5 hp5
  go_wp2_with fail
  refine HC3.out.mono ?_
  rintro e w6 ⟨rfl, ns6, ST6, hp6⟩
  have HF := Lib.hid (ST6.grew.retq (M := N + 6) (by omega) (.tuple #[.bool (decide (c3 ≤ 0)), .nilIface]))
  clear ST6 hp6
  go_wp2
  go_ret2
  exact HF.out
end Go.Proofs.YtgodkfgnhpnhcaaGreatDoor
/- Expressions over small dyadic numbers, without quotients and roots: their value; sign.Of tells its sign. -/
namespace Go.Proofs.YtgodkfgnhpnhcaaGreatDoor
open Go.RowKit Go.Maps
/-- the expression's value in units of 2^-1074, and a bound of what bound.Of tells -/
inductive Den : Ex → Int → Int → Prop
  | leaf {v : Nat} (hf : fin v) (hv : v < 18446744073709551616) (hs : SmV (fv v)) (he : SmE (fv v)) : Den (.leaf v) (fv v) 1132
  | add {a b : Ex} {X Y c d : Int} (ha : Den a X c) (hb : Den b Y d) (hs : SmV (X + Y)) (hc : 1 + c + d ≤ 1000000) : Den (.add a b) (X + Y) (1 + c + d)
  | sub {a b : Ex} {X Y c d : Int} (ha : Den a X c) (hb : Den b Y d) (hs : SmV (X - Y)) (hc : 1 + c + d ≤ 1000000) : Den (.sub a b) (X - Y) (1 + c + d)
  | mul {a b : Ex} {X Y Z c d : Int} (ha : Den a X c) (hb : Den b Y d) (hz : Z * (U74 : Int) = X * Y) (hs : SmV Z) (hc : 1 + c + d ≤ 1000000) : Den (.mul a b) Z (1 + c + d)
theorem pow2_gt (n : Nat) : 0 < pow2 n := by unfold pow2; exact Nat.pow_pos (by decide)
theorem U74_ne : (U74 : Int) ≠ 0 := by
  have : 0 < U74 := pow2_gt 1074
  omega
theorem Den.pos {x : Ex} {V c : Int} (h : Den x V c) : 0 ≤ c ∧ c ≤ 1000000 := by
  induction h with
  | leaf => omega
  | add ha hb hs hc iha ihb => omega
  | sub ha hb hs hc iha ihb => omega
  | mul ha hb hz hs hc iha ihb => omega
theorem Den.uniq {x : Ex} {V c : Int} (h : Den x V c) : ∀ {V' c' : Int}, Den x V' c' → V = V' ∧ c = c' := by
  induction h with
  | leaf => intro V' c' h; cases h; exact ⟨rfl, rfl⟩
  | add ha hb hs hc iha ihb => intro V' c' h; cases h with | add ha' hb' _ _ => obtain ⟨rfl, rfl⟩ := iha ha'; obtain ⟨rfl, rfl⟩ := ihb hb'; exact ⟨rfl, rfl⟩
  | sub ha hb hs hc iha ihb => intro V' c' h; cases h with | sub ha' hb' _ _ => obtain ⟨rfl, rfl⟩ := iha ha'; obtain ⟨rfl, rfl⟩ := ihb hb'; exact ⟨rfl, rfl⟩
  | mul ha hb hz hs hc iha ihb => intro V' c' h; cases h with | mul ha' hb' hz' _ _ =>
      obtain ⟨rfl, rfl⟩ := iha ha'; obtain ⟨rfl, rfl⟩ := ihb hb'
      exact ⟨Int.eq_of_mul_eq_mul_right U74_ne (hz.trans hz'.symm), rfl⟩
theorem nd_inj {k k' : Int} {i i' j j' : Nat} (h : (some (⟨k, 0, i, j⟩ : Nd)) = some ⟨k', 0, i', j'⟩) : k = k' ∧ i = i' ∧ j = j' := by
  injection h with h; injection h with h1 h2 h3 h4; exact ⟨h1, by omega, by omega⟩
theorem Is.uniq {ns : List Nd} : ∀ {e : Ex} {k : Nat}, Is ns e k → ∀ {e' : Ex}, Is ns e' k → e = e' := by
  intro e
  induction e with
  | leaf v =>
    intro k h e' h'
    have h : ns[k]? = some ⟨0, v, 0, 0⟩ := h
    cases e' with
    | leaf v' => have h' : ns[k]? = some ⟨0, v', 0, 0⟩ := h'; rw [h] at h'; injection h' with h'; injection h' with _ h'; rw [h']
    | root a => obtain ⟨i, q, -⟩ := h'; rw [h] at q; injection q with q; injection q with q; simp at q
    | add a b => obtain ⟨i, j, q, -⟩ := h'; rw [h] at q; injection q with q; injection q with q; simp at q
    | sub a b => obtain ⟨i, j, q, -⟩ := h'; rw [h] at q; injection q with q; injection q with q; simp at q
    | mul a b => obtain ⟨i, j, q, -⟩ := h'; rw [h] at q; injection q with q; injection q with q; simp at q
    | div a b => obtain ⟨i, j, q, -⟩ := h'; rw [h] at q; injection q with q; injection q with q; simp at q
  | root a iha =>
    intro k h e' h'
    obtain ⟨i, h1, h2, h3⟩ := h
    cases e' with
    | leaf v' => have h' : ns[k]? = some ⟨0, v', 0, 0⟩ := h'; rw [h1] at h'; injection h' with h'; injection h' with h'; simp at h'
    | root a' => obtain ⟨i', q, q2, q3⟩ := h'; rw [h1] at q; obtain ⟨-, rfl, -⟩ := nd_inj (j := 0) (j' := 0) q; rw [iha h3 q3]
    | add a b => obtain ⟨i', j, q, -⟩ := h'; rw [h1] at q; have := (nd_inj (j := 0) q).1; simp at this
    | sub a b => obtain ⟨i', j, q, -⟩ := h'; rw [h1] at q; have := (nd_inj (j := 0) q).1; simp at this
    | mul a b => obtain ⟨i', j, q, -⟩ := h'; rw [h1] at q; have := (nd_inj (j := 0) q).1; simp at this
    | div a b => obtain ⟨i', j, q, -⟩ := h'; rw [h1] at q; have := (nd_inj (j := 0) q).1; simp at this
  | add a b iha ihb =>
    intro k h e' h'
    obtain ⟨i, j, h1, h2, h3, h4, h5⟩ := h
    cases e' with
    | leaf v' => have h' : ns[k]? = some ⟨0, v', 0, 0⟩ := h'; rw [h1] at h'; injection h' with h'; injection h' with h'; simp at h'
    | root a' => obtain ⟨i', q, -⟩ := h'; rw [h1] at q; have := (nd_inj (j' := 0) q).1; simp at this
    | add a' b' => obtain ⟨i', j', q, q2, q3, q4, q5⟩ := h'; rw [h1] at q; obtain ⟨-, rfl, rfl⟩ := nd_inj q; rw [iha h4 q4, ihb h5 q5]
    | sub a b => obtain ⟨i', j, q, -⟩ := h'; rw [h1] at q; have := (nd_inj q).1; simp at this
    | mul a b => obtain ⟨i', j, q, -⟩ := h'; rw [h1] at q; have := (nd_inj q).1; simp at this
    | div a b => obtain ⟨i', j, q, -⟩ := h'; rw [h1] at q; have := (nd_inj q).1; simp at this
  | sub a b iha ihb =>
    intro k h e' h'
    obtain ⟨i, j, h1, h2, h3, h4, h5⟩ := h
    cases e' with
    | leaf v' => have h' : ns[k]? = some ⟨0, v', 0, 0⟩ := h'; rw [h1] at h'; injection h' with h'; injection h' with h'; simp at h'
    | root a' => obtain ⟨i', q, -⟩ := h'; rw [h1] at q; have := (nd_inj (j' := 0) q).1; simp at this
    | sub a' b' => obtain ⟨i', j', q, q2, q3, q4, q5⟩ := h'; rw [h1] at q; obtain ⟨-, rfl, rfl⟩ := nd_inj q; rw [iha h4 q4, ihb h5 q5]
    | add a b => obtain ⟨i', j, q, -⟩ := h'; rw [h1] at q; have := (nd_inj q).1; simp at this
    | mul a b => obtain ⟨i', j, q, -⟩ := h'; rw [h1] at q; have := (nd_inj q).1; simp at this
    | div a b => obtain ⟨i', j, q, -⟩ := h'; rw [h1] at q; have := (nd_inj q).1; simp at this
  | mul a b iha ihb =>
    intro k h e' h'
    obtain ⟨i, j, h1, h2, h3, h4, h5⟩ := h
    cases e' with
    | leaf v' => have h' : ns[k]? = some ⟨0, v', 0, 0⟩ := h'; rw [h1] at h'; injection h' with h'; injection h' with h'; simp at h'
    | root a' => obtain ⟨i', q, -⟩ := h'; rw [h1] at q; have := (nd_inj (j' := 0) q).1; simp at this
    | mul a' b' => obtain ⟨i', j', q, q2, q3, q4, q5⟩ := h'; rw [h1] at q; obtain ⟨-, rfl, rfl⟩ := nd_inj q; rw [iha h4 q4, ihb h5 q5]
    | add a b => obtain ⟨i', j, q, -⟩ := h'; rw [h1] at q; have := (nd_inj q).1; simp at this
    | sub a b => obtain ⟨i', j, q, -⟩ := h'; rw [h1] at q; have := (nd_inj q).1; simp at this
    | div a b => obtain ⟨i', j, q, -⟩ := h'; rw [h1] at q; have := (nd_inj q).1; simp at this
  | div a b iha ihb =>
    intro k h e' h'
    obtain ⟨i, j, h1, h2, h3, h4, h5⟩ := h
    cases e' with
    | leaf v' => have h' : ns[k]? = some ⟨0, v', 0, 0⟩ := h'; rw [h1] at h'; injection h' with h'; injection h' with h'; simp at h'
    | root a' => obtain ⟨i', q, -⟩ := h'; rw [h1] at q; have := (nd_inj (j' := 0) q).1; simp at this
    | div a' b' => obtain ⟨i', j', q, q2, q3, q4, q5⟩ := h'; rw [h1] at q; obtain ⟨-, rfl, rfl⟩ := nd_inj q; rw [iha h4 q4, ihb h5 q5]
    | add a b => obtain ⟨i', j, q, -⟩ := h'; rw [h1] at q; have := (nd_inj q).1; simp at this
    | sub a b => obtain ⟨i', j, q, -⟩ := h'; rw [h1] at q; have := (nd_inj q).1; simp at this
    | mul a b => obtain ⟨i', j, q, -⟩ := h'; rw [h1] at q; have := (nd_inj q).1; simp at this
/-- expressions with a value -/
def PS (x : Ex) : Prop := ∃ V c, Den x V c
theorem vals_ex {ns : List Nd} (h : AllIs PS ns) : ∃ (val c : Nat → Int), ∀ (k : Nat) (x : Ex), Is ns x k → Den x (val k) (c k) := by
  have : ∀ k : Nat, ∃ p : Int × Int, ∀ x : Ex, Is ns x k → Den x p.1 p.2 := fun k => by
    by_cases hk : k < ns.length
    · obtain ⟨e, h1, V, c, h2⟩ := h k hk
      exact ⟨(V, c), fun x hx => by rw [hx.uniq h1]; exact h2⟩
    · exact ⟨(0, 0), fun x hx => absurd hx.lt hk⟩
  exact ⟨fun k => (Classical.choose (this k)).1, fun k => (Classical.choose (this k)).2, fun k x hx => Classical.choose_spec (this k) x hx⟩
theorem okNs_of {P : Ex → Prop} {ns : List Nd} (h : AllIs P ns) : OkNs ns := by
  intro i n hn
  rcases h.before hn with ⟨h0, -⟩ | ⟨hk, -, a, b, h1, h2, h3, h4⟩ | ⟨h5, -, -, a, h1, h2⟩
  · exact ⟨Or.inl h0, fun o ho => by simp [opsN, h0] at ho⟩
  · refine ⟨Or.inr (Or.inr (by rcases hk with h | h | h | h <;> omega)), fun o ho => ?_⟩
    have : n.kind ≠ 0 ∧ n.kind ≠ 5 := by rcases hk with h | h | h | h <;> omega
    simp only [opsN, this.1, this.2, if_false, List.mem_cons, List.not_mem_nil, or_false] at ho
    rcases ho with rfl | rfl <;> omega
  · refine ⟨Or.inr (Or.inl h5), fun o ho => ?_⟩
    have : n.kind ≠ 0 := by omega
    rw [show opsN n = [n.a] from by unfold opsN; rw [if_neg this, if_pos h5]] at ho
    simp only [List.mem_cons, List.not_mem_nil, or_false] at ho
    omega
theorem leafOk_of {P : Ex → Prop} {ns : List Nd} (h : AllIs P ns) : LeafOk ns := by
  intro i n hn h0
  rcases h.before hn with ⟨-, h1, h2⟩ | ⟨hk, -⟩ | ⟨h5, -⟩
  · exact ⟨h1, h2⟩
  · rcases hk with h | h | h | h <;> omega
  · omega
theorem Den.smV {x : Ex} {V c : Int} (h : Den x V c) : SmV V := by cases h <;> assumption
theorem dv_of {ns : List Nd} (h : AllIs PS ns) {val c : Nat → Int} (hv : ∀ (k : Nat) (x : Ex), Is ns x k → Den x (val k) (c k)) : DV ns val ∧ CO ns c := by
  have key : ∀ (i : Nat) n, ns[i]? = some n → (nodeVal n (val n.a.toNat) (val n.b.toNat) (val i) ∧ SmV (val i) ∧ (n.kind = 0 → fin n.val)) ∧ ((0 ≤ c i ∧ c i ≤ 1000000) ∧ (n.kind = 0 → c i = 1132 ∧ SmE (fv n.val)) ∧ (n.kind ≠ 0 → c i = 1 + c n.a.toNat + c n.b.toNat)) := by
    intro i n hn
    obtain ⟨e, he, -⟩ := h i (List.getElem?_eq_some_iff.1 hn).1
    have hd := hv i e he
    have hp := hd.pos
    have hsm := hd.smV
    cases e with
    | leaf v =>
      have he : ns[i]? = some ⟨0, v, 0, 0⟩ := he
      rw [hn] at he; cases he
      generalize val i = X at *
      generalize c i = d at *
      cases hd with
      | leaf hf hv hs hE => exact ⟨⟨Or.inl ⟨rfl, rfl⟩, hs, fun _ => hf⟩, hp, fun _ => ⟨rfl, hE⟩, fun h => absurd rfl h⟩
    | root a => cases hd
    | div a b => cases hd
    | add a b =>
      obtain ⟨i', j', q1, q2, q3, q4, q5⟩ := he
      rw [hn] at q1; cases q1
      have ha := hv i' a q4; have hb := hv j' b q5
      simp only [Int.toNat_natCast]
      generalize hX : val i = X at *; generalize hD : c i = D at *
      cases hd with
      | add ha' hb' hs hc =>
        obtain ⟨rfl, rfl⟩ := ha.uniq ha'; obtain ⟨rfl, rfl⟩ := hb.uniq hb'
        exact ⟨⟨Or.inr (Or.inl ⟨rfl, rfl⟩), hs, fun h => by simp at h⟩, hp, fun h => by simp at h, fun _ => rfl⟩
    | sub a b =>
      obtain ⟨i', j', q1, q2, q3, q4, q5⟩ := he
      rw [hn] at q1; cases q1
      have ha := hv i' a q4; have hb := hv j' b q5
      simp only [Int.toNat_natCast]
      generalize hX : val i = X at *; generalize hD : c i = D at *
      cases hd with
      | sub ha' hb' hs hc =>
        obtain ⟨rfl, rfl⟩ := ha.uniq ha'; obtain ⟨rfl, rfl⟩ := hb.uniq hb'
        exact ⟨⟨Or.inr (Or.inr (Or.inl ⟨rfl, rfl⟩)), hs, fun h => by simp at h⟩, hp, fun h => by simp at h, fun _ => rfl⟩
    | mul a b =>
      obtain ⟨i', j', q1, q2, q3, q4, q5⟩ := he
      rw [hn] at q1; cases q1
      have ha := hv i' a q4; have hb := hv j' b q5
      simp only [Int.toNat_natCast]
      generalize hX : val i = X at *; generalize hD : c i = D at *
      cases hd with
      | mul ha' hb' hz hs hc =>
        obtain ⟨rfl, rfl⟩ := ha.uniq ha'; obtain ⟨rfl, rfl⟩ := hb.uniq hb'
        exact ⟨⟨Or.inr (Or.inr (Or.inr ⟨rfl, hz⟩)), hs, fun h => by simp at h⟩, hp, fun h => by simp at h, fun _ => rfl⟩
  exact ⟨fun i n hn => (key i n hn).1, fun i n hn => (key i n hn).2⟩
/-- the sign of an expression with a value -/
theorem sgn_ok {x : Ex} {V c : Int} (hx : Den x V c) (hc : c ≤ 32767) : SgnOk PS x V.sign := by
  intro B N w g k ns hs hi
  obtain ⟨val, cc, hv⟩ := vals_ex hs.all
  obtain ⟨h1, h2⟩ := dv_of hs.all hv
  obtain ⟨e1, e2⟩ := (hv k x hi).uniq hx
  have := signOf_any hs.dag (okNs_of hs.all) h1 (leafOk_of hs.all) h2 hs.tab hi.lt (by rw [e2]; exact hc)
  rw [e1] at this
  exact this
end Go.Proofs.YtgodkfgnhpnhcaaGreatDoor
/- Whole numbers as values; the points of the rim. -/
namespace Go.Proofs.YtgodkfgnhpnhcaaGreatDoor
open Go.RowKit Go.Maps
/-- the expression has the whole number v for its value -/
def IntE (x : Ex) (v c : Int) : Prop := Den x (v * (U74 : Int)) c
theorem mkDy_unit (v : Int) (n : Nat) : mkDy (v * (pow2 n : Int)) (-(n : Int)) = mkDy v 0 := by
  have := mkDy_shl v 0 n
  rw [Int.zero_sub] at this
  exact this
theorem dv_int (v : Int) : dv (v * (U74 : Int)) = mkDy v 0 := mkDy_unit v 1074
theorem small_mk {v : Int} (h : -4294967296 < v ∧ v < 4294967296) : bits (mkDy v 0).man.natAbs ≤ 32 ∧ 0 ≤ (mkDy v 0).exp ∧ (mkDy v 0).exp ≤ 32 := by
  have hb : bits v.natAbs ≤ 32 := (bits_le_iff _ _).2 (by omega)
  refine ⟨Nat.le_trans (bits_mk v 0) hb, ?_⟩
  by_cases h0 : v = 0
  · subst h0; rw [mkDy_zero]; simp
  · obtain ⟨k, -, h2, -, h4⟩ := mkDy_spec v 0 h0
    rw [h2]; omega
theorem smV_int {v : Int} (h : -4294967296 < v ∧ v < 4294967296) : SmV (v * (U74 : Int)) := by
  unfold SmV; rw [dv_int]; have := small_mk h; omega
theorem smE_int {v : Int} (h : -4294967296 < v ∧ v < 4294967296) : SmE (v * (U74 : Int)) := by
  unfold SmE; rw [dv_int]; have := small_mk h; omega
theorem IntE.leaf {b : Nat} {v : Int} (hb : b < 18446744073709551616) (hf : fin b) (hv : fv b = v * (U74 : Int)) (h : -4294967296 < v ∧ v < 4294967296) : IntE (.leaf b) v 1132 := by
  unfold IntE; rw [← hv]; exact .leaf hf hb (by rw [hv]; exact smV_int h) (by rw [hv]; exact smE_int h)
theorem IntE.add {a b : Ex} {x y c d : Int} (ha : IntE a x c) (hb : IntE b y d) (h : -4294967296 < x + y ∧ x + y < 4294967296) (hc : 1 + c + d ≤ 1000000) : IntE (.add a b) (x + y) (1 + c + d) := by
  unfold IntE at *; rw [Int.add_mul]; exact .add ha hb (by rw [← Int.add_mul]; exact smV_int h) hc
theorem IntE.sub {a b : Ex} {x y c d : Int} (ha : IntE a x c) (hb : IntE b y d) (h : -4294967296 < x - y ∧ x - y < 4294967296) (hc : 1 + c + d ≤ 1000000) : IntE (.sub a b) (x - y) (1 + c + d) := by
  unfold IntE at *; rw [Int.sub_mul]; exact .sub ha hb (by rw [← Int.sub_mul]; exact smV_int h) hc
theorem IntE.mul {a b : Ex} {x y c d : Int} (ha : IntE a x c) (hb : IntE b y d) (h : -4294967296 < x * y ∧ x * y < 4294967296) (hc : 1 + c + d ≤ 1000000) : IntE (.mul a b) (x * y) (1 + c + d) := by
  unfold IntE at *; exact .mul ha hb (by generalize (U74 : Int) = u; grind) (smV_int h) hc
theorem IntE.ps {x : Ex} {v c : Int} (h : IntE x v c) : PS x := ⟨_, _, h⟩
theorem sign_unit (v : Int) : (v * (U74 : Int)).sign = v.sign := by
  rw [Int.sign_mul, Int.sign_eq_one_of_pos U74_pos, Int.mul_one]
theorem IntE.sgn {x : Ex} {v c : Int} (h : IntE x v c) (hc : c ≤ 32767) : SgnOk PS x v.sign := by
  have := sgn_ok h hc; rwa [sign_unit] at this
def lexZ (a b c d : Int) : Int := if (a - c).sign = 0 then (b - d).sign else (a - c).sign
def detZ (ax ay bx ey cx cy : Int) : Int := (bx - ax) * (cy - ay) - (ey - ay) * (cx - ax)
def Sm1 (v : Int) : Prop := -10000 ≤ v ∧ v ≤ 10000
theorem cmp_int {A B C D : Ex} {a b c d : Int} (ha : IntE A a 1132) (hb : IntE B b 1132) (hc : IntE C c 1132) (hd : IntE D d 1132) (sa : Sm1 a) (sb : Sm1 b) (sc : Sm1 c) (sd : Sm1 d) : CmpOk PS A B C D (lexZ a b c d) := by
  unfold Sm1 at *
  have h1 := ha.sub hc (by omega) (by omega)
  have h2 := hb.sub hd (by omega) (by omega)
  exact ⟨_, _, h1.ps, h1.sgn (by omega), fun _ => ⟨h2.ps, h2.sgn (by omega)⟩, rfl⟩
theorem mul_small {x y : Int} (hx : -20000 ≤ x ∧ x ≤ 20000) (hy : -20000 ≤ y ∧ y ≤ 20000) : -400000000 ≤ x * y ∧ x * y ≤ 400000000 := by
  have h : (x * y).natAbs ≤ 20000 * 20000 := by rw [Int.natAbs_mul]; exact Nat.mul_le_mul (by omega) (by omega)
  omega
theorem turn_int {A A' B B' C C' : Ex} {ax ay bx ey cx cy : Int} (h1 : IntE A ax 1132) (h2 : IntE A' ay 1132) (h3 : IntE B bx 1132) (h4 : IntE B' ey 1132) (h5 : IntE C cx 1132) (h6 : IntE C' cy 1132)
    (s1 : Sm1 ax) (s2 : Sm1 ay) (s3 : Sm1 bx) (s4 : Sm1 ey) (s5 : Sm1 cx) (s6 : Sm1 cy) : TurnOk PS A A' B B' C C' (detZ ax ay bx ey cx cy).sign := by
  unfold Sm1 at *
  have a1 := h3.sub h1 (by omega) (by omega)
  have a2 := h6.sub h2 (by omega) (by omega)
  have a3 := h4.sub h2 (by omega) (by omega)
  have a4 := h5.sub h1 (by omega) (by omega)
  have m1 := mul_small (x := bx - ax) (y := cy - ay) (by omega) (by omega)
  have m2 := mul_small (x := ey - ay) (y := cx - ax) (by omega) (by omega)
  have p1 := a1.mul a2 (by omega) (by omega)
  have p2 := a3.mul a4 (by omega) (by omega)
  have f := p1.sub p2 (by omega) (by omega)
  exact ⟨⟨a1.ps, a2.ps, p1.ps⟩, ⟨a3.ps, a4.ps, p2.ps⟩, f.ps, f.sgn (by omega)⟩
end Go.Proofs.YtgodkfgnhpnhcaaGreatDoor
/- From the row's condition to the table that TrailingZeros64 reads; a world that meets it; the post of a law. -/
namespace Go.Proofs.YtgodkfgnhpnhcaaGreatDoor
open Go.ChangeShapes Go.WideShapes Go.ChangeAt Go.RowKit
/-- what the rows list -/
def laidD : List (String × DataW Unit) := [("math/bits.deBruijn64tab", Rows.laid_math_bits_deBruijn64tab)]
theorem law_own : ownKnob Tryz.prog.godebug = none := by kernel_rfl
theorem tab_named : Tryz.prog.globalNamed "math/bits.deBruijn64tab" = some 1 := by kernel_rfl
theorem tab_type : (Tryz.prog.globals[1]?).map (·.type) = some 319 := by kernel_rfl
theorem tab_und : Tryz.prog.underlying 319 = some (.array 64 5) := by kernel_rfl
theorem u8_und : Tryz.prog.underlying 5 = some (.int .u8) := by kernel_rfl
theorem u8_cells : Tryz.prog.cellsOf 5 = 1 := by kernel_rfl
theorem tab_cells : Tryz.prog.cellsOf 319 = 64 := by kernel_rfl
def tabZ : List Int := Lib.deBruijn64tab.map fun (x : Nat) => (x : Int)
theorem laid_eq : laidD = [("math/bits.deBruijn64tab", Lib.tabData .u8 tabZ)] := by kernel_rfl
theorem tab_of_laid {W : World} (h : laidMetH Tryz.prog laidD W) : Tab W := by
  rw [MakeChecks.laidMetH_plain _ _ _ (by kernel_rfl), laid_eq] at h
  have hT := Lib.tabIs_of_head tab_named tab_type tab_und u8_und u8_cells tab_cells h
  intro j hj
  have hl : tabZ.length = Lib.deBruijn64tab.length := by simp [tabZ]
  have := hT.cell tab_named j (by omega)
  rw [this]
  have e : tabZ.getD j 0 = ((Lib.deBruijn64tab.getD j 0 : Nat) : Int) := by
    simp only [tabZ, List.getD_eq_getElem?_getD, List.getElem?_map]
    rw [List.getElem?_eq_getElem hj]; rfl
  rw [e]
theorem tab_lt {W : World} (h : Tab W) : 1 < W.heap.size := World.block_lt_of_cell? W _ (h 0 (by decide))
section
variable {H : Type} {enc : TypeId × Value → H}
/-- a law that answers true and leaves what was there as it was -/
theorem post_true {f : Func} {s : ChangeSpec} {W W' : World} {args : Array Value} {ds : List (DataW H)} {before : List MemPlace}
    (hW : DataW.Whole enc Tryz.prog f.params.toList s.vars false W args.toList ds [] before) (hv : s.vars = []) (hr : f.resultTypes = #[4]) (hs : s.fn H (ds ++ []) = { results := [.lit (.bool true)], args := ds })
    (hargs : ∀ sp : Nat → Bool, (∀ p ∈ before, sp p.block = true) → DataW.TrodAll enc Tryz.prog W' 0 sp true f.params.toList args.toList ds before) (hb : Below W.heap.size W W') :
    s.post enc Tryz.prog f false true false false W args (.bool true) W' := by
  have hlt : ∀ p ∈ before, p.block < W.heap.size := fun p hp => hW.lt p hp
  have hold : ∀ p ∈ before, (fun b => decide (b < W.heap.size)) p.block = true := fun p hp => by simpa using hlt p hp
  have hres : ∀ (b : Nat) (sp : Nat → Bool) (hd : Bool), DataW.TrodAll enc Tryz.prog W' b sp hd f.resultTypes.toList ((Value.bool true).resultList f.resultTypes.size) [.lit (.bool true)] [] := by
    intro b sp hd
    rw [hr]
    exact trodAll_cons_mk (shut_bool Tryz.underlying4 _) trodAll_mk0
  have hvars : ∀ sp : Nat → Bool, DataW.TrodVars enc Tryz.prog W' sp s.vars [] [] := fun sp => by rw [hv]; rfl
  refine ⟨ds, [], before, [], before, [], hW, ?_, ?_, ?_, ?_, fun h => by cases h⟩
  · rw [hs]; exact hres _ _ _
  · rw [hs]; exact hargs _ hold
  · rw [hs]; exact hvars _
  · refine World.keptBut_mono (fun p hp => ?_) (hb.frame (· ∈ before))
    exact ⟨hp, by simpa using hp⟩
end
end Go.Proofs.YtgodkfgnhpnhcaaGreatDoor
/- compasslaw21.Rim. Printed by gen_lwb.py. -/
namespace Go.Proofs.YtgodkfgnhpnhcaaGreatDoor
open Go.RowKit Go.Maps
def rimX (J : Nat) : Nat := ([4617315517961601024, 4616189618054758400, 4613937818241073152, 0, 13837309855095848960, 13839561654909534208, 13840687554816376832, 13839561654909534208, 13837309855095848960, 0, 4613937818241073152, 4616189618054758400] : List Nat).getD J 0
def rimY (J : Nat) : Nat := ([0, 4613937818241073152, 4616189618054758400, 4617315517961601024, 4616189618054758400, 4613937818241073152, 0, 13837309855095848960, 13839561654909534208, 13840687554816376832, 13839561654909534208, 13837309855095848960] : List Nat).getD J 0
def rimXi (J : Nat) : Int := ([5, 4, 3, 0, -3, -4, -5, -4, -3, 0, 3, 4] : List Int).getD J 0
def rimYi (J : Nat) : Int := ([0, 3, 4, 5, 4, 3, 0, -3, -4, -5, -4, -3] : List Int).getD J 0
theorem fv_m5 : fv 13840687554816376832 = (-5 : Int) * (U74 : Int) := by kernel_rfl
theorem leaf_m5 : IntE (.leaf 13840687554816376832) (-5) 1132 := IntE.leaf (by decide) (by decide) fv_m5 (by decide)
theorem fv_m4 : fv 13839561654909534208 = (-4 : Int) * (U74 : Int) := by kernel_rfl
theorem leaf_m4 : IntE (.leaf 13839561654909534208) (-4) 1132 := IntE.leaf (by decide) (by decide) fv_m4 (by decide)
theorem fv_m3 : fv 13837309855095848960 = (-3 : Int) * (U74 : Int) := by kernel_rfl
theorem leaf_m3 : IntE (.leaf 13837309855095848960) (-3) 1132 := IntE.leaf (by decide) (by decide) fv_m3 (by decide)
theorem fv_m1 : fv 13830554455654793216 = (-1 : Int) * (U74 : Int) := by kernel_rfl
theorem leaf_m1 : IntE (.leaf 13830554455654793216) (-1) 1132 := IntE.leaf (by decide) (by decide) fv_m1 (by decide)
theorem fv_p0 : fv 0 = (0 : Int) * (U74 : Int) := by kernel_rfl
theorem leaf_p0 : IntE (.leaf 0) (0) 1132 := IntE.leaf (by decide) (by decide) fv_p0 (by decide)
theorem fv_p1 : fv 4607182418800017408 = (1 : Int) * (U74 : Int) := by kernel_rfl
theorem leaf_p1 : IntE (.leaf 4607182418800017408) (1) 1132 := IntE.leaf (by decide) (by decide) fv_p1 (by decide)
theorem fv_p2 : fv 4611686018427387904 = (2 : Int) * (U74 : Int) := by kernel_rfl
theorem leaf_p2 : IntE (.leaf 4611686018427387904) (2) 1132 := IntE.leaf (by decide) (by decide) fv_p2 (by decide)
theorem fv_p3 : fv 4613937818241073152 = (3 : Int) * (U74 : Int) := by kernel_rfl
theorem leaf_p3 : IntE (.leaf 4613937818241073152) (3) 1132 := IntE.leaf (by decide) (by decide) fv_p3 (by decide)
theorem fv_p4 : fv 4616189618054758400 = (4 : Int) * (U74 : Int) := by kernel_rfl
theorem leaf_p4 : IntE (.leaf 4616189618054758400) (4) 1132 := IntE.leaf (by decide) (by decide) fv_p4 (by decide)
theorem fv_p5 : fv 4617315517961601024 = (5 : Int) * (U74 : Int) := by kernel_rfl
theorem leaf_p5 : IntE (.leaf 4617315517961601024) (5) 1132 := IntE.leaf (by decide) (by decide) fv_p5 (by decide)
theorem rim_at {J : Nat} (h : J < 12) : ([.float .f64 4617315517961601024, .float .f64 0, .float .f64 4616189618054758400, .float .f64 4613937818241073152, .float .f64 4613937818241073152, .float .f64 4616189618054758400, .float .f64 0, .float .f64 4617315517961601024, .float .f64 13837309855095848960, .float .f64 4616189618054758400, .float .f64 13839561654909534208, .float .f64 4613937818241073152, .float .f64 13840687554816376832, .float .f64 0, .float .f64 13839561654909534208, .float .f64 13837309855095848960, .float .f64 13837309855095848960, .float .f64 13839561654909534208, .float .f64 0, .float .f64 13840687554816376832, .float .f64 4613937818241073152, .float .f64 13839561654909534208, .float .f64 4616189618054758400, .float .f64 13837309855095848960] : List Value)[J * 2]? = some (.float .f64 (rimX J)) ∧ ([.float .f64 4617315517961601024, .float .f64 0, .float .f64 4616189618054758400, .float .f64 4613937818241073152, .float .f64 4613937818241073152, .float .f64 4616189618054758400, .float .f64 0, .float .f64 4617315517961601024, .float .f64 13837309855095848960, .float .f64 4616189618054758400, .float .f64 13839561654909534208, .float .f64 4613937818241073152, .float .f64 13840687554816376832, .float .f64 0, .float .f64 13839561654909534208, .float .f64 13837309855095848960, .float .f64 13837309855095848960, .float .f64 13839561654909534208, .float .f64 0, .float .f64 13840687554816376832, .float .f64 4613937818241073152, .float .f64 13839561654909534208, .float .f64 4616189618054758400, .float .f64 13837309855095848960] : List Value)[J * 2 + 1]? = some (.float .f64 (rimY J)) := by
  have : J = 0 ∨ J = 1 ∨ J = 2 ∨ J = 3 ∨ J = 4 ∨ J = 5 ∨ J = 6 ∨ J = 7 ∨ J = 8 ∨ J = 9 ∨ J = 10 ∨ J = 11 := by omega
  rcases this with rfl | rfl | rfl | rfl | rfl | rfl | rfl | rfl | rfl | rfl | rfl | rfl <;> exact ⟨rfl, rfl⟩
theorem rim_int {J : Nat} (h : J < 12) : IntE (.leaf (rimX J)) (rimXi J) 1132 ∧ IntE (.leaf (rimY J)) (rimYi J) 1132 := by
  have : J = 0 ∨ J = 1 ∨ J = 2 ∨ J = 3 ∨ J = 4 ∨ J = 5 ∨ J = 6 ∨ J = 7 ∨ J = 8 ∨ J = 9 ∨ J = 10 ∨ J = 11 := by omega
  rcases this with rfl | rfl | rfl | rfl | rfl | rfl | rfl | rfl | rfl | rfl | rfl | rfl
  · exact ⟨leaf_p5, leaf_p0⟩
  · exact ⟨leaf_p4, leaf_p3⟩
  · exact ⟨leaf_p3, leaf_p4⟩
  · exact ⟨leaf_p0, leaf_p5⟩
  · exact ⟨leaf_m3, leaf_p4⟩
  · exact ⟨leaf_m4, leaf_p3⟩
  · exact ⟨leaf_m5, leaf_p0⟩
  · exact ⟨leaf_m4, leaf_m3⟩
  · exact ⟨leaf_m3, leaf_m4⟩
  · exact ⟨leaf_p0, leaf_m5⟩
  · exact ⟨leaf_p3, leaf_m4⟩
  · exact ⟨leaf_p4, leaf_m3⟩
theorem rim_sm {J : Nat} (h : J < 12) : Sm1 (rimXi J) ∧ Sm1 (rimYi J) ∧ rimX J < 18446744073709551616 ∧ rimY J < 18446744073709551616 ∧ fin (rimX J) ∧ fin (rimY J) := by
  have : J = 0 ∨ J = 1 ∨ J = 2 ∨ J = 3 ∨ J = 4 ∨ J = 5 ∨ J = 6 ∨ J = 7 ∨ J = 8 ∨ J = 9 ∨ J = 10 ∨ J = 11 := by omega
  rcases this with rfl | rfl | rfl | rfl | rfl | rfl | rfl | rfl | rfl | rfl | rfl | rfl <;> (refine ⟨?_, ?_, ?_, ?_, ?_, ?_⟩ <;> first | (unfold Sm1; decide) | decide)
/-- a point comes back; the kept blocks are kept -/
def RetSp2 (P : Ex → Prop) (B N : Nat) (w : World) (g : Nat) (ns ns' : List Nd) (l : List (Nat × Obj)) (x y : Ex) (e : Ending) (W' : World) : Prop :=
  ∃ (i j : Nat) (ns'' : List Nd), e = .returned (spotV g i j) ∧ Stg P B N w g ns W' ns'' l ∧ ns' <+: ns'' ∧ Is ns'' x i ∧ Is ns'' y j
theorem RetSp.kept {P : Ex → Prop} {B N M : Nat} {w W W' : World} {g : Nat} {ns ns' : List Nd} {l : List (Nat × Obj)} {x y : Ex} {e : Ending} (h : Stg P B N w g ns W ns' l) (hr : RetSp P B M W g ns' x y e W') : RetSp2 P B M w g ns ns' l x y e W' := by
  obtain ⟨i, j, ns'', e1, h1, h2, h3, h4, h5⟩ := hr
  exact ⟨i, j, ns'', e1, h.step h1 h2 h5, h2, h3, h4⟩
theorem atK {P : Ex → Prop} {B N : Nat} {w W : World} {g x y : Nat} {ns ns' : List Nd} {l : List (Nat × Obj)} (h : Stg P B N w g ns W ns' l) (hN : N + 1 < 20000) (hx : x < 18446744073709551616) (hy : y < 18446744073709551616) (fx : fin x) (fy : fin y) (hP : P (.leaf x)) (hQ : P (.leaf y)) :
    Calls Tryz.prog 17 #[.pointer (some ⟨g, 0, none⟩), .float .f64 x, .float .f64 y] W (RetSp2 P B (N + 2) w g ns ns' l (.leaf x) (.leaf y)) := (at_spot h.st hN hx hy fx fy hP hQ).mono fun _ _ hr => hr.kept h
theorem Stg.write4 {P : Ex → Prop} {B N : Nat} {w W : World} {g b : Nat} {ns ns' : List Nd} {l : List (Nat × Obj)} {T : TypeId} {a c d e x y z u : Value} (h : Stg P B N w g ns W ns' ((b, .cells #[a, c, d, e] T) :: l)) : Stg P B N w g ns ((((W.setCell ⟨b, 0, none⟩ x).setCell ⟨b, 1, none⟩ y).setCell ⟨b, 2, none⟩ z).setCell ⟨b, 3, none⟩ u) ns' ((b, .cells #[x, y, z, u] T) :: l) :=
  h.write (grownBy_set (grownBy_set (grownBy_set (grownBy_set (grownBy_refl W (some b)) x) y) z) u) (set4 h.hd x y z u)
abbrev zeroSO : Obj := .cells #[.pointer none, .int .i64 0, .pointer none, .int .i64 0] 29
set_option maxHeartbeats 12800000 in
set_option maxRecDepth 100000 in
theorem rim_any {B N : Nat} {w : World} {g J : Nat} {ns : List Nd} {k : Int} (hs : St PS B N w g ns) (hN : N + 1 < 20000) (hJ : J < 12) (hk : (k.tmod 12 + 12).tmod 12 = (J : Int)) :
    Calls Tryz.prog 28 #[.pointer (some ⟨g, 0, none⟩), .int .i64 k] w (RetSp PS B (N + 2) w g ns (.leaf (rimX J)) (.leaf (rimY J))) := by
  obtain ⟨q1, q2⟩ := rim_at hJ
  have ht : -12 < k.tmod 12 ∧ k.tmod 12 < 12 := ⟨Int.lt_tmod_of_pos _ (by decide), Int.tmod_lt_of_pos _ (by decide)⟩
  have hw : wrap64 (k.tmod 12 + 12) = k.tmod 12 + 12 := by unfold wrap64; omega
  obtain ⟨-, -, b1, b2, f1, f2⟩ := rim_sm hJ
  have HI := Lib.hid (rim_int hJ)
  have j1 : (J : Int) < 12 := by omega
  have HS := Lib.hid hs; have HFF := Lib.hid (And.intro b1 (And.intro b2 (And.intro f1 (And.intro f2 hN))))
  obtain ⟨w1, hw1, hb1, hs1, e1⟩ := pro1 w (.cells #[.pointer none, .int .i64 0, .pointer none, .int .i64 0] 29)
  have hst := store_float
  have HAT : Hid (∀ o1 o2 : Obj, Calls Tryz.prog 17 #[.pointer (some ⟨g, 0, none⟩), .float .f64 (rimX J), .float .f64 (rimY J)] ((w1.alloc o1).alloc o2) (RetSp2 PS B (N + 2) w g ns ns [(w.heap.size, zeroSO)] (.leaf (rimX J)) (.leaf (rimY J)))) := Lib.hid fun o1 o2 => by
    have h := (((Stg.start hs).alloc zeroSO).alloc o1).alloc o2
    rw [hw1] at h
    exact atK h.tl.tl hN b1 b2 f1 f2 HI.out.1.ps HI.out.2.ps
  clear hs hN ht hJ b1 b2 f1 f2 HI hb1 hs1 e1 HS HFF
  generalize rimX J = X at *
  generalize rimY J = Y at *
  go_enter Tryz.func28, Tryz.ntmps28
  go_wp2_with fail
  refine (HAT.out _ _).mono ?_
  rintro e w4 ⟨i, j, ns4, rfl, h1, h2, h3, h4⟩
  obtain ⟨c0, c1, c2, c3⟩ := cells4 h1.hd
  obtain ⟨r0, r1, r2, r3⟩ := free4 h1.hd
  have HX := h1.write4 (x := .pointer (some ⟨g, 0, none⟩)) (y := .int .i64 (i : Int)) (z := .pointer (some ⟨g, 0, none⟩)) (u := .int .i64 (j : Int))
  have HF := Lib.hid (And.intro HX (And.intro h3 h4))
  dsimp only at c0 c1 c2 c3 r0 r1 r2 r3
  clear h1 h2 h3 h4 HX
  go_wp2
  obtain ⟨x0, x1, x2, x3⟩ := cells4 HF.out.1.hd
  refine bodyPost_ret (v := .agg #[_, _, _, _]) (by simp [results, Tryz.results28, go_sem, x0, x1, x2, x3]; first | exact ⟨rfl, rfl, rfl, rfl⟩ | rfl) rfl ?_
  exact ⟨i, j, ns4, rfl, HF.out.1.st, HF.out.1.pre, HF.out.2.1, HF.out.2.2, HF.out.1.grew.2.2⟩
end Go.Proofs.YtgodkfgnhpnhcaaGreatDoor
/- compasslaw21.alive. -/
namespace Go.Proofs.YtgodkfgnhpnhcaaGreatDoor
open Go.RowKit Go.Maps
section
variable {P : Ex → Prop} {B N M : Nat} {w W W' : World} {g : Nat} {ns ns' : List Nd} {l : List (Nat × Obj)} {ax ay bx ey cx cy : Nat} {AX AY BX EY CX CY : Ex} {c1 c2 c3 s : Int}
theorem roundK (h : Stg P B N w g ns W ns' l) (hN : N + 13 ≤ 20000) (hax : Is ns' AX ax) (hay : Is ns' AY ay) (hbx : Is ns' BX bx) (hey : Is ns' EY ey) (hcx : Is ns' CX cx) (hcy : Is ns' CY cy)
    (h1 : CmpOk P AX AY BX EY c1) (h2 : CmpOk P CX CY AX AY c2) (h3 : CmpOk P CX CY BX EY c3) (ht : TurnOk P AX AY CX CY BX EY s) :
    Calls Tryz.prog 27 #[spotV g ax ay, spotV g bx ey, spotV g cx cy] W (RetQ2 P B (N + 13) w g ns ns' l (.tuple #[.bool (roundB c1 c2 c3 s), .nilIface])) :=
  (round_side h.st hN hax hay hbx hey hcx hcy h1 h2 h3 ht).mono fun _ _ hr => hr.kept h
theorem betweenK (h : Stg P B N w g ns W ns' l) (hN : N + 6 ≤ 20000) (hax : Is ns' AX ax) (hay : Is ns' AY ay) (hbx : Is ns' BX bx) (hey : Is ns' EY ey) (hcx : Is ns' CX cx) (hcy : Is ns' CY cy)
    (h1 : CmpOk P AX AY BX EY c1) (h2 : CmpOk P CX CY AX AY c2) (h3 : CmpOk P CX CY BX EY c3) (k1 : c1 ≤ 0) (k2 : 0 ≤ c2) :
    Calls Tryz.prog 72 #[spotV g ax ay, spotV g bx ey, spotV g cx cy] W (RetQ2 P B (N + 6) w g ns ns' l (.tuple #[.bool (decide (c3 ≤ 0)), .nilIface])) :=
  (between_side h.st hN hax hay hbx hey hcx hcy h1 h2 h3 k1 k2).mono fun _ _ hr => hr.kept h
/-- all that the law has made lies behind w -/
theorem Stg.back {w0 : World} (h : Stg P w0.heap.size N w g ns W ns' l) (hb : Below w0.heap.size w0 w) (hh : DagHi w0.heap.size g w) : Below w0.heap.size w0 W :=
  hb.trans (h.grew.2.2.below hb.size hh)
end
/-- integer points compare, turn, and lie around a circle -/
theorem round_int {A A' B B' C C' : Ex} {ax ay bx ey cx cy : Int} (h1 : IntE A ax 1132 ∧ IntE A' ay 1132) (h3 : IntE B bx 1132 ∧ IntE B' ey 1132) (h5 : IntE C cx 1132 ∧ IntE C' cy 1132)
    (s1 : Sm1 ax ∧ Sm1 ay) (s3 : Sm1 bx ∧ Sm1 ey) (s5 : Sm1 cx ∧ Sm1 cy) :
    CmpOk PS A A' B B' (lexZ ax ay bx ey) ∧ CmpOk PS C C' A A' (lexZ cx cy ax ay) ∧ CmpOk PS C C' B B' (lexZ cx cy bx ey) ∧ TurnOk PS A A' C C' B B' (detZ ax ay cx cy bx ey).sign :=
  ⟨cmp_int h1.1 h1.2 h3.1 h3.2 s1.1 s1.2 s3.1 s3.2, cmp_int h5.1 h5.2 h1.1 h1.2 s5.1 s5.2 s1.1 s1.2, cmp_int h5.1 h5.2 h3.1 h3.2 s5.1 s5.2 s3.1 s3.2, turn_int h1.1 h1.2 h5.1 h5.2 h3.1 h3.2 s1.1 s1.2 s5.1 s5.2 s3.1 s3.2⟩
set_option maxHeartbeats 12800000 in
set_option maxRecDepth 100000 in
theorem alive21 {w : World} (hT : Tab w) (htb : 1 < w.heap.size) :
    Calls Tryz.prog 26 #[] w (RetV w (.bool true)) := by
  have HN := Lib.hid (new_any (P := PS) hT htb (Nat.le_refl _))
  clear hT htb
  have R1 := Lib.hid (round_int ⟨leaf_p1, leaf_p0⟩ ⟨leaf_p0, leaf_p1⟩ ⟨leaf_m1, leaf_p0⟩ (by unfold Sm1; decide) (by unfold Sm1; decide) (by unfold Sm1; decide))
  have R2 := Lib.hid (round_int ⟨leaf_p1, leaf_p0⟩ ⟨leaf_p3, leaf_p0⟩ ⟨leaf_p2, leaf_p0⟩ (by unfold Sm1; decide) (by unfold Sm1; decide) (by unfold Sm1; decide))
  go_enter Tryz.func26, Tryz.ntmps26
  go_wp2_with fail
  refine HN.out.mono ?_
  rintro e w1 ⟨g, rfl, hs, hb, hg⟩
  have HB := Lib.hid (And.intro hb hs.hi)
  have A1 := Lib.hid (atK (x := 4607182418800017408) (y := 0) (Stg.start hs) (by omega) (by decide) (by decide) (by decide) (by decide) leaf_p1.ps leaf_p0.ps)
  clear hs hb hg HN
  go_wp2_with fail
  refine A1.out.mono ?_
  rintro e w2 ⟨i1, j1, ns2, rfl, h2, -, x1, y1⟩
  have A2 := Lib.hid (atK (x := 0) (y := 4607182418800017408) h2 (by omega) (by decide) (by decide) (by decide) (by decide) leaf_p0.ps leaf_p1.ps)
  have I1 := Lib.hid (And.intro x1 y1)
  clear h2 x1 y1 A1
  go_wp2_with fail
  refine A2.out.mono ?_
  rintro e w3 ⟨i2, j2, ns3, rfl, h3, p3, x2, y2⟩
  have A3 := Lib.hid (atK (x := 13830554455654793216) (y := 0) h3 (by omega) (by decide) (by decide) (by decide) (by decide) leaf_m1.ps leaf_p0.ps)
  have I2 := Lib.hid (And.intro (And.intro (I1.out.1.mono p3) (I1.out.2.mono p3)) (And.intro x2 y2))
  clear h3 p3 x2 y2 A2
  go_wp2_with fail
  refine A3.out.mono ?_
  rintro e w4 ⟨i3, j3, ns4, rfl, h4, p4, x3, y3⟩
  have A4 := Lib.hid (roundK h4 (by omega) (I2.out.1.1.mono p4) (I2.out.1.2.mono p4) (I2.out.2.1.mono p4) (I2.out.2.2.mono p4) x3 y3 R1.out.1 R1.out.2.1 R1.out.2.2.1 R1.out.2.2.2)
  rw [show roundB (lexZ 1 0 0 1) (lexZ (-1) 0 1 0) (lexZ (-1) 0 0 1) (detZ 1 0 (-1) 0 0 1).sign = false by decide] at A4
  clear h4 p4 x3 y3 A3
  go_wp2_with fail
  refine A4.out.mono ?_
  rintro e w5 ⟨rfl, ns5, h5, -⟩
  have A5 := Lib.hid (atK (x := 4607182418800017408) (y := 0) h5 (by omega) (by decide) (by decide) (by decide) (by decide) leaf_p1.ps leaf_p0.ps)
  clear h5 A4
  go_wp2_with fail
  refine A5.out.mono ?_
  rintro e w6 ⟨i4, j4, ns6, rfl, h6, p6, x4, y4⟩
  have A6 := Lib.hid (atK (x := 4613937818241073152) (y := 0) h6 (by omega) (by decide) (by decide) (by decide) (by decide) leaf_p3.ps leaf_p0.ps)
  have I3 := Lib.hid (And.intro x4 y4)
  clear h6 p6 x4 y4 A5
  go_wp2_with fail
  refine A6.out.mono ?_
  rintro e w7 ⟨i5, j5, ns7, rfl, h7, p7, x5, y5⟩
  have A7 := Lib.hid (atK (x := 4611686018427387904) (y := 0) h7 (by omega) (by decide) (by decide) (by decide) (by decide) leaf_p2.ps leaf_p0.ps)
  have I4 := Lib.hid (And.intro (And.intro (I3.out.1.mono p7) (I3.out.2.mono p7)) (And.intro x5 y5))
  clear h7 p7 x5 y5 A6
  go_wp2_with fail
  refine A7.out.mono ?_
  rintro e w8 ⟨i6, j6, ns8, rfl, h8, p8, x6, y6⟩
  have A8 := Lib.hid (betweenK h8 (by omega) (I4.out.1.1.mono p8) (I4.out.1.2.mono p8) (I4.out.2.1.mono p8) (I4.out.2.2.mono p8) x6 y6 R2.out.1 R2.out.2.1 R2.out.2.2.1 (by decide) (by decide))
  rw [show decide (lexZ 2 0 3 0 ≤ 0) = true by decide] at A8
  clear h8 p8 x6 y6 A7
  go_wp2_with fail
  refine A8.out.mono ?_
  rintro e w9 ⟨rfl, ns9, h9, -⟩
  have HF := Lib.hid (h9.back HB.out.1 HB.out.2)
  clear h9 A8
  go_wp2
  go_ret
  exact ⟨rfl, HF.out⟩
end Go.Proofs.YtgodkfgnhpnhcaaGreatDoor
