/- A part of the proof: contracts of functions and plain laws (LawF, FlA, FlB, FlC, FlD, FlE, FlF, FlG). -/
import Derived.Test.YtgodkfgnhpnhcaaGreatDoorJ21
import Derived.Test.YtgodkfgnhpnhcaaGreatDoorJ14
import Derived.LaidEql
import Derived.Lib.IfaceEq
import Derived.Stop.Asserts
import Derived.Recover
import Derived.Defers
import Derived.Test.YtgodkfgnhpnhcaaGreatDoorJ19
set_option linter.unusedVariables false
set_option linter.unusedSimpArgs false
/- A float64 as a law's argument. -/
namespace Go.Proofs.YtgodkfgnhpnhcaaGreatDoor
open Go.ChangeShapes Go.WideShapes Go.ChangeAt Go.RowKit
section
variable {H : Type} {enc : TypeId × Value → H} {P : Program} {w : World} {base : Nat} {spare : Nat → Bool} {held : Bool}
theorem okWide_flt {r : Reach} {b0 : Nat} {t : TypeId} {k : FloatKind} {v : Value} (ht : P.underlying t = some (.float k)) (h : Value.okWide P w r b0 t v) : ∃ n, v = .float k n := by
  simp only [Value.okWide, ht, Cell.okWide] at h
  cases v <;> simp_all [Cell.ok]
theorem trod_flt {fuel : Nat} {t : TypeId} {k : FloatKind} {cs : List Value} {x : DataW H × List MemPlace} (ht : P.underlying t = some (.float k)) (h : DataW.trod enc P w base spare held fuel t cs = some x) : ∃ n, cs = [.float k n] ∧ x = (.lit (.float k n), []) ∧ (Lit.float k n).wf = true := by
  cases fuel with
  | zero => simp [DataW.trod] at h
  | succ n =>
    unfold DataW.trod at h
    rw [ht] at h
    split at h <;> simp_all
theorem open_flt {r : Reach} {b0 : Nat} {t : TypeId} {k : FloatKind} {v : Value} {d : DataW H} {ps : List MemPlace} (ht : P.underlying t = some (.float k)) (hval : Value.okWide P w r b0 t v) (hd : DataW.Trod enc P w base spare held t v d ps) :
    ∃ n, v = .float k n ∧ d = .lit (.float k n) ∧ ps = [] ∧ (Lit.float k n).wf = true := by
  obtain ⟨n, rfl⟩ := okWide_flt ht hval
  obtain ⟨fuel, hf⟩ := hd
  obtain ⟨n', h, hx, hw⟩ := trod_flt ht hf
  simp [Value.cells] at h
  subst h
  simp only [Prod.mk.injEq] at hx
  exact ⟨n, rfl, hx.1, hx.2, hw⟩
theorem shut_flt {t : TypeId} {k : FloatKind} {n : Nat} (ht : P.underlying t = some (.float k)) (hw : (Lit.float k n).wf = true) : DataW.Trod enc P w base spare held t (.float k n) (.lit (.float k n)) [] :=
  ⟨1, by simp [DataW.trod, Value.cells, ht, hw]⟩
theorem flt_lt {n : Nat} (h : (Lit.float .f64 n).wf = true) : n < 18446744073709551616 := by
  simpa [Lit.wf] using h
end
end Go.Proofs.YtgodkfgnhpnhcaaGreatDoor
/- Errors of the program: a kind that is wrapped some times; one step inward. -/
namespace Go.Proofs.YtgodkfgnhpnhcaaGreatDoor
open Go.RowKit Go.Maps Go.Stop Go.Extern
/-- v is an error: the kind k, wrapped n times, by blocks of S -/
inductive ErK (S : Nat → Prop) (w : World) : Nat → Value → Int → Prop
  | kind {k : Int} : 1 ≤ k → k ≤ 7 → ErK S w 0 (.iface 135 (.int .i64 k)) k
  | inn {n b : Nat} {v : Value} {k : Int} : S b → w.cell? ⟨b, 1, none⟩ = some v → ErK S w n v k → ErK S w (n + 1) (.iface 148 (.pointer (some ⟨b, 0, none⟩))) k
  | att {n b : Nat} {v : Value} {k : Int} : S b → w.cell? ⟨b, 1, none⟩ = some v → ErK S w n v k → ErK S w (n + 1) (.iface 181 (.pointer (some ⟨b, 0, none⟩))) k
theorem ErK.block {w : World} {b : Nat} {v : Value} (h : w.cell? ⟨b, 1, none⟩ = some v) : b < w.heap.size := World.block_lt_of_cell? w _ h
theorem ErK.keep {S : Nat → Prop} {w w' : World} {n : Nat} {v : Value} {k : Int} (h : ErK S w n v k) (hb : ∀ b, S b → b < w.heap.size → w'.cell? ⟨b, 1, none⟩ = w.cell? ⟨b, 1, none⟩) : ErK S w' n v k := by
  induction h with
  | kind h1 h2 => exact .kind h1 h2
  | inn h0 h1 _ ih => exact .inn h0 ((hb _ h0 (ErK.block h1)).trans h1) ih
  | att h0 h1 _ ih => exact .att h0 ((hb _ h0 (ErK.block h1)).trans h1) ih
theorem ErK.mono {S T : Nat → Prop} {w : World} {n : Nat} {v : Value} {k : Int} (h : ErK S w n v k) (hb : ∀ b, S b → b < w.heap.size → T b) : ErK T w n v k := by
  induction h with
  | kind h1 h2 => exact .kind h1 h2
  | inn h0 h1 _ ih => exact .inn (hb _ h0 (ErK.block h1)) h1 ih
  | att h0 h1 _ ih => exact .att (hb _ h0 (ErK.block h1)) h1 ih
theorem ErK.low {S : Nat → Prop} {w w' : World} {n : Nat} {v : Value} {k : Int} (h : ErK S w n v k) (hb : Below w.heap.size w w') : ErK S w' n v k :=
  h.keep fun _ _ hl => World.cell?_of_block (hb.block _ hl)
theorem ErK.bound {S : Nat → Prop} {w : World} {n : Nat} {v : Value} {k : Int} (h : ErK S w n v k) : 1 ≤ k ∧ k ≤ 7 := by
  induction h with
  | kind h1 h2 => exact ⟨h1, h2⟩
  | inn _ _ _ ih => exact ih
  | att _ _ _ ih => exact ih
theorem ErK.det {S T : Nat → Prop} {w : World} {n : Nat} {v : Value} {k : Int} (h : ErK S w n v k) : ∀ {m : Nat} {j : Int}, ErK T w m v j → n = m := by
  induction h with
  | kind h1 h2 => intro m j h; cases h; rfl
  | inn _ h1 _ ih =>
    intro m j h; cases h with
    | inn _ g1 g2 => rw [h1] at g1; cases g1; rw [ih g2]
  | att _ h1 _ ih =>
    intro m j h; cases h with
    | att _ g1 g2 => rw [h1] at g1; cases g1; rw [ih g2]
/-- how often an error is wrapped -/
noncomputable def edep (w : World) (v : Value) : Nat := by
  classical
  exact if h : ∃ n k, ErK (fun _ => True) w n v k then Classical.choose h else 0
theorem ErK.edep {S : Nat → Prop} {w : World} {n : Nat} {v : Value} {k : Int} (h : ErK S w n v k) : edep w v = n := by
  unfold Go.Proofs.YtgodkfgnhpnhcaaGreatDoor.edep
  have hx : ∃ n k, ErK (fun _ => True) w n v k := ⟨n, k, h.mono fun _ _ _ => trivial⟩
  rw [dif_pos hx]
  obtain ⟨j, hj⟩ := Classical.choose_spec hx
  exact hj.det h
theorem inUnwrap {w : World} {b : Nat} {v : Value} (h : w.cell? ⟨b, 1, none⟩ = some v) :
    Calls Tryz.prog 307 #[.pointer (some ⟨b, 0, none⟩)] w (fun e w' => e = .returned v ∧ w' = w) := by
  go_enter Tryz.func307, Tryz.ntmps307
  go_wp2
  go_ret
  exact ⟨rfl, rfl⟩
theorem atUnwrap {w : World} {b : Nat} {v : Value} (h : w.cell? ⟨b, 1, none⟩ = some v) :
    Calls Tryz.prog 310 #[.pointer (some ⟨b, 0, none⟩)] w (fun e w' => e = .returned v ∧ w' = w) := by
  go_enter Tryz.func310, Tryz.ntmps310
  go_wp2
  go_ret
  exact ⟨rfl, rfl⟩
theorem kindNoUnwrap (v : Value) (xT : TypeId) (w : World) : (Instr.typeAssert (.iface 135 v) xT 191 true).run Tryz.prog w = .ok (.tuple #[.nilIface, .bool false]) w := run_typeAssert_lacksB Tryz.underlying191 (by kernel_rfl) (by kernel_rfl) v xT w
theorem kindNoUnwraps (v : Value) (xT : TypeId) (w : World) : (Instr.typeAssert (.iface 135 v) xT 192 true).run Tryz.prog w = .ok (.tuple #[.nilIface, .bool false]) w := run_typeAssert_lacksB Tryz.underlying192 (by kernel_rfl) (by kernel_rfl) v xT w
theorem kindNoIs (v : Value) (xT : TypeId) (w : World) : (Instr.typeAssert (.iface 135 v) xT 189 true).run Tryz.prog w = .ok (.tuple #[.nilIface, .bool false]) w := run_typeAssert_lacksB Tryz.underlying189 (by kernel_rfl) (by kernel_rfl) v xT w
theorem inHasUnwrap (v : Value) (xT : TypeId) (w : World) : (Instr.typeAssert (.iface 148 v) xT 191 true).run Tryz.prog w = .ok (.tuple #[.iface 148 v, .bool true]) w := run_typeAssert_hasB Tryz.underlying191 (by kernel_rfl) v xT w
theorem inNoIs (v : Value) (xT : TypeId) (w : World) : (Instr.typeAssert (.iface 148 v) xT 189 true).run Tryz.prog w = .ok (.tuple #[.nilIface, .bool false]) w := run_typeAssert_lacksB Tryz.underlying189 (by kernel_rfl) (by kernel_rfl) v xT w
theorem atHasUnwrap (v : Value) (xT : TypeId) (w : World) : (Instr.typeAssert (.iface 181 v) xT 191 true).run Tryz.prog w = .ok (.tuple #[.iface 181 v, .bool true]) w := run_typeAssert_hasB Tryz.underlying191 (by kernel_rfl) v xT w
theorem atNoIs (v : Value) (xT : TypeId) (w : World) : (Instr.typeAssert (.iface 181 v) xT 189 true).run Tryz.prog w = .ok (.tuple #[.nilIface, .bool false]) w := run_typeAssert_lacksB Tryz.underlying189 (by kernel_rfl) (by kernel_rfl) v xT w
theorem methodUnwrapIn (v : Value) (w : World) : (Go.method 389 148 v "Unwrap").run Tryz.prog w = .ok (307, v) w := by kernel_rfl
theorem methodUnwrapAt (v : Value) (w : World) : (Go.method 389 181 v "Unwrap").run Tryz.prog w = .ok (310, v) w := by kernel_rfl
end Go.Proofs.YtgodkfgnhpnhcaaGreatDoor
namespace Go.Proofs.YtgodkfgnhpnhcaaGreatDoor
open Go.RowKit Go.Maps Go.Stop Go.Extern
set_option maxHeartbeats 6400000 in
set_option maxRecDepth 100000 in
/-- such an error has an end -/
theorem loops_err {S : Nat → Prop} {w : World} {n s : Nat} {v : Value} {k c : Int} (h : ErK S w n v k) (hc : w.cell? ⟨s, 0, none⟩ = some (.int .i64 c)) (hz : w.frozen? ⟨s, 0, none⟩ = false) (hc0 : 0 ≤ c) (hcn : c + n < 16777216) (hs : ∀ b, (∃ v, w.cell? ⟨b, 1, none⟩ = some v) → b ≠ s) :
    Calls Tryz.prog 119 #[v, .int .i64 0, .pointer (some ⟨s, 0, none⟩)] w (fun e w' => e = .returned (.bool false) ∧ Fr (fun b => b = s) w w') := by
  have HS := Lib.hid hs
  have nK := kindNoUnwrap
  have nKs := kindNoUnwraps
  have uI := inHasUnwrap
  have uA := atHasUnwrap
  have mI := methodUnwrapIn
  have mA := methodUnwrapAt
  have HH := Lib.hid h; have HC := Lib.hid hc; have HZ := Lib.hid hz
  clear hs h hc hz
  go_enter Tryz.func119, Tryz.ntmps119
  go_wp2_with fail
  go_loopw [0] (fun v' wr => ∃ n' : Nat, n' ≤ n ∧ Hid (ErK S w n' v' k) ∧ Hid (Fr (fun b => b = s) w wr) ∧ Hid (wr.cell? ⟨s, 0, none⟩ = some (.int .i64 (c + (n - n' : Nat)))) ∧ Hid (wr.frozen? ⟨s, 0, none⟩ = false)) (fun v' _ => edep w v')
  case atStart => exact ⟨n, Nat.le_refl _, HH, Lib.hid (Fr.of_below (Below.refl _ _)), Lib.hid (by rw [Nat.sub_self]; simpa using HC.out), HZ⟩
  case round =>
    obtain ⟨n', hn', HE, HF, HCC, HZZ⟩ := hrel
    have cs := HCC.out; have fs := HZZ.out
    have hle : ¬ (c + ((n - n' : Nat) : Int) + 1 > 16777216) := by omega
    have hE := HE.out
    clear HE
    cases hE with
    | kind h1 h2 =>
      go_wp2_with fail
      go_ret
      exact ⟨rfl, Fr.setCell HF.out rfl _⟩
    | @inn n1 b v1 k h0 h1 h2 =>
      have HE2 := Lib.hid h2
      have HED : Hid (edep w (.iface 148 (.pointer (some ⟨b, 0, none⟩))) = n1 + 1 ∧ edep w v1 = n1) := Lib.hid ⟨(ErK.inn h0 h1 h2).edep, h2.edep⟩
      have hbs : b ≠ s := HS.out b ⟨_, h1⟩
      have h1r : wr.cell? ⟨b, 1, none⟩ = some v1 := (World.cell?_of_block (HF.out.block b (ErK.block h1) (fun h => hbs h))).trans h1
      have HU : Hid (∀ u, Calls Tryz.prog 307 #[.pointer (some ⟨b, 0, none⟩)] (wr.setCell ⟨s, 0, none⟩ u) (fun e w'' => e = .returned v1 ∧ w'' = wr.setCell ⟨s, 0, none⟩ u)) := Lib.hid fun u => inUnwrap ((World.cell?_of_block (Below.heap_setCell wr _ u b hbs)).trans h1r)
      clear h0 h1 h2 h1r hbs
      go_wp2_with fail
      refine (HU.out _).mono ?_
      rintro e w2 ⟨rfl, rfl⟩
      go_wp2_with fail
      go_roundw
      case rel =>
        refine ⟨n1, by omega, HE2, Lib.hid (Fr.setCell HF.out rfl _), Lib.hid ?_, Lib.hid (by simp [fs])⟩
        have : ((n - n1 : Nat) : Int) = ((n - (n1 + 1) : Nat) : Int) + 1 := by omega
        rw [this, ← Int.add_assoc]
        exact World.cell?_setCell_same _ _ _ cs
      case measure => have := HED.out; simp [this]
    | @att n1 b v1 k h0 h1 h2 =>
      have HE2 := Lib.hid h2
      have HED : Hid (edep w (.iface 181 (.pointer (some ⟨b, 0, none⟩))) = n1 + 1 ∧ edep w v1 = n1) := Lib.hid ⟨(ErK.att h0 h1 h2).edep, h2.edep⟩
      have hbs : b ≠ s := HS.out b ⟨_, h1⟩
      have h1r : wr.cell? ⟨b, 1, none⟩ = some v1 := (World.cell?_of_block (HF.out.block b (ErK.block h1) (fun h => hbs h))).trans h1
      have HU : Hid (∀ u, Calls Tryz.prog 310 #[.pointer (some ⟨b, 0, none⟩)] (wr.setCell ⟨s, 0, none⟩ u) (fun e w'' => e = .returned v1 ∧ w'' = wr.setCell ⟨s, 0, none⟩ u)) := Lib.hid fun u => atUnwrap ((World.cell?_of_block (Below.heap_setCell wr _ u b hbs)).trans h1r)
      clear h0 h1 h2 h1r hbs
      go_wp2_with fail
      refine (HU.out _).mono ?_
      rintro e w2 ⟨rfl, rfl⟩
      go_wp2_with fail
      go_roundw
      case rel =>
        refine ⟨n1, by omega, HE2, Lib.hid (Fr.setCell HF.out rfl _), Lib.hid ?_, Lib.hid (by simp [fs])⟩
        have : ((n - n1 : Nat) : Int) = ((n - (n1 + 1) : Nat) : Int) + 1 := by omega
        rw [this, ← Int.add_assoc]
        exact World.cell?_setCell_same _ _ _ cs
      case measure => have := HED.out; simp [this]
set_option maxHeartbeats 6400000 in
theorem endless_err {S : Nat → Prop} {w : World} {n : Nat} {v : Value} {k : Int} (h : ErK S w n v k) (hn : n < 16777216) :
    Calls Tryz.prog 90 #[v] w (fun e w' => e = .returned (.bool false) ∧ Below w.heap.size w w') := by
  have hb1 : Below w.heap.size w (w.alloc (.cells #[.int .i64 0] 3)) := Below.alloc (Below.refl _ _) (Nat.le_refl _) _
  have h1 := h.low hb1
  have HL := Lib.hid (loops_err (s := w.heap.size) (c := 0) h1 (by simp) (by simp) (by omega) (by omega) (fun b hb => by
    obtain ⟨v', hv'⟩ := hb
    intro hbs; subst hbs
    simp at hv'))
  have HB := Lib.hid hb1
  clear h h1 hb1
  go_enter Tryz.func90, Tryz.ntmps90
  go_wp2_with fail
  refine HL.out.mono ?_
  rintro e w2 ⟨rfl, hf⟩
  have HB2 : Hid (Below w.heap.size w w2) := Lib.hid (HB.out.trans (hf.below HB.out.size (fun i hi => by omega)))
  go_wp2_with fail
  go_ret
  exact ⟨rfl, HB2.out⟩
end Go.Proofs.YtgodkfgnhpnhcaaGreatDoor
/- errors.Is of an error of the program's and a kind. -/
namespace Go.Proofs.YtgodkfgnhpnhcaaGreatDoor
open Go.RowKit Go.Maps Go.Stop Go.Extern
theorem isTypeOf (v : Value) (w : World) : (Extern.ReflectliteType.typeOf #[.iface 135 v]).run Tryz.prog w = .ok (.iface 187 (.agg #[.pointer (some ⟨4, 135, none⟩)])) w := by kernel_rfl
/-- the library's answer on a type: whether its values can be compared -/
def cmpX (args : Array Value) : Sem Value := Extern.ReflectliteType.method (fun t => do Extern.Rtype.noPackHeld "Comparable" t; pure (.bool (← typeInfo t).comparable)) args
theorem isComparable (w : World) : (cmpX #[.agg #[.pointer (some ⟨4, 135, none⟩)]]).run Tryz.prog w = .ok (.bool true) w := by kernel_rfl
theorem isMethodComparable (v : Value) (w : World) : (Go.method 389 187 v "Comparable").run Tryz.prog w = .ok (314, v) w := by kernel_rfl
theorem kindEql (a b : Int) (w : World) : (binOp .eql 34 (.iface 135 (.int .i64 a)) (.iface 135 (.int .i64 b))).run Tryz.prog w = .ok (.bool (a == b)) w :=
  Lib.run_eql_iface_int w a b Tryz.underlying34 (by kernel_rfl) Tryz.underlying135
set_option maxHeartbeats 6400000 in
set_option maxRecDepth 100000 in
theorem isin_err {S : Nat → Prop} {w : World} {n : Nat} {v : Value} {k j : Int} (h : ErK S w n v k) :
    Calls Tryz.prog 100 #[v, .iface 135 (.int .i64 j), .bool true] w (fun e w' => e = .returned (.bool (k == j)) ∧ w' = w) := by
  have nK := kindNoUnwrap
  have nKs := kindNoUnwraps
  have iK := kindNoIs
  have iI := inNoIs
  have iA := atNoIs
  have uI := inHasUnwrap
  have uA := atHasUnwrap
  have mI := methodUnwrapIn
  have mA := methodUnwrapAt
  have eq := kindEql
  have eI : ∀ (p x : Value) (w : World), (binOp .eql 34 (.iface 148 p) (.iface 135 x)).run Tryz.prog w = .ok (.bool false) w := fun p x w => run_eql_iface_types (P := Tryz.prog) _ _ p x Tryz.underlying34 (by decide) w
  have eA : ∀ (p x : Value) (w : World), (binOp .eql 34 (.iface 181 p) (.iface 135 x)).run Tryz.prog w = .ok (.bool false) w := fun p x w => run_eql_iface_types (P := Tryz.prog) _ _ p x Tryz.underlying34 (by decide) w
  have HH := Lib.hid h
  clear h
  go_enter Tryz.func100, Tryz.ntmps100
  go_wp2_with fail
  go_loopw [0] (fun v' wr => ∃ n' : Nat, n' ≤ n ∧ Hid (ErK S w n' v' k) ∧ wr = w) (fun v' _ => edep w v')
  case atStart => exact ⟨n, Nat.le_refl _, HH, rfl⟩
  case round =>
    obtain ⟨n', hn', HE, rfl⟩ := hrel
    have hE := HE.out
    clear HE
    cases hE with
    | kind h1 h2 =>
      go_wp2_with fail
      all_goals go_ret
      all_goals exact ⟨by simp_all, rfl⟩
    | @inn n1 b v1 k h0 h1 h2 =>
      have HE2 := Lib.hid h2
      have HED : Hid (edep wr (.iface 148 (.pointer (some ⟨b, 0, none⟩))) = n1 + 1 ∧ edep wr v1 = n1) := Lib.hid ⟨(ErK.inn h0 h1 h2).edep, h2.edep⟩
      have HU := Lib.hid (inUnwrap h1)
      have hnn : ∃ t x, v1 = .iface t x := by cases h2 <;> exact ⟨_, _, rfl⟩
      obtain ⟨vt, vx, hvv⟩ := hnn
      subst hvv
      clear h0 h1 h2
      go_wp2_with fail
      refine HU.out.mono ?_
      rintro e w2 ⟨rfl, rfl⟩
      go_wp2_with fail
      go_roundw
      case rel => exact ⟨n1, by omega, HE2, trivial⟩
      case measure => have := HED.out; simp [this]
    | @att n1 b v1 k h0 h1 h2 =>
      have HE2 := Lib.hid h2
      have HED : Hid (edep wr (.iface 181 (.pointer (some ⟨b, 0, none⟩))) = n1 + 1 ∧ edep wr v1 = n1) := Lib.hid ⟨(ErK.att h0 h1 h2).edep, h2.edep⟩
      have HU := Lib.hid (atUnwrap h1)
      have hnn : ∃ t x, v1 = .iface t x := by cases h2 <;> exact ⟨_, _, rfl⟩
      obtain ⟨vt, vx, hvv⟩ := hnn
      subst hvv
      clear h0 h1 h2
      go_wp2_with fail
      refine HU.out.mono ?_
      rintro e w2 ⟨rfl, rfl⟩
      go_wp2_with fail
      go_roundw
      case rel => exact ⟨n1, by omega, HE2, trivial⟩
      case measure => have := HED.out; simp [this]
set_option maxHeartbeats 6400000 in
set_option maxRecDepth 100000 in
theorem is_err {S : Nat → Prop} {w : World} {n : Nat} {v : Value} {k j : Int} (h : ErK S w n v k) :
    Calls Tryz.prog 61 #[v, .iface 135 (.int .i64 j)] w (fun e w' => e = .returned (.bool (k == j)) ∧ w' = w) := by
  have hnn : ∃ t x, v = .iface t x := by cases h <;> exact ⟨_, _, rfl⟩
  obtain ⟨vt, vx, rfl⟩ := hnn
  have h8 := @run_callFunc_extern Tryz.prog 99 _ Extern.ReflectliteType.typeOf Tryz.func99 (by kernel_rfl) (by kernel_rfl) (by kernel_rfl) (by kernel_rfl)
  have h32 := @run_callFunc_extern Tryz.prog 314 _ cmpX Tryz.func314 (by kernel_rfl) (by kernel_rfl) (by kernel_rfl) (by kernel_rfl)
  have tT := isTypeOf
  have cT := isComparable
  have mR := isMethodComparable
  have HH := Lib.hid (isin_err (j := j) h)
  clear h
  go_enter Tryz.func61, Tryz.ntmps61
  go_wp2_with fail
  refine HH.out.mono ?_
  rintro e w2 ⟨rfl, rfl⟩
  go_wp2_with fail
  go_ret
  exact ⟨rfl, rfl⟩
end Go.Proofs.YtgodkfgnhpnhcaaGreatDoor
/- fail.Code tells an error's kind. -/
namespace Go.Proofs.YtgodkfgnhpnhcaaGreatDoor
open Go.RowKit Go.Maps Go.Stop Go.Extern
theorem code_idle (p : Addr) (w : World) :
    CallsD Tryz.prog 89 #[.pointer (some p)] .returning w fun e u' w' => e = .returned (.tuple #[]) ∧ u' = .returning ∧ w' = w := by
  refine callsD_of_wpS Tryz.func89 rfl fun c₀ cs hu => ?_
  apply wpS_seq
  apply wpS_region
  simp [wpOpsS, go_sem, recoverD, hu, Tryz.ntmps89, Exit.thenS]
  refine wpS_cond (t := false) (by simp [Act.eval, Array.replicate]) ?_
  simp only [Bool.false_eq_true, if_false]
  refine wpS_of_wp (wp_skip ?_)
  cases c₀
  simp_all [bodyPostS, results, Tryz.results89]
set_option maxHeartbeats 6400000 in
set_option maxRecDepth 100000 in
theorem code_err {S : Nat → Prop} {w : World} {n : Nat} {v : Value} {k : Int} (h : ErK S w n v k) (hn : n < 16777216) :
    Calls Tryz.prog 48 #[v] w (fun e w' => e = .returned (.int .i64 k) ∧ Below w.heap.size w w') := by
  have hmf : ∀ (fn : Fn) (first cap : Array Value) (w : World), (Instr.makeFunc fn first cap).run Tryz.prog w = .ok (.func fn first cap) w := fun _ _ _ _ => rfl
  have hnn : ∃ t x, v = .iface t x := by cases h <;> exact ⟨_, _, rfl⟩
  obtain ⟨vt, vx, rfl⟩ := hnn
  have hbd := h.bound
  obtain ⟨w1, hw1, hb1, hs1, b1⟩ := pro1 w (.cells #[.int .i64 0] 3)
  have HE1 := Lib.hid (endless_err (h.low hb1) hn)
  have HB1 := Lib.hid hb1
  have HIS : Hid (∀ w' j, Below w.heap.size w w' → Calls Tryz.prog 61 #[.iface vt vx, .iface 135 (.int .i64 j)] w' (fun e w'' => e = .returned (.bool (k == j)) ∧ w'' = w')) := Lib.hid fun w' j h' => is_err (h.low h')
  clear h
  go_enter_defers Tryz.func48, Tryz.ntmps48
  have c0 : w1.cell? ⟨w.heap.size, 0, none⟩ = some (.int .i64 0) := by simp [← hw1]
  have z0 : w1.frozen? ⟨w.heap.size, 0, none⟩ = false := by simp [← hw1]
  go_wp2_with fail
  refine HE1.out.mono ?_
  rintro e w2 ⟨rfl, hb2⟩
  have c2 : w2.cell? ⟨w.heap.size, 0, none⟩ = some (.int .i64 0) := cell_below c0 hb2 (by omega)
  have z2 : w2.frozen? ⟨w.heap.size, 0, none⟩ = false := (hb2.frozen (by simp [hs1])).trans z0
  have HB2 := Lib.hid (HB1.out.trans (hb2.mono HB1.out.size))
  clear hb2 c0 z0
  go_wp2_with fail
  go_loopw [3] (fun i wr => ∃ j : Int, 1 ≤ j ∧ j ≤ k ∧ i = .int .i64 j ∧ wr = w2) (fun i _ => (8 - intOf i).toNat)
  case atStart => exact ⟨1, by omega, hbd.1, rfl, rfl⟩
  case round =>
    obtain ⟨j, hj1, hjk, rfl, rfl⟩ := hrel
    have h7 : j ≤ 7 := by omega
    go_wp2_with fail
    refine (HIS.out _ j HB2.out).mono ?_
    rintro e w3 ⟨rfl, rfl⟩
    by_cases hkj : k = j
    · subst hkj
      have hbk : (k == k) = true := by simp
      rw [hbk]
      go_wp2_with fail
      refine leaves_cons (f := 89) (args := #[.pointer (some ⟨w.heap.size, 0, none⟩)]) (by simp) (by simp [go_sem]) ?_
      refine (code_idle ⟨w.heap.size, 0, none⟩ _).mono ?_
      rintro e u' w'' ⟨rfl, rfl, rfl⟩
      have HF := HB2.out.setCell (p := ⟨w.heap.size, 0, none⟩) (Nat.le_refl _) (.int .i64 k)
      simp [Leaves, settle, results, Tryz.results48, go_sem, c2]
      exact HF
    · have hbk : (k == j) = false := by simp [hkj]
      rw [hbk]
      go_wp2_with fail
      go_roundw
      case rel => exact ⟨j + 1, by omega, by omega, by go_num, trivial⟩
      case measure => simp [intOf]; omega
set_option maxHeartbeats 6400000 in
theorem code_nil {w : World} :
    Calls Tryz.prog 48 #[.nilIface] w (fun e w' => e = .returned (.int .i64 0) ∧ Below w.heap.size w w') := by
  have hmf : ∀ (fn : Fn) (first cap : Array Value) (w : World), (Instr.makeFunc fn first cap).run Tryz.prog w = .ok (.func fn first cap) w := fun _ _ _ _ => rfl
  have HB : Hid (Below w.heap.size w (w.alloc (.cells #[.int .i64 0] 3))) := Lib.hid (Below.alloc (Below.refl _ _) (Nat.le_refl _) _)
  go_enter_defers Tryz.func48, Tryz.ntmps48
  go_wp2_with fail
  refine leaves_cons (f := 89) (args := #[.pointer (some ⟨w.heap.size, 0, none⟩)]) (by simp) (by simp [go_sem]) ?_
  refine (code_idle ⟨w.heap.size, 0, none⟩ _).mono ?_
  rintro e u' w'' ⟨rfl, rfl, rfl⟩
  simp [Leaves, settle, results, Tryz.results48, go_sem]
  exact HB.out
end Go.Proofs.YtgodkfgnhpnhcaaGreatDoor
/- Numbers that are none: Valid, goes, none, Sub, Mul, Sign, Cmp of them. -/
namespace Go.Proofs.YtgodkfgnhpnhcaaGreatDoor
open Go.RowKit Go.Maps Go.Stop Go.Extern
/-- v is a number that is none: of no dag, or with the id -1 -/
def Bad (w : World) (v : Value) : Prop := (∃ k : Int, v = .agg #[.pointer none, .int .i64 k]) ∨ ∃ (g : Nat) (ns : List Nd), DagP w g ns ∧ v = .agg #[.pointer (some ⟨g, 0, none⟩), .int .i64 (-1)]
theorem Bad.below {w w' : World} {v : Value} (h : Bad w v) (hb : Below w.heap.size w w') : Bad w' v := by
  rcases h with h | ⟨g, ns, h, e⟩
  · exact Or.inl h
  · exact Or.inr ⟨g, ns, h.below hb, e⟩
theorem Bad.open {w : World} {v : Value} (h : Bad w v) : ∃ (a : Option Addr) (k : Int), v = .agg #[.pointer a, .int .i64 k] := by
  rcases h with ⟨k, rfl⟩ | ⟨g, ns, -, rfl⟩
  · exact ⟨_, _, rfl⟩
  · exact ⟨_, _, rfl⟩
set_option maxHeartbeats 1600000 in
theorem has_neg {w : World} {g : Nat} {ns : List Nd} (hd : DagP w g ns) :
    Calls Tryz.prog 102 #[.pointer (some ⟨g, 0, none⟩), .int .i64 (-1)] w (fun e w' => e = .returned (.bool false) ∧ w = w') := by
  obtain ⟨A, c, c0, -, -, -⟩ := hd.slice
  clear hd
  go_enter Tryz.func102, Tryz.ntmps102
  go_wp2
  go_ret
  exact ⟨rfl, rfl⟩
set_option maxHeartbeats 1600000 in
theorem node_neg {w : World} {g : Nat} {ns : List Nd} (hd : DagP w g ns) :
    Calls Tryz.prog 91 #[.pointer (some ⟨g, 0, none⟩), .int .i64 (-1)] w (fun e w' => e = .returned (.tuple #[.agg #[.int .i64 0, .float .f64 0, .int .i64 0, .int .i64 0], .bool false]) ∧ Below w.heap.size w w') := by
  obtain ⟨w1, hw1, hb1, hs1, b1⟩ := pro1 w (.cells #[.int .i64 0, .float .f64 0, .int .i64 0, .int .i64 0] 122)
  obtain ⟨c0, c1, c2, c3⟩ := cells4 b1
  obtain ⟨f0, f1, f2, f3⟩ := free4 b1
  have HH := Lib.hid (has_neg (hd.below hb1))
  have g1 := Lib.hid (set4 b1 (.int .i64 0) (.float .f64 0) (.int .i64 0) (.int .i64 0))
  have HB : Hid (∀ a b c d, Below w.heap.size w ((((w1.setCell ⟨w.heap.size, 0, none⟩ a).setCell ⟨w.heap.size, 1, none⟩ b).setCell ⟨w.heap.size, 2, none⟩ c).setCell ⟨w.heap.size, 3, none⟩ d)) := Lib.hid fun a b c d => (((hb1.setCell (Nat.le_refl _) a).setCell (Nat.le_refl _) b).setCell (Nat.le_refl _) c).setCell (Nat.le_refl _) d
  have hst := store_float
  clear hd hb1 hs1 b1
  go_enter Tryz.func91, Tryz.ntmps91
  go_wp2_with fail
  refine HH.out.mono ?_
  rintro e w2 ⟨rfl, rfl⟩
  go_wp2_with fail
  obtain ⟨x0, x1, x2, x3⟩ := cells4 g1.out
  refine bodyPost_ret (v := .tuple #[.agg #[_, _, _, _], _]) (by simp [results, Tryz.results91, go_sem, x0, x1, x2, x3]; first | exact ⟨⟨rfl, rfl, rfl, rfl⟩, rfl⟩ | exact ⟨rfl, rfl, rfl, rfl⟩ | rfl) rfl ?_
  exact ⟨rfl, HB.out _ _ _ _⟩
set_option maxHeartbeats 1600000 in
theorem valid_bad {w : World} {v : Value} (h : Bad w v) : Calls Tryz.prog 50 #[v] w (RetV w (.bool false)) := by
  rcases h with ⟨k, rfl⟩ | ⟨g, ns, hd, rfl⟩
  · obtain ⟨w1, hw1, hb1, hs1, b1⟩ := pro1 w (.cells #[.pointer none, .int .i64 k] 27)
    obtain ⟨c0, c1, -, -⟩ := cells2 b1
    have HB := Lib.hid hb1
    clear hb1 hs1 b1
    go_enter Tryz.func50, Tryz.ntmps50
    go_wp2
    go_ret
    exact ⟨rfl, HB.out⟩
  · obtain ⟨w1, hw1, hb1, hs1, b1⟩ := pro1 w (.cells #[.pointer (some ⟨g, 0, none⟩), .int .i64 (-1)] 27)
    obtain ⟨c0, c1, -, -⟩ := cells2 b1
    have HN := Lib.hid (node_neg (hd.below hb1))
    have HB := Lib.hid hb1
    have hst := store_float
    clear hd hb1 hs1 b1
    go_enter Tryz.func50, Tryz.ntmps50
    go_wp2_with fail
    refine HN.out.mono ?_
    rintro e w2 ⟨rfl, hb2⟩
    obtain ⟨w3, hw3, z0, z1, z2, z3, y0, y1, y2, y3, w4, hw4, hb4, hs4⟩ := new4 w2 122 (.int .i64 0) (.float .f64 0) (.int .i64 0) (.int .i64 0) (.int .i64 0) (.float .f64 0) (.int .i64 0) (.int .i64 0)
    have HB4 := Lib.hid (below_up (below_up HB.out hb2) hb4)
    clear hb2 hb4 hs4
    go_wp2
    go_ret
    exact ⟨rfl, HB4.out⟩
set_option maxHeartbeats 1600000 in
theorem goes_bad {w : World} {v l : Value} (h : Bad w v) : Calls Tryz.prog 67 #[v, l] w (RetV w (.bool false)) := by
  obtain ⟨a, k, rfl⟩ := h.open
  obtain ⟨w1, hw1, hb1, hs1, b1⟩ := pro1 w (.cells #[.pointer a, .int .i64 k] 27)
  obtain ⟨c0, c1, -, -⟩ := cells2 b1
  have HV := Lib.hid (valid_bad (h.below hb1))
  have HB := Lib.hid hb1
  clear h hb1 hs1 b1
  go_enter Tryz.func67, Tryz.ntmps67
  go_wp2_with fail
  refine HV.out.mono ?_
  rintro e w2 ⟨rfl, hb2⟩
  have HB2 := Lib.hid (below_up HB.out hb2)
  clear hb2
  go_wp2
  go_ret
  exact ⟨rfl, HB2.out⟩
/-- what comes back is none of the same dag -/
def RetBad (w : World) (a : Option Addr) (e : Ending) (w' : World) : Prop := e = .returned (.agg #[.pointer a, .int .i64 (-1)]) ∧ Below w.heap.size w w'
set_option maxHeartbeats 1600000 in
theorem none_num {w : World} {a : Option Addr} {k : Int} : Calls Tryz.prog 68 #[.agg #[.pointer a, .int .i64 k]] w (RetBad w a) := by
  obtain ⟨w2, hw2, hb2, hs2, b1, b2⟩ := pro2 w (.cells #[.pointer a, .int .i64 k] 27) (.cells #[.pointer none, .int .i64 0] 27)
  obtain ⟨c0, c1, -, -⟩ := cells2 b1
  obtain ⟨d0, d1, f0, f1⟩ := cells2 b2
  have g1 := Lib.hid (set2 b2 (.pointer a) (.int .i64 (-1)))
  have HB : Hid (∀ u v, Below w.heap.size w ((w2.setCell ⟨w.heap.size + 1, 0, none⟩ u).setCell ⟨w.heap.size + 1, 1, none⟩ v)) := Lib.hid fun u v => (hb2.setCell (by simp) u).setCell (by simp) v
  clear hb2 hs2 b1 b2
  go_enter Tryz.func68, Tryz.ntmps68
  go_wp2
  obtain ⟨x0, x1, -, -⟩ := cells2 g1.out
  refine bodyPost_ret (v := .agg #[_, _]) (by simp [results, Tryz.results68, go_sem, x0, x1]; first | exact ⟨rfl, rfl⟩ | rfl) rfl ?_
  exact ⟨rfl, HB.out _ _⟩
end Go.Proofs.YtgodkfgnhpnhcaaGreatDoor
/- Numbers that are none: goes of two, Sub, Mul, Sign, Cmp. -/
namespace Go.Proofs.YtgodkfgnhpnhcaaGreatDoor
open Go.RowKit Go.Maps Go.Stop Go.Extern
/-- v is a number that is none, of no dag or of the dag g -/
def BadG (w : World) (g : Nat) (v : Value) : Prop := (∃ k : Int, v = .agg #[.pointer none, .int .i64 k]) ∨ ((∃ ns, DagP w g ns) ∧ v = .agg #[.pointer (some ⟨g, 0, none⟩), .int .i64 (-1)])
theorem BadG.bad {w : World} {g : Nat} {v : Value} (h : BadG w g v) : Bad w v := by
  rcases h with h | ⟨⟨ns, h⟩, e⟩
  · exact Or.inl h
  · exact Or.inr ⟨g, ns, h, e⟩
theorem BadG.below {w w' : World} {g : Nat} {v : Value} (h : BadG w g v) (hb : Below w.heap.size w w') : BadG w' g v := by
  rcases h with h | ⟨⟨ns, h⟩, e⟩
  · exact Or.inl h
  · exact Or.inr ⟨⟨ns, h.below hb⟩, e⟩
theorem nil_neq_dag (a : Addr) (w : World) : (binOp .neq 24 (.pointer none) (.pointer (some a))).run Tryz.prog w = .ok (.bool true) w := by kernel_rfl
set_option maxHeartbeats 3200000 in
set_option maxRecDepth 100000 in
/-- a number goes with none that is none -/
theorem goes_second {w : World} {g k b : Nat} {q : Option Addr} {j : Int} {ns : List Nd} (hd : DagP w g ns) (hk : k < ns.length) (hb : BadG w g (.agg #[.pointer q, .int .i64 j])) (h0 : w.cell? ⟨b, 0, none⟩ = some (.pointer q)) (h1 : w.cell? ⟨b, 1, none⟩ = some (.int .i64 j)) :
    Calls Tryz.prog 67 #[.agg #[.pointer (some ⟨g, 0, none⟩), .int .i64 (k : Int)], .slice (some ⟨b, 0, none⟩) 1 1] w (RetV w (.bool false)) := by
  obtain ⟨w1, hw1, hb1, hs1, b1⟩ := pro1 w (.cells #[.pointer (some ⟨g, 0, none⟩), .int .i64 (k : Int)] 27)
  obtain ⟨c0, c1, -, -⟩ := cells2 b1
  have HV := Lib.hid (valid_num (hd.below hb1) hk)
  have HBD := Lib.hid hb; have HB := Lib.hid hb1
  have hnq := neq_dag ⟨g, 0, none⟩
  have hnn := nil_neq_dag ⟨g, 0, none⟩
  replace h0 := cell_below h0 hb1 (Nat.le_refl _)
  replace h1 := cell_below h1 hb1 (Nat.le_refl _)
  clear hd hk hb hb1 hs1 b1
  go_enter Tryz.func67, Tryz.ntmps67
  go_wp2_with fail
  refine HV.out.mono ?_
  rintro e w2 ⟨rfl, hb2⟩
  have HB2 := Lib.hid (below_up HB.out hb2)
  replace c0 := cell_below c0 hb2 (Nat.le_refl _)
  replace c1 := cell_below c1 hb2 (Nat.le_refl _)
  replace h0 := cell_below h0 hb2 (Nat.le_refl _)
  replace h1 := cell_below h1 hb2 (Nat.le_refl _)
  clear hb2
  go_wp2_with fail
  go_loopw [12] (fun i wr => i = .int .i64 0 ∧ wr = w2) (fun i _ => (1 - intOf i).toNat)
  case atStart => exact ⟨rfl, rfl⟩
  case round =>
    obtain ⟨rfl, rfl⟩ := hrel
    obtain ⟨w3, hw3, hb3, hs3, b3⟩ := pro1 wr (.cells #[.pointer none, .int .i64 0] 27)
    obtain ⟨p0, p1, pf0, pf1⟩ := cells2 b3
    have g1 := set2 b3 (.pointer q) (.int .i64 j)
    obtain ⟨w4, hw4⟩ : ∃ w4, (w3.setCell ⟨wr.heap.size, 0, none⟩ (.pointer q)).setCell ⟨wr.heap.size, 1, none⟩ (.int .i64 j) = w4 := ⟨_, rfl⟩
    have hb4 : Below wr.heap.size wr w4 := by rw [← hw4]; exact (hb3.setCell (Nat.le_refl _) _).setCell (Nat.le_refl _) _
    rw [hw4] at g1
    obtain ⟨y0, y1, -, -⟩ := cells2 g1
    have e0 := cell_below c0 hb4 (Nat.le_refl _)
    have e1 := cell_below c1 hb4 (Nat.le_refl _)
    have hbw := below_up HB2.out hb4
    have hbd := HBD.out
    have HF4 := Lib.hid hbw
    have HVX := Lib.hid (valid_bad (hbd.bad.below hbw))
    clear hb3 hs3 b3 g1 hb4 hbw
    rcases hbd with ⟨k', he⟩ | ⟨-, he⟩
    · injection he with he; injection he with he; injection he with he1 he2
      injection he1 with he1
      injection he2 with he2 _; injection he2 with _ he2
      subst he1 he2
      go_wp2_with fail
      go_ret
      exact ⟨rfl, HF4.out⟩
    · injection he with he; injection he with he; injection he with he1 he2
      injection he1 with he1
      injection he2 with he2 _; injection he2 with _ he2
      subst he1 he2
      go_wp2_with fail
      refine HVX.out.mono ?_
      rintro e w5 ⟨rfl, hb5⟩
      have HF5 := Lib.hid (below_up HF4.out hb5)
      clear hb5
      go_wp2_with fail
      go_ret
      exact ⟨rfl, HF5.out⟩
set_option maxHeartbeats 3200000 in
set_option maxRecDepth 100000 in
theorem sub_bad {w : World} {a b : Option Addr} {i j : Int} (hG : ∀ w' c, Below w.heap.size w w' → w'.cell? ⟨c, 0, none⟩ = some (.pointer b) → w'.cell? ⟨c, 1, none⟩ = some (.int .i64 j) → Calls Tryz.prog 67 #[.agg #[.pointer a, .int .i64 i], .slice (some ⟨c, 0, none⟩) 1 1] w' (RetV w' (.bool false))) :
    Calls Tryz.prog 31 #[.agg #[.pointer a, .int .i64 i], .agg #[.pointer b, .int .i64 j]] w (RetBad w a) := by
  obtain ⟨w3, hw3, hb3, hs3, b1, b2, b3⟩ := pro3 w (.cells #[.pointer a, .int .i64 i] 27) (.cells #[.pointer b, .int .i64 j] 27) (.cells #[.pointer none, .int .i64 0] 27)
  obtain ⟨w4, hw4, hb4, hs4, b4⟩ := pro1 w3 (.cells #[.pointer b, .int .i64 j] 27)
  have h34 := below_up hb3 hb4
  obtain ⟨c0, c1, -, -⟩ := cells2 b1
  obtain ⟨d0, d1, -, -⟩ := cells2 b2
  obtain ⟨x0, x1, -, -⟩ := cells2 b4
  have HG := Lib.hid (hG w4 _ h34 x0 x1)
  have e0 := cell_below c0 hb4 (Nat.le_refl _)
  have e1 := cell_below c1 hb4 (Nat.le_refl _)
  have B3 := Lib.hid (heap_below b3 hb4 (heap_lt b3))
  have HB4 := Lib.hid h34
  have HSZ : Hid (w.heap.size + 2 < w4.heap.size) := Lib.hid (by omega)
  clear hG hb3 hb4 h34 b1 b2 b3 b4 hs3 hs4 x0 x1
  go_enter Tryz.func31, Tryz.ntmps31
  go_wp2_with fail
  refine HG.out.mono ?_
  rintro e w5 ⟨rfl, hb5⟩
  replace e0 := cell_below e0 hb5 (Nat.le_refl _)
  replace e1 := cell_below e1 hb5 (Nat.le_refl _)
  have B5 := Lib.hid (heap_below B3.out hb5 (heap_lt B3.out))
  have HB5 := Lib.hid (below_up HB4.out hb5)
  have HN := Lib.hid (none_num (w := w5) (a := a) (k := i))
  clear hb5 c0 c1 d0 d1
  go_wp2_with fail
  refine HN.out.mono ?_
  rintro e w6 ⟨rfl, hb6⟩
  have b6 := heap_below B5.out hb6 (heap_lt B5.out)
  obtain ⟨r0, r1, f0, f1⟩ := cells2 b6
  have g1 := Lib.hid (set2 b6 (.pointer a) (.int .i64 (-1)))
  have HF : Hid (∀ u v, Below w.heap.size w ((w6.setCell ⟨w.heap.size + 2, 0, none⟩ u).setCell ⟨w.heap.size + 2, 1, none⟩ v)) := Lib.hid fun u v => ((below_up HB5.out hb6).setCell (by simp) u).setCell (by simp) v
  clear hb6 b6
  go_wp2
  obtain ⟨x0, x1, -, -⟩ := cells2 g1.out
  refine bodyPost_ret (v := .agg #[_, _]) (by simp [results, Tryz.results31, go_sem, x0, x1]; first | exact ⟨rfl, rfl⟩ | rfl) rfl ?_
  exact ⟨rfl, HF.out _ _⟩
end Go.Proofs.YtgodkfgnhpnhcaaGreatDoor
/- fail.In, Malformed; Sign, Cmp, Mul of numbers that are none; Cmp, Same of points that are none. -/
namespace Go.Proofs.YtgodkfgnhpnhcaaGreatDoor
open Go.RowKit Go.Maps Go.Stop Go.Extern
/-- what was laid between two states -/
abbrev Laid2 (w w' : World) (b : Nat) : Prop := w.heap.size ≤ b ∧ b < w'.heap.size
/-- an error of the kind k comes back beside v -/
def RetErr (w : World) (v : Value) (k : Int) (e : Ending) (w' : World) : Prop := ∃ er n, e = .returned (.tuple #[v, er]) ∧ n ≤ 1000 ∧ ErK (Laid2 w w') w' n er k ∧ Below w.heap.size w w'
theorem malformed_any {w : World} : Calls Tryz.prog 63 #[] w (fun e w' => e = .returned (.iface 135 (.int .i64 1)) ∧ w' = w) := by
  go_enter Tryz.func63, Tryz.ntmps63
  go_wp2
  go_ret
  exact ⟨rfl, rfl⟩
set_option maxHeartbeats 1600000 in
theorem in_err {S : Nat → Prop} {w : World} {n : Nat} {v : Value} {k : Int} {s : ByteArray} (h : ErK S w n v k) :
    Calls Tryz.prog 66 #[.string s, v] w (fun e w' => ∃ er, e = .returned er ∧ ErK (fun b => S b ∨ Laid2 w w' b) w' (n + 1) er k ∧ Below w.heap.size w w') := by
  have hnn : ∃ t x, v = .iface t x := by cases h <;> exact ⟨_, _, rfl⟩
  obtain ⟨vt, vx, rfl⟩ := hnn
  have hb : Below w.heap.size w (w.alloc (.cells #[.string s, .iface vt vx] 150)) := Below.alloc (Below.refl _ _) (Nat.le_refl _) _
  have HE : Hid (ErK (fun b => S b ∨ Laid2 w (w.alloc (.cells #[.string s, .iface vt vx] 150)) b) (w.alloc (.cells #[.string s, .iface vt vx] 150)) (n + 1) (.iface 148 (.pointer (some ⟨w.heap.size, 0, none⟩))) k) := Lib.hid (.inn (Or.inr ⟨Nat.le_refl _, by simp⟩) (by simp) ((h.low hb).mono fun _ h _ => Or.inl h))
  have HB := Lib.hid hb
  clear h hb
  go_enter Tryz.func66, Tryz.ntmps66
  go_wp2
  go_ret
  exact ⟨_, rfl, HE.out, HB.out⟩
set_option maxHeartbeats 1600000 in
theorem sign_bad {w : World} {v : Value} (h : Bad w v) : Calls Tryz.prog 20 #[v] w (RetErr w (.int .i64 0) 1) := by
  obtain ⟨a, k, rfl⟩ := h.open
  obtain ⟨w1, hw1, hb1, hs1, b1⟩ := pro1 w (.cells #[.pointer a, .int .i64 k] 27)
  obtain ⟨c0, c1, -, -⟩ := cells2 b1
  have HV := Lib.hid (valid_bad (h.below hb1))
  have HB := Lib.hid hb1
  clear h hb1 hs1 b1
  go_enter Tryz.func20, Tryz.ntmps20
  go_wp2_with fail
  refine HV.out.mono ?_
  rintro e w2 ⟨rfl, hb2⟩
  have HB2 := Lib.hid (below_up HB.out hb2)
  have HM := Lib.hid (malformed_any (w := w2))
  have HI : Hid (∀ s, Calls Tryz.prog 66 #[.string s, .iface 135 (.int .i64 1)] w2 (fun e w' => ∃ er, e = .returned er ∧ ErK (fun b => False ∨ Laid2 w2 w' b) w' (0 + 1) er 1 ∧ Below w2.heap.size w2 w')) := Lib.hid fun s => in_err (S := fun _ => False) (.kind (by omega) (by omega))
  clear hb2 c0 c1
  go_wp2_with fail
  refine HM.out.mono ?_
  rintro e w3 ⟨rfl, rfl⟩
  go_wp2_with fail
  refine (HI.out _).mono ?_
  rintro e w4 ⟨er, rfl, h1, h2⟩
  have HF := Lib.hid (h1.mono (T := Laid2 w w4) fun b hb _ => ⟨Nat.le_trans HB2.out.size (hb.resolve_left id).1, (hb.resolve_left id).2⟩); have HB4 := Lib.hid (below_up HB2.out h2)
  clear h1 h2
  go_wp2
  go_ret2
  exact ⟨er, 1, rfl, by omega, HF.out, HB4.out⟩
/-- a - b is none -/
def SubBad (w : World) (a : Option Addr) (i : Int) (b : Option Addr) (j : Int) : Prop := ∀ w' c, Below w.heap.size w w' → w'.cell? ⟨c, 0, none⟩ = some (.pointer b) → w'.cell? ⟨c, 1, none⟩ = some (.int .i64 j) → Calls Tryz.prog 67 #[.agg #[.pointer a, .int .i64 i], .slice (some ⟨c, 0, none⟩) 1 1] w' (RetV w' (.bool false))
theorem SubBad.first {w : World} {a b : Option Addr} {i j : Int} (h : Bad w (.agg #[.pointer a, .int .i64 i])) : SubBad w a i b j := fun _ _ hb _ _ => goes_bad (h.below hb)
theorem SubBad.second {w : World} {g k : Nat} {b : Option Addr} {j : Int} {ns : List Nd} (hd : DagP w g ns) (hk : k < ns.length) (h : BadG w g (.agg #[.pointer b, .int .i64 j])) : SubBad w (some ⟨g, 0, none⟩) (k : Int) b j := fun _ _ hb h0 h1 => goes_second (hd.below hb) hk (h.below hb) h0 h1
theorem SubBad.below {w w' : World} {a b : Option Addr} {i j : Int} (h : SubBad w a i b j) (hb : Below w.heap.size w w') : SubBad w' a i b j := fun w'' c h2 h0 h1 => h w'' c (below_up hb h2) h0 h1
/-- the id -1 is none, whatever the dag -/
def NegOk (w : World) (a : Option Addr) : Prop := a = none ∨ ∃ g ns, a = some ⟨g, 0, none⟩ ∧ DagP w g ns
theorem NegOk.bad {w : World} {a : Option Addr} (h : NegOk w a) : Bad w (.agg #[.pointer a, .int .i64 (-1)]) := by
  rcases h with rfl | ⟨g, ns, rfl, h⟩
  · exact Or.inl ⟨_, rfl⟩
  · exact Or.inr ⟨g, ns, h, rfl⟩
theorem NegOk.below {w w' : World} {a : Option Addr} (h : NegOk w a) (hb : Below w.heap.size w w') : NegOk w' a := by
  rcases h with rfl | ⟨g, ns, rfl, h⟩
  · exact Or.inl rfl
  · exact Or.inr ⟨g, ns, rfl, h.below hb⟩
set_option maxHeartbeats 1600000 in
theorem cmp_bad {w : World} {a b : Option Addr} {i j : Int} (ha : NegOk w a) (h : SubBad w a i b j) :
    Calls Tryz.prog 21 #[.agg #[.pointer a, .int .i64 i], .agg #[.pointer b, .int .i64 j]] w (RetErr w (.int .i64 0) 1) := by
  obtain ⟨w2, hw2, hb2, hs2, b1, b2⟩ := pro2 w (.cells #[.pointer a, .int .i64 i] 27) (.cells #[.pointer b, .int .i64 j] 27)
  obtain ⟨c0, c1, -, -⟩ := cells2 b1
  obtain ⟨d0, d1, -, -⟩ := cells2 b2
  have HS := Lib.hid (sub_bad (h.below hb2))
  have HA := Lib.hid (ha.below hb2); have HB := Lib.hid hb2
  clear ha h hb2 hs2 b1 b2
  go_enter Tryz.func21, Tryz.ntmps21
  go_wp2_with fail
  refine HS.out.mono ?_
  rintro e w3 ⟨rfl, hb3⟩
  have HG := Lib.hid (sign_bad (HA.out.below hb3).bad)
  have HB3 := Lib.hid (below_up HB.out hb3)
  clear hb3 c0 c1 d0 d1
  go_wp2_with fail
  refine HG.out.mono ?_
  rintro e w4 ⟨er, n, rfl, hn, h1, h2⟩
  have HF := Lib.hid (h1.mono (T := Laid2 w w4) fun b hb _ => ⟨Nat.le_trans HB3.out.size hb.1, hb.2⟩); have HB4 := Lib.hid (below_up HB3.out h2)
  clear h1 h2
  go_wp2
  go_ret2
  exact ⟨er, n, rfl, hn, HF.out, HB4.out⟩
set_option maxHeartbeats 1600000 in
theorem mul_bad {w : World} {a : Option Addr} {i : Int} {l : Value} (h : Bad w (.agg #[.pointer a, .int .i64 i])) :
    Calls Tryz.prog 24 #[.agg #[.pointer a, .int .i64 i], l] w (RetBad w a) := by
  obtain ⟨w2, hw2, hb2, hs2, b1, b2⟩ := pro2 w (.cells #[.pointer a, .int .i64 i] 27) (.cells #[.pointer none, .int .i64 0] 27)
  obtain ⟨c0, c1, -, -⟩ := cells2 b1
  have HG := Lib.hid (goes_bad (l := l) (h.below hb2))
  have HB := Lib.hid hb2; have B2 := Lib.hid b2
  clear h hb2 hs2 b1 b2
  go_enter Tryz.func24, Tryz.ntmps24
  go_wp2_with fail
  refine HG.out.mono ?_
  rintro e w5 ⟨rfl, hb5⟩
  replace c0 := cell_below c0 hb5 (Nat.le_refl _)
  replace c1 := cell_below c1 hb5 (Nat.le_refl _)
  have B5 := Lib.hid (heap_below B2.out hb5 (heap_lt B2.out))
  have HB5 := Lib.hid (below_up HB.out hb5)
  have HN := Lib.hid (none_num (w := w5) (a := a) (k := i))
  clear hb5
  go_wp2_with fail
  refine HN.out.mono ?_
  rintro e w6 ⟨rfl, hb6⟩
  have b6 := heap_below B5.out hb6 (heap_lt B5.out)
  obtain ⟨r0, r1, f0, f1⟩ := cells2 b6
  have g1 := Lib.hid (set2 b6 (.pointer a) (.int .i64 (-1)))
  have HF : Hid (∀ u v, Below w.heap.size w ((w6.setCell ⟨w.heap.size + 1, 0, none⟩ u).setCell ⟨w.heap.size + 1, 1, none⟩ v)) := Lib.hid fun u v => ((below_up HB5.out hb6).setCell (by simp) u).setCell (by simp) v
  clear hb6 b6
  go_wp2
  obtain ⟨x0, x1, -, -⟩ := cells2 g1.out
  refine bodyPost_ret (v := .agg #[_, _]) (by simp [results, Tryz.results24, go_sem, x0, x1]; first | exact ⟨rfl, rfl⟩ | rfl) rfl ?_
  exact ⟨rfl, HF.out _ _⟩
set_option maxHeartbeats 1600000 in
theorem cmp_spot_bad {w : World} {a b a' b' : Option Addr} {i j i' j' : Int} (ha : NegOk w a) (h : SubBad w a i b j) :
    Calls Tryz.prog 44 #[.agg #[.pointer a, .int .i64 i, .pointer a', .int .i64 i'], .agg #[.pointer b, .int .i64 j, .pointer b', .int .i64 j']] w (RetErr w (.int .i64 0) 1) := by
  obtain ⟨w2, hw2, hb2, hz2, b1, b2⟩ := pro2 w (.cells #[.pointer a, .int .i64 i, .pointer a', .int .i64 i'] 29) (.cells #[.pointer b, .int .i64 j, .pointer b', .int .i64 j'] 29)
  obtain ⟨c0, c1, c2, c3⟩ := cells4 b1
  obtain ⟨d0, d1, d2, d3⟩ := cells4 b2
  have HC := Lib.hid (cmp_bad (ha.below hb2) (h.below hb2))
  have HB := Lib.hid hb2
  clear ha h hb2 hz2 b1 b2
  go_enter Tryz.func44, Tryz.ntmps44
  go_wp2_with fail
  refine HC.out.mono ?_
  rintro e w3 ⟨er, n, rfl, hn, h1, h2⟩
  have hnn : ∃ t x, er = .iface t x := by cases h1 <;> exact ⟨_, _, rfl⟩
  obtain ⟨vt, vx, rfl⟩ := hnn
  have HF := Lib.hid (h1.mono (T := Laid2 w w3) fun b hb _ => ⟨Nat.le_trans HB.out.size hb.1, hb.2⟩); have HB3 := Lib.hid (below_up HB.out h2)
  clear h1 h2
  go_wp2
  go_ret2
  exact ⟨_, n, rfl, hn, HF.out, HB3.out⟩
set_option maxHeartbeats 1600000 in
theorem same_spot_bad {w : World} {a b a' b' : Option Addr} {i j i' j' : Int} (ha : NegOk w a) (h : SubBad w a i b j) :
    Calls Tryz.prog 29 #[.agg #[.pointer a, .int .i64 i, .pointer a', .int .i64 i'], .agg #[.pointer b, .int .i64 j, .pointer b', .int .i64 j']] w (RetErr w (.bool false) 1) := by
  obtain ⟨w2, hw2, hb2, hz2, b1, b2⟩ := pro2 w (.cells #[.pointer a, .int .i64 i, .pointer a', .int .i64 i'] 29) (.cells #[.pointer b, .int .i64 j, .pointer b', .int .i64 j'] 29)
  obtain ⟨c0, c1, c2, c3⟩ := cells4 b1
  obtain ⟨d0, d1, d2, d3⟩ := cells4 b2
  have HC := Lib.hid (cmp_spot_bad (a' := a') (b' := b') (i' := i') (j' := j') (ha.below hb2) (h.below hb2))
  have HB := Lib.hid hb2
  clear ha h hb2 hz2 b1 b2
  go_enter Tryz.func29, Tryz.ntmps29
  go_wp2_with fail
  refine HC.out.mono ?_
  rintro e w3 ⟨er, n, rfl, hn, h1, h2⟩
  have hnn : ∃ t x, er = .iface t x := by cases h1 <;> exact ⟨_, _, rfl⟩
  obtain ⟨vt, vx, rfl⟩ := hnn
  have HF := Lib.hid (h1.mono (T := Laid2 w w3) fun b hb _ => ⟨Nat.le_trans HB.out.size hb.1, hb.2⟩); have HB3 := Lib.hid (below_up HB.out h2)
  clear h1 h2
  go_wp2
  go_ret2
  exact ⟨_, n, rfl, hn, HF.out, HB3.out⟩
end Go.Proofs.YtgodkfgnhpnhcaaGreatDoor
