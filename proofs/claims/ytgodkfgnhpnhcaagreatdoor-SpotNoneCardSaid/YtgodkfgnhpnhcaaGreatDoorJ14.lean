/- A part of the proof: contracts of functions and plain laws (WalkB, FrD, DagC, Ex). -/
import Derived.Test.YtgodkfgnhpnhcaaGreatDoorJ13
import Derived.DeepKeys4
import Derived.Test.YtgodkfgnhpnhcaaGreatDoorJ07
import Derived.Deep.AppendLies
import Derived.Test.YtgodkfgnhpnhcaaGreatDoorJ09
set_option linter.unusedVariables false
set_option linter.unusedSimpArgs false
namespace Go.Proofs.YtgodkfgnhpnhcaaGreatDoor
open Go.RowKit Go.Maps
/-- but for the blocks S, all that was there is as it was -/
structure Fr (S : Nat → Prop) (w w' : World) : Prop where
  os : w'.os = w.os
  tape : w'.tape = w.tape
  output : w'.output = w.output
  size : w.heap.size ≤ w'.heap.size
  block : ∀ b, b < w.heap.size → ¬ S b → w'.heap[b]? = w.heap[b]?
theorem Fr.of_below {S : Nat → Prop} {w w' : World} (h : Below w.heap.size w w') : Fr S w w' := ⟨h.os, h.tape, h.output, h.size, fun b hb _ => h.block b hb⟩
theorem Fr.trans {S : Nat → Prop} {a b c : World} (h : Fr S a b) (k : Fr S b c) : Fr S a c :=
  ⟨k.os.trans h.os, k.tape.trans h.tape, k.output.trans h.output, Nat.le_trans h.size k.size, fun i hi hs => (k.block i (Nat.lt_of_lt_of_le hi h.size) hs).trans (h.block i hi hs)⟩
theorem Fr.mono {S T : Nat → Prop} {a b : World} (h : Fr S a b) (hst : ∀ i, i < a.heap.size → S i → T i) : Fr T a b :=
  ⟨h.os, h.tape, h.output, h.size, fun i hi hs => h.block i hi (fun h' => hs (hst i hi h'))⟩
theorem Fr.of_grown {S : Nat → Prop} {a b : World} {row : Option Nat} (h : a.grownBy b row) (hs : ∀ i, row = some i → S i) : Fr S a b :=
  ⟨h.os, h.tape, h.output, h.size, fun i hi h' => h.block i hi (fun e => h' (hs i e.symm))⟩
theorem Fr.setCell {S : Nat → Prop} {a b : World} (h : Fr S a b) {g : Nat} {i : Nat} (hg : S g) (u : Value) : Fr S a (b.setCell ⟨g, i, none⟩ u) :=
  ⟨h.os, h.tape, h.output, by simpa [World.setCell] using h.size, fun k hk hs => by
    rw [Below.heap_setCell _ _ _ _ (fun e => hs (by simp at e; rw [e]; exact hg))]; exact h.block k hk hs⟩
theorem Fr.below {S : Nat → Prop} {a b : World} {B : Nat} (h : Fr S a b) (hB : B ≤ a.heap.size) (hS : ∀ i, S i → B ≤ i) : Below B a b :=
  ⟨h.os, h.tape, h.output, h.size, fun i hi => h.block i (Nat.lt_of_lt_of_le hi hB) (fun hs => by have := hS i hs; omega)⟩
/-- the blocks that a visit may turn -/
def VB (gs mb : Nat) (sv : Value) (b : Nat) : Prop := b = gs ∨ b = mb ∨ sv.ownBlock = some b
/-- what a visit leaves -/
def VisitPost (w : World) (gv gs mb : Nat) (sv : Value) (vis st : List Nat) (i : Nat) (e : Ending) (w' : World) : Prop :=
  e = .returned (.tuple #[]) ∧ Fr (VB gs mb sv) w w' ∧ ∃ sv', (sv'.ownBlock = sv.ownBlock ∨ ∃ b, sv'.ownBlock = some b ∧ w.heap.size ≤ b) ∧
    (if i ∈ vis then VS w' gv gs mb sv' vis st else VS w' gv gs mb sv' (i :: vis) (st ++ [i]))
theorem own_none (sv : Value) : sv.ownBlock = none ∨ sv.ownBlock ≠ none := by
  cases sv.ownBlock
  · exact Or.inl rfl
  · exact Or.inr (by simp)
theorem cells_of_one {w : World} {g : Nat} {T : TypeId} {u : Value} (h : w.heap[g]? = some (.cells #[u] T (0, 0))) : ∀ j x, [u][j]? = some x → w.cell? ((⟨g, 0, none⟩ : Addr).add j) = some x := by
  intro j x hx
  cases j with
  | zero => simp at hx; subst hx; simp [World.cell?, Addr.add, h]
  | succ j => simp at hx
theorem app_len {n : Nat} (h : n ≤ 1000000) : n + 1 ≤ maxLen := by unfold maxLen; omega
theorem app_bytes {n : Nat} (h : n ≤ 1000000) : (n + 1) * 8 ≤ 140737488355328 := by omega
theorem VS.of_eq {w w' : World} {gv gs mb : Nat} {sv : Value} {vis st : List Nat} (h : VS w gv gs mb sv vis st) (hw : w = w') : VS w' gv gs mb sv vis st := hw ▸ h
theorem visit_cell {w1 w2 w3 : World} {gs : Nat} {sv : Value} {T : TypeId} (h : w1.heap[gs]? = some (.cells #[sv] T (0, 0))) (hb : Below w1.heap.size w1 w2) (hg : w2.grownBy w3 sv.ownBlock) (hn : sv.ownBlock ≠ some gs) : w3.cell? ⟨gs, 0, none⟩ = some sv ∧ w3.frozen? ⟨gs, 0, none⟩ = false := by
  have h2 := heap_below h hb (heap_lt h)
  have h3 := (hg.block gs (heap_lt h2) (fun e => hn e.symm)).trans h2
  exact ⟨by simp [World.cell?, h3], by simp [World.frozen?, h3]⟩
theorem visit_end {w w1 w2 w3 : World} {gv gs mb i g cap : Nat} {sv : Value} {vis st : List Nat} {m m' : Value → Option Value} (hV : VS w gv gs mb sv vis st) (hnv : ¬ i ∈ vis) (hM : MapP Tryz.prog 3 w mb m) (h4 : ∀ j : Nat, m (.int .i64 (j : Int)) = if j ∈ vis then some (.int .i64 1) else none)
    (h6 : gv ≠ gs) (h7 : mb ≠ gs) (h8 : mb ≠ gv) (h9 : sv.ownBlock ≠ some gs) (h10 : sv.ownBlock ≠ some gv) (h11 : sv.ownBlock ≠ some mb)
    (hu : Upd m (.int .i64 (i : Int)) (some (.int .i64 1)) m') (hM1 : MapP Tryz.prog 3 w1 mb m') (hgr : w.grownBy w1 (some mb)) (hsz : w1.heap.size = w.heap.size) (hb2 : Below w1.heap.size w1 w2)
    (hO : w3.ownsRow 0 3 1 (.slice (some ⟨g, 0, none⟩) (st.length + 1) cap) (st.length + 1) (cellsI st ++ [.int .i64 (i : Int)])) (hg3 : w2.grownBy w3 sv.ownBlock) (hat : sv.ownBlock = some g ∨ g = w2.heap.size) :
    VisitPost w gv gs mb sv vis st i (.returned (.tuple #[])) (w3.setCell ⟨gs, 0, none⟩ (.slice (some ⟨g, 0, none⟩) (st.length + 1) cap)) := by
  obtain ⟨m0, q1, q2, -⟩ := hV
  have hs2 := hb2.size
  have lgv := heap_lt q1; have lgs := heap_lt q2; have lmb := hM.lt
  have hg_gs : g ≠ gs := fun e => hat.elim (fun h => h9 (by rw [← e]; exact h)) (fun h => by omega)
  have hg_gv : g ≠ gv := fun e => hat.elim (fun h => h10 (by rw [← e]; exact h)) (fun h => by omega)
  have hg_mb : g ≠ mb := fun e => hat.elim (fun h => h11 (by rw [← e]; exact h)) (fun h => by omega)
  have far : ∀ b, b < w.heap.size → b ≠ mb → sv.ownBlock ≠ some b → w3.heap[b]? = w.heap[b]? := fun b hb h1 h2 =>
    (hg3.block b (by omega) (fun e => h2 e.symm)).trans ((hb2.block b (by omega)).trans (hgr.block b hb (fun e => h1 (Option.some.inj e))))
  have e1 := (far gv lgv (fun e => h8 e.symm) h10).trans q1
  have e2 := (far gs lgs (fun e => h7 e.symm) h9).trans q2
  have eM : w3.heap[mb]? = w1.heap[mb]? := (hg3.block mb (by omega) (fun e => h11 e.symm)).trans (hb2.block mb (by omega))
  refine ⟨rfl, ?_, .slice (some ⟨g, 0, none⟩) (st.length + 1) cap, ?_, ?_⟩
  · refine Fr.setCell ?_ (Or.inl rfl) _
    refine (Fr.of_grown hgr (fun b e => Or.inr (Or.inl (Option.some.inj e).symm))).trans ((Fr.of_below hb2).trans (Fr.of_grown hg3 (fun b e => Or.inr (Or.inr e))))
  · rcases hat with h | h
    · exact Or.inl (by rw [h]; rfl)
    · exact Or.inr ⟨g, rfl, by omega⟩
  · rw [if_neg hnv]
    refine ⟨m', ?_, ?_, ?_, ?_, ?_, h6, h7, h8, ?_, ?_, ?_⟩
    · rw [Below.heap_setCell _ _ _ _ (by simpa using h6)]; exact e1
    · have hg' : gs < w3.heap.size := heap_lt e2
      have h' : w3.heap[gs] = .cells #[sv] 56 (0, 0) := (Array.getElem?_eq_some_iff.1 e2).2
      simp [World.setCell, hg', Array.getElem_modify, h']
    · exact hM1.keep ((by rw [Below.heap_setCell _ _ _ _ (by simpa using h7)]; exact eM))
    · intro j
      by_cases hj : j = i
      · subst hj; rw [hu.1]; simp
      · rw [hu.2 _ (fun e => hj (by injection e with _ e; omega)), h4 j]
        by_cases hjv : j ∈ vis
        · rw [if_pos hjv, if_pos (List.mem_cons_of_mem _ hjv)]
        · rw [if_neg hjv, if_neg (fun h => (List.mem_cons.1 h).elim hj hjv)]
    · have hk := hO.kept (grownBy_set (World.grownBy.refl w3 (some gs)) (i := 0) (.slice (some ⟨g, 0, none⟩) (st.length + 1) cap)) (Or.inr (fun e => hg_gs (Option.some.inj e)))
      simpa [cellsI] using hk
    · exact fun e => hg_gs (Option.some.inj e)
    · exact fun e => hg_gv (Option.some.inj e)
    · exact fun e => hg_mb (Option.some.inj e)
set_option maxHeartbeats 3200000 in
theorem visit_any {w : World} {gv gs mb i : Nat} {sv : Value} {vis st : List Nat} (h : VS w gv gs mb sv vis st) (hi : i ≤ 1000000) (hst : st.length ≤ 1000000) :
    Calls Tryz.prog 130 #[.int .i64 i, .pointer (some ⟨gv, 0, none⟩), .pointer (some ⟨gs, 0, none⟩)] w (VisitPost w gv gs mb sv vis st i) := by
  obtain ⟨m, h1, h2, h3, h4, h5, h6, h7, h8, h9, h10, h11⟩ := id h
  have HV := Lib.hid h; have H3 := Lib.hid h3; have H5 := Lib.hid h5
  have c1 : w.cell? ⟨gv, 0, none⟩ = some (.map (some mb)) := by simp [World.cell?, h1]
  have c2 : w.cell? ⟨gs, 0, none⟩ = some sv := by simp [World.cell?, h2]
  have hkey : keyOf Tryz.prog 3 (.int .i64 (i : Int)) = some (.int .i64 (i : Int)) := key_int (by omega)
  have h4i := h4 i
  have HST := Lib.hid hst; have H4 := Lib.hid h4; have HVI := Lib.hid hi
  by_cases hv : i ∈ vis
  · rw [if_pos hv] at h4i
    have HP : Hid (VisitPost w gv gs mb sv vis st i (.returned (.tuple #[])) w) := Lib.hid ⟨rfl, Fr.of_below (Below.refl _ _), sv, Or.inl rfl, by rw [if_pos hv]; exact HV.out⟩
    clear h h1 h2 h3 h4 h5 h6 h7 h8 h9 h10 h11 hv hi hst
    go_enter Tryz.func130, Tryz.ntmps130
    have hv2 : (m (.int .i64 (i : Int))).getD (.int .i64 0) = .int .i64 1 := by rw [h4i]; rfl
    go_wp2_with (first
      | (at_lookup
         refine wpList_look1 _ rfl _ _ _ rfl _ _ keyed_int und_mapii (zero_int _) mb m rfl H3.out (.int .i64 (i : Int)) _ rfl hkey (.int .i64 1) hv2 ?_))
    go_end0
    exact HP.out
  · rw [if_neg hv] at h4i
    have HNV := Lib.hid hv
    obtain ⟨i0, hi0, hz0, hz1, hz2⟩ := info_parts info_int
    have hv2 : (m (.int .i64 (i : Int))).getD (.int .i64 0) = .int .i64 0 := by rw [h4i]; rfl
    obtain ⟨m', hu⟩ := upd_ex m (.int .i64 (i : Int)) (some (.int .i64 1))
    have HC : ∀ w1, w.grownBy w1 (some mb) → w1.heap[gv]? = some (.cells #[.map (some mb)] 156 (0, 0)) ∧ w1.heap[gs]? = some (.cells #[sv] 56 (0, 0)) ∧ w1.cell? ⟨gv, 0, none⟩ = some (.map (some mb)) ∧ w1.cell? ⟨gs, 0, none⟩ = some sv := by
      intro w1 hg
      have e1 := (hg.block gv (heap_lt h1) (fun e => h8 (Option.some.inj e).symm)).trans h1
      have e2 := (hg.block gs (heap_lt h2) (fun e => h7 (Option.some.inj e).symm)).trans h2
      exact ⟨e1, e2, by simp [World.cell?, e1], by simp [World.cell?, e2]⟩
    have HCC := Lib.hid HC
    have H6 := Lib.hid h6; have H7 := Lib.hid h7; have H8 := Lib.hid h8; have H9 := Lib.hid h9; have HU := Lib.hid hu; have HKEY := Lib.hid hkey; have HV2 := Lib.hid hv2; have H10 := Lib.hid h10; have H11 := Lib.hid h11
    clear h h4i h10 h11 hst h4 hi h5 h3 HC h1 h2 h6 h7 h8 h9 hu hkey hv2 hv
    go_enter Tryz.func130, Tryz.ntmps130
    go_wp2_with (first
      | (at_lookup
         refine wpList_look1 _ rfl _ _ _ rfl _ _ keyed_int und_mapii (zero_int _) mb m rfl H3.out (.int .i64 (i : Int)) _ rfl HKEY.out (.int .i64 0) HV2.out ?_)
      | (at_mapUpdate
         refine wpList_put _ rfl _ _ _ _ rfl _ _ keyed_int und_mapii mb m m' rfl H3.out (.int .i64 (i : Int)) (.int .i64 1) _ rfl rfl HKEY.out HU.out ?_
         intro w1 HM1 hgr hsz
         obtain ⟨g1, g2, d1, d2⟩ := HCC.out w1 hgr
         have HG1 := Lib.hid g1
         have HG2 := Lib.hid g2
         have HGR := Lib.hid hgr
         have HSZ := Lib.hid hsz
         have HO1 := Lib.hid (H5.out.kept hgr (Or.inr H11.out))
         obtain ⟨w2, hw2, hb2, hs2, q2⟩ := pro1 w1 (.cells #[.int .i64 (i : Int)] 3)
         have HB2 := Lib.hid hb2
         have HS2 := Lib.hid hs2
         have HQ2 := Lib.hid q2
         have d1 := cell_below d1 hb2 (Nat.le_refl _)
         have d2 := cell_below d2 hb2 (Nat.le_refl _)
         clear g1 g2 hgr hsz hb2 hs2 q2)
      | (at_builtin
         go_loud (
         refine wpList_append_lies _ rfl _ _ 56 rfl 0 3 i0 (.int .i64 0) 1 8 und_ints hi0 hz0 hz1 hz2 rfl (by decide) sv st.length (cellsI st) rfl (HO1.out.kept (grownBy_of_below HB2.out) (own_none sv)) ⟨w1.heap.size, 0, none⟩ 1 1 [.int .i64 (i : Int)] rfl rfl (cells_of_one HQ2.out) (by simp [Value.oneCell']) (by decide) (app_len HST.out) (app_bytes HST.out) (Nat.zero_le _) w2.heap.size rfl ?_
         intro g cap w3 hown3 hgrow3 hat hlt
         obtain ⟨x2, f2⟩ := visit_cell HG2.out HB2.out hgrow3 H9.out
         have HO3 := Lib.hid hown3
         have HG3 := Lib.hid hgrow3
         have HAT := Lib.hid hat
         clear hown3 hgrow3 hat hlt)))
    go_end0
    exact visit_end HV.out HNV.out H3.out H4.out H6.out H7.out H8.out H9.out H10.out H11.out HU.out HM1.out HGR.out HSZ.out HB2.out HO3.out HG3.out HAT.out
end Go.Proofs.YtgodkfgnhpnhcaaGreatDoor
/- A dag's blocks; what a step that puts nodes leaves alone; laws on maps at a step of a region; the key of a node. -/
namespace Go.Proofs.YtgodkfgnhpnhcaaGreatDoor
open Go.RowKit Go.Maps
/-- block b is one of the dag's in block g -/
def DagB (w : World) (g b : Nat) : Prop := b = g ∨ ∃ v mb T, w.heap[g]? = some (.cells #[v, .map (some mb)] T (0, 0)) ∧ (v.ownBlock = some b ∨ mb = b)
/-- but for the dag's blocks, all that was there is as it was -/
def DS (g : Nat) (w w' : World) : Prop := Fr (DagB w g) w w' ∧ ∀ b, b < w.heap.size → ¬ DagB w g b → ¬ DagB w' g b
theorem DS.refl (g : Nat) (w : World) : DS g w w := ⟨Fr.of_below (Below.refl _ _), fun _ _ h => h⟩
theorem DS.size {g : Nat} {w w' : World} (h : DS g w w') : w.heap.size ≤ w'.heap.size := h.1.size
theorem DS.trans {g : Nat} {a b c : World} (h : DS g a b) (k : DS g b c) : DS g a c :=
  ⟨⟨k.1.os.trans h.1.os, k.1.tape.trans h.1.tape, k.1.output.trans h.1.output, Nat.le_trans h.1.size k.1.size, fun i hi hn => (k.1.block i (Nat.lt_of_lt_of_le hi h.1.size) (h.2 i hi hn)).trans (h.1.block i hi hn)⟩,
    fun i hi hn => k.2 i (Nat.lt_of_lt_of_le hi h.1.size) (h.2 i hi hn)⟩
theorem DagB.congr {g b : Nat} {w w' : World} (e : w'.heap[g]? = w.heap[g]?) : DagB w' g b ↔ DagB w g b := by unfold DagB; rw [e]
theorem DS.of_below {g : Nat} {w w' : World} (hg : g < w.heap.size) (h : Below w.heap.size w w') : DS g w w' :=
  ⟨Fr.of_below h, fun b _ hn hd => hn ((DagB.congr (h.block g hg)).1 hd)⟩
theorem DS.heap {g b : Nat} {w w' : World} (h : DS g w w') (hb : b < w.heap.size) (hn : ¬ DagB w g b) : w'.heap[b]? = w.heap[b]? := h.1.block b hb hn
theorem DS.cell {g : Nat} {w w' : World} {a : Addr} {v : Value} (h : DS g w w') (hc : w.cell? a = some v) (hn : ¬ DagB w g a.block) : w'.cell? a = some v :=
  (World.cell?_of_block (h.1.block a.block (World.block_lt_of_cell? w a hc) hn)).trans hc
theorem DagP.dagB {w : World} {g b : Nat} {ns : List Nd} (h : DagP w g ns) (hb : DagB w g b) : b < w.heap.size := by
  obtain ⟨v, mb, m, h1, h2, h3, -⟩ := h
  rcases hb with rfl | ⟨v', mb', T, e, hb⟩
  · exact heap_lt h1
  · rw [h1] at e
    simp only [Option.some.injEq, Obj.cells.injEq, Array.mk.injEq, List.cons.injEq, Value.map.injEq, and_true] at e
    obtain ⟨⟨rfl, rfl⟩, -⟩ := e
    rcases hb with hb | rfl
    · exact ownBlock_lt h2 b hb
    · exact h3.lt
/-- a block that is made anew is not the dag's -/
theorem DagP.fresh {w : World} {g b : Nat} {ns : List Nd} (h : DagP w g ns) (hb : w.heap.size ≤ b) : ¬ DagB w g b := fun hd => by have := h.dagB hd; omega
/-- all of the dag's blocks lie at B or behind it -/
def DagHi (B g : Nat) (w : World) : Prop := ∀ b, DagB w g b → B ≤ b
theorem DS.hi {B g : Nat} {w w' : World} (h : DS g w w') (hB : B ≤ w.heap.size) (hh : DagHi B g w) : DagHi B g w' := fun b hb => by
  rcases Nat.lt_or_ge b B with hlt | hge
  · exact absurd hb (h.2 b (by omega) (fun hd => by have := hh b hd; omega))
  · exact hge
theorem DS.below {B g : Nat} {w w' : World} (h : DS g w w') (hB : B ≤ w.heap.size) (hh : DagHi B g w) : Below B w w' :=
  h.1.below hB hh
section
variable {P : Program} (w : World) {ops : Array Oper} {o : Oper} {a : Act} {K : Act → World → Prop} {Q : Exit → Act → World → Prop} {E : Prop}
/-- v, ok := m[key], at a step of a region that draws -/
theorem step_look2 (hg : o.guard = none) (mo x : Operand) (t : TypeId) (hop : o.op = Op.lookup t mo x true)
    (k e : TypeId) (K' : Keyed P k) (ht : P.underlying t = some (.map k e)) {z : Value} (hz : (zeroValue e).run P w = .ok z w) (b : Nat) (m : Value → Option Value)
    (hm : a.eval mo = .map (some b)) (hown : MapP P k w b m) (key : Value) (kl : Lit) (hx : a.eval x = key) (hkey : keyOf P k key = some kl) (v : Value) (hv : (m key).getD z = v) (c : Bool) (hc : (m key).isSome = c)
    (hK : K (a.put o.dst (.tuple #[v, .bool c])) w) : if Region.wanted o (yielded ops a.tmps) = true then Oper.wp P o a w K Q else E := by
  have hw : Region.wanted o (yielded ops a.tmps) = true := by simp [Region.wanted, hg]
  rw [if_pos hw]
  have hrun := hown.look K' ht hz hkey true
  rw [if_pos rfl, hv, hc] at hrun
  unfold Oper.wp
  simp [execOp, hop, hm, hx, hrun, Result.andThen]
  exact hK
/-- m[key] = val, at a step of a region that draws -/
theorem step_put (hg : o.guard = none) (mo x v : Operand) (t : TypeId) (hop : o.op = Op.mapUpdate t mo x v)
    (k e : TypeId) (K' : Keyed P k) (ht : P.underlying t = some (.map k e)) (b : Nat) (m m' : Value → Option Value)
    (hm : a.eval mo = .map (some b)) (hown : MapP P k w b m) (key val : Value) (kl : Lit) (hx : a.eval x = key) (hv : a.eval v = val) (hkey : keyOf P k key = some kl) (hu : Upd m key (some val) m')
    (hK : ∀ w', Hid (MapP P k w' b m') → w.grownBy w' (some b) → w'.heap.size = w.heap.size → K (a.put o.dst undef) w') : if Region.wanted o (yielded ops a.tmps) = true then Oper.wp P o a w K Q else E := by
  have hw : Region.wanted o (yielded ops a.tmps) = true := by simp [Region.wanted, hg]
  rw [if_pos hw]
  obtain ⟨w', hrun, r1, r2, r3⟩ := hown.store K' ht hkey hu
  unfold Oper.wp
  simp [execOp, hop, hm, hx, hv, hrun, Result.andThen]
  exact hK w' (Lib.hid r1) r2 r3
end
theorem laidOut_prog : laidOutB Tryz.prog = true := by kernel_rfl
set_option maxRecDepth 100000 in
theorem row_key : (198 : TypeId) < Tryz.prog.types.size := of_decide_eq_true (by kernel_rfl)
theorem wide_key : (match Tryz.prog.underlying 198 with | some (.array _ _) | some (.struct _) => true | _ => false) = true := by kernel_rfl
set_option maxRecDepth 100000 in
theorem keyed_key : Keyed Tryz.prog 198 := Keyed.of_law (deep_law_laid laidOut_prog (m := 3) (by omega) row_key (by kernel_rfl) wide_key)
theorem und_ids : Tryz.prog.underlying 108 = some (.map 198 3) := by kernel_rfl
theorem und_nodes : Tryz.prog.underlying 65 = some (.slice 122) := by kernel_rfl
theorem info_node : (Tryz.prog.info? 122).map (fun i => (i.zero, i.size, i.bytes)) = some (some (.agg #[.int .i64 0, .float .f64 0, .int .i64 0, .int .i64 0]), 4, 32) := by kernel_rfl
theorem keyType_key : Tryz.prog.keyType 198 = true := by kernel_rfl
theorem cells_key : Tryz.prog.cellsOf 198 = 4 := by kernel_rfl
theorem cells_int : Tryz.prog.cellsOf 3 = 1 := by kernel_rfl
theorem cells_u64 : Tryz.prog.cellsOf 196 = 1 := by kernel_rfl
theorem und_u64 : Tryz.prog.underlying 196 = some (.int .u64) := by kernel_rfl
set_option maxRecDepth 100000 in
theorem many_types : ∃ d, Tryz.prog.types.size = d + 2 := ⟨Tryz.prog.types.size - 2, by
  have h : decide (2 ≤ Tryz.prog.types.size) = true := by kernel_rfl
  have := of_decide_eq_true h
  omega⟩
def Sm64 (i : Int) : Prop := -9223372036854775808 ≤ i ∧ i < 9223372036854775808
theorem wf_i64 {i : Int} (h : Sm64 i) : (Lit.int .i64 i).wf = true := by
  have e1 : IntKind.i64.min = -9223372036854775808 := rfl
  have e2 : IntKind.i64.max = 9223372036854775807 := rfl
  unfold Sm64 at h
  simp [Lit.wf, e1, e2]; omega
theorem wf_u64 {n : Nat} (h : n < 18446744073709551616) : (Lit.int .u64 (n : Int)).wf = true := by
  have e1 : IntKind.u64.min = 0 := rfl
  have e2 : IntKind.u64.max = 18446744073709551615 := rfl
  simp [Lit.wf, e1, e2]; omega
theorem key_node {n : Nd} (hk : Sm64 n.kind) (ha : Sm64 n.a) (hb : Sm64 n.b) (hv : n.val < 18446744073709551616) : ∃ kl, keyOf Tryz.prog 198 (keyV n) = some kl := by
  obtain ⟨d, hd⟩ := many_types
  have hu := Tryz.underlying198
  have hf : (keyV n).formed Tryz.prog 198 = true := by simp [Value.formed, hu, cells_key, keyV]
  have hl : ∃ ls, Tryz.prog.keyLits (Tryz.prog.types.size + 1) 198 (keyV n).cells.toList = some ls := by
    rw [hd]
    exact ⟨_, by simp [Program.keyLits, hu, keyV, Value.cells, cells_key, cells_int, cells_u64, und_int, und_u64, wf_i64 hk, wf_i64 ha, wf_i64 hb, wf_u64 hv]; rfl⟩
  obtain ⟨ls, hl⟩ := hl
  exact ⟨.string (keyBytes ls), by rw [keyOf, hu]; simp only [keyType_key, hf, hl, Bool.and_self, if_true, Option.map_some]⟩
theorem keyV_inj {n n' : Nd} (h : keyV n = keyV n') : n = n' := by
  obtain ⟨k, v, a, b⟩ := n; obtain ⟨k', v', a', b'⟩ := n'
  simp only [keyV, Value.agg.injEq, Array.mk.injEq, List.cons.injEq, Value.int.injEq, true_and, and_true] at h
  obtain ⟨rfl, rfl, rfl, hv⟩ := h
  have : v = v' := by omega
  rw [this]
end Go.Proofs.YtgodkfgnhpnhcaaGreatDoor
/- dag.Put: a node that fits is put, or is there already. -/
namespace Go.Proofs.YtgodkfgnhpnhcaaGreatDoor
open Go.RowKit Go.Maps
/-- all that the dag's blocks hold -/
def DagO (w : World) (g : Nat) (ns : List Nd) (A : Option Addr) (c mb : Nat) (m : Value → Option Value) : Prop :=
  w.heap[g]? = some (.cells #[.slice A ns.length c, .map (some mb)] 110 (0, 0)) ∧ w.ownsRow 0 122 4 (.slice A ns.length c) ns.length (nodeCells ns) ∧ MapP Tryz.prog 198 w mb m ∧
    (∀ key val, m key = some val → ∃ (i : Nat) (n : Nd), ns[i]? = some n ∧ val = .int .i64 (i : Int) ∧ keyV n = key) ∧ (Value.slice A ns.length c).ownBlock ≠ some g ∧ mb ≠ g ∧ (Value.slice A ns.length c).ownBlock ≠ some mb ∧ ns.length ≤ 20000 ∧ ∀ n ∈ ns, n.val < 18446744073709551616
theorem DagP.opened {w : World} {g : Nat} {ns : List Nd} (h : DagP w g ns) : ∃ A c mb m, DagO w g ns A c mb m := by
  obtain ⟨v, mb, m, h1, h2, h3⟩ := h
  rcases id h2.2 with ⟨rfl, hn⟩ | ⟨r, cap, cur, rfl, -⟩
  · exact ⟨none, 0, mb, m, by rw [hn]; exact h1, by rw [hn]; rw [hn] at h2; exact h2, h3.1, h3.2.1, by simp [Value.ownBlock], h3.2.2.2.1, by simp [Value.ownBlock], h3.2.2.2.2.2.1, h3.2.2.2.2.2.2⟩
  · exact ⟨_, cap, mb, m, h1, h2, h3.1, h3.2.1, h3.2.2.1, h3.2.2.2.1, h3.2.2.2.2.1, h3.2.2.2.2.2.1, h3.2.2.2.2.2.2⟩
theorem DagO.dag {w : World} {g c mb : Nat} {ns : List Nd} {A : Option Addr} {m : Value → Option Value} (h : DagO w g ns A c mb m) : DagP w g ns := by
  obtain ⟨h1, h2, h3, h4, h5, h6, h7, h8, h9⟩ := h
  exact ⟨_, mb, m, h1, h2, h3, h4, h5, h6, h7, h8, h9⟩
theorem DagO.dagB {w : World} {g c mb b : Nat} {ns : List Nd} {A : Option Addr} {m : Value → Option Value} (h : DagO w g ns A c mb m) (hb : ¬ DagB w g b) : b ≠ g ∧ b ≠ mb ∧ (Value.slice A ns.length c).ownBlock ≠ some b := by
  obtain ⟨h1, -⟩ := h
  exact ⟨fun e => hb (Or.inl e), fun e => hb (Or.inr ⟨_, mb, _, h1, Or.inr e.symm⟩), fun e => hb (Or.inr ⟨_, mb, _, h1, Or.inl e⟩)⟩
theorem DagO.below {w w' : World} {g c mb : Nat} {ns : List Nd} {A : Option Addr} {m : Value → Option Value} (h : DagO w g ns A c mb m) (hb : Below w.heap.size w w') : DagO w' g ns A c mb m := by
  obtain ⟨h1, h2, h3, h4, h5, h6, h7, h8, h9⟩ := h
  refine ⟨heap_below h1 hb (heap_lt h1), h2.kept (grownBy_of_below (row := none) hb) ?_, h3.below hb h3.lt, h4, h5, h6, h7, h8, h9⟩
  cases hv : (Value.slice A ns.length c).ownBlock
  · exact Or.inl rfl
  · exact Or.inr (by simp)
theorem nodeCells_snoc (ns : List Nd) (n : Nd) : nodeCells (ns ++ [n]) = nodeCells ns ++ ndCells n := by simp [nodeCells]
/-- node n is put, or was there -/
def RetPut (w : World) (g : Nat) (ns : List Nd) (n : Nd) (e : Ending) (w' : World) : Prop :=
  ∃ (i : Nat) (ns' : List Nd), e = .returned (.tuple #[.int .i64 (i : Int), .nilIface]) ∧ DagP w' g ns' ∧ ns'[i]? = some n ∧ (ns' = ns ∨ ns' = ns ++ [n]) ∧ DS g w w'
theorem grownBy_refl (w : World) (row : Option Nat) : w.grownBy w row := ⟨rfl, rfl, rfl, Nat.le_refl _, fun _ _ _ => rfl⟩
theorem put_end {w wA wB wD wE : World} {g c mb r cap : Nat} {ns : List Nd} {n : Nd} {A : Option Addr} {m m' : Value → Option Value} (h : DagO w g ns A c mb m) (hA : Below w.heap.size w wA)
    (hO : wB.ownsRow 0 122 4 (.slice (some ⟨r, 0, none⟩) (ns.length + 1) cap) (ns.length + 1) (nodeCells ns ++ ndCells n)) (hB : wA.grownBy wB (Value.slice A ns.length c).ownBlock) (hat : (Value.slice A ns.length c).ownBlock = some r ∨ r = wA.heap.size)
    (hD : Below wB.heap.size (wB.setCell ⟨g, 0, none⟩ (.slice (some ⟨r, 0, none⟩) (ns.length + 1) cap)) wD) (hM : MapP Tryz.prog 198 wE mb m') (hE : wD.grownBy wE (some mb)) (hu : Upd m (keyV n) (some (.int .i64 (ns.length : Int))) m')
    (hl : ns.length < 20000) (hv : n.val < 18446744073709551616) :
    RetPut w g ns n (.returned (.tuple #[.int .i64 (ns.length : Int), .nilIface])) wE := by
  obtain ⟨h1, h2, h3, h4, h5, h6, h7, h8, h9⟩ := id h
  have lg := heap_lt h1; have lm := h3.lt; have sA := hA.size; have sB := hB.size
  have hrg : r ≠ g := fun e => hat.elim (fun h => h5 (by rw [← e]; exact h)) (fun h => by omega)
  have hrm : r ≠ mb := fun e => hat.elim (fun h => h7 (by rw [← e]; exact h)) (fun h => by omega)
  have hrB : r < wB.heap.size := (hO.lt r rfl).2
  have szC : (wB.setCell ⟨g, 0, none⟩ (.slice (some ⟨r, 0, none⟩) (ns.length + 1) cap)).heap.size = wB.heap.size := by simp [World.setCell]
  have far : ∀ b, b < w.heap.size → b ≠ g → b ≠ mb → (Value.slice A ns.length c).ownBlock ≠ some b → wE.heap[b]? = w.heap[b]? := fun b hb q1 q2 q3 =>
    (hE.block b (by have := hD.size; omega) (fun e => q2 (Option.some.inj e))).trans ((hD.block b (by omega)).trans ((Below.heap_setCell wB _ _ b (by simpa using q1)).trans ((hB.block b (by omega) (fun e => q3 e.symm)).trans (hA.block b hb))))
  have eg : wB.heap[g]? = some (.cells #[.slice A ns.length c, .map (some mb)] 110 (0, 0)) := (hB.block g (by omega) (fun e => h5 e.symm)).trans ((hA.block g lg).trans h1)
  have eC : (wB.setCell ⟨g, 0, none⟩ (.slice (some ⟨r, 0, none⟩) (ns.length + 1) cap)).heap[g]? = some (.cells #[.slice (some ⟨r, 0, none⟩) (ns.length + 1) cap, .map (some mb)] 110 (0, 0)) := by
    have hg : g < wB.heap.size := heap_lt eg
    have h' : wB.heap[g] = .cells #[.slice A ns.length c, .map (some mb)] 110 (0, 0) := (Array.getElem?_eq_some_iff.1 eg).2
    simp [World.setCell, hg, Array.getElem_modify, h']
  have eE : wE.heap[g]? = some (.cells #[.slice (some ⟨r, 0, none⟩) (ns.length + 1) cap, .map (some mb)] 110 (0, 0)) :=
    (hE.block g (by have := hD.size; omega) (fun e => h6 (Option.some.inj e).symm)).trans ((hD.block g (by omega)).trans eC)
  have hO1 := hO.kept (grownBy_set (grownBy_refl wB (some g)) (i := 0) (.slice (some ⟨r, 0, none⟩) (ns.length + 1) cap)) (Or.inr (fun e => hrg (Option.some.inj e)))
  have hO2 := hO1.kept (grownBy_of_below (row := none) (by rw [szC]; exact hD)) (Or.inr (by simp [Value.ownBlock]))
  have hO3 := hO2.kept hE (Or.inr (fun e => hrm (Option.some.inj e)))
  have sz : w.heap.size ≤ wE.heap.size := by have := hD.size; have := hE.size; omega
  refine ⟨ns.length, ns ++ [n], rfl, ⟨.slice (some ⟨r, 0, none⟩) (ns.length + 1) cap, mb, m', ?_, ?_, hM, ?_, ?_, h6, ?_, by simp; omega, ?_⟩, by simp, Or.inr rfl, ⟨⟨?_, ?_, ?_, sz, ?_⟩, ?_⟩⟩
  · exact eE
  · rw [nodeCells_snoc]; simpa using hO3
  · intro key val hk
    by_cases hkn : key = keyV n
    · subst hkn
      rw [hu.1] at hk
      exact ⟨ns.length, n, by simp, (Option.some.inj hk).symm, rfl⟩
    · rw [hu.2 key hkn] at hk
      obtain ⟨i, n', q1, q2, q3⟩ := h4 key val hk
      exact ⟨i, n', by rw [List.getElem?_append_left (List.getElem?_eq_some_iff.1 q1).1]; exact q1, q2, q3⟩
  · exact fun e => hrg (Option.some.inj e)
  · exact fun e => hrm (Option.some.inj e)
  · intro x hx
    rcases List.mem_append.1 hx with hx | hx
    · exact h9 x hx
    · simp at hx; rw [hx]; exact hv
  · exact hE.os.trans (hD.os.trans (hB.os.trans hA.os))
  · exact hE.tape.trans (hD.tape.trans (hB.tape.trans hA.tape))
  · exact hE.output.trans (hD.output.trans (hB.output.trans hA.output))
  · intro b hb hn
    obtain ⟨q1, q2, q3⟩ := h.dagB hn
    exact far b hb q1 q2 q3
  · rintro b hb hn (rfl | ⟨v', mb', T', e, hd⟩)
    · exact (h.dagB hn).1 rfl
    · obtain ⟨q1, q2, q3⟩ := h.dagB hn
      rw [eE] at e
      simp only [Option.some.injEq, Obj.cells.injEq, Array.mk.injEq, List.cons.injEq, Value.map.injEq, and_true] at e
      obtain ⟨⟨rfl, rfl⟩, -⟩ := e
      rcases hd with hd | rfl
      · have : r = b := Option.some.inj hd
        subst this
        exact hat.elim q3 (fun h => by omega)
      · exact q2 rfl
theorem cells_of_four {w : World} {g : Nat} {T : TypeId} {a b c d : Value} (h : w.heap[g]? = some (.cells #[a, b, c, d] T (0, 0))) : ∀ j x, [a, b, c, d][j]? = some x → w.cell? ((⟨g, 0, none⟩ : Addr).add j) = some x := by
  intro j x hx
  rcases j with _ | _ | _ | _ | j
  all_goals first | (simp at hx; subst hx; simp [World.cell?, Addr.add, h]) | (simp at hx)
theorem put_mid {w w5 w6 : World} {g c mb : Nat} {ns : List Nd} {A : Option Addr} {m : Value → Option Value} (h : DagO w g ns A c mb m) (h5 : DagO w5 g ns A c mb m) (hg : w5.grownBy w6 (Value.slice A ns.length c).ownBlock) (hs : w.heap.size ≤ w5.heap.size) (nv : Value) :
    w6.heap[g]? = some (.cells #[.slice A ns.length c, .map (some mb)] 110 (0, 0)) ∧ (w6.setCell ⟨g, 0, none⟩ nv).heap[g]? = some (.cells #[nv, .map (some mb)] 110 (0, 0)) ∧ MapP Tryz.prog 198 (w6.setCell ⟨g, 0, none⟩ nv) mb m ∧
      ∀ b, w.heap.size ≤ b → b < w5.heap.size → w6.heap[b]? = w5.heap[b]? ∧ (w6.setCell ⟨g, 0, none⟩ nv).heap[b]? = w5.heap[b]? := by
  obtain ⟨h1, h2, h3, h4, h5', h6, h7, h8, h9⟩ := id h
  have lg := heap_lt h1; have lm := h3.lt
  have eg := (hg.block g (by omega) (fun e => h5' e.symm)).trans h5.1
  have em : w6.heap[mb]? = w5.heap[mb]? := hg.block mb (by omega) (fun e => h7 e.symm)
  refine ⟨eg, ?_, h5.2.2.1.keep ((Below.heap_setCell w6 _ _ mb (by simpa using h6)).trans em), fun b hb hlt => ?_⟩
  · have hgl : g < w6.heap.size := heap_lt eg
    have h' : w6.heap[g] = .cells #[.slice A ns.length c, .map (some mb)] 110 (0, 0) := (Array.getElem?_eq_some_iff.1 eg).2
    simp [World.setCell, hgl, Array.getElem_modify, h']
  · have e := hg.block b hlt (fun e => by have := ownBlock_lt h2 b e.symm; omega)
    exact ⟨e, (Below.heap_setCell w6 _ _ b (by simp; omega)).trans e⟩
set_option maxHeartbeats 6400000 in
set_option maxRecDepth 100000 in
theorem put_any {w : World} {g : Nat} {ns : List Nd} {n : Nd} (hd : DagP w g ns) (hn : NdIn n ns.length) (hv : n.val < 18446744073709551616) (hl : ns.length < 20000) :
    Calls Tryz.prog 101 #[.pointer (some ⟨g, 0, none⟩), nodeV n] w (RetPut w g ns n) := by
  obtain ⟨A, c, mb, m, ho⟩ := hd.opened
  obtain ⟨w1, hw1, hb1, hs1, b1⟩ := pro1 w (.cells (ndCells n).toArray 122)
  have hkey : ∃ kl, keyOf Tryz.prog 198 (keyV n) = some kl := by
    have hk : Sm64 n.kind ∧ Sm64 n.a ∧ Sm64 n.b := by
      rcases hn.1 with ⟨q1, q2, q3⟩ | ⟨q1, q2, q3, q4⟩ | ⟨q1, q2, q3, q4⟩ <;> unfold Sm64 <;> omega
    exact key_node hk.1 hk.2.1 hk.2.2 hv
  obtain ⟨kl, hkey⟩ := hkey
  have HO := Lib.hid ho; have HO1 := Lib.hid (ho.below hb1); have HB1 := Lib.hid hb1
  have HT := Lib.hid (takes_any (hd.below hb1) hn hv)
  have HKO : Hid (∀ w', Calls Tryz.prog 127 #[.agg #[.int .i64 n.kind, .float .f64 n.val, .int .i64 n.a, .int .i64 n.b]] w' (RetV w' (keyV n))) := Lib.hid fun w' => keyOf_any
  have HKEY := Lib.hid hkey
  obtain ⟨kind, val, na, nb⟩ := n
  simp only [ndCells, nodeV] at b1 hw1 ⊢
  obtain ⟨c0, c1, c2, c3⟩ := cells4 b1
  obtain ⟨g0, g1, gf0, gf1⟩ := cells2 HO1.out.1
  have HLEN := Lib.hid hl; have HV := Lib.hid hv
  have hlI : (ns.length : Int) < 20000 := by omega
  have hl0 : (0 : Int) ≤ (ns.length : Int) := by omega
  have hneq := fun (w : World) (r : Option Nat) => run_neq_map_nil w _ _ _ r und_ids
  clear hd hn hb1 hs1 b1 ho hkey hv hl
  cases hmk : m (keyV ⟨kind, val, na, nb⟩) with
  | some v =>
    obtain ⟨i, n', q1, rfl, q3⟩ := HO.out.2.2.2.1 _ _ hmk
    have q4 := keyV_inj q3
    subst q4
    have HQ := Lib.hid q1
    have HMS : Hid ((m (keyV ⟨kind, val, na, nb⟩)).getD (.int .i64 0) = .int .i64 (i : Int)) := Lib.hid (by rw [hmk]; rfl)
    have HMI : Hid ((m (keyV ⟨kind, val, na, nb⟩)).isSome = true) := Lib.hid (by rw [hmk]; rfl)
    clear hmk q1 q3
    go_enter Tryz.func101, Tryz.ntmps101
    go_wp2_with fail
    refine HT.out.mono ?_
    rintro e w2 ⟨rfl, hb2⟩
    replace c0 := cell_below c0 hb2 (Nat.le_refl _)
    replace c1 := cell_below c1 hb2 (Nat.le_refl _)
    replace c2 := cell_below c2 hb2 (Nat.le_refl _)
    replace c3 := cell_below c3 hb2 (Nat.le_refl _)
    replace g0 := cell_below g0 hb2 (Nat.le_refl _)
    replace g1 := cell_below g1 hb2 (Nat.le_refl _)
    have HB2 := Lib.hid (below_up HB1.out hb2)
    have HD2 := Lib.hid (((HO1.out.below hb2).below (Below.refl _ _).drew))
    clear hb2 gf0 gf1
    go_wp2_with fail
    have hdr : Below w2.heap.size w2 w2.drew := (Below.refl _ _).drew
    replace c0 := cell_below c0 hdr (Nat.le_refl _)
    replace c1 := cell_below c1 hdr (Nat.le_refl _)
    replace c2 := cell_below c2 hdr (Nat.le_refl _)
    replace c3 := cell_below c3 hdr (Nat.le_refl _)
    replace g0 := cell_below g0 hdr (Nat.le_refl _)
    replace g1 := cell_below g1 hdr (Nat.le_refl _)
    clear hdr
    go_region_held3 (fun w' => w'.cell? ⟨g, 1, none⟩ = some (.map (some mb)) ∧ w'.cell? ⟨w.heap.size, 0, none⟩ = some (.int .i64 kind) ∧ w'.cell? ⟨w.heap.size, 1, none⟩ = some (.float .f64 val) ∧ w'.cell? ⟨w.heap.size, 2, none⟩ = some (.int .i64 na) ∧ w'.cell? ⟨w.heap.size, 3, none⟩ = some (.int .i64 nb)) (go_keep)
      (first
      | (go_at_call 127
         refine (HKO.out _).mono ?_
         rintro e w4 ⟨rfl, hb4⟩
         have c0 := cell_below c0 hb4 (Nat.le_refl _)
         have c1 := cell_below c1 hb4 (Nat.le_refl _)
         have c2 := cell_below c2 hb4 (Nat.le_refl _)
         have c3 := cell_below c3 hb4 (Nat.le_refl _)
         have g0 := cell_below g0 hb4 (Nat.le_refl _)
         have g1 := cell_below g1 hb4 (Nat.le_refl _)
         have hlk := (HD2.out.below hb4).2.2.1.look keyed_key und_ids (zero_int w4) HKEY.out true
         rw [if_pos rfl, HMS.out, HMI.out] at hlk
         unfold keyV at *
         have HBF := Lib.hid (below_up (below_up HB2.out (Below.refl _ _).drew) hb4)
         have HDF := Lib.hid (HD2.out.below hb4)
         clear hb4))
    go_wp2
    go_ret2
    exact ⟨i, ns, rfl, HDF.out.dag, HQ.out, Or.inl rfl, DS.of_below HO.out.dag.glt HBF.out⟩
  | none =>
    have HMS : Hid ((m (keyV ⟨kind, val, na, nb⟩)).getD (.int .i64 0) = .int .i64 0) := Lib.hid (by rw [hmk]; rfl)
    have HMI : Hid ((m (keyV ⟨kind, val, na, nb⟩)).isSome = false) := Lib.hid (by rw [hmk]; rfl)
    obtain ⟨m', hu⟩ := upd_ex m (keyV ⟨kind, val, na, nb⟩) (some (.int .i64 (ns.length : Int)))
    have HU := Lib.hid hu
    obtain ⟨i0, hi0, hz0, hz1, hz2⟩ := info_parts info_node
    have HI0 := Lib.hid hi0; have HZ0 := Lib.hid hz0; have HZ1 := Lib.hid hz1; have HZ2 := Lib.hid hz2
    clear hmk hu hi0 hz0 hz1 hz2
    go_enter Tryz.func101, Tryz.ntmps101
    go_wp2_with fail
    refine HT.out.mono ?_
    rintro e w2 ⟨rfl, hb2⟩
    replace c0 := cell_below c0 hb2 (Nat.le_refl _)
    replace c1 := cell_below c1 hb2 (Nat.le_refl _)
    replace c2 := cell_below c2 hb2 (Nat.le_refl _)
    replace c3 := cell_below c3 hb2 (Nat.le_refl _)
    replace g0 := cell_below g0 hb2 (Nat.le_refl _)
    replace g1 := cell_below g1 hb2 (Nat.le_refl _)
    have HB2 := Lib.hid (below_up HB1.out hb2)
    have HD2 := Lib.hid (((HO1.out.below hb2).below (Below.refl _ _).drew))
    clear hb2 gf0 gf1
    go_wp2_with fail
    have hdr : Below w2.heap.size w2 w2.drew := (Below.refl _ _).drew
    replace c0 := cell_below c0 hdr (Nat.le_refl _)
    replace c1 := cell_below c1 hdr (Nat.le_refl _)
    replace c2 := cell_below c2 hdr (Nat.le_refl _)
    replace c3 := cell_below c3 hdr (Nat.le_refl _)
    replace g0 := cell_below g0 hdr (Nat.le_refl _)
    replace g1 := cell_below g1 hdr (Nat.le_refl _)
    clear hdr
    go_region_held3 (fun w' => w'.cell? ⟨g, 1, none⟩ = some (.map (some mb)) ∧ w'.cell? ⟨w.heap.size, 0, none⟩ = some (.int .i64 kind) ∧ w'.cell? ⟨w.heap.size, 1, none⟩ = some (.float .f64 val) ∧ w'.cell? ⟨w.heap.size, 2, none⟩ = some (.int .i64 na) ∧ w'.cell? ⟨w.heap.size, 3, none⟩ = some (.int .i64 nb)) (go_keep)
      (first
      | (go_at_call 127
         refine (HKO.out _).mono ?_
         rintro e w4 ⟨rfl, hb4⟩
         have c0 := cell_below c0 hb4 (Nat.le_refl _)
         have c1 := cell_below c1 hb4 (Nat.le_refl _)
         have c2 := cell_below c2 hb4 (Nat.le_refl _)
         have c3 := cell_below c3 hb4 (Nat.le_refl _)
         have g0 := cell_below g0 hb4 (Nat.le_refl _)
         have g1 := cell_below g1 hb4 (Nat.le_refl _)
         have hlk := (HD2.out.below hb4).2.2.1.look keyed_key und_ids (zero_int w4) HKEY.out true
         rw [if_pos rfl, HMS.out, HMI.out] at hlk
         unfold keyV at *
         have HBF := Lib.hid (below_up (below_up HB2.out (Below.refl _ _).drew) hb4)
         have HDF := Lib.hid (HD2.out.below hb4)
         clear hb4))
    clear hlk
    go_wp2_with fail
    refine wp_region_noPanic ?_
    refine anyG_begin (fun w' => w'.cell? ⟨g, 0, none⟩ = some (.slice A ns.length c) ∧ w'.cell? ⟨w.heap.size, 0, none⟩ = some (.int .i64 kind) ∧ w'.cell? ⟨w.heap.size, 1, none⟩ = some (.float .f64 val) ∧ w'.cell? ⟨w.heap.size, 2, none⟩ = some (.int .i64 na) ∧ w'.cell? ⟨w.heap.size, 3, none⟩ = some (.int .i64 nb)) 10 (by kernel_rfl) ?_
    have hSd : (fun w' : World => w'.cell? ⟨g, 0, none⟩ = some (.slice A ns.length c) ∧ w'.cell? ⟨w.heap.size, 0, none⟩ = some (.int .i64 kind) ∧ w'.cell? ⟨w.heap.size, 1, none⟩ = some (.float .f64 val) ∧ w'.cell? ⟨w.heap.size, 2, none⟩ = some (.int .i64 na) ∧ w'.cell? ⟨w.heap.size, 3, none⟩ = some (.int .i64 nb)) w4.drew := ⟨g0, c0, c1, c2, c3⟩
    refine anyG_take 0 (.pointer (some ⟨g, 0, none⟩)) rfl (by kernel_rfl) (by kernel_rfl) (by kernel_rfl) (by kernel_rfl) (fun _ _ _ h => h) (by rfl) ?_ (by assumption) ?_
    · intro w' hSw; (try dsimp only at hSw); go_split_ands; go_simp; all_goals first | rfl | done
    try simp only [Act.put, List.setIfInBounds_toArray, List.set_cons_zero, List.set_cons_succ]
    refine anyG_take 1 (.pointer (some ⟨g, 0, none⟩)) rfl (by kernel_rfl) (by kernel_rfl) (by kernel_rfl) (by kernel_rfl) (fun _ _ _ h => h) (by rfl) ?_ (by assumption) ?_
    · intro w' hSw; (try dsimp only at hSw); go_split_ands; go_simp; all_goals first | rfl | done
    try simp only [Act.put, List.setIfInBounds_toArray, List.set_cons_zero, List.set_cons_succ]
    refine anyG_take 2 (.pointer (some ⟨g, 0, none⟩)) rfl (by kernel_rfl) (by kernel_rfl) (by kernel_rfl) (by kernel_rfl) (fun _ _ _ h => h) (by rfl) ?_ (by assumption) ?_
    · intro w' hSw; (try dsimp only at hSw); go_split_ands; go_simp; all_goals first | rfl | done
    try simp only [Act.put, List.setIfInBounds_toArray, List.set_cons_zero, List.set_cons_succ]
    refine anyG_take 3 (.pointer (some ⟨g, 0, none⟩)) rfl (by kernel_rfl) (by kernel_rfl) (by kernel_rfl) (by kernel_rfl) (fun _ _ _ h => h) (by rfl) ?_ (by assumption) ?_
    · intro w' hSw; (try dsimp only at hSw); go_split_ands; go_simp; all_goals first | rfl | done
    try simp only [Act.put, List.setIfInBounds_toArray, List.set_cons_zero, List.set_cons_succ]
    refine anyG_take 4 (.slice A ns.length c) rfl (by kernel_rfl) (by kernel_rfl) (by kernel_rfl) (by kernel_rfl) (fun _ _ _ h => h) (by rfl) ?_ (by assumption) ?_
    · intro w' hSw; (try dsimp only at hSw); go_split_ands; go_simp; all_goals first | rfl | done
    try simp only [Act.put, List.setIfInBounds_toArray, List.set_cons_zero, List.set_cons_succ]
    refine anyG_take 5 (.agg #[.int .i64 kind, .float .f64 val, .int .i64 na, .int .i64 nb]) rfl (by kernel_rfl) (by kernel_rfl) (by kernel_rfl) (by kernel_rfl) (fun _ _ _ h => h) (by rfl) ?_ (by assumption) ?_
    · intro w' hSw; (try dsimp only at hSw); go_split_ands; go_simp; all_goals first | rfl | done
    try simp only [Act.put, List.setIfInBounds_toArray, List.set_cons_zero, List.set_cons_succ]
    obtain ⟨w5, hw5, hb5, hs5, b5⟩ := pro1 w4.drew (.cells #[.int .i64 kind, .float .f64 val, .int .i64 na, .int .i64 nb] 122)
    have hdr4 : Below w4.heap.size w4 w4.drew := (Below.refl _ _).drew
    have h45 : Below w4.heap.size w4 w5 := below_up hdr4 hb5
    have HD5 := Lib.hid (HDF.out.below h45)
    replace c0 := cell_below c0 h45 (Nat.le_refl _)
    replace c1 := cell_below c1 h45 (Nat.le_refl _)
    replace c2 := cell_below c2 h45 (Nat.le_refl _)
    replace c3 := cell_below c3 h45 (Nat.le_refl _)
    replace g0 := cell_below g0 h45 (Nat.le_refl _)
    replace g1 := cell_below g1 h45 (Nat.le_refl _)
    have HB5 := Lib.hid (below_up HBF.out h45)
    have HC5 := Lib.hid (cells_of_four b5)
    have HS5 : Hid (w5.heap.size = w4.heap.size + 1) := Lib.hid hs5
    clear hb5 hs5 b5 hdr4 h45
    refine anyG_one 6 (by kernel_rfl) rfl fun K hK => ?_
    go_simp
    refine hK.out _ _ (fun _ => ⟨g0, c0, c1, c2, c3⟩) ?_
    clear hK
    try simp only [Act.put, List.setIfInBounds_toArray, List.set_cons_zero, List.set_cons_succ]
    refine anyG_one 7 (by kernel_rfl) rfl fun K hK => ?_
    refine step_append_lies _ rfl _ _ 65 rfl 0 122 i0 (.agg #[.int .i64 0, .float .f64 0, .int .i64 0, .int .i64 0]) 4 32 und_nodes HI0.out HZ0.out HZ1.out HZ2.out rfl (by decide) (.slice A ns.length c) ns.length (nodeCells ns) rfl HD5.out.2.1 ⟨w4.heap.size, 0, none⟩ 1 1 [.int .i64 kind, .float .f64 val, .int .i64 na, .int .i64 nb] rfl rfl HC5.out (by simp [Value.oneCell']) (by decide) (by have := HLEN.out; unfold maxLen; omega) (by have := HLEN.out; omega) (Nat.zero_le _) w5.heap.size rfl ?_
    intro r cap w6 hown6 hgr6 hat6 hlt6
    have hm := put_mid HO.out HD5.out hgr6 HB5.out.size (.slice (some ⟨r, 0, none⟩) (ns.length + 1) cap)
    obtain ⟨q1, q2, q3, q4⟩ := hm
    obtain ⟨q4, q5⟩ := q4 w.heap.size (Nat.le_refl _) (World.block_lt_of_cell? w5 _ c0)
    obtain ⟨w7, hw7⟩ : ∃ w7, w6.setCell ⟨g, 0, none⟩ (.slice (some ⟨r, 0, none⟩) (ns.length + 1) cap) = w7 := ⟨_, rfl⟩
    obtain ⟨g0', g1', gf0', -⟩ := cells2 q1
    have d0 := (World.cell?_of_block (a := ⟨w.heap.size, 0, none⟩) q4).trans c0
    have d1 := (World.cell?_of_block (a := ⟨w.heap.size, 1, none⟩) q4).trans c1
    have d2 := (World.cell?_of_block (a := ⟨w.heap.size, 2, none⟩) q4).trans c2
    have d3 := (World.cell?_of_block (a := ⟨w.heap.size, 3, none⟩) q4).trans c3
    have HO6 := Lib.hid hown6; have HG6 := Lib.hid hgr6; have HA6 := Lib.hid hat6
    have HW7 := Lib.hid hw7
    rw [hw7] at q2 q3 q5
    have HQ2 := Lib.hid q2; have HQ3 := Lib.hid q3; have HQ5 := Lib.hid q5
    refine hK.out _ _ (fun _ => ⟨g0', d0, d1, d2, d3⟩) ?_
    clear hK hown6 hgr6 hat6 hlt6 q1 q2 q3 q4 q5
    try simp only [Act.put, List.setIfInBounds_toArray, List.set_cons_zero, List.set_cons_succ]
    refine anyG_one 8 (by kernel_rfl) rfl fun K hK => ?_
    go_simp
    refine hK.out _ _ (fun _ => ⟨g0', d0, d1, d2, d3⟩) ?_
    clear hK
    try simp only [Act.put, List.setIfInBounds_toArray, List.set_cons_zero, List.set_cons_succ]
    refine anyG_one 9 (by kernel_rfl) rfl fun K hK => ?_
    go_simp
    refine hK.out _ _ (fun _ => ⟨g0', d0, d1, d2, d3⟩) ?_
    clear hK
    try simp only [Act.put, List.setIfInBounds_toArray, List.set_cons_zero, List.set_cons_succ]
    refine anyG_one 10 (by kernel_rfl) rfl fun K hK => ?_
    go_simp
    refine hK.out _ _ (fun h => absurd rfl h) ?_
    clear hK
    refine anyG_done (by kernel_rfl) ?_
    refine NoPanic.normal ?_
    obtain ⟨p0, p1, -, -⟩ := cells2 HQ2.out
    have e0 := (World.cell?_of_block (a := ⟨w.heap.size, 0, none⟩) HQ5.out).trans c0
    have e1 := (World.cell?_of_block (a := ⟨w.heap.size, 1, none⟩) HQ5.out).trans c1
    have e2 := (World.cell?_of_block (a := ⟨w.heap.size, 2, none⟩) HQ5.out).trans c2
    have e3 := (World.cell?_of_block (a := ⟨w.heap.size, 3, none⟩) HQ5.out).trans c3
    clear d0 d1 d2 d3 g0' g1' gf0' c0 c1 c2 c3 g0 g1 hw5
    go_wp2_with fail
    refine wp_region_noPanic ?_
    refine anyG_begin (fun w' => w'.cell? ⟨g, 1, none⟩ = some (.map (some mb)) ∧ w'.cell? ⟨w.heap.size, 0, none⟩ = some (.int .i64 kind) ∧ w'.cell? ⟨w.heap.size, 1, none⟩ = some (.float .f64 val) ∧ w'.cell? ⟨w.heap.size, 2, none⟩ = some (.int .i64 na) ∧ w'.cell? ⟨w.heap.size, 3, none⟩ = some (.int .i64 nb)) 7 (by kernel_rfl) ?_
    have hSd2 : (fun w' : World => w'.cell? ⟨g, 1, none⟩ = some (.map (some mb)) ∧ w'.cell? ⟨w.heap.size, 0, none⟩ = some (.int .i64 kind) ∧ w'.cell? ⟨w.heap.size, 1, none⟩ = some (.float .f64 val) ∧ w'.cell? ⟨w.heap.size, 2, none⟩ = some (.int .i64 na) ∧ w'.cell? ⟨w.heap.size, 3, none⟩ = some (.int .i64 nb)) w7.drew := ⟨p1, e0, e1, e2, e3⟩
    refine anyG_take 0 (.pointer (some ⟨g, 0, none⟩)) rfl (by kernel_rfl) (by kernel_rfl) (by kernel_rfl) (by kernel_rfl) (fun _ _ _ h => h) (by rfl) ?_ (by assumption) ?_
    · intro w' hSw; (try dsimp only at hSw); go_split_ands; go_simp; all_goals first | rfl | done
    try simp only [Act.put, List.setIfInBounds_toArray, List.set_cons_zero, List.set_cons_succ]
    refine anyG_take 1 (.pointer (some ⟨g, 0, none⟩)) rfl (by kernel_rfl) (by kernel_rfl) (by kernel_rfl) (by kernel_rfl) (fun _ _ _ h => h) (by rfl) ?_ (by assumption) ?_
    · intro w' hSw; (try dsimp only at hSw); go_split_ands; go_simp; all_goals first | rfl | done
    try simp only [Act.put, List.setIfInBounds_toArray, List.set_cons_zero, List.set_cons_succ]
    refine anyG_take 2 (.pointer (some ⟨g, 1, none⟩)) rfl (by kernel_rfl) (by kernel_rfl) (by kernel_rfl) (by kernel_rfl) (fun _ _ _ h => h) (by rfl) ?_ (by assumption) ?_
    · intro w' hSw; (try dsimp only at hSw); go_split_ands; go_simp; all_goals first | rfl | done
    try simp only [Act.put, List.setIfInBounds_toArray, List.set_cons_zero, List.set_cons_succ]
    refine anyG_take 3 (.map (some mb)) rfl (by kernel_rfl) (by kernel_rfl) (by kernel_rfl) (by kernel_rfl) (fun _ _ _ h => h) (by rfl) ?_ (by assumption) ?_
    · intro w' hSw; (try dsimp only at hSw); go_split_ands; go_simp; all_goals first | rfl | done
    try simp only [Act.put, List.setIfInBounds_toArray, List.set_cons_zero, List.set_cons_succ]
    refine anyG_take 4 (.agg #[.int .i64 kind, .float .f64 val, .int .i64 na, .int .i64 nb]) rfl (by kernel_rfl) (by kernel_rfl) (by kernel_rfl) (by kernel_rfl) (fun _ _ _ h => h) (by rfl) ?_ (by assumption) ?_
    · intro w' hSw; (try dsimp only at hSw); go_split_ands; go_simp; all_goals first | rfl | done
    try simp only [Act.put, List.setIfInBounds_toArray, List.set_cons_zero, List.set_cons_succ]
    refine anyG_take 6 (.int .i64 (ns.length : Int)) rfl (by kernel_rfl) (by kernel_rfl) (by kernel_rfl) (by kernel_rfl) (fun _ _ _ h => h) (by rfl) ?_ (by assumption) ?_
    · intro w' hSw; (try dsimp only at hSw); go_split_ands; go_simp; all_goals first | rfl | done
    try simp only [Act.put, List.setIfInBounds_toArray, List.set_cons_zero, List.set_cons_succ]
    refine anyG_one 5 (by kernel_rfl) rfl fun K hK => ?_
    go_simp
    refine (HKO.out _).mono ?_
    rintro e w8 ⟨rfl, hb8⟩
    have h78 : Below w7.heap.size w7 w8 := below_up (Below.refl _ _).drew hb8
    have HB8 := Lib.hid h78
    have HM8 := Lib.hid (HQ3.out.below h78 HQ3.out.lt)
    replace p0 := cell_below p0 h78 (Nat.le_refl _)
    replace p1 := cell_below p1 h78 (Nat.le_refl _)
    replace e0 := cell_below e0 h78 (Nat.le_refl _)
    replace e1 := cell_below e1 h78 (Nat.le_refl _)
    replace e2 := cell_below e2 h78 (Nat.le_refl _)
    replace e3 := cell_below e3 h78 (Nat.le_refl _)
    clear h78 hb8
    refine hK.out _ _ (fun _ => ⟨p1, e0, e1, e2, e3⟩) ?_
    clear hK
    try simp only [Act.put, List.setIfInBounds_toArray, List.set_cons_zero, List.set_cons_succ]
    refine anyG_one 7 (by kernel_rfl) rfl fun K hK => ?_
    refine step_put _ rfl _ _ _ _ rfl _ _ keyed_key und_ids mb m m' rfl HM8.out (.agg #[.int .i64 kind, .int .i64 na, .int .i64 nb, .int .u64 (val : Int)]) (.int .i64 (ns.length : Int)) kl rfl rfl HKEY.out HU.out ?_
    intro w9 HM9 hgr9 hsz9
    have HG9 := Lib.hid hgr9
    refine hK.out _ _ (fun h => absurd rfl h) ?_
    clear hK hgr9 hsz9
    refine anyG_done (by kernel_rfl) ?_
    refine NoPanic.normal ?_
    go_wp2
    go_ret2
    refine put_end HO.out HB5.out HO6.out HG6.out HA6.out ?_ HM9.out HG9.out HU.out HLEN.out HV.out
    rw [HW7.out]
    have hz : w7.heap.size = w6.heap.size := by rw [← HW7.out]; simp [World.setCell]
    rw [← hz]; exact HB8.out
end Go.Proofs.YtgodkfgnhpnhcaaGreatDoor
/- Expressions, and which of them a node of a dag stands for. -/
namespace Go.Proofs.YtgodkfgnhpnhcaaGreatDoor
/-- an expression over float64 leaves -/
inductive Ex where
  | leaf (v : Nat)
  | add (a b : Ex)
  | sub (a b : Ex)
  | mul (a b : Ex)
  | div (a b : Ex)
  | root (a : Ex)
/-- node k stands for the expression -/
def Is (ns : List Nd) : Ex → Nat → Prop
  | .leaf v, k => ns[k]? = some ⟨0, v, 0, 0⟩
  | .add a b, k => ∃ i j : Nat, ns[k]? = some ⟨1, 0, i, j⟩ ∧ i < k ∧ j < k ∧ Is ns a i ∧ Is ns b j
  | .sub a b, k => ∃ i j : Nat, ns[k]? = some ⟨2, 0, i, j⟩ ∧ i < k ∧ j < k ∧ Is ns a i ∧ Is ns b j
  | .mul a b, k => ∃ i j : Nat, ns[k]? = some ⟨3, 0, i, j⟩ ∧ i < k ∧ j < k ∧ Is ns a i ∧ Is ns b j
  | .div a b, k => ∃ i j : Nat, ns[k]? = some ⟨4, 0, i, j⟩ ∧ i < k ∧ j < k ∧ Is ns a i ∧ Is ns b j
  | .root a, k => ∃ i : Nat, ns[k]? = some ⟨5, 0, i, 0⟩ ∧ i < k ∧ Is ns a i
theorem Is.lt {ns : List Nd} {e : Ex} {k : Nat} (h : Is ns e k) : k < ns.length := by
  cases e <;> simp only [Is] at h
  · exact (List.getElem?_eq_some_iff.1 h).1
  all_goals first
    | (obtain ⟨i, j, h, -⟩ := h; exact (List.getElem?_eq_some_iff.1 h).1)
    | (obtain ⟨i, h, -⟩ := h; exact (List.getElem?_eq_some_iff.1 h).1)
theorem prefix_at {ns ns' : List Nd} (hp : ns <+: ns') {k : Nat} {n : Nd} (h : ns[k]? = some n) : ns'[k]? = some n := by
  obtain ⟨l, rfl⟩ := hp
  rw [List.getElem?_append_left (List.getElem?_eq_some_iff.1 h).1]; exact h
theorem Is.mono {ns ns' : List Nd} (hp : ns <+: ns') : ∀ {e : Ex} {k : Nat}, Is ns e k → Is ns' e k := by
  intro e
  induction e with
  | leaf v => intro k h; exact prefix_at hp h
  | add a b iha ihb => intro k h; obtain ⟨i, j, h1, h2, h3, h4, h5⟩ := h; exact ⟨i, j, prefix_at hp h1, h2, h3, iha h4, ihb h5⟩
  | sub a b iha ihb => intro k h; obtain ⟨i, j, h1, h2, h3, h4, h5⟩ := h; exact ⟨i, j, prefix_at hp h1, h2, h3, iha h4, ihb h5⟩
  | mul a b iha ihb => intro k h; obtain ⟨i, j, h1, h2, h3, h4, h5⟩ := h; exact ⟨i, j, prefix_at hp h1, h2, h3, iha h4, ihb h5⟩
  | div a b iha ihb => intro k h; obtain ⟨i, j, h1, h2, h3, h4, h5⟩ := h; exact ⟨i, j, prefix_at hp h1, h2, h3, iha h4, ihb h5⟩
  | root a iha => intro k h; obtain ⟨i, h1, h2, h3⟩ := h; exact ⟨i, prefix_at hp h1, h2, iha h3⟩
/-- all nodes stand for expressions of which P holds -/
def AllIs (P : Ex → Prop) (ns : List Nd) : Prop := ∀ k, k < ns.length → ∃ e, Is ns e k ∧ P e
/-- an operation's kind -/
def opE (kind : Int) (a b : Ex) : Ex := if kind = 1 then .add a b else if kind = 2 then .sub a b else if kind = 3 then .mul a b else .div a b
def KindB (kind : Int) : Prop := kind = 1 ∨ kind = 2 ∨ kind = 3 ∨ kind = 4
theorem nat_cast_inj {a b : Nat} (h : (a : Int) = b) : a = b := by omega
theorem Is.opE {ns : List Nd} {kind : Int} (hk : KindB kind) {a b : Ex} {i j k : Nat} (h : ns[k]? = some ⟨kind, 0, i, j⟩) (hi : i < k) (hj : j < k) (ha : Is ns a i) (hb : Is ns b j) : Is ns (opE kind a b) k := by
  rcases hk with rfl | rfl | rfl | rfl <;> exact ⟨i, j, h, hi, hj, ha, hb⟩
/-- operands precede -/
theorem AllIs.before {P : Ex → Prop} {ns : List Nd} (h : AllIs P ns) {k : Nat} {n : Nd} (hn : ns[k]? = some n) : (n.kind = 0 ∧ n.a = 0 ∧ n.b = 0) ∨ (KindB n.kind ∧ n.val = 0 ∧ ∃ i j : Nat, n.a = i ∧ n.b = j ∧ i < k ∧ j < k) ∨ (n.kind = 5 ∧ n.val = 0 ∧ n.b = 0 ∧ ∃ i : Nat, n.a = i ∧ i < k) := by
  obtain ⟨e, he, -⟩ := h k (List.getElem?_eq_some_iff.1 hn).1
  cases e with
  | leaf v => simp only [Is, hn] at he; cases he; exact Or.inl ⟨rfl, rfl, rfl⟩
  | root a => obtain ⟨i, h1, h2, h3⟩ := he; rw [hn] at h1; cases h1; exact Or.inr (Or.inr ⟨rfl, rfl, rfl, i, rfl, h2⟩)
  | add a b => obtain ⟨i, j, h1, h2, h3, -⟩ := he; rw [hn] at h1; cases h1; exact Or.inr (Or.inl ⟨Or.inl rfl, rfl, i, j, rfl, rfl, h2, h3⟩)
  | sub a b => obtain ⟨i, j, h1, h2, h3, -⟩ := he; rw [hn] at h1; cases h1; exact Or.inr (Or.inl ⟨Or.inr (Or.inl rfl), rfl, i, j, rfl, rfl, h2, h3⟩)
  | mul a b => obtain ⟨i, j, h1, h2, h3, -⟩ := he; rw [hn] at h1; cases h1; exact Or.inr (Or.inl ⟨Or.inr (Or.inr (Or.inl rfl)), rfl, i, j, rfl, rfl, h2, h3⟩)
  | div a b => obtain ⟨i, j, h1, h2, h3, -⟩ := he; rw [hn] at h1; cases h1; exact Or.inr (Or.inl ⟨Or.inr (Or.inr (Or.inr rfl)), rfl, i, j, rfl, rfl, h2, h3⟩)
theorem AllIs.snoc {P : Ex → Prop} {ns : List Nd} {n : Nd} (h : AllIs P ns) {e : Ex} (he : Is (ns ++ [n]) e ns.length) (hP : P e) : AllIs P (ns ++ [n]) := by
  intro k hk
  rw [List.length_append] at hk
  by_cases hkn : k < ns.length
  · obtain ⟨e, h1, h2⟩ := h k hkn
    exact ⟨e, h1.mono ⟨[n], rfl⟩, h2⟩
  · have : k = ns.length := by simp at hk; omega
    subst this; exact ⟨e, he, hP⟩
/-- a node that was put: which expression it stands for -/
theorem put_op {P : Ex → Prop} {ns ns' : List Nd} {kind : Int} (hk : KindB kind) {a b : Ex} {i j k : Nat} (h : AllIs P ns) (ha : Is ns a i) (hb : Is ns b j) (hn : ns'[k]? = some ⟨kind, 0, i, j⟩) (hns : ns' = ns ∨ ns' = ns ++ [⟨kind, 0, i, j⟩]) (hP : P (opE kind a b)) :
    Is ns' (Go.Proofs.YtgodkfgnhpnhcaaGreatDoor.opE kind a b) k ∧ AllIs P ns' ∧ ns <+: ns' := by
  by_cases hkl : k < ns.length
  · have hnk : ns[k]? = some ⟨kind, 0, i, j⟩ := by
      rcases hns with rfl | rfl
      · exact hn
      · rwa [List.getElem?_append_left hkl] at hn
    have hb4 : i < k ∧ j < k := by
      rcases h.before hnk with ⟨h0, -⟩ | ⟨-, -, i', j', e1, e2, h1, h2⟩ | ⟨h5, -⟩
      · rcases hk with rfl | rfl | rfl | rfl <;> simp at h0
      · simp at e1 e2; omega
      · rcases hk with rfl | rfl | rfl | rfl <;> simp at h5
    have hI : Is ns (Go.Proofs.YtgodkfgnhpnhcaaGreatDoor.opE kind a b) k := Is.opE hk hnk hb4.1 hb4.2 ha hb
    rcases hns with rfl | rfl
    · exact ⟨hI, h, List.prefix_rfl⟩
    · have hp : ns <+: ns ++ [⟨kind, 0, i, j⟩] := ⟨_, rfl⟩
      exact ⟨hI.mono hp, h.snoc (Is.opE hk (by simp) ha.lt hb.lt (ha.mono hp) (hb.mono hp)) hP, hp⟩
  · rcases hns with rfl | rfl
    · exact absurd (List.getElem?_eq_some_iff.1 hn).1 hkl
    · have hp : ns <+: ns ++ [⟨kind, 0, i, j⟩] := ⟨_, rfl⟩
      have : k = ns.length := by have := (List.getElem?_eq_some_iff.1 hn).1; simp at this; omega
      subst this
      have hI := Is.opE hk hn ha.lt hb.lt (ha.mono hp) (hb.mono hp)
      exact ⟨hI, h.snoc hI hP, hp⟩
theorem put_leaf {P : Ex → Prop} {ns ns' : List Nd} {v k : Nat} (h : AllIs P ns) (hn : ns'[k]? = some ⟨0, v, 0, 0⟩) (hns : ns' = ns ∨ ns' = ns ++ [⟨0, v, 0, 0⟩]) (hP : P (.leaf v)) :
    Is ns' (.leaf v) k ∧ AllIs P ns' ∧ ns <+: ns' := by
  rcases hns with rfl | rfl
  · exact ⟨hn, h, List.prefix_rfl⟩
  · exact ⟨hn, h.snoc (show Is _ (.leaf v) _ by simp [Is]) hP, ⟨_, rfl⟩⟩
theorem put_root {P : Ex → Prop} {ns ns' : List Nd} {a : Ex} {i k : Nat} (h : AllIs P ns) (ha : Is ns a i) (hn : ns'[k]? = some ⟨5, 0, i, 0⟩) (hns : ns' = ns ∨ ns' = ns ++ [⟨5, 0, i, 0⟩]) (hP : P (.root a)) :
    Is ns' (.root a) k ∧ AllIs P ns' ∧ ns <+: ns' := by
  by_cases hkl : k < ns.length
  · have hnk : ns[k]? = some ⟨5, 0, i, 0⟩ := by
      rcases hns with rfl | rfl
      · exact hn
      · rwa [List.getElem?_append_left hkl] at hn
    have hb4 : i < k := by
      rcases h.before hnk with ⟨h0, -⟩ | ⟨h0, -⟩ | ⟨-, -, -, i', e1, h1⟩
      · simp at h0
      · rcases h0 with h0 | h0 | h0 | h0 <;> simp at h0
      · simp at e1; omega
    have hI : Is ns (.root a) k := ⟨i, hnk, hb4, ha⟩
    rcases hns with rfl | rfl
    · exact ⟨hI, h, List.prefix_rfl⟩
    · have hp : ns <+: ns ++ [⟨5, 0, i, 0⟩] := ⟨_, rfl⟩
      exact ⟨hI.mono hp, h.snoc (e := .root a) ⟨i, by simp, ha.lt, ha.mono hp⟩ hP, hp⟩
  · rcases hns with rfl | rfl
    · exact absurd (List.getElem?_eq_some_iff.1 hn).1 hkl
    · have hp : ns <+: ns ++ [⟨5, 0, i, 0⟩] := ⟨_, rfl⟩
      have : k = ns.length := by have := (List.getElem?_eq_some_iff.1 hn).1; simp at this; omega
      subst this
      have hI : Is (ns ++ [⟨5, 0, i, 0⟩]) (.root a) ns.length := ⟨i, hn, ha.lt, ha.mono hp⟩
      exact ⟨hI, h.snoc hI hP, hp⟩
end Go.Proofs.YtgodkfgnhpnhcaaGreatDoor
