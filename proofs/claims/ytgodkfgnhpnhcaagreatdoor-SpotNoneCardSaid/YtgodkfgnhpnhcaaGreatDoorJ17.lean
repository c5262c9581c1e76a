/- A part of the proof: contracts of functions and plain laws (NearC, NearD, NearE, BndB, BndC, BndD, SgnA). -/
import Derived.Test.YtgodkfgnhpnhcaaGreatDoorJ16
set_option linter.unusedVariables false
set_option linter.unusedSimpArgs false
namespace Go.Proofs.YtgodkfgnhpnhcaaGreatDoor
open Go.RowKit Go.Maps
/-- left: how often each is still used: by cnt, and by ex besides -/
def LB (l : List Nat) (mL : Value → Option Value) (cnt : Nat → Nat) (ex : List Int) : Prop := ∀ i ∈ l, mL (.int .i64 ((i : Nat) : Int)) = some (.int .i64 ((cnt i + ex.count (i : Int) : Nat) : Int))
/-- balls: the exact ball of each that is still used, and of root -/
def BB (p : Nat → Prop) (w : World) (val : Nat → Int) (root : Nat) (done : List Nat) (mB : Value → Option Value) (cnt : Nat → Nat) (ex : List Int) : Prop :=
  (∀ i ∈ done, (0 < cnt i + ex.count ((i : Nat) : Int) ∨ i = root) → ∃ v, mB (.int .i64 (i : Int)) = some v ∧ BalP p w v (dv (val i))) ∧ ∀ key v, mB key = some v → Six v
theorem LB.drop {l : List Nat} {mL mL' : Value → Option Value} {cnt : Nat → Nat} {ex : List Int} {o : Nat} (h : LB l mL cnt (ex ++ [(o : Int)])) (hu : Upd mL (.int .i64 (o : Int)) (some (.int .i64 ((cnt o + ex.count (o : Int) : Nat) : Int))) mL') : LB l mL' cnt ex := by
  intro i hi
  by_cases h1 : i = o
  · subst h1; exact hu.1
  · rw [hu.2 _ (fun e => h1 (by injection e with _ e; omega)), h i hi, List.count_append]
    have : List.count (i : Int) [(o : Int)] = 0 := by rw [List.count_eq_zero]; simp; omega
    rw [this]; rfl
theorem LB.at {l : List Nat} {mL : Value → Option Value} {cnt : Nat → Nat} {ex : List Int} {o : Nat} (h : LB l mL cnt (ex ++ [(o : Int)])) (ho : o ∈ l) : mL (.int .i64 (o : Int)) = some (.int .i64 (((cnt o + ex.count (o : Int) : Nat) : Int) + 1)) := by
  rw [h o ho, List.count_append]
  have : List.count (o : Int) [(o : Int)] = 1 := by simp
  rw [this]
  congr 2
theorem BB.drop {p S : Nat → Prop} {w w' : World} {val : Nat → Int} {root : Nat} {done : List Nat} {mB mB' : Value → Option Value} {cnt : Nat → Nat} {ex : List Int} {o : Nat} (h : BB p w val root done mB cnt (ex ++ [(o : Int)])) (hf : Fr S w w') (hS : ∀ b, p b → ¬ S b) (hr : o ≠ root)
    (hu : if cnt o + ex.count (o : Int) = 0 then Upd mB (.int .i64 (o : Int)) none mB' else mB' = mB) : BB p w' val root done mB' cnt ex := by
  refine ⟨fun i hi hc => ?_, fun key v hk => ?_⟩
  · obtain ⟨v, h1, h2⟩ := h.1 i hi (by
      rcases hc with hc | hc
      · left; rw [List.count_append]; omega
      · exact Or.inr hc)
    refine ⟨v, ?_, h2.fr hf hS⟩
    split at hu
    · rename_i h0
      by_cases e1 : i = o
      · subst e1
        rcases hc with hc | hc
        · omega
        · exact absurd hc hr
      · rw [hu.2 _ (fun e => e1 (by injection e with _ e; omega))]; exact h1
    · rw [hu]; exact h1
  · split at hu
    · by_cases e1 : key = .int .i64 (o : Int)
      · rw [e1, hu.1] at hk; cases hk
      · rw [hu.2 _ e1] at hk; exact h.2 key v hk
    · rw [hu] at hk; exact h.2 key v hk
theorem BB.fr {p S : Nat → Prop} {w w' : World} {val : Nat → Int} {root : Nat} {done : List Nat} {mB : Value → Option Value} {cnt : Nat → Nat} {ex : List Int} (h : BB p w val root done mB cnt ex) (hf : Fr S w w') (hS : ∀ b, p b → ¬ S b) : BB p w' val root done mB cnt ex :=
  ⟨fun i hi hc => by obtain ⟨v, h1, h2⟩ := h.1 i hi hc; exact ⟨v, h1, h2.fr hf hS⟩, h.2⟩
theorem BB.put {p : Nat → Prop} {w : World} {val : Nat → Int} {root x : Nat} {done : List Nat} {mB mB' : Value → Option Value} {cnt : Nat → Nat} {ex : List Int} {v : Value} (h : BB p w val root done mB cnt ex) (hv : BalP p w v (dv (val x))) (hu : Upd mB (.int .i64 (x : Int)) (some v) mB') : BB p w val root (done ++ [x]) mB' cnt ex := by
  refine ⟨fun i hi hc => ?_, fun key u hk => ?_⟩
  · by_cases e1 : i = x
    · subst e1; exact ⟨v, hu.1, hv⟩
    · rw [hu.2 _ (fun e => e1 (by injection e with _ e; omega))]
      rcases List.mem_append.1 hi with hi | hi
      · exact h.1 i hi hc
      · simp at hi; exact absurd hi e1
  · by_cases e1 : key = .int .i64 (x : Int)
    · rw [e1, hu.1] at hk; cases hk; exact hv.six
    · rw [hu.2 _ e1] at hk; exact h.2 key u hk
theorem drop_succ {l : List Nat} {k x : Nat} (hx : l[k]? = some x) : l.drop k = x :: l.drop (k + 1) := by
  obtain ⟨h1, h2⟩ := List.getElem?_eq_some_iff.1 hx
  rw [List.drop_eq_getElem_cons h1, h2]
theorem cnt_succ {ns : List Nd} {l : List Nat} {k x : Nat} {n : Nd} (hx : l[k]? = some x) (hn : ns[x]? = some n) (i : Nat) : cntL ns (l.drop k) i = cntL ns (l.drop (k + 1)) i + (opsN n).count (i : Int) := by
  rw [drop_succ hx, show x :: l.drop (k + 1) = [x] ++ l.drop (k + 1) from rfl, cntL_app, cntL_one, opsOf_eq hn]; omega
theorem LB.open {ns : List Nd} {l : List Nat} {k x : Nat} {n : Nd} {mL : Value → Option Value} (hx : l[k]? = some x) (hn : ns[x]? = some n) (h : LB l mL (cntL ns (l.drop k)) []) : LB l mL (cntL ns (l.drop (k + 1))) (opsN n) := by
  intro i hi
  rw [h i hi, cnt_succ hx hn]; rfl
theorem BB.open {ns : List Nd} {p : Nat → Prop} {w : World} {val : Nat → Int} {root : Nat} {done : List Nat} {l : List Nat} {k x : Nat} {n : Nd} {mB : Value → Option Value} (hx : l[k]? = some x) (hn : ns[x]? = some n) (h : BB p w val root done mB (cntL ns (l.drop k)) []) : BB p w val root done mB (cntL ns (l.drop (k + 1))) (opsN n) := by
  refine ⟨fun i hi hc => h.1 i hi ?_, h.2⟩
  rw [cnt_succ hx hn]; simpa using hc
/-- a new block of six cells is laid and written -/
theorem new6 (w : World) (T : TypeId) (z0 z1 z2 z3 z4 z5 a b c d e f : Value) : ∃ w1, w.alloc (.cells #[z0, z1, z2, z3, z4, z5] T) = w1 ∧ (w1.cell? ⟨w.heap.size, 0, none⟩ = some z0 ∧ w1.cell? ⟨w.heap.size, 1, none⟩ = some z1 ∧ w1.cell? ⟨w.heap.size, 2, none⟩ = some z2 ∧ w1.cell? ⟨w.heap.size, 3, none⟩ = some z3 ∧ w1.cell? ⟨w.heap.size, 4, none⟩ = some z4 ∧ w1.cell? ⟨w.heap.size, 5, none⟩ = some z5) ∧
    (w1.frozen? ⟨w.heap.size, 0, none⟩ = false ∧ w1.frozen? ⟨w.heap.size, 1, none⟩ = false ∧ w1.frozen? ⟨w.heap.size, 2, none⟩ = false ∧ w1.frozen? ⟨w.heap.size, 3, none⟩ = false ∧ w1.frozen? ⟨w.heap.size, 4, none⟩ = false ∧ w1.frozen? ⟨w.heap.size, 5, none⟩ = false) ∧
    ∃ w2, (((((w1.setCell ⟨w.heap.size, 0, none⟩ a).setCell ⟨w.heap.size, 1, none⟩ b).setCell ⟨w.heap.size, 2, none⟩ c).setCell ⟨w.heap.size, 3, none⟩ d).setCell ⟨w.heap.size, 4, none⟩ e).setCell ⟨w.heap.size, 5, none⟩ f = w2 ∧ Below w.heap.size w w2 ∧ w2.heap[w.heap.size]? = some (.cells #[a, b, c, d, e, f] T (0, 0)) := by
  obtain ⟨w1, h, hb, hs, b1⟩ := pro1 w (.cells #[z0, z1, z2, z3, z4, z5] T)
  exact ⟨w1, h, cells6 b1, free6 b1, _, rfl, put6_below hb (Nat.le_refl _) a b c d e f, put6_heap b1 a b c d e f⟩
end Go.Proofs.YtgodkfgnhpnhcaaGreatDoor
namespace Go.Proofs.YtgodkfgnhpnhcaaGreatDoor
open Go.RowKit Go.Maps
def RetEval (w : World) (val : Nat → Int) (root : Nat) (e : Ending) (w' : World) : Prop :=
  Below w.heap.size w w' ∧ ∃ bB m v, e = .returned (.tuple #[.map (some bB), .bool true]) ∧ MapP Tryz.prog 3 w' bB m ∧ m (.int .i64 (root : Int)) = some v ∧ BalP (fun b => w.heap.size ≤ b) w' v (dv (val root))
theorem MapP.fr {P : Program} {k : TypeId} {S : Nat → Prop} {w w' : World} {b : Nat} {m : Value → Option Value} (h : MapP P k w b m) (hf : Fr S w w') (hn : ¬ S b) : MapP P k w' b m := h.keep (hf.block b h.lt hn)
set_option maxHeartbeats 25600000 in
set_option maxRecDepth 100000 in
theorem eval_any {w : World} {g root : Nat} {P : Int} {ns : List Nd} {val : Nat → Int} (hd : DagP w g ns) (ok : OkNs ns) (hv : DV ns val) (hlf : LeafOk ns) (hr : root < ns.length) (hT : Tab w) (hP : 32 ≤ P ∧ P ≤ 65536) :
    Calls Tryz.prog 145 #[.pointer (some ⟨g, 0, none⟩), .int .i64 (root : Int), .int .i64 P, .bool false] w (RetEval w val root) := by
  have HDW := Lib.hid hd; have HOK := Lib.hid ok; have HV := Lib.hid hv; have HLEAF := Lib.hid hlf; have HT := Lib.hid hT; have HP := Lib.hid hP; have HRL := Lib.hid hr; have HLN := Lib.hid hd.len
  obtain ⟨nr, hnr⟩ : ∃ n, ns[root]? = some n := ⟨_, List.getElem?_eq_getElem hr⟩
  have HN0 := Lib.hid (node_open hd hnr)
  have hp1 : ¬ P < 1 := by omega
  have hp2 : ¬ (65536 : Int) < P := by omega
  clear hd ok hv hlf hr hT hP hnr
  have hmm := @run_makeMap Tryz.prog
  have hst := store_float
  go_enter Tryz.func145, Tryz.ntmps145
  go_wp2_with fail
  refine HN0.out.mono ?_
  rintro e w1 ⟨rfl, hb1⟩
  obtain ⟨w2, hw2, z0, z1, z2, z3, y0, y1, y2, y3, w3, hw3, hb3, hs3⟩ := new4 w1 122 (.int .i64 0) (.float .f64 0) (.int .i64 0) (.int .i64 0) (.int .i64 nr.kind) (.float .f64 nr.val) (.int .i64 nr.a) (.int .i64 nr.b)
  have HB3 := Lib.hid (below_up hb1 hb3)
  have HUS := Lib.hid (uses_any (HDW.out.below (below_up hb1 hb3)) HOK.out HRL.out)
  clear hb1 hb3 hs3
  go_wp2_with fail
  refine HUS.out.mono ?_
  rintro e w4 ⟨hb4, bL, mL0, l, rfl, hbL, hML, hI, hMU⟩
  obtain ⟨w5, hw5, hb5, hs5, q5⟩ := pro1 w4 (.map #[] 0)
  obtain ⟨w6, hw6, hb6, hs6, q6⟩ := pro1 w5 (.cells #[.int .i64 (root : Int)] 3)
  have HB6 := Lib.hid (HB3.out.trans ((below_up (below_up hb4 hb5) hb6).mono HB3.out.size))
  have HBE := Lib.hid (below_any (HDW.out.below HB6.out) HOK.out HRL.out q6)
  rw [hs5] at HBE
  have HMB6 := Lib.hid (MapP.made (P := Tryz.prog) (k := 3) (es := #[]) (heap_below q5 hb6 (heap_lt q5)))
  have HML6 := Lib.hid ((hML.below hb5 hML.lt).below hb6 (by have := hML.lt; have := hb5.size; omega))
  have HI := Lib.hid hI; have HMU := Lib.hid hMU
  have HNE : Hid (bL ≠ w4.heap.size) := Lib.hid (by have := hML.lt; omega)
  have HBL : Hid (w.heap.size ≤ bL ∧ w.heap.size ≤ w4.heap.size) := Lib.hid (by have := HB3.out.size; have := hb4.size; omega)
  have HSZ6 : Hid (w6.heap.size = w4.heap.size + 2 ∧ bL < w4.heap.size) := Lib.hid ⟨by rw [hs6, hs5], hML.lt⟩
  have HLL := Lib.hid (list_len hI HLN.out)
  clear hb4 hb5 hb6 hs6 q5 q6 hML hI hMU hbL z0 z1 z2 z3 y0 y1 y2 y3 hw2 hw3
  go_wp2_with fail
  refine HBE.out.mono ?_
  rintro e w7 ⟨hb7, v7, l2, rfl, hl, hI2⟩
  obtain rfl := HI.out.unique hI2
  obtain ⟨bl, cl, rfl, hlc, hcm, -⟩ := id hl
  have HL := Lib.hid hl
  have HB7 := Lib.hid (HB6.out.trans (hb7.mono HB6.out.size))
  have HM7 := Lib.hid (HMB6.out.below hb7 HMB6.out.lt); have HL7 := Lib.hid (HML6.out.below hb7 HML6.out.lt)
  have HSZ7 : Hid (w4.heap.size + 2 ≤ w7.heap.size) := Lib.hid (by have := hb7.size; have := HSZ6.out; omega)
  clear hb7 hl hI2 HBE hcm hlc hw5 hw6
  go_wp2_with fail
  go_loopw [45] (fun i wr => ∃ k : Nat, k ≤ l.length ∧ i = .int .i64 (k : Int) ∧ Hid (Fr (fun b => b = bL ∨ b = w4.heap.size) w7 wr) ∧ ∃ mL mB, Hid (MapP Tryz.prog 3 wr bL mL) ∧ Hid (MapP Tryz.prog 3 wr w4.heap.size mB) ∧ Hid (LB l mL (cntL ns (l.drop k)) []) ∧ Hid (BB (fun b => w.heap.size ≤ b ∧ b ≠ bL ∧ b ≠ w4.heap.size) wr val root (l.take k) mB (cntL ns (l.drop k)) [])) (fun i _ => ((l.length : Int) - intOf i).toNat)
  case atStart => exact ⟨0, Nat.zero_le _, rfl, Lib.hid (Fr.of_below (Below.refl _ _)), mL0, _, HL7, HM7, Lib.hid (fun i hi => by have := HMU.out i; rw [if_pos hi] at this; simpa using this), Lib.hid ⟨by simp, by simp⟩⟩
  case round =>
    obtain ⟨k, hk, rfl, HF, mL, mB, HML, HMB, HLB, HBB⟩ := hrel
    have HBR : Hid (Below w.heap.size w wr) := Lib.hid (HB7.out.trans (HF.out.below HB7.out.size (fun b hb => by have := HBL.out; omega)))
    rcases Nat.lt_or_ge k l.length with hlt | hge
    · obtain ⟨x, hx⟩ : ∃ x, l[k]? = some x := ⟨_, List.getElem?_eq_getElem hlt⟩
      have hxl : x < ns.length := HI.out.lt x (List.mem_of_getElem? hx)
      obtain ⟨n, hn⟩ : ∃ n, ns[x]? = some n := ⟨_, List.getElem?_eq_getElem hxl⟩
      have HDR := Lib.hid (HDW.out.below HBR.out)
      have cx := (HL.out.fr HF.out (fun b hb => by have := HSZ6.out; omega)).cell hx
      have HN := Lib.hid (node_open HDR.out hn)
      have hkI : (k : Int) < (l.length : Int) := by omega
      have hk0 : (0 : Int) ≤ (k : Int) := by omega
      have hlI : (l.length : Int) ≤ 20000 := by have := HLL.out; omega
      have HX := Lib.hid hx; have HNN := Lib.hid hn; have HXL := Lib.hid hxl; have HKL := Lib.hid hlt
      obtain ⟨-, hop2⟩ := ops_done HOK.out HV.out HI.out.srt HI.out.cl hx hn
      obtain ⟨hval, hsm, hfin⟩ := HV.out x n hn
      have hvl := HDR.out.val hn
      have hab : (0 ≤ n.a ∧ n.a ≤ 1000000) ∧ (0 ≤ n.b ∧ n.b ≤ 1000000) := by
        by_cases h0 : n.kind = 0
        · have := leaf_ops (HLEAF.out x n hn h0); omega
        · obtain ⟨-, -, h3, h4⟩ := hop2 h0
          have := HLN.out; omega
      have HKA := Lib.hid (key_int (i := n.a) (by omega)); have HKB := Lib.hid (key_int (i := n.b) (by omega))
      have HKX := Lib.hid (key_nat (i := x) (by have := HLN.out; omega))
      obtain ⟨va, hva⟩ : ∃ va, (mB (.int .i64 n.a)).getD (.agg #[.bool false, .slice none 0 0, .int .i64 0, .bool false, .slice none 0 0, .int .i64 0]) = va := ⟨_, rfl⟩
      obtain ⟨vb, hvb⟩ : ∃ vb, (mB (.int .i64 n.b)).getD (.agg #[.bool false, .slice none 0 0, .int .i64 0, .bool false, .slice none 0 0, .int .i64 0]) = vb := ⟨_, rfl⟩
      have hsix : ∀ (key v : Value), (mB key).getD (.agg #[.bool false, .slice none 0 0, .int .i64 0, .bool false, .slice none 0 0, .int .i64 0]) = v → Six v := fun key v h => by
        cases hm : mB key with
        | none => rw [hm] at h; subst h; exact ⟨_, _, _, _, _, _, rfl⟩
        | some u => rw [hm] at h; subst h; exact HBB.out.2 key u hm
      have hops : n.kind ≠ 0 → opsN n = [n.a, n.b] := fun h0 => by
        have h5 : n.kind ≠ 5 := by rcases hval with h | h | h | h <;> omega
        unfold opsN; rw [if_neg h0, if_neg h5]
      have hcount : ∀ o : Int, n.kind ≠ 0 → (o = n.a ∨ o = n.b) → 0 < (opsN n).count o := fun o h0 ho => by
        rw [hops h0, List.count_pos_iff]; rcases ho with h | h <;> simp [h]
      have hbal : ∀ (o : Int) (v : Value), n.kind ≠ 0 → (o = n.a ∨ o = n.b) → 0 ≤ o → o.toNat ∈ l.take k → (mB (.int .i64 o)).getD (.agg #[.bool false, .slice none 0 0, .int .i64 0, .bool false, .slice none 0 0, .int .i64 0]) = v → BalP (fun b => w.heap.size ≤ b ∧ b ≠ bL ∧ b ≠ w4.heap.size) wr v (dv (val o.toNat)) := fun o v h0 ho hnn hm h => by
        have e1 : ((o.toNat : Nat) : Int) = o := by omega
        obtain ⟨u, h1, h2⟩ := HBB.out.1 o.toNat hm (Or.inl (by rw [cnt_succ hx hn, e1]; have := hcount o h0 ho; omega))
        rw [e1] at h1
        rw [h1] at h; subst h; exact h2
      have HCO : Hid (∀ w', Below wr.heap.size wr w' → Calls Tryz.prog 174 #[.agg #[.int .i64 n.kind, .float .f64 n.val, .int .i64 n.a, .int .i64 n.b], va, vb, .int .i64 P] w' (RetLB w'.heap.size w' (dv (val x)))) := Lib.hid fun w' h => by
        refine ncombine_any (p := fun b => b < wr.heap.size) (q := fun b => b < wr.heap.size) (n := n) (X := val n.a.toNat) (Y := val n.b.toNat) (fun h0 => ⟨hvl, hfin h0⟩) (hsix _ _ hva) (hsix _ _ hvb) (fun h0 => ?_) (fun h0 => ?_) (fun b hb => by have := h.size; omega) (fun b hb => by have := h.size; omega) (HT.out.below (HBR.out.trans (h.mono HBR.out.size))) hval hsm HP.out
        · obtain ⟨m1, m2, h3, h4⟩ := hop2 h0
          obtain ⟨na, hna⟩ : ∃ na, ns[n.a.toNat]? = some na := ⟨_, List.getElem?_eq_getElem (by omega)⟩
          exact ⟨((hbal n.a va h0 (Or.inl rfl) h3.1 m1 hva).weak fun b _ h => h).below h, (HV.out _ na hna).2.1⟩
        · obtain ⟨m1, m2, h3, h4⟩ := hop2 h0
          obtain ⟨nb, hnb⟩ : ∃ nb, ns[n.b.toNat]? = some nb := ⟨_, List.getElem?_eq_getElem (by omega)⟩
          exact ⟨((hbal n.b vb h0 (Or.inr rfl) h4.1 m2 hvb).weak fun b _ h => h).below h, (HV.out _ nb hnb).2.1⟩
      have HVA := Lib.hid hva; have HVB := Lib.hid hvb; have HSM := Lib.hid hsm; have HOPS := Lib.hid hops; have HOP2 := Lib.hid hop2
      have HKIND : Hid (n.kind = 0 ∨ n.kind = 1 ∨ n.kind = 2 ∨ n.kind = 3) := Lib.hid (by rcases hval with h | h | h | h <;> omega)
      clear hx hn hxl hlt hop2 hval hsm hfin hvl hab hva hvb hsix hops hcount hbal HDR
      go_wp2_with fail
      refine HN.out.mono ?_
      rintro e w8 ⟨rfl, hb8⟩
      obtain ⟨w9, hw9, z0, z1, z2, z3, y0, y1, y2, y3, w10, hw10, hb10, hs10⟩ := new4 w8 122 (.int .i64 0) (.float .f64 0) (.int .i64 0) (.int .i64 0) (.int .i64 n.kind) (.float .f64 n.val) (.int .i64 n.a) (.int .i64 n.b)
      obtain ⟨x0, x1, x2, x3⟩ := cells4 hs10
      have HB10 := Lib.hid (below_up hb8 hb10)
      have HB8S := Lib.hid hb8.size
      have HM10 := Lib.hid (HMB.out.below HB10.out HMB.out.lt)
      have HS10 := Lib.hid hs10
      have HC10 := Lib.hid (HCO.out w10 HB10.out)
      clear hb8 hb10 hs10 cx
      have M1 : True := trivial
      go_wp2_with (first
        | (at_lookup
           clear M1
           refine wpList_look1 _ rfl _ _ _ rfl _ _ keyed_int und_balls (zero_ball _) _ mB rfl HM10.out (.int .i64 n.a) _ rfl HKA.out va HVA.out ?_)
        | (at_lookup
           refine wpList_look1 _ rfl _ _ _ rfl _ _ keyed_int und_balls (zero_ball _) _ mB rfl HM10.out (.int .i64 n.b) _ rfl HKB.out vb HVB.out ?_))
      refine HC10.out.mono ?_
      rintro e w11 ⟨hb11, vx, rfl, hbx⟩
      obtain ⟨e1, A1, n1, c1, e2, A2, n2, c2, rfl, i1, i2⟩ := id hbx
      obtain ⟨w12, hw12, ⟨p0, p1, p2, p3, p4, p5⟩, ⟨q0, q1, q2, q3, q4, q5⟩, w13, hw13, hb13, hs13⟩ := new6 w11 174 (.bool false) (.slice none 0 0) (.int .i64 0) (.bool false) (.slice none 0 0) (.int .i64 0) (.bool e1) (.slice A1 n1 c1) (.int .i64 (dv (val x)).exp) (.bool e2) (.slice A2 n2 c2) (.int .i64 (dv (val x)).exp)
      obtain ⟨t0, t1, t2, t3, t4, t5⟩ := cells6 hs13
      have HB13 := Lib.hid (below_up (below_up HB10.out hb11) hb13)
      have HB1013 := Lib.hid (below_up hb11 hb13)
      have HF1 := Lib.hid (fits_any (w := w13) (p := AnyB) (v := .agg #[.bool e1, .slice A1 n1 c1, .int .i64 (dv (val x)).exp]) ⟨_, _, _, _, rfl, (i1.below hb13).any⟩ HSM.out)
      have HF2 : Hid (∀ w', Below w13.heap.size w13 w' → Calls Tryz.prog 175 #[.agg #[.bool e2, .slice A2 n2 c2, .int .i64 (dv (val x)).exp]] w' (RetW w' true)) := Lib.hid fun w' h => fits_any (p := AnyB) ⟨_, _, _, _, rfl, ((i2.below hb13).below h).any⟩ HSM.out
      have HBX := Lib.hid ((hbx.weak (q := fun b => w.heap.size ≤ b ∧ b ≠ bL ∧ b ≠ w4.heap.size) fun b hb _ => by have := HB10.out.size; have := HF.out.size; have := HSZ7.out; have := HSZ6.out; have := HBL.out; omega).below hb13)
      clear hb11 hb13 hs13 hbx i1 i2 z0 z1 z2 z3 y0 y1 y2 y3 hw9 hw10 x0 x1 x2 x3
      go_wp2_with fail
      refine HF1.out.mono ?_
      rintro e w14 ⟨rfl, hb14⟩
      replace t0 := cell_below t0 hb14 (Nat.le_refl _)
      replace t1 := cell_below t1 hb14 (Nat.le_refl _)
      replace t2 := cell_below t2 hb14 (Nat.le_refl _)
      replace t3 := cell_below t3 hb14 (Nat.le_refl _)
      replace t4 := cell_below t4 hb14 (Nat.le_refl _)
      replace t5 := cell_below t5 hb14 (Nat.le_refl _)
      have HF2b := Lib.hid (HF2.out w14 hb14)
      have HB14 := Lib.hid (below_up HB13.out hb14)
      have HBX14 := Lib.hid (HBX.out.below hb14)
      have HND14 := Lib.hid (heap_below (heap_below HS10.out HB1013.out (heap_lt HS10.out)) hb14 (by have := heap_lt HS10.out; have := HB1013.out.size; omega))
      clear hb14 p0 p1 p2 p3 p4 p5 q0 q1 q2 q3 q4 q5 hw12 hw13
      go_wp2_with fail
      refine HF2b.out.mono ?_
      rintro e w15 ⟨rfl, hb15⟩
      replace t0 := cell_below t0 hb15 (Nat.le_refl _)
      replace t1 := cell_below t1 hb15 (Nat.le_refl _)
      replace t2 := cell_below t2 hb15 (Nat.le_refl _)
      replace t3 := cell_below t3 hb15 (Nat.le_refl _)
      replace t4 := cell_below t4 hb15 (Nat.le_refl _)
      replace t5 := cell_below t5 hb15 (Nat.le_refl _)
      have HB15 := Lib.hid (below_up HB14.out hb15)
      have HBX15 := Lib.hid (HBX14.out.below hb15)
      have hnd15 := heap_below HND14.out hb15 (heap_lt HND14.out)
      have HND15 := Lib.hid hnd15
      obtain ⟨x0, x1, x2, x3⟩ := cells4 hnd15
      have HMB15 := Lib.hid (HMB.out.below HB15.out HMB.out.lt)
      have HML15 := Lib.hid (HML.out.below HB15.out HML.out.lt)
      obtain ⟨mB1, hu⟩ := upd_ex mB (.int .i64 (x : Int)) (some (.agg #[.bool e1, .slice A1 n1 c1, .int .i64 (dv (val x)).exp, .bool e2, .slice A2 n2 c2, .int .i64 (dv (val x)).exp]))
      have HU := Lib.hid hu
      have HF15 : Hid (Fr (fun b => b = bL ∨ b = w4.heap.size) w7 w15) := Lib.hid (HF.out.trans (Fr.of_below HB15.out))
      have HLBO := Lib.hid (LB.open HX.out HNN.out HLB.out)
      have HTK : Hid (l.take (k + 1) = l.take k ++ [x]) := Lib.hid (by rw [List.take_add_one, HX.out]; rfl)
      have HBB15 := Lib.hid (((BB.open HX.out HNN.out HBB.out).fr (S := fun b => b = bL ∨ b = w4.heap.size) (Fr.of_below HB15.out) (fun b hb => by omega)).put HBX15.out hu)
      have HNDL : Hid (bL ≠ w8.heap.size ∧ w4.heap.size ≠ w8.heap.size) := Lib.hid (by have := HB8S.out; have := HF.out.size; have := HSZ7.out; have := HSZ6.out; omega)
      clear hb15 hu hnd15
      rcases HKIND.out with hk | hk | hk | hk
      all_goals
        go_wp2_with (first
          | (at_mapUpdate
             refine wpList_put _ rfl _ _ _ _ rfl _ _ keyed_int und_balls _ mB mB1 rfl HMB15.out (.int .i64 (x : Int)) _ _ rfl rfl HKX.out HU.out ?_
             intro w16 HMB16 hgr hsz
             have hgr2 : Fr (fun b => b = bL ∨ b = w4.heap.size) w15 w16 := Fr.of_grown hgr (fun i e => Or.inr (Option.some.inj e).symm)
             have HF16 := Lib.hid (HF15.out.trans hgr2)
             have HML16 := Lib.hid (HML15.out.keep (hgr.block bL HML15.out.lt (fun e => HNE.out (Option.some.inj e))))
             have HBB16 := Lib.hid (HBB15.out.fr hgr2 (fun b hb => by omega))
             have hnd16 := (hgr.block w8.heap.size (heap_lt HND15.out) (fun e => HNDL.out.2 (Option.some.inj e).symm)).trans HND15.out
             obtain ⟨k0, k1, k2, k3⟩ := cells4 hnd16
             have HND16 := Lib.hid hnd16
             clear hgr hsz hgr2 hnd16 x0 x1 x2 x3 t0 t1 t2 t3 t4 t5))
      · go_roundw
        case rel =>
          refine ⟨k + 1, by have := HKL.out; omega, by go_num, HF16, mL, mB1, HML16, HMB16, Lib.hid ?_, Lib.hid ?_⟩
          · have h9 := HLBO.out
            rwa [show opsN n = [] from by unfold opsN; rw [if_pos hk]] at h9
          · have h9 := HBB16.out
            rw [HTK.out]
            rwa [show opsN n = [] from by unfold opsN; rw [if_pos hk]] at h9
        case measure => have := HKL.out; simp [intOf]; omega
      all_goals
        have h0 : n.kind ≠ 0 := by omega
        have hop := HOP2.out h0
        obtain ⟨an, ea⟩ : ∃ an : Nat, (an : Int) = n.a := ⟨n.a.toNat, by omega⟩
        obtain ⟨bn, eb⟩ : ∃ bn : Nat, (bn : Int) = n.b := ⟨n.b.toNat, by omega⟩
        have hopsE : opsN n = [(an : Int)] ++ [(bn : Int)] := by rw [HOPS.out h0, ea, eb]; rfl
        have HLB0 : Hid (LB l mL (cntL ns (l.drop (k + 1))) ([(an : Int)] ++ [(bn : Int)])) := Lib.hid (by have := HLBO.out; rwa [hopsE] at this)
        have HBB0 : Hid (BB (fun b => w.heap.size ≤ b ∧ b ≠ bL ∧ b ≠ w4.heap.size) w16 val root (l.take (k + 1)) mB1 (cntL ns (l.drop (k + 1))) ([(an : Int)] ++ [(bn : Int)])) := Lib.hid (by have := HBB16.out; rw [hopsE] at this; rw [HTK.out]; exact this)
        have hrt : an ≠ root ∧ bn ≠ root := by have := HI.out.le x (List.mem_of_getElem? HX.out); omega
        have ham : an ∈ l := List.mem_of_mem_take (by have := hop.1; rwa [show n.a.toNat = an from by omega] at this)
        have hbm : bn ∈ l := List.mem_of_mem_take (by have := hop.2.1; rwa [show n.b.toNat = bn from by omega] at this)
        have hcb : ∀ i, cntL ns (l.drop (k + 1)) i ≤ 40000 := fun i => by
          have h1 := cntL_le ns (l.drop (k + 1)) i
          rw [List.length_drop] at h1
          have := HLL.out; omega
        have HCB := Lib.hid hcb
        have hab2 : an ≤ 1000000 ∧ bn ≤ 1000000 := by have := HLN.out; have := HXL.out; omega
        have HAB2 := Lib.hid hab2; have HRT2 := Lib.hid hrt; have HAM := Lib.hid ham
        obtain ⟨cb1, hcb1⟩ : ∃ c, c = cntL ns (l.drop (k + 1)) bn + ([(an : Int)]).count (bn : Int) := ⟨_, rfl⟩
        have hat1 := HLB0.out.at hbm
        rw [← hcb1] at hat1
        have hcle1 : cb1 ≤ 1000000 := by have := hcb bn; have h9 : ([(an : Int)]).count (bn : Int) ≤ 1 := Nat.le_trans List.count_le_length (by simp); omega
        have HC1 := Lib.hid hcb1
        have HD1 : Hid (Calls Tryz.prog 176 #[.map (some w4.heap.size), .map (some bL), .int .i64 n.b] w16 (DropPost w16 bL w4.heap.size mL mB1 bn cb1)) := Lib.hid (by rw [← eb]; exact drop_any HML16.out HMB16.out HNE.out hat1 hab2.2 hcle1)
        clear hcb1 hat1 hcle1
        have HEA := Lib.hid ea
        clear h0 hop eb hopsE hrt ham hbm hcb hab2 ea
        refine HD1.out.mono ?_
        rintro e w17 ⟨rfl, hf17, mL2, mB2, hML17, hMB17, huL, huB⟩
        rw [HC1.out] at huL huB
        have HLB2 := Lib.hid (HLB0.out.drop huL)
        have HBB2 := Lib.hid (HBB0.out.drop hf17 (fun b hb => by omega) HRT2.out.2 huB)
        have HF17 := Lib.hid (HF16.out.trans hf17)
        have hnd17 := (hf17.block w8.heap.size (heap_lt HND16.out) (fun h => by have := HNDL.out; omega)).trans HND16.out
        obtain ⟨k0, k1, k2, k3⟩ := cells4 hnd17
        obtain ⟨ca1, hca1⟩ : ∃ c, c = cntL ns (l.drop (k + 1)) an + ([] : List Int).count (an : Int) := ⟨_, rfl⟩
        have hat2 := LB.at (ex := []) HLB2.out HAM.out
        rw [← hca1] at hat2
        have hcle2 : ca1 ≤ 1000000 := by have := HCB.out an; rw [hca1]; simp; omega
        have HC2 := Lib.hid hca1
        have HD2 : Hid (Calls Tryz.prog 176 #[.map (some w4.heap.size), .map (some bL), .int .i64 n.a] w17 (DropPost w17 bL w4.heap.size mL2 mB2 an ca1)) := Lib.hid (by rw [← HEA.out]; exact drop_any hML17 hMB17 HNE.out hat2 HAB2.out.1 hcle2)
        clear hca1 hat2 hcle2
        clear hf17 hML17 hMB17 huL huB hnd17
        go_wp2_with fail
        refine HD2.out.mono ?_
        rintro e w18 ⟨rfl, hf18, mL3, mB3, hML18, hMB18, huL, huB⟩
        rw [HC2.out] at huL huB
        have HLB3 := Lib.hid (LB.drop (ex := []) HLB2.out huL)
        have HBB3 := Lib.hid (BB.drop (ex := []) HBB2.out hf18 (fun b hb => by omega) HRT2.out.1 huB)
        have HF18 := Lib.hid (HF17.out.trans hf18)
        have HML18 := Lib.hid hML18; have HMB18 := Lib.hid hMB18
        clear hf18 hML18 hMB18 huL huB
        go_wp2
        go_roundw
        case rel => exact ⟨k + 1, by have := HKL.out; omega, by go_num, HF18, mL3, mB3, HML18, HMB18, HLB3, HBB3⟩
        case measure => have := HKL.out; simp [intOf]; omega
    · have hke : k = l.length := by omega
      subst hke
      obtain ⟨v, h1, h2⟩ := HBB.out.1 root (by rw [List.take_length]; exact HI.out.rt) (Or.inr rfl)
      have HRES : Hid (RetEval w val root (.returned (.tuple #[.map (some w4.heap.size), .bool true])) wr) := Lib.hid ⟨HBR.out, _, mB, v, rfl, HMB.out, h1, h2.weak fun b h _ => h.1⟩
      clear h1 h2 hk hge
      go_wp2
      go_ret2
      exact HRES.out
end Go.Proofs.YtgodkfgnhpnhcaaGreatDoor
namespace Go.Proofs.YtgodkfgnhpnhcaaGreatDoor
open Go.RowKit Go.Maps
set_option maxHeartbeats 3200000 in
set_option maxRecDepth 100000 in
theorem nearOf_any {w : World} {g root : Nat} {P : Int} {ns : List Nd} {val : Nat → Int} (hd : DagP w g ns) (ok : OkNs ns) (hv : DV ns val) (hlf : LeafOk ns) (hr : root < ns.length) (hT : Tab w) (hP : 32 ≤ P ∧ P ≤ 65536) :
    Calls Tryz.prog 115 #[.pointer (some ⟨g, 0, none⟩), .int .i64 (root : Int), .int .i64 P] w (RetLB w.heap.size w (dv (val root))) := by
  obtain ⟨w1, hw1, hb1, hs1, b1⟩ := pro1 w (.cells #[Value.bool false, Value.slice none 0 0, .int .i64 0, Value.bool false, Value.slice none 0 0, .int .i64 0] 174)
  have HE := Lib.hid (eval_any (hd.below hb1) ok hv hlf hr (hT.below hb1) hP)
  have HB := Lib.hid hb1; have B1 := Lib.hid b1; have HS := Lib.hid hs1
  have HK := Lib.hid (key_nat (i := root) (by have := hd.len; omega))
  clear hd ok hv hlf hr hT hP hb1 b1 hs1
  go_enter Tryz.func115, Tryz.ntmps115
  go_wp2_with fail
  refine HE.out.mono ?_
  rintro e w2 ⟨hb2, bB, m, v, rfl, hm, hmr, hbal⟩
  obtain ⟨e1, A1, n1, c1, e2, A2, n2, c2, rfl, i1, i2⟩ := id hbal
  have B2 := heap_below B1.out hb2 (heap_lt B1.out)
  obtain ⟨p0, p1, p2, p3, p4, p5⟩ := cells6 B2
  obtain ⟨q0, q1, q2, q3, q4, q5⟩ := free6 B2
  obtain ⟨hR, hF⟩ := retl_store (HB.out.trans (hb2.mono HB.out.size)) (g := w.heap.size) (Nat.le_refl _) B2 i1 i2 (fun b hb => by have := HS.out; omega)
  have HR := Lib.hid (retlb_of hR.out); have hFF := Lib.hid hF; have HM := Lib.hid hm
  have HG : Hid ((m (.int .i64 (root : Int))).getD (.agg #[.bool false, .slice none 0 0, .int .i64 0, .bool false, .slice none 0 0, .int .i64 0]) = .agg #[.bool e1, .slice A1 n1 c1, .int .i64 (dv (val root)).exp, .bool e2, .slice A2 n2 c2, .int .i64 (dv (val root)).exp]) := Lib.hid (by rw [hmr]; rfl)
  clear hb2 hm hmr hbal B2 hR hF i1 i2
  go_wp2_with (first
    | (at_lookup
       refine wpList_look1 _ rfl _ _ _ rfl _ _ keyed_int und_balls (zero_ball _) _ m rfl HM.out (.int .i64 (root : Int)) _ rfl HK.out (.agg #[.bool e1, .slice A1 n1 c1, .int .i64 (dv (val root)).exp, .bool e2, .slice A2 n2 c2, .int .i64 (dv (val root)).exp]) HG.out ?_))
  obtain ⟨f0, f1, f2, f3, f4, f5⟩ := cells6 hFF.out
  unfold put6 at f0 f1 f2 f3 f4 f5
  refine bodyPost_ret (v := .tuple #[.agg #[_, _, _, _, _, _], _]) (by simp [results, Tryz.results115, go_sem, f0, f1, f2, f3, f4, f5]; first | exact ⟨⟨rfl, rfl, rfl, rfl, rfl, rfl⟩, rfl⟩ | rfl) rfl ?_
  exact HR.out
end Go.Proofs.YtgodkfgnhpnhcaaGreatDoor
namespace Go.Proofs.YtgodkfgnhpnhcaaGreatDoor
open Go.RowKit Go.Maps
theorem und_entries : Tryz.prog.underlying 260 = some (.map 3 258) := by kernel_rfl
theorem zero_entry (w : World) : (zeroValue 258).run Tryz.prog w = .ok (.agg #[.int .i64 0, .int .i64 0, .bool false]) w := by kernel_rfl
/-- what the numbers cost -/
def CO (ns : List Nd) (c : Nat → Int) : Prop := ∀ (i : Nat) n, ns[i]? = some n → (0 ≤ c i ∧ c i ≤ 1000000) ∧ (n.kind = 0 → c i = 1132 ∧ SmE (fv n.val)) ∧ (n.kind ≠ 0 → c i = 1 + c n.a.toNat + c n.b.toNat)
/-- the map holds the entries of those that are done -/
def ME (c : Nat → Int) (m : Value → Option Value) (done : List Nat) : Prop :=
  (∀ i ∈ done, ∃ u l, m (.int .i64 ((i : Nat) : Int)) = some (.agg #[.int .i64 u, .int .i64 l, .bool true]) ∧ (0 ≤ u ∧ u ≤ c i) ∧ (0 ≤ l ∧ l ≤ c i)) ∧ ∀ i : Nat, i ∉ done → m (.int .i64 (i : Int)) = none
theorem ME.get {c : Nat → Int} {m : Value → Option Value} {done : List Nat} (h : ME c m done) (i : Nat) (h0 : 0 ≤ c i) : ∃ u l t, (m (.int .i64 (i : Int))).getD (.agg #[.int .i64 0, .int .i64 0, .bool false]) = .agg #[.int .i64 u, .int .i64 l, .bool t] ∧ (0 ≤ u ∧ u ≤ c i) ∧ (0 ≤ l ∧ l ≤ c i) ∧ (i ∈ done → t = true) := by
  by_cases hi : i ∈ done
  · obtain ⟨u, l, e, g1, g2⟩ := h.1 i hi
    exact ⟨u, l, true, by rw [e]; rfl, g1, g2, fun _ => rfl⟩
  · exact ⟨0, 0, false, by rw [h.2 i hi]; rfl, ⟨by omega, h0⟩, ⟨by omega, h0⟩, fun h' => absurd h' hi⟩
theorem ME.put {c : Nat → Int} {m m' : Value → Option Value} {done : List Nat} {i : Nat} {u l : Int} (h : ME c m done) (h1 : 0 ≤ u ∧ u ≤ c i) (h2 : 0 ≤ l ∧ l ≤ c i) (hu : Upd m (.int .i64 (i : Int)) (some (.agg #[.int .i64 u, .int .i64 l, .bool true])) m') : ME c m' (done ++ [i]) := by
  refine ⟨fun j hj => ?_, fun j hj => ?_⟩
  · by_cases hji : j = i
    · subst hji; exact ⟨u, l, hu.1, h1, h2⟩
    · rw [hu.2 _ (fun e => hji (by injection e with _ e; omega))]
      rcases List.mem_append.1 hj with h1 | h1
      · exact h.1 j h1
      · simp at h1; exact absurd h1 hji
  · have h1 : j ≠ i := fun e => hj (by rw [e]; simp)
    rw [hu.2 _ (fun e => h1 (by injection e with _ e; omega))]
    exact h.2 j (fun h' => hj (List.mem_append.2 (Or.inl h')))
def RetMEn (w : World) (c : Int) (root : Nat) (e : Ending) (w' : World) : Prop :=
  Below w.heap.size w w' ∧ ∃ mb m u l, e = .returned (.map (some mb)) ∧ MapP Tryz.prog 3 w' mb m ∧ m (.int .i64 (root : Int)) = some (.agg #[.int .i64 u, .int .i64 l, .bool true]) ∧ (0 ≤ u ∧ u ≤ c) ∧ (0 ≤ l ∧ l ≤ c)
/-- a new block of three cells is laid and written -/
theorem new3 (w : World) (T : TypeId) (z0 z1 z2 a b c : Value) : ∃ w1, w.alloc (.cells #[z0, z1, z2] T) = w1 ∧ (w1.cell? ⟨w.heap.size, 0, none⟩ = some z0 ∧ w1.cell? ⟨w.heap.size, 1, none⟩ = some z1 ∧ w1.cell? ⟨w.heap.size, 2, none⟩ = some z2 ∧
    w1.frozen? ⟨w.heap.size, 0, none⟩ = false ∧ w1.frozen? ⟨w.heap.size, 1, none⟩ = false ∧ w1.frozen? ⟨w.heap.size, 2, none⟩ = false) ∧
    ∃ w2, ((w1.setCell ⟨w.heap.size, 0, none⟩ a).setCell ⟨w.heap.size, 1, none⟩ b).setCell ⟨w.heap.size, 2, none⟩ c = w2 ∧ Below w.heap.size w w2 ∧ w2.heap[w.heap.size]? = some (.cells #[a, b, c] T (0, 0)) := by
  obtain ⟨w1, h, hb, hs, b1⟩ := pro1 w (.cells #[z0, z1, z2] T)
  have g1 := hb.setCell (p := ⟨w.heap.size, 0, none⟩) (Nat.le_refl _) a
  have g2 := g1.setCell (p := ⟨w.heap.size, 1, none⟩) (Nat.le_refl _) b
  have g3 := g2.setCell (p := ⟨w.heap.size, 2, none⟩) (Nat.le_refl _) c
  exact ⟨w1, h, cells3 b1, _, rfl, g3, set3 b1 a b c⟩
set_option maxHeartbeats 12800000 in
set_option maxRecDepth 100000 in
theorem entries_any {p : Nat → Prop} {w : World} {g root : Nat} {ns : List Nd} {val : Nat → Int} {c : Nat → Int} {l : List Nat} {vl : Value} (hd : DagP w g ns) (ok : OkNs ns) (hv : DV ns val) (hlf : LeafOk ns) (hco : CO ns c) (hT : Tab w) (hl : IntsP p w vl l) (hI : IsB ns root l) :
    Calls Tryz.prog 171 #[.pointer (some ⟨g, 0, none⟩), vl] w (RetMEn w (c root) root) := by
  obtain ⟨bl, cl, rfl, hlc, hcm, -, hbl, -⟩ := id hl
  obtain ⟨w1, hw1, hb1, hs1, b1⟩ := pro1 w (.map #[] 0)
  have HL := Lib.hid (hl.below hb1)
  have HOK := Lib.hid ok; have HCOST := Lib.hid hco; have HDW := Lib.hid hd; have HV := Lib.hid hv; have HLEAF := Lib.hid hlf; have HT := Lib.hid hT; have HI := Lib.hid hI; have HLN := Lib.hid hd.len
  have HB1 := Lib.hid hb1; have HM1 := Lib.hid (MapP.made (P := Tryz.prog) (k := 3) (es := #[]) b1); have HBL := Lib.hid hbl; have HS1 := Lib.hid hs1
  have HLL := Lib.hid (list_len hI hd.len)
  clear hd ok hco hv hlf hT hl hI hb1 b1 hs1 hlc hcm hbl
  have hmm := @run_makeMap Tryz.prog
  have hst := store_float
  go_enter Tryz.func171, Tryz.ntmps171
  go_wp2_with fail
  go_loopw [14] (fun i wr => ∃ k : Nat, k ≤ l.length ∧ i = .int .i64 (k : Int) ∧ Hid (Fr (fun b => b = w.heap.size) w1 wr) ∧ ∃ m, Hid (MapP Tryz.prog 3 wr w.heap.size m) ∧ Hid (ME c m (l.take k))) (fun i _ => ((l.length : Int) - intOf i).toNat)
  case atStart => exact ⟨0, Nat.zero_le _, rfl, Lib.hid (Fr.of_below (Below.refl _ _)), _, HM1, Lib.hid ⟨by simp, by simp⟩⟩
  case round =>
    obtain ⟨k, hk, rfl, HF, m, HM, HME⟩ := hrel
    have HBR : Hid (Below w.heap.size w wr) := Lib.hid (HB1.out.trans (HF.out.below HB1.out.size (fun b hb => by omega)))
    rcases Nat.lt_or_ge k l.length with hlt | hge
    · obtain ⟨x, hx⟩ : ∃ x, l[k]? = some x := ⟨_, List.getElem?_eq_getElem hlt⟩
      have hxl : x < ns.length := HI.out.lt x (List.mem_of_getElem? hx)
      obtain ⟨n, hn⟩ : ∃ n, ns[x]? = some n := ⟨_, List.getElem?_eq_getElem hxl⟩
      have HDR := Lib.hid (HDW.out.below HBR.out)
      have cx : wr.cell? ⟨bl, k, none⟩ = some (.int .i64 (x : Int)) := (World.cell?_of_block (HF.out.block bl (by have := HBL.out; have := HB1.out.size; omega) (by have := HBL.out; omega))).trans (HL.out.cell hx)
      have HN := Lib.hid (node_open HDR.out hn)
      have hkI : (k : Int) < (l.length : Int) := by omega
      have hk0 : (0 : Int) ≤ (k : Int) := by omega
      have hlI : (l.length : Int) ≤ 20000 := by have := HLL.out; omega
      have HX := Lib.hid hx; have HNN := Lib.hid hn; have HXL := Lib.hid hxl; have HKL := Lib.hid hlt
      obtain ⟨hval, hsm, hfin⟩ := HV.out x n hn
      have hvl := HDR.out.val hn
      have hkind : n.kind = 0 ∨ n.kind = 1 ∨ n.kind = 2 ∨ n.kind = 3 := by rcases hval with h | h | h | h <;> omega
      obtain ⟨hop, hop2⟩ := ops_done HOK.out HV.out HI.out.srt HI.out.cl hx hn
      have hab : (0 ≤ n.a ∧ n.a ≤ x) ∧ (0 ≤ n.b ∧ n.b ≤ x) := by
        by_cases h0 : n.kind = 0
        · obtain ⟨h1, h2⟩ := HLEAF.out x n hn h0
          rw [h1, h2]; omega
        · obtain ⟨-, -, h3, h4⟩ := hop2 h0
          omega
      obtain ⟨hcx, hc0, hc1⟩ := HCOST.out x n hn
      have hca : 0 ≤ c n.a.toNat ∧ c n.a.toNat ≤ 1000000 := (HCOST.out n.a.toNat _ (List.getElem?_eq_getElem (by omega))).1
      have hcb : 0 ≤ c n.b.toNat ∧ c n.b.toNat ≤ 1000000 := (HCOST.out n.b.toNat _ (List.getElem?_eq_getElem (by omega))).1
      obtain ⟨ua, la, ta, ea, ha1, ha2, ha3⟩ := HME.out.get n.a.toNat hca.1
      obtain ⟨ub, lb, tb, eb, hb1, hb2, hb3⟩ := HME.out.get n.b.toNat hcb.1
      rw [show ((n.a.toNat : Nat) : Int) = n.a from by omega] at ea
      rw [show ((n.b.toNat : Nat) : Int) = n.b from by omega] at eb
      have HKX := Lib.hid (key_nat (i := x) (by have := HLN.out; omega))
      have HCO : Hid (∀ w', Below wr.heap.size wr w' → Calls Tryz.prog 209 #[.agg #[.int .i64 n.kind, .float .f64 n.val, .int .i64 n.a, .int .i64 n.b], .agg #[.int .i64 ua, .int .i64 la, .bool ta], .agg #[.int .i64 ub, .int .i64 lb, .bool tb]] w' (RetEn w' (c x))) := Lib.hid fun w' h =>
        bcombine_any (n := n) hkind (fun h0 => ⟨hvl, hfin h0, by rcases hval with h | h | h | h <;> first | (rw [← h.2]; exact hsm) | omega, (hc0 h0).2, (hc0 h0).1⟩) ⟨ua, la, ta, rfl, ha1, ha2, fun h0 => ha3 (hop2 h0).1⟩ ⟨ub, lb, tb, rfl, hb1, hb2, fun h0 => hb3 (hop2 h0).2.1⟩ hc1 hca.2 hcb.2 (HT.out.below (HBR.out.trans (h.mono HBR.out.size)))
      have HEA := Lib.hid ea; have HEB := Lib.hid eb; have HCX := Lib.hid hcx
      have HAB : Hid ((0 ≤ n.a ∧ n.a ≤ 1000000) ∧ (0 ≤ n.b ∧ n.b ≤ 1000000)) := Lib.hid (by have := HLN.out; omega)
      have HKA := Lib.hid (key_int (i := n.a) (by have := HAB.out; omega)); have HKB := Lib.hid (key_int (i := n.b) (by have := HAB.out; omega))
      clear hx hn hxl hlt hval hsm hfin hvl hkind ea eb ha1 ha2 hb1 hb2 ha3 hb3 hca hcb hcx hc0 hc1 hab hop hop2 HDR
      go_wp2_with fail
      refine HN.out.mono ?_
      rintro e w5 ⟨rfl, hb5⟩
      obtain ⟨w6, hw6, z0, z1, z2, z3, y0, y1, y2, y3, w7, hw7, hb7, hs7⟩ := new4 w5 122 (.int .i64 0) (.float .f64 0) (.int .i64 0) (.int .i64 0) (.int .i64 n.kind) (.float .f64 n.val) (.int .i64 n.a) (.int .i64 n.b)
      obtain ⟨x0, x1, x2, x3⟩ := cells4 hs7
      have HM7 := Lib.hid (HM.out.below (below_up hb5 hb7) HM.out.lt)
      have HB57 := Lib.hid (below_up hb5 hb7)
      have HC7 := Lib.hid (HCO.out w7 (below_up hb5 hb7))
      have M1 : True := trivial
      clear hb5 hb7 hs7 cx
      go_wp2_with (first
        | (at_lookup
           clear M1
           refine wpList_look1 _ rfl _ _ _ rfl _ _ keyed_int und_entries (zero_entry _) _ m rfl HM7.out (.int .i64 n.a) _ rfl HKA.out (.agg #[.int .i64 ua, .int .i64 la, .bool ta]) HEA.out ?_)
        | (at_lookup
           refine wpList_look1 _ rfl _ _ _ rfl _ _ keyed_int und_entries (zero_entry _) _ m rfl HM7.out (.int .i64 n.b) _ rfl HKB.out (.agg #[.int .i64 ub, .int .i64 lb, .bool tb]) HEB.out ?_))
      refine HC7.out.mono ?_
      rintro e w8 ⟨hb8, u, lw, rfl, hu, hlw⟩
      obtain ⟨w9, hw9, ⟨p0, p1, p2, q0, q1, q2⟩, w10, hw10, hb10, hs10⟩ := new3 w8 258 (.int .i64 0) (.int .i64 0) (.bool false) (.int .i64 u) (.int .i64 lw) (.bool true)
      obtain ⟨r0, r1, r2, -, -, -⟩ := cells3 hs10
      have HM10 := Lib.hid ((HM7.out.below hb8 HM7.out.lt).below hb10 (Nat.lt_of_lt_of_le HM7.out.lt hb8.size))
      have HB10 := Lib.hid (below_up (below_up HB57.out hb8) hb10)
      obtain ⟨m', hup⟩ := upd_ex m (.int .i64 (x : Int)) (some (.agg #[.int .i64 u, .int .i64 lw, .bool true]))
      have HU := Lib.hid hup
      have HUB := Lib.hid hu; have HLB := Lib.hid hlw
      have hu40 : u ≤ 1099511627776 := by have := HCX.out; omega
      have hl40 : lw ≤ 1099511627776 := by have := HCX.out; omega
      clear hup hu hlw hb8 hb10 hs10 z0 z1 z2 z3 y0 y1 y2 y3 x0 x1 x2 x3 hw6 hw7 HCO HM7 HC7
      go_wp2_with (first
        | (at_mapUpdate
           refine wpList_put _ rfl _ _ _ _ rfl _ _ keyed_int und_entries _ m m' rfl HM10.out (.int .i64 (x : Int)) (.agg #[.int .i64 u, .int .i64 lw, .bool true]) _ rfl rfl HKX.out HU.out ?_
           intro w11 HM11 hgr hsz
           have HF11 := Lib.hid ((HF.out.trans (Fr.of_below HB10.out)).trans (Fr.of_grown hgr (fun i e => (Option.some.inj e).symm)))
           clear hgr hsz))
      go_roundw
      case rel =>
        refine ⟨k + 1, by have := HKL.out; omega, by go_num, HF11, m', HM11, Lib.hid ?_⟩
        rw [List.take_add_one, HX.out]
        exact HME.out.put HUB.out HLB.out HU.out
      case measure => have := HKL.out; simp [intOf]; omega
    · have hke : k = l.length := by omega
      subst hke
      obtain ⟨u, lw, h1, h2, h3⟩ := HME.out.1 root (by rw [List.take_length]; exact HI.out.rt)
      have HRES : Hid (RetMEn w (c root) root (.returned (.map (some w.heap.size))) wr) := Lib.hid ⟨HBR.out, _, m, u, lw, rfl, HM.out, h1, h2, h3⟩
      clear h1 h2 h3 hk hge
      go_wp2
      go_ret
      exact HRES.out
end Go.Proofs.YtgodkfgnhpnhcaaGreatDoor
namespace Go.Proofs.YtgodkfgnhpnhcaaGreatDoor
open Go.RowKit Go.Maps
set_option maxHeartbeats 6400000 in
set_option maxRecDepth 100000 in
theorem roots_any {w : World} {g root : Nat} {ns : List Nd} {val : Nat → Int} (hd : DagP w g ns) (ok : OkNs ns) (hv : DV ns val) (hr : root < ns.length) :
    Calls Tryz.prog 172 #[.pointer (some ⟨g, 0, none⟩), .int .i64 (root : Int)] w (fun e w' => e = .returned (.int .i64 0) ∧ Below w.heap.size w w') := by
  obtain ⟨w2, hw2, hb2, hs2, b2⟩ := pro1 w (.cells #[.int .i64 (root : Int)] 3)
  have HDW := Lib.hid hd
  have HD2 := Lib.hid (hd.below hb2)
  have HBE := Lib.hid (below_any HD2.out ok hr b2)
  have HB2 := Lib.hid hb2
  have HV := Lib.hid hv; have HLN := Lib.hid hd.len
  clear hd ok hr hv hb2 b2 hs2
  go_enter Tryz.func172, Tryz.ntmps172
  go_wp2_with fail
  refine HBE.out.mono ?_
  rintro e w3 ⟨hb3, v3, l, rfl, hl, hI⟩
  obtain ⟨bl, cl, rfl, hlc, hcm, -⟩ := id hl
  have HL := Lib.hid hl; have HI := Lib.hid hI
  have HB3 := Lib.hid (HB2.out.trans (hb3.mono HB2.out.size))
  have HLL := Lib.hid (list_len hI HLN.out)
  clear hb3 hl hI HBE hcm hlc hw2
  go_wp2_with fail
  go_loopw [15, 5] (fun i c wr => ∃ k : Nat, k ≤ l.length ∧ i = .int .i64 (k : Int) ∧ c = .int .i64 0 ∧ Hid (Below w3.heap.size w3 wr)) (fun i _ _ => ((l.length : Int) - intOf i).toNat)
  case atStart => exact ⟨0, Nat.zero_le _, rfl, rfl, Lib.hid (Below.refl _ _)⟩
  case round =>
    obtain ⟨k, hk, rfl, rfl, HF⟩ := hrel
    have HBR : Hid (Below w.heap.size w wr) := Lib.hid (HB3.out.trans (HF.out.mono HB3.out.size))
    rcases Nat.lt_or_ge k l.length with hlt | hge
    · obtain ⟨x, hx⟩ : ∃ x, l[k]? = some x := ⟨_, List.getElem?_eq_getElem hlt⟩
      have hxl : x < ns.length := HI.out.lt x (List.mem_of_getElem? hx)
      obtain ⟨n, hn⟩ : ∃ n, ns[x]? = some n := ⟨_, List.getElem?_eq_getElem hxl⟩
      have cx := (HL.out.below HF.out).cell hx
      have HN := Lib.hid (node_open (HDW.out.below HBR.out) hn)
      have hst := store_float
      have hkI : (k : Int) < (l.length : Int) := by omega
      have hk0 : (0 : Int) ≤ (k : Int) := by omega
      have hlI : (l.length : Int) ≤ 20000 := by have := HLL.out; omega
      have hk5 : n.kind ≠ 5 := by rcases (HV.out x n hn).1 with h | h | h | h <;> omega
      have HKL := Lib.hid hlt
      clear hx hn hxl hlt
      go_wp2_with fail
      refine HN.out.mono ?_
      rintro e w5 ⟨rfl, hb5⟩
      obtain ⟨w6, hw6, z0, z1, z2, z3, y0, y1, y2, y3, w7, hw7, hb7, hs7⟩ := new4 w5 122 (.int .i64 0) (.float .f64 0) (.int .i64 0) (.int .i64 0) (.int .i64 n.kind) (.float .f64 n.val) (.int .i64 n.a) (.int .i64 n.b)
      obtain ⟨x0, x1, x2, x3⟩ := cells4 hs7
      have HF7 := Lib.hid (below_up HF.out (below_up hb5 hb7))
      clear hb5 hb7 hs7 cx
      go_wp2_with fail
      go_roundw
      case rel => exact ⟨k + 1, by have := HKL.out; omega, by go_num, rfl, HF7⟩
      case measure => have := HKL.out; simp [intOf]; omega
    · have hke : k = l.length := by omega
      subst hke
      clear hk hge
      go_wp2
      go_ret
      exact ⟨rfl, HBR.out⟩
def RetBd (w : World) (c : Int) (e : Ending) (w' : World) : Prop := Below w.heap.size w w' ∧ ∃ (u l : Int), e = .returned (.tuple #[.agg #[.int .i64 u, .int .i64 l, .int .i64 0], .bool true]) ∧ (0 ≤ u ∧ u ≤ c) ∧ (0 ≤ l ∧ l ≤ c)
theorem retbd_store {g : Nat} {w0 w1 : World} {T : TypeId} {a b c : Value} {u l C : Int} (hb : Below w0.heap.size w0 w1) (hg : w0.heap.size ≤ g) (hw : w1.heap[g]? = some (.cells #[a, b, c] T (0, 0))) (hu : 0 ≤ u ∧ u ≤ C) (hl : 0 ≤ l ∧ l ≤ C) :
    Hid (RetBd w0 C (.returned (.tuple #[.agg #[.int .i64 u, .int .i64 l, .int .i64 0], .bool true])) (((w1.setCell ⟨g, 0, none⟩ (.int .i64 u)).setCell ⟨g, 1, none⟩ (.int .i64 l)).setCell ⟨g, 2, none⟩ (.int .i64 0))) ∧
    (((w1.setCell ⟨g, 0, none⟩ (.int .i64 u)).setCell ⟨g, 1, none⟩ (.int .i64 l)).setCell ⟨g, 2, none⟩ (.int .i64 0)).heap[g]? = some (.cells #[.int .i64 u, .int .i64 l, .int .i64 0] T (0, 0)) :=
  ⟨Lib.hid ⟨((hb.setCell hg _).setCell hg _).setCell hg _, u, l, rfl, hu, hl⟩, set3 hw _ _ _⟩
set_option maxHeartbeats 6400000 in
set_option maxRecDepth 100000 in
theorem boundOf_any {w : World} {g root : Nat} {ns : List Nd} {val : Nat → Int} {c : Nat → Int} (hd : DagP w g ns) (ok : OkNs ns) (hv : DV ns val) (hlf : LeafOk ns) (hco : CO ns c) (hT : Tab w) (hr : root < ns.length) :
    Calls Tryz.prog 144 #[.pointer (some ⟨g, 0, none⟩), .int .i64 (root : Int)] w (RetBd w (c root)) := by
  obtain ⟨w1, hw1, hb1, hs1, b1⟩ := pro1 w (.cells #[.int .i64 0, .int .i64 0, .int .i64 0] 226)
  obtain ⟨w2, hw2, hb2, hs2, b2⟩ := pro1 w1 (.cells #[.int .i64 (root : Int)] 3)
  have HBE := Lib.hid (below_any ((hd.below hb1).below hb2) ok hr b2)
  rw [hs1] at HBE
  have HB2 := Lib.hid (below_up hb1 hb2)
  have B2 := Lib.hid (heap_below b1 hb2 (heap_lt b1))
  have HEN : Hid (∀ w' l vl, Below w.heap.size w w' → IntsP (fun b => w2.heap.size ≤ b) w' vl l → IsB ns root l → Calls Tryz.prog 171 #[.pointer (some ⟨g, 0, none⟩), vl] w' (RetMEn w' (c root) root)) := Lib.hid fun w' l vl hb hl hI => entries_any (hd.below hb) ok hv hlf hco (hT.below hb) hl hI
  have HRO : Hid (∀ w', Below w.heap.size w w' → Calls Tryz.prog 172 #[.pointer (some ⟨g, 0, none⟩), .int .i64 (root : Int)] w' (fun e w'' => e = .returned (.int .i64 0) ∧ Below w'.heap.size w' w'')) := Lib.hid fun w' hb => roots_any (hd.below hb) ok hv hr
  have HKX := Lib.hid (key_nat (i := root) (by have := hd.len; omega))
  clear hd ok hv hlf hco hT hr hb1 hb2 b1 b2 hs2
  go_enter Tryz.func144, Tryz.ntmps144
  go_wp2_with fail
  refine HBE.out.mono ?_
  rintro e w3 ⟨hb3, v3, l, rfl, hl, hI⟩
  have HB3 := Lib.hid (HB2.out.trans (hb3.mono HB2.out.size))
  have HE3 := Lib.hid (HEN.out w3 l v3 HB3.out hl hI)
  have HB23 := Lib.hid hb3
  clear hb3 hl hI HBE HEN hw1 hw2
  go_wp2_with fail
  refine HE3.out.mono ?_
  rintro e w4 ⟨hb4, mb, m, u, lw, rfl, hm, hmr, hu, hlw⟩
  have HM4 := Lib.hid hm
  have HGD : Hid ((m (.int .i64 (root : Int))).getD (.agg #[.int .i64 0, .int .i64 0, .bool false]) = .agg #[.int .i64 u, .int .i64 lw, .bool true]) := Lib.hid (by rw [hmr]; rfl)
  have HSM : Hid ((m (.int .i64 (root : Int))).isSome = true) := Lib.hid (by rw [hmr]; rfl)
  obtain ⟨w5, hw5, ⟨p0, p1, p2, q0, q1, q2⟩, w6, hw6, hb6, hs6⟩ := new3 w4 258 (.int .i64 0) (.int .i64 0) (.bool false) (.int .i64 u) (.int .i64 lw) (.bool true)
  obtain ⟨r0, r1, r2, -, -, -⟩ := cells3 hs6
  have HB6 := Lib.hid (HB3.out.trans ((below_up hb4 hb6).mono HB3.out.size))
  have HB26 := Lib.hid (below_up HB23.out (below_up hb4 hb6))
  have HUB := Lib.hid hu; have HLB := Lib.hid hlw
  have HN1 : Hid (w.heap.size ≠ w4.heap.size) := Lib.hid (by have := heap_lt B2.out; have := HB23.out.size; have := hb4.size; omega)
  clear hb4 hb6 hm hmr hu hlw hs6
  go_wp2_with (first
    | (at_lookup
       refine wpList_look2 _ rfl _ _ _ rfl _ _ keyed_int und_entries (zero_entry _) _ m rfl HM4.out (.int .i64 (root : Int)) _ rfl HKX.out (.agg #[.int .i64 u, .int .i64 lw, .bool true]) HGD.out true HSM.out ?_))
  have hdr : Below w6.heap.size w6 w6.drew := (Below.refl _ _).drew
  replace r0 := cell_below r0 hdr (Nat.le_refl _)
  replace r1 := cell_below r1 hdr (Nat.le_refl _)
  replace r2 := cell_below r2 hdr (Nat.le_refl _)
  have HB6D := Lib.hid (HB6.out.trans (hdr.mono HB6.out.size))
  have HB26D := Lib.hid (below_up HB26.out hdr)
  have n1 : w.heap.size ≠ w4.heap.size := HN1.out
  clear hdr p0 p1 p2 q0 q1 q2 hw5 hw6
  go_region_held3 (fun w' => w'.cell? ⟨w4.heap.size, 0, none⟩ = some (.int .i64 u) ∧ w'.cell? ⟨w4.heap.size, 1, none⟩ = some (.int .i64 lw) ∧ w'.cell? ⟨w4.heap.size, 2, none⟩ = some (.bool true)) (go_keep)
    (first
    | (go_at_call 172
       refine (HRO.out _ HB6D.out).mono ?_
       rintro r w9 ⟨rfl, hb9⟩
       have r0 := cell_below r0 hb9 (Nat.le_refl _)
       have r1 := cell_below r1 hb9 (Nat.le_refl _)
       have r2 := cell_below r2 hb9 (Nat.le_refl _)
       have HB9 := Lib.hid (below_up HB26D.out hb9)
       have b9 := heap_below B2.out HB9.out (heap_lt B2.out)
       obtain ⟨e0, e1, e2, e3, e4, e5⟩ := cells3 b9
       have HB9N := Lib.hid b9
       clear hb9 b9))
  all_goals
    obtain ⟨HR, hR⟩ := retbd_store (HB2.out.trans (HB9.out.mono HB2.out.size)) (Nat.le_refl _) HB9N.out HUB.out HLB.out
    have HFF := Lib.hid hR
    clear hR
    go_wp2
    obtain ⟨f0, f1, f2, -, -, -⟩ := cells3 HFF.out
    refine bodyPost_ret (v := .tuple #[.agg #[_, _, _], _]) (by simp [results, Tryz.results144, go_sem, f0, f1, f2]; first | exact ⟨⟨rfl, rfl, rfl⟩, rfl⟩ | rfl) rfl ?_
    exact HR.out
end Go.Proofs.YtgodkfgnhpnhcaaGreatDoor
namespace Go.Proofs.YtgodkfgnhpnhcaaGreatDoor
open Go.RowKit Go.Maps
def RetSep (w : World) (c : Int) (e : Ending) (w' : World) : Prop := Below w.heap.size w w' ∧ ∃ s : Int, e = .returned (.tuple #[.int .i64 s, .bool true]) ∧ 1 ≤ s ∧ s ≤ c + 1
set_option maxHeartbeats 6400000 in
set_option maxRecDepth 100000 in
theorem boundSep_any {w : World} {g root : Nat} {ns : List Nd} {val : Nat → Int} {c : Nat → Int} (hd : DagP w g ns) (ok : OkNs ns) (hv : DV ns val) (hlf : LeafOk ns) (hco : CO ns c) (hT : Tab w) (hr : root < ns.length) :
    Calls Tryz.prog 114 #[.pointer (some ⟨g, 0, none⟩), .int .i64 (root : Int)] w (RetSep w (c root)) := by
  have HBO := Lib.hid (boundOf_any hd ok hv hlf hco hT hr)
  have hcr := (hco root _ (List.getElem?_eq_getElem hr)).1.2
  clear hd ok hv hlf hco hT hr
  go_enter Tryz.func114, Tryz.ntmps114
  go_wp2_with fail
  refine HBO.out.mono ?_
  rintro e w4 ⟨hb4, u, lw, rfl, hu, hlw⟩
  obtain ⟨w5, hw5, ⟨p0, p1, p2, q0, q1, q2⟩, w6, hw6, hb6, hs6⟩ := new3 w4 226 (.int .i64 0) (.int .i64 0) (.int .i64 0) (.int .i64 u) (.int .i64 lw) (.int .i64 0)
  obtain ⟨r0, r1, r2, -, -, -⟩ := cells3 hs6
  have HB6 := Lib.hid (below_up hb4 hb6)
  have HM : Hid (1 ≤ max u lw + 1 ∧ max u lw + 1 ≤ c root + 1) := Lib.hid (by omega)
  have hw : IntKind.i64.wrap (max u lw) = max u lw := wrap_i64 (by omega)
  have hwp : IntKind.i64.wrap (max u lw + 1) = max u lw + 1 := wrap_i64 (by omega)
  have hbig : ¬ (1099511627776 < max u lw + 1) := by omega
  have HRES : Hid (RetSep w (c root) (.returned (.tuple #[.int .i64 (max u lw + 1), .bool true])) w6) := Lib.hid ⟨HB6.out, max u lw + 1, rfl, HM.out.1, HM.out.2⟩
  clear hb4 hb6 hs6 hcr hu hlw HM
  go_wp2
  go_ret2
  exact HRES.out
end Go.Proofs.YtgodkfgnhpnhcaaGreatDoor
namespace Go.Proofs.YtgodkfgnhpnhcaaGreatDoor
open Go.RowKit Go.Maps
set_option maxHeartbeats 6400000 in
set_option maxRecDepth 100000 in
theorem separation_any {w : World} {g root : Nat} {ns : List Nd} {val : Nat → Int} {c : Nat → Int} (hd : DagP w g ns) (ok : OkNs ns) (hv : DV ns val) (hlf : LeafOk ns) (hco : CO ns c) (hT : Tab w) (hr : root < ns.length) (hc : c root ≤ 32767) :
    Calls Tryz.prog 87 #[.pointer (some ⟨g, 0, none⟩), .int .i64 (root : Int)] w (fun e w' => (∃ s : Int, e = .returned (.tuple #[.int .i64 s, .bool true])) ∧ Below w.heap.size w w') := by
  have HBO := Lib.hid (boundSep_any hd ok hv hlf hco hT hr)
  clear hd ok hv hlf hco hT hr
  go_enter Tryz.func87, Tryz.ntmps87
  go_wp2_with fail
  refine HBO.out.mono ?_
  rintro e w4 ⟨hb4, s, rfl, h1, h2⟩
  have hs : s ≤ 32768 := by omega
  have HB := Lib.hid hb4
  clear h1 h2 hc hb4
  go_wp2
  go_ret2
  exact ⟨⟨s, rfl⟩, HB.out⟩
theorem setB {w : World} {g : Nat} {T : TypeId} {a b : Value} (h : w.heap[g]? = some (.cells #[a, b] T (0, 0))) (d : Value) :
    (w.setCell ⟨g, 1, none⟩ d).heap[g]? = some (.cells #[a, d] T (0, 0)) := by
  have hg : g < w.heap.size := (Array.getElem?_eq_some_iff.1 h).1
  have h' : w.heap[g] = .cells #[a, b] T (0, 0) := (Array.getElem?_eq_some_iff.1 h).2
  simp [World.setCell, hg, Array.getElem_modify, h']
theorem ways (w : World) (T : TypeId) : ∃ w1, w.alloc (.cells #[.bool false, .int .i64 0] T) = w1 ∧ ∃ w2, w1.alloc (.cells #[.bool false, .int .i64 0] T) = w2 ∧ (w2.cell? ⟨w1.heap.size, 0, none⟩ = some (.bool false) ∧ w2.cell? ⟨w1.heap.size, 1, none⟩ = some (.int .i64 0) ∧ w2.frozen? ⟨w1.heap.size, 0, none⟩ = false ∧ w2.frozen? ⟨w1.heap.size, 1, none⟩ = false) ∧
    ∃ w3, (w2.setCell ⟨w1.heap.size, 0, none⟩ (.bool true)).setCell ⟨w1.heap.size, 1, none⟩ (.int .i64 32) = w3 ∧ (w3.cell? ⟨w1.heap.size, 0, none⟩ = some (.bool true) ∧ w3.cell? ⟨w1.heap.size, 1, none⟩ = some (.int .i64 32) ∧ w3.frozen? ⟨w1.heap.size, 0, none⟩ = false ∧ w3.frozen? ⟨w1.heap.size, 1, none⟩ = false) ∧
    ∃ w4, w3.setCell ⟨w1.heap.size, 1, none⟩ (.int .i64 (min 32 65536)) = w4 ∧ (w4.cell? ⟨w1.heap.size, 0, none⟩ = some (.bool true) ∧ w4.cell? ⟨w1.heap.size, 1, none⟩ = some (.int .i64 32) ∧ w4.frozen? ⟨w1.heap.size, 0, none⟩ = false ∧ w4.frozen? ⟨w1.heap.size, 1, none⟩ = false) ∧
      (w4.cell? ⟨w.heap.size, 0, none⟩ = some (.bool false) ∧ w4.cell? ⟨w.heap.size, 1, none⟩ = some (.int .i64 0) ∧ w4.frozen? ⟨w.heap.size, 0, none⟩ = false ∧ w4.frozen? ⟨w.heap.size, 1, none⟩ = false) ∧
    ∃ w5, (w4.setCell ⟨w.heap.size, 0, none⟩ (.bool true)).setCell ⟨w.heap.size, 1, none⟩ (.int .i64 32) = w5 ∧ (w5.cell? ⟨w.heap.size, 0, none⟩ = some (.bool true) ∧ w5.cell? ⟨w.heap.size, 1, none⟩ = some (.int .i64 32)) ∧ Below w.heap.size w w5 := by
  obtain ⟨w1, hw1, hb1, hs1, b1⟩ := pro1 w (.cells #[.bool false, .int .i64 0] T)
  obtain ⟨w2, hw2, hb2, hs2, b2⟩ := pro1 w1 (.cells #[.bool false, .int .i64 0] T)
  have h12 := heap_below b1 hb2 (heap_lt b1)
  have hb := below_up hb1 hb2
  have g1 := set2 b2 (.bool true) (.int .i64 32)
  have g2 := setB g1 (.int .i64 (min 32 65536))
  have e : (((w2.setCell ⟨w1.heap.size, 0, none⟩ (.bool true)).setCell ⟨w1.heap.size, 1, none⟩ (.int .i64 32)).setCell ⟨w1.heap.size, 1, none⟩ (.int .i64 (min 32 65536))).heap[w.heap.size]? = some (.cells #[.bool false, .int .i64 0] T (0, 0)) := by
    rw [Below.heap_setCell _ _ _ _ (by simp; omega), Below.heap_setCell _ _ _ _ (by simp; omega), Below.heap_setCell _ _ _ _ (by simp; omega)]
    exact h12
  have g3 := set2 e (.bool true) (.int .i64 32)
  have hk : w.heap.size ≤ w1.heap.size := hb1.size
  obtain ⟨c0, c1, -, -⟩ := cells2 g3
  exact ⟨w1, hw1, w2, hw2, cells2 b2, _, rfl, cells2 g1, _, rfl, cells2 g2, cells2 e, _, rfl, ⟨c0, c1⟩, ((((hb.setCell hk _).setCell hk _).setCell hk _).setCell (Nat.le_refl _) _).setCell (Nat.le_refl _) _⟩
set_option maxHeartbeats 6400000 in
set_option maxRecDepth 100000 in
theorem chosen_any {w : World} :
    Calls Tryz.prog 76 #[.slice none 0 0] w (fun e w' => e = .returned (.agg #[.bool true, .int .i64 32]) ∧ Below w.heap.size w w') := by
  obtain ⟨w1, hw1, w2, hw2, ⟨a0, a1, a2, a3⟩, w3, hw3, ⟨b0, b1, b2, b3⟩, w4, hw4, ⟨c0, c1, c2, c3⟩, ⟨d0, d1, d2, d3⟩, w5, hw5, ⟨e0, e1⟩, hb⟩ := ways w 61
  have HB := Lib.hid hb
  clear hb
  go_enter Tryz.func76, Tryz.ntmps76
  go_wp2
  refine bodyPost_ret (v := .agg #[_, _]) (by simp [results, Tryz.results76, go_sem, e0, e1]; first | exact ⟨rfl, rfl⟩ | rfl) rfl ?_
  exact ⟨rfl, HB.out⟩
end Go.Proofs.YtgodkfgnhpnhcaaGreatDoor
