/- A part of the proof: contracts of functions and plain laws (WalkE, DagF, WalkF, WalkG, NearB, BndA). -/
import Derived.Test.YtgodkfgnhpnhcaaGreatDoorJ15
set_option linter.unusedVariables false
set_option linter.unusedSimpArgs false
namespace Go.Proofs.YtgodkfgnhpnhcaaGreatDoor
open Go.RowKit Go.Maps
/-- the nodes' values, in units of 2^-1074 -/
def DV (ns : List Nd) (val : Nat → Int) : Prop := ∀ (i : Nat) n, ns[i]? = some n → nodeVal n (val n.a.toNat) (val n.b.toNat) (val i) ∧ SmV (val i) ∧ (n.kind = 0 → fin n.val)
theorem sorted_take {l : List Nat} {k x a : Nat} (hs : l.Pairwise (· < ·)) (hx : l[k]? = some x) (ha : a ∈ l) (hlt : a < x) : a ∈ l.take k := by
  obtain ⟨j, hj⟩ := List.getElem?_of_mem ha
  obtain ⟨j1, j2⟩ := List.getElem?_eq_some_iff.1 hj
  obtain ⟨k1, k2⟩ := List.getElem?_eq_some_iff.1 hx
  have hjk : j < k := by
    rcases Nat.lt_or_ge j k with h | h
    · exact h
    · rcases Nat.lt_or_eq_of_le h with h | h
      · have := (List.pairwise_iff_getElem.1 hs) k j k1 j1 h; omega
      · subst h; omega
  exact List.mem_of_getElem? (by rw [List.getElem?_take_of_lt hjk]; exact hj)
theorem IntsP.fr {p S : Nat → Prop} {w w' : World} {v : Value} {l : List Nat} (h : IntsP p w v l) (hf : Fr S w w') (hn : ∀ b, p b → ¬ S b) : IntsP p w' v l := by
  obtain ⟨b, c, e, h1, h2, h3, h4, h5⟩ := h
  exact ⟨b, c, e, h1, h2, h3, Nat.lt_of_lt_of_le h4 hf.size, fun k x hx => (World.cell?_of_block (hf.block b h4 (hn b h3))).trans (h5 k x hx)⟩
theorem IntsP.cell {p : Nat → Prop} {w : World} {b n c : Nat} {l : List Nat} (h : IntsP p w (.slice (some ⟨b, 0, none⟩) n c) l) {k x : Nat} (hx : l[k]? = some x) : w.cell? ⟨b, k, none⟩ = some (.int .i64 (x : Int)) := by
  obtain ⟨b', c', e, h1, h2, h3, h4, h5⟩ := h
  injection e with e; cases e
  exact h5 k x hx
theorem und_gaps : Tryz.prog.underlying 154 = some (.map 3 160) := by kernel_rfl
theorem zero_gap (w : World) : (zeroValue 160).run Tryz.prog w = .ok (.agg #[.float .f64 0, .float .f64 0]) w := by kernel_rfl
/-- the map holds the gaps of those that are done -/
def MG (val : Nat → Int) (m : Value → Option Value) (done : List Nat) : Prop :=
  (∀ i ∈ done, ∃ lo hi, m (.int .i64 ((i : Nat) : Int)) = some (gv lo hi) ∧ GapS lo hi (val i)) ∧ ∀ i : Nat, i ∉ done → m (.int .i64 (i : Int)) = none
theorem gap_zero : GapS 0 0 0 := ⟨by decide, by decide, fun _ => by decide⟩
theorem MG.get {val : Nat → Int} {m : Value → Option Value} {done : List Nat} (h : MG val m done) (i : Nat) : ∃ lo hi X, (m (.int .i64 (i : Int))).getD (.agg #[.float .f64 0, .float .f64 0]) = .agg #[.float .f64 lo, .float .f64 hi] ∧ GapS lo hi X ∧ (i ∈ done → X = val i) := by
  by_cases hi : i ∈ done
  · obtain ⟨lo, hh, e, g⟩ := h.1 i hi
    exact ⟨lo, hh, _, by rw [e]; rfl, g, fun _ => rfl⟩
  · exact ⟨0, 0, 0, by rw [h.2 i hi]; rfl, gap_zero, fun h' => absurd h' hi⟩
theorem MG.put {val : Nat → Int} {m m' : Value → Option Value} {done : List Nat} {i lo hi : Nat} (h : MG val m done) (hg : GapS lo hi (val i)) (hu : Upd m (.int .i64 (i : Int)) (some (.agg #[.float .f64 lo, .float .f64 hi])) m') : MG val m' (done ++ [i]) := by
  refine ⟨fun j hj => ?_, fun j hj => ?_⟩
  · by_cases hji : j = i
    · subst hji; exact ⟨lo, hi, hu.1, hg⟩
    · rw [hu.2 _ (fun e => hji (by injection e with _ e; omega))]
      rcases List.mem_append.1 hj with h1 | h1
      · exact h.1 j h1
      · simp at h1; exact absurd h1 hji
  · have h1 : j ≠ i := fun e => hj (by rw [e]; simp)
    rw [hu.2 _ (fun e => h1 (by injection e with _ e; omega))]
    exact h.2 j (fun h' => hj (List.mem_append.2 (Or.inl h')))
/-- what stands at the operands is done, unless the node is a leaf -/
theorem ops_done {ns : List Nd} {val : Nat → Int} {l : List Nat} {k x : Nat} {n : Nd} (ok : OkNs ns) (hv : DV ns val) (hs : l.Pairwise (· < ·)) (hc : Cl ns l l) (hx : l[k]? = some x) (hn : ns[x]? = some n) :
    (n.kind = 0 ∧ n.val < 18446744073709551616 ∨ True) ∧ (n.kind ≠ 0 → n.a.toNat ∈ l.take k ∧ n.b.toNat ∈ l.take k ∧ (0 ≤ n.a ∧ n.a < x) ∧ (0 ≤ n.b ∧ n.b < x)) := by
  refine ⟨Or.inr trivial, fun h0 => ?_⟩
  have h5 : n.kind ≠ 5 := by
    rcases (hv x n hn).1 with h | h | h | h <;> omega
  have ho : opsN n = [n.a, n.b] := by unfold opsN; rw [if_neg h0, if_neg h5]
  have hxl := List.mem_of_getElem? hx
  have ha := (ok x n hn).2 n.a (by rw [ho]; simp)
  have hb := (ok x n hn).2 n.b (by rw [ho]; simp)
  obtain ⟨ya, hya, ea⟩ := hc x hxl n hn n.a (by rw [ho]; simp)
  obtain ⟨yb, hyb, eb⟩ := hc x hxl n hn n.b (by rw [ho]; simp)
  have e1 : n.a.toNat = ya := by omega
  have e2 : n.b.toNat = yb := by omega
  rw [e1, e2]
  exact ⟨sorted_take hs hx hya (by omega), sorted_take hs hx hyb (by omega), ha, hb⟩
/-- a leaf has no operands -/
def LeafOk (ns : List Nd) : Prop := ∀ (i : Nat) n, ns[i]? = some n → n.kind = 0 → n.a = 0 ∧ n.b = 0
theorem leaf_ops {a b : Int} (h : a = 0 ∧ b = 0) : (0 ≤ a ∧ a ≤ 1000000) ∧ (0 ≤ b ∧ b ≤ 1000000) := by omega
def RetMG (w : World) (val : Nat → Int) (root : Nat) (e : Ending) (w' : World) : Prop :=
  Below w.heap.size w w' ∧ ∃ mb m lo hi, e = .returned (.map (some mb)) ∧ MapP Tryz.prog 3 w' mb m ∧ m (.int .i64 (root : Int)) = some (gv lo hi) ∧ GapS lo hi (val root)
theorem key_nat {i : Nat} (h : i ≤ 1000000) : keyOf Tryz.prog 3 (.int .i64 (i : Int)) = some (.int .i64 (i : Int)) := key_int (by omega)
set_option maxHeartbeats 6400000 in
set_option maxRecDepth 100000 in
theorem guessAll_any {w : World} {g root : Nat} {ns : List Nd} {val : Nat → Int} (hd : DagP w g ns) (ok : OkNs ns) (hv : DV ns val) (hlf : LeafOk ns) (hr : root < ns.length) :
    Calls Tryz.prog 128 #[.pointer (some ⟨g, 0, none⟩), .int .i64 (root : Int)] w (RetMG w val root) := by
  obtain ⟨w1, hw1, hb1, hs1, b1⟩ := pro1 w (.map #[] 0)
  obtain ⟨w2, hw2, hb2, hs2, b2⟩ := pro1 w1 (.cells #[.int .i64 (root : Int)] 3)
  have HDW := Lib.hid hd
  have HD2 := Lib.hid ((hd.below hb1).below hb2)
  have HBE := Lib.hid (below_any HD2.out ok hr b2)
  rw [hs1] at HBE
  have HM2 := Lib.hid (MapP.made (P := Tryz.prog) (k := 3) (es := #[]) (heap_below b1 hb2 (heap_lt b1)))
  have HB2 := Lib.hid (below_up hb1 hb2)
  have HSZ2 : Hid (w2.heap.size = w.heap.size + 2) := Lib.hid (by rw [hs2, hs1])
  have HOK := Lib.hid ok; have HV := Lib.hid hv; have HLN := Lib.hid hd.len; have HLEAF := Lib.hid hlf
  clear hd ok hv hr hlf hb1 hb2 b1 b2 hs2
  have hmm := @run_makeMap Tryz.prog
  go_enter Tryz.func128, Tryz.ntmps128
  go_wp2_with fail
  refine HBE.out.mono ?_
  rintro e w3 ⟨hb3, v3, l, rfl, hl, hsrt, hrt, hlt, hcl, -, -⟩
  obtain ⟨bl, cl, rfl, hlc, hcm, -⟩ := id hl
  have HL := Lib.hid hl; have HSRT := Lib.hid hsrt; have HRT := Lib.hid hrt; have HLT := Lib.hid hlt; have HCL := Lib.hid hcl
  have HB3 := Lib.hid (HB2.out.trans (hb3.mono HB2.out.size))
  have HD3 := Lib.hid (HD2.out.below hb3)
  have HM3 := Lib.hid (HM2.out.below hb3 HM2.out.lt)
  have HLL : Hid (l.length ≤ 20000) := Lib.hid (by
    have := nodup_len ns.length l (hsrt.imp fun {a b} h => by omega) hlt
    have := HLN.out; omega)
  clear hb3 hl hsrt hrt hlt hcl HBE hcm hlc hw1 hw2
  go_wp2_with fail
  go_loopw [18] (fun i wr => ∃ k : Nat, k ≤ l.length ∧ i = .int .i64 (k : Int) ∧ Hid (Fr (fun b => b = w.heap.size) w3 wr) ∧ ∃ m, Hid (MapP Tryz.prog 3 wr w.heap.size m) ∧ Hid (MG val m (l.take k))) (fun i _ => ((l.length : Int) - intOf i).toNat)
  case atStart => exact ⟨0, Nat.zero_le _, rfl, Lib.hid (Fr.of_below (Below.refl _ _)), _, HM3, Lib.hid ⟨by simp, by simp⟩⟩
  case round =>
    obtain ⟨k, hk, rfl, HF, m, HM, HMG⟩ := hrel
    rcases Nat.lt_or_ge k l.length with hlt | hge
    · obtain ⟨x, hx⟩ : ∃ x, l[k]? = some x := ⟨_, List.getElem?_eq_getElem hlt⟩
      have hxl : x < ns.length := HLT.out x (List.mem_of_getElem? hx)
      obtain ⟨n, hn⟩ : ∃ n, ns[x]? = some n := ⟨_, List.getElem?_eq_getElem hxl⟩
      have HBR : Hid (Below w.heap.size w wr) := Lib.hid (HB3.out.trans (HF.out.below HB3.out.size (fun b hb => by omega)))
      have HDR := Lib.hid (HDW.out.below HBR.out)
      have cx := (HL.out.fr HF.out (fun b hb => by have := HSZ2.out; omega)).cell hx
      have HN := Lib.hid (node_open HDR.out hn)
      have hst := store_float
      have hkI : (k : Int) < (l.length : Int) := by omega
      have hk0 : (0 : Int) ≤ (k : Int) := by omega
      have hlI : (l.length : Int) ≤ 20000 := by have := HLL.out; omega
      have HX := Lib.hid hx; have HNN := Lib.hid hn; have HXL := Lib.hid hxl; have HKL := Lib.hid hlt
      obtain ⟨hop, hop2⟩ := ops_done HOK.out HV.out HSRT.out HCL.out hx hn
      obtain ⟨hval, hsm, hfin⟩ := HV.out x n hn
      have hvl := HDR.out.val hn
      have hab : (0 ≤ n.a ∧ n.a ≤ 1000000) ∧ (0 ≤ n.b ∧ n.b ≤ 1000000) := by
        by_cases h0 : n.kind = 0
        · have := leaf_ops (HLEAF.out x n hn h0); omega
        · obtain ⟨-, -, h3, h4⟩ := hop2 h0
          have := HLN.out; omega
      obtain ⟨la, ha, Xa, ea, Ga, va⟩ := HMG.out.get n.a.toNat
      obtain ⟨lb, hb, Xb, eb, Gb, vb⟩ := HMG.out.get n.b.toNat
      rw [show ((n.a.toNat : Nat) : Int) = n.a from by omega] at ea
      rw [show ((n.b.toNat : Nat) : Int) = n.b from by omega] at eb
      have HNV : Hid (nodeVal n Xa Xb (val x)) := Lib.hid (by
        by_cases h0 : n.kind = 0
        · rcases hval with h | h | h | h
          · exact Or.inl h
          · omega
          · omega
          · omega
        · obtain ⟨m1, m2, -, -⟩ := hop2 h0
          rw [va m1, vb m2]; exact hval)
      have HKA := Lib.hid (key_int (i := n.a) (by omega)); have HKB := Lib.hid (key_int (i := n.b) (by omega))
      have HKX := Lib.hid (key_nat (i := x) (by have := HLN.out; omega))
      have HCO : Hid (∀ w', Calls Tryz.prog 153 #[.agg #[.int .i64 n.kind, .float .f64 n.val, .int .i64 n.a, .int .i64 n.b], .agg #[.float .f64 la, .float .f64 ha], .agg #[.float .f64 lb, .float .f64 hb]] w' (RetG w' (val x))) := Lib.hid fun w' => gcombine_any (n := n) hvl Ga Gb HNV.out
      have EA := Lib.hid ea; have EB := Lib.hid eb
      clear hop hop2 hval hsm hfin hvl hab va vb Ga Gb ea eb hx hn hxl hlt HDR
      go_wp2_with fail
      refine HN.out.mono ?_
      rintro e w5 ⟨rfl, hb5⟩
      obtain ⟨w6, hw6, z0, z1, z2, z3, y0, y1, y2, y3, w7, hw7, hb7, hs7⟩ := new4 w5 122 (.int .i64 0) (.float .f64 0) (.int .i64 0) (.int .i64 0) (.int .i64 n.kind) (.float .f64 n.val) (.int .i64 n.a) (.int .i64 n.b)
      obtain ⟨x0, x1, x2, x3⟩ := cells4 hs7
      have HM7 := Lib.hid (HM.out.below (below_up hb5 hb7) HM.out.lt)
      have HB57 := Lib.hid (below_up hb5 hb7)
      clear hb5 hb7 hs7 cx
      have M1 : True := trivial
      go_wp2_with (first
        | (at_lookup
           clear M1
           refine wpList_look1 _ rfl _ _ _ rfl _ _ keyed_int und_gaps (zero_gap _) _ m rfl HM7.out (.int .i64 n.a) _ rfl HKA.out (.agg #[.float .f64 la, .float .f64 ha]) EA.out ?_)
        | (at_lookup
           refine wpList_look1 _ rfl _ _ _ rfl _ _ keyed_int und_gaps (zero_gap _) _ m rfl HM7.out (.int .i64 n.b) _ rfl HKB.out (.agg #[.float .f64 lb, .float .f64 hb]) EB.out ?_))
      refine (HCO.out _).mono ?_
      rintro e w8 ⟨hb8, lo, hi, rfl, hG⟩
      unfold gv
      obtain ⟨m', hu⟩ := upd_ex m (.int .i64 (x : Int)) (some (.agg #[.float .f64 lo, .float .f64 hi]))
      have HU := Lib.hid hu; have HG := Lib.hid hG
      have HM8 := Lib.hid (HM7.out.below hb8 HM7.out.lt)
      have HB8 := Lib.hid (below_up HB57.out hb8)
      clear hu hG hb8 z0 z1 z2 z3 y0 y1 y2 y3 x0 x1 x2 x3 hw6 hw7
      go_wp2_with (first
        | (at_mapUpdate
           refine wpList_put _ rfl _ _ _ _ rfl _ _ keyed_int und_gaps _ m m' rfl HM8.out (.int .i64 (x : Int)) (.agg #[.float .f64 lo, .float .f64 hi]) _ rfl rfl HKX.out HU.out ?_
           intro w9 HM9 hgr hsz
           have HF9 := Lib.hid ((HF.out.trans (Fr.of_below HB8.out)).trans (Fr.of_grown hgr (fun i e => (Option.some.inj e).symm)))
           clear hgr hsz))
      go_roundw
      case rel =>
        refine ⟨k + 1, by have := HKL.out; omega, by go_num, HF9, m', HM9, Lib.hid ?_⟩
        rw [List.take_add_one, HX.out]
        exact HMG.out.put HG.out HU.out
      case measure => have := HKL.out; simp [intOf]; omega
    · have hke : k = l.length := by omega
      subst hke
      obtain ⟨lo, hi, e1, g1⟩ := HMG.out.1 root (by rw [List.take_length]; exact HRT.out)
      have HRES : Hid (RetMG w val root (.returned (.map (some w.heap.size))) wr) := Lib.hid ⟨HB3.out.trans (HF.out.below HB3.out.size (fun b hb => by omega)), _, m, lo, hi, rfl, HM.out, e1, g1⟩
      clear e1 g1 hk hge
      go_wp2
      go_ret
      exact HRES.out
end Go.Proofs.YtgodkfgnhpnhcaaGreatDoor
/- dag.fold, Add, Mul of two numbers or more. -/
namespace Go.Proofs.YtgodkfgnhpnhcaaGreatDoor
open Go.RowKit Go.Maps
/-- a slice of ids, none of the dag's own blocks -/
def IntsD (g : Nat) (w : World) (v : Value) (l : List Nat) : Prop := IntsP (fun b => ¬ DagB w g b) w v l
theorem IntsD.ds {g : Nat} {w w' : World} {v : Value} {l : List Nat} (h : IntsD g w v l) (hs : DS g w w') : IntsD g w' v l := by
  obtain ⟨b, c, e, h1, h2, h3, h4, h5⟩ := h
  exact ⟨b, c, e, h1, h2, hs.2 b h4 h3, Nat.lt_of_lt_of_le h4 hs.size, fun k x hx => hs.cell (h5 k x hx) h3⟩
def foldE (kind : Int) (e0 : Ex) (es : List Ex) : Ex := es.foldl (opE kind) e0
theorem foldE_snoc {kind : Int} {e0 : Ex} {es : List Ex} {m : Nat} {e : Ex} (h : es[m]? = some e) : foldE kind e0 (es.take (m + 1)) = opE kind (foldE kind e0 (es.take m)) e := by
  have : es.take (m + 1) = es.take m ++ [e] := by
    rw [List.take_add_one, h]; rfl
  rw [this]; simp [foldE]
/-- what lies behind m rounds -/
def FoldSt (P : Ex → Prop) (B N : Nat) (w : World) (g : Nat) (ns : List Nd) (x : Ex) (k : Nat) (wr : World) : Prop := ∃ ns', St P B N wr g ns' ∧ ns <+: ns' ∧ Is ns' x k ∧ DS g w wr
set_option maxHeartbeats 6400000 in
set_option maxRecDepth 100000 in
theorem fold_put {P : Ex → Prop} {B N : Nat} {w : World} {g : Nat} {ns : List Nd} {v : Value} {kind : Int} {i0 : Nat} {l : List Nat} {e0 : Ex} {es : List Ex} (hs : St P B N w g ns) (hk : kind = 1 ∨ kind = 3) (hl : IntsD g w v (i0 :: l)) (hlen : l.length = es.length) (h0 : 0 < l.length)
    (he0 : Is ns e0 i0) (hes : ∀ (m x : Nat) e, l[m]? = some x → es[m]? = some e → Is ns e x) (hP : ∀ m, m < es.length → P (foldE kind e0 (es.take (m + 1)))) (hN : N + l.length ≤ 20000) :
    Calls Tryz.prog 74 #[.pointer (some ⟨g, 0, none⟩), .int .i64 kind, v] w (RetE P B (N + l.length) w g ns idV (foldE kind e0 es)) := by
  have HL := Lib.hid hl
  obtain ⟨b, c, rfl, hc1, hc2, hn, hbl, hcell⟩ := id hl
  have c0 := hcell 0 i0 rfl
  have HH := Lib.hid (has_any hs.dag he0.lt)
  have HS0 : Hid (FoldSt P B (N + 0) w g ns (foldE kind e0 (es.take 0)) i0 w) := Lib.hid ⟨ns, hs, List.prefix_rfl, by simpa [foldE] using he0, DS.refl g w⟩
  have HES := Lib.hid hes; have HPP := Lib.hid hP; have HLE := Lib.hid hlen
  simp only [List.length_cons] at hc1 ⊢
  have hcap : (l.length : Int) + 1 ≤ (c : Int) := by omega
  have hc2' : (c : Int) ≤ 9223372036854775807 := by unfold maxLen at hc2; omega
  have hl20 : (l.length : Int) ≤ 20000 := by omega
  have hl1 : (1 : Int) ≤ (l.length : Int) := by omega
  have HCN : Hid (1 < c) := Lib.hid (by omega)
  have hcn : ¬ (c = 1) := by omega
  have HNN := Lib.hid hN
  clear hs hl he0 hes hP hlen hn hbl hcell hc1 hc2
  go_enter Tryz.func74, Tryz.ntmps74
  go_wp2_with fail
  refine HH.out.mono ?_
  rintro e w2 ⟨rfl, hw⟩
  obtain rfl := hw
  go_wp2_with fail
  go_loopw [7, 20] (fun id i wr => ∃ m k : Nat, m ≤ l.length ∧ i = .int .i64 (m : Int) ∧ id = .int .i64 (k : Int) ∧ Hid (FoldSt P B (N + m) w g ns (foldE kind e0 (es.take m)) k wr)) (fun _ i _ => ((l.length : Int) - intOf i).toNat)
  case atStart => exact ⟨0, i0, Nat.zero_le _, rfl, rfl, HS0⟩
  case round =>
    obtain ⟨m, k, hm, rfl, rfl, HF⟩ := hrel
    rcases Nat.lt_or_ge m l.length with hlt | hge
    · obtain ⟨x, hx⟩ : ∃ x, l[m]? = some x := ⟨_, List.getElem?_eq_getElem hlt⟩
      obtain ⟨y, hy⟩ : ∃ y, es[m]? = some y := ⟨_, List.getElem?_eq_getElem (by have := HLE.out; omega)⟩
      obtain ⟨ns1, hs1, hp1, hi1, hd1⟩ := HF.out
      have cx : wr.cell? ⟨b, 1 + m, none⟩ = some (.int .i64 (x : Int)) := IntsP.cell (HL.out.ds hd1) (by rw [Nat.add_comm]; exact hx)
      have hIx : Is ns1 y x := (HES.out m x y hx hy).mono hp1
      have hPP := HPP.out m (by have := HLE.out; omega)
      rw [foldE_snoc hy] at hPP
      have hkb : KindB kind := by rcases hk with rfl | rfl <;> simp [KindB]
      have HPT := Lib.hid (putId_any (n := ⟨kind, 0, k, x⟩) hs1.dag (node_ok hkb hi1.lt hIx.lt hs1.dag.len) (by simp) (by have := hs1.room; have := HNN.out; omega))
      have HR : Hid (∀ (w' : World) (k' : Nat) (ns' : List Nd), DagP w' g ns' → ns'[k']? = some ⟨kind, 0, k, x⟩ → (ns' = ns1 ∨ ns' = ns1 ++ [⟨kind, 0, k, x⟩]) → DS g wr w' → FoldSt P B (N + (m + 1)) w g ns (foldE kind e0 (es.take (m + 1))) k' w') :=
        Lib.hid fun w' k' ns' q1 q2 q3 q4 => by
          obtain ⟨k2, ns2, e2, r1, r2, r3, r4⟩ := op_put (mk := idV) hs1 hkb hi1 hIx hPP q1 q2 q3 q4
          have : k' = k2 := by
            have e3 : Value.int .i64 (k' : Int) = .int .i64 (k2 : Int) := Ending.returned.inj e2
            injection e3 with _ e3; omega
          subst this
          rw [foldE_snoc hy]
          exact ⟨ns2, r1, hp1.trans r2, r3, hd1.trans r4⟩
      have hkI : (m : Int) < (l.length : Int) := by omega
      have hk0 : (0 : Int) ≤ (m : Int) := by omega
      have HLT := Lib.hid hlt
      clear hx hy hs1 hp1 hi1 hd1 hIx hPP hkb hlt HF
      dsimp only at HPT
      go_wp2_with fail
      refine HPT.out.mono ?_
      rintro e w3 ⟨k', ns', rfl, q1, q2, q3, q4⟩
      have HFN := Lib.hid (HR.out _ _ _ q1 q2 q3 q4)
      clear q1 q2 q3 q4 HR HPT cx
      go_wp2_with fail
      go_roundw
      case rel => exact ⟨m + 1, k', by have := HLT.out; omega, by go_num, rfl, HFN⟩
      case measure => have := HLT.out; simp [intOf]; omega
    · have hme : m = l.length := by omega
      subst hme
      have HRES : Hid (RetE P B (N + l.length) w g ns idV (foldE kind e0 es) (.returned (.int .i64 (k : Int))) wr) := Lib.hid (by
        obtain ⟨ns1, q1, q2, q3, q4⟩ := HF.out
        rw [List.take_of_length_le (by have := HLE.out; omega)] at q3
        exact ⟨k, ns1, rfl, q1, q2, q3, q4⟩)
      clear hm hge HF
      go_wp2
      go_ret
      exact HRES.out
set_option maxHeartbeats 6400000 in
set_option maxRecDepth 100000 in
theorem addN_put {P : Ex → Prop} {B N : Nat} {w : World} {g : Nat} {ns : List Nd} {v : Value} {i0 : Nat} {l : List Nat} {e0 : Ex} {es : List Ex} (hs : St P B N w g ns) (hl : IntsD g w v (i0 :: l)) (hlen : l.length = es.length) (h0 : 0 < l.length)
    (he0 : Is ns e0 i0) (hes : ∀ (m x : Nat) e, l[m]? = some x → es[m]? = some e → Is ns e x) (hP : ∀ m, m < es.length → P (foldE 1 e0 (es.take (m + 1)))) (hN : N + l.length ≤ 20000) :
    Calls Tryz.prog 39 #[.pointer (some ⟨g, 0, none⟩), v] w (RetE P B (N + l.length) w g ns idV (foldE 1 e0 es)) := by
  have HF := Lib.hid (fold_put hs (Or.inl rfl) hl hlen h0 he0 hes hP hN)
  obtain ⟨b, c, rfl, hc1, hc2, hn, hbl, hcell⟩ := id hl
  simp only [List.length_cons] at *
  have hl1 : (1 : Int) ≤ (l.length : Int) := by omega
  have hl2 : (l.length : Int) ≤ 20000 := by omega
  have hq : ((l.length : Int) + 1 == 0) = false := beq_eq_false_iff_ne.2 (by omega)
  have hq2 : (((l.length + 1 : Nat) : Int) == 0) = false := beq_eq_false_iff_ne.2 (by omega)
  clear hs hl he0 hes hP hlen hn hbl hcell hc1 hc2 h0 hN
  go_enter Tryz.func39, Tryz.ntmps39
  go_wp2_with fail
  refine HF.out.mono ?_
  rintro e w2 ⟨k, ns', rfl, h⟩
  have HR := Lib.hid h
  clear h
  unfold idV
  go_wp2
  go_ret
  exact ⟨k, ns', rfl, HR.out⟩
set_option maxHeartbeats 6400000 in
set_option maxRecDepth 100000 in
theorem mulN_put {P : Ex → Prop} {B N : Nat} {w : World} {g : Nat} {ns : List Nd} {v : Value} {i0 : Nat} {l : List Nat} {e0 : Ex} {es : List Ex} (hs : St P B N w g ns) (hl : IntsD g w v (i0 :: l)) (hlen : l.length = es.length) (h0 : 0 < l.length)
    (he0 : Is ns e0 i0) (hes : ∀ (m x : Nat) e, l[m]? = some x → es[m]? = some e → Is ns e x) (hP : ∀ m, m < es.length → P (foldE 3 e0 (es.take (m + 1)))) (hN : N + l.length ≤ 20000) :
    Calls Tryz.prog 38 #[.pointer (some ⟨g, 0, none⟩), v] w (RetE P B (N + l.length) w g ns idV (foldE 3 e0 es)) := by
  have HF := Lib.hid (fold_put hs (Or.inr rfl) hl hlen h0 he0 hes hP hN)
  obtain ⟨b, c, rfl, hc1, hc2, hn, hbl, hcell⟩ := id hl
  simp only [List.length_cons] at *
  have hl1 : (1 : Int) ≤ (l.length : Int) := by omega
  have hl2 : (l.length : Int) ≤ 20000 := by omega
  have hq : ((l.length : Int) + 1 == 0) = false := beq_eq_false_iff_ne.2 (by omega)
  have hq2 : (((l.length + 1 : Nat) : Int) == 0) = false := beq_eq_false_iff_ne.2 (by omega)
  clear hs hl he0 hes hP hlen hn hbl hcell hc1 hc2 h0 hN
  go_enter Tryz.func38, Tryz.ntmps38
  go_wp2_with fail
  refine HF.out.mono ?_
  rintro e w2 ⟨k, ns', rfl, h⟩
  have HR := Lib.hid h
  clear h
  unfold idV
  go_wp2
  go_ret
  exact ⟨k, ns', rfl, HR.out⟩
end Go.Proofs.YtgodkfgnhpnhcaaGreatDoor
namespace Go.Proofs.YtgodkfgnhpnhcaaGreatDoor
open Go.RowKit Go.Maps
def opsOf (ns : List Nd) (x : Nat) : List Int := match ns[x]? with | some n => opsN n | none => []
/-- how often i is an operand of the numbers xs -/
def cntL (ns : List Nd) (xs : List Nat) (i : Nat) : Nat := (xs.flatMap (opsOf ns)).count (i : Int)
theorem opsOf_eq {ns : List Nd} {x : Nat} {n : Nd} (h : ns[x]? = some n) : opsOf ns x = opsN n := by unfold opsOf; rw [h]
theorem cntL_app (ns : List Nd) (xs ys : List Nat) (i : Nat) : cntL ns (xs ++ ys) i = cntL ns xs i + cntL ns ys i := by
  unfold cntL; rw [List.flatMap_append, List.count_append]
theorem cntL_one (ns : List Nd) (x i : Nat) : cntL ns [x] i = (opsOf ns x).count (i : Int) := by unfold cntL; simp
theorem cntL_zero {ns : List Nd} (ok : OkNs ns) {xs : List Nat} {i : Nat} (h : ∀ x ∈ xs, x ≤ i) : cntL ns xs i = 0 := by
  unfold cntL
  rw [List.count_eq_zero]
  intro hm
  obtain ⟨x, hx, ho⟩ := List.mem_flatMap.1 hm
  unfold opsOf at ho
  cases hn : ns[x]? with
  | none => rw [hn] at ho; cases ho
  | some n =>
    rw [hn] at ho
    have := ((ok x n hn).2 _ ho).2
    have := h x hx; omega
theorem cntL_le (ns : List Nd) (xs : List Nat) (i : Nat) : cntL ns xs i ≤ 2 * xs.length := by
  unfold cntL
  refine Nat.le_trans List.count_le_length ?_
  induction xs with
  | nil => simp
  | cons x xs ih =>
    have : (opsOf ns x).length ≤ 2 := by
      unfold opsOf; split
      · exact ops_len _
      · simp
    simp at ih ⊢; omega
theorem take_lt {l : List Nat} {k x : Nat} (hs : l.Pairwise (· < ·)) (hx : l[k]? = some x) : (∀ y ∈ l.take k, y < x) ∧ x ∉ l.take k := by
  have h1 : ∀ y ∈ l.take k, y < x := fun y hy => by
    obtain ⟨j, hj⟩ := List.getElem?_of_mem hy
    have hjl := (List.getElem?_eq_some_iff.1 hj).1
    have hjk : j < k := by rw [List.length_take] at hjl; omega
    rw [List.getElem?_take_of_lt hjk] at hj
    obtain ⟨j1, j2⟩ := List.getElem?_eq_some_iff.1 hj
    obtain ⟨k1, k2⟩ := List.getElem?_eq_some_iff.1 hx
    have := (List.pairwise_iff_getElem.1 hs) j k j1 k1 hjk; omega
  exact ⟨h1, fun h => by have := h1 x h; omega⟩
/-- the map holds how often each of those that are done is used: by those of cs, and by ex besides -/
def MU (ns : List Nd) (m : Value → Option Value) (done : List Nat) (ex : List Int) (base : List Nat) : Prop :=
  ∀ i : Nat, m (.int .i64 (i : Int)) = if i ∈ done then some (.int .i64 ((cntL ns base i + ex.count (i : Int) : Nat) : Int)) else none
theorem MU.enter {ns : List Nd} (ok : OkNs ns) {m m' : Value → Option Value} {l : List Nat} {k x : Nat} (hs : l.Pairwise (· < ·)) (hx : l[k]? = some x) (h : MU ns m (l.take k) [] (l.take k)) (hu : Upd m (.int .i64 (x : Int)) (some (.int .i64 0)) m') : MU ns m' (l.take (k + 1)) [] (l.take k) := by
  obtain ⟨h1, h2⟩ := take_lt hs hx
  have ht : l.take (k + 1) = l.take k ++ [x] := by rw [List.take_add_one, hx]; rfl
  intro i
  by_cases hi : i = x
  · subst hi
    rw [hu.1, ht, if_pos (by simp), cntL_zero ok (fun y hy => Nat.le_of_lt (h1 y hy))]
    rfl
  · rw [hu.2 _ (fun e => hi (by injection e with _ e; omega)), h i, ht]
    by_cases hm : i ∈ l.take k
    · rw [if_pos hm, if_pos (by simp [hm])]
    · rw [if_neg hm, if_neg (by simp [hm, hi])]
theorem MU.inc {ns : List Nd} {m m' : Value → Option Value} {done base : List Nat} {ex : List Int} {o : Nat} (h : MU ns m done ex base) (ho : o ∈ done) (hu : Upd m (.int .i64 (o : Int)) (some (.int .i64 ((cntL ns base o + ex.count (o : Int) : Nat) + 1 : Int))) m') : MU ns m' done (ex ++ [(o : Int)]) base := by
  intro i
  rw [List.count_append]
  by_cases hi : i = o
  · subst hi
    rw [hu.1, if_pos ho]
    simp; omega
  · rw [hu.2 _ (fun e => hi (by injection e with _ e; omega)), h i]
    have : List.count (i : Int) [(o : Int)] = 0 := by rw [List.count_eq_zero]; simp; omega
    rw [this]; rfl
theorem MU.fold {ns : List Nd} {m : Value → Option Value} {l : List Nat} {k x : Nat} {n : Nd} (hx : l[k]? = some x) (hn : ns[x]? = some n) (h : MU ns m (l.take (k + 1)) (opsN n) (l.take k)) : MU ns m (l.take (k + 1)) [] (l.take (k + 1)) := by
  have ht : l.take (k + 1) = l.take k ++ [x] := by rw [List.take_add_one, hx]; rfl
  intro i
  rw [h i]
  conv => rhs; rw [ht, cntL_app, cntL_one, opsOf_eq hn]
  rw [ht]; simp
end Go.Proofs.YtgodkfgnhpnhcaaGreatDoor
namespace Go.Proofs.YtgodkfgnhpnhcaaGreatDoor
open Go.RowKit Go.Maps
theorem list_len {ns : List Nd} {root : Nat} {l : List Nat} (h : IsB ns root l) (hn : ns.length ≤ 20000) : l.length ≤ 20000 :=
  Nat.le_trans (nodup_len ns.length l (h.srt.imp fun {a b} h => by omega) h.lt) hn
theorem ops_range {ns : List Nd} (ok : OkNs ns) (hlf : LeafOk ns) (hn : ns.length ≤ 20000) {x : Nat} {n : Nd} (hx : ns[x]? = some n) {o : Int} (ho : o ∈ opsN n) : 0 ≤ o ∧ o < x := (ok x n hx).2 o ho
theorem heap_keepFr {w w' : World} {B b : Nat} {o : Obj} (h : w.heap[b]? = some o) (hf : Fr (fun i => i = B) w w') (hb : B < b) : w'.heap[b]? = some o :=
  (hf.block b (heap_lt h) (by omega)).trans h
def RetUses (w : World) (ns : List Nd) (root : Nat) (e : Ending) (w' : World) : Prop :=
  Below w.heap.size w w' ∧ ∃ mb m l, e = .returned (.map (some mb)) ∧ w.heap.size ≤ mb ∧ MapP Tryz.prog 3 w' mb m ∧ IsB ns root l ∧ MU ns m l [] l
set_option maxHeartbeats 12800000 in
set_option maxRecDepth 100000 in
theorem uses_any {w : World} {g root : Nat} {ns : List Nd} (hd : DagP w g ns) (ok : OkNs ns) (hr : root < ns.length) :
    Calls Tryz.prog 173 #[.pointer (some ⟨g, 0, none⟩), .int .i64 (root : Int)] w (RetUses w ns root) := by
  obtain ⟨w1, hw1, hb1, hs1, b1⟩ := pro1 w (.map #[] 0)
  obtain ⟨w2, hw2, hb2, hs2, b2⟩ := pro1 w1 (.cells #[.int .i64 (root : Int)] 3)
  have HDW := Lib.hid hd
  have HD2 := Lib.hid ((hd.below hb1).below hb2)
  have HBE := Lib.hid (below_any HD2.out ok hr b2)
  rw [hs1] at HBE
  have HM2 := Lib.hid (MapP.made (P := Tryz.prog) (k := 3) (es := #[]) (heap_below b1 hb2 (heap_lt b1)))
  have HB2 := Lib.hid (below_up hb1 hb2)
  have HSZ2 : Hid (w2.heap.size = w.heap.size + 2) := Lib.hid (by rw [hs2, hs1])
  have HOK := Lib.hid ok; have HLN := Lib.hid hd.len
  clear hd ok hr hb1 hb2 b1 b2 hs2
  have hmm := @run_makeMap Tryz.prog
  go_enter Tryz.func173, Tryz.ntmps173
  go_wp2_with fail
  refine HBE.out.mono ?_
  rintro e w3 ⟨hb3, v3, l, rfl, hl, hI⟩
  obtain ⟨bl, cl, rfl, hlc, hcm, -⟩ := id hl
  have HL := Lib.hid hl; have HI := Lib.hid hI
  have HB3 := Lib.hid (HB2.out.trans (hb3.mono HB2.out.size))
  have HM3 := Lib.hid (HM2.out.below hb3 HM2.out.lt)
  have HLL := Lib.hid (list_len hI HLN.out)
  clear hb3 hl hI HBE hcm hlc hw1 hw2
  go_wp2_with fail
  go_loopw [22] (fun i wr => ∃ k : Nat, k ≤ l.length ∧ i = .int .i64 (k : Int) ∧ Hid (Fr (fun b => b = w.heap.size) w3 wr) ∧ ∃ m, Hid (MapP Tryz.prog 3 wr w.heap.size m) ∧ Hid (MU ns m (l.take k) [] (l.take k))) (fun i _ => ((l.length : Int) - intOf i).toNat)
  case atStart => exact ⟨0, Nat.zero_le _, rfl, Lib.hid (Fr.of_below (Below.refl _ _)), _, HM3, Lib.hid (fun i => by simp)⟩
  case round =>
    obtain ⟨k, hk, rfl, HF, m, HM, HMU⟩ := hrel
    rcases Nat.lt_or_ge k l.length with hlt | hge
    · obtain ⟨x, hx⟩ : ∃ x, l[k]? = some x := ⟨_, List.getElem?_eq_getElem hlt⟩
      have hxl : x < ns.length := HI.out.lt x (List.mem_of_getElem? hx)
      obtain ⟨n, hn⟩ : ∃ n, ns[x]? = some n := ⟨_, List.getElem?_eq_getElem hxl⟩
      have HBR : Hid (Below w.heap.size w wr) := Lib.hid (HB3.out.trans (HF.out.below HB3.out.size (fun b hb => by omega)))
      have cx := (HL.out.fr HF.out (fun b hb => by have := HSZ2.out; omega)).cell hx
      have hkI : (k : Int) < (l.length : Int) := by omega
      have hk0 : (0 : Int) ≤ (k : Int) := by omega
      have hlI : (l.length : Int) ≤ 20000 := by have := HLL.out; omega
      have HX := Lib.hid hx; have HNN := Lib.hid hn; have HXL := Lib.hid hxl; have HKL := Lib.hid hlt
      have HKX := Lib.hid (key_nat (i := x) (by have := HLN.out; omega))
      obtain ⟨m1, hu⟩ := upd_ex m (.int .i64 (x : Int)) (some (.int .i64 0))
      have HU := Lib.hid hu
      have HMU1 := Lib.hid (HMU.out.enter HOK.out HI.out.srt hx hu)
      have HGL : Hid (w.heap.size < wr.heap.size) := Lib.hid (by have := HF.out.size; have := HM3.out.lt; omega)
      clear hx hn hxl hlt hu
      go_wp2_with (first
        | (at_mapUpdate
           refine wpList_put _ rfl _ _ _ _ rfl _ _ keyed_int und_mapii _ m m1 rfl HM.out (.int .i64 (x : Int)) (.int .i64 0) _ rfl rfl HKX.out HU.out ?_
           intro w4 HM4 hgr hsz
           have HF4 := Lib.hid (HF.out.trans (Fr.of_grown hgr (fun i e => (Option.some.inj e).symm)))
           have HB4 := Lib.hid (HB3.out.trans (HF4.out.below HB3.out.size (fun b hb => by omega)))
           have HN := Lib.hid (node_open (HDW.out.below HB4.out) HNN.out)
           clear hgr hsz cx))
      refine HN.out.mono ?_
      rintro e w5 ⟨rfl, hb5⟩
      have hst := store_float
      obtain ⟨w6, hw6, z0, z1, z2, z3, y0, y1, y2, y3, w7, hw7, hb7, hs7⟩ := new4 w5 122 (.int .i64 0) (.float .f64 0) (.int .i64 0) (.int .i64 0) (.int .i64 n.kind) (.float .f64 n.val) (.int .i64 n.a) (.int .i64 n.b)
      obtain ⟨x0, x1, x2, x3⟩ := cells4 hs7
      have HB47 := Lib.hid (below_up hb5 hb7)
      have HPA : Hid (Calls Tryz.prog 131 #[.agg #[.int .i64 n.kind, .float .f64 n.val, .int .i64 n.a, .int .i64 n.b]] w7 (fun e w' => e = .returned (.tuple #[.agg #[.int .i64 (ops2 n).1, .int .i64 (ops2 n).2], .int .i64 ((opsN n).length : Nat)]) ∧ Below w7.heap.size w7 w')) := Lib.hid (parts_any (n := n))
      clear hb5 hb7 hs7
      go_wp2_with fail
      refine HPA.out.mono ?_
      rintro e w10 ⟨rfl, hb10⟩
      obtain ⟨w11, hw11, p0, p1, r0, r1, w12, hw12, hb12, hs12⟩ := new2 w10 22 (.int .i64 0) (.int .i64 0) (.int .i64 (ops2 n).1) (.int .i64 (ops2 n).2)
      have HB12 := Lib.hid (below_up (below_up HB47.out hb10) hb12)
      have HS12 := Lib.hid hs12
      have HM12 := Lib.hid (HM4.out.below HB12.out HM4.out.lt)
      have HF12 := Lib.hid (HF4.out.trans (Fr.of_below HB12.out))
      have hcnt : (0 : Int) ≤ ((opsN n).length : Int) := by omega
      have hcnt2 : ((opsN n).length : Int) ≤ 2 := by have := ops_len n; omega
      have HW10 : Hid (w.heap.size < w10.heap.size) := Lib.hid (by have := HB47.out.size; have := hb10.size; have := HF4.out.size; have := HM3.out.lt; omega)
      clear hb10 hb12 hs12 z0 z1 z2 z3 y0 y1 y2 y3 hw6 hw7 x0 x1 x2 x3
      go_wp2_with fail
      go_loopw [42] (fun j wr => ∃ jn : Nat, jn ≤ (opsN n).length ∧ j = .int .i64 (jn : Int) ∧ Hid (Fr (fun b => b = w.heap.size) w12 wr) ∧ ∃ m, Hid (MapP Tryz.prog 3 wr w.heap.size m) ∧ Hid (MU ns m (l.take (k + 1)) ((opsN n).take jn) (l.take k))) (fun j _ => (((opsN n).length : Int) - intOf j).toNat)
      case atStart => exact ⟨0, Nat.zero_le _, rfl, Lib.hid (Fr.of_below (Below.refl _ _)), m1, HM12, HMU1⟩
      case round =>
        obtain ⟨jn, hjn, rfl, HFj, mj, HMj, HMUj⟩ := hrel
        rcases Nat.lt_or_ge jn (opsN n).length with hlt | hge
        · obtain ⟨o, ho⟩ : ∃ o, (opsN n)[jn]? = some o := ⟨_, List.getElem?_eq_getElem hlt⟩
          have hop := (HOK.out x n HNN.out).2 o (List.mem_of_getElem? ho)
          obtain ⟨y, hy, e9⟩ := HI.out.cl x (List.mem_of_getElem? HX.out) n HNN.out o (List.mem_of_getElem? ho)
          have hyt : y ∈ l.take k := sorted_take HI.out.srt HX.out hy (by omega)
          have hyt1 : y ∈ l.take (k + 1) := by rw [List.take_add_one]; exact List.mem_append.2 (Or.inl hyt)
          have co := ops_cell (heap_keepFr HS12.out HFj.out HW10.out) ho
          rw [← e9] at co
          have hmy := HMUj.out y
          rw [if_pos hyt1] at hmy
          obtain ⟨c, hc⟩ : ∃ c, c = cntL ns (l.take k) y + ((opsN n).take jn).count (y : Int) := ⟨_, rfl⟩
          rw [← hc] at hmy
          have hmv : (mj (.int .i64 (y : Int))).getD (.int .i64 0) = .int .i64 (c : Int) := by rw [hmy]; rfl
          have hcle : c ≤ 100000 := by
            have h1 := cntL_le ns (l.take k) y
            have h2 : ((opsN n).take jn).count (y : Int) ≤ 2 := Nat.le_trans List.count_le_length (by rw [List.length_take]; have := ops_len n; omega)
            rw [List.length_take] at h1
            have := HLL.out; omega
          obtain ⟨mj2, hu⟩ := upd_ex mj (.int .i64 (y : Int)) (some (.int .i64 ((c : Int) + 1)))
          have hu' := hu
          rw [hc] at hu'
          have HMU2 := Lib.hid (HMUj.out.inc hyt1 hu')
          have HU2 := Lib.hid hu
          have HKY := Lib.hid (key_nat (i := y) (by have := HI.out.lt y hy; have := HLN.out; omega))
          have hcI : (0 : Int) ≤ (c : Int) ∧ (c : Int) ≤ 100000 := by omega
          have hjI : (jn : Int) < ((opsN n).length : Int) := by omega
          have hj0 : (0 : Int) ≤ (jn : Int) := by omega
          have hE : (opsN n).take (jn + 1) = (opsN n).take jn ++ [(y : Int)] := by rw [List.take_add_one, ho, e9]; rfl
          have HE := Lib.hid hE; have HMV := Lib.hid hmv; have HJ := Lib.hid hlt
          clear hop hy hyt hyt1 e9 hmy hc hmv hcle hu hu' ho hE hlt
          go_wp2_with (first
            | (at_lookup
               refine wpList_look1 _ rfl _ _ _ rfl _ _ keyed_int und_mapii (zero_int _) _ mj rfl HMj.out (.int .i64 (y : Int)) _ rfl HKY.out (.int .i64 (c : Int)) HMV.out ?_)
            | (at_mapUpdate
               refine wpList_put _ rfl _ _ _ _ rfl _ _ keyed_int und_mapii _ mj mj2 rfl HMj.out (.int .i64 (y : Int)) (.int .i64 ((c : Int) + 1)) _ rfl rfl HKY.out HU2.out ?_
               intro w14 HM14 hgr hsz
               have HF14 := Lib.hid (HFj.out.trans (Fr.of_grown hgr (fun i e => (Option.some.inj e).symm)))
               clear hgr hsz))
          go_roundw
          case rel => exact ⟨jn + 1, by have := HJ.out; omega, by go_num, HF14, mj2, HM14, by rw [HE.out]; exact HMU2⟩
          case measure => have := HJ.out; simp [intOf]; omega
        · have hje : jn = (opsN n).length := by omega
          subst hje
          rw [List.take_length] at HMUj
          have HMU3 := Lib.hid (HMUj.out.fold HX.out HNN.out)
          have HFF := Lib.hid (HF12.out.trans HFj.out)
          clear hge hjn
          go_wp2
          go_roundw
          case rel => exact ⟨k + 1, by have := HKL.out; omega, by go_num, HFF, mj, HMj, HMU3⟩
          case measure => have := HKL.out; simp [intOf]; omega
    · have hke : k = l.length := by omega
      subst hke
      rw [List.take_length] at HMU
      have HRES : Hid (RetUses w ns root (.returned (.map (some w.heap.size))) wr) := Lib.hid ⟨HB3.out.trans (HF.out.below HB3.out.size (fun b hb => by omega)), _, m, l, rfl, Nat.le_refl _, HM.out, HI.out, HMU.out⟩
      clear hk hge
      go_wp2
      go_ret
      exact HRES.out
end Go.Proofs.YtgodkfgnhpnhcaaGreatDoor
namespace Go.Proofs.YtgodkfgnhpnhcaaGreatDoor
open Go.RowKit Go.Maps
theorem IntP.fr {p S : Nat → Prop} {w w' : World} {v : Value} {z : Int} (h : IntP p w v z) (hf : Fr S w w') (hn : ∀ b, p b → ¬ S b) : IntP p w' v z := by
  obtain ⟨vm, xs, h1, h2, h3, h4⟩ := h
  exact ⟨vm, xs, h1, h2.keep hf.size (fun b hp hlt => hf.block b hlt (hn b hp)), h3, h4⟩
theorem BalP.fr {p S : Nat → Prop} {w w' : World} {v : Value} {d : Dy} (h : BalP p w v d) (hf : Fr S w w') (hn : ∀ b, p b → ¬ S b) : BalP p w' v d := by
  obtain ⟨b, A, n, c, b', A', n', c', e, h1, h2⟩ := h; exact ⟨b, A, n, c, b', A', n', c', e, h1.fr hf hn, h2.fr hf hn⟩
set_option maxHeartbeats 1600000 in
theorem fits_any {p : Nat → Prop} {v : Value} {V : Int} {w : World} (hx : DyP p w v (dv V)) (hs : SmV V) : Calls Tryz.prog 175 #[v] w (RetW w true) := by
  obtain ⟨b, A, n, c, rfl, h⟩ := hx
  obtain ⟨w1, hw1, hb1, hs1, b1⟩ := pro1 w (.cells #[Value.bool b, .slice A n c, .int .i64 (dv V).exp] 172)
  have HB := Lib.hid hb1
  obtain ⟨c0, c1, c2, -, -, -⟩ := cells3 b1
  have D1 : Hid (DyP p w1 (.agg #[.bool b, .slice A n c, .int .i64 (dv V).exp]) (dv V)) := Lib.hid ⟨_, _, _, _, rfl, h.below hb1⟩
  have HTB : Hid (-3000000 ≤ topD (dv V) ∧ topD (dv V) ≤ 3000000) := Lib.hid (by
    obtain ⟨s1, s2, s3⟩ := hs
    unfold topD; split
    · omega
    · omega)
  have HSM := Lib.hid hs
  clear h hb1 b1 hs1 hs
  go_enter Tryz.func175, Tryz.ntmps175
  go_wp2_with fail
  refine (signD_any D1.out).mono ?_
  rintro r w3 ⟨rfl, hb⟩
  replace c0 := cell_below c0 hb (Nat.le_refl _)
  replace c1 := cell_below c1 hb (Nat.le_refl _)
  replace c2 := cell_below c2 hb (Nat.le_refl _)
  replace D1 := Lib.hid (D1.out.below hb); replace HB := Lib.hid (HB.out.trans (hb.mono HB.out.size))
  clear hb hw1
  by_cases hz : (dv V).man = 0
  · have hs : ((dv V).man.sign == 0) = true := by rw [hz]; rfl
    have HF : Hid (RetW w true (.returned (.bool true)) w3) := Lib.hid ⟨rfl, HB.out⟩
    clear hz
    go_wp2
    go_ret
    exact HF.out
  · have hs : ((dv V).man.sign == 0) = false := beq_eq_false_iff_ne.2 (fun h => hz (Int.sign_eq_zero_iff_zero.1 h))
    clear hz
    go_wp2_with fail
    refine (topD_any D1.out (by have := HSM.out.2; omega)).mono ?_
    rintro r w4 ⟨rfl, hb⟩
    have h1 : (-4194304 : Int) ≤ topD (dv V) := by have := HTB.out; omega
    have h2 : topD (dv V) ≤ (4194304 : Int) := by have := HTB.out; omega
    have HF : Hid (RetW w true (.returned (.bool true)) w4) := Lib.hid ⟨rfl, HB.out.trans (hb.mono HB.out.size)⟩
    generalize topD (dv V) = T at *
    clear hb
    go_wp2
    go_ret
    exact HF.out
theorem und_balls : Tryz.prog.underlying 155 = some (.map 3 174) := by kernel_rfl
theorem zero_ball (w : World) : (zeroValue 174).run Tryz.prog w = .ok (.agg #[.bool false, .slice none 0 0, .int .i64 0, .bool false, .slice none 0 0, .int .i64 0]) w := by kernel_rfl
def DropPost (w : World) (bL bB : Nat) (mL mB : Value → Option Value) (o c : Nat) (e : Ending) (w' : World) : Prop :=
  e = .returned (.tuple #[]) ∧ Fr (fun b => b = bL ∨ b = bB) w w' ∧ ∃ mL' mB', MapP Tryz.prog 3 w' bL mL' ∧ MapP Tryz.prog 3 w' bB mB' ∧ Upd mL (.int .i64 (o : Int)) (some (.int .i64 (c : Int))) mL' ∧ (if c = 0 then Upd mB (.int .i64 (o : Int)) none mB' else mB' = mB)
set_option maxHeartbeats 1600000 in
theorem drop_any {w : World} {bL bB o c : Nat} {mL mB : Value → Option Value} (hL : MapP Tryz.prog 3 w bL mL) (hB : MapP Tryz.prog 3 w bB mB) (hne : bL ≠ bB) (hc : mL (.int .i64 (o : Int)) = some (.int .i64 ((c : Int) + 1))) (ho : o ≤ 1000000) (hcl : c ≤ 1000000) :
    Calls Tryz.prog 176 #[.map (some bB), .map (some bL), .int .i64 (o : Int)] w (DropPost w bL bB mL mB o c) := by
  obtain ⟨mL', hu⟩ := upd_ex mL (.int .i64 (o : Int)) (some (.int .i64 (c : Int)))
  obtain ⟨mB', hv⟩ := upd_ex mB (.int .i64 (o : Int)) none
  have HL := Lib.hid hL; have HBB := Lib.hid hB; have HU := Lib.hid hu; have HV := Lib.hid hv; have HNE := Lib.hid hne
  have HK := Lib.hid (key_nat ho)
  have HG : Hid ((mL (.int .i64 (o : Int))).getD (.int .i64 0) = .int .i64 ((c : Int) + 1)) := Lib.hid (by rw [hc]; rfl)
  have HG2 : Hid ((mL' (.int .i64 (o : Int))).getD (.int .i64 0) = .int .i64 (c : Int)) := Lib.hid (by rw [hu.1]; rfl)
  have hcI : (0 : Int) ≤ (c : Int) ∧ (c : Int) ≤ 1000000 := by omega
  have hsub : (c : Int) + 1 - 1 = (c : Int) := by omega
  clear hL hB hu hv hne hc ho hcl
  by_cases h0 : c = 0
  · subst h0
    have M1 : True := trivial
    go_enter Tryz.func176, Tryz.ntmps176
    go_wp2_with (first
      | (at_lookup
         clear M1
         refine wpList_look1 _ rfl _ _ _ rfl _ _ keyed_int und_mapii (zero_int _) _ mL rfl HL.out (.int .i64 (o : Int)) _ rfl HK.out (.int .i64 (((0 : Nat) : Int) + 1)) HG.out ?_)
      | (at_mapUpdate
         refine wpList_put _ rfl _ _ _ _ rfl _ _ keyed_int und_mapii _ mL mL' rfl HL.out (.int .i64 (o : Int)) (.int .i64 ((0 : Nat) : Int)) _ rfl rfl HK.out HU.out ?_
         intro w1 HM1 hgr hsz
         have HB1 := Lib.hid (HBB.out.keep (hgr.block bB HBB.out.lt (fun e => HNE.out (Option.some.inj e).symm)))
         have HF1 : Hid (Fr (fun b => b = bL ∨ b = bB) w w1) := Lib.hid (Fr.of_grown hgr (fun i e => Or.inl (Option.some.inj e).symm))
         clear hgr hsz)
      | (at_lookup
         refine wpList_look1 _ rfl _ _ _ rfl _ _ keyed_int und_mapii (zero_int _) _ mL' rfl HM1.out (.int .i64 (o : Int)) _ rfl HK.out (.int .i64 ((0 : Nat) : Int)) HG2.out ?_)
      | (at_delete
         refine wpList_drop _ rfl _ _ _ _ rfl _ keyed_int und_balls _ mB mB' rfl HB1.out (.int .i64 (o : Int)) _ rfl HK.out HV.out ?_
         intro w2 HM2 hgr hsz
         have HL2 := Lib.hid (HM1.out.keep (hgr.block bL HM1.out.lt (fun e => HNE.out (Option.some.inj e))))
         have HF2 : Hid (Fr (fun b => b = bL ∨ b = bB) w w2) := Lib.hid (HF1.out.trans (Fr.of_grown hgr (fun i e => Or.inr (Option.some.inj e).symm)))
         clear hgr hsz))
    go_end0
    exact ⟨rfl, HF2.out, mL', mB', HL2.out, HM2.out, HU.out, by rw [if_pos rfl]; exact HV.out⟩
  · have hz : ((c : Int) == 0) = false := beq_eq_false_iff_ne.2 (by omega)
    have H0 := Lib.hid h0
    have M1 : True := trivial
    clear h0
    go_enter Tryz.func176, Tryz.ntmps176
    go_wp2_with (first
      | (at_lookup
         clear M1
         refine wpList_look1 _ rfl _ _ _ rfl _ _ keyed_int und_mapii (zero_int _) _ mL rfl HL.out (.int .i64 (o : Int)) _ rfl HK.out (.int .i64 ((c : Int) + 1)) HG.out ?_)
      | (at_mapUpdate
         refine wpList_put _ rfl _ _ _ _ rfl _ _ keyed_int und_mapii _ mL mL' rfl HL.out (.int .i64 (o : Int)) (.int .i64 (c : Int)) _ rfl rfl HK.out HU.out ?_
         intro w1 HM1 hgr hsz
         have HB1 := Lib.hid (HBB.out.keep (hgr.block bB HBB.out.lt (fun e => HNE.out (Option.some.inj e).symm)))
         have HF1 : Hid (Fr (fun b => b = bL ∨ b = bB) w w1) := Lib.hid (Fr.of_grown hgr (fun i e => Or.inl (Option.some.inj e).symm))
         clear hgr hsz)
      | (at_lookup
         refine wpList_look1 _ rfl _ _ _ rfl _ _ keyed_int und_mapii (zero_int _) _ mL' rfl HM1.out (.int .i64 (o : Int)) _ rfl HK.out (.int .i64 (c : Int)) HG2.out ?_))
    go_end0
    exact ⟨rfl, HF1.out, mL', mB, HM1.out, HB1.out, HU.out, by rw [if_neg H0.out]⟩
end Go.Proofs.YtgodkfgnhpnhcaaGreatDoor
namespace Go.Proofs.YtgodkfgnhpnhcaaGreatDoor
open Go.RowKit Go.Maps
/-- an entry comes back, of some numbers of moderate size -/
def RetEn (w : World) (c : Int) (e : Ending) (w' : World) : Prop := Below w.heap.size w w' ∧ ∃ (u l : Int), e = .returned (.agg #[.int .i64 u, .int .i64 l, .bool true]) ∧ (0 ≤ u ∧ u ≤ c) ∧ (0 ≤ l ∧ l ≤ c)
/-- an exponent of moderate size -/
def SmE (z : Int) : Prop := -1100 ≤ (dv z).exp ∧ (dv z).exp ≤ 1100
/-- an entry; it counts, unless the node is a leaf -/
def EnW (k c : Int) (v : Value) : Prop := ∃ (u l : Int) (t : Bool), v = .agg #[.int .i64 u, .int .i64 l, .bool t] ∧ (0 ≤ u ∧ u ≤ c) ∧ (0 ≤ l ∧ l ≤ c) ∧ (k ≠ 0 → t = true)
theorem reten_store {g : Nat} {w0 w1 : World} {T : TypeId} {a b c : Value} {u l C : Int} (hb : Below w0.heap.size w0 w1) (hg : w0.heap.size ≤ g) (hw : w1.heap[g]? = some (.cells #[a, b, c] T (0, 0))) (hu : 0 ≤ u ∧ u ≤ C) (hl : 0 ≤ l ∧ l ≤ C) :
    Hid (RetEn w0 C (.returned (.agg #[.int .i64 u, .int .i64 l, .bool true])) (((w1.setCell ⟨g, 0, none⟩ (.int .i64 u)).setCell ⟨g, 1, none⟩ (.int .i64 l)).setCell ⟨g, 2, none⟩ (.bool true))) ∧
    (((w1.setCell ⟨g, 0, none⟩ (.int .i64 u)).setCell ⟨g, 1, none⟩ (.int .i64 l)).setCell ⟨g, 2, none⟩ (.bool true)).heap[g]? = some (.cells #[.int .i64 u, .int .i64 l, .bool true] T (0, 0)) :=
  ⟨Lib.hid ⟨((hb.setCell hg _).setCell hg _).setCell hg _, u, l, rfl, hu, hl⟩, set3 hw _ _ _⟩
set_option maxHeartbeats 3200000 in
set_option maxRecDepth 100000 in
theorem leaf_any {b : Nat} {w : World} (hb : b < 18446744073709551616) (hf : fin b) (hs : SmV (fv b)) (he : SmE (fv b)) (hT : Tab w) : Calls Tryz.prog 239 #[.float .f64 b] w (RetEn w 1132) := by
  obtain ⟨w1, hw1, hb1, hs1, b1⟩ := pro1 w (.cells #[.int .i64 0, .int .i64 0, .bool false] 258)
  have HD := Lib.hid (floDyad_any hb hf (hT.below hb1))
  replace HD : Hid (Calls Tryz.prog 210 #[.float .f64 b] w1 (RetDB w1.heap.size w1 (dv (fv b)) true)) := HD
  have HB := Lib.hid hb1; have B1 := Lib.hid b1; have HSM := Lib.hid hs; have HSE := Lib.hid he
  clear hb hf hs he hT hb1 b1
  go_enter Tryz.func239, Tryz.ntmps239
  go_wp2_with fail
  refine HD.out.mono ?_
  rintro e w5 ⟨hb5, v5, rfl, hz⟩
  obtain ⟨b5, A5, n5, c5, rfl, hz⟩ := hz
  have HB5S := Lib.hid hb5.size
  obtain ⟨w6, hw6, hb6, hs6, q1⟩ := pro1 w5 (.cells #[Value.bool false, Value.slice none 0 0, .int .i64 0] 172)
  obtain ⟨e0, e1, e2, e3, e4, e5⟩ := cells3 q1
  have S1 := set3 q1 (.bool b5) (.slice A5 n5 c5) (.int .i64 (dv (fv b)).exp)
  have g1 := hb6.setCell (p := ⟨w5.heap.size, 0, none⟩) (Nat.le_refl _) (.bool b5)
  have g2 := g1.setCell (p := ⟨w5.heap.size, 1, none⟩) (Nat.le_refl _) (.slice A5 n5 c5)
  have g3 := g2.setCell (p := ⟨w5.heap.size, 2, none⟩) (Nat.le_refl _) (.int .i64 (dv (fv b)).exp)
  have F := And.intro S1 g3
  clear S1 g1 g2 g3 hb6 hs6 q1
  generalize hW : ((w6.setCell ⟨w5.heap.size, 0, none⟩ (.bool b5)).setCell ⟨w5.heap.size, 1, none⟩ (.slice A5 n5 c5)).setCell ⟨w5.heap.size, 2, none⟩ (.int .i64 (dv (fv b)).exp) = w7 at F
  obtain ⟨S1, g3⟩ := F
  obtain ⟨x0, x1, x2, -, -, -⟩ := cells3 S1
  have HB7 := Lib.hid (below_up hb5 g3)
  have HI := Lib.hid ((hz.any).below g3)
  have HSG := Lib.hid (signD_any (p := AnyB) (w := w7) ⟨b5, A5, n5, c5, rfl, (hz.any).below g3⟩)
  clear S1 g3 hb5 hz
  go_wp2_with fail
  refine HSG.out.mono ?_
  rintro r w8 ⟨rfl, hb8⟩
  replace x0 := cell_below x0 hb8 (Nat.le_refl _)
  replace x1 := cell_below x1 hb8 (Nat.le_refl _)
  replace x2 := cell_below x2 hb8 (Nat.le_refl _)
  have HB8 := Lib.hid (below_up HB7.out hb8)
  have HI8 := Lib.hid (HI.out.below hb8)
  clear hb8 e0 e1 e2 e3 e4 e5 hw6 hW
  by_cases hz : (dv (fv b)).man = 0
  · have hs0 : ((dv (fv b)).man.sign == 0) = true := by rw [hz]; rfl
    have b8 := heap_below B1.out HB8.out (heap_lt B1.out)
    obtain ⟨e0, e1, e2, e3, e4, e5⟩ := cells3 b8
    obtain ⟨HR, hR⟩ := reten_store (u := 0) (l := 0) (C := 1132) (HB.out.trans (HB8.out.mono HB.out.size)) (Nat.le_refl _) b8 (by omega) (by omega)
    have HFF := Lib.hid hR
    clear hz b8 hR x0 x1 x2
    go_wp2
    obtain ⟨f0, f1, f2, -, -, -⟩ := cells3 HFF.out
    refine bodyPost_ret (v := .agg #[_, _, _]) (by simp [results, Tryz.results239, go_sem, f0, f1, f2]; first | exact ⟨rfl, rfl, rfl⟩ | rfl) rfl ?_
    exact HR.out
  · have hs0 : ((dv (fv b)).man.sign == 0) = false := beq_eq_false_iff_ne.2 (fun h => hz (Int.sign_eq_zero_iff_zero.1 h))
    obtain ⟨xs, hx1, -, hx3, -⟩ := HI8.out.get
    have HBT := Lib.hid (bits_any hx1)
    have HX1 := Lib.hid hx1
    have hbl : bits (val xs) ≤ 32 := by rw [hx3]; exact HSM.out.1
    have hel := HSE.out; unfold SmE at hel
    clear HSE HSM
    generalize (dv (fv b)).exp = E at *
    have hw1 : IntKind.i64.wrap (-E) = -E := wrap_i64 (by omega)
    have hw2 : IntKind.i64.wrap (0 - E) = -E := by rw [wrap_i64 (by omega)]; omega
    have HBLI : Hid ((0 : Int) ≤ (bits (val xs) : Int) ∧ (bits (val xs) : Int) ≤ 32) := Lib.hid (by omega)
    have hw3 : IntKind.i64.wrap ((bits (val xs) : Int) + max E 0) = (bits (val xs) : Int) + max E 0 := wrap_i64 (by omega)
    clear hx1 hx3 hz hbl
    have n1 : w.heap.size ≠ w5.heap.size := by have := heap_lt B1.out; have := HB5S.out; omega
    replace HBT := Lib.hid (bits_any (HX1.out.below ((Below.refl _ _).drew (w := w8))))
    go_wp2_with fail
    have hdr : Below w8.heap.size w8 w8.drew := (Below.refl _ _).drew
    replace x0 := cell_below x0 hdr (Nat.le_refl _)
    replace x1 := cell_below x1 hdr (Nat.le_refl _)
    replace x2 := cell_below x2 hdr (Nat.le_refl _)
    go_region_held3 (fun w' => w'.cell? ⟨w5.heap.size, 0, none⟩ = some (.bool b5) ∧ w'.cell? ⟨w5.heap.size, 1, none⟩ = some (.slice A5 n5 c5) ∧ w'.cell? ⟨w5.heap.size, 2, none⟩ = some (.int .i64 E)) (go_keep)
      (first
      | (go_at_call 178
         refine HBT.out.mono ?_
         rintro r w9 ⟨rfl, k, hk⟩
         have hd : Below w8.heap.size w8 w9 := by rw [hk]; exact (Below.refl _ _).drew.trans (below_drewN w8.drew k)
         have hd2 : Below w8.drew.heap.size w8.drew w9 := by rw [hk]; exact below_drewN w8.drew k
         have x0 := cell_below x0 hd2 (Nat.le_refl _)
         have x1 := cell_below x1 hd2 (Nat.le_refl _)
         have x2 := cell_below x2 hd2 (Nat.le_refl _)
         have HB9 := Lib.hid (below_up HB8.out hd)
         have b8 := heap_below B1.out HB9.out (heap_lt B1.out)
         obtain ⟨e0, e1, e2, e3, e4, e5⟩ := cells3 b8
         have HB8N := Lib.hid b8
         clear hd hd2 hk b8))
    all_goals
      obtain ⟨HR, hR⟩ := reten_store (u := (bits (val xs) : Int) + max E 0) (l := max (-E) 0) (C := 1132) (HB.out.trans (HB9.out.mono HB.out.size)) (Nat.le_refl _) HB8N.out (by have := HBLI.out; omega) (by omega)
      have HFF := Lib.hid hR
      clear hR
      go_wp2
      obtain ⟨f0, f1, f2, -, -, -⟩ := cells3 HFF.out
      refine bodyPost_ret (v := .agg #[_, _, _]) (by simp [results, Tryz.results239, go_sem, f0, f1, f2]; first | exact ⟨rfl, rfl, rfl⟩ | rfl) rfl ?_
      exact HR.out
set_option maxHeartbeats 3200000 in
set_option maxRecDepth 100000 in
theorem bcombine_any {n : Nd} {va vb : Value} {w : World} {ca cb c : Int} (hk : n.kind = 0 ∨ n.kind = 1 ∨ n.kind = 2 ∨ n.kind = 3) (hlf : n.kind = 0 → n.val < 18446744073709551616 ∧ fin n.val ∧ SmV (fv n.val) ∧ SmE (fv n.val) ∧ c = 1132) (ha : EnW n.kind ca va) (hb : EnW n.kind cb vb)
    (hc : n.kind ≠ 0 → c = 1 + ca + cb) (hca : ca ≤ 1000000) (hcb : cb ≤ 1000000) (hT : Tab w) :
    Calls Tryz.prog 209 #[nodeV n, va, vb] w (RetEn w c) := by
  obtain ⟨kind, val, na, nb⟩ := n
  simp only at hk hlf hc ha hb
  unfold nodeV
  obtain ⟨u, l, t, rfl, hu, hl, ht⟩ := ha
  obtain ⟨u', l', t', rfl, hu', hl', ht'⟩ := hb
  obtain ⟨w4, hw4, hb4, hs4, b1, b2, b3, b4⟩ := pro4 w (.cells #[.int .i64 kind, .float .f64 val, .int .i64 na, .int .i64 nb] 122) (.cells #[.int .i64 u, .int .i64 l, .bool t] 258) (.cells #[.int .i64 u', .int .i64 l', .bool t'] 258) (.cells #[.int .i64 0, .int .i64 0, .bool false] 258)
  obtain ⟨k0, k1, k2, k3⟩ := cells4 b1
  obtain ⟨c0, c1, c2, -, -, -⟩ := cells3 b2
  obtain ⟨d0, d1, d2, -, -, -⟩ := cells3 b3
  obtain ⟨e0, e1, e2, e3, e4, e5⟩ := cells3 b4
  have HB := Lib.hid hb4; have B4 := Lib.hid b4; have HT := Lib.hid (hT.below hb4)
  have HST : Hid (∀ (w5 : World), Below w4.heap.size w4 w5 → ∀ (u l : Int), (0 ≤ u ∧ u ≤ c) → (0 ≤ l ∧ l ≤ c) →
      RetEn w c (.returned (.agg #[.int .i64 u, .int .i64 l, .bool true])) (((w5.setCell ⟨w.heap.size + 3, 0, none⟩ (.int .i64 u)).setCell ⟨w.heap.size + 3, 1, none⟩ (.int .i64 l)).setCell ⟨w.heap.size + 3, 2, none⟩ (.bool true)) ∧
      (((w5.setCell ⟨w.heap.size + 3, 0, none⟩ (.int .i64 u)).setCell ⟨w.heap.size + 3, 1, none⟩ (.int .i64 l)).setCell ⟨w.heap.size + 3, 2, none⟩ (.bool true)).heap[w.heap.size + 3]? = some (.cells #[.int .i64 u, .int .i64 l, .bool true] 258 (0, 0))) := Lib.hid (by
    intro w5 h5 u l hu hl
    obtain ⟨r1, r2⟩ := reten_store (u := u) (l := l) (C := c) (HB.out.trans (h5.mono HB.out.size)) (by omega) (heap_below B4.out h5 (heap_lt B4.out)) hu hl
    exact ⟨r1.out, r2⟩)
  rcases hk with rfl | rfl | rfl | rfl
  · obtain ⟨q1, q2, q3, q4, rfl⟩ := hlf rfl
    have HL := Lib.hid (leaf_any q1 q2 q3 q4 HT.out)
    clear hb4 b1 b2 b3 b4 hs4 hT hlf q1 q2 q3 q4 ht ht' hc
    cases t
    all_goals
      go_enter Tryz.func209, Tryz.ntmps209
      go_wp2_with fail
      refine HL.out.mono ?_
      rintro r w5 ⟨hb5, u5, l5, rfl, h1, h2⟩
      obtain ⟨hR, hF⟩ := HST.out w5 hb5 u5 l5 h1 h2
      have HR := Lib.hid hR; have HFF := Lib.hid hF
      obtain ⟨e0, e1, e2, e3, e4, e5⟩ := cells3 (heap_below B4.out hb5 (heap_lt B4.out))
      clear hb5 hR hF h1 h2 c0 c1 c2 d0 d1 d2 k0 k1 k2 k3 hw4
      go_wp2
      obtain ⟨f0, f1, f2, -, -, -⟩ := cells3 HFF.out
      refine bodyPost_ret (v := .agg #[_, _, _]) (by simp [results, Tryz.results209, go_sem, f0, f1, f2]; first | exact ⟨rfl, rfl, rfl⟩ | rfl) rfl ?_
      exact HR.out
  · clear hb4 b1 b2 b3 b4 hs4 hT hlf
    replace hc := hc (by decide)
    obtain rfl := ht (by decide); obtain rfl := ht' (by decide)
    obtain ⟨hR, hF⟩ := HST.out w4 (Below.refl _ _) (1 + max (u + l') (l + u')) (l + l') (by omega) (by omega)
    have HR := Lib.hid hR; have HFF := Lib.hid hF
    clear hR hF hc
    go_enter Tryz.func209, Tryz.ntmps209
    go_wp2
    obtain ⟨f0, f1, f2, -, -, -⟩ := cells3 HFF.out
    refine bodyPost_ret (v := .agg #[_, _, _]) (by simp [results, Tryz.results209, go_sem, f0, f1, f2]; first | exact ⟨rfl, rfl, rfl⟩ | rfl) rfl ?_
    exact HR.out
  · clear hb4 b1 b2 b3 b4 hs4 hT hlf
    replace hc := hc (by decide)
    obtain rfl := ht (by decide); obtain rfl := ht' (by decide)
    obtain ⟨hR, hF⟩ := HST.out w4 (Below.refl _ _) (1 + max (u + l') (l + u')) (l + l') (by omega) (by omega)
    have HR := Lib.hid hR; have HFF := Lib.hid hF
    clear hR hF hc
    go_enter Tryz.func209, Tryz.ntmps209
    go_wp2
    obtain ⟨f0, f1, f2, -, -, -⟩ := cells3 HFF.out
    refine bodyPost_ret (v := .agg #[_, _, _]) (by simp [results, Tryz.results209, go_sem, f0, f1, f2]; first | exact ⟨rfl, rfl, rfl⟩ | rfl) rfl ?_
    exact HR.out
  · clear hb4 b1 b2 b3 b4 hs4 hT hlf
    replace hc := hc (by decide)
    obtain rfl := ht (by decide); obtain rfl := ht' (by decide)
    obtain ⟨hR, hF⟩ := HST.out w4 (Below.refl _ _) (u + u') (l + l') (by omega) (by omega)
    have HR := Lib.hid hR; have HFF := Lib.hid hF
    clear hR hF hc
    go_enter Tryz.func209, Tryz.ntmps209
    go_wp2
    obtain ⟨f0, f1, f2, -, -, -⟩ := cells3 HFF.out
    refine bodyPost_ret (v := .agg #[_, _, _]) (by simp [results, Tryz.results209, go_sem, f0, f1, f2]; first | exact ⟨rfl, rfl, rfl⟩ | rfl) rfl ?_
    exact HR.out
end Go.Proofs.YtgodkfgnhpnhcaaGreatDoor
