/- A part of the proof: contracts of functions and plain laws (SpB, SdA). -/
import Derived.Test.YtgodkfgnhpnhcaaGreatDoorJ19
import Derived.Deep.DeepCutAuto
set_option linter.unusedVariables false
set_option linter.unusedSimpArgs false
/- spot.Turn. Printed by gen_spb.py. -/
namespace Go.Proofs.YtgodkfgnhpnhcaaGreatDoor
open Go.RowKit Go.Maps
def turnL (ax ay bx ey cx cy : Ex) : Ex := .mul (.sub bx ax) (.sub cy ay)
def turnR (ax ay bx ey cx cy : Ex) : Ex := .mul (.sub ey ay) (.sub cx ax)
/-- which way three points turn -/
def turnE (ax ay bx ey cx cy : Ex) : Ex := .sub (turnL ax ay bx ey cx cy) (turnR ax ay bx ey cx cy)
/-- all parts of it may be put, and its sign is s -/
def TurnOk (P : Ex → Prop) (ax ay bx ey cx cy : Ex) (s : Int) : Prop :=
  (P (.sub bx ax) ∧ P (.sub cy ay) ∧ P (turnL ax ay bx ey cx cy)) ∧ (P (.sub ey ay) ∧ P (.sub cx ax) ∧ P (turnR ax ay bx ey cx cy)) ∧ P (turnE ax ay bx ey cx cy) ∧ SgnOk P (turnE ax ay bx ey cx cy) s
set_option maxHeartbeats 12800000 in
set_option maxRecDepth 100000 in
theorem turn_spot {P : Ex → Prop} {B N : Nat} {w : World} {g ax ay bx ey cx cy : Nat} {ns : List Nd} {AX AY BX EY CX CY : Ex} {s : Int} (hs : St P B N w g ns) (hN : N + 7 ≤ 20000) (hax : Is ns AX ax) (hay : Is ns AY ay) (hbx : Is ns BX bx) (hey : Is ns EY ey) (hcx : Is ns CX cx) (hcy : Is ns CY cy)
    (ht : TurnOk P AX AY BX EY CX CY s) :
    Calls Tryz.prog 32 #[spotV g ax ay, spotV g bx ey, spotV g cx cy] w (RetQ P B (N + 7) w g ns (.tuple #[.int .i64 s, .nilIface])) := by
  obtain ⟨⟨p1, p2, p3⟩, ⟨p4, p5, p6⟩, p7, hS⟩ := ht
  have HPS := Lib.hid (And.intro p1 (And.intro p2 (And.intro p3 (And.intro p4 (And.intro p5 (And.intro p6 (And.intro p7 hS)))))))
  have h3 := (((Stg.start hs).alloc (spotO g ax ay)).alloc (spotO g bx ey)).alloc (spotO g cx cy)
  obtain ⟨w3, hw3⟩ : ∃ w3, ((w.alloc (spotO g ax ay)).alloc (spotO g bx ey)).alloc (spotO g cx cy) = w3 := ⟨_, rfl⟩
  rw [hw3] at h3
  simp only [size_al] at h3
  have ST3 := Lib.hid h3.drew
  have ST3z := Lib.hid (h3.alloc zeroO).drew
  have HNN := Lib.hid hN
  have HIS := Lib.hid (And.intro hax (And.intro hay (And.intro hbx (And.intro hey (And.intro hcx hcy)))))
  have N0 : Hid (N < 20000 ∧ N + 1 < 20000 ∧ N + 2 < 20000 ∧ N + 3 < 20000 ∧ N + 4 < 20000 ∧ N + 5 < 20000 ∧ N + 6 < 20000) := Lib.hid (by omega)
  clear hs hN hax hay hbx hey hcx hcy p1 p2 p3 p4 p5 p6 p7 hS h3
  obtain ⟨a0, a1, a2, a3⟩ := cells4 (ST3.out.at (b := w.heap.size) (o := spotO g ax ay) (by first | exact .head _ | exact .tail _ (.head _) | exact .tail _ (.tail _ (.head _)) | exact .tail _ (.tail _ (.tail _ (.head _))) | exact .tail _ (.tail _ (.tail _ (.tail _ (.head _)))) | exact .tail _ (.tail _ (.tail _ (.tail _ (.tail _ (.head _))))) | exact .tail _ (.tail _ (.tail _ (.tail _ (.tail _ (.tail _ (.head _))))))))
  obtain ⟨e0, e1, e2, e3⟩ := cells4 (ST3.out.at (b := w.heap.size + 1) (o := spotO g bx ey) (by first | exact .head _ | exact .tail _ (.head _) | exact .tail _ (.tail _ (.head _)) | exact .tail _ (.tail _ (.tail _ (.head _))) | exact .tail _ (.tail _ (.tail _ (.tail _ (.head _)))) | exact .tail _ (.tail _ (.tail _ (.tail _ (.tail _ (.head _))))) | exact .tail _ (.tail _ (.tail _ (.tail _ (.tail _ (.tail _ (.head _))))))))
  obtain ⟨c0, c1, c2, c3⟩ := cells4 (ST3.out.at (b := w.heap.size + 1 + 1) (o := spotO g cx cy) (by first | exact .head _ | exact .tail _ (.head _) | exact .tail _ (.tail _ (.head _)) | exact .tail _ (.tail _ (.tail _ (.head _))) | exact .tail _ (.tail _ (.tail _ (.tail _ (.head _)))) | exact .tail _ (.tail _ (.tail _ (.tail _ (.tail _ (.head _))))) | exact .tail _ (.tail _ (.tail _ (.tail _ (.tail _ (.tail _ (.head _))))))))
  obtain ⟨a0z, a1z, a2z, a3z⟩ := cells4 (ST3z.out.at (b := w.heap.size) (o := spotO g ax ay) (by first | exact .head _ | exact .tail _ (.head _) | exact .tail _ (.tail _ (.head _)) | exact .tail _ (.tail _ (.tail _ (.head _))) | exact .tail _ (.tail _ (.tail _ (.tail _ (.head _)))) | exact .tail _ (.tail _ (.tail _ (.tail _ (.tail _ (.head _))))) | exact .tail _ (.tail _ (.tail _ (.tail _ (.tail _ (.tail _ (.head _))))))))
  obtain ⟨e0z, e1z, e2z, e3z⟩ := cells4 (ST3z.out.at (b := w.heap.size + 1) (o := spotO g bx ey) (by first | exact .head _ | exact .tail _ (.head _) | exact .tail _ (.tail _ (.head _)) | exact .tail _ (.tail _ (.tail _ (.head _))) | exact .tail _ (.tail _ (.tail _ (.tail _ (.head _)))) | exact .tail _ (.tail _ (.tail _ (.tail _ (.tail _ (.head _))))) | exact .tail _ (.tail _ (.tail _ (.tail _ (.tail _ (.tail _ (.head _))))))))
  obtain ⟨c0z, c1z, c2z, c3z⟩ := cells4 (ST3z.out.at (b := w.heap.size + 1 + 1) (o := spotO g cx cy) (by first | exact .head _ | exact .tail _ (.head _) | exact .tail _ (.tail _ (.head _)) | exact .tail _ (.tail _ (.tail _ (.head _))) | exact .tail _ (.tail _ (.tail _ (.tail _ (.head _)))) | exact .tail _ (.tail _ (.tail _ (.tail _ (.tail _ (.head _))))) | exact .tail _ (.tail _ (.tail _ (.tail _ (.tail _ (.tail _ (.head _))))))))
  have hlt := ST3.out.lt (p := (w.heap.size, spotO g ax ay)) (by first | exact .head _ | exact .tail _ (.head _) | exact .tail _ (.tail _ (.head _)) | exact .tail _ (.tail _ (.tail _ (.head _))) | exact .tail _ (.tail _ (.tail _ (.tail _ (.head _)))) | exact .tail _ (.tail _ (.tail _ (.tail _ (.tail _ (.head _))))) | exact .tail _ (.tail _ (.tail _ (.tail _ (.tail _ (.tail _ (.head _)))))))
  replace hlt : _ < w3.heap.size := hlt
  have hne0p : w3.heap.size ≠ w.heap.size := by omega
  have hnf0p : w.heap.size ≠ w3.heap.size := by omega
  clear hlt
  have hlt := ST3.out.lt (p := (w.heap.size + 1, spotO g bx ey)) (by first | exact .head _ | exact .tail _ (.head _) | exact .tail _ (.tail _ (.head _)) | exact .tail _ (.tail _ (.tail _ (.head _))) | exact .tail _ (.tail _ (.tail _ (.tail _ (.head _)))) | exact .tail _ (.tail _ (.tail _ (.tail _ (.tail _ (.head _))))) | exact .tail _ (.tail _ (.tail _ (.tail _ (.tail _ (.tail _ (.head _)))))))
  replace hlt : _ < w3.heap.size := hlt
  have hne1p : w3.heap.size ≠ w.heap.size + 1 := by omega
  have hnf1p : w.heap.size + 1 ≠ w3.heap.size := by omega
  clear hlt
  have hlt := ST3.out.lt (p := (w.heap.size + 1 + 1, spotO g cx cy)) (by first | exact .head _ | exact .tail _ (.head _) | exact .tail _ (.tail _ (.head _)) | exact .tail _ (.tail _ (.tail _ (.head _))) | exact .tail _ (.tail _ (.tail _ (.tail _ (.head _)))) | exact .tail _ (.tail _ (.tail _ (.tail _ (.tail _ (.head _))))) | exact .tail _ (.tail _ (.tail _ (.tail _ (.tail _ (.tail _ (.head _)))))))
  replace hlt : _ < w3.heap.size := hlt
  have hne2p : w3.heap.size ≠ w.heap.size + 1 + 1 := by omega
  have hnf2p : w.heap.size + 1 + 1 ≠ w3.heap.size := by omega
  clear hlt
  go_enter Tryz.func32, Tryz.ntmps32
  go_upto_region 1 with fail
  go_cut [8] (fun v8 wx => ∃ (bl k : Nat) (ns' : List Nd), v8 = .pointer (some ⟨bl, 0, none⟩) ∧ Hid (Stg P B (N + 3) w g ns wx ns' ((bl, numO g k) :: (w.heap.size + 1 + 1, spotO g cx cy) :: (w.heap.size + 1, spotO g bx ey) :: (w.heap.size, spotO g ax ay) :: []) ∧ Is ns' (turnL AX AY BX EY CX CY) k))
  case first =>
    go_region_held3 (fun w' => w'.cell? ⟨w.heap.size + 1, 0, none⟩ = some (.pointer (some ⟨g, 0, none⟩)) ∧ w'.cell? ⟨w.heap.size + 1, 1, none⟩ = some (.int .i64 (bx : Int)) ∧ w'.cell? ⟨w.heap.size, 0, none⟩ = some (.pointer (some ⟨g, 0, none⟩)) ∧ w'.cell? ⟨w.heap.size, 1, none⟩ = some (.int .i64 (ax : Int)) ∧ w'.cell? ⟨w.heap.size + 1 + 1, 2, none⟩ = some (.pointer (some ⟨g, 0, none⟩)) ∧ w'.cell? ⟨w.heap.size + 1 + 1, 3, none⟩ = some (.int .i64 (cy : Int)) ∧ w'.cell? ⟨w.heap.size, 2, none⟩ = some (.pointer (some ⟨g, 0, none⟩)) ∧ w'.cell? ⟨w.heap.size, 3, none⟩ = some (.int .i64 (ay : Int))) (go_keep)
      (first
      | (go_at_call 31
         (first | (with_reducible refine (subK ST3.out N0.out.1 (HIS.out.2.2.1.mono ST3.out.pre) (HIS.out.1.mono ST3.out.pre) HPS.out.1).mono ?_) | (with_reducible refine (subK ST3z.out N0.out.1 (HIS.out.2.2.1.mono ST3.out.pre) (HIS.out.1.mono ST3.out.pre) HPS.out.1).mono ?_))
         rintro e w4 ⟨k1, ns1, rfl, h1, h2, h3⟩
         (try simp only [size_al] at h1)
         have ST4 := Lib.hid h1; have HI1 := Lib.hid h3; have HP1 := Lib.hid h2
         obtain ⟨a0, a1, a2, a3⟩ := cells4 (ST4.out.at (b := w.heap.size) (o := spotO g ax ay) (by first | exact .head _ | exact .tail _ (.head _) | exact .tail _ (.tail _ (.head _)) | exact .tail _ (.tail _ (.tail _ (.head _))) | exact .tail _ (.tail _ (.tail _ (.tail _ (.head _)))) | exact .tail _ (.tail _ (.tail _ (.tail _ (.tail _ (.head _))))) | exact .tail _ (.tail _ (.tail _ (.tail _ (.tail _ (.tail _ (.head _))))))))
         obtain ⟨e0, e1, e2, e3⟩ := cells4 (ST4.out.at (b := w.heap.size + 1) (o := spotO g bx ey) (by first | exact .head _ | exact .tail _ (.head _) | exact .tail _ (.tail _ (.head _)) | exact .tail _ (.tail _ (.tail _ (.head _))) | exact .tail _ (.tail _ (.tail _ (.tail _ (.head _)))) | exact .tail _ (.tail _ (.tail _ (.tail _ (.tail _ (.head _))))) | exact .tail _ (.tail _ (.tail _ (.tail _ (.tail _ (.tail _ (.head _))))))))
         obtain ⟨c0, c1, c2, c3⟩ := cells4 (ST4.out.at (b := w.heap.size + 1 + 1) (o := spotO g cx cy) (by first | exact .head _ | exact .tail _ (.head _) | exact .tail _ (.tail _ (.head _)) | exact .tail _ (.tail _ (.tail _ (.head _))) | exact .tail _ (.tail _ (.tail _ (.tail _ (.head _)))) | exact .tail _ (.tail _ (.tail _ (.tail _ (.tail _ (.head _))))) | exact .tail _ (.tail _ (.tail _ (.tail _ (.tail _ (.tail _ (.head _))))))))
         have hlt := ST4.out.lt (p := (w.heap.size, spotO g ax ay)) (by first | exact .head _ | exact .tail _ (.head _) | exact .tail _ (.tail _ (.head _)) | exact .tail _ (.tail _ (.tail _ (.head _))) | exact .tail _ (.tail _ (.tail _ (.tail _ (.head _)))) | exact .tail _ (.tail _ (.tail _ (.tail _ (.tail _ (.head _))))) | exact .tail _ (.tail _ (.tail _ (.tail _ (.tail _ (.tail _ (.head _)))))))
         simp only at hlt
         have hne0p : w4.heap.size ≠ w.heap.size := by omega
         have hnf0p : w.heap.size ≠ w4.heap.size := by omega
         have hne0q : w4.heap.size + 1 ≠ w.heap.size := by omega
         have hnf0q : w.heap.size ≠ w4.heap.size + 1 := by omega
         clear hlt
         have hlt := ST4.out.lt (p := (w.heap.size + 1, spotO g bx ey)) (by first | exact .head _ | exact .tail _ (.head _) | exact .tail _ (.tail _ (.head _)) | exact .tail _ (.tail _ (.tail _ (.head _))) | exact .tail _ (.tail _ (.tail _ (.tail _ (.head _)))) | exact .tail _ (.tail _ (.tail _ (.tail _ (.tail _ (.head _))))) | exact .tail _ (.tail _ (.tail _ (.tail _ (.tail _ (.tail _ (.head _)))))))
         simp only at hlt
         have hne1p : w4.heap.size ≠ w.heap.size + 1 := by omega
         have hnf1p : w.heap.size + 1 ≠ w4.heap.size := by omega
         have hne1q : w4.heap.size + 1 ≠ w.heap.size + 1 := by omega
         have hnf1q : w.heap.size + 1 ≠ w4.heap.size + 1 := by omega
         clear hlt
         have hlt := ST4.out.lt (p := (w.heap.size + 1 + 1, spotO g cx cy)) (by first | exact .head _ | exact .tail _ (.head _) | exact .tail _ (.tail _ (.head _)) | exact .tail _ (.tail _ (.tail _ (.head _))) | exact .tail _ (.tail _ (.tail _ (.tail _ (.head _)))) | exact .tail _ (.tail _ (.tail _ (.tail _ (.tail _ (.head _))))) | exact .tail _ (.tail _ (.tail _ (.tail _ (.tail _ (.tail _ (.head _)))))))
         simp only at hlt
         have hne2p : w4.heap.size ≠ w.heap.size + 1 + 1 := by omega
         have hnf2p : w.heap.size + 1 + 1 ≠ w4.heap.size := by omega
         have hne2q : w4.heap.size + 1 ≠ w.heap.size + 1 + 1 := by omega
         have hnf2q : w.heap.size + 1 + 1 ≠ w4.heap.size + 1 := by omega
         clear hlt
         clear h1 h2 h3)
      | (go_at_call 31
         (first | (with_reducible refine (subK ST4.out N0.out.2.1 (HIS.out.2.2.2.2.2.mono ST4.out.pre) (HIS.out.2.1.mono ST4.out.pre) HPS.out.2.1).mono ?_) | (with_reducible refine (subK (ST4.out.alloc zeroO) N0.out.2.1 (HIS.out.2.2.2.2.2.mono ST4.out.pre) (HIS.out.2.1.mono ST4.out.pre) HPS.out.2.1).mono ?_))
         rintro e w5 ⟨k2, ns2, rfl, h1, h2, h3⟩
         (try simp only [size_al] at h1)
         have ST5 := Lib.hid h1; have HP5 := Lib.hid h2; have HI2 := Lib.hid (And.intro (HI1.out.mono h2) h3)
         obtain ⟨a0, a1, a2, a3⟩ := cells4 (ST5.out.at (b := w.heap.size) (o := spotO g ax ay) (by first | exact .head _ | exact .tail _ (.head _) | exact .tail _ (.tail _ (.head _)) | exact .tail _ (.tail _ (.tail _ (.head _))) | exact .tail _ (.tail _ (.tail _ (.tail _ (.head _)))) | exact .tail _ (.tail _ (.tail _ (.tail _ (.tail _ (.head _))))) | exact .tail _ (.tail _ (.tail _ (.tail _ (.tail _ (.tail _ (.head _))))))))
         obtain ⟨e0, e1, e2, e3⟩ := cells4 (ST5.out.at (b := w.heap.size + 1) (o := spotO g bx ey) (by first | exact .head _ | exact .tail _ (.head _) | exact .tail _ (.tail _ (.head _)) | exact .tail _ (.tail _ (.tail _ (.head _))) | exact .tail _ (.tail _ (.tail _ (.tail _ (.head _)))) | exact .tail _ (.tail _ (.tail _ (.tail _ (.tail _ (.head _))))) | exact .tail _ (.tail _ (.tail _ (.tail _ (.tail _ (.tail _ (.head _))))))))
         obtain ⟨c0, c1, c2, c3⟩ := cells4 (ST5.out.at (b := w.heap.size + 1 + 1) (o := spotO g cx cy) (by first | exact .head _ | exact .tail _ (.head _) | exact .tail _ (.tail _ (.head _)) | exact .tail _ (.tail _ (.tail _ (.head _))) | exact .tail _ (.tail _ (.tail _ (.tail _ (.head _)))) | exact .tail _ (.tail _ (.tail _ (.tail _ (.tail _ (.head _))))) | exact .tail _ (.tail _ (.tail _ (.tail _ (.tail _ (.tail _ (.head _))))))))
         have hlt := ST5.out.lt (p := (w.heap.size, spotO g ax ay)) (by first | exact .head _ | exact .tail _ (.head _) | exact .tail _ (.tail _ (.head _)) | exact .tail _ (.tail _ (.tail _ (.head _))) | exact .tail _ (.tail _ (.tail _ (.tail _ (.head _)))) | exact .tail _ (.tail _ (.tail _ (.tail _ (.tail _ (.head _))))) | exact .tail _ (.tail _ (.tail _ (.tail _ (.tail _ (.tail _ (.head _)))))))
         simp only at hlt
         have hne0p : w5.heap.size ≠ w.heap.size := by omega
         have hnf0p : w.heap.size ≠ w5.heap.size := by omega
         have hne0q : w5.heap.size + 1 ≠ w.heap.size := by omega
         have hnf0q : w.heap.size ≠ w5.heap.size + 1 := by omega
         clear hlt
         have hlt := ST5.out.lt (p := (w.heap.size + 1, spotO g bx ey)) (by first | exact .head _ | exact .tail _ (.head _) | exact .tail _ (.tail _ (.head _)) | exact .tail _ (.tail _ (.tail _ (.head _))) | exact .tail _ (.tail _ (.tail _ (.tail _ (.head _)))) | exact .tail _ (.tail _ (.tail _ (.tail _ (.tail _ (.head _))))) | exact .tail _ (.tail _ (.tail _ (.tail _ (.tail _ (.tail _ (.head _)))))))
         simp only at hlt
         have hne1p : w5.heap.size ≠ w.heap.size + 1 := by omega
         have hnf1p : w.heap.size + 1 ≠ w5.heap.size := by omega
         have hne1q : w5.heap.size + 1 ≠ w.heap.size + 1 := by omega
         have hnf1q : w.heap.size + 1 ≠ w5.heap.size + 1 := by omega
         clear hlt
         have hlt := ST5.out.lt (p := (w.heap.size + 1 + 1, spotO g cx cy)) (by first | exact .head _ | exact .tail _ (.head _) | exact .tail _ (.tail _ (.head _)) | exact .tail _ (.tail _ (.tail _ (.head _))) | exact .tail _ (.tail _ (.tail _ (.tail _ (.head _)))) | exact .tail _ (.tail _ (.tail _ (.tail _ (.tail _ (.head _))))) | exact .tail _ (.tail _ (.tail _ (.tail _ (.tail _ (.tail _ (.head _)))))))
         simp only at hlt
         have hne2p : w5.heap.size ≠ w.heap.size + 1 + 1 := by omega
         have hnf2p : w.heap.size + 1 + 1 ≠ w5.heap.size := by omega
         have hne2q : w5.heap.size + 1 ≠ w.heap.size + 1 + 1 := by omega
         have hnf2q : w.heap.size + 1 + 1 ≠ w5.heap.size + 1 := by omega
         clear hlt
         clear h1 h2 h3)
      | (go_at_call 24
         have HM2 : Hid (((w5.alloc zeroO).alloc (numO g k2)).heap[w5.heap.size + 1]? = some (numO g k2)) := Lib.hid (by have h := ((ST5.out.alloc zeroO).alloc (numO g k2)).hd; simp only [size_al] at h; exact h)
         (first | (have hq := mulK (ST5.out.alloc (numO g k2)) N0.out.2.2.1 HI2.out.1 HI2.out.2 HPS.out.2.2.1 (ST5.out.alloc (numO g k2)).hd; with_reducible refine hq.mono ?_) | (have hq := mulK ((ST5.out.alloc zeroO).alloc (numO g k2)) N0.out.2.2.1 HI2.out.1 HI2.out.2 HPS.out.2.2.1 HM2.out; with_reducible refine hq.mono ?_) | (have hq := mulK ((ST5.out.alloc (numO g k2)).alloc zeroO) N0.out.2.2.1 HI2.out.1 HI2.out.2 HPS.out.2.2.1 ((ST5.out.alloc (numO g k2)).alloc zeroO).hd2; with_reducible refine hq.mono ?_))
         rintro e w7 ⟨k3, ns3, rfl, h1, h2, h3⟩
         (try simp only [size_al] at h1)
         have ST7 := Lib.hid h1; have HI3 := Lib.hid h3; have HP7 := Lib.hid h2
         obtain ⟨a0, a1, a2, a3⟩ := cells4 (ST7.out.at (b := w.heap.size) (o := spotO g ax ay) (by first | exact .head _ | exact .tail _ (.head _) | exact .tail _ (.tail _ (.head _)) | exact .tail _ (.tail _ (.tail _ (.head _))) | exact .tail _ (.tail _ (.tail _ (.tail _ (.head _)))) | exact .tail _ (.tail _ (.tail _ (.tail _ (.tail _ (.head _))))) | exact .tail _ (.tail _ (.tail _ (.tail _ (.tail _ (.tail _ (.head _))))))))
         obtain ⟨e0, e1, e2, e3⟩ := cells4 (ST7.out.at (b := w.heap.size + 1) (o := spotO g bx ey) (by first | exact .head _ | exact .tail _ (.head _) | exact .tail _ (.tail _ (.head _)) | exact .tail _ (.tail _ (.tail _ (.head _))) | exact .tail _ (.tail _ (.tail _ (.tail _ (.head _)))) | exact .tail _ (.tail _ (.tail _ (.tail _ (.tail _ (.head _))))) | exact .tail _ (.tail _ (.tail _ (.tail _ (.tail _ (.tail _ (.head _))))))))
         obtain ⟨c0, c1, c2, c3⟩ := cells4 (ST7.out.at (b := w.heap.size + 1 + 1) (o := spotO g cx cy) (by first | exact .head _ | exact .tail _ (.head _) | exact .tail _ (.tail _ (.head _)) | exact .tail _ (.tail _ (.tail _ (.head _))) | exact .tail _ (.tail _ (.tail _ (.tail _ (.head _)))) | exact .tail _ (.tail _ (.tail _ (.tail _ (.tail _ (.head _))))) | exact .tail _ (.tail _ (.tail _ (.tail _ (.tail _ (.tail _ (.head _))))))))
         have hlt := ST7.out.lt (p := (w.heap.size, spotO g ax ay)) (by first | exact .head _ | exact .tail _ (.head _) | exact .tail _ (.tail _ (.head _)) | exact .tail _ (.tail _ (.tail _ (.head _))) | exact .tail _ (.tail _ (.tail _ (.tail _ (.head _)))) | exact .tail _ (.tail _ (.tail _ (.tail _ (.tail _ (.head _))))) | exact .tail _ (.tail _ (.tail _ (.tail _ (.tail _ (.tail _ (.head _)))))))
         simp only at hlt
         have hne0p : w7.heap.size ≠ w.heap.size := by omega
         have hnf0p : w.heap.size ≠ w7.heap.size := by omega
         have hne0q : w7.heap.size + 1 ≠ w.heap.size := by omega
         have hnf0q : w.heap.size ≠ w7.heap.size + 1 := by omega
         clear hlt
         have hlt := ST7.out.lt (p := (w.heap.size + 1, spotO g bx ey)) (by first | exact .head _ | exact .tail _ (.head _) | exact .tail _ (.tail _ (.head _)) | exact .tail _ (.tail _ (.tail _ (.head _))) | exact .tail _ (.tail _ (.tail _ (.tail _ (.head _)))) | exact .tail _ (.tail _ (.tail _ (.tail _ (.tail _ (.head _))))) | exact .tail _ (.tail _ (.tail _ (.tail _ (.tail _ (.tail _ (.head _)))))))
         simp only at hlt
         have hne1p : w7.heap.size ≠ w.heap.size + 1 := by omega
         have hnf1p : w.heap.size + 1 ≠ w7.heap.size := by omega
         have hne1q : w7.heap.size + 1 ≠ w.heap.size + 1 := by omega
         have hnf1q : w.heap.size + 1 ≠ w7.heap.size + 1 := by omega
         clear hlt
         have hlt := ST7.out.lt (p := (w.heap.size + 1 + 1, spotO g cx cy)) (by first | exact .head _ | exact .tail _ (.head _) | exact .tail _ (.tail _ (.head _)) | exact .tail _ (.tail _ (.tail _ (.head _))) | exact .tail _ (.tail _ (.tail _ (.tail _ (.head _)))) | exact .tail _ (.tail _ (.tail _ (.tail _ (.tail _ (.head _))))) | exact .tail _ (.tail _ (.tail _ (.tail _ (.tail _ (.tail _ (.head _)))))))
         simp only at hlt
         have hne2p : w7.heap.size ≠ w.heap.size + 1 + 1 := by omega
         have hnf2p : w.heap.size + 1 + 1 ≠ w7.heap.size := by omega
         have hne2q : w7.heap.size + 1 ≠ w.heap.size + 1 + 1 := by omega
         have hnf2q : w.heap.size + 1 + 1 ≠ w7.heap.size + 1 := by omega
         clear hlt
         (first | (have hz : w7.heap[(_ : Nat)]? = some zeroO := h1.hd2; obtain ⟨r0, r1, f0, f1⟩ := cells2 hz; clear hz) | (have hz : w7.heap[(_ : Nat)]? = some zeroO := h1.hd; obtain ⟨r0, r1, f0, f1⟩ := cells2 hz; clear hz) | skip)
         clear h1 h2 h3))
    all_goals
      go_wp2_with fail
      go_meet
      case rel => exact ⟨_, k3, ns3, rfl, Lib.hid ⟨by first | exact ST7.out.tl.write2 | exact ST7.out.write2.tl2 | exact ST7.out.tl.alloc _, HI3.out⟩⟩
  case rest =>
    obtain ⟨bl1, q1, nsA, rfl, HL⟩ := hcut
    obtain ⟨w10, rfl⟩ : ∃ wo : World, wo = wc := ⟨_, rfl⟩
    have STd := Lib.hid HL.out.1.drew
    have STdz := Lib.hid (HL.out.1.alloc zeroO).drew
    have HL0 := Lib.hid HL.out.2
    obtain ⟨a0x, a1x, a2x, a3x⟩ := cells4 (STd.out.at (b := w.heap.size) (o := spotO g ax ay) (by first | exact .head _ | exact .tail _ (.head _) | exact .tail _ (.tail _ (.head _)) | exact .tail _ (.tail _ (.tail _ (.head _))) | exact .tail _ (.tail _ (.tail _ (.tail _ (.head _)))) | exact .tail _ (.tail _ (.tail _ (.tail _ (.tail _ (.head _))))) | exact .tail _ (.tail _ (.tail _ (.tail _ (.tail _ (.tail _ (.head _))))))))
    obtain ⟨e0x, e1x, e2x, e3x⟩ := cells4 (STd.out.at (b := w.heap.size + 1) (o := spotO g bx ey) (by first | exact .head _ | exact .tail _ (.head _) | exact .tail _ (.tail _ (.head _)) | exact .tail _ (.tail _ (.tail _ (.head _))) | exact .tail _ (.tail _ (.tail _ (.tail _ (.head _)))) | exact .tail _ (.tail _ (.tail _ (.tail _ (.tail _ (.head _))))) | exact .tail _ (.tail _ (.tail _ (.tail _ (.tail _ (.tail _ (.head _))))))))
    obtain ⟨c0x, c1x, c2x, c3x⟩ := cells4 (STd.out.at (b := w.heap.size + 1 + 1) (o := spotO g cx cy) (by first | exact .head _ | exact .tail _ (.head _) | exact .tail _ (.tail _ (.head _)) | exact .tail _ (.tail _ (.tail _ (.head _))) | exact .tail _ (.tail _ (.tail _ (.tail _ (.head _)))) | exact .tail _ (.tail _ (.tail _ (.tail _ (.tail _ (.head _))))) | exact .tail _ (.tail _ (.tail _ (.tail _ (.tail _ (.tail _ (.head _))))))))
    obtain ⟨a0y, a1y, a2y, a3y⟩ := cells4 (STdz.out.at (b := w.heap.size) (o := spotO g ax ay) (by first | exact .head _ | exact .tail _ (.head _) | exact .tail _ (.tail _ (.head _)) | exact .tail _ (.tail _ (.tail _ (.head _))) | exact .tail _ (.tail _ (.tail _ (.tail _ (.head _)))) | exact .tail _ (.tail _ (.tail _ (.tail _ (.tail _ (.head _))))) | exact .tail _ (.tail _ (.tail _ (.tail _ (.tail _ (.tail _ (.head _))))))))
    obtain ⟨e0y, e1y, e2y, e3y⟩ := cells4 (STdz.out.at (b := w.heap.size + 1) (o := spotO g bx ey) (by first | exact .head _ | exact .tail _ (.head _) | exact .tail _ (.tail _ (.head _)) | exact .tail _ (.tail _ (.tail _ (.head _))) | exact .tail _ (.tail _ (.tail _ (.tail _ (.head _)))) | exact .tail _ (.tail _ (.tail _ (.tail _ (.tail _ (.head _))))) | exact .tail _ (.tail _ (.tail _ (.tail _ (.tail _ (.tail _ (.head _))))))))
    obtain ⟨c0y, c1y, c2y, c3y⟩ := cells4 (STdz.out.at (b := w.heap.size + 1 + 1) (o := spotO g cx cy) (by first | exact .head _ | exact .tail _ (.head _) | exact .tail _ (.tail _ (.head _)) | exact .tail _ (.tail _ (.tail _ (.head _))) | exact .tail _ (.tail _ (.tail _ (.tail _ (.head _)))) | exact .tail _ (.tail _ (.tail _ (.tail _ (.tail _ (.head _))))) | exact .tail _ (.tail _ (.tail _ (.tail _ (.tail _ (.tail _ (.head _))))))))
    have hlt := STd.out.lt (p := (w.heap.size, spotO g ax ay)) (by first | exact .head _ | exact .tail _ (.head _) | exact .tail _ (.tail _ (.head _)) | exact .tail _ (.tail _ (.tail _ (.head _))) | exact .tail _ (.tail _ (.tail _ (.tail _ (.head _)))) | exact .tail _ (.tail _ (.tail _ (.tail _ (.tail _ (.head _))))) | exact .tail _ (.tail _ (.tail _ (.tail _ (.tail _ (.tail _ (.head _)))))))
    replace hlt : _ < w10.heap.size := hlt
    have hne0y : w10.heap.size ≠ w.heap.size := by omega
    have hnf0y : w.heap.size ≠ w10.heap.size := by omega
    clear hlt
    have hlt := STd.out.lt (p := (w.heap.size + 1, spotO g bx ey)) (by first | exact .head _ | exact .tail _ (.head _) | exact .tail _ (.tail _ (.head _)) | exact .tail _ (.tail _ (.tail _ (.head _))) | exact .tail _ (.tail _ (.tail _ (.tail _ (.head _)))) | exact .tail _ (.tail _ (.tail _ (.tail _ (.tail _ (.head _))))) | exact .tail _ (.tail _ (.tail _ (.tail _ (.tail _ (.tail _ (.head _)))))))
    replace hlt : _ < w10.heap.size := hlt
    have hne1y : w10.heap.size ≠ w.heap.size + 1 := by omega
    have hnf1y : w.heap.size + 1 ≠ w10.heap.size := by omega
    clear hlt
    have hlt := STd.out.lt (p := (w.heap.size + 1 + 1, spotO g cx cy)) (by first | exact .head _ | exact .tail _ (.head _) | exact .tail _ (.tail _ (.head _)) | exact .tail _ (.tail _ (.tail _ (.head _))) | exact .tail _ (.tail _ (.tail _ (.tail _ (.head _)))) | exact .tail _ (.tail _ (.tail _ (.tail _ (.tail _ (.head _))))) | exact .tail _ (.tail _ (.tail _ (.tail _ (.tail _ (.tail _ (.head _)))))))
    replace hlt : _ < w10.heap.size := hlt
    have hne2y : w10.heap.size ≠ w.heap.size + 1 + 1 := by omega
    have hnf2y : w.heap.size + 1 + 1 ≠ w10.heap.size := by omega
    clear hlt
    clear hw3 a0 a0z a1 a1z a2 a2z a3 a3z e0 e0z e1 e1z e2 e2z e3 e3z c0 c0z c1 c1z c2 c2z c3 c3z
    go_upto_region 2 with fail
    go_cut [9] (fun v8 wx => ∃ (bl k : Nat) (ns' : List Nd), v8 = .pointer (some ⟨bl, 0, none⟩) ∧ Hid (Stg P B (N + 6) w g ns wx ns' ((bl, numO g k) :: (bl1, numO g q1) :: (w.heap.size + 1 + 1, spotO g cx cy) :: (w.heap.size + 1, spotO g bx ey) :: (w.heap.size, spotO g ax ay) :: []) ∧ Is ns' (turnR AX AY BX EY CX CY) k ∧ Is ns' (turnL AX AY BX EY CX CY) q1))
    case first =>
      go_region_held3 (fun w' => w'.cell? ⟨w.heap.size + 1, 2, none⟩ = some (.pointer (some ⟨g, 0, none⟩)) ∧ w'.cell? ⟨w.heap.size + 1, 3, none⟩ = some (.int .i64 (ey : Int)) ∧ w'.cell? ⟨w.heap.size, 2, none⟩ = some (.pointer (some ⟨g, 0, none⟩)) ∧ w'.cell? ⟨w.heap.size, 3, none⟩ = some (.int .i64 (ay : Int)) ∧ w'.cell? ⟨w.heap.size + 1 + 1, 0, none⟩ = some (.pointer (some ⟨g, 0, none⟩)) ∧ w'.cell? ⟨w.heap.size + 1 + 1, 1, none⟩ = some (.int .i64 (cx : Int)) ∧ w'.cell? ⟨w.heap.size, 0, none⟩ = some (.pointer (some ⟨g, 0, none⟩)) ∧ w'.cell? ⟨w.heap.size, 1, none⟩ = some (.int .i64 (ax : Int))) (go_keep)
        (first
        | (go_at_call 31
           (first | (with_reducible refine (subK STd.out N0.out.2.2.2.1 (HIS.out.2.2.2.1.mono STd.out.pre) (HIS.out.2.1.mono STd.out.pre) HPS.out.2.2.2.1).mono ?_) | (with_reducible refine (subK STdz.out N0.out.2.2.2.1 (HIS.out.2.2.2.1.mono STd.out.pre) (HIS.out.2.1.mono STd.out.pre) HPS.out.2.2.2.1).mono ?_))
           rintro e w4 ⟨k1, ns1, rfl, h1, h2, h3⟩
           (try simp only [size_al] at h1)
           have ST4 := Lib.hid h1; have HI1 := Lib.hid h3; have HP1 := Lib.hid h2
           obtain ⟨a0, a1, a2, a3⟩ := cells4 (ST4.out.at (b := w.heap.size) (o := spotO g ax ay) (by first | exact .head _ | exact .tail _ (.head _) | exact .tail _ (.tail _ (.head _)) | exact .tail _ (.tail _ (.tail _ (.head _))) | exact .tail _ (.tail _ (.tail _ (.tail _ (.head _)))) | exact .tail _ (.tail _ (.tail _ (.tail _ (.tail _ (.head _))))) | exact .tail _ (.tail _ (.tail _ (.tail _ (.tail _ (.tail _ (.head _))))))))
           obtain ⟨e0, e1, e2, e3⟩ := cells4 (ST4.out.at (b := w.heap.size + 1) (o := spotO g bx ey) (by first | exact .head _ | exact .tail _ (.head _) | exact .tail _ (.tail _ (.head _)) | exact .tail _ (.tail _ (.tail _ (.head _))) | exact .tail _ (.tail _ (.tail _ (.tail _ (.head _)))) | exact .tail _ (.tail _ (.tail _ (.tail _ (.tail _ (.head _))))) | exact .tail _ (.tail _ (.tail _ (.tail _ (.tail _ (.tail _ (.head _))))))))
           obtain ⟨c0, c1, c2, c3⟩ := cells4 (ST4.out.at (b := w.heap.size + 1 + 1) (o := spotO g cx cy) (by first | exact .head _ | exact .tail _ (.head _) | exact .tail _ (.tail _ (.head _)) | exact .tail _ (.tail _ (.tail _ (.head _))) | exact .tail _ (.tail _ (.tail _ (.tail _ (.head _)))) | exact .tail _ (.tail _ (.tail _ (.tail _ (.tail _ (.head _))))) | exact .tail _ (.tail _ (.tail _ (.tail _ (.tail _ (.tail _ (.head _))))))))
           have hlt := ST4.out.lt (p := (w.heap.size, spotO g ax ay)) (by first | exact .head _ | exact .tail _ (.head _) | exact .tail _ (.tail _ (.head _)) | exact .tail _ (.tail _ (.tail _ (.head _))) | exact .tail _ (.tail _ (.tail _ (.tail _ (.head _)))) | exact .tail _ (.tail _ (.tail _ (.tail _ (.tail _ (.head _))))) | exact .tail _ (.tail _ (.tail _ (.tail _ (.tail _ (.tail _ (.head _)))))))
           simp only at hlt
           have hne0p : w4.heap.size ≠ w.heap.size := by omega
           have hnf0p : w.heap.size ≠ w4.heap.size := by omega
           have hne0q : w4.heap.size + 1 ≠ w.heap.size := by omega
           have hnf0q : w.heap.size ≠ w4.heap.size + 1 := by omega
           clear hlt
           have hlt := ST4.out.lt (p := (w.heap.size + 1, spotO g bx ey)) (by first | exact .head _ | exact .tail _ (.head _) | exact .tail _ (.tail _ (.head _)) | exact .tail _ (.tail _ (.tail _ (.head _))) | exact .tail _ (.tail _ (.tail _ (.tail _ (.head _)))) | exact .tail _ (.tail _ (.tail _ (.tail _ (.tail _ (.head _))))) | exact .tail _ (.tail _ (.tail _ (.tail _ (.tail _ (.tail _ (.head _)))))))
           simp only at hlt
           have hne1p : w4.heap.size ≠ w.heap.size + 1 := by omega
           have hnf1p : w.heap.size + 1 ≠ w4.heap.size := by omega
           have hne1q : w4.heap.size + 1 ≠ w.heap.size + 1 := by omega
           have hnf1q : w.heap.size + 1 ≠ w4.heap.size + 1 := by omega
           clear hlt
           have hlt := ST4.out.lt (p := (w.heap.size + 1 + 1, spotO g cx cy)) (by first | exact .head _ | exact .tail _ (.head _) | exact .tail _ (.tail _ (.head _)) | exact .tail _ (.tail _ (.tail _ (.head _))) | exact .tail _ (.tail _ (.tail _ (.tail _ (.head _)))) | exact .tail _ (.tail _ (.tail _ (.tail _ (.tail _ (.head _))))) | exact .tail _ (.tail _ (.tail _ (.tail _ (.tail _ (.tail _ (.head _)))))))
           simp only at hlt
           have hne2p : w4.heap.size ≠ w.heap.size + 1 + 1 := by omega
           have hnf2p : w.heap.size + 1 + 1 ≠ w4.heap.size := by omega
           have hne2q : w4.heap.size + 1 ≠ w.heap.size + 1 + 1 := by omega
           have hnf2q : w.heap.size + 1 + 1 ≠ w4.heap.size + 1 := by omega
           clear hlt
           clear h1 h2 h3)
        | (go_at_call 31
           (first | (with_reducible refine (subK ST4.out N0.out.2.2.2.2.1 (HIS.out.2.2.2.2.1.mono ST4.out.pre) (HIS.out.1.mono ST4.out.pre) HPS.out.2.2.2.2.1).mono ?_) | (with_reducible refine (subK (ST4.out.alloc zeroO) N0.out.2.2.2.2.1 (HIS.out.2.2.2.2.1.mono ST4.out.pre) (HIS.out.1.mono ST4.out.pre) HPS.out.2.2.2.2.1).mono ?_))
           rintro e w5 ⟨k2, ns2, rfl, h1, h2, h3⟩
           (try simp only [size_al] at h1)
           have ST5 := Lib.hid h1; have HP5 := Lib.hid h2; have HI2 := Lib.hid (And.intro (HI1.out.mono h2) h3)
           obtain ⟨a0, a1, a2, a3⟩ := cells4 (ST5.out.at (b := w.heap.size) (o := spotO g ax ay) (by first | exact .head _ | exact .tail _ (.head _) | exact .tail _ (.tail _ (.head _)) | exact .tail _ (.tail _ (.tail _ (.head _))) | exact .tail _ (.tail _ (.tail _ (.tail _ (.head _)))) | exact .tail _ (.tail _ (.tail _ (.tail _ (.tail _ (.head _))))) | exact .tail _ (.tail _ (.tail _ (.tail _ (.tail _ (.tail _ (.head _))))))))
           obtain ⟨e0, e1, e2, e3⟩ := cells4 (ST5.out.at (b := w.heap.size + 1) (o := spotO g bx ey) (by first | exact .head _ | exact .tail _ (.head _) | exact .tail _ (.tail _ (.head _)) | exact .tail _ (.tail _ (.tail _ (.head _))) | exact .tail _ (.tail _ (.tail _ (.tail _ (.head _)))) | exact .tail _ (.tail _ (.tail _ (.tail _ (.tail _ (.head _))))) | exact .tail _ (.tail _ (.tail _ (.tail _ (.tail _ (.tail _ (.head _))))))))
           obtain ⟨c0, c1, c2, c3⟩ := cells4 (ST5.out.at (b := w.heap.size + 1 + 1) (o := spotO g cx cy) (by first | exact .head _ | exact .tail _ (.head _) | exact .tail _ (.tail _ (.head _)) | exact .tail _ (.tail _ (.tail _ (.head _))) | exact .tail _ (.tail _ (.tail _ (.tail _ (.head _)))) | exact .tail _ (.tail _ (.tail _ (.tail _ (.tail _ (.head _))))) | exact .tail _ (.tail _ (.tail _ (.tail _ (.tail _ (.tail _ (.head _))))))))
           have hlt := ST5.out.lt (p := (w.heap.size, spotO g ax ay)) (by first | exact .head _ | exact .tail _ (.head _) | exact .tail _ (.tail _ (.head _)) | exact .tail _ (.tail _ (.tail _ (.head _))) | exact .tail _ (.tail _ (.tail _ (.tail _ (.head _)))) | exact .tail _ (.tail _ (.tail _ (.tail _ (.tail _ (.head _))))) | exact .tail _ (.tail _ (.tail _ (.tail _ (.tail _ (.tail _ (.head _)))))))
           simp only at hlt
           have hne0p : w5.heap.size ≠ w.heap.size := by omega
           have hnf0p : w.heap.size ≠ w5.heap.size := by omega
           have hne0q : w5.heap.size + 1 ≠ w.heap.size := by omega
           have hnf0q : w.heap.size ≠ w5.heap.size + 1 := by omega
           clear hlt
           have hlt := ST5.out.lt (p := (w.heap.size + 1, spotO g bx ey)) (by first | exact .head _ | exact .tail _ (.head _) | exact .tail _ (.tail _ (.head _)) | exact .tail _ (.tail _ (.tail _ (.head _))) | exact .tail _ (.tail _ (.tail _ (.tail _ (.head _)))) | exact .tail _ (.tail _ (.tail _ (.tail _ (.tail _ (.head _))))) | exact .tail _ (.tail _ (.tail _ (.tail _ (.tail _ (.tail _ (.head _)))))))
           simp only at hlt
           have hne1p : w5.heap.size ≠ w.heap.size + 1 := by omega
           have hnf1p : w.heap.size + 1 ≠ w5.heap.size := by omega
           have hne1q : w5.heap.size + 1 ≠ w.heap.size + 1 := by omega
           have hnf1q : w.heap.size + 1 ≠ w5.heap.size + 1 := by omega
           clear hlt
           have hlt := ST5.out.lt (p := (w.heap.size + 1 + 1, spotO g cx cy)) (by first | exact .head _ | exact .tail _ (.head _) | exact .tail _ (.tail _ (.head _)) | exact .tail _ (.tail _ (.tail _ (.head _))) | exact .tail _ (.tail _ (.tail _ (.tail _ (.head _)))) | exact .tail _ (.tail _ (.tail _ (.tail _ (.tail _ (.head _))))) | exact .tail _ (.tail _ (.tail _ (.tail _ (.tail _ (.tail _ (.head _)))))))
           simp only at hlt
           have hne2p : w5.heap.size ≠ w.heap.size + 1 + 1 := by omega
           have hnf2p : w.heap.size + 1 + 1 ≠ w5.heap.size := by omega
           have hne2q : w5.heap.size + 1 ≠ w.heap.size + 1 + 1 := by omega
           have hnf2q : w.heap.size + 1 + 1 ≠ w5.heap.size + 1 := by omega
           clear hlt
           clear h1 h2 h3)
        | (go_at_call 24
           have HM2 : Hid (((w5.alloc zeroO).alloc (numO g k2)).heap[w5.heap.size + 1]? = some (numO g k2)) := Lib.hid (by have h := ((ST5.out.alloc zeroO).alloc (numO g k2)).hd; simp only [size_al] at h; exact h)
           (first | (have hq := mulK (ST5.out.alloc (numO g k2)) N0.out.2.2.2.2.2.1 HI2.out.1 HI2.out.2 HPS.out.2.2.2.2.2.1 (ST5.out.alloc (numO g k2)).hd; with_reducible refine hq.mono ?_) | (have hq := mulK ((ST5.out.alloc zeroO).alloc (numO g k2)) N0.out.2.2.2.2.2.1 HI2.out.1 HI2.out.2 HPS.out.2.2.2.2.2.1 HM2.out; with_reducible refine hq.mono ?_) | (have hq := mulK ((ST5.out.alloc (numO g k2)).alloc zeroO) N0.out.2.2.2.2.2.1 HI2.out.1 HI2.out.2 HPS.out.2.2.2.2.2.1 ((ST5.out.alloc (numO g k2)).alloc zeroO).hd2; with_reducible refine hq.mono ?_))
           rintro e w7 ⟨k3, ns3, rfl, h1, h2, h3⟩
           (try simp only [size_al] at h1)
           have ST7 := Lib.hid h1; have HI3 := Lib.hid h3; have HP7 := Lib.hid h2
           obtain ⟨a0, a1, a2, a3⟩ := cells4 (ST7.out.at (b := w.heap.size) (o := spotO g ax ay) (by first | exact .head _ | exact .tail _ (.head _) | exact .tail _ (.tail _ (.head _)) | exact .tail _ (.tail _ (.tail _ (.head _))) | exact .tail _ (.tail _ (.tail _ (.tail _ (.head _)))) | exact .tail _ (.tail _ (.tail _ (.tail _ (.tail _ (.head _))))) | exact .tail _ (.tail _ (.tail _ (.tail _ (.tail _ (.tail _ (.head _))))))))
           obtain ⟨e0, e1, e2, e3⟩ := cells4 (ST7.out.at (b := w.heap.size + 1) (o := spotO g bx ey) (by first | exact .head _ | exact .tail _ (.head _) | exact .tail _ (.tail _ (.head _)) | exact .tail _ (.tail _ (.tail _ (.head _))) | exact .tail _ (.tail _ (.tail _ (.tail _ (.head _)))) | exact .tail _ (.tail _ (.tail _ (.tail _ (.tail _ (.head _))))) | exact .tail _ (.tail _ (.tail _ (.tail _ (.tail _ (.tail _ (.head _))))))))
           obtain ⟨c0, c1, c2, c3⟩ := cells4 (ST7.out.at (b := w.heap.size + 1 + 1) (o := spotO g cx cy) (by first | exact .head _ | exact .tail _ (.head _) | exact .tail _ (.tail _ (.head _)) | exact .tail _ (.tail _ (.tail _ (.head _))) | exact .tail _ (.tail _ (.tail _ (.tail _ (.head _)))) | exact .tail _ (.tail _ (.tail _ (.tail _ (.tail _ (.head _))))) | exact .tail _ (.tail _ (.tail _ (.tail _ (.tail _ (.tail _ (.head _))))))))
           have hlt := ST7.out.lt (p := (w.heap.size, spotO g ax ay)) (by first | exact .head _ | exact .tail _ (.head _) | exact .tail _ (.tail _ (.head _)) | exact .tail _ (.tail _ (.tail _ (.head _))) | exact .tail _ (.tail _ (.tail _ (.tail _ (.head _)))) | exact .tail _ (.tail _ (.tail _ (.tail _ (.tail _ (.head _))))) | exact .tail _ (.tail _ (.tail _ (.tail _ (.tail _ (.tail _ (.head _)))))))
           simp only at hlt
           have hne0p : w7.heap.size ≠ w.heap.size := by omega
           have hnf0p : w.heap.size ≠ w7.heap.size := by omega
           have hne0q : w7.heap.size + 1 ≠ w.heap.size := by omega
           have hnf0q : w.heap.size ≠ w7.heap.size + 1 := by omega
           clear hlt
           have hlt := ST7.out.lt (p := (w.heap.size + 1, spotO g bx ey)) (by first | exact .head _ | exact .tail _ (.head _) | exact .tail _ (.tail _ (.head _)) | exact .tail _ (.tail _ (.tail _ (.head _))) | exact .tail _ (.tail _ (.tail _ (.tail _ (.head _)))) | exact .tail _ (.tail _ (.tail _ (.tail _ (.tail _ (.head _))))) | exact .tail _ (.tail _ (.tail _ (.tail _ (.tail _ (.tail _ (.head _)))))))
           simp only at hlt
           have hne1p : w7.heap.size ≠ w.heap.size + 1 := by omega
           have hnf1p : w.heap.size + 1 ≠ w7.heap.size := by omega
           have hne1q : w7.heap.size + 1 ≠ w.heap.size + 1 := by omega
           have hnf1q : w.heap.size + 1 ≠ w7.heap.size + 1 := by omega
           clear hlt
           have hlt := ST7.out.lt (p := (w.heap.size + 1 + 1, spotO g cx cy)) (by first | exact .head _ | exact .tail _ (.head _) | exact .tail _ (.tail _ (.head _)) | exact .tail _ (.tail _ (.tail _ (.head _))) | exact .tail _ (.tail _ (.tail _ (.tail _ (.head _)))) | exact .tail _ (.tail _ (.tail _ (.tail _ (.tail _ (.head _))))) | exact .tail _ (.tail _ (.tail _ (.tail _ (.tail _ (.tail _ (.head _)))))))
           simp only at hlt
           have hne2p : w7.heap.size ≠ w.heap.size + 1 + 1 := by omega
           have hnf2p : w.heap.size + 1 + 1 ≠ w7.heap.size := by omega
           have hne2q : w7.heap.size + 1 ≠ w.heap.size + 1 + 1 := by omega
           have hnf2q : w.heap.size + 1 + 1 ≠ w7.heap.size + 1 := by omega
           clear hlt
           (first | (have hz : w7.heap[(_ : Nat)]? = some zeroO := h1.hd2; obtain ⟨r0, r1, f0, f1⟩ := cells2 hz; clear hz) | (have hz : w7.heap[(_ : Nat)]? = some zeroO := h1.hd; obtain ⟨r0, r1, f0, f1⟩ := cells2 hz; clear hz) | skip)
           clear h1 h2 h3))
      all_goals
        go_wp2_with fail
        go_meet
        case rel => exact ⟨_, k3, ns3, rfl, Lib.hid ⟨by first | exact ST7.out.tl.write2 | exact ST7.out.write2.tl2 | exact ST7.out.tl.alloc _, HI3.out, HL0.out.mono (HP1.out.trans (HP5.out.trans HP7.out))⟩⟩
    case rest =>
    obtain ⟨bl2, q2, nsB, rfl, HR⟩ := hcut
    have HSUB := Lib.hid (subK HR.out.1 N0.out.2.2.2.2.2.2 HR.out.2.2 HR.out.2.1 HPS.out.2.2.2.2.2.2.1)
    obtain ⟨x0, x1, -, -⟩ := cells2 HR.out.1.hd
    obtain ⟨y0, y1, -, -⟩ := cells2 HR.out.1.hd2
    dsimp only at x0 x1 y0 y1
    go_wp2_with fail
    refine HSUB.out.mono ?_
    rintro e w8 ⟨k, ns3, rfl, h1, h2, h3⟩
    have HSG := Lib.hid (sign_num h1.st h3 HPS.out.2.2.2.2.2.2.2)
    have HG8 := Lib.hid h1.grew
    clear h1 h2 h3
    go_wp2_with fail
    refine HSG.out.mono ?_
    rintro e w9 ⟨rfl, hb9⟩
    have HF := Lib.hid (HG8.out.below hb9)
    clear hb9
    go_wp2
    go_ret2
    exact ⟨rfl, ns3, HF.out⟩
end Go.Proofs.YtgodkfgnhpnhcaaGreatDoor
/- side.Round, Between. -/
namespace Go.Proofs.YtgodkfgnhpnhcaaGreatDoor
open Go.RowKit Go.Maps
/-- an answer; the kept blocks are kept -/
def RetQ2 (P : Ex → Prop) (B N : Nat) (w : World) (g : Nat) (ns ns' : List Nd) (l : List (Nat × Obj)) (v : Value) (e : Ending) (W' : World) : Prop :=
  e = .returned v ∧ ∃ ns'' : List Nd, Stg P B N w g ns W' ns'' l ∧ ns' <+: ns''
section
variable {P : Ex → Prop} {B N M : Nat} {w W W' : World} {g i j k l' : Nat} {ns ns' : List Nd} {l : List (Nat × Obj)} {px py qx qy : Ex} {s : Int}
theorem RetQ.kept {v : Value} {e : Ending} (h : Stg P B N w g ns W ns' l) (hr : RetQ P B M W g ns' v e W') : RetQ2 P B M w g ns ns' l v e W' := by
  obtain ⟨e1, ns'', h1, h2, h3⟩ := hr
  exact ⟨e1, ns'', h.step h1 h2 h3, h2⟩
theorem sameK (h : Stg P B N w g ns W ns' l) (hN : N + 1 < 20000) (hi : Is ns' px i) (hj : Is ns' py j) (hk : Is ns' qx k) (hl : Is ns' qy l') (hc : CmpOk P px py qx qy s) :
    Calls Tryz.prog 29 #[spotV g i j, spotV g k l'] W (RetQ2 P B (N + 2) w g ns ns' l (.tuple #[.bool (s == 0), .nilIface])) := (same_spot h.st hN hi hj hk hl hc).mono fun _ _ hr => hr.kept h
theorem cmpK (h : Stg P B N w g ns W ns' l) (hN : N + 1 < 20000) (hi : Is ns' px i) (hj : Is ns' py j) (hk : Is ns' qx k) (hl : Is ns' qy l') (hc : CmpOk P px py qx qy s) :
    Calls Tryz.prog 44 #[spotV g i j, spotV g k l'] W (RetQ2 P B (N + 2) w g ns ns' l (.tuple #[.int .i64 s, .nilIface])) := (cmp_spot h.st hN hi hj hk hl hc).mono fun _ _ hr => hr.kept h
theorem turnK {ax ay bx ey cx cy : Nat} {AX AY BX EY CX CY : Ex} (h : Stg P B N w g ns W ns' l) (hN : N + 7 ≤ 20000) (hax : Is ns' AX ax) (hay : Is ns' AY ay) (hbx : Is ns' BX bx) (hey : Is ns' EY ey) (hcx : Is ns' CX cx) (hcy : Is ns' CY cy)
    (ht : TurnOk P AX AY BX EY CX CY s) :
    Calls Tryz.prog 32 #[spotV g ax ay, spotV g bx ey, spotV g cx cy] W (RetQ2 P B (N + 7) w g ns ns' l (.tuple #[.int .i64 s, .nilIface])) := (turn_spot h.st hN hax hay hbx hey hcx hcy ht).mono fun _ _ hr => hr.kept h
theorem RetQ2.up (hM : N ≤ M) {v : Value} {e : Ending} (h : RetQ2 P B N w g ns ns' l v e W') : RetQ P B M w g ns v e W' := by
  obtain ⟨e1, ns'', h1, h2⟩ := h
  exact ⟨e1, ns'', h1.grew.1.more hM, h1.grew.2⟩
end
theorem Grew.retq {P : Ex → Prop} {B N M : Nat} {w W : World} {g : Nat} {ns ns' : List Nd} (h : Grew P B N w g ns ns' W) (hM : N ≤ M) (v : Value) : RetQ P B M w g ns v (.returned v) W := ⟨rfl, ns', h.1.more hM, h.2⟩
theorem set8 {w : World} {g : Nat} {T : TypeId} {a0 a1 a2 a3 a4 a5 a6 a7 : Value} (h : w.heap[g]? = some (.cells #[a0, a1, a2, a3, a4, a5, a6, a7] T (0, 0))) (b0 b1 b2 b3 b4 b5 b6 b7 : Value) :
    ((((((((w.setCell ⟨g, 0, none⟩ b0).setCell ⟨g, 1, none⟩ b1).setCell ⟨g, 2, none⟩ b2).setCell ⟨g, 3, none⟩ b3).setCell ⟨g, 4, none⟩ b4).setCell ⟨g, 5, none⟩ b5).setCell ⟨g, 6, none⟩ b6).setCell ⟨g, 7, none⟩ b7).heap[g]? = some (.cells #[b0, b1, b2, b3, b4, b5, b6, b7] T (0, 0)) := by
  have hg : g < w.heap.size := (Array.getElem?_eq_some_iff.1 h).1
  have h' : w.heap[g] = .cells #[a0, a1, a2, a3, a4, a5, a6, a7] T (0, 0) := (Array.getElem?_eq_some_iff.1 h).2
  simp [World.setCell, hg, Array.getElem_modify, h']
theorem cells8 {w : World} {g : Nat} {T : TypeId} {a0 a1 a2 a3 a4 a5 a6 a7 : Value} (h : w.heap[g]? = some (.cells #[a0, a1, a2, a3, a4, a5, a6, a7] T (0, 0))) :
    w.cell? ⟨g, 0, none⟩ = some a0 ∧ w.cell? ⟨g, 1, none⟩ = some a1 ∧ w.cell? ⟨g, 2, none⟩ = some a2 ∧ w.cell? ⟨g, 3, none⟩ = some a3 ∧ w.cell? ⟨g, 4, none⟩ = some a4 ∧ w.cell? ⟨g, 5, none⟩ = some a5 ∧ w.cell? ⟨g, 6, none⟩ = some a6 ∧ w.cell? ⟨g, 7, none⟩ = some a7 := by
  refine ⟨?_, ?_, ?_, ?_, ?_, ?_, ?_, ?_⟩ <;> simp [World.cell?, h]
theorem free8 {w : World} {g : Nat} {T : TypeId} {cs : Array Value} (h : w.heap[g]? = some (.cells cs T (0, 0))) : ∀ i, w.frozen? ⟨g, i, none⟩ = false := fun i => by simp [World.frozen?, h]
/-- is a point on the way round from one to another? -/
def roundB (c1 c2 c3 s : Int) : Bool := c1 == 0 || c2 == 0 || c3 == 0 || s == 1
abbrev zero8O : Obj := .cells #[.pointer none, .int .i64 0, .pointer none, .int .i64 0, .pointer none, .int .i64 0, .pointer none, .int .i64 0] 116
abbrev twoV (g a b c d : Nat) : Value := .agg #[.pointer (some ⟨g, 0, none⟩), .int .i64 (a : Int), .pointer (some ⟨g, 0, none⟩), .int .i64 (b : Int), .pointer (some ⟨g, 0, none⟩), .int .i64 (c : Int), .pointer (some ⟨g, 0, none⟩), .int .i64 (d : Int)]
/-- what lies behind m rounds -/
def RoundRel (P : Ex → Prop) (B N : Nat) (w : World) (g : Nat) (ns : List Nd) (l : List (Nat × Obj)) (c1 c2 c3 : Int) (m : Int) (wr : World) (nsr : List Nd) : Prop :=
  (m = 0 ∧ Stg P B N w g ns wr nsr l) ∨ (m = 1 ∧ Stg P B (N + 2) w g ns wr nsr l ∧ (c1 == 0) = false) ∨ (m = 2 ∧ Stg P B (N + 4) w g ns wr nsr l ∧ (c1 == 0) = false ∧ (c2 == 0) = false) ∨ (m = 3 ∧ Stg P B (N + 6) w g ns wr nsr l ∧ (c1 == 0) = false ∧ (c2 == 0) = false ∧ (c3 == 0) = false)
set_option maxHeartbeats 12800000 in
set_option maxRecDepth 100000 in
theorem round_side {P : Ex → Prop} {B N : Nat} {w : World} {g ax ay bx ey cx cy : Nat} {ns : List Nd} {AX AY BX EY CX CY : Ex} {c1 c2 c3 s : Int} (hs : St P B N w g ns) (hN : N + 13 ≤ 20000) (hax : Is ns AX ax) (hay : Is ns AY ay) (hbx : Is ns BX bx) (hey : Is ns EY ey) (hcx : Is ns CX cx) (hcy : Is ns CY cy)
    (h1 : CmpOk P AX AY BX EY c1) (h2 : CmpOk P CX CY AX AY c2) (h3 : CmpOk P CX CY BX EY c3) (ht : TurnOk P AX AY CX CY BX EY s) :
    Calls Tryz.prog 27 #[spotV g ax ay, spotV g bx ey, spotV g cx cy] w (RetQ P B (N + 13) w g ns (.tuple #[.bool (roundB c1 c2 c3 s), .nilIface])) := by
  have h3' := (((Stg.start hs).alloc (spotO g ax ay)).alloc (spotO g bx ey)).alloc (spotO g cx cy)
  obtain ⟨w3, hw3⟩ : ∃ w3, ((w.alloc (spotO g ax ay)).alloc (spotO g bx ey)).alloc (spotO g cx cy) = w3 := ⟨_, rfl⟩
  rw [hw3] at h3'
  simp only [size_al] at h3'
  have ST3 := Lib.hid h3'
  have HC := Lib.hid (And.intro h1 (And.intro h2 (And.intro h3 ht)))
  have HIS := Lib.hid (And.intro hax (And.intro hay (And.intro hbx (And.intro hey (And.intro hcx hcy)))))
  have HNN := Lib.hid hN
  obtain ⟨a0, a1, a2, a3⟩ := cells4 (ST3.out.at (b := w.heap.size) (o := spotO g ax ay) (.tail _ (.tail _ (.head _))))
  obtain ⟨e0, e1, e2, e3⟩ := cells4 (ST3.out.at (b := w.heap.size + 1) (o := spotO g bx ey) (.tail _ (.head _)))
  obtain ⟨d0, d1, d2, d3⟩ := cells4 (ST3.out.at (b := w.heap.size + 1 + 1) (o := spotO g cx cy) (.head _))
  clear hs hN hax hay hbx hey hcx hcy h1 h2 h3 ht h3'
  have i0 : ∀ w, (Instr.index 117 (.agg #[.pointer (some ⟨g, 0, none⟩), .int .i64 (ax : Int), .pointer (some ⟨g, 0, none⟩), .int .i64 (ay : Int), .pointer (some ⟨g, 0, none⟩), .int .i64 (bx : Int), .pointer (some ⟨g, 0, none⟩), .int .i64 (ey : Int), .pointer (some ⟨g, 0, none⟩), .int .i64 (cx : Int), .pointer (some ⟨g, 0, none⟩), .int .i64 (cy : Int), .pointer (some ⟨g, 0, none⟩), .int .i64 (ax : Int), .pointer (some ⟨g, 0, none⟩), .int .i64 (ay : Int), .pointer (some ⟨g, 0, none⟩), .int .i64 (cx : Int), .pointer (some ⟨g, 0, none⟩), .int .i64 (cy : Int), .pointer (some ⟨g, 0, none⟩), .int .i64 (bx : Int), .pointer (some ⟨g, 0, none⟩), .int .i64 (ey : Int)]) (.int .i64 0)).run Tryz.prog w = .ok (twoV g ax ay bx ey) w := fun _ => by kernel_rfl
  have i1 : ∀ w, (Instr.index 117 (.agg #[.pointer (some ⟨g, 0, none⟩), .int .i64 (ax : Int), .pointer (some ⟨g, 0, none⟩), .int .i64 (ay : Int), .pointer (some ⟨g, 0, none⟩), .int .i64 (bx : Int), .pointer (some ⟨g, 0, none⟩), .int .i64 (ey : Int), .pointer (some ⟨g, 0, none⟩), .int .i64 (cx : Int), .pointer (some ⟨g, 0, none⟩), .int .i64 (cy : Int), .pointer (some ⟨g, 0, none⟩), .int .i64 (ax : Int), .pointer (some ⟨g, 0, none⟩), .int .i64 (ay : Int), .pointer (some ⟨g, 0, none⟩), .int .i64 (cx : Int), .pointer (some ⟨g, 0, none⟩), .int .i64 (cy : Int), .pointer (some ⟨g, 0, none⟩), .int .i64 (bx : Int), .pointer (some ⟨g, 0, none⟩), .int .i64 (ey : Int)]) (.int .i64 1)).run Tryz.prog w = .ok (twoV g cx cy ax ay) w := fun _ => by kernel_rfl
  have i2 : ∀ w, (Instr.index 117 (.agg #[.pointer (some ⟨g, 0, none⟩), .int .i64 (ax : Int), .pointer (some ⟨g, 0, none⟩), .int .i64 (ay : Int), .pointer (some ⟨g, 0, none⟩), .int .i64 (bx : Int), .pointer (some ⟨g, 0, none⟩), .int .i64 (ey : Int), .pointer (some ⟨g, 0, none⟩), .int .i64 (cx : Int), .pointer (some ⟨g, 0, none⟩), .int .i64 (cy : Int), .pointer (some ⟨g, 0, none⟩), .int .i64 (ax : Int), .pointer (some ⟨g, 0, none⟩), .int .i64 (ay : Int), .pointer (some ⟨g, 0, none⟩), .int .i64 (cx : Int), .pointer (some ⟨g, 0, none⟩), .int .i64 (cy : Int), .pointer (some ⟨g, 0, none⟩), .int .i64 (bx : Int), .pointer (some ⟨g, 0, none⟩), .int .i64 (ey : Int)]) (.int .i64 2)).run Tryz.prog w = .ok (twoV g cx cy bx ey) w := fun _ => by kernel_rfl
  go_enter Tryz.func27, Tryz.ntmps27
  go_wp2_with fail
  go_loopw [24] (fun i wr => ∃ (m : Int) (nsr : List Nd), i = .int .i64 m ∧ Hid (RoundRel P B N w g ns [(w.heap.size + 1 + 1, spotO g cx cy), (w.heap.size + 1, spotO g bx ey), (w.heap.size, spotO g ax ay)] c1 c2 c3 m wr nsr)) (fun i _ => (3 - intOf i).toNat)
  case atStart => exact ⟨0, ns, rfl, Lib.hid (Or.inl ⟨rfl, ST3.out⟩)⟩
  case round =>
    obtain ⟨m, nsr, rfl, HF⟩ := hrel
    rcases HF.out with ⟨rfl, ST⟩ | ⟨rfl, ST, q1⟩ | ⟨rfl, ST, q1, q2⟩ | ⟨rfl, ST, q1, q2, q3⟩
    · have h4 := ST.alloc zero8O
      obtain ⟨w4, hw4⟩ : ∃ w4, wr.alloc zero8O = w4 := ⟨_, rfl⟩
      rw [hw4] at h4
      obtain ⟨p0, p1, p2, p3, p4, p5, p6, p7⟩ := cells8 h4.hd
      have fz := free8 h4.hd
      have f0 := fz 0; have f1 := fz 1; have f2 := fz 2; have f3 := fz 3; have f4 := fz 4; have f5 := fz 5; have f6 := fz 6; have f7 := fz 7
      clear fz
      obtain ⟨w5, hw5⟩ : ∃ w5, ((((((((w4.setCell ⟨wr.heap.size, 0, none⟩ (.pointer (some ⟨g, 0, none⟩))).setCell ⟨wr.heap.size, 1, none⟩ (.int .i64 (ax : Int))).setCell ⟨wr.heap.size, 2, none⟩ (.pointer (some ⟨g, 0, none⟩))).setCell ⟨wr.heap.size, 3, none⟩ (.int .i64 (ay : Int))).setCell ⟨wr.heap.size, 4, none⟩ (.pointer (some ⟨g, 0, none⟩))).setCell ⟨wr.heap.size, 5, none⟩ (.int .i64 (bx : Int))).setCell ⟨wr.heap.size, 6, none⟩ (.pointer (some ⟨g, 0, none⟩))).setCell ⟨wr.heap.size, 7, none⟩ (.int .i64 (ey : Int))) = w5 := ⟨_, rfl⟩
      have h5 := h4.write (grownBy_set (grownBy_set (grownBy_set (grownBy_set (grownBy_set (grownBy_set (grownBy_set (grownBy_set (grownBy_refl w4 (some wr.heap.size)) (.pointer (some ⟨g, 0, none⟩))) (.int .i64 (ax : Int))) (.pointer (some ⟨g, 0, none⟩))) (.int .i64 (ay : Int))) (.pointer (some ⟨g, 0, none⟩))) (.int .i64 (bx : Int))) (.pointer (some ⟨g, 0, none⟩))) (.int .i64 (ey : Int))) (set8 h4.hd (.pointer (some ⟨g, 0, none⟩)) (.int .i64 (ax : Int)) (.pointer (some ⟨g, 0, none⟩)) (.int .i64 (ay : Int)) (.pointer (some ⟨g, 0, none⟩)) (.int .i64 (bx : Int)) (.pointer (some ⟨g, 0, none⟩)) (.int .i64 (ey : Int)))
      rw [hw5] at h5
      obtain ⟨y0, y1, y2, y3, y4, y5, y6, y7⟩ := cells8 h5.hd
      dsimp only at p0 p1 p2 p3 p4 p5 p6 p7 f0 f1 f2 f3 f4 f5 f6 f7 y0 y1 y2 y3 y4 y5 y6 y7
      have HSAME := sameK h5 (by have := HNN.out; omega) (HIS.out.1.mono ST.pre) (HIS.out.2.1.mono ST.pre) (HIS.out.2.2.1.mono ST.pre) (HIS.out.2.2.2.1.mono ST.pre) HC.out.1
      cases hc : (c1 == 0)
      · rw [hc] at HSAME
        replace HSAME := Lib.hid HSAME
        clear h4 h5 ST
        go_wp2_with fail
        refine HSAME.out.mono ?_
        rintro e w6 ⟨rfl, nsq, h6, hp6⟩
        have HF6 := Lib.hid (show RoundRel P B N w g ns [(w.heap.size + 1 + 1, spotO g cx cy), (w.heap.size + 1, spotO g bx ey), (w.heap.size, spotO g ax ay)] c1 c2 c3 1 w6 nsq from Or.inr (Or.inl ⟨rfl, h6.tl, hc⟩))
        clear h6 hp6
        go_wp2_with fail
        go_roundw
        case rel => exact ⟨1, nsq, rfl, HF6⟩
        case measure => simp [intOf]
      · rw [hc] at HSAME
        replace HSAME := Lib.hid HSAME
        have HRB : Hid (roundB c1 c2 c3 s = true) := Lib.hid (by simp [roundB, hc])
        clear h4 h5 ST hc
        go_wp2_with fail
        refine HSAME.out.mono ?_
        rintro e w6 ⟨rfl, nsq, h6, hp6⟩
        have HF6 := Lib.hid (h6.grew.retq (M := N + 13) (by omega) (.tuple #[.bool true, .nilIface]))
        clear h6 hp6
        go_wp2
        go_ret2
        rw [HRB.out]
        exact HF6.out
    · have h4 := ST.alloc zero8O
      obtain ⟨w4, hw4⟩ : ∃ w4, wr.alloc zero8O = w4 := ⟨_, rfl⟩
      rw [hw4] at h4
      obtain ⟨p0, p1, p2, p3, p4, p5, p6, p7⟩ := cells8 h4.hd
      have fz := free8 h4.hd
      have f0 := fz 0; have f1 := fz 1; have f2 := fz 2; have f3 := fz 3; have f4 := fz 4; have f5 := fz 5; have f6 := fz 6; have f7 := fz 7
      clear fz
      obtain ⟨w5, hw5⟩ : ∃ w5, ((((((((w4.setCell ⟨wr.heap.size, 0, none⟩ (.pointer (some ⟨g, 0, none⟩))).setCell ⟨wr.heap.size, 1, none⟩ (.int .i64 (cx : Int))).setCell ⟨wr.heap.size, 2, none⟩ (.pointer (some ⟨g, 0, none⟩))).setCell ⟨wr.heap.size, 3, none⟩ (.int .i64 (cy : Int))).setCell ⟨wr.heap.size, 4, none⟩ (.pointer (some ⟨g, 0, none⟩))).setCell ⟨wr.heap.size, 5, none⟩ (.int .i64 (ax : Int))).setCell ⟨wr.heap.size, 6, none⟩ (.pointer (some ⟨g, 0, none⟩))).setCell ⟨wr.heap.size, 7, none⟩ (.int .i64 (ay : Int))) = w5 := ⟨_, rfl⟩
      have h5 := h4.write (grownBy_set (grownBy_set (grownBy_set (grownBy_set (grownBy_set (grownBy_set (grownBy_set (grownBy_set (grownBy_refl w4 (some wr.heap.size)) (.pointer (some ⟨g, 0, none⟩))) (.int .i64 (cx : Int))) (.pointer (some ⟨g, 0, none⟩))) (.int .i64 (cy : Int))) (.pointer (some ⟨g, 0, none⟩))) (.int .i64 (ax : Int))) (.pointer (some ⟨g, 0, none⟩))) (.int .i64 (ay : Int))) (set8 h4.hd (.pointer (some ⟨g, 0, none⟩)) (.int .i64 (cx : Int)) (.pointer (some ⟨g, 0, none⟩)) (.int .i64 (cy : Int)) (.pointer (some ⟨g, 0, none⟩)) (.int .i64 (ax : Int)) (.pointer (some ⟨g, 0, none⟩)) (.int .i64 (ay : Int)))
      rw [hw5] at h5
      obtain ⟨y0, y1, y2, y3, y4, y5, y6, y7⟩ := cells8 h5.hd
      dsimp only at p0 p1 p2 p3 p4 p5 p6 p7 f0 f1 f2 f3 f4 f5 f6 f7 y0 y1 y2 y3 y4 y5 y6 y7
      have HSAME := sameK h5 (by have := HNN.out; omega) (HIS.out.2.2.2.2.1.mono ST.pre) (HIS.out.2.2.2.2.2.mono ST.pre) (HIS.out.1.mono ST.pre) (HIS.out.2.1.mono ST.pre) HC.out.2.1
      cases hc : (c2 == 0)
      · rw [hc] at HSAME
        replace HSAME := Lib.hid HSAME
        clear h4 h5 ST
        go_wp2_with fail
        refine HSAME.out.mono ?_
        rintro e w6 ⟨rfl, nsq, h6, hp6⟩
        have HF6 := Lib.hid (show RoundRel P B N w g ns [(w.heap.size + 1 + 1, spotO g cx cy), (w.heap.size + 1, spotO g bx ey), (w.heap.size, spotO g ax ay)] c1 c2 c3 2 w6 nsq from Or.inr (Or.inr (Or.inl ⟨rfl, h6.tl, q1, hc⟩)))
        clear h6 hp6
        go_wp2_with fail
        go_roundw
        case rel => exact ⟨2, nsq, rfl, HF6⟩
        case measure => simp [intOf]
      · rw [hc] at HSAME
        replace HSAME := Lib.hid HSAME
        have HRB : Hid (roundB c1 c2 c3 s = true) := Lib.hid (by simp [roundB, hc])
        clear h4 h5 ST hc
        go_wp2_with fail
        refine HSAME.out.mono ?_
        rintro e w6 ⟨rfl, nsq, h6, hp6⟩
        have HF6 := Lib.hid (h6.grew.retq (M := N + 13) (by omega) (.tuple #[.bool true, .nilIface]))
        clear h6 hp6
        go_wp2
        go_ret2
        rw [HRB.out]
        exact HF6.out
    · have h4 := ST.alloc zero8O
      obtain ⟨w4, hw4⟩ : ∃ w4, wr.alloc zero8O = w4 := ⟨_, rfl⟩
      rw [hw4] at h4
      obtain ⟨p0, p1, p2, p3, p4, p5, p6, p7⟩ := cells8 h4.hd
      have fz := free8 h4.hd
      have f0 := fz 0; have f1 := fz 1; have f2 := fz 2; have f3 := fz 3; have f4 := fz 4; have f5 := fz 5; have f6 := fz 6; have f7 := fz 7
      clear fz
      obtain ⟨w5, hw5⟩ : ∃ w5, ((((((((w4.setCell ⟨wr.heap.size, 0, none⟩ (.pointer (some ⟨g, 0, none⟩))).setCell ⟨wr.heap.size, 1, none⟩ (.int .i64 (cx : Int))).setCell ⟨wr.heap.size, 2, none⟩ (.pointer (some ⟨g, 0, none⟩))).setCell ⟨wr.heap.size, 3, none⟩ (.int .i64 (cy : Int))).setCell ⟨wr.heap.size, 4, none⟩ (.pointer (some ⟨g, 0, none⟩))).setCell ⟨wr.heap.size, 5, none⟩ (.int .i64 (bx : Int))).setCell ⟨wr.heap.size, 6, none⟩ (.pointer (some ⟨g, 0, none⟩))).setCell ⟨wr.heap.size, 7, none⟩ (.int .i64 (ey : Int))) = w5 := ⟨_, rfl⟩
      have h5 := h4.write (grownBy_set (grownBy_set (grownBy_set (grownBy_set (grownBy_set (grownBy_set (grownBy_set (grownBy_set (grownBy_refl w4 (some wr.heap.size)) (.pointer (some ⟨g, 0, none⟩))) (.int .i64 (cx : Int))) (.pointer (some ⟨g, 0, none⟩))) (.int .i64 (cy : Int))) (.pointer (some ⟨g, 0, none⟩))) (.int .i64 (bx : Int))) (.pointer (some ⟨g, 0, none⟩))) (.int .i64 (ey : Int))) (set8 h4.hd (.pointer (some ⟨g, 0, none⟩)) (.int .i64 (cx : Int)) (.pointer (some ⟨g, 0, none⟩)) (.int .i64 (cy : Int)) (.pointer (some ⟨g, 0, none⟩)) (.int .i64 (bx : Int)) (.pointer (some ⟨g, 0, none⟩)) (.int .i64 (ey : Int)))
      rw [hw5] at h5
      obtain ⟨y0, y1, y2, y3, y4, y5, y6, y7⟩ := cells8 h5.hd
      dsimp only at p0 p1 p2 p3 p4 p5 p6 p7 f0 f1 f2 f3 f4 f5 f6 f7 y0 y1 y2 y3 y4 y5 y6 y7
      have HSAME := sameK h5 (by have := HNN.out; omega) (HIS.out.2.2.2.2.1.mono ST.pre) (HIS.out.2.2.2.2.2.mono ST.pre) (HIS.out.2.2.1.mono ST.pre) (HIS.out.2.2.2.1.mono ST.pre) HC.out.2.2.1
      cases hc : (c3 == 0)
      · rw [hc] at HSAME
        replace HSAME := Lib.hid HSAME
        clear h4 h5 ST
        go_wp2_with fail
        refine HSAME.out.mono ?_
        rintro e w6 ⟨rfl, nsq, h6, hp6⟩
        have HF6 := Lib.hid (show RoundRel P B N w g ns [(w.heap.size + 1 + 1, spotO g cx cy), (w.heap.size + 1, spotO g bx ey), (w.heap.size, spotO g ax ay)] c1 c2 c3 3 w6 nsq from Or.inr (Or.inr (Or.inr ⟨rfl, h6.tl, q1, q2, hc⟩)))
        clear h6 hp6
        go_wp2_with fail
        go_roundw
        case rel => exact ⟨3, nsq, rfl, HF6⟩
        case measure => simp [intOf]
      · rw [hc] at HSAME
        replace HSAME := Lib.hid HSAME
        have HRB : Hid (roundB c1 c2 c3 s = true) := Lib.hid (by simp [roundB, hc])
        clear h4 h5 ST hc
        go_wp2_with fail
        refine HSAME.out.mono ?_
        rintro e w6 ⟨rfl, nsq, h6, hp6⟩
        have HF6 := Lib.hid (h6.grew.retq (M := N + 13) (by omega) (.tuple #[.bool true, .nilIface]))
        clear h6 hp6
        go_wp2
        go_ret2
        rw [HRB.out]
        exact HF6.out
    · have HT := Lib.hid (turnK ST (by have := HNN.out; omega) (HIS.out.1.mono ST.pre) (HIS.out.2.1.mono ST.pre) (HIS.out.2.2.2.2.1.mono ST.pre) (HIS.out.2.2.2.2.2.mono ST.pre) (HIS.out.2.2.1.mono ST.pre) (HIS.out.2.2.2.1.mono ST.pre) HC.out.2.2.2)
      have HRB : Hid (roundB c1 c2 c3 s = (s == 1)) := Lib.hid (by simp [roundB, q1, q2, q3])
      obtain ⟨b0, b1, b2, b3⟩ := cells4 (ST.at (b := w.heap.size) (o := spotO g ax ay) (.tail _ (.tail _ (.head _))))
      obtain ⟨m0, m1, m2, m3⟩ := cells4 (ST.at (b := w.heap.size + 1) (o := spotO g bx ey) (.tail _ (.head _)))
      obtain ⟨n0, n1, n2, n3⟩ := cells4 (ST.at (b := w.heap.size + 1 + 1) (o := spotO g cx cy) (.head _))
      clear ST q1 q2 q3
      go_wp2_with fail
      refine HT.out.mono ?_
      rintro e w6 ⟨rfl, nsq, h6, hp6⟩
      have HF6 := Lib.hid (h6.grew.retq (M := N + 13) (by omega) (.tuple #[.bool (s == 1), .nilIface]))
      clear h6 hp6
      go_wp2
      go_ret2
      rw [HRB.out]
      exact HF6.out
end Go.Proofs.YtgodkfgnhpnhcaaGreatDoor
