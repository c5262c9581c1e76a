/- A part of the proof: contracts of functions and plain laws (FlH, FlI, FlJ, FlK, FltC). -/
import Derived.Test.YtgodkfgnhpnhcaaGreatDoorJ26
import Derived.Test.YtgodkfgnhpnhcaaGreatDoorJ19
import Derived.Deep.DeepCutAuto
import Derived.Test.YtgodkfgnhpnhcaaGreatDoorJ21
import Derived.Test.YtgodkfgnhpnhcaaGreatDoorJ08
import Derived.WalkKit
import Derived.Laws.NewFold
set_option linter.unusedVariables false
set_option linter.unusedSimpArgs false
/- spot.Turn of points of which all differences are none. Printed by gen_spbb.py. -/
namespace Go.Proofs.YtgodkfgnhpnhcaaGreatDoor
open Go.RowKit Go.Maps Go.Stop Go.Extern
abbrev negO (g : Nat) : Obj := .cells #[.pointer (some ⟨g, 0, none⟩), .int .i64 (-1)] 27
abbrev spO (a b : Option Addr) (i j : Int) : Obj := .cells #[.pointer a, .int .i64 i, .pointer b, .int .i64 j] 29
/-- none comes back; the kept blocks are kept -/
def RetN2 (P : Ex → Prop) (B N : Nat) (w : World) (g : Nat) (ns ns' : List Nd) (l : List (Nat × Obj)) (e : Ending) (W' : World) : Prop :=
  e = .returned (.agg #[.pointer (some ⟨g, 0, none⟩), .int .i64 (-1)]) ∧ Stg P B N w g ns W' ns' l
section
variable {P : Ex → Prop} {B N : Nat} {w W : World} {g : Nat} {ns ns' : List Nd} {l : List (Nat × Obj)}
theorem subNK {i j : Int} {b : Option Addr} (h : Stg P B N w g ns W ns' l) (hs : ∀ w', St P B N w' g ns' → SubBad w' (some ⟨g, 0, none⟩) i b j) :
    Calls Tryz.prog 31 #[.agg #[.pointer (some ⟨g, 0, none⟩), .int .i64 i], .agg #[.pointer b, .int .i64 j]] W (RetN2 P B N w g ns ns' l) :=
  (sub_bad (hs W h.st)).mono fun _ _ hr => ⟨hr.1, h.below hr.2⟩
theorem mulNK {v : Value} (h : Stg P B N w g ns W ns' l) : Calls Tryz.prog 24 #[.agg #[.pointer (some ⟨g, 0, none⟩), .int .i64 (-1)], v] W (RetN2 P B N w g ns ns' l) :=
  (mul_bad (Or.inr ⟨g, ns', h.st.dag, rfl⟩)).mono fun _ _ hr => ⟨hr.1, h.below hr.2⟩
end
set_option maxHeartbeats 12800000 in
set_option maxRecDepth 100000 in
theorem turn_bad {P : Ex → Prop} {B N : Nat} {w : World} {g : Nat} {ns : List Nd} {qax qay : Option Addr} {ax ay bx ey cx cy : Int} (hs : St P B N w g ns)
    (s1 : ∀ w', St P B N w' g ns → SubBad w' (some ⟨g, 0, none⟩) bx qax ax) (s2 : ∀ w', St P B N w' g ns → SubBad w' (some ⟨g, 0, none⟩) cy qay ay)
    (s3 : ∀ w', St P B N w' g ns → SubBad w' (some ⟨g, 0, none⟩) ey qay ay) (s4 : ∀ w', St P B N w' g ns → SubBad w' (some ⟨g, 0, none⟩) cx qax ax) :
    Calls Tryz.prog 32 #[.agg #[.pointer qax, .int .i64 ax, .pointer qay, .int .i64 ay], .agg #[.pointer (some ⟨g, 0, none⟩), .int .i64 bx, .pointer (some ⟨g, 0, none⟩), .int .i64 ey], .agg #[.pointer (some ⟨g, 0, none⟩), .int .i64 cx, .pointer (some ⟨g, 0, none⟩), .int .i64 cy]] w (fun e w' => ∃ er n, e = .returned (.tuple #[.int .i64 0, er]) ∧ n ≤ 1000 ∧ ErK (Laid2 w w') w' n er 1 ∧ St P B N w' g ns ∧ DS g w w') := by
  have HSB := Lib.hid (And.intro s1 (And.intro s2 (And.intro s3 s4)))
  have h3 := (((Stg.start hs).alloc (spO qax qay ax ay)).alloc (spO (some ⟨g, 0, none⟩) (some ⟨g, 0, none⟩) bx ey)).alloc (spO (some ⟨g, 0, none⟩) (some ⟨g, 0, none⟩) cx cy)
  obtain ⟨w3, hw3⟩ : ∃ w3, ((w.alloc (spO qax qay ax ay)).alloc (spO (some ⟨g, 0, none⟩) (some ⟨g, 0, none⟩) bx ey)).alloc (spO (some ⟨g, 0, none⟩) (some ⟨g, 0, none⟩) cx cy) = w3 := ⟨_, rfl⟩
  rw [hw3] at h3
  simp only [size_al] at h3
  have ST3 := Lib.hid h3.drew
  have ST3z := Lib.hid (h3.alloc zeroO).drew
  clear hs s1 s2 s3 s4 h3
  obtain ⟨a0, a1, a2, a3⟩ := cells4 (ST3.out.at (b := w.heap.size) (o := spO qax qay ax ay) (by first | exact .head _ | exact .tail _ (.head _) | exact .tail _ (.tail _ (.head _)) | exact .tail _ (.tail _ (.tail _ (.head _))) | exact .tail _ (.tail _ (.tail _ (.tail _ (.head _)))) | exact .tail _ (.tail _ (.tail _ (.tail _ (.tail _ (.head _))))) | exact .tail _ (.tail _ (.tail _ (.tail _ (.tail _ (.tail _ (.head _))))))))
  obtain ⟨e0, e1, e2, e3⟩ := cells4 (ST3.out.at (b := w.heap.size + 1) (o := spO (some ⟨g, 0, none⟩) (some ⟨g, 0, none⟩) bx ey) (by first | exact .head _ | exact .tail _ (.head _) | exact .tail _ (.tail _ (.head _)) | exact .tail _ (.tail _ (.tail _ (.head _))) | exact .tail _ (.tail _ (.tail _ (.tail _ (.head _)))) | exact .tail _ (.tail _ (.tail _ (.tail _ (.tail _ (.head _))))) | exact .tail _ (.tail _ (.tail _ (.tail _ (.tail _ (.tail _ (.head _))))))))
  obtain ⟨c0, c1, c2, c3⟩ := cells4 (ST3.out.at (b := w.heap.size + 1 + 1) (o := spO (some ⟨g, 0, none⟩) (some ⟨g, 0, none⟩) cx cy) (by first | exact .head _ | exact .tail _ (.head _) | exact .tail _ (.tail _ (.head _)) | exact .tail _ (.tail _ (.tail _ (.head _))) | exact .tail _ (.tail _ (.tail _ (.tail _ (.head _)))) | exact .tail _ (.tail _ (.tail _ (.tail _ (.tail _ (.head _))))) | exact .tail _ (.tail _ (.tail _ (.tail _ (.tail _ (.tail _ (.head _))))))))
  obtain ⟨a0z, a1z, a2z, a3z⟩ := cells4 (ST3z.out.at (b := w.heap.size) (o := spO qax qay ax ay) (by first | exact .head _ | exact .tail _ (.head _) | exact .tail _ (.tail _ (.head _)) | exact .tail _ (.tail _ (.tail _ (.head _))) | exact .tail _ (.tail _ (.tail _ (.tail _ (.head _)))) | exact .tail _ (.tail _ (.tail _ (.tail _ (.tail _ (.head _))))) | exact .tail _ (.tail _ (.tail _ (.tail _ (.tail _ (.tail _ (.head _))))))))
  obtain ⟨e0z, e1z, e2z, e3z⟩ := cells4 (ST3z.out.at (b := w.heap.size + 1) (o := spO (some ⟨g, 0, none⟩) (some ⟨g, 0, none⟩) bx ey) (by first | exact .head _ | exact .tail _ (.head _) | exact .tail _ (.tail _ (.head _)) | exact .tail _ (.tail _ (.tail _ (.head _))) | exact .tail _ (.tail _ (.tail _ (.tail _ (.head _)))) | exact .tail _ (.tail _ (.tail _ (.tail _ (.tail _ (.head _))))) | exact .tail _ (.tail _ (.tail _ (.tail _ (.tail _ (.tail _ (.head _))))))))
  obtain ⟨c0z, c1z, c2z, c3z⟩ := cells4 (ST3z.out.at (b := w.heap.size + 1 + 1) (o := spO (some ⟨g, 0, none⟩) (some ⟨g, 0, none⟩) cx cy) (by first | exact .head _ | exact .tail _ (.head _) | exact .tail _ (.tail _ (.head _)) | exact .tail _ (.tail _ (.tail _ (.head _))) | exact .tail _ (.tail _ (.tail _ (.tail _ (.head _)))) | exact .tail _ (.tail _ (.tail _ (.tail _ (.tail _ (.head _))))) | exact .tail _ (.tail _ (.tail _ (.tail _ (.tail _ (.tail _ (.head _))))))))
  have hlt := ST3.out.lt (p := (w.heap.size, spO qax qay ax ay)) (by first | exact .head _ | exact .tail _ (.head _) | exact .tail _ (.tail _ (.head _)) | exact .tail _ (.tail _ (.tail _ (.head _))) | exact .tail _ (.tail _ (.tail _ (.tail _ (.head _)))) | exact .tail _ (.tail _ (.tail _ (.tail _ (.tail _ (.head _))))) | exact .tail _ (.tail _ (.tail _ (.tail _ (.tail _ (.tail _ (.head _)))))))
  replace hlt : _ < w3.heap.size := hlt
  have hne0p : w3.heap.size ≠ w.heap.size := by omega
  have hnf0p : w.heap.size ≠ w3.heap.size := by omega
  clear hlt
  have hlt := ST3.out.lt (p := (w.heap.size + 1, spO (some ⟨g, 0, none⟩) (some ⟨g, 0, none⟩) bx ey)) (by first | exact .head _ | exact .tail _ (.head _) | exact .tail _ (.tail _ (.head _)) | exact .tail _ (.tail _ (.tail _ (.head _))) | exact .tail _ (.tail _ (.tail _ (.tail _ (.head _)))) | exact .tail _ (.tail _ (.tail _ (.tail _ (.tail _ (.head _))))) | exact .tail _ (.tail _ (.tail _ (.tail _ (.tail _ (.tail _ (.head _)))))))
  replace hlt : _ < w3.heap.size := hlt
  have hne1p : w3.heap.size ≠ w.heap.size + 1 := by omega
  have hnf1p : w.heap.size + 1 ≠ w3.heap.size := by omega
  clear hlt
  have hlt := ST3.out.lt (p := (w.heap.size + 1 + 1, spO (some ⟨g, 0, none⟩) (some ⟨g, 0, none⟩) cx cy)) (by first | exact .head _ | exact .tail _ (.head _) | exact .tail _ (.tail _ (.head _)) | exact .tail _ (.tail _ (.tail _ (.head _))) | exact .tail _ (.tail _ (.tail _ (.tail _ (.head _)))) | exact .tail _ (.tail _ (.tail _ (.tail _ (.tail _ (.head _))))) | exact .tail _ (.tail _ (.tail _ (.tail _ (.tail _ (.tail _ (.head _)))))))
  replace hlt : _ < w3.heap.size := hlt
  have hne2p : w3.heap.size ≠ w.heap.size + 1 + 1 := by omega
  have hnf2p : w.heap.size + 1 + 1 ≠ w3.heap.size := by omega
  clear hlt
  go_enter Tryz.func32, Tryz.ntmps32
  go_upto_region 1 with fail
  go_cut [8] (fun v8 wx => ∃ bl : Nat, v8 = .pointer (some ⟨bl, 0, none⟩) ∧ Hid (Stg P B N w g ns wx ns ((bl, negO g) :: (w.heap.size + 1 + 1, spO (some ⟨g, 0, none⟩) (some ⟨g, 0, none⟩) cx cy) :: (w.heap.size + 1, spO (some ⟨g, 0, none⟩) (some ⟨g, 0, none⟩) bx ey) :: (w.heap.size, spO qax qay ax ay) :: [])))
  case first =>
    go_region_held3 (fun w' => w'.cell? ⟨w.heap.size + 1, 0, none⟩ = some (.pointer (some ⟨g, 0, none⟩)) ∧ w'.cell? ⟨w.heap.size + 1, 1, none⟩ = some (.int .i64 bx) ∧ w'.cell? ⟨w.heap.size, 0, none⟩ = some (.pointer qax) ∧ w'.cell? ⟨w.heap.size, 1, none⟩ = some (.int .i64 ax) ∧ w'.cell? ⟨w.heap.size + 1 + 1, 2, none⟩ = some (.pointer (some ⟨g, 0, none⟩)) ∧ w'.cell? ⟨w.heap.size + 1 + 1, 3, none⟩ = some (.int .i64 cy) ∧ w'.cell? ⟨w.heap.size, 2, none⟩ = some (.pointer qay) ∧ w'.cell? ⟨w.heap.size, 3, none⟩ = some (.int .i64 ay)) (go_keep)
      (first
      | (go_at_call 31
         (first | (with_reducible refine (subNK ST3.out HSB.out.1).mono ?_) | (with_reducible refine (subNK ST3z.out HSB.out.1).mono ?_))
         rintro e w4 ⟨rfl, h1⟩
         (try simp only [size_al] at h1)
         have ST4 := Lib.hid h1
         obtain ⟨a0, a1, a2, a3⟩ := cells4 (ST4.out.at (b := w.heap.size) (o := spO qax qay ax ay) (by first | exact .head _ | exact .tail _ (.head _) | exact .tail _ (.tail _ (.head _)) | exact .tail _ (.tail _ (.tail _ (.head _))) | exact .tail _ (.tail _ (.tail _ (.tail _ (.head _)))) | exact .tail _ (.tail _ (.tail _ (.tail _ (.tail _ (.head _))))) | exact .tail _ (.tail _ (.tail _ (.tail _ (.tail _ (.tail _ (.head _))))))))
         obtain ⟨e0, e1, e2, e3⟩ := cells4 (ST4.out.at (b := w.heap.size + 1) (o := spO (some ⟨g, 0, none⟩) (some ⟨g, 0, none⟩) bx ey) (by first | exact .head _ | exact .tail _ (.head _) | exact .tail _ (.tail _ (.head _)) | exact .tail _ (.tail _ (.tail _ (.head _))) | exact .tail _ (.tail _ (.tail _ (.tail _ (.head _)))) | exact .tail _ (.tail _ (.tail _ (.tail _ (.tail _ (.head _))))) | exact .tail _ (.tail _ (.tail _ (.tail _ (.tail _ (.tail _ (.head _))))))))
         obtain ⟨c0, c1, c2, c3⟩ := cells4 (ST4.out.at (b := w.heap.size + 1 + 1) (o := spO (some ⟨g, 0, none⟩) (some ⟨g, 0, none⟩) cx cy) (by first | exact .head _ | exact .tail _ (.head _) | exact .tail _ (.tail _ (.head _)) | exact .tail _ (.tail _ (.tail _ (.head _))) | exact .tail _ (.tail _ (.tail _ (.tail _ (.head _)))) | exact .tail _ (.tail _ (.tail _ (.tail _ (.tail _ (.head _))))) | exact .tail _ (.tail _ (.tail _ (.tail _ (.tail _ (.tail _ (.head _))))))))
         have hlt := ST4.out.lt (p := (w.heap.size, spO qax qay ax ay)) (by first | exact .head _ | exact .tail _ (.head _) | exact .tail _ (.tail _ (.head _)) | exact .tail _ (.tail _ (.tail _ (.head _))) | exact .tail _ (.tail _ (.tail _ (.tail _ (.head _)))) | exact .tail _ (.tail _ (.tail _ (.tail _ (.tail _ (.head _))))) | exact .tail _ (.tail _ (.tail _ (.tail _ (.tail _ (.tail _ (.head _)))))))
         simp only at hlt
         have hne0p : w4.heap.size ≠ w.heap.size := by omega
         have hnf0p : w.heap.size ≠ w4.heap.size := by omega
         have hne0q : w4.heap.size + 1 ≠ w.heap.size := by omega
         have hnf0q : w.heap.size ≠ w4.heap.size + 1 := by omega
         clear hlt
         have hlt := ST4.out.lt (p := (w.heap.size + 1, spO (some ⟨g, 0, none⟩) (some ⟨g, 0, none⟩) bx ey)) (by first | exact .head _ | exact .tail _ (.head _) | exact .tail _ (.tail _ (.head _)) | exact .tail _ (.tail _ (.tail _ (.head _))) | exact .tail _ (.tail _ (.tail _ (.tail _ (.head _)))) | exact .tail _ (.tail _ (.tail _ (.tail _ (.tail _ (.head _))))) | exact .tail _ (.tail _ (.tail _ (.tail _ (.tail _ (.tail _ (.head _)))))))
         simp only at hlt
         have hne1p : w4.heap.size ≠ w.heap.size + 1 := by omega
         have hnf1p : w.heap.size + 1 ≠ w4.heap.size := by omega
         have hne1q : w4.heap.size + 1 ≠ w.heap.size + 1 := by omega
         have hnf1q : w.heap.size + 1 ≠ w4.heap.size + 1 := by omega
         clear hlt
         have hlt := ST4.out.lt (p := (w.heap.size + 1 + 1, spO (some ⟨g, 0, none⟩) (some ⟨g, 0, none⟩) cx cy)) (by first | exact .head _ | exact .tail _ (.head _) | exact .tail _ (.tail _ (.head _)) | exact .tail _ (.tail _ (.tail _ (.head _))) | exact .tail _ (.tail _ (.tail _ (.tail _ (.head _)))) | exact .tail _ (.tail _ (.tail _ (.tail _ (.tail _ (.head _))))) | exact .tail _ (.tail _ (.tail _ (.tail _ (.tail _ (.tail _ (.head _)))))))
         simp only at hlt
         have hne2p : w4.heap.size ≠ w.heap.size + 1 + 1 := by omega
         have hnf2p : w.heap.size + 1 + 1 ≠ w4.heap.size := by omega
         have hne2q : w4.heap.size + 1 ≠ w.heap.size + 1 + 1 := by omega
         have hnf2q : w.heap.size + 1 + 1 ≠ w4.heap.size + 1 := by omega
         clear hlt
         clear h1)
      | (go_at_call 31
         (first | (with_reducible refine (subNK ST4.out HSB.out.2.1).mono ?_) | (with_reducible refine (subNK (ST4.out.alloc zeroO) HSB.out.2.1).mono ?_))
         rintro e w5 ⟨rfl, h1⟩
         (try simp only [size_al] at h1)
         have ST5 := Lib.hid h1
         obtain ⟨a0, a1, a2, a3⟩ := cells4 (ST5.out.at (b := w.heap.size) (o := spO qax qay ax ay) (by first | exact .head _ | exact .tail _ (.head _) | exact .tail _ (.tail _ (.head _)) | exact .tail _ (.tail _ (.tail _ (.head _))) | exact .tail _ (.tail _ (.tail _ (.tail _ (.head _)))) | exact .tail _ (.tail _ (.tail _ (.tail _ (.tail _ (.head _))))) | exact .tail _ (.tail _ (.tail _ (.tail _ (.tail _ (.tail _ (.head _))))))))
         obtain ⟨e0, e1, e2, e3⟩ := cells4 (ST5.out.at (b := w.heap.size + 1) (o := spO (some ⟨g, 0, none⟩) (some ⟨g, 0, none⟩) bx ey) (by first | exact .head _ | exact .tail _ (.head _) | exact .tail _ (.tail _ (.head _)) | exact .tail _ (.tail _ (.tail _ (.head _))) | exact .tail _ (.tail _ (.tail _ (.tail _ (.head _)))) | exact .tail _ (.tail _ (.tail _ (.tail _ (.tail _ (.head _))))) | exact .tail _ (.tail _ (.tail _ (.tail _ (.tail _ (.tail _ (.head _))))))))
         obtain ⟨c0, c1, c2, c3⟩ := cells4 (ST5.out.at (b := w.heap.size + 1 + 1) (o := spO (some ⟨g, 0, none⟩) (some ⟨g, 0, none⟩) cx cy) (by first | exact .head _ | exact .tail _ (.head _) | exact .tail _ (.tail _ (.head _)) | exact .tail _ (.tail _ (.tail _ (.head _))) | exact .tail _ (.tail _ (.tail _ (.tail _ (.head _)))) | exact .tail _ (.tail _ (.tail _ (.tail _ (.tail _ (.head _))))) | exact .tail _ (.tail _ (.tail _ (.tail _ (.tail _ (.tail _ (.head _))))))))
         have hlt := ST5.out.lt (p := (w.heap.size, spO qax qay ax ay)) (by first | exact .head _ | exact .tail _ (.head _) | exact .tail _ (.tail _ (.head _)) | exact .tail _ (.tail _ (.tail _ (.head _))) | exact .tail _ (.tail _ (.tail _ (.tail _ (.head _)))) | exact .tail _ (.tail _ (.tail _ (.tail _ (.tail _ (.head _))))) | exact .tail _ (.tail _ (.tail _ (.tail _ (.tail _ (.tail _ (.head _)))))))
         simp only at hlt
         have hne0p : w5.heap.size ≠ w.heap.size := by omega
         have hnf0p : w.heap.size ≠ w5.heap.size := by omega
         have hne0q : w5.heap.size + 1 ≠ w.heap.size := by omega
         have hnf0q : w.heap.size ≠ w5.heap.size + 1 := by omega
         clear hlt
         have hlt := ST5.out.lt (p := (w.heap.size + 1, spO (some ⟨g, 0, none⟩) (some ⟨g, 0, none⟩) bx ey)) (by first | exact .head _ | exact .tail _ (.head _) | exact .tail _ (.tail _ (.head _)) | exact .tail _ (.tail _ (.tail _ (.head _))) | exact .tail _ (.tail _ (.tail _ (.tail _ (.head _)))) | exact .tail _ (.tail _ (.tail _ (.tail _ (.tail _ (.head _))))) | exact .tail _ (.tail _ (.tail _ (.tail _ (.tail _ (.tail _ (.head _)))))))
         simp only at hlt
         have hne1p : w5.heap.size ≠ w.heap.size + 1 := by omega
         have hnf1p : w.heap.size + 1 ≠ w5.heap.size := by omega
         have hne1q : w5.heap.size + 1 ≠ w.heap.size + 1 := by omega
         have hnf1q : w.heap.size + 1 ≠ w5.heap.size + 1 := by omega
         clear hlt
         have hlt := ST5.out.lt (p := (w.heap.size + 1 + 1, spO (some ⟨g, 0, none⟩) (some ⟨g, 0, none⟩) cx cy)) (by first | exact .head _ | exact .tail _ (.head _) | exact .tail _ (.tail _ (.head _)) | exact .tail _ (.tail _ (.tail _ (.head _))) | exact .tail _ (.tail _ (.tail _ (.tail _ (.head _)))) | exact .tail _ (.tail _ (.tail _ (.tail _ (.tail _ (.head _))))) | exact .tail _ (.tail _ (.tail _ (.tail _ (.tail _ (.tail _ (.head _)))))))
         simp only at hlt
         have hne2p : w5.heap.size ≠ w.heap.size + 1 + 1 := by omega
         have hnf2p : w.heap.size + 1 + 1 ≠ w5.heap.size := by omega
         have hne2q : w5.heap.size + 1 ≠ w.heap.size + 1 + 1 := by omega
         have hnf2q : w.heap.size + 1 + 1 ≠ w5.heap.size + 1 := by omega
         clear hlt
         clear h1)
      | (go_at_call 24
         (first | (have hq := mulNK (v := .slice (some ⟨w5.heap.size, 0, none⟩) 1 1) (ST5.out.alloc (negO g)); with_reducible refine hq.mono ?_) | (have hq := mulNK (v := .slice (some ⟨w5.heap.size + 1, 0, none⟩) 1 1) (ST5.out.alloc (negO g)); with_reducible refine hq.mono ?_) | (have hq := mulNK (v := .slice (some ⟨w5.heap.size, 0, none⟩) 1 1) ((ST5.out.alloc zeroO).alloc (negO g)); with_reducible refine hq.mono ?_) | (have hq := mulNK (v := .slice (some ⟨w5.heap.size + 1, 0, none⟩) 1 1) ((ST5.out.alloc zeroO).alloc (negO g)); with_reducible refine hq.mono ?_) | (have hq := mulNK (v := .slice (some ⟨w5.heap.size, 0, none⟩) 1 1) ((ST5.out.alloc (negO g)).alloc zeroO); with_reducible refine hq.mono ?_) | (have hq := mulNK (v := .slice (some ⟨w5.heap.size + 1, 0, none⟩) 1 1) ((ST5.out.alloc (negO g)).alloc zeroO); with_reducible refine hq.mono ?_))
         rintro e w7 ⟨rfl, h1⟩
         (try simp only [size_al] at h1)
         have ST7 := Lib.hid h1
         obtain ⟨a0, a1, a2, a3⟩ := cells4 (ST7.out.at (b := w.heap.size) (o := spO qax qay ax ay) (by first | exact .head _ | exact .tail _ (.head _) | exact .tail _ (.tail _ (.head _)) | exact .tail _ (.tail _ (.tail _ (.head _))) | exact .tail _ (.tail _ (.tail _ (.tail _ (.head _)))) | exact .tail _ (.tail _ (.tail _ (.tail _ (.tail _ (.head _))))) | exact .tail _ (.tail _ (.tail _ (.tail _ (.tail _ (.tail _ (.head _))))))))
         obtain ⟨e0, e1, e2, e3⟩ := cells4 (ST7.out.at (b := w.heap.size + 1) (o := spO (some ⟨g, 0, none⟩) (some ⟨g, 0, none⟩) bx ey) (by first | exact .head _ | exact .tail _ (.head _) | exact .tail _ (.tail _ (.head _)) | exact .tail _ (.tail _ (.tail _ (.head _))) | exact .tail _ (.tail _ (.tail _ (.tail _ (.head _)))) | exact .tail _ (.tail _ (.tail _ (.tail _ (.tail _ (.head _))))) | exact .tail _ (.tail _ (.tail _ (.tail _ (.tail _ (.tail _ (.head _))))))))
         obtain ⟨c0, c1, c2, c3⟩ := cells4 (ST7.out.at (b := w.heap.size + 1 + 1) (o := spO (some ⟨g, 0, none⟩) (some ⟨g, 0, none⟩) cx cy) (by first | exact .head _ | exact .tail _ (.head _) | exact .tail _ (.tail _ (.head _)) | exact .tail _ (.tail _ (.tail _ (.head _))) | exact .tail _ (.tail _ (.tail _ (.tail _ (.head _)))) | exact .tail _ (.tail _ (.tail _ (.tail _ (.tail _ (.head _))))) | exact .tail _ (.tail _ (.tail _ (.tail _ (.tail _ (.tail _ (.head _))))))))
         have hlt := ST7.out.lt (p := (w.heap.size, spO qax qay ax ay)) (by first | exact .head _ | exact .tail _ (.head _) | exact .tail _ (.tail _ (.head _)) | exact .tail _ (.tail _ (.tail _ (.head _))) | exact .tail _ (.tail _ (.tail _ (.tail _ (.head _)))) | exact .tail _ (.tail _ (.tail _ (.tail _ (.tail _ (.head _))))) | exact .tail _ (.tail _ (.tail _ (.tail _ (.tail _ (.tail _ (.head _)))))))
         simp only at hlt
         have hne0p : w7.heap.size ≠ w.heap.size := by omega
         have hnf0p : w.heap.size ≠ w7.heap.size := by omega
         have hne0q : w7.heap.size + 1 ≠ w.heap.size := by omega
         have hnf0q : w.heap.size ≠ w7.heap.size + 1 := by omega
         clear hlt
         have hlt := ST7.out.lt (p := (w.heap.size + 1, spO (some ⟨g, 0, none⟩) (some ⟨g, 0, none⟩) bx ey)) (by first | exact .head _ | exact .tail _ (.head _) | exact .tail _ (.tail _ (.head _)) | exact .tail _ (.tail _ (.tail _ (.head _))) | exact .tail _ (.tail _ (.tail _ (.tail _ (.head _)))) | exact .tail _ (.tail _ (.tail _ (.tail _ (.tail _ (.head _))))) | exact .tail _ (.tail _ (.tail _ (.tail _ (.tail _ (.tail _ (.head _)))))))
         simp only at hlt
         have hne1p : w7.heap.size ≠ w.heap.size + 1 := by omega
         have hnf1p : w.heap.size + 1 ≠ w7.heap.size := by omega
         have hne1q : w7.heap.size + 1 ≠ w.heap.size + 1 := by omega
         have hnf1q : w.heap.size + 1 ≠ w7.heap.size + 1 := by omega
         clear hlt
         have hlt := ST7.out.lt (p := (w.heap.size + 1 + 1, spO (some ⟨g, 0, none⟩) (some ⟨g, 0, none⟩) cx cy)) (by first | exact .head _ | exact .tail _ (.head _) | exact .tail _ (.tail _ (.head _)) | exact .tail _ (.tail _ (.tail _ (.head _))) | exact .tail _ (.tail _ (.tail _ (.tail _ (.head _)))) | exact .tail _ (.tail _ (.tail _ (.tail _ (.tail _ (.head _))))) | exact .tail _ (.tail _ (.tail _ (.tail _ (.tail _ (.tail _ (.head _)))))))
         simp only at hlt
         have hne2p : w7.heap.size ≠ w.heap.size + 1 + 1 := by omega
         have hnf2p : w.heap.size + 1 + 1 ≠ w7.heap.size := by omega
         have hne2q : w7.heap.size + 1 ≠ w.heap.size + 1 + 1 := by omega
         have hnf2q : w.heap.size + 1 + 1 ≠ w7.heap.size + 1 := by omega
         clear hlt
         (first | (have hz : w7.heap[(_ : Nat)]? = some zeroO := h1.hd2; obtain ⟨r0, r1, f0, f1⟩ := cells2 hz; clear hz) | (have hz : w7.heap[(_ : Nat)]? = some zeroO := h1.hd; obtain ⟨r0, r1, f0, f1⟩ := cells2 hz; clear hz) | skip)
         clear h1))
    all_goals
      go_wp2_with fail
      go_meet
      case rel => exact ⟨_, rfl, Lib.hid (by first | exact ST7.out.tl.write2 | exact ST7.out.write2.tl2 | exact ST7.out.tl.alloc _)⟩
  case rest =>
    obtain ⟨bl1, rfl, HL⟩ := hcut
    obtain ⟨w10, rfl⟩ : ∃ wo : World, wo = wc := ⟨_, rfl⟩
    have STd := Lib.hid HL.out.drew
    have STdz := Lib.hid (HL.out.alloc zeroO).drew
    obtain ⟨a0x, a1x, a2x, a3x⟩ := cells4 (STd.out.at (b := w.heap.size) (o := spO qax qay ax ay) (by first | exact .head _ | exact .tail _ (.head _) | exact .tail _ (.tail _ (.head _)) | exact .tail _ (.tail _ (.tail _ (.head _))) | exact .tail _ (.tail _ (.tail _ (.tail _ (.head _)))) | exact .tail _ (.tail _ (.tail _ (.tail _ (.tail _ (.head _))))) | exact .tail _ (.tail _ (.tail _ (.tail _ (.tail _ (.tail _ (.head _))))))))
    obtain ⟨e0x, e1x, e2x, e3x⟩ := cells4 (STd.out.at (b := w.heap.size + 1) (o := spO (some ⟨g, 0, none⟩) (some ⟨g, 0, none⟩) bx ey) (by first | exact .head _ | exact .tail _ (.head _) | exact .tail _ (.tail _ (.head _)) | exact .tail _ (.tail _ (.tail _ (.head _))) | exact .tail _ (.tail _ (.tail _ (.tail _ (.head _)))) | exact .tail _ (.tail _ (.tail _ (.tail _ (.tail _ (.head _))))) | exact .tail _ (.tail _ (.tail _ (.tail _ (.tail _ (.tail _ (.head _))))))))
    obtain ⟨c0x, c1x, c2x, c3x⟩ := cells4 (STd.out.at (b := w.heap.size + 1 + 1) (o := spO (some ⟨g, 0, none⟩) (some ⟨g, 0, none⟩) cx cy) (by first | exact .head _ | exact .tail _ (.head _) | exact .tail _ (.tail _ (.head _)) | exact .tail _ (.tail _ (.tail _ (.head _))) | exact .tail _ (.tail _ (.tail _ (.tail _ (.head _)))) | exact .tail _ (.tail _ (.tail _ (.tail _ (.tail _ (.head _))))) | exact .tail _ (.tail _ (.tail _ (.tail _ (.tail _ (.tail _ (.head _))))))))
    obtain ⟨a0y, a1y, a2y, a3y⟩ := cells4 (STdz.out.at (b := w.heap.size) (o := spO qax qay ax ay) (by first | exact .head _ | exact .tail _ (.head _) | exact .tail _ (.tail _ (.head _)) | exact .tail _ (.tail _ (.tail _ (.head _))) | exact .tail _ (.tail _ (.tail _ (.tail _ (.head _)))) | exact .tail _ (.tail _ (.tail _ (.tail _ (.tail _ (.head _))))) | exact .tail _ (.tail _ (.tail _ (.tail _ (.tail _ (.tail _ (.head _))))))))
    obtain ⟨e0y, e1y, e2y, e3y⟩ := cells4 (STdz.out.at (b := w.heap.size + 1) (o := spO (some ⟨g, 0, none⟩) (some ⟨g, 0, none⟩) bx ey) (by first | exact .head _ | exact .tail _ (.head _) | exact .tail _ (.tail _ (.head _)) | exact .tail _ (.tail _ (.tail _ (.head _))) | exact .tail _ (.tail _ (.tail _ (.tail _ (.head _)))) | exact .tail _ (.tail _ (.tail _ (.tail _ (.tail _ (.head _))))) | exact .tail _ (.tail _ (.tail _ (.tail _ (.tail _ (.tail _ (.head _))))))))
    obtain ⟨c0y, c1y, c2y, c3y⟩ := cells4 (STdz.out.at (b := w.heap.size + 1 + 1) (o := spO (some ⟨g, 0, none⟩) (some ⟨g, 0, none⟩) cx cy) (by first | exact .head _ | exact .tail _ (.head _) | exact .tail _ (.tail _ (.head _)) | exact .tail _ (.tail _ (.tail _ (.head _))) | exact .tail _ (.tail _ (.tail _ (.tail _ (.head _)))) | exact .tail _ (.tail _ (.tail _ (.tail _ (.tail _ (.head _))))) | exact .tail _ (.tail _ (.tail _ (.tail _ (.tail _ (.tail _ (.head _))))))))
    have hlt := STd.out.lt (p := (w.heap.size, spO qax qay ax ay)) (by first | exact .head _ | exact .tail _ (.head _) | exact .tail _ (.tail _ (.head _)) | exact .tail _ (.tail _ (.tail _ (.head _))) | exact .tail _ (.tail _ (.tail _ (.tail _ (.head _)))) | exact .tail _ (.tail _ (.tail _ (.tail _ (.tail _ (.head _))))) | exact .tail _ (.tail _ (.tail _ (.tail _ (.tail _ (.tail _ (.head _)))))))
    replace hlt : _ < w10.heap.size := hlt
    have hne0y : w10.heap.size ≠ w.heap.size := by omega
    have hnf0y : w.heap.size ≠ w10.heap.size := by omega
    clear hlt
    have hlt := STd.out.lt (p := (w.heap.size + 1, spO (some ⟨g, 0, none⟩) (some ⟨g, 0, none⟩) bx ey)) (by first | exact .head _ | exact .tail _ (.head _) | exact .tail _ (.tail _ (.head _)) | exact .tail _ (.tail _ (.tail _ (.head _))) | exact .tail _ (.tail _ (.tail _ (.tail _ (.head _)))) | exact .tail _ (.tail _ (.tail _ (.tail _ (.tail _ (.head _))))) | exact .tail _ (.tail _ (.tail _ (.tail _ (.tail _ (.tail _ (.head _)))))))
    replace hlt : _ < w10.heap.size := hlt
    have hne1y : w10.heap.size ≠ w.heap.size + 1 := by omega
    have hnf1y : w.heap.size + 1 ≠ w10.heap.size := by omega
    clear hlt
    have hlt := STd.out.lt (p := (w.heap.size + 1 + 1, spO (some ⟨g, 0, none⟩) (some ⟨g, 0, none⟩) cx cy)) (by first | exact .head _ | exact .tail _ (.head _) | exact .tail _ (.tail _ (.head _)) | exact .tail _ (.tail _ (.tail _ (.head _))) | exact .tail _ (.tail _ (.tail _ (.tail _ (.head _)))) | exact .tail _ (.tail _ (.tail _ (.tail _ (.tail _ (.head _))))) | exact .tail _ (.tail _ (.tail _ (.tail _ (.tail _ (.tail _ (.head _)))))))
    replace hlt : _ < w10.heap.size := hlt
    have hne2y : w10.heap.size ≠ w.heap.size + 1 + 1 := by omega
    have hnf2y : w.heap.size + 1 + 1 ≠ w10.heap.size := by omega
    clear hlt
    clear hw3 a0 a0z a1 a1z a2 a2z a3 a3z e0 e0z e1 e1z e2 e2z e3 e3z c0 c0z c1 c1z c2 c2z c3 c3z
    go_upto_region 2 with fail
    go_cut [9] (fun v8 wx => ∃ bl : Nat, v8 = .pointer (some ⟨bl, 0, none⟩) ∧ Hid (Stg P B N w g ns wx ns ((bl, negO g) :: (bl1, negO g) :: (w.heap.size + 1 + 1, spO (some ⟨g, 0, none⟩) (some ⟨g, 0, none⟩) cx cy) :: (w.heap.size + 1, spO (some ⟨g, 0, none⟩) (some ⟨g, 0, none⟩) bx ey) :: (w.heap.size, spO qax qay ax ay) :: [])))
    case first =>
      go_region_held3 (fun w' => w'.cell? ⟨w.heap.size + 1, 2, none⟩ = some (.pointer (some ⟨g, 0, none⟩)) ∧ w'.cell? ⟨w.heap.size + 1, 3, none⟩ = some (.int .i64 ey) ∧ w'.cell? ⟨w.heap.size, 2, none⟩ = some (.pointer qay) ∧ w'.cell? ⟨w.heap.size, 3, none⟩ = some (.int .i64 ay) ∧ w'.cell? ⟨w.heap.size + 1 + 1, 0, none⟩ = some (.pointer (some ⟨g, 0, none⟩)) ∧ w'.cell? ⟨w.heap.size + 1 + 1, 1, none⟩ = some (.int .i64 cx) ∧ w'.cell? ⟨w.heap.size, 0, none⟩ = some (.pointer qax) ∧ w'.cell? ⟨w.heap.size, 1, none⟩ = some (.int .i64 ax)) (go_keep)
        (first
        | (go_at_call 31
           (first | (with_reducible refine (subNK STd.out HSB.out.2.2.1).mono ?_) | (with_reducible refine (subNK STdz.out HSB.out.2.2.1).mono ?_))
           rintro e w4 ⟨rfl, h1⟩
           (try simp only [size_al] at h1)
           have ST4 := Lib.hid h1
           obtain ⟨a0, a1, a2, a3⟩ := cells4 (ST4.out.at (b := w.heap.size) (o := spO qax qay ax ay) (by first | exact .head _ | exact .tail _ (.head _) | exact .tail _ (.tail _ (.head _)) | exact .tail _ (.tail _ (.tail _ (.head _))) | exact .tail _ (.tail _ (.tail _ (.tail _ (.head _)))) | exact .tail _ (.tail _ (.tail _ (.tail _ (.tail _ (.head _))))) | exact .tail _ (.tail _ (.tail _ (.tail _ (.tail _ (.tail _ (.head _))))))))
           obtain ⟨e0, e1, e2, e3⟩ := cells4 (ST4.out.at (b := w.heap.size + 1) (o := spO (some ⟨g, 0, none⟩) (some ⟨g, 0, none⟩) bx ey) (by first | exact .head _ | exact .tail _ (.head _) | exact .tail _ (.tail _ (.head _)) | exact .tail _ (.tail _ (.tail _ (.head _))) | exact .tail _ (.tail _ (.tail _ (.tail _ (.head _)))) | exact .tail _ (.tail _ (.tail _ (.tail _ (.tail _ (.head _))))) | exact .tail _ (.tail _ (.tail _ (.tail _ (.tail _ (.tail _ (.head _))))))))
           obtain ⟨c0, c1, c2, c3⟩ := cells4 (ST4.out.at (b := w.heap.size + 1 + 1) (o := spO (some ⟨g, 0, none⟩) (some ⟨g, 0, none⟩) cx cy) (by first | exact .head _ | exact .tail _ (.head _) | exact .tail _ (.tail _ (.head _)) | exact .tail _ (.tail _ (.tail _ (.head _))) | exact .tail _ (.tail _ (.tail _ (.tail _ (.head _)))) | exact .tail _ (.tail _ (.tail _ (.tail _ (.tail _ (.head _))))) | exact .tail _ (.tail _ (.tail _ (.tail _ (.tail _ (.tail _ (.head _))))))))
           have hlt := ST4.out.lt (p := (w.heap.size, spO qax qay ax ay)) (by first | exact .head _ | exact .tail _ (.head _) | exact .tail _ (.tail _ (.head _)) | exact .tail _ (.tail _ (.tail _ (.head _))) | exact .tail _ (.tail _ (.tail _ (.tail _ (.head _)))) | exact .tail _ (.tail _ (.tail _ (.tail _ (.tail _ (.head _))))) | exact .tail _ (.tail _ (.tail _ (.tail _ (.tail _ (.tail _ (.head _)))))))
           simp only at hlt
           have hne0p : w4.heap.size ≠ w.heap.size := by omega
           have hnf0p : w.heap.size ≠ w4.heap.size := by omega
           have hne0q : w4.heap.size + 1 ≠ w.heap.size := by omega
           have hnf0q : w.heap.size ≠ w4.heap.size + 1 := by omega
           clear hlt
           have hlt := ST4.out.lt (p := (w.heap.size + 1, spO (some ⟨g, 0, none⟩) (some ⟨g, 0, none⟩) bx ey)) (by first | exact .head _ | exact .tail _ (.head _) | exact .tail _ (.tail _ (.head _)) | exact .tail _ (.tail _ (.tail _ (.head _))) | exact .tail _ (.tail _ (.tail _ (.tail _ (.head _)))) | exact .tail _ (.tail _ (.tail _ (.tail _ (.tail _ (.head _))))) | exact .tail _ (.tail _ (.tail _ (.tail _ (.tail _ (.tail _ (.head _)))))))
           simp only at hlt
           have hne1p : w4.heap.size ≠ w.heap.size + 1 := by omega
           have hnf1p : w.heap.size + 1 ≠ w4.heap.size := by omega
           have hne1q : w4.heap.size + 1 ≠ w.heap.size + 1 := by omega
           have hnf1q : w.heap.size + 1 ≠ w4.heap.size + 1 := by omega
           clear hlt
           have hlt := ST4.out.lt (p := (w.heap.size + 1 + 1, spO (some ⟨g, 0, none⟩) (some ⟨g, 0, none⟩) cx cy)) (by first | exact .head _ | exact .tail _ (.head _) | exact .tail _ (.tail _ (.head _)) | exact .tail _ (.tail _ (.tail _ (.head _))) | exact .tail _ (.tail _ (.tail _ (.tail _ (.head _)))) | exact .tail _ (.tail _ (.tail _ (.tail _ (.tail _ (.head _))))) | exact .tail _ (.tail _ (.tail _ (.tail _ (.tail _ (.tail _ (.head _)))))))
           simp only at hlt
           have hne2p : w4.heap.size ≠ w.heap.size + 1 + 1 := by omega
           have hnf2p : w.heap.size + 1 + 1 ≠ w4.heap.size := by omega
           have hne2q : w4.heap.size + 1 ≠ w.heap.size + 1 + 1 := by omega
           have hnf2q : w.heap.size + 1 + 1 ≠ w4.heap.size + 1 := by omega
           clear hlt
           clear h1)
        | (go_at_call 31
           (first | (with_reducible refine (subNK ST4.out HSB.out.2.2.2).mono ?_) | (with_reducible refine (subNK (ST4.out.alloc zeroO) HSB.out.2.2.2).mono ?_))
           rintro e w5 ⟨rfl, h1⟩
           (try simp only [size_al] at h1)
           have ST5 := Lib.hid h1
           obtain ⟨a0, a1, a2, a3⟩ := cells4 (ST5.out.at (b := w.heap.size) (o := spO qax qay ax ay) (by first | exact .head _ | exact .tail _ (.head _) | exact .tail _ (.tail _ (.head _)) | exact .tail _ (.tail _ (.tail _ (.head _))) | exact .tail _ (.tail _ (.tail _ (.tail _ (.head _)))) | exact .tail _ (.tail _ (.tail _ (.tail _ (.tail _ (.head _))))) | exact .tail _ (.tail _ (.tail _ (.tail _ (.tail _ (.tail _ (.head _))))))))
           obtain ⟨e0, e1, e2, e3⟩ := cells4 (ST5.out.at (b := w.heap.size + 1) (o := spO (some ⟨g, 0, none⟩) (some ⟨g, 0, none⟩) bx ey) (by first | exact .head _ | exact .tail _ (.head _) | exact .tail _ (.tail _ (.head _)) | exact .tail _ (.tail _ (.tail _ (.head _))) | exact .tail _ (.tail _ (.tail _ (.tail _ (.head _)))) | exact .tail _ (.tail _ (.tail _ (.tail _ (.tail _ (.head _))))) | exact .tail _ (.tail _ (.tail _ (.tail _ (.tail _ (.tail _ (.head _))))))))
           obtain ⟨c0, c1, c2, c3⟩ := cells4 (ST5.out.at (b := w.heap.size + 1 + 1) (o := spO (some ⟨g, 0, none⟩) (some ⟨g, 0, none⟩) cx cy) (by first | exact .head _ | exact .tail _ (.head _) | exact .tail _ (.tail _ (.head _)) | exact .tail _ (.tail _ (.tail _ (.head _))) | exact .tail _ (.tail _ (.tail _ (.tail _ (.head _)))) | exact .tail _ (.tail _ (.tail _ (.tail _ (.tail _ (.head _))))) | exact .tail _ (.tail _ (.tail _ (.tail _ (.tail _ (.tail _ (.head _))))))))
           have hlt := ST5.out.lt (p := (w.heap.size, spO qax qay ax ay)) (by first | exact .head _ | exact .tail _ (.head _) | exact .tail _ (.tail _ (.head _)) | exact .tail _ (.tail _ (.tail _ (.head _))) | exact .tail _ (.tail _ (.tail _ (.tail _ (.head _)))) | exact .tail _ (.tail _ (.tail _ (.tail _ (.tail _ (.head _))))) | exact .tail _ (.tail _ (.tail _ (.tail _ (.tail _ (.tail _ (.head _)))))))
           simp only at hlt
           have hne0p : w5.heap.size ≠ w.heap.size := by omega
           have hnf0p : w.heap.size ≠ w5.heap.size := by omega
           have hne0q : w5.heap.size + 1 ≠ w.heap.size := by omega
           have hnf0q : w.heap.size ≠ w5.heap.size + 1 := by omega
           clear hlt
           have hlt := ST5.out.lt (p := (w.heap.size + 1, spO (some ⟨g, 0, none⟩) (some ⟨g, 0, none⟩) bx ey)) (by first | exact .head _ | exact .tail _ (.head _) | exact .tail _ (.tail _ (.head _)) | exact .tail _ (.tail _ (.tail _ (.head _))) | exact .tail _ (.tail _ (.tail _ (.tail _ (.head _)))) | exact .tail _ (.tail _ (.tail _ (.tail _ (.tail _ (.head _))))) | exact .tail _ (.tail _ (.tail _ (.tail _ (.tail _ (.tail _ (.head _)))))))
           simp only at hlt
           have hne1p : w5.heap.size ≠ w.heap.size + 1 := by omega
           have hnf1p : w.heap.size + 1 ≠ w5.heap.size := by omega
           have hne1q : w5.heap.size + 1 ≠ w.heap.size + 1 := by omega
           have hnf1q : w.heap.size + 1 ≠ w5.heap.size + 1 := by omega
           clear hlt
           have hlt := ST5.out.lt (p := (w.heap.size + 1 + 1, spO (some ⟨g, 0, none⟩) (some ⟨g, 0, none⟩) cx cy)) (by first | exact .head _ | exact .tail _ (.head _) | exact .tail _ (.tail _ (.head _)) | exact .tail _ (.tail _ (.tail _ (.head _))) | exact .tail _ (.tail _ (.tail _ (.tail _ (.head _)))) | exact .tail _ (.tail _ (.tail _ (.tail _ (.tail _ (.head _))))) | exact .tail _ (.tail _ (.tail _ (.tail _ (.tail _ (.tail _ (.head _)))))))
           simp only at hlt
           have hne2p : w5.heap.size ≠ w.heap.size + 1 + 1 := by omega
           have hnf2p : w.heap.size + 1 + 1 ≠ w5.heap.size := by omega
           have hne2q : w5.heap.size + 1 ≠ w.heap.size + 1 + 1 := by omega
           have hnf2q : w.heap.size + 1 + 1 ≠ w5.heap.size + 1 := by omega
           clear hlt
           clear h1)
        | (go_at_call 24
           (first | (have hq := mulNK (v := .slice (some ⟨w5.heap.size, 0, none⟩) 1 1) (ST5.out.alloc (negO g)); with_reducible refine hq.mono ?_) | (have hq := mulNK (v := .slice (some ⟨w5.heap.size + 1, 0, none⟩) 1 1) (ST5.out.alloc (negO g)); with_reducible refine hq.mono ?_) | (have hq := mulNK (v := .slice (some ⟨w5.heap.size, 0, none⟩) 1 1) ((ST5.out.alloc zeroO).alloc (negO g)); with_reducible refine hq.mono ?_) | (have hq := mulNK (v := .slice (some ⟨w5.heap.size + 1, 0, none⟩) 1 1) ((ST5.out.alloc zeroO).alloc (negO g)); with_reducible refine hq.mono ?_) | (have hq := mulNK (v := .slice (some ⟨w5.heap.size, 0, none⟩) 1 1) ((ST5.out.alloc (negO g)).alloc zeroO); with_reducible refine hq.mono ?_) | (have hq := mulNK (v := .slice (some ⟨w5.heap.size + 1, 0, none⟩) 1 1) ((ST5.out.alloc (negO g)).alloc zeroO); with_reducible refine hq.mono ?_))
           rintro e w7 ⟨rfl, h1⟩
           (try simp only [size_al] at h1)
           have ST7 := Lib.hid h1
           obtain ⟨a0, a1, a2, a3⟩ := cells4 (ST7.out.at (b := w.heap.size) (o := spO qax qay ax ay) (by first | exact .head _ | exact .tail _ (.head _) | exact .tail _ (.tail _ (.head _)) | exact .tail _ (.tail _ (.tail _ (.head _))) | exact .tail _ (.tail _ (.tail _ (.tail _ (.head _)))) | exact .tail _ (.tail _ (.tail _ (.tail _ (.tail _ (.head _))))) | exact .tail _ (.tail _ (.tail _ (.tail _ (.tail _ (.tail _ (.head _))))))))
           obtain ⟨e0, e1, e2, e3⟩ := cells4 (ST7.out.at (b := w.heap.size + 1) (o := spO (some ⟨g, 0, none⟩) (some ⟨g, 0, none⟩) bx ey) (by first | exact .head _ | exact .tail _ (.head _) | exact .tail _ (.tail _ (.head _)) | exact .tail _ (.tail _ (.tail _ (.head _))) | exact .tail _ (.tail _ (.tail _ (.tail _ (.head _)))) | exact .tail _ (.tail _ (.tail _ (.tail _ (.tail _ (.head _))))) | exact .tail _ (.tail _ (.tail _ (.tail _ (.tail _ (.tail _ (.head _))))))))
           obtain ⟨c0, c1, c2, c3⟩ := cells4 (ST7.out.at (b := w.heap.size + 1 + 1) (o := spO (some ⟨g, 0, none⟩) (some ⟨g, 0, none⟩) cx cy) (by first | exact .head _ | exact .tail _ (.head _) | exact .tail _ (.tail _ (.head _)) | exact .tail _ (.tail _ (.tail _ (.head _))) | exact .tail _ (.tail _ (.tail _ (.tail _ (.head _)))) | exact .tail _ (.tail _ (.tail _ (.tail _ (.tail _ (.head _))))) | exact .tail _ (.tail _ (.tail _ (.tail _ (.tail _ (.tail _ (.head _))))))))
           have hlt := ST7.out.lt (p := (w.heap.size, spO qax qay ax ay)) (by first | exact .head _ | exact .tail _ (.head _) | exact .tail _ (.tail _ (.head _)) | exact .tail _ (.tail _ (.tail _ (.head _))) | exact .tail _ (.tail _ (.tail _ (.tail _ (.head _)))) | exact .tail _ (.tail _ (.tail _ (.tail _ (.tail _ (.head _))))) | exact .tail _ (.tail _ (.tail _ (.tail _ (.tail _ (.tail _ (.head _)))))))
           simp only at hlt
           have hne0p : w7.heap.size ≠ w.heap.size := by omega
           have hnf0p : w.heap.size ≠ w7.heap.size := by omega
           have hne0q : w7.heap.size + 1 ≠ w.heap.size := by omega
           have hnf0q : w.heap.size ≠ w7.heap.size + 1 := by omega
           clear hlt
           have hlt := ST7.out.lt (p := (w.heap.size + 1, spO (some ⟨g, 0, none⟩) (some ⟨g, 0, none⟩) bx ey)) (by first | exact .head _ | exact .tail _ (.head _) | exact .tail _ (.tail _ (.head _)) | exact .tail _ (.tail _ (.tail _ (.head _))) | exact .tail _ (.tail _ (.tail _ (.tail _ (.head _)))) | exact .tail _ (.tail _ (.tail _ (.tail _ (.tail _ (.head _))))) | exact .tail _ (.tail _ (.tail _ (.tail _ (.tail _ (.tail _ (.head _)))))))
           simp only at hlt
           have hne1p : w7.heap.size ≠ w.heap.size + 1 := by omega
           have hnf1p : w.heap.size + 1 ≠ w7.heap.size := by omega
           have hne1q : w7.heap.size + 1 ≠ w.heap.size + 1 := by omega
           have hnf1q : w.heap.size + 1 ≠ w7.heap.size + 1 := by omega
           clear hlt
           have hlt := ST7.out.lt (p := (w.heap.size + 1 + 1, spO (some ⟨g, 0, none⟩) (some ⟨g, 0, none⟩) cx cy)) (by first | exact .head _ | exact .tail _ (.head _) | exact .tail _ (.tail _ (.head _)) | exact .tail _ (.tail _ (.tail _ (.head _))) | exact .tail _ (.tail _ (.tail _ (.tail _ (.head _)))) | exact .tail _ (.tail _ (.tail _ (.tail _ (.tail _ (.head _))))) | exact .tail _ (.tail _ (.tail _ (.tail _ (.tail _ (.tail _ (.head _)))))))
           simp only at hlt
           have hne2p : w7.heap.size ≠ w.heap.size + 1 + 1 := by omega
           have hnf2p : w.heap.size + 1 + 1 ≠ w7.heap.size := by omega
           have hne2q : w7.heap.size + 1 ≠ w.heap.size + 1 + 1 := by omega
           have hnf2q : w.heap.size + 1 + 1 ≠ w7.heap.size + 1 := by omega
           clear hlt
           (first | (have hz : w7.heap[(_ : Nat)]? = some zeroO := h1.hd2; obtain ⟨r0, r1, f0, f1⟩ := cells2 hz; clear hz) | (have hz : w7.heap[(_ : Nat)]? = some zeroO := h1.hd; obtain ⟨r0, r1, f0, f1⟩ := cells2 hz; clear hz) | skip)
           clear h1))
      all_goals
        go_wp2_with fail
        go_meet
        case rel => exact ⟨_, rfl, Lib.hid (by first | exact ST7.out.tl.write2 | exact ST7.out.write2.tl2 | exact ST7.out.tl.alloc _)⟩
    case rest =>
    obtain ⟨bl2, rfl, HR⟩ := hcut
    have HNG := Lib.hid (show NegOk wc (some ⟨g, 0, none⟩) from Or.inr ⟨g, ns, rfl, HR.out.st.dag⟩)
    have HSUB := Lib.hid (subNK (b := some ⟨g, 0, none⟩) (i := -1) (j := -1) HR.out (fun w' h => SubBad.first (Or.inr ⟨g, ns, h.dag, rfl⟩)))
    obtain ⟨x0, x1, -, -⟩ := cells2 HR.out.hd
    obtain ⟨y0, y1, -, -⟩ := cells2 HR.out.hd2
    dsimp only at x0 x1 y0 y1
    go_wp2_with fail
    refine HSUB.out.mono ?_
    rintro e w8 ⟨rfl, h1⟩
    have HSG := Lib.hid (sign_bad (Or.inr ⟨g, ns, h1.st.dag, rfl⟩ : Bad w8 (.agg #[.pointer (some ⟨g, 0, none⟩), .int .i64 (-1)])))
    have HG8 := Lib.hid h1.grew
    clear h1
    go_wp2_with fail
    refine HSG.out.mono ?_
    rintro e w9 ⟨er, n, rfl, hn, he, hb9⟩
    have HF := Lib.hid (HG8.out.below hb9); have HE := Lib.hid (he.mono (T := Laid2 w w9) fun b hb _ => ⟨Nat.le_trans HG8.out.2.2.size hb.1, hb.2⟩)
    clear hb9 he
    go_wp2
    go_ret2
    exact ⟨er, n, rfl, hn, HE.out, HF.out.1, HF.out.2.2⟩
end Go.Proofs.YtgodkfgnhpnhcaaGreatDoor
/- fail.Node; a leaf that is not finite is not put. -/
namespace Go.Proofs.YtgodkfgnhpnhcaaGreatDoor
open Go.RowKit Go.Maps Go.Stop Go.Extern
/-- an error of the kind k comes back -/
def RetEr (w : World) (k : Int) (e : Ending) (w' : World) : Prop := ∃ er n, e = .returned er ∧ n ≤ 1000 ∧ ErK (Laid2 w w') w' n er k ∧ Below w.heap.size w w'
set_option maxHeartbeats 1600000 in
theorem node_err {w : World} {k i : Int} (h1 : 1 ≤ k) (h2 : k ≤ 7) :
    Calls Tryz.prog 93 #[.int .i64 i, .iface 135 (.int .i64 k)] w (RetEr w k) := by
  have hb : Below w.heap.size w (w.alloc (.cells #[.int .i64 i, .iface 135 (.int .i64 k)] 183)) := Below.alloc (Below.refl _ _) (Nat.le_refl _) _
  have HE : Hid (ErK (Laid2 w (w.alloc (.cells #[.int .i64 i, .iface 135 (.int .i64 k)] 183))) (w.alloc (.cells #[.int .i64 i, .iface 135 (.int .i64 k)] 183)) (0 + 1) (.iface 181 (.pointer (some ⟨w.heap.size, 0, none⟩))) k) := Lib.hid (.att ⟨Nat.le_refl _, by simp⟩ (by simp) (.kind h1 h2))
  have HB := Lib.hid hb
  clear h1 h2 hb
  go_enter Tryz.func93, Tryz.ntmps93
  go_wp2
  go_ret
  exact ⟨_, _, rfl, by omega, HE.out, HB.out⟩
set_option maxHeartbeats 3200000 in
set_option maxRecDepth 100000 in
theorem takes_inf {w : World} {g val : Nat} (hv : val < 18446744073709551616) (hf : ¬ fin val) :
    Calls Tryz.prog 126 #[.pointer (some ⟨g, 0, none⟩), .agg #[.int .i64 0, .float .f64 val, .int .i64 0, .int .i64 0]] w (RetV w (.bool false)) := by
  obtain ⟨w1, hw1, hb1, hs1, b1⟩ := pro1 w (.cells #[.int .i64 0, .float .f64 val, .int .i64 0, .int .i64 0] 122)
  obtain ⟨c0, c1, c2, c3⟩ := cells4 b1
  have HV := Lib.hid (valid_any (w := w1) (n := ⟨0, val, 0, 0⟩) (Or.inl ⟨rfl, rfl, rfl⟩))
  have HB := Lib.hid hb1
  have HF : Hid (∀ w', Calls Tryz.prog 123 #[.float .f64 val] w' (RetB w' false)) := Lib.hid fun w' => by have := finite_any (w := w') hv; rwa [decide_eq_false hf] at this
  clear hb1 hs1 b1 hv hf
  dsimp only at HV
  go_enter Tryz.func126, Tryz.ntmps126
  go_wp2_with fail
  refine HV.out.mono ?_
  rintro e w3 ⟨rfl, hb3⟩
  replace c0 := cell_below c0 hb3 (Nat.le_refl _)
  replace c1 := cell_below c1 hb3 (Nat.le_refl _)
  have HB3 := Lib.hid (below_up HB.out hb3)
  clear hb3
  go_wp2_with fail
  refine (HF.out _).mono ?_
  rintro e w4 ⟨rfl, hw⟩
  obtain rfl := hw
  go_wp2
  go_ret
  exact ⟨rfl, HB3.out⟩
set_option maxHeartbeats 3200000 in
set_option maxRecDepth 100000 in
theorem put_inf {w : World} {g val : Nat} {ns : List Nd} (hd : DagP w g ns) (hv : val < 18446744073709551616) (hf : ¬ fin val) :
    Calls Tryz.prog 101 #[.pointer (some ⟨g, 0, none⟩), .agg #[.int .i64 0, .float .f64 val, .int .i64 0, .int .i64 0]] w (RetErr w (.int .i64 (-1)) 1) := by
  obtain ⟨w1, hw1, hb1, hs1, b1⟩ := pro1 w (.cells #[.int .i64 0, .float .f64 val, .int .i64 0, .int .i64 0] 122)
  obtain ⟨c0, c1, c2, c3⟩ := cells4 b1
  have HT := Lib.hid (takes_inf (w := w1) (g := g) hv hf)
  obtain ⟨A, c, g0, -, -, -⟩ := (hd.below hb1).slice
  have HB := Lib.hid hb1
  have HLN := Lib.hid hd.len
  have hlI : (ns.length : Int) ≤ 20000 := by have := hd.len; omega
  have hl0 : (0 : Int) ≤ (ns.length : Int) := by omega
  have HNE : Hid (∀ w' (i : Int), Calls Tryz.prog 93 #[.int .i64 i, .iface 135 (.int .i64 1)] w' (RetEr w' 1)) := Lib.hid fun w' i => node_err (by omega) (by omega)
  clear hd hb1 hs1 b1 hv hf
  go_enter Tryz.func101, Tryz.ntmps101
  go_wp2_with fail
  refine HT.out.mono ?_
  rintro e w2 ⟨rfl, hb2⟩
  have hbd := below_up hb2 (Below.refl _ _).drew
  replace g0 := cell_below g0 hbd (Nat.le_refl _)
  have HB2 := Lib.hid (below_up HB.out hbd)
  clear hb2 hbd c0 c1 c2 c3
  go_wp2_with fail
  go_region_held3 (fun w' => w'.cell? ⟨g, 0, none⟩ = some (.slice A ns.length c)) (go_keep)
    (first
    | (go_at_call 63
       refine malformed_any.mono ?_
       rintro e w3 ⟨rfl, rfl⟩)
    | (go_at_call 93
       refine (HNE.out _ _).mono ?_
       rintro e w4 ⟨er, n, rfl, hn, he, hb4⟩
       have g0 := cell_below g0 hb4 (Nat.le_refl _)
       have HE := Lib.hid (And.intro hn (he.mono (T := Laid2 w w4) fun b hb _ => ⟨Nat.le_trans HB2.out.size hb.1, hb.2⟩))
       have HB4 := Lib.hid (below_up HB2.out hb4)
       clear hn he hb4))
  all_goals go_wp2_with fail
  all_goals go_ret2
  all_goals exact ⟨_, _, rfl, HE.out.1, HE.out.2, HB4.out⟩
set_option maxHeartbeats 1600000 in
theorem putid_inf {w : World} {g val : Nat} {ns : List Nd} (hd : DagP w g ns) (hv : val < 18446744073709551616) (hf : ¬ fin val) :
    Calls Tryz.prog 73 #[.pointer (some ⟨g, 0, none⟩), .agg #[.int .i64 0, .float .f64 val, .int .i64 0, .int .i64 0]] w (RetV w (.int .i64 (-1))) := by
  obtain ⟨w1, hw1, hb1, hs1, b1⟩ := pro1 w (.cells #[.int .i64 0, .float .f64 val, .int .i64 0, .int .i64 0] 122)
  obtain ⟨c0, c1, c2, c3⟩ := cells4 b1
  have HP := Lib.hid (put_inf (hd.below hb1) hv hf)
  have HB := Lib.hid hb1
  clear hd hb1 hs1 b1 hv hf
  go_enter Tryz.func73, Tryz.ntmps73
  go_wp2_with fail
  refine HP.out.mono ?_
  rintro e w2 ⟨er, n, rfl, -, -, hb2⟩
  have HB2 := Lib.hid (below_up HB.out hb2)
  clear hb2
  go_wp2
  go_ret
  exact ⟨rfl, HB2.out⟩
set_option maxHeartbeats 1600000 in
theorem leaf_inf {w : World} {g val : Nat} {ns : List Nd} (hd : DagP w g ns) (hv : val < 18446744073709551616) (hf : ¬ fin val) :
    Calls Tryz.prog 71 #[.pointer (some ⟨g, 0, none⟩), .float .f64 val] w (RetV w (.int .i64 (-1))) := by
  have HP := Lib.hid (putid_inf hd hv hf)
  clear hd hv hf
  go_enter Tryz.func71, Tryz.ntmps71
  go_wp2_with fail
  refine HP.out.mono ?_
  rintro e w2 ⟨rfl, hb2⟩
  have HB2 := Lib.hid hb2
  clear hb2
  go_wp2
  go_ret
  exact ⟨rfl, HB2.out⟩
set_option maxHeartbeats 1600000 in
theorem of_inf {w : World} {g val : Nat} {ns : List Nd} (hd : DagP w g ns) (hv : val < 18446744073709551616) (hf : ¬ fin val) :
    Calls Tryz.prog 25 #[.pointer (some ⟨g, 0, none⟩), .float .f64 val] w (RetV w (.agg #[.pointer (some ⟨g, 0, none⟩), .int .i64 (-1)])) := by
  obtain ⟨w1, hw1, hb1, hs1, b1⟩ := pro1 w (.cells #[.pointer none, .int .i64 0] 27)
  have HP := Lib.hid (leaf_inf (hd.below hb1) hv hf)
  have HB := Lib.hid hb1; have HB1 := Lib.hid b1
  clear hd hv hf hb1 hs1 b1
  go_enter Tryz.func25, Tryz.ntmps25
  go_wp2_with fail
  refine HP.out.mono ?_
  rintro e w2 ⟨rfl, hb2⟩
  have b2 := heap_below HB1.out hb2 (heap_lt HB1.out)
  obtain ⟨c0, c1, f0, f1⟩ := cells2 b2
  have HG := Lib.hid (set2 b2 (.pointer (some ⟨g, 0, none⟩)) (.int .i64 (-1)))
  have HF : Hid (∀ u v, Below w.heap.size w ((w2.setCell ⟨w.heap.size, 0, none⟩ u).setCell ⟨w.heap.size, 1, none⟩ v)) := Lib.hid fun u v => ((below_up HB.out hb2).setCell (Nat.le_refl _) u).setCell (Nat.le_refl _) v
  clear hb2 b2
  go_wp2
  obtain ⟨x0, x1, -, -⟩ := cells2 HG.out
  refine bodyPost_ret (v := .agg #[_, _]) (by simp [results, Tryz.results25, go_sem, x0, x1]; first | exact ⟨rfl, rfl⟩ | rfl) rfl ?_
  exact ⟨rfl, HF.out _ _⟩
end Go.Proofs.YtgodkfgnhpnhcaaGreatDoor
/- compasslaw17.alive. -/
namespace Go.Proofs.YtgodkfgnhpnhcaaGreatDoor
open Go.RowKit Go.Maps
set_option maxHeartbeats 12800000 in
set_option maxRecDepth 100000 in
theorem alive17 {w : World} (hT : Tab w) (htb : 1 < w.heap.size) :
    Calls Tryz.prog 15 #[] w (RetV w (.bool true)) := by
  have HN := Lib.hid (new_any (P := PS) hT htb (Nat.le_refl _))
  clear hT htb
  have TU := Lib.hid (turn_int leaf_p0 leaf_p0 leaf_p1 leaf_p0 leaf_p0 leaf_p1 (by unfold Sm1; decide) (by unfold Sm1; decide) (by unfold Sm1; decide) (by unfold Sm1; decide) (by unfold Sm1; decide) (by unfold Sm1; decide))
  have CM := Lib.hid (cmp_int leaf_p1 leaf_p2 leaf_p1 leaf_p3 (by unfold Sm1; decide) (by unfold Sm1; decide) (by unfold Sm1; decide) (by unfold Sm1; decide))
  go_enter Tryz.func15, Tryz.ntmps15
  go_wp2_with fail
  refine HN.out.mono ?_
  rintro e w1 ⟨g, rfl, hs, hb, hg⟩
  have HB := Lib.hid (And.intro hb hs.hi)
  have A1 := Lib.hid (atK (x := 0) (y := 0) (Stg.start hs) (by omega) (by decide) (by decide) (by decide) (by decide) leaf_p0.ps leaf_p0.ps)
  clear hs hb hg HN
  go_wp2_with fail
  refine A1.out.mono ?_
  rintro e w2 ⟨i1, j1, ns2, rfl, h2, -, x1, y1⟩
  have A2 := Lib.hid (atK (x := 4607182418800017408) (y := 0) h2 (by omega) (by decide) (by decide) (by decide) (by decide) leaf_p1.ps leaf_p0.ps)
  have I1 := Lib.hid (And.intro x1 y1)
  clear h2 x1 y1 A1
  go_wp2_with fail
  refine A2.out.mono ?_
  rintro e w3 ⟨i2, j2, ns3, rfl, h3, p3, x2, y2⟩
  have A3 := Lib.hid (atK (x := 0) (y := 4607182418800017408) h3 (by omega) (by decide) (by decide) (by decide) (by decide) leaf_p0.ps leaf_p1.ps)
  have I2 := Lib.hid (And.intro (And.intro (I1.out.1.mono p3) (I1.out.2.mono p3)) (And.intro x2 y2))
  clear h3 p3 x2 y2 A2
  go_wp2_with fail
  refine A3.out.mono ?_
  rintro e w4 ⟨i3, j3, ns4, rfl, h4, p4, x3, y3⟩
  have A4 := Lib.hid (turnK h4 (by omega) (I2.out.1.1.mono p4) (I2.out.1.2.mono p4) (I2.out.2.1.mono p4) (I2.out.2.2.mono p4) x3 y3 TU.out)
  rw [show (detZ 0 0 1 0 0 1).sign = 1 by decide] at A4
  clear h4 p4 x3 y3 A3
  go_wp2_with fail
  refine A4.out.mono ?_
  rintro e w5 ⟨rfl, ns5, h5, -⟩
  have A5 := Lib.hid (atK (x := 4607182418800017408) (y := 4611686018427387904) h5 (by omega) (by decide) (by decide) (by decide) (by decide) leaf_p1.ps leaf_p2.ps)
  clear h5 A4
  go_wp2_with fail
  refine A5.out.mono ?_
  rintro e w6 ⟨i4, j4, ns6, rfl, h6, p6, x4, y4⟩
  have A6 := Lib.hid (atK (x := 4607182418800017408) (y := 4613937818241073152) h6 (by omega) (by decide) (by decide) (by decide) (by decide) leaf_p1.ps leaf_p3.ps)
  have I3 := Lib.hid (And.intro x4 y4)
  clear h6 p6 x4 y4 A5
  go_wp2_with fail
  refine A6.out.mono ?_
  rintro e w7 ⟨i5, j5, ns7, rfl, h7, p7, x5, y5⟩
  have A7 := Lib.hid (cmpK h7 (by omega) (I3.out.1.mono p7) (I3.out.2.mono p7) x5 y5 CM.out)
  rw [show lexZ 1 2 1 3 = -1 by decide] at A7
  clear h7 p7 x5 y5 A6
  go_wp2_with fail
  refine A7.out.mono ?_
  rintro e w8 ⟨rfl, ns8, h8, -⟩
  have HF := Lib.hid (h8.back HB.out.1 HB.out.2)
  clear h8 A7
  go_wp2
  go_ret
  exact ⟨rfl, HF.out⟩
end Go.Proofs.YtgodkfgnhpnhcaaGreatDoor
/- SpotNone: points that are none. -/
namespace Go.Proofs.YtgodkfgnhpnhcaaGreatDoor
open Go.RowKit Go.Maps Go.Stop Go.Extern
/-- any expression may stand in the dag -/
def PT : Ex → Prop := fun _ => True
/-- the number I of the dag stands for x, or x is none and I is -1 -/
def NumOr (ns : List Nd) (I : Int) (x : Nat) : Prop := (∃ i : Nat, I = i ∧ i < ns.length ∧ fin x) ∨ (I = -1 ∧ ¬ fin x)
def RetAt (B N : Nat) (w : World) (g x : Nat) (ns : List Nd) (e : Ending) (w' : World) : Prop :=
  ∃ (I : Int) (j : Nat) (ns' : List Nd), e = .returned (.agg #[.pointer (some ⟨g, 0, none⟩), .int .i64 I, .pointer (some ⟨g, 0, none⟩), .int .i64 (j : Int)]) ∧ Grew PT B (N + 2) w g ns ns' w' ∧ j < ns'.length ∧ NumOr ns' I x
set_option maxHeartbeats 6400000 in
set_option maxRecDepth 100000 in
theorem at_or {B N : Nat} {w : World} {g x : Nat} {ns : List Nd} (hs : St PT B N w g ns) (hN : N + 1 < 20000) (hx : x < 18446744073709551616) :
    Calls Tryz.prog 17 #[.pointer (some ⟨g, 0, none⟩), .float .f64 x, .float .f64 0] w (RetAt B N w g x ns) := by
  by_cases fx : fin x
  · exact (at_spot hs hN hx (by decide) fx (by decide) trivial trivial).mono fun e w' ⟨i, j, ns', h1, h2, h3, h4, h5, h6⟩ => ⟨i, j, ns', h1, ⟨h2, h3, h6⟩, h5.lt, Or.inl ⟨i, rfl, h4.lt, fx⟩⟩
  · obtain ⟨w1, hw1, hb1, hs1, b1⟩ := pro1 w (.cells #[.pointer none, .int .i64 0, .pointer none, .int .i64 0] 29)
    have HL := Lib.hid (of_inf (hs.dag.below hb1) hx fx)
    have h1 := (Stg.start hs).alloc zeroSO
    have H1 : Hid (Stg PT B N w g ns w1 ns ((w.heap.size, zeroSO) :: [])) := Lib.hid (by rw [← hw1]; exact h1)
    have HNN := Lib.hid hN; have HFX := Lib.hid fx
    clear hs hN hx fx hb1 hs1 b1 h1
    go_enter Tryz.func17, Tryz.ntmps17
    go_wp2_with fail
    refine HL.out.mono ?_
    rintro e w2 ⟨rfl, hb2⟩
    have H2 := Lib.hid (H1.out.below hb2)
    have HO := Lib.hid (ofK (v := 0) H2.out (by have := HNN.out; omega) (by decide) (by decide) trivial)
    clear hb2
    go_wp2_with fail
    refine HO.out.mono ?_
    rintro e w3 ⟨j, ns', rfl, h3, p3, x3⟩
    obtain ⟨c0, c1, c2, c3⟩ := cells4 h3.hd
    obtain ⟨f0, f1, f2, f3⟩ := free4 h3.hd
    have HX := Lib.hid (set4 h3.hd (.pointer (some ⟨g, 0, none⟩)) (.int .i64 (-1)) (.pointer (some ⟨g, 0, none⟩)) (.int .i64 (j : Int)))
    have HF := Lib.hid ((h3.more (M := N + 2) (by omega)).write4 (x := .pointer (some ⟨g, 0, none⟩)) (y := .int .i64 (-1)) (z := .pointer (some ⟨g, 0, none⟩)) (u := .int .i64 (j : Int)))
    have HJ := Lib.hid x3.lt
    clear h3 p3 x3
    go_wp2
    obtain ⟨x0, x1, x2, x3⟩ := cells4 HX.out
    refine bodyPost_ret (v := .agg #[_, _, _, _]) (by simp [results, Tryz.results17, go_sem, x0, x1, x2, x3]; first | exact ⟨rfl, rfl, rfl, rfl⟩ | rfl) rfl ?_
    exact ⟨-1, j, ns', rfl, HF.out.grew, HJ.out, Or.inr ⟨rfl, HFX.out⟩⟩
theorem NumOr.sub {B N : Nat} {w : World} {g x : Nat} {ns : List Nd} {I : Int} (h : NumOr ns I x) (hs : St PT B N w g ns) : SubBad w (some ⟨g, 0, none⟩) I none 0 := by
  rcases h with ⟨i, rfl, hi, -⟩ | ⟨rfl, -⟩
  · exact SubBad.second hs.dag hi (Or.inl ⟨0, rfl⟩)
  · exact SubBad.first (Or.inr ⟨g, ns, hs.dag, rfl⟩)
theorem NumOr.valid {w : World} {g x : Nat} {ns : List Nd} {I : Int} (h : NumOr ns I x) (hd : DagP w g ns) : Calls Tryz.prog 50 #[.agg #[.pointer (some ⟨g, 0, none⟩), .int .i64 I]] w (RetV w (.bool (decide (fin x)))) := by
  rcases h with ⟨i, rfl, hi, hf⟩ | ⟨rfl, hf⟩
  · rw [decide_eq_true hf]; exact valid_num hd hi
  · rw [decide_eq_false hf]; exact valid_bad (Or.inr ⟨g, ns, hd, rfl⟩)
theorem ErK.ds {S : Nat → Prop} {w w' : World} {n g : Nat} {v : Value} {k : Int} (h : ErK S w n v k) (hd : DS g w w') (hS : ∀ b, S b → b < w.heap.size → ¬ DagB w g b) : ErK S w' n v k :=
  h.keep fun b hb hl => World.cell?_of_block (hd.heap hl (hS b hb hl))
end Go.Proofs.YtgodkfgnhpnhcaaGreatDoor
/- x - x == 0 exactly for the numbers x that are finite. -/
namespace Go.Proofs.YtgodkfgnhpnhcaaGreatDoor
open Ieee
theorem sub_self_fin {x : Nat} (h : fin x) : double.sub x x = some 0 := by
  obtain ⟨m, p, e, -, -⟩ := read_fin h
  unfold Format.sub
  rw [e]
  have h1 : (Datum.number (fneg x) m p).sum (Datum.number (fneg x) m p).opposite = some (.number false 0 p) := by
    cases fneg x <;> simp [Datum.opposite, Datum.sum, signed] <;> omega
  rw [h1]
  show some (double.nearest false 0 p) = some 0
  rw [nearest_eq]
  rfl
theorem sub_self_inf {x : Nat} (h : ¬ fin x) : double.sub x x = none := by
  unfold Format.sub
  cases e : double.read x with
  | nan s f => rfl
  | infinity s => cases s <;> rfl
  | number s m p =>
    exfalso
    have h' : ¬ x % 2 ^ 63 < 2047 * 2 ^ 52 := h
    unfold Format.read at e
    simp only [double_sw, double_binade, double_inf, double_least] at e
    rw [if_neg (by omega), if_neg (by omega)] at e
    split at e <;> cases e
theorem order_nan {r : Nat} (h : infR < rung r) : double.order r 0 = none := by
  have h' : 2047 * 2 ^ 52 < r % 2 ^ 63 := h
  have : ∃ s f, double.read r = .nan s f := by
    unfold Format.read
    simp only [double_sw, double_binade, double_inf, double_least]
    rw [if_neg (by omega), if_neg (by omega), if_neg (by omega)]
    exact ⟨_, _, rfl⟩
  obtain ⟨s, f, e⟩ := this
  unfold Format.order
  rw [e]; rfl
theorem run_sub_self_fin {P : Program} {x : Nat} (h : fin x) (t : TypeId) (w : World) : (binOp .sub t (.float .f64 x) (.float .f64 x)).run P w = .ok (.float .f64 0) w :=
  run_float_arith w .sub t .f64 x x 0 (sub_self_fin h)
theorem run_sub_self_inf {P : Program} {x : Nat} (h : ¬ fin x) (t : TypeId) (w : World) : ∃ r, (binOp .sub t (.float .f64 x) (.float .f64 x)).run P w = .ok (.float .f64 r) w.drew ∧ double.order r 0 = none := by
  have hs : FloatKind.f64.format.sub x x = none := sub_self_inf h
  refine ⟨(Question.nanBits .f64 x x).cut (w.tape w.drawn (Question.nanBits .f64 x x)), ?_, order_nan ?_⟩
  · simp [binOp, Op.floatArith, hs, Question.forced]
  · unfold rung infR
    simp only [Question.cut]
    generalize w.tape w.drawn (Question.nanBits .f64 x x) = t
    have hu : t % 2 < 2 := Nat.mod_lt _ (by decide)
    have hv : t / 2 % (2 ^ 52 - 1) < 2 ^ 52 - 1 := Nat.mod_lt _ (by decide)
    generalize t % 2 = u at hu
    generalize t / 2 % (2 ^ 52 - 1) = v at hv
    have : u = 0 ∨ u = 1 := by omega
    rcases this with rfl | rfl <;> omega
end Go.Proofs.YtgodkfgnhpnhcaaGreatDoor
