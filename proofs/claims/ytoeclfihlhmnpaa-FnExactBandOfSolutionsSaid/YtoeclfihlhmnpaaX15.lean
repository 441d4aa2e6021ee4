-- thin
-- short
-- compact
import Derived.Test.YtoeclfihlhmnpaaXA
import Derived.Test.YtoeclfihlhmnpaaX0
import Derived.Test.YtoeclfihlhmnpaaX12
namespace Go.Proofs.Ytoeclfihlhmnpaa.X
open Go.RowKit Go.Proofs.Ytoeclfihlhmnpaa.XW Go.Proofs.YtoeclfihlhmnpaaW.PrintWords Go.Proofs.YtoeclfihlhmnpaaW.PrintLast Go.Proofs.YtoeclfihlhmnpaaW.PrintMore
attribute [local go_sem] max2_int min2_int max_two min_two max_three min_three max_four min_four   -- for this text's walks alone
set_option linter.unusedVariables false
set_option linter.unusedSimpArgs false

mutual
def slices_partialInsertionSortCmpFunc_impl_Peg_at_impl_comparePegs.l0 : Nat → List (S_impl_Peg) → Int → Int → Int → Int → Option (Bool × (List (S_impl_Peg)))
 | 0, _, _, _, _, _ => none
 | k + 1, x0, x1, x2, x9, x10 => if x10 < 5 then (slices_partialInsertionSortCmpFunc_impl_Peg_at_impl_comparePegs.l1 k x0 x1 x2 x9 x10) else (some (false, x0))
def slices_partialInsertionSortCmpFunc_impl_Peg_at_impl_comparePegs.j2 : Nat → List (S_impl_Peg) → Int → Int → Int → Int → Option (Bool × (List (S_impl_Peg)))
 | 0, _, _, _, _, _ => none
 | k + 1, x0, x1, x2, x9, x10 => if x9 = x2 then (some (true, x0)) else (if (wrap64 (x2 - x1)) < 50 then (some (false, x0)) else (if 0 ≤ (wrap64 (x9 - 1)) then (if (wrap64 (x9 - 1)) < (x0.length : Int) then (if 0 ≤ x9 then (if x9 < (x0.length : Int) then ((some ((x0.set (x9 : Int).toNat (⟨(rd_impl_Peg x0 (wrap64 (x9 - 1))).f0, (rd_impl_Peg x0 (wrap64 (x9 - 1))).f1⟩ : S_impl_Peg)).set ((wrap64 (x9 - 1)) : Int).toNat (⟨(rd_impl_Peg x0 x9).f0, (rd_impl_Peg x0 x9).f1⟩ : S_impl_Peg) : List (S_impl_Peg))).bind fun y375 => (if (wrap64 (x9 - x1)) ≥ 2 then (slices_partialInsertionSortCmpFunc_impl_Peg_at_impl_comparePegs.l2 k y375 x1 x2 x9 x10 (wrap64 (x9 - 1))) else (slices_partialInsertionSortCmpFunc_impl_Peg_at_impl_comparePegs.j4 k y375 x1 x2 x9 x10))) else (none)) else (none)) else (none)) else (none)))
def slices_partialInsertionSortCmpFunc_impl_Peg_at_impl_comparePegs.j4 : Nat → List (S_impl_Peg) → Int → Int → Int → Int → Option (Bool × (List (S_impl_Peg)))
 | 0, _, _, _, _, _ => none
 | k + 1, x0, x1, x2, x9, x10 => if (wrap64 (x2 - x9)) ≥ 2 then (slices_partialInsertionSortCmpFunc_impl_Peg_at_impl_comparePegs.l3 k x0 x1 x2 x9 x10 (wrap64 (x9 + 1))) else (slices_partialInsertionSortCmpFunc_impl_Peg_at_impl_comparePegs.l0 k x0 x1 x2 x9 (wrap64 (x10 + 1)))
def slices_partialInsertionSortCmpFunc_impl_Peg_at_impl_comparePegs.l3 : Nat → List (S_impl_Peg) → Int → Int → Int → Int → Int → Option (Bool × (List (S_impl_Peg)))
 | 0, _, _, _, _, _, _ => none
 | k + 1, x0, x1, x2, x9, x10, x12 => if x12 < x2 then (if 0 ≤ x12 then (if x12 < (x0.length : Int) then (if 0 ≤ (wrap64 (x12 - 1)) then (if (wrap64 (x12 - 1)) < (x0.length : Int) then ((impl_comparePegs.f k ((rd_impl_Peg x0 x12).f0) ((rd_impl_Peg x0 x12).f1) ((rd_impl_Peg x0 (wrap64 (x12 - 1))).f0) ((rd_impl_Peg x0 (wrap64 (x12 - 1))).f1)).bind fun t385 => (if t385 < 0 then (slices_partialInsertionSortCmpFunc_impl_Peg_at_impl_comparePegs.l3 k ((x0.set (x12 : Int).toNat (⟨(rd_impl_Peg x0 (wrap64 (x12 - 1))).f0, (rd_impl_Peg x0 (wrap64 (x12 - 1))).f1⟩ : S_impl_Peg)).set ((wrap64 (x12 - 1)) : Int).toNat (⟨(rd_impl_Peg x0 x12).f0, (rd_impl_Peg x0 x12).f1⟩ : S_impl_Peg)) x1 x2 x9 x10 (wrap64 (x12 + 1))) else (slices_partialInsertionSortCmpFunc_impl_Peg_at_impl_comparePegs.l0 k x0 x1 x2 x9 (wrap64 (x10 + 1))))) else (none)) else (none)) else (none)) else (none)) else (slices_partialInsertionSortCmpFunc_impl_Peg_at_impl_comparePegs.l0 k x0 x1 x2 x9 (wrap64 (x10 + 1)))
def slices_partialInsertionSortCmpFunc_impl_Peg_at_impl_comparePegs.l2 : Nat → List (S_impl_Peg) → Int → Int → Int → Int → Int → Option (Bool × (List (S_impl_Peg)))
 | 0, _, _, _, _, _, _ => none
 | k + 1, x0, x1, x2, x9, x10, x11 => if x11 ≥ 1 then (if 0 ≤ x11 then (if x11 < (x0.length : Int) then (if 0 ≤ (wrap64 (x11 - 1)) then (if (wrap64 (x11 - 1)) < (x0.length : Int) then ((impl_comparePegs.f k ((rd_impl_Peg x0 x11).f0) ((rd_impl_Peg x0 x11).f1) ((rd_impl_Peg x0 (wrap64 (x11 - 1))).f0) ((rd_impl_Peg x0 (wrap64 (x11 - 1))).f1)).bind fun t378 => (if t378 < 0 then (slices_partialInsertionSortCmpFunc_impl_Peg_at_impl_comparePegs.l2 k ((x0.set (x11 : Int).toNat (⟨(rd_impl_Peg x0 (wrap64 (x11 - 1))).f0, (rd_impl_Peg x0 (wrap64 (x11 - 1))).f1⟩ : S_impl_Peg)).set ((wrap64 (x11 - 1)) : Int).toNat (⟨(rd_impl_Peg x0 x11).f0, (rd_impl_Peg x0 x11).f1⟩ : S_impl_Peg)) x1 x2 x9 x10 (wrap64 (x11 - 1))) else (slices_partialInsertionSortCmpFunc_impl_Peg_at_impl_comparePegs.j4 k x0 x1 x2 x9 x10))) else (none)) else (none)) else (none)) else (none)) else (slices_partialInsertionSortCmpFunc_impl_Peg_at_impl_comparePegs.j4 k x0 x1 x2 x9 x10)
def slices_partialInsertionSortCmpFunc_impl_Peg_at_impl_comparePegs.l1 : Nat → List (S_impl_Peg) → Int → Int → Int → Int → Option (Bool × (List (S_impl_Peg)))
 | 0, _, _, _, _, _ => none
 | k + 1, x0, x1, x2, x9, x10 => if x9 < x2 then (if 0 ≤ x9 then (if x9 < (x0.length : Int) then (if 0 ≤ (wrap64 (x9 - 1)) then (if (wrap64 (x9 - 1)) < (x0.length : Int) then ((impl_comparePegs.f k ((rd_impl_Peg x0 x9).f0) ((rd_impl_Peg x0 x9).f1) ((rd_impl_Peg x0 (wrap64 (x9 - 1))).f0) ((rd_impl_Peg x0 (wrap64 (x9 - 1))).f1)).bind fun t371 => (if t371 < 0 then (slices_partialInsertionSortCmpFunc_impl_Peg_at_impl_comparePegs.j2 k x0 x1 x2 x9 x10) else (slices_partialInsertionSortCmpFunc_impl_Peg_at_impl_comparePegs.l1 k x0 x1 x2 (wrap64 (x9 + 1)) x10))) else (none)) else (none)) else (none)) else (none)) else (slices_partialInsertionSortCmpFunc_impl_Peg_at_impl_comparePegs.j2 k x0 x1 x2 x9 x10)
end
def slices_partialInsertionSortCmpFunc_impl_Peg_at_impl_comparePegs.f (k : Nat) (l0 : List (S_impl_Peg)) (a1 : Int) (a2 : Int) : Option (Bool × (List (S_impl_Peg))) := slices_partialInsertionSortCmpFunc_impl_Peg_at_impl_comparePegs.l0 k l0 a1 a2 (wrap64 (a1 + 1)) 0
theorem slices_partialInsertionSortCmpFunc_impl_Peg_at_impl_comparePegs.mono_l : ∀ k, (∀ y0 y1 y2 y3 y4, LeO (slices_partialInsertionSortCmpFunc_impl_Peg_at_impl_comparePegs.l0 k y0 y1 y2 y3 y4) (slices_partialInsertionSortCmpFunc_impl_Peg_at_impl_comparePegs.l0 (k + 1) y0 y1 y2 y3 y4)) ∧ (∀ y0 y1 y2 y3 y4, LeO (slices_partialInsertionSortCmpFunc_impl_Peg_at_impl_comparePegs.j2 k y0 y1 y2 y3 y4) (slices_partialInsertionSortCmpFunc_impl_Peg_at_impl_comparePegs.j2 (k + 1) y0 y1 y2 y3 y4)) ∧ (∀ y0 y1 y2 y3 y4, LeO (slices_partialInsertionSortCmpFunc_impl_Peg_at_impl_comparePegs.j4 k y0 y1 y2 y3 y4) (slices_partialInsertionSortCmpFunc_impl_Peg_at_impl_comparePegs.j4 (k + 1) y0 y1 y2 y3 y4)) ∧ (∀ y0 y1 y2 y3 y4 y5, LeO (slices_partialInsertionSortCmpFunc_impl_Peg_at_impl_comparePegs.l3 k y0 y1 y2 y3 y4 y5) (slices_partialInsertionSortCmpFunc_impl_Peg_at_impl_comparePegs.l3 (k + 1) y0 y1 y2 y3 y4 y5)) ∧ (∀ y0 y1 y2 y3 y4 y5, LeO (slices_partialInsertionSortCmpFunc_impl_Peg_at_impl_comparePegs.l2 k y0 y1 y2 y3 y4 y5) (slices_partialInsertionSortCmpFunc_impl_Peg_at_impl_comparePegs.l2 (k + 1) y0 y1 y2 y3 y4 y5)) ∧ (∀ y0 y1 y2 y3 y4, LeO (slices_partialInsertionSortCmpFunc_impl_Peg_at_impl_comparePegs.l1 k y0 y1 y2 y3 y4) (slices_partialInsertionSortCmpFunc_impl_Peg_at_impl_comparePegs.l1 (k + 1) y0 y1 y2 y3 y4))
 | 0 => ⟨fun _ _ _ _ _ r h => by simp [slices_partialInsertionSortCmpFunc_impl_Peg_at_impl_comparePegs.l0] at h, fun _ _ _ _ _ r h => by simp [slices_partialInsertionSortCmpFunc_impl_Peg_at_impl_comparePegs.j2] at h, fun _ _ _ _ _ r h => by simp [slices_partialInsertionSortCmpFunc_impl_Peg_at_impl_comparePegs.j4] at h, fun _ _ _ _ _ _ r h => by simp [slices_partialInsertionSortCmpFunc_impl_Peg_at_impl_comparePegs.l3] at h, fun _ _ _ _ _ _ r h => by simp [slices_partialInsertionSortCmpFunc_impl_Peg_at_impl_comparePegs.l2] at h, fun _ _ _ _ _ r h => by simp [slices_partialInsertionSortCmpFunc_impl_Peg_at_impl_comparePegs.l1] at h⟩
 | k + 1 => by
  obtain ⟨ih0, ih1, ih2, ih3, ih4, ih5⟩ := slices_partialInsertionSortCmpFunc_impl_Peg_at_impl_comparePegs.mono_l k
  refine ⟨?_, ?_, ?_, ?_, ?_, ?_⟩ <;> intros <;> (first | unfold slices_partialInsertionSortCmpFunc_impl_Peg_at_impl_comparePegs.l0 | unfold slices_partialInsertionSortCmpFunc_impl_Peg_at_impl_comparePegs.j2 | unfold slices_partialInsertionSortCmpFunc_impl_Peg_at_impl_comparePegs.j4 | unfold slices_partialInsertionSortCmpFunc_impl_Peg_at_impl_comparePegs.l3 | unfold slices_partialInsertionSortCmpFunc_impl_Peg_at_impl_comparePegs.l2 | unfold slices_partialInsertionSortCmpFunc_impl_Peg_at_impl_comparePegs.l1) <;> repeat' first | (with_reducible exact ih0 _ _ _ _ _) | (with_reducible exact ih1 _ _ _ _ _) | (with_reducible exact ih2 _ _ _ _ _) | (with_reducible exact ih3 _ _ _ _ _ _) | (with_reducible exact ih4 _ _ _ _ _ _) | (with_reducible exact ih5 _ _ _ _ _) | (with_reducible exact impl_comparePegs.mono _ _ _ _ _) | (with_reducible exact LeO.refl _) | (with_reducible exact LeO.none _) | (with_reducible refine LeO.ite ?_ ?_) | (with_reducible refine LeO.bind ?_ (fun _ => ?_)) | exact ih0 _ _ _ _ _ | exact ih1 _ _ _ _ _ | exact ih2 _ _ _ _ _ | exact ih3 _ _ _ _ _ _ | exact ih4 _ _ _ _ _ _ | exact ih5 _ _ _ _ _ | exact impl_comparePegs.mono _ _ _ _ _ | exact LeO.none _ | refine LeO.ite ?_ ?_ | refine LeO.bind ?_ (fun _ => ?_)
theorem slices_partialInsertionSortCmpFunc_impl_Peg_at_impl_comparePegs.mono : ∀ a0 a1 a2 k, LeO (slices_partialInsertionSortCmpFunc_impl_Peg_at_impl_comparePegs.f k a0 a1 a2) (slices_partialInsertionSortCmpFunc_impl_Peg_at_impl_comparePegs.f (k + 1) a0 a1 a2) := by
 intro a0 a1 a2 k
 obtain ⟨ih0, ih1, ih2, ih3, ih4, ih5⟩ := slices_partialInsertionSortCmpFunc_impl_Peg_at_impl_comparePegs.mono_l k
 unfold slices_partialInsertionSortCmpFunc_impl_Peg_at_impl_comparePegs.f
 repeat' first | (with_reducible exact ih0 _ _ _ _ _) | (with_reducible exact ih1 _ _ _ _ _) | (with_reducible exact ih2 _ _ _ _ _) | (with_reducible exact ih3 _ _ _ _ _ _) | (with_reducible exact ih4 _ _ _ _ _ _) | (with_reducible exact ih5 _ _ _ _ _) | (with_reducible exact impl_comparePegs.mono _ _ _ _ _) | (with_reducible exact LeO.refl _) | (with_reducible exact LeO.none _) | (with_reducible refine LeO.ite ?_ ?_) | (with_reducible refine LeO.bind ?_ (fun _ => ?_)) | exact ih0 _ _ _ _ _ | exact ih1 _ _ _ _ _ | exact ih2 _ _ _ _ _ | exact ih3 _ _ _ _ _ _ | exact ih4 _ _ _ _ _ _ | exact ih5 _ _ _ _ _ | exact impl_comparePegs.mono _ _ _ _ _ | exact LeO.none _ | refine LeO.ite ?_ ?_ | refine LeO.bind ?_ (fun _ => ?_)
def slices_partialInsertionSortCmpFunc_impl_Peg_at_impl_comparePegs.T5 : Bool × List (List Nat × List Nat) := (true, [([], []), ([], []), ([0, 1], [0, 1]), ([2], [2]), ([3], [3]), ([3], [3]), ([3], [3]), ([5, 6, 3], [3, 5, 6]), ([7, 3], [3, 7]), ([3], [3]), ([3], [3]), ([10, 3], [3, 10]), ([9, 11, 3], [3, 9, 11]), ([12, 3], [3, 12]), ([4, 8, 13, 3, 3], [3, 4, 8, 13]), ([14, 3], [3, 14]), ([15, 3], [3, 15]), ([3, 16], [3, 16])])
def slices_partialInsertionSortCmpFunc_impl_Peg_at_impl_comparePegs.B5 : List Nat := [0, 0, 3, 7, 15, 15, 15, 111, 239, 15, 15, 1039, 3599, 7695, 16383, 32767, 65535, 131071]
theorem slices_partialInsertionSortCmpFunc_impl_Peg_at_impl_comparePegs.tab5 : rtab .any (opsOf Try.f126 5) = slices_partialInsertionSortCmpFunc_impl_Peg_at_impl_comparePegs.T5 := by kernel_rfl
theorem slices_partialInsertionSortCmpFunc_impl_Peg_at_impl_comparePegs.bits5 : waitsOk slices_partialInsertionSortCmpFunc_impl_Peg_at_impl_comparePegs.T5.2 slices_partialInsertionSortCmpFunc_impl_Peg_at_impl_comparePegs.B5 = true := by kernel_rfl
def slices_partialInsertionSortCmpFunc_impl_Peg_at_impl_comparePegs.T11 : Bool × List (List Nat × List Nat) := (true, [([], []), ([], []), ([], []), ([], []), ([3], [3]), ([], []), ([], []), ([6], [6]), ([5, 7], [5, 7]), ([8], [8]), ([], []), ([], []), ([10, 11], [10, 11]), ([12], [12]), ([0, 1, 0, 1, 5, 6, 7, 8, 9, 13], [0, 1]), ([14, 9, 0, 1, 5, 6, 7, 8, 9, 13], [9, 14]), ([2, 4, 0, 1, 2, 3, 4, 5, 6, 7, 8, 9, 10, 11, 12, 13, 14, 15], [2, 4]), ([16, 13, 15, 0, 1, 2, 3, 4, 5, 6, 7, 8, 9, 10, 11, 12, 13, 14, 15], [13, 16])])
def slices_partialInsertionSortCmpFunc_impl_Peg_at_impl_comparePegs.B11 : List Nat := [0, 0, 0, 0, 8, 0, 0, 64, 224, 480, 0, 0, 3072, 7168, 16355, 32739, 65535, 131071]
theorem slices_partialInsertionSortCmpFunc_impl_Peg_at_impl_comparePegs.tab11 : rtab .any (opsOf Try.f126 11) = slices_partialInsertionSortCmpFunc_impl_Peg_at_impl_comparePegs.T11 := by kernel_rfl
theorem slices_partialInsertionSortCmpFunc_impl_Peg_at_impl_comparePegs.bits11 : waitsOk slices_partialInsertionSortCmpFunc_impl_Peg_at_impl_comparePegs.T11.2 slices_partialInsertionSortCmpFunc_impl_Peg_at_impl_comparePegs.B11 = true := by kernel_rfl
def slices_partialInsertionSortCmpFunc_impl_Peg_at_impl_comparePegs.T16 : Bool × List (List Nat × List Nat) := (true, [([], []), ([], []), ([], []), ([1, 2], [1, 2]), ([3], [3]), ([], []), ([], []), ([6], [6]), ([5, 7], [5, 7]), ([8], [8]), ([0, 4, 9], [0, 4, 9]), ([10], [10]), ([11], [11])])
def slices_partialInsertionSortCmpFunc_impl_Peg_at_impl_comparePegs.B16 : List Nat := [0, 0, 0, 6, 14, 0, 0, 64, 224, 480, 1023, 2047, 4095]
theorem slices_partialInsertionSortCmpFunc_impl_Peg_at_impl_comparePegs.tab16 : rtab .any (opsOf Try.f126 16) = slices_partialInsertionSortCmpFunc_impl_Peg_at_impl_comparePegs.T16 := by kernel_rfl
theorem slices_partialInsertionSortCmpFunc_impl_Peg_at_impl_comparePegs.bits16 : waitsOk slices_partialInsertionSortCmpFunc_impl_Peg_at_impl_comparePegs.T16.2 slices_partialInsertionSortCmpFunc_impl_Peg_at_impl_comparePegs.B16 = true := by kernel_rfl
def slices_partialInsertionSortCmpFunc_impl_Peg_at_impl_comparePegs.T17 : Bool × List (List Nat × List Nat) := (true, [([], []), ([], []), ([], []), ([], []), ([3], [3]), ([], []), ([], []), ([6], [6]), ([5, 7], [5, 7]), ([8], [8]), ([], []), ([], []), ([10, 11], [10, 11]), ([12], [12]), ([0, 1, 0, 1, 5, 6, 7, 8, 9, 13], [0, 1]), ([14, 9, 0, 1, 5, 6, 7, 8, 9, 13], [9, 14]), ([2, 4, 0, 1, 2, 3, 4, 5, 6, 7, 8, 9, 10, 11, 12, 13, 14, 15], [2, 4]), ([16, 13, 15, 0, 1, 2, 3, 4, 5, 6, 7, 8, 9, 10, 11, 12, 13, 14, 15], [13, 16])])
def slices_partialInsertionSortCmpFunc_impl_Peg_at_impl_comparePegs.B17 : List Nat := [0, 0, 0, 0, 8, 0, 0, 64, 224, 480, 0, 0, 3072, 7168, 16355, 32739, 65535, 131071]
theorem slices_partialInsertionSortCmpFunc_impl_Peg_at_impl_comparePegs.tab17 : rtab .any (opsOf Try.f126 17) = slices_partialInsertionSortCmpFunc_impl_Peg_at_impl_comparePegs.T17 := by kernel_rfl
theorem slices_partialInsertionSortCmpFunc_impl_Peg_at_impl_comparePegs.bits17 : waitsOk slices_partialInsertionSortCmpFunc_impl_Peg_at_impl_comparePegs.T17.2 slices_partialInsertionSortCmpFunc_impl_Peg_at_impl_comparePegs.B17 = true := by kernel_rfl
def slices_partialInsertionSortCmpFunc_impl_Peg_at_impl_comparePegs.T22 : Bool × List (List Nat × List Nat) := (true, [([], []), ([], []), ([], []), ([1, 2], [1, 2]), ([3], [3]), ([], []), ([], []), ([6], [6]), ([5, 7], [5, 7]), ([8], [8]), ([0, 4, 9], [0, 4, 9]), ([10], [10]), ([11], [11])])
def slices_partialInsertionSortCmpFunc_impl_Peg_at_impl_comparePegs.B22 : List Nat := [0, 0, 0, 6, 14, 0, 0, 64, 224, 480, 1023, 2047, 4095]
theorem slices_partialInsertionSortCmpFunc_impl_Peg_at_impl_comparePegs.tab22 : rtab .any (opsOf Try.f126 22) = slices_partialInsertionSortCmpFunc_impl_Peg_at_impl_comparePegs.T22 := by kernel_rfl
theorem slices_partialInsertionSortCmpFunc_impl_Peg_at_impl_comparePegs.bits22 : waitsOk slices_partialInsertionSortCmpFunc_impl_Peg_at_impl_comparePegs.T22.2 slices_partialInsertionSortCmpFunc_impl_Peg_at_impl_comparePegs.B22 = true := by kernel_rfl
def slices_partialInsertionSortCmpFunc_impl_Peg_at_impl_comparePegs.T23 : Bool × List (List Nat × List Nat) := (true, [([], []), ([], []), ([], []), ([], []), ([3], [3]), ([], []), ([], []), ([6], [6]), ([5, 7], [5, 7]), ([8], [8]), ([], []), ([], []), ([10, 11], [10, 11]), ([12], [12]), ([0, 1, 0, 1, 5, 6, 7, 8, 9, 13], [0, 1]), ([14, 9, 0, 1, 5, 6, 7, 8, 9, 13], [9, 14]), ([2, 4, 0, 1, 2, 3, 4, 5, 6, 7, 8, 9, 10, 11, 12, 13, 14, 15], [2, 4]), ([16, 13, 15, 0, 1, 2, 3, 4, 5, 6, 7, 8, 9, 10, 11, 12, 13, 14, 15], [13, 16])])
def slices_partialInsertionSortCmpFunc_impl_Peg_at_impl_comparePegs.B23 : List Nat := [0, 0, 0, 0, 8, 0, 0, 64, 224, 480, 0, 0, 3072, 7168, 16355, 32739, 65535, 131071]
theorem slices_partialInsertionSortCmpFunc_impl_Peg_at_impl_comparePegs.tab23 : rtab .any (opsOf Try.f126 23) = slices_partialInsertionSortCmpFunc_impl_Peg_at_impl_comparePegs.T23 := by kernel_rfl
theorem slices_partialInsertionSortCmpFunc_impl_Peg_at_impl_comparePegs.bits23 : waitsOk slices_partialInsertionSortCmpFunc_impl_Peg_at_impl_comparePegs.T23.2 slices_partialInsertionSortCmpFunc_impl_Peg_at_impl_comparePegs.B23 = true := by kernel_rfl
set_option maxHeartbeats 8000000 in
set_option maxRecDepth 100000 in
theorem slices_partialInsertionSortCmpFunc_impl_Peg_at_impl_comparePegs.calls (k : Nat) (P0_ : Nat → Prop) (u9000_ : Value) (l0 : List (S_impl_Peg)) (a1 : Int) (a2 : Int) (r1 : Bool) (r2 : List (S_impl_Peg)) (w0 w : World) (hB : Below w0.heap.size w0 w) (ho0 : Kd.R kd_impl_Peg 41 w w0.heap.size P0_ u9000_ l0) (h : slices_partialInsertionSortCmpFunc_impl_Peg_at_impl_comparePegs.f k l0 a1 a2 = some (r1, r2)) :
  Calls Try.prog 126 #[u9000_, .int .i64 a1, .int .i64 a2, .func (.func 108) #[] #[]] w fun e w' => e = .returned (.bool r1) ∧ Kd.R kd_impl_Peg 41 w' w0.heap.size (fun k_ => (P0_ k_ ∨ w.heap.size ≤ k_)) u9000_ r2 ∧ Below w0.heap.size w0 w' ∧ Kept w w' (fun k_ => P0_ k_) := by
 have hu41 := Try.underlying41; have HO0 := aM (show Kd.R kd_impl_Peg 41 w w0.heap.size (fun k_ => (P0_ k_ ∨ w.heap.size ≤ k_)) u9000_ l0 from Kd.R_mono ho0 (fun k_ hk => (.inl hk))); have HK := aM (Kept.refl w (fun k_ => P0_ k_)); have HW0 := aM hB.size; have HB := aM hB; clear hB
 unfold slices_partialInsertionSortCmpFunc_impl_Peg_at_impl_comparePegs.f at h; have H := h; clear h
 have H' := aM H; clear H
 go_enter Try.func126, Try.ntmps126
 go_wp2
 go_loopg [9, 10] k (fun kq v9 v10 w' => ∃ (x0_1 : List (S_impl_Peg)) (x9_1 : Int) (x10_1 : Int), v9 = .int .i64 x9_1 ∧ v10 = .int .i64 x10_1 ∧ Aside0 (slices_partialInsertionSortCmpFunc_impl_Peg_at_impl_comparePegs.l0 kq x0_1 a1 a2 x9_1 x10_1 = some (r1, r2)) ∧ Aside0 (kq ≤ k) ∧ Aside0 (Kd.R kd_impl_Peg 41 w' w0.heap.size (fun k_ => (P0_ k_ ∨ w.heap.size ≤ k_)) u9000_ x0_1) ∧ Aside0 (Kept w w' (fun k_ => P0_ k_)) ∧ Aside0 (Below w0.heap.size w0 w'))
 case atStart => exact ⟨(l0), (wrap64 (a1 + 1)), (0), eQ, eQ, H', ⟨Nat.le_refl _⟩, ⟨by (with_reducible repeat (first | apply rA | apply rN | apply rD)); exact HO0.out⟩, ⟨by repeat (first | (with_reducible first | exact HK.out | apply Kept.alloc | apply Kept.drewN | apply Kept.drew) | exact HK.out)⟩, ⟨bQ⟩⟩
 case round =>
  clear H'; obtain ⟨x0_1, x9_1, x10_1, rfl, rfl, HA, HK1, HO_0, HK, HB⟩ := hrel
  cases gk with
  | zero => exact absurd HA.out (by simp [slices_partialInsertionSortCmpFunc_impl_Peg_at_impl_comparePegs.l0])
  | succ k1 =>
   have H := HA.out; clear HA
   simp only [slices_partialInsertionSortCmpFunc_impl_Peg_at_impl_comparePegs.l0] at H
   by_cases c4 : x10_1 < 5
   ·rw [if_pos c4] at H; have c4b0 := dE c4; clear c4; have HC5 := aM H; clear H
    go_upto_block 2 with (fail)
    go_cut [9] (fun v9 wc => ∃ (kq : Nat) (x9_4 : Int), v9 = .int .i64 x9_4 ∧ Aside0 (slices_partialInsertionSortCmpFunc_impl_Peg_at_impl_comparePegs.j2 kq x0_1 a1 a2 x9_4 x10_1 = some (r1, r2)) ∧ Aside0 (kq ≤ k1) ∧ Aside0 (Kd.R kd_impl_Peg 41 wc w0.heap.size (fun k_ => (P0_ k_ ∨ w.heap.size ≤ k_)) u9000_ x0_1) ∧ Aside0 (Kept w wc (fun k_ => P0_ k_)) ∧ Aside0 (Below w0.heap.size w0 wc))
    case first =>
     have H := HC5.out; clear HC5; have H' := aM H; clear H; go_wp2
     go_loopg [9] k1 (fun kq v9 w' => ∃ (x9_2 : Int), v9 = .int .i64 x9_2 ∧ Aside0 (slices_partialInsertionSortCmpFunc_impl_Peg_at_impl_comparePegs.l1 kq x0_1 a1 a2 x9_2 x10_1 = some (r1, r2)) ∧ Aside0 (kq ≤ k1) ∧ Aside0 (Kd.R kd_impl_Peg 41 w' w0.heap.size (fun k_ => (P0_ k_ ∨ w.heap.size ≤ k_)) u9000_ x0_1) ∧ Aside0 (Kept w w' (fun k_ => P0_ k_)) ∧ Aside0 (Below w0.heap.size w0 w'))
     case atStart => exact ⟨(x9_1), eQ, H', ⟨Nat.le_refl _⟩, ⟨by (with_reducible repeat (first | apply rA | apply rN | apply rD)); exact HO_0.out⟩, ⟨by repeat (first | (with_reducible first | exact HK.out | apply Kept.alloc | apply Kept.drewN | apply Kept.drew) | exact HK.out)⟩, ⟨bQ⟩⟩
     case round =>
      clear H'; (try clear c4); (try clear c4b0); obtain ⟨x9_2, rfl, HA, HK2, HO_0, HK, HB⟩ := hrel
      cases gk with
      | zero => exact absurd HA.out (by simp [slices_partialInsertionSortCmpFunc_impl_Peg_at_impl_comparePegs.l1])
      | succ k2 =>
       have H := HA.out; clear HA
       simp only [slices_partialInsertionSortCmpFunc_impl_Peg_at_impl_comparePegs.l1] at H
       by_cases c6 : x9_2 < a2
       ·rw [if_pos c6] at H; have c6b0 := dE c6; clear c6
        (first | rw [c6b0] | (simp only [i64_w, i32_w]; rw [c6b0]) | skip)
        replace H := iD H; obtain ⟨c7b0, H⟩ := H; replace H := iD H; obtain ⟨c8b0, H⟩ := H; obtain ⟨ji9, hji9⟩ : ∃ j_ : Int, (wrap64 (x9_2 - 1)) = j_ := ⟨_, rfl⟩
        (first | rw [hji9] at H | simp only [hji9] at H)
        have hji9w : (IntKind.i64.wrap (x9_2 - 1)) = ji9 := (i64_w _).trans hji9; replace H := iD H; obtain ⟨c10b0, H⟩ := H; replace H := iD H; obtain ⟨c11b0, H⟩ := H; replace H := bS H; obtain ⟨t371, A12, H⟩ := H
        by_cases c13 : t371 < 0
        ·rw [if_pos c13] at H; have c13b0 := dE c13; clear c13; have H' := aM H; clear H
         try go_wp2
         replace HO_0 := aM (rD HO_0.out); replace HK := aM (Kept.drew HK.out); replace HB := aM (pD HB.out); obtain ⟨Ao15, co15, eo15⟩ := Kd.R_slice HO_0.out
         (first | subst eo15 | (injection eo15 with f1_ f2_ f3_; have f4_ := f1_.symm; have f5_ := f3_.symm; clear f1_ f2_ f3_; subst f4_; subst f5_))
         have p369 : 0 ≤ (x9_2 : Int) := dT aQ; have q369 : x9_2 < (x0_1.length : Int) := dT aQ; obtain ⟨ad369, e369, hx369_0, hx369_1⟩ := at_impl_Peg (rR HO_0.out).2.2 x9_2 p369 q369
         cases e369
         replace p369 := eq_true p369; replace q369 := eq_true q369; have p370 : 0 ≤ ((ji9) : Int) := dT aQ; have q370 : (ji9) < (x0_1.length : Int) := dT aQ; obtain ⟨ad370, e370, hx370_0, hx370_1⟩ := at_impl_Peg (rR HO_0.out).2.2 (ji9) p370 q370; obtain rfl : ad369 = ad370 := (by injection e370)
         replace p370 := eq_true p370; replace q370 := eq_true q370
         refine start_ (n := 18) (S := fun w' => w'.cell? (ad369.add ((x9_2).toNat * 2)) = some (.int .i64 ((rd_impl_Peg x0_1 x9_2).f0)) ∧ w'.cell? ⟨(ad369.add ((x9_2).toNat * 2)).block, (ad369.add ((x9_2).toNat * 2)).off + 1, none⟩ = some (.int .i64 ((rd_impl_Peg x0_1 x9_2).f1)) ∧ w'.cell? (ad369.add (((ji9)).toNat * 2)) = some (.int .i64 ((rd_impl_Peg x0_1 (ji9)).f0)) ∧ w'.cell? ⟨(ad369.add (((ji9)).toNat * 2)).block, (ad369.add (((ji9)).toNat * 2)).off + 1, none⟩ = some (.int .i64 ((rd_impl_Peg x0_1 (ji9)).f1))) (ds := []) (bA 18 0) kR rfl kR ⟨hx369_0, hx369_1, hx370_0, hx370_1⟩ (fun hHeld => ?_); refine with_tabW slices_partialInsertionSortCmpFunc_impl_Peg_at_impl_comparePegs.tab5 slices_partialInsertionSortCmpFunc_impl_Peg_at_impl_comparePegs.bits5 (fun HT_ HW_ => ?_)
         generalize wr.drew = w14 at HO_0 HK HB hx369_0 hx369_1 hx370_0 hx370_1 hHeld ⊢
         refine pU 0 19 (bA 18 1) HT_ ?_; refine pU 1 20 (bA 18 3) HT_ ?_; refine pU 2 21 (bA 18 7) HT_ ?_; refine pU 3 22 (bA 18 15) HT_ ?_; refine pU 4 23 (bA 18 31) HT_ ?_; refine pU 5 24 (bA 18 63) HT_ ?_; refine pU 6 25 (bA 18 127) HT_ ?_; refine pU 7 26 (bA 18 255) HT_ ?_; refine pU 9 28 (bA 18 767) HT_ ?_; refine pU 10 29 (bA 18 1791) HT_ ?_; refine pU 11 30 (bA 18 3839) HT_ ?_; refine pU 12 31 (bA 18 7935) HT_ ?_
         refine tU 8 27 (bA 18 8191) HT_ HW_ hHeld ?_ (hy := Or.inl ⟨by rfl, by rintro w' ⟨s0, s1, s2, s3⟩; go_simp; with_reducible rfl⟩)
         refine tU 13 32 (bA 18 16383) HT_ HW_ hHeld ?_ (hy := Or.inl ⟨by rfl, by rintro w' ⟨s0, s1, s2, s3⟩; go_simp; with_reducible rfl⟩)
         refine oU 14 33 (bA 18 32767) HT_ (fun K hK => ?_)
         refine goesT_ Try.func108 kR rfl #[.agg #[.int .i64 ((rd_impl_Peg x0_1 x9_2).f0), .int .i64 ((rd_impl_Peg x0_1 x9_2).f1)], .agg #[.int .i64 ((rd_impl_Peg x0_1 (ji9)).f0), .int .i64 ((rd_impl_Peg x0_1 (ji9)).f1)]] (by rfl) rfl rfl (by first | rfl | (simp [Act.eval]; done)) (by (try simp only [mA, mC, mN]); first | done | (simp only [hji9]; rfl) | rfl | (simp only [lD, lT]; rfl)) ?_
         with_reducible refine (impl_comparePegs.calls k2 ((rd_impl_Peg x0_1 x9_2).f0) ((rd_impl_Peg x0_1 x9_2).f1) ((rd_impl_Peg x0_1 (ji9)).f0) ((rd_impl_Peg x0_1 (ji9)).f1) t371 _ A12.out).mono ?_
         rintro e w16 ⟨rfl, hb⟩; have HS0_ := (hb.cell (wB _ _ (hHeld.1))).trans (hHeld.1); have HS1_ := (hb.cell (wB _ _ (hHeld.2.1))).trans (hHeld.2.1); have HS2_ := (hb.cell (wB _ _ (hHeld.2.2.1))).trans (hHeld.2.2.1); have HS3_ := (hb.cell (wB _ _ (hHeld.2.2.2))).trans (hHeld.2.2.2); refine ⟨_, rfl, ?_⟩; replace HO_0 := aM (Kd.R_below (by (with_reducible repeat (first | apply rA | apply rN | apply rD)); exact HO_0.out) hb); replace HK := aM (Kept.below (S := (fun k_ => P0_ k_)) (by repeat (first | (with_reducible first | exact HK.out | apply Kept.alloc | apply Kept.drewN | apply Kept.drew) | exact HK.out)) hb); replace HB := tB HB hb
         (try clear hb); (try clear hb2); (try clear hk); (try clear hi)
         refine hK.out _ _ ⟨HS0_, HS1_, HS2_, HS3_⟩ (fun hHeld => ?_)
         clear hK K
         refine nU ?_
         refine pU 15 34 (bA 18 65535) HT_ ?_; refine pU 16 35 (bA 18 131071) HT_ ?_; refine pU 17 36 (bA 18 262143) HT_ ?_
         refine done_ (done_of HT_.out kR) ?_
         try go_wp2
         go_meet
         case rel => exact ⟨_, (x9_2), eQ, H', ⟨by have := HK1.out; have := HK2.out; first | omega | exact Nat.le_refl _⟩, ⟨by (with_reducible repeat (first | apply rA | apply rN | apply rD)); exact HO_0.out⟩, ⟨by repeat (first | (with_reducible first | exact HK.out | apply Kept.alloc | apply Kept.drewN | apply Kept.drew) | exact HK.out)⟩, ⟨bQ⟩⟩
        ·rw [if_neg c13] at H; have c13b0 := decide_eq_false c13; clear c13; have H' := aM H; clear H
         try go_wp2
         replace HO_0 := aM (rD HO_0.out); replace HK := aM (Kept.drew HK.out); replace HB := aM (pD HB.out); obtain ⟨Ao18, co18, eo18⟩ := Kd.R_slice HO_0.out
         (first | subst eo18 | (injection eo18 with f1_ f2_ f3_; have f4_ := f1_.symm; have f5_ := f3_.symm; clear f1_ f2_ f3_; subst f4_; subst f5_))
         have p369 : 0 ≤ (x9_2 : Int) := dT aQ; have q369 : x9_2 < (x0_1.length : Int) := dT aQ; obtain ⟨ad369, e369, hx369_0, hx369_1⟩ := at_impl_Peg (rR HO_0.out).2.2 x9_2 p369 q369
         cases e369
         replace p369 := eq_true p369; replace q369 := eq_true q369; have p370 : 0 ≤ ((ji9) : Int) := dT aQ; have q370 : (ji9) < (x0_1.length : Int) := dT aQ; obtain ⟨ad370, e370, hx370_0, hx370_1⟩ := at_impl_Peg (rR HO_0.out).2.2 (ji9) p370 q370; obtain rfl : ad369 = ad370 := (by injection e370)
         replace p370 := eq_true p370; replace q370 := eq_true q370
         refine start_ (n := 18) (S := fun w' => w'.cell? (ad369.add ((x9_2).toNat * 2)) = some (.int .i64 ((rd_impl_Peg x0_1 x9_2).f0)) ∧ w'.cell? ⟨(ad369.add ((x9_2).toNat * 2)).block, (ad369.add ((x9_2).toNat * 2)).off + 1, none⟩ = some (.int .i64 ((rd_impl_Peg x0_1 x9_2).f1)) ∧ w'.cell? (ad369.add (((ji9)).toNat * 2)) = some (.int .i64 ((rd_impl_Peg x0_1 (ji9)).f0)) ∧ w'.cell? ⟨(ad369.add (((ji9)).toNat * 2)).block, (ad369.add (((ji9)).toNat * 2)).off + 1, none⟩ = some (.int .i64 ((rd_impl_Peg x0_1 (ji9)).f1))) (ds := []) (bA 18 0) kR rfl kR ⟨hx369_0, hx369_1, hx370_0, hx370_1⟩ (fun hHeld => ?_); refine with_tabW slices_partialInsertionSortCmpFunc_impl_Peg_at_impl_comparePegs.tab5 slices_partialInsertionSortCmpFunc_impl_Peg_at_impl_comparePegs.bits5 (fun HT_ HW_ => ?_)
         generalize wr.drew = w17 at HO_0 HK HB hx369_0 hx369_1 hx370_0 hx370_1 hHeld ⊢
         refine pU 0 19 (bA 18 1) HT_ ?_; refine pU 1 20 (bA 18 3) HT_ ?_; refine pU 2 21 (bA 18 7) HT_ ?_; refine pU 3 22 (bA 18 15) HT_ ?_; refine pU 4 23 (bA 18 31) HT_ ?_; refine pU 5 24 (bA 18 63) HT_ ?_; refine pU 6 25 (bA 18 127) HT_ ?_; refine pU 7 26 (bA 18 255) HT_ ?_; refine pU 9 28 (bA 18 767) HT_ ?_; refine pU 10 29 (bA 18 1791) HT_ ?_; refine pU 11 30 (bA 18 3839) HT_ ?_; refine pU 12 31 (bA 18 7935) HT_ ?_
         refine tU 8 27 (bA 18 8191) HT_ HW_ hHeld ?_ (hy := Or.inl ⟨by rfl, by rintro w' ⟨s0, s1, s2, s3⟩; go_simp; with_reducible rfl⟩)
         refine tU 13 32 (bA 18 16383) HT_ HW_ hHeld ?_ (hy := Or.inl ⟨by rfl, by rintro w' ⟨s0, s1, s2, s3⟩; go_simp; with_reducible rfl⟩)
         refine oU 14 33 (bA 18 32767) HT_ (fun K hK => ?_)
         refine goesT_ Try.func108 kR rfl #[.agg #[.int .i64 ((rd_impl_Peg x0_1 x9_2).f0), .int .i64 ((rd_impl_Peg x0_1 x9_2).f1)], .agg #[.int .i64 ((rd_impl_Peg x0_1 (ji9)).f0), .int .i64 ((rd_impl_Peg x0_1 (ji9)).f1)]] (by rfl) rfl rfl (by first | rfl | (simp [Act.eval]; done)) (by (try simp only [mA, mC, mN]); first | done | (simp only [hji9]; rfl) | rfl | (simp only [lD, lT]; rfl)) ?_
         with_reducible refine (impl_comparePegs.calls k2 ((rd_impl_Peg x0_1 x9_2).f0) ((rd_impl_Peg x0_1 x9_2).f1) ((rd_impl_Peg x0_1 (ji9)).f0) ((rd_impl_Peg x0_1 (ji9)).f1) t371 _ A12.out).mono ?_
         rintro e w19 ⟨rfl, hb⟩; have HS0_ := (hb.cell (wB _ _ (hHeld.1))).trans (hHeld.1); have HS1_ := (hb.cell (wB _ _ (hHeld.2.1))).trans (hHeld.2.1); have HS2_ := (hb.cell (wB _ _ (hHeld.2.2.1))).trans (hHeld.2.2.1); have HS3_ := (hb.cell (wB _ _ (hHeld.2.2.2))).trans (hHeld.2.2.2); refine ⟨_, rfl, ?_⟩; replace HO_0 := aM (Kd.R_below (by (with_reducible repeat (first | apply rA | apply rN | apply rD)); exact HO_0.out) hb); replace HK := aM (Kept.below (S := (fun k_ => P0_ k_)) (by repeat (first | (with_reducible first | exact HK.out | apply Kept.alloc | apply Kept.drewN | apply Kept.drew) | exact HK.out)) hb); replace HB := tB HB hb
         (try clear hb); (try clear hb2); (try clear hk); (try clear hi)
         refine hK.out _ _ ⟨HS0_, HS1_, HS2_, HS3_⟩ (fun hHeld => ?_)
         clear hK K
         refine nU ?_
         refine pU 15 34 (bA 18 65535) HT_ ?_; refine pU 16 35 (bA 18 131071) HT_ ?_; refine pU 17 36 (bA 18 262143) HT_ ?_
         refine done_ (done_of HT_.out kR) ?_
         try go_wp2
         go_roundg k2
         case measure => have := HK1.out; have := HK2.out; omega
         case rel => exact ⟨(wrap64 (x9_2 + 1)), eQ, H', ⟨by have := HK1.out; have := HK2.out; omega⟩, ⟨by (with_reducible repeat (first | apply rA | apply rN | apply rD)); exact HO_0.out⟩, ⟨by repeat (first | (with_reducible first | exact HK.out | apply Kept.alloc | apply Kept.drewN | apply Kept.drew) | exact HK.out)⟩, ⟨bQ⟩⟩
       ·rw [if_neg c6] at H; have c6b0 := decide_eq_false c6; clear c6
        (first | rw [c6b0] | (simp only [i64_w, i32_w]; rw [c6b0]) | skip)
        have H' := aM H; clear H
        try go_wp2
        replace HO_0 := aM (rD HO_0.out); replace HK := aM (Kept.drew HK.out); replace HB := aM (pD HB.out)
        refine start_ (n := 18) (S := fun w' => True) (ds := []) (bA 18 0) kR rfl kR trivial (fun hHeld => ?_); refine with_tabW slices_partialInsertionSortCmpFunc_impl_Peg_at_impl_comparePegs.tab5 slices_partialInsertionSortCmpFunc_impl_Peg_at_impl_comparePegs.bits5 (fun HT_ HW_ => ?_)
        generalize wr.drew = w20 at HO_0 HK HB hHeld ⊢
        refine pU 0 19 (bA 18 1) HT_ ?_; refine pU 1 20 (bA 18 3) HT_ ?_; refine pU 2 21 (bA 18 7) HT_ ?_; refine pU 3 22 (bA 18 15) HT_ ?_; refine pU 4 23 (bA 18 31) HT_ ?_ (hy := Or.inr ⟨by rfl, rfl⟩)
        refine pU 5 24 (bA 18 63) HT_ ?_ (hy := Or.inr ⟨by rfl, rfl⟩)
        refine pU 6 25 (bA 18 127) HT_ ?_ (hy := Or.inr ⟨by rfl, rfl⟩)
        refine pU 7 26 (bA 18 255) HT_ ?_ (hy := Or.inr ⟨by rfl, rfl⟩)
        refine pU 8 27 (bA 18 511) HT_ ?_ (hy := Or.inr ⟨by rfl, rfl⟩)
        refine pU 9 28 (bA 18 1023) HT_ ?_ (hy := Or.inr ⟨by rfl, rfl⟩)
        refine pU 10 29 (bA 18 2047) HT_ ?_ (hy := Or.inr ⟨by rfl, rfl⟩)
        refine pU 11 30 (bA 18 4095) HT_ ?_ (hy := Or.inr ⟨by rfl, rfl⟩)
        refine pU 12 31 (bA 18 8191) HT_ ?_ (hy := Or.inr ⟨by rfl, rfl⟩)
        refine pU 13 32 (bA 18 16383) HT_ ?_ (hy := Or.inr ⟨by rfl, rfl⟩)
        refine pU 14 33 (bA 18 32767) HT_ ?_ (hy := Or.inr ⟨by rfl, rfl⟩)
        refine pU 15 34 (bA 18 65535) HT_ ?_ (hy := Or.inr ⟨by rfl, rfl⟩)
        refine pU 16 35 (bA 18 131071) HT_ ?_ (hy := Or.inr ⟨by rfl, rfl⟩)
        refine pU 17 36 (bA 18 262143) HT_ ?_
        refine done_ (done_of HT_.out kR) ?_
        try go_wp2
        go_meet
        case rel => exact ⟨_, (x9_2), eQ, H', ⟨by have := HK1.out; have := HK2.out; first | omega | exact Nat.le_refl _⟩, ⟨by (with_reducible repeat (first | apply rA | apply rN | apply rD)); exact HO_0.out⟩, ⟨by repeat (first | (with_reducible first | exact HK.out | apply Kept.alloc | apply Kept.drewN | apply Kept.drew) | exact HK.out)⟩, ⟨bQ⟩⟩
    case rest =>
     clear HC5; (try clear c4); (try clear c4b0); obtain ⟨kq, x9_4, rfl, HA, HJ4, HO_0, HK, HB⟩ := hcut
     cases kq with
     | zero => exact absurd HA.out (by simp [slices_partialInsertionSortCmpFunc_impl_Peg_at_impl_comparePegs.j2])
     | succ kj4 =>
      have H := HA.out; clear HA
      simp only [slices_partialInsertionSortCmpFunc_impl_Peg_at_impl_comparePegs.j2] at H
      by_cases c21 : x9_4 = a2
      ·rw [if_pos c21] at H; have c21b0 : (x9_4 == a2) = true := beq_iff_eq.mpr c21; have c21b1 : (x9_4 != a2) = false := bne_eq_false_iff_eq.mpr c21; clear c21
       simp only [Option.some.injEq, Prod.mk.injEq] at H
       obtain ⟨rfl, rfl⟩ := H; go_wp2
       go_ret
       exact ⟨wQ, by (with_reducible repeat (first | apply rA | apply rN | apply rD)); exact HO_0.out, by repeat (first | (with_reducible first | exact HB.out | apply pA | apply pN | apply pD) | exact HB.out), by repeat (first | (with_reducible first | exact HK.out | apply Kept.alloc | apply Kept.drewN | apply Kept.drew) | exact HK.out)⟩
      ·rw [if_neg c21] at H; have c21b0 : (x9_4 == a2) = false := beq_eq_false_iff_ne.mpr c21; have c21b1 : (x9_4 != a2) = true := bne_iff_ne.mpr c21
       by_cases c22 : (wrap64 (a2 - a1)) < 50
       ·rw [if_pos c22] at H; have c22b0 := dE c22; clear c22
        simp only [Option.some.injEq, Prod.mk.injEq] at H
        obtain ⟨rfl, rfl⟩ := H; go_wp2
        go_ret
        exact ⟨wQ, by (with_reducible repeat (first | apply rA | apply rN | apply rD)); exact HO_0.out, by repeat (first | (with_reducible first | exact HB.out | apply pA | apply pN | apply pD) | exact HB.out), by repeat (first | (with_reducible first | exact HK.out | apply Kept.alloc | apply Kept.drewN | apply Kept.drew) | exact HK.out)⟩
       ·rw [if_neg c22] at H; have c22b0 := decide_eq_false c22; clear c22; obtain ⟨ji23, hji23⟩ : ∃ j_ : Int, (wrap64 (x9_4 - 1)) = j_ := ⟨_, rfl⟩
        (first | rw [hji23] at H | simp only [hji23] at H)
        have hji23w : (IntKind.i64.wrap (x9_4 - 1)) = ji23 := (i64_w _).trans hji23; replace H := iD H; obtain ⟨c24b0, H⟩ := H; replace H := iD H; obtain ⟨c25b0, H⟩ := H; replace H := iD H; obtain ⟨c26b0, H⟩ := H; replace H := iD H; obtain ⟨c27b0, H⟩ := H; obtain ⟨y374, hy374⟩ : ∃ y_ : List (S_impl_Peg), y_ = (x0_1.set (x9_4 : Int).toNat (⟨(rd_impl_Peg x0_1 (ji23)).f0, (rd_impl_Peg x0_1 (ji23)).f1⟩ : S_impl_Peg)) := ⟨_, rfl⟩; rw [← hy374] at H; have Ny374 := aM hy374; clear hy374; replace H := lS H; obtain ⟨y375, Ny375, H⟩ := H; have HC30 := aM H; clear H
        try go_wp2
        replace HO_0 := aM (rD HO_0.out); replace HK := aM (Kept.drew HK.out); replace HB := aM (pD HB.out); obtain ⟨Ao32, co32, eo32⟩ := Kd.R_slice HO_0.out
        (first | subst eo32 | (injection eo32 with f1_ f2_ f3_; have f4_ := f1_.symm; have f5_ := f3_.symm; clear f1_ f2_ f3_; subst f4_; subst f5_))
        have p372 : 0 ≤ ((ji23) : Int) := dT aQ; have q372 : (ji23) < (x0_1.length : Int) := dT aQ; obtain ⟨ad372, e372, hx372_0, hx372_1⟩ := at_impl_Peg (rR HO_0.out).2.2 (ji23) p372 q372
        cases e372
        replace p372 := eq_true p372; replace q372 := eq_true q372; have p373 : 0 ≤ (x9_4 : Int) := dT aQ; have q373 : x9_4 < (x0_1.length : Int) := dT aQ; obtain ⟨ad373, e373, hx373_0, hx373_1⟩ := at_impl_Peg (rR HO_0.out).2.2 x9_4 p373 q373; obtain rfl : ad372 = ad373 := (by injection e373)
        replace p373 := eq_true p373; replace q373 := eq_true q373; have p28 : 0 ≤ (x9_4 : Int) := dT aQ; have q28 : (x9_4 : Int) < ((x0_1.length : Int) : Int) := dT aQ; obtain ⟨go28, co28, eo28, gb28, gl28, cl28, HG28⟩ := Kd.R_form HO_0.out (by omega)
        (first | cases eo28 | (injection eo28 with ea_ en_ ec_; (first | subst ea_ | (injection ea_ with ea_; subst ea_)); subst ec_; clear en_))
        have GB28 := aM gb28; have GG28 := aM HG28; clear gb28 gl28 HG28; have HMgo28 := aM (show (P0_ go28 ∨ w.heap.size ≤ go28) from (HO_0.out.1 _ rfl))
        (first | simp only [add_plain] at hx372_0 | skip)
        (first | simp only [add_plain] at hx372_1 | skip)
        (first | simp only [add_plain] at hx373_0 | skip)
        (first | simp only [add_plain] at hx373_1 | skip)
        obtain ⟨ce28, hcl28, hM28, hcc28, hfr28⟩ := Kd.R_elem HO_0.out z_impl_Peg (x9_4 : Int) p28 q28; obtain rfl := kd_impl_Peg_openM hM28; have hx28_0 : World.cell? _ ⟨go28, (x9_4 : Int).toNat * 2, none⟩ = some (.int .i64 ((rd_impl_Peg x0_1 x9_4).f0)) := hcc28 0 _ rfl; have hx28_1 : World.cell? _ ⟨go28, (x9_4 : Int).toNat * 2 + 1, none⟩ = some (.int .i64 ((rd_impl_Peg x0_1 x9_4).f1)) := hcc28 1 _ rfl; have hf28_0 : World.frozen? _ ⟨go28, (x9_4 : Int).toNat * 2, none⟩ = false := hfr28 0; have hf28_1 : World.frozen? _ ⟨go28, (x9_4 : Int).toNat * 2 + 1, none⟩ = false := hfr28 1; clear hcl28 hcc28 hfr28 hM28; replace p28 := eq_true p28; replace q28 := eq_true q28; obtain ⟨ce33, hcl33, hM33, hcc33, hfr33⟩ := Kd.R_elem HO_0.out z_impl_Peg (x9_4 : Int) (dT aQ) (by have h_ : (x9_4 : Int) < ((x0_1.length : Int) : Int) := dT aQ; first | exact h_ | (have e_ := (rR HO_0.out).1; omega) | simpa using h_)
        obtain rfl := kd_impl_Peg_openM hM33; have HP33 := (Kd.R_seg HO_0.out (x9_4 : Int) (dT aQ) (by have h_ : (x9_4 : Int) < ((x0_1.length : Int) : Int) := dT aQ; first | exact h_ | (have e_ := (rR HO_0.out).1; omega) | simpa using h_) (seg := [.int .i64 ((rd_impl_Peg x0_1 (ji23)).f0), .int .i64 ((rd_impl_Peg x0_1 (ji23)).f1)]) (j := 0) hcl33 hcc33 (show 2 ≤ 2 from by decide) (x' := (⟨(rd_impl_Peg x0_1 (ji23)).f0, (rd_impl_Peg x0_1 (ji23)).f1⟩ : S_impl_Peg)) (kd_impl_Peg_mkM _ _ _ (⟨(rd_impl_Peg x0_1 (ji23)).f0, (rd_impl_Peg x0_1 (ji23)).f1⟩ : S_impl_Peg) ) (fun _ hk => hk)).1
        rw [← Ny374.out] at HP33; have HQ33 := aM HP33; clear hcl33 hcc33 hfr33 hM33 HP33; have p29 : 0 ≤ ((ji23) : Int) := dT aQ; have q29 : ((ji23) : Int) < ((x0_1.length : Int) : Int) := dT aQ; obtain ⟨ce29, hcl29, hM29, hcc29, hfr29⟩ := Kd.R_elem HQ33.out z_impl_Peg ((ji23) : Int) p29 q29; obtain rfl := kd_impl_Peg_openM hM29; have hx29_0 : World.cell? _ ⟨go28, ((ji23) : Int).toNat * 2, none⟩ = some (.int .i64 ((rd_impl_Peg y374 (ji23)).f0)) := hcc29 0 _ rfl; have hx29_1 : World.cell? _ ⟨go28, ((ji23) : Int).toNat * 2 + 1, none⟩ = some (.int .i64 ((rd_impl_Peg y374 (ji23)).f1)) := hcc29 1 _ rfl; have hf29_0 : World.frozen? _ ⟨go28, ((ji23) : Int).toNat * 2, none⟩ = false := hfr29 0; have hf29_1 : World.frozen? _ ⟨go28, ((ji23) : Int).toNat * 2 + 1, none⟩ = false := hfr29 1; clear hcl29 hcc29 hfr29 hM29; replace p29 := eq_true p29; replace q29 := eq_true q29; obtain ⟨ce34, hcl34, hM34, hcc34, hfr34⟩ := Kd.R_elem HQ33.out z_impl_Peg ((ji23) : Int) (dT aQ) (by have h_ : ((ji23) : Int) < ((x0_1.length : Int) : Int) := dT aQ; first | exact h_ | (have e_ := (rR HO_0.out).1; omega) | simpa using h_)
        obtain rfl := kd_impl_Peg_openM hM34; have HP34 := (Kd.R_seg HQ33.out ((ji23) : Int) (dT aQ) (by have h_ : ((ji23) : Int) < ((x0_1.length : Int) : Int) := dT aQ; first | exact h_ | (have e_ := (rR HO_0.out).1; omega) | simpa using h_) (seg := [.int .i64 ((rd_impl_Peg x0_1 x9_4).f0), .int .i64 ((rd_impl_Peg x0_1 x9_4).f1)]) (j := 0) hcl34 hcc34 (show 2 ≤ 2 from by decide) (x' := (⟨(rd_impl_Peg x0_1 x9_4).f0, (rd_impl_Peg x0_1 x9_4).f1⟩ : S_impl_Peg)) (kd_impl_Peg_mkM _ _ _ (⟨(rd_impl_Peg x0_1 x9_4).f0, (rd_impl_Peg x0_1 x9_4).f1⟩ : S_impl_Peg) ) (fun _ hk => hk)).1
        rw [← Ny375.out] at HP34; have HQ34 := aM HP34; clear hcl34 hcc34 hfr34 hM34 HP34
        refine start_ (n := 18) (S := fun w' => w'.cell? ⟨go28, (((ji23)).toNat * 2), none⟩ = some (.int .i64 ((rd_impl_Peg x0_1 (ji23)).f0)) ∧ w'.cell? ⟨go28, (((ji23)).toNat * 2) + 1, none⟩ = some (.int .i64 ((rd_impl_Peg x0_1 (ji23)).f1)) ∧ w'.cell? ⟨go28, ((x9_4).toNat * 2), none⟩ = some (.int .i64 ((rd_impl_Peg x0_1 x9_4).f0)) ∧ w'.cell? ⟨go28, ((x9_4).toNat * 2) + 1, none⟩ = some (.int .i64 ((rd_impl_Peg x0_1 x9_4).f1))) (ds := [15, 17]) (bA 18 0) kR rfl rfl ⟨hx372_0, hx372_1, hx373_0, hx373_1⟩ (fun hHeld => ?_); refine with_tabW slices_partialInsertionSortCmpFunc_impl_Peg_at_impl_comparePegs.tab11 slices_partialInsertionSortCmpFunc_impl_Peg_at_impl_comparePegs.bits11 (fun HT_ HW_ => ?_)
        generalize wc.drew = w31 at HO_0 HK HB GG28 HQ33 HQ34 hf28_0 hf28_1 hf29_0 hf29_1 hx28_0 hx28_1 hx29_0 hx29_1 hx372_0 hx372_1 hx373_0 hx373_1 hHeld ⊢
        obtain ⟨vs0_, hs0_⟩ := cell?_setCell_some (p := ⟨go28, (x9_4 : Int).toNat * 2, none⟩) (x := .int .i64 ((rd_impl_Peg x0_1 (ji23)).f0)) hx372_0; obtain ⟨va_, ha_⟩ := cell?_setCell_some (p := ⟨go28, (x9_4 : Int).toNat * 2, none⟩) (x := .int .i64 ((rd_impl_Peg x0_1 (ji23)).f0)) hx372_1; obtain ⟨vs1_, hs1_⟩ := cell?_setCell_some (p := ⟨go28, (x9_4 : Int).toNat * 2 + 1, none⟩) (x := .int .i64 ((rd_impl_Peg x0_1 (ji23)).f1)) ha_; clear ha_
        obtain ⟨ce_, hcl_, hM_, hcc_, hfr_⟩ := Kd.R_elem HO_0.out z_impl_Peg ((ji23) : Int) (dT aQ) (dT aQ); have hz0_ : World.frozen? _ ⟨go28, ((ji23) : Int).toNat * 2, none⟩ = false := hfr_ 0; have hz1_ : World.frozen? _ ⟨go28, ((ji23) : Int).toNat * 2 + 1, none⟩ = false := hfr_ 1; clear hcl_ hM_ hcc_ hfr_
        refine pU 0 46 (bA 18 1) HT_ ?_; refine pU 1 47 (bA 18 3) HT_ ?_; refine pU 2 48 (bA 18 7) HT_ ?_; refine pU 3 49 (bA 18 15) HT_ ?_; refine pU 4 50 (bA 18 31) HT_ ?_; refine pU 5 51 (bA 18 63) HT_ ?_; refine pU 6 52 (bA 18 127) HT_ ?_; refine pU 7 53 (bA 18 255) HT_ ?_; refine pU 8 54 (bA 18 511) HT_ ?_; refine pU 10 56 (bA 18 1535) HT_ ?_; refine pU 11 57 (bA 18 3583) HT_ ?_; refine pU 12 58 (bA 18 7679) HT_ ?_
        refine tU 9 55 (bA 18 8191) HT_ HW_ hHeld ?_ (hy := Or.inl ⟨by rfl, by rintro w' ⟨s0, s1, s2, s3⟩; go_simp; with_reducible rfl⟩)
        refine tU 13 59 (bA 18 16383) HT_ HW_ hHeld ?_ (hy := Or.inl ⟨by rfl, by rintro w' ⟨s0, s1, s2, s3⟩; go_simp; with_reducible rfl⟩)
        refine pU 14 60 (bA 18 32767) HT_ ?_
        refine last_ (i := 15) (N := none) (bA 18 65535) rfl rfl (one_of HT_.out kR) (by decide) (fun K hK => ?_)
        refine skip_ (w1 := ?_) (by rfl) rfl ?_ ?_
        rotate_left
        ·go_simp
         rfl
        refine hK.out _ _ ?_
        clear hK K; refine pU 16 61 (bA 18 131071) HT_ ?_
        refine last_ (i := 17) (N := none) (bA 18 262143) rfl rfl (one_of HT_.out kR) (by decide) (fun K hK => ?_)
        refine skip_ (w1 := ?_) (by rfl) rfl ?_ ?_
        rotate_left
        ·go_simp
         rfl
        refine hK.out _ _ ?_
        clear hK K
        refine done_ (done_of HT_.out kR) ?_
        go_upto_if 65 with (fail)
        go_cut [] (fun wc => ∃ (kq : Nat) (x0_29 : List (S_impl_Peg)), Aside0 (slices_partialInsertionSortCmpFunc_impl_Peg_at_impl_comparePegs.j4 kq x0_29 a1 a2 x9_4 x10_1 = some (r1, r2)) ∧ Aside0 (kq ≤ kj4) ∧ Aside0 (Kd.R kd_impl_Peg 41 wc w0.heap.size (fun k_ => (P0_ k_ ∨ w.heap.size ≤ k_)) (.slice (some ⟨go28, 0, none⟩) x0_1.length co32) x0_29) ∧ Aside0 (Kept w wc (fun k_ => P0_ k_)) ∧ Aside0 (Below w0.heap.size w0 wc))
        case first =>
         have H := HC30.out; clear HC30
         by_cases c35 : (wrap64 (x9_4 - a1)) ≥ 2
         ·rw [if_pos c35] at H; have c35b0 := dE c35; clear c35
          (first | rw [c35b0] | (simp only [i64_w, i32_w]; rw [c35b0]) | skip)
          have H' := aM H; clear H; go_wp2
          go_loopg [11] kj4 (fun kq v11 w' => ∃ (x0_3 : List (S_impl_Peg)) (x11_3 : Int), v11 = .int .i64 x11_3 ∧ Aside0 (slices_partialInsertionSortCmpFunc_impl_Peg_at_impl_comparePegs.l2 kq x0_3 a1 a2 x9_4 x10_1 x11_3 = some (r1, r2)) ∧ Aside0 (kq ≤ kj4) ∧ Aside0 (Kd.R kd_impl_Peg 41 w' w0.heap.size (fun k_ => (P0_ k_ ∨ w.heap.size ≤ k_)) (.slice (some ⟨go28, 0, none⟩) x0_1.length co32) x0_3) ∧ Aside0 (Kept w w' (fun k_ => P0_ k_)) ∧ Aside0 (Below w0.heap.size w0 w'))
          case atStart => exact ⟨(y375), (ji23), (by first | rfl | (simp; done) | (simp only [← hji23] <;> (first | rfl | simp)) | (simp [*]; done)), H', ⟨Nat.le_refl _⟩, ⟨by (with_reducible repeat (first | apply rA | apply rN | apply rD)); exact HQ34.out⟩, ⟨by repeat (first | (with_reducible first | exact HK.out | apply Kept.alloc | apply Kept.drewN | apply Kept.drew | refine Kept.setCell ?_ HMgo28.out _ | refine Kept.setCell ?_ HMgo28.out _ | refine Kept.setCell ?_ HMgo28.out _ | refine Kept.setCell ?_ HMgo28.out _) | exact HK.out)⟩, ⟨by repeat (first | (with_reducible first | exact HB.out | apply pA | apply pN | apply pD | refine pS ?_ GB28.out | refine pS ?_ GB28.out | refine pS ?_ GB28.out | refine pS ?_ GB28.out) | exact HB.out)⟩⟩
          case round =>
           clear H'; (try clear c4); (try clear c4b0); (try clear c21); (try clear c21b0); (try clear c21b1); (try clear c22); (try clear c22b0); (try clear c24b0); (try clear c25b0); (try clear c26b0); (try clear c27b0); (try clear p28); (try clear q28); (try clear p29); (try clear q29); (try clear c35); (try clear c35b0); (try clear hx28_0); (try clear hx28_1); (try clear hx29_0); (try clear hx29_1); (try clear hx372_0); (try clear hx372_1); (try clear hx373_0); (try clear hx373_1); (try clear p372); (try clear p373); (try clear q372); (try clear q373); obtain ⟨x0_3, x11_3, rfl, HA, HK3, HO_0, HK, HB⟩ := hrel; have hl0_3 := (rR HO_0.out).1; rw [hl0_3] at HO_0
           (try simp only [hl0_3])
           cases gk with
           | zero => exact absurd HA.out (by simp [slices_partialInsertionSortCmpFunc_impl_Peg_at_impl_comparePegs.l2])
           | succ k3 =>
            have H := HA.out; clear HA
            simp only [slices_partialInsertionSortCmpFunc_impl_Peg_at_impl_comparePegs.l2] at H
            by_cases c36 : x11_3 ≥ 1
            ·rw [if_pos c36] at H; have c36b0 := dE c36; clear c36; replace H := iD H; obtain ⟨c37b0, H⟩ := H; replace H := iD H; obtain ⟨c38b0, H⟩ := H; obtain ⟨ji39, hji39⟩ : ∃ j_ : Int, (wrap64 (x11_3 - 1)) = j_ := ⟨_, rfl⟩
             (first | rw [hji39] at H | simp only [hji39] at H)
             have hji39w : (IntKind.i64.wrap (x11_3 - 1)) = ji39 := (i64_w _).trans hji39; replace H := iD H; obtain ⟨c40b0, H⟩ := H; replace H := iD H; obtain ⟨c41b0, H⟩ := H; replace H := bS H; obtain ⟨t378, A42, H⟩ := H
             by_cases c43 : t378 < 0
             ·rw [if_pos c43] at H; have c43b0 := dE c43; clear c43; obtain ⟨y381, hy381⟩ : ∃ y_ : List (S_impl_Peg), y_ = (x0_3.set (x11_3 : Int).toNat (⟨(rd_impl_Peg x0_3 (ji39)).f0, (rd_impl_Peg x0_3 (ji39)).f1⟩ : S_impl_Peg)) := ⟨_, rfl⟩; rw [← hy381] at H; have Ny381 := aM hy381; clear hy381; obtain ⟨y382, hy382⟩ : ∃ y_ : List (S_impl_Peg), y_ = (y381.set ((ji39) : Int).toNat (⟨(rd_impl_Peg x0_3 x11_3).f0, (rd_impl_Peg x0_3 x11_3).f1⟩ : S_impl_Peg)) := ⟨_, rfl⟩; rw [← hy382] at H; have Ny382 := aM hy382; clear hy382; have H' := aM H; clear H
              try go_wp2
              replace HO_0 := aM (rD HO_0.out); replace HK := aM (Kept.drew HK.out); replace HB := aM (pD HB.out); have p376 : 0 ≤ (x11_3 : Int) := dT aQ; have q376 : x11_3 < (x0_3.length : Int) := dT aQ; obtain ⟨ad376, e376, hx376_0, hx376_1⟩ := at_impl_Peg (rR HO_0.out).2.2 x11_3 p376 q376; obtain rfl : (⟨go28, 0, none⟩ : Addr) = ad376 := (by injection e376)
              (first | simp only [add_plain] at hx376_0 | simp only [add_at] at hx376_0 | simp only [Addr.add, Nat.zero_add] at hx376_0 | skip)
              (first | simp only [add_plain] at hx376_1 | simp only [add_at] at hx376_1 | simp only [Addr.add, Nat.zero_add] at hx376_1 | skip)
              replace p376 := eq_true p376; replace q376 := eq_true q376; have p377 : 0 ≤ ((ji39) : Int) := dT aQ; have q377 : (ji39) < (x0_3.length : Int) := dT aQ; obtain ⟨ad377, e377, hx377_0, hx377_1⟩ := at_impl_Peg (rR HO_0.out).2.2 (ji39) p377 q377; obtain rfl : (⟨go28, 0, none⟩ : Addr) = ad377 := (by injection e377)
              (first | simp only [add_plain] at hx377_0 | simp only [add_at] at hx377_0 | simp only [Addr.add, Nat.zero_add] at hx377_0 | skip)
              (first | simp only [add_plain] at hx377_1 | simp only [add_at] at hx377_1 | simp only [Addr.add, Nat.zero_add] at hx377_1 | skip)
              replace p377 := eq_true p377; replace q377 := eq_true q377
              refine start_ (n := 13) (S := fun w' => w'.cell? ⟨go28, (x11_3).toNat * 2, none⟩ = some (.int .i64 ((rd_impl_Peg x0_3 x11_3).f0)) ∧ w'.cell? ⟨go28, (x11_3).toNat * 2 + 1, none⟩ = some (.int .i64 ((rd_impl_Peg x0_3 x11_3).f1)) ∧ w'.cell? ⟨go28, ((ji39)).toNat * 2, none⟩ = some (.int .i64 ((rd_impl_Peg x0_3 (ji39)).f0)) ∧ w'.cell? ⟨go28, ((ji39)).toNat * 2 + 1, none⟩ = some (.int .i64 ((rd_impl_Peg x0_3 (ji39)).f1))) (ds := []) (bA 13 0) kR rfl kR ⟨hx376_0, hx376_1, hx377_0, hx377_1⟩ (fun hHeld => ?_); refine with_tabW slices_partialInsertionSortCmpFunc_impl_Peg_at_impl_comparePegs.tab16 slices_partialInsertionSortCmpFunc_impl_Peg_at_impl_comparePegs.bits16 (fun HT_ HW_ => ?_)
              generalize wr.drew = w46 at HO_0 HK HB hx376_0 hx376_1 hx377_0 hx377_1 hHeld ⊢
              refine pU 0 72 (bA 13 1) HT_ ?_; refine pU 1 73 (bA 13 3) HT_ ?_; refine pU 2 74 (bA 13 7) HT_ ?_; refine pU 3 75 (bA 13 15) HT_ ?_; refine pU 5 77 (bA 13 47) HT_ ?_; refine pU 6 78 (bA 13 111) HT_ ?_; refine pU 7 79 (bA 13 239) HT_ ?_; refine pU 8 80 (bA 13 495) HT_ ?_
              refine tU 4 76 (bA 13 511) HT_ HW_ hHeld ?_ (hy := Or.inl ⟨by rfl, by rintro w' ⟨s0, s1, s2, s3⟩; go_simp; with_reducible rfl⟩)
              refine tU 9 81 (bA 13 1023) HT_ HW_ hHeld ?_ (hy := Or.inl ⟨by rfl, by rintro w' ⟨s0, s1, s2, s3⟩; go_simp; with_reducible rfl⟩)
              refine oU 10 82 (bA 13 2047) HT_ (fun K hK => ?_)
              refine goesT_ Try.func108 kR rfl #[.agg #[.int .i64 ((rd_impl_Peg x0_3 x11_3).f0), .int .i64 ((rd_impl_Peg x0_3 x11_3).f1)], .agg #[.int .i64 ((rd_impl_Peg x0_3 (ji39)).f0), .int .i64 ((rd_impl_Peg x0_3 (ji39)).f1)]] (by rfl) rfl rfl (by first | rfl | (simp [Act.eval]; done)) (by (try simp only [mA, mC, mN]); first | done | (simp only [hji39]; rfl) | rfl | (simp only [lD, lT]; rfl)) ?_
              with_reducible refine (impl_comparePegs.calls k3 ((rd_impl_Peg x0_3 x11_3).f0) ((rd_impl_Peg x0_3 x11_3).f1) ((rd_impl_Peg x0_3 (ji39)).f0) ((rd_impl_Peg x0_3 (ji39)).f1) t378 _ A42.out).mono ?_
              rintro e w47 ⟨rfl, hb⟩; have HS0_ := (hb.cell (wB _ _ (hHeld.1))).trans (hHeld.1); have HS1_ := (hb.cell (wB _ _ (hHeld.2.1))).trans (hHeld.2.1); have HS2_ := (hb.cell (wB _ _ (hHeld.2.2.1))).trans (hHeld.2.2.1); have HS3_ := (hb.cell (wB _ _ (hHeld.2.2.2))).trans (hHeld.2.2.2); refine ⟨_, rfl, ?_⟩; replace HO_0 := aM (Kd.R_below (by (with_reducible repeat (first | apply rA | apply rN | apply rD)); exact HO_0.out) hb); replace HK := aM (Kept.below (S := (fun k_ => P0_ k_)) (by repeat (first | (with_reducible first | exact HK.out | apply Kept.alloc | apply Kept.drewN | apply Kept.drew) | exact HK.out)) hb); replace HB := tB HB hb
              (try clear hb); (try clear hb2); (try clear hk); (try clear hi)
              refine hK.out _ _ ⟨HS0_, HS1_, HS2_, HS3_⟩ (fun hHeld => ?_)
              clear hK K
              refine nU ?_
              refine pU 11 83 (bA 13 4095) HT_ ?_; refine pU 12 84 (bA 13 8191) HT_ ?_
              refine done_ (done_of HT_.out kR) ?_
              try go_wp2
              replace HO_0 := aM (rD HO_0.out); replace HK := aM (Kept.drew HK.out); replace HB := aM (pD HB.out); have p379 : 0 ≤ ((ji39) : Int) := dT aQ; have q379 : (ji39) < (x0_3.length : Int) := dT aQ; obtain ⟨ad379, e379, hx379_0, hx379_1⟩ := at_impl_Peg (rR HO_0.out).2.2 (ji39) p379 q379; obtain rfl : (⟨go28, 0, none⟩ : Addr) = ad379 := (by injection e379)
              (first | simp only [add_plain] at hx379_0 | simp only [add_at] at hx379_0 | simp only [Addr.add, Nat.zero_add] at hx379_0 | skip)
              (first | simp only [add_plain] at hx379_1 | simp only [add_at] at hx379_1 | simp only [Addr.add, Nat.zero_add] at hx379_1 | skip)
              replace p379 := eq_true p379; replace q379 := eq_true q379; have p380 : 0 ≤ (x11_3 : Int) := dT aQ; have q380 : x11_3 < (x0_3.length : Int) := dT aQ; obtain ⟨ad380, e380, hx380_0, hx380_1⟩ := at_impl_Peg (rR HO_0.out).2.2 x11_3 p380 q380; obtain rfl : (⟨go28, 0, none⟩ : Addr) = ad380 := (by injection e380)
              (first | simp only [add_plain] at hx380_0 | simp only [add_at] at hx380_0 | simp only [Addr.add, Nat.zero_add] at hx380_0 | skip)
              (first | simp only [add_plain] at hx380_1 | simp only [add_at] at hx380_1 | simp only [Addr.add, Nat.zero_add] at hx380_1 | skip)
              replace p380 := eq_true p380; replace q380 := eq_true q380; have p44 : 0 ≤ (x11_3 : Int) := dT aQ; have q44 : (x11_3 : Int) < ((x0_3.length : Int) : Int) := dT aQ; obtain ⟨ce44, hcl44, hM44, hcc44, hfr44⟩ := Kd.R_elem HO_0.out z_impl_Peg (x11_3 : Int) p44 q44; obtain rfl := kd_impl_Peg_openM hM44; have hx44_0 : World.cell? _ ⟨go28, (x11_3 : Int).toNat * 2, none⟩ = some (.int .i64 ((rd_impl_Peg x0_3 x11_3).f0)) := hcc44 0 _ rfl; have hx44_1 : World.cell? _ ⟨go28, (x11_3 : Int).toNat * 2 + 1, none⟩ = some (.int .i64 ((rd_impl_Peg x0_3 x11_3).f1)) := hcc44 1 _ rfl; have hf44_0 : World.frozen? _ ⟨go28, (x11_3 : Int).toNat * 2, none⟩ = false := hfr44 0; have hf44_1 : World.frozen? _ ⟨go28, (x11_3 : Int).toNat * 2 + 1, none⟩ = false := hfr44 1; clear hcl44 hcc44 hfr44 hM44; replace p44 := eq_true p44; replace q44 := eq_true q44; obtain ⟨ce49, hcl49, hM49, hcc49, hfr49⟩ := Kd.R_elem HO_0.out z_impl_Peg (x11_3 : Int) (dT aQ) (by have h_ : (x11_3 : Int) < ((x0_3.length : Int) : Int) := dT aQ; first | exact h_ | (have e_ := (rR HO_0.out).1; omega) | simpa using h_)
              obtain rfl := kd_impl_Peg_openM hM49; have HP49 := (Kd.R_seg HO_0.out (x11_3 : Int) (dT aQ) (by have h_ : (x11_3 : Int) < ((x0_3.length : Int) : Int) := dT aQ; first | exact h_ | (have e_ := (rR HO_0.out).1; omega) | simpa using h_) (seg := [.int .i64 ((rd_impl_Peg x0_3 (ji39)).f0), .int .i64 ((rd_impl_Peg x0_3 (ji39)).f1)]) (j := 0) hcl49 hcc49 (show 2 ≤ 2 from by decide) (x' := (⟨(rd_impl_Peg x0_3 (ji39)).f0, (rd_impl_Peg x0_3 (ji39)).f1⟩ : S_impl_Peg)) (kd_impl_Peg_mkM _ _ _ (⟨(rd_impl_Peg x0_3 (ji39)).f0, (rd_impl_Peg x0_3 (ji39)).f1⟩ : S_impl_Peg) ) (fun _ hk => hk)).1
              rw [← Ny381.out] at HP49; have HQ49 := aM HP49; clear hcl49 hcc49 hfr49 hM49 HP49; have p45 : 0 ≤ ((ji39) : Int) := dT aQ; have q45 : ((ji39) : Int) < ((x0_3.length : Int) : Int) := dT aQ; obtain ⟨ce45, hcl45, hM45, hcc45, hfr45⟩ := Kd.R_elem HQ49.out z_impl_Peg ((ji39) : Int) p45 q45; obtain rfl := kd_impl_Peg_openM hM45; have hx45_0 : World.cell? _ ⟨go28, ((ji39) : Int).toNat * 2, none⟩ = some (.int .i64 ((rd_impl_Peg y381 (ji39)).f0)) := hcc45 0 _ rfl; have hx45_1 : World.cell? _ ⟨go28, ((ji39) : Int).toNat * 2 + 1, none⟩ = some (.int .i64 ((rd_impl_Peg y381 (ji39)).f1)) := hcc45 1 _ rfl; have hf45_0 : World.frozen? _ ⟨go28, ((ji39) : Int).toNat * 2, none⟩ = false := hfr45 0; have hf45_1 : World.frozen? _ ⟨go28, ((ji39) : Int).toNat * 2 + 1, none⟩ = false := hfr45 1; clear hcl45 hcc45 hfr45 hM45; replace p45 := eq_true p45; replace q45 := eq_true q45; obtain ⟨ce50, hcl50, hM50, hcc50, hfr50⟩ := Kd.R_elem HQ49.out z_impl_Peg ((ji39) : Int) (dT aQ) (by have h_ : ((ji39) : Int) < ((x0_3.length : Int) : Int) := dT aQ; first | exact h_ | (have e_ := (rR HO_0.out).1; omega) | simpa using h_)
              obtain rfl := kd_impl_Peg_openM hM50; have HP50 := (Kd.R_seg HQ49.out ((ji39) : Int) (dT aQ) (by have h_ : ((ji39) : Int) < ((x0_3.length : Int) : Int) := dT aQ; first | exact h_ | (have e_ := (rR HO_0.out).1; omega) | simpa using h_) (seg := [.int .i64 ((rd_impl_Peg x0_3 x11_3).f0), .int .i64 ((rd_impl_Peg x0_3 x11_3).f1)]) (j := 0) hcl50 hcc50 (show 2 ≤ 2 from by decide) (x' := (⟨(rd_impl_Peg x0_3 x11_3).f0, (rd_impl_Peg x0_3 x11_3).f1⟩ : S_impl_Peg)) (kd_impl_Peg_mkM _ _ _ (⟨(rd_impl_Peg x0_3 x11_3).f0, (rd_impl_Peg x0_3 x11_3).f1⟩ : S_impl_Peg) ) (fun _ hk => hk)).1
              rw [← Ny382.out] at HP50; have HQ50 := aM HP50; clear hcl50 hcc50 hfr50 hM50 HP50
              refine start_ (n := 18) (S := fun w' => w'.cell? ⟨go28, ((ji39)).toNat * 2, none⟩ = some (.int .i64 ((rd_impl_Peg x0_3 (ji39)).f0)) ∧ w'.cell? ⟨go28, ((ji39)).toNat * 2 + 1, none⟩ = some (.int .i64 ((rd_impl_Peg x0_3 (ji39)).f1)) ∧ w'.cell? ⟨go28, (x11_3).toNat * 2, none⟩ = some (.int .i64 ((rd_impl_Peg x0_3 x11_3).f0)) ∧ w'.cell? ⟨go28, (x11_3).toNat * 2 + 1, none⟩ = some (.int .i64 ((rd_impl_Peg x0_3 x11_3).f1))) (ds := [15, 17]) (bA 18 0) kR rfl rfl ⟨hx379_0, hx379_1, hx380_0, hx380_1⟩ (fun hHeld => ?_); refine with_tabW slices_partialInsertionSortCmpFunc_impl_Peg_at_impl_comparePegs.tab17 slices_partialInsertionSortCmpFunc_impl_Peg_at_impl_comparePegs.bits17 (fun HT_ HW_ => ?_)
              generalize w47.drew = w48 at HO_0 HK HB HQ49 HQ50 hf44_0 hf44_1 hf45_0 hf45_1 hx379_0 hx379_1 hx380_0 hx380_1 hx44_0 hx44_1 hx45_0 hx45_1 hHeld ⊢
              obtain ⟨vs0_, hs0_⟩ := cell?_setCell_some (p := ⟨go28, (x11_3 : Int).toNat * 2, none⟩) (x := .int .i64 ((rd_impl_Peg x0_3 (ji39)).f0)) hx379_0; obtain ⟨va_, ha_⟩ := cell?_setCell_some (p := ⟨go28, (x11_3 : Int).toNat * 2, none⟩) (x := .int .i64 ((rd_impl_Peg x0_3 (ji39)).f0)) hx379_1; obtain ⟨vs1_, hs1_⟩ := cell?_setCell_some (p := ⟨go28, (x11_3 : Int).toNat * 2 + 1, none⟩) (x := .int .i64 ((rd_impl_Peg x0_3 (ji39)).f1)) ha_; clear ha_
              obtain ⟨ce_, hcl_, hM_, hcc_, hfr_⟩ := Kd.R_elem HO_0.out z_impl_Peg ((ji39) : Int) (dT aQ) (dT aQ); have hz0_ : World.frozen? _ ⟨go28, ((ji39) : Int).toNat * 2, none⟩ = false := hfr_ 0; have hz1_ : World.frozen? _ ⟨go28, ((ji39) : Int).toNat * 2 + 1, none⟩ = false := hfr_ 1; clear hcl_ hM_ hcc_ hfr_
              refine pU 0 85 (bA 18 1) HT_ ?_; refine pU 1 86 (bA 18 3) HT_ ?_; refine pU 2 87 (bA 18 7) HT_ ?_; refine pU 3 88 (bA 18 15) HT_ ?_; refine pU 4 89 (bA 18 31) HT_ ?_; refine pU 5 90 (bA 18 63) HT_ ?_; refine pU 6 91 (bA 18 127) HT_ ?_; refine pU 7 92 (bA 18 255) HT_ ?_; refine pU 8 93 (bA 18 511) HT_ ?_; refine pU 10 95 (bA 18 1535) HT_ ?_; refine pU 11 96 (bA 18 3583) HT_ ?_; refine pU 12 97 (bA 18 7679) HT_ ?_
              refine tU 9 94 (bA 18 8191) HT_ HW_ hHeld ?_ (hy := Or.inl ⟨by rfl, by rintro w' ⟨s0, s1, s2, s3⟩; go_simp; with_reducible rfl⟩)
              refine tU 13 98 (bA 18 16383) HT_ HW_ hHeld ?_ (hy := Or.inl ⟨by rfl, by rintro w' ⟨s0, s1, s2, s3⟩; go_simp; with_reducible rfl⟩)
              refine pU 14 99 (bA 18 32767) HT_ ?_
              refine last_ (i := 15) (N := none) (bA 18 65535) rfl rfl (one_of HT_.out kR) (by decide) (fun K hK => ?_)
              refine skip_ (w1 := ?_) (by rfl) rfl ?_ ?_
              rotate_left
              ·go_simp
               rfl
              refine hK.out _ _ ?_
              clear hK K; refine pU 16 100 (bA 18 131071) HT_ ?_
              refine last_ (i := 17) (N := none) (bA 18 262143) rfl rfl (one_of HT_.out kR) (by decide) (fun K hK => ?_)
              refine skip_ (w1 := ?_) (by rfl) rfl ?_ ?_
              rotate_left
              ·go_simp
               rfl
              refine hK.out _ _ ?_
              clear hK K
              refine done_ (done_of HT_.out kR) ?_
              try go_wp2
              (try simp only [← hl0_3])
              go_roundg k3
              case measure => have := HK1.out; have := HJ4.out; have := HK3.out; omega
              case rel => exact ⟨(y382), (ji39), (by first | rfl | (simp; done) | (simp only [← hji39] <;> (first | rfl | simp)) | (simp [*]; done)), H', ⟨by have := HK1.out; have := HJ4.out; have := HK3.out; omega⟩, ⟨by (try simp only [hl0_3]); (with_reducible repeat (first | apply rA | apply rN | apply rD)); exact HQ50.out⟩, ⟨by repeat (first | (with_reducible first | exact HK.out | apply Kept.alloc | apply Kept.drewN | apply Kept.drew | refine Kept.setCell ?_ HMgo28.out _ | refine Kept.setCell ?_ HMgo28.out _ | refine Kept.setCell ?_ HMgo28.out _ | refine Kept.setCell ?_ HMgo28.out _) | exact HK.out)⟩, ⟨by repeat (first | (with_reducible first | exact HB.out | apply pA | apply pN | apply pD | refine pS ?_ GB28.out | refine pS ?_ GB28.out | refine pS ?_ GB28.out | refine pS ?_ GB28.out) | exact HB.out)⟩⟩
             ·rw [if_neg c43] at H; have c43b0 := decide_eq_false c43; clear c43; have H' := aM H; clear H
              try go_wp2
              replace HO_0 := aM (rD HO_0.out); replace HK := aM (Kept.drew HK.out); replace HB := aM (pD HB.out); have p376 : 0 ≤ (x11_3 : Int) := dT aQ; have q376 : x11_3 < (x0_3.length : Int) := dT aQ; obtain ⟨ad376, e376, hx376_0, hx376_1⟩ := at_impl_Peg (rR HO_0.out).2.2 x11_3 p376 q376; obtain rfl : (⟨go28, 0, none⟩ : Addr) = ad376 := (by injection e376)
              (first | simp only [add_plain] at hx376_0 | simp only [add_at] at hx376_0 | simp only [Addr.add, Nat.zero_add] at hx376_0 | skip)
              (first | simp only [add_plain] at hx376_1 | simp only [add_at] at hx376_1 | simp only [Addr.add, Nat.zero_add] at hx376_1 | skip)
              replace p376 := eq_true p376; replace q376 := eq_true q376; have p377 : 0 ≤ ((ji39) : Int) := dT aQ; have q377 : (ji39) < (x0_3.length : Int) := dT aQ; obtain ⟨ad377, e377, hx377_0, hx377_1⟩ := at_impl_Peg (rR HO_0.out).2.2 (ji39) p377 q377; obtain rfl : (⟨go28, 0, none⟩ : Addr) = ad377 := (by injection e377)
              (first | simp only [add_plain] at hx377_0 | simp only [add_at] at hx377_0 | simp only [Addr.add, Nat.zero_add] at hx377_0 | skip)
              (first | simp only [add_plain] at hx377_1 | simp only [add_at] at hx377_1 | simp only [Addr.add, Nat.zero_add] at hx377_1 | skip)
              replace p377 := eq_true p377; replace q377 := eq_true q377
              refine start_ (n := 13) (S := fun w' => w'.cell? ⟨go28, (x11_3).toNat * 2, none⟩ = some (.int .i64 ((rd_impl_Peg x0_3 x11_3).f0)) ∧ w'.cell? ⟨go28, (x11_3).toNat * 2 + 1, none⟩ = some (.int .i64 ((rd_impl_Peg x0_3 x11_3).f1)) ∧ w'.cell? ⟨go28, ((ji39)).toNat * 2, none⟩ = some (.int .i64 ((rd_impl_Peg x0_3 (ji39)).f0)) ∧ w'.cell? ⟨go28, ((ji39)).toNat * 2 + 1, none⟩ = some (.int .i64 ((rd_impl_Peg x0_3 (ji39)).f1))) (ds := []) (bA 13 0) kR rfl kR ⟨hx376_0, hx376_1, hx377_0, hx377_1⟩ (fun hHeld => ?_); refine with_tabW slices_partialInsertionSortCmpFunc_impl_Peg_at_impl_comparePegs.tab16 slices_partialInsertionSortCmpFunc_impl_Peg_at_impl_comparePegs.bits16 (fun HT_ HW_ => ?_)
              generalize wr.drew = w51 at HO_0 HK HB hx376_0 hx376_1 hx377_0 hx377_1 hHeld ⊢
              refine pU 0 72 (bA 13 1) HT_ ?_; refine pU 1 73 (bA 13 3) HT_ ?_; refine pU 2 74 (bA 13 7) HT_ ?_; refine pU 3 75 (bA 13 15) HT_ ?_; refine pU 5 77 (bA 13 47) HT_ ?_; refine pU 6 78 (bA 13 111) HT_ ?_; refine pU 7 79 (bA 13 239) HT_ ?_; refine pU 8 80 (bA 13 495) HT_ ?_
              refine tU 4 76 (bA 13 511) HT_ HW_ hHeld ?_ (hy := Or.inl ⟨by rfl, by rintro w' ⟨s0, s1, s2, s3⟩; go_simp; with_reducible rfl⟩)
              refine tU 9 81 (bA 13 1023) HT_ HW_ hHeld ?_ (hy := Or.inl ⟨by rfl, by rintro w' ⟨s0, s1, s2, s3⟩; go_simp; with_reducible rfl⟩)
              refine oU 10 82 (bA 13 2047) HT_ (fun K hK => ?_)
              refine goesT_ Try.func108 kR rfl #[.agg #[.int .i64 ((rd_impl_Peg x0_3 x11_3).f0), .int .i64 ((rd_impl_Peg x0_3 x11_3).f1)], .agg #[.int .i64 ((rd_impl_Peg x0_3 (ji39)).f0), .int .i64 ((rd_impl_Peg x0_3 (ji39)).f1)]] (by rfl) rfl rfl (by first | rfl | (simp [Act.eval]; done)) (by (try simp only [mA, mC, mN]); first | done | (simp only [hji39]; rfl) | rfl | (simp only [lD, lT]; rfl)) ?_
              with_reducible refine (impl_comparePegs.calls k3 ((rd_impl_Peg x0_3 x11_3).f0) ((rd_impl_Peg x0_3 x11_3).f1) ((rd_impl_Peg x0_3 (ji39)).f0) ((rd_impl_Peg x0_3 (ji39)).f1) t378 _ A42.out).mono ?_
              rintro e w52 ⟨rfl, hb⟩; have HS0_ := (hb.cell (wB _ _ (hHeld.1))).trans (hHeld.1); have HS1_ := (hb.cell (wB _ _ (hHeld.2.1))).trans (hHeld.2.1); have HS2_ := (hb.cell (wB _ _ (hHeld.2.2.1))).trans (hHeld.2.2.1); have HS3_ := (hb.cell (wB _ _ (hHeld.2.2.2))).trans (hHeld.2.2.2); refine ⟨_, rfl, ?_⟩; replace HO_0 := aM (Kd.R_below (by (with_reducible repeat (first | apply rA | apply rN | apply rD)); exact HO_0.out) hb); replace HK := aM (Kept.below (S := (fun k_ => P0_ k_)) (by repeat (first | (with_reducible first | exact HK.out | apply Kept.alloc | apply Kept.drewN | apply Kept.drew) | exact HK.out)) hb); replace HB := tB HB hb
              (try clear hb); (try clear hb2); (try clear hk); (try clear hi)
              refine hK.out _ _ ⟨HS0_, HS1_, HS2_, HS3_⟩ (fun hHeld => ?_)
              clear hK K
              refine nU ?_
              refine pU 11 83 (bA 13 4095) HT_ ?_; refine pU 12 84 (bA 13 8191) HT_ ?_
              refine done_ (done_of HT_.out kR) ?_
              try go_wp2
              (try simp only [← hl0_3])
              go_meet
              case rel => exact ⟨_, (x0_3), H', ⟨by have := HK1.out; have := HJ4.out; have := HK3.out; first | omega | exact Nat.le_refl _⟩, ⟨by (try simp only [hl0_3]); (with_reducible repeat (first | apply rA | apply rN | apply rD)); exact HO_0.out⟩, ⟨by repeat (first | (with_reducible first | exact HK.out | apply Kept.alloc | apply Kept.drewN | apply Kept.drew) | exact HK.out)⟩, ⟨bQ⟩⟩
            ·rw [if_neg c36] at H; have c36b0 := decide_eq_false c36; clear c36; have H' := aM H; clear H; go_wp2
             (try simp only [← hl0_3])
             go_meet
             case rel => exact ⟨_, (x0_3), H', ⟨by have := HK1.out; have := HJ4.out; have := HK3.out; first | omega | exact Nat.le_refl _⟩, ⟨by (try simp only [hl0_3]); (with_reducible repeat (first | apply rA | apply rN | apply rD)); exact HO_0.out⟩, ⟨by repeat (first | (with_reducible first | exact HK.out | apply Kept.alloc | apply Kept.drewN | apply Kept.drew) | exact HK.out)⟩, ⟨bQ⟩⟩
         ·rw [if_neg c35] at H; have c35b0 := decide_eq_false c35; clear c35
          (first | rw [c35b0] | (simp only [i64_w, i32_w]; rw [c35b0]) | skip)
          have H' := aM H; clear H; go_wp2
          go_meet
          case rel => exact ⟨_, (y375), H', ⟨by have := HK1.out; have := HJ4.out; first | omega | exact Nat.le_refl _⟩, ⟨by (with_reducible repeat (first | apply rA | apply rN | apply rD)); exact HQ34.out⟩, ⟨by repeat (first | (with_reducible first | exact HK.out | apply Kept.alloc | apply Kept.drewN | apply Kept.drew | refine Kept.setCell ?_ HMgo28.out _ | refine Kept.setCell ?_ HMgo28.out _ | refine Kept.setCell ?_ HMgo28.out _ | refine Kept.setCell ?_ HMgo28.out _) | exact HK.out)⟩, ⟨by repeat (first | (with_reducible first | exact HB.out | apply pA | apply pN | apply pD | refine pS ?_ GB28.out | refine pS ?_ GB28.out | refine pS ?_ GB28.out | refine pS ?_ GB28.out) | exact HB.out)⟩⟩
        case rest =>
         clear HC30; (try clear c4); obtain ⟨kq, x0_29, HA, HJ29, HO_0, HK, HB⟩ := hcut; have hl0_29 := (rR HO_0.out).1; rw [hl0_29] at HO_0
         (try simp only [hl0_29])
         cases kq with
         | zero => exact absurd HA.out (by simp [slices_partialInsertionSortCmpFunc_impl_Peg_at_impl_comparePegs.j4])
         | succ kj29 =>
          have H := HA.out; clear HA
          simp only [slices_partialInsertionSortCmpFunc_impl_Peg_at_impl_comparePegs.j4] at H
          by_cases c53 : (wrap64 (a2 - x9_4)) ≥ 2
          ·rw [if_pos c53] at H; have c53b0 := dE c53; clear c53; have H' := aM H; clear H; go_wp2
           go_loopg [12] kj29 (fun kq v12 w' => ∃ (x0_4 : List (S_impl_Peg)) (x12_4 : Int), v12 = .int .i64 x12_4 ∧ Aside0 (slices_partialInsertionSortCmpFunc_impl_Peg_at_impl_comparePegs.l3 kq x0_4 a1 a2 x9_4 x10_1 x12_4 = some (r1, r2)) ∧ Aside0 (kq ≤ kj29) ∧ Aside0 (Kd.R kd_impl_Peg 41 w' w0.heap.size (fun k_ => (P0_ k_ ∨ w.heap.size ≤ k_)) (.slice (some ⟨go28, 0, none⟩) x0_29.length co32) x0_4) ∧ Aside0 (Kept w w' (fun k_ => P0_ k_)) ∧ Aside0 (Below w0.heap.size w0 w'))
           case atStart => exact ⟨(x0_29), (wrap64 (x9_4 + 1)), eQ, H', ⟨Nat.le_refl _⟩, ⟨by (try simp only [hl0_29]); (with_reducible repeat (first | apply rA | apply rN | apply rD)); exact HO_0.out⟩, ⟨by repeat (first | (with_reducible first | exact HK.out | apply Kept.alloc | apply Kept.drewN | apply Kept.drew) | exact HK.out)⟩, ⟨bQ⟩⟩
           case round =>
            clear H'; (try clear c4); (try clear c53); (try clear c53b0); obtain ⟨x0_4, x12_4, rfl, HA, HK4, HO_0, HK, HB⟩ := hrel; have hl0_4 := (rR HO_0.out).1; rw [hl0_4] at HO_0
            (try simp only [hl0_4])
            cases gk with
            | zero => exact absurd HA.out (by simp [slices_partialInsertionSortCmpFunc_impl_Peg_at_impl_comparePegs.l3])
            | succ k4 =>
             have H := HA.out; clear HA
             simp only [slices_partialInsertionSortCmpFunc_impl_Peg_at_impl_comparePegs.l3] at H
             by_cases c54 : x12_4 < a2
             ·rw [if_pos c54] at H; have c54b0 := dE c54; clear c54; replace H := iD H; obtain ⟨c55b0, H⟩ := H; replace H := iD H; obtain ⟨c56b0, H⟩ := H; obtain ⟨ji57, hji57⟩ : ∃ j_ : Int, (wrap64 (x12_4 - 1)) = j_ := ⟨_, rfl⟩
              (first | rw [hji57] at H | simp only [hji57] at H)
              have hji57w : (IntKind.i64.wrap (x12_4 - 1)) = ji57 := (i64_w _).trans hji57; replace H := iD H; obtain ⟨c58b0, H⟩ := H; replace H := iD H; obtain ⟨c59b0, H⟩ := H; replace H := bS H; obtain ⟨t385, A60, H⟩ := H
              by_cases c61 : t385 < 0
              ·rw [if_pos c61] at H; have c61b0 := dE c61; clear c61; obtain ⟨y388, hy388⟩ : ∃ y_ : List (S_impl_Peg), y_ = (x0_4.set (x12_4 : Int).toNat (⟨(rd_impl_Peg x0_4 (ji57)).f0, (rd_impl_Peg x0_4 (ji57)).f1⟩ : S_impl_Peg)) := ⟨_, rfl⟩; rw [← hy388] at H; have Ny388 := aM hy388; clear hy388; obtain ⟨y389, hy389⟩ : ∃ y_ : List (S_impl_Peg), y_ = (y388.set ((ji57) : Int).toNat (⟨(rd_impl_Peg x0_4 x12_4).f0, (rd_impl_Peg x0_4 x12_4).f1⟩ : S_impl_Peg)) := ⟨_, rfl⟩; rw [← hy389] at H; have Ny389 := aM hy389; clear hy389; have H' := aM H; clear H
               try go_wp2
               replace HO_0 := aM (rD HO_0.out); replace HK := aM (Kept.drew HK.out); replace HB := aM (pD HB.out); have p383 : 0 ≤ (x12_4 : Int) := dT aQ; have q383 : x12_4 < (x0_4.length : Int) := dT aQ; obtain ⟨ad383, e383, hx383_0, hx383_1⟩ := at_impl_Peg (rR HO_0.out).2.2 x12_4 p383 q383; obtain rfl : (⟨go28, 0, none⟩ : Addr) = ad383 := (by injection e383)
               (first | simp only [add_plain] at hx383_0 | simp only [add_at] at hx383_0 | simp only [Addr.add, Nat.zero_add] at hx383_0 | skip)
               (first | simp only [add_plain] at hx383_1 | simp only [add_at] at hx383_1 | simp only [Addr.add, Nat.zero_add] at hx383_1 | skip)
               replace p383 := eq_true p383; replace q383 := eq_true q383; have p384 : 0 ≤ ((ji57) : Int) := dT aQ; have q384 : (ji57) < (x0_4.length : Int) := dT aQ; obtain ⟨ad384, e384, hx384_0, hx384_1⟩ := at_impl_Peg (rR HO_0.out).2.2 (ji57) p384 q384; obtain rfl : (⟨go28, 0, none⟩ : Addr) = ad384 := (by injection e384)
               (first | simp only [add_plain] at hx384_0 | simp only [add_at] at hx384_0 | simp only [Addr.add, Nat.zero_add] at hx384_0 | skip)
               (first | simp only [add_plain] at hx384_1 | simp only [add_at] at hx384_1 | simp only [Addr.add, Nat.zero_add] at hx384_1 | skip)
               replace p384 := eq_true p384; replace q384 := eq_true q384
               refine start_ (n := 13) (S := fun w' => w'.cell? ⟨go28, (x12_4).toNat * 2, none⟩ = some (.int .i64 ((rd_impl_Peg x0_4 x12_4).f0)) ∧ w'.cell? ⟨go28, (x12_4).toNat * 2 + 1, none⟩ = some (.int .i64 ((rd_impl_Peg x0_4 x12_4).f1)) ∧ w'.cell? ⟨go28, ((ji57)).toNat * 2, none⟩ = some (.int .i64 ((rd_impl_Peg x0_4 (ji57)).f0)) ∧ w'.cell? ⟨go28, ((ji57)).toNat * 2 + 1, none⟩ = some (.int .i64 ((rd_impl_Peg x0_4 (ji57)).f1))) (ds := []) (bA 13 0) kR rfl kR ⟨hx383_0, hx383_1, hx384_0, hx384_1⟩ (fun hHeld => ?_); refine with_tabW slices_partialInsertionSortCmpFunc_impl_Peg_at_impl_comparePegs.tab22 slices_partialInsertionSortCmpFunc_impl_Peg_at_impl_comparePegs.bits22 (fun HT_ HW_ => ?_)
               generalize wr.drew = w64 at HO_0 HK HB hx383_0 hx383_1 hx384_0 hx384_1 hHeld ⊢
               refine pU 0 112 (bA 13 1) HT_ ?_; refine pU 1 113 (bA 13 3) HT_ ?_; refine pU 2 114 (bA 13 7) HT_ ?_; refine pU 3 115 (bA 13 15) HT_ ?_; refine pU 5 117 (bA 13 47) HT_ ?_; refine pU 6 118 (bA 13 111) HT_ ?_; refine pU 7 119 (bA 13 239) HT_ ?_; refine pU 8 120 (bA 13 495) HT_ ?_
               refine tU 4 116 (bA 13 511) HT_ HW_ hHeld ?_ (hy := Or.inl ⟨by rfl, by rintro w' ⟨s0, s1, s2, s3⟩; go_simp; with_reducible rfl⟩)
               refine tU 9 121 (bA 13 1023) HT_ HW_ hHeld ?_ (hy := Or.inl ⟨by rfl, by rintro w' ⟨s0, s1, s2, s3⟩; go_simp; with_reducible rfl⟩)
               refine oU 10 122 (bA 13 2047) HT_ (fun K hK => ?_)
               refine goesT_ Try.func108 kR rfl #[.agg #[.int .i64 ((rd_impl_Peg x0_4 x12_4).f0), .int .i64 ((rd_impl_Peg x0_4 x12_4).f1)], .agg #[.int .i64 ((rd_impl_Peg x0_4 (ji57)).f0), .int .i64 ((rd_impl_Peg x0_4 (ji57)).f1)]] (by rfl) rfl rfl (by first | rfl | (simp [Act.eval]; done)) (by (try simp only [mA, mC, mN]); first | done | (simp only [hji57]; rfl) | rfl | (simp only [lD, lT]; rfl)) ?_
               with_reducible refine (impl_comparePegs.calls k4 ((rd_impl_Peg x0_4 x12_4).f0) ((rd_impl_Peg x0_4 x12_4).f1) ((rd_impl_Peg x0_4 (ji57)).f0) ((rd_impl_Peg x0_4 (ji57)).f1) t385 _ A60.out).mono ?_
               rintro e w65 ⟨rfl, hb⟩; have HS0_ := (hb.cell (wB _ _ (hHeld.1))).trans (hHeld.1); have HS1_ := (hb.cell (wB _ _ (hHeld.2.1))).trans (hHeld.2.1); have HS2_ := (hb.cell (wB _ _ (hHeld.2.2.1))).trans (hHeld.2.2.1); have HS3_ := (hb.cell (wB _ _ (hHeld.2.2.2))).trans (hHeld.2.2.2); refine ⟨_, rfl, ?_⟩; replace HO_0 := aM (Kd.R_below (by (with_reducible repeat (first | apply rA | apply rN | apply rD)); exact HO_0.out) hb); replace HK := aM (Kept.below (S := (fun k_ => P0_ k_)) (by repeat (first | (with_reducible first | exact HK.out | apply Kept.alloc | apply Kept.drewN | apply Kept.drew) | exact HK.out)) hb); replace HB := tB HB hb
               (try clear hb); (try clear hb2); (try clear hk); (try clear hi)
               refine hK.out _ _ ⟨HS0_, HS1_, HS2_, HS3_⟩ (fun hHeld => ?_)
               clear hK K
               refine nU ?_
               refine pU 11 123 (bA 13 4095) HT_ ?_; refine pU 12 124 (bA 13 8191) HT_ ?_
               refine done_ (done_of HT_.out kR) ?_
               try go_wp2
               replace HO_0 := aM (rD HO_0.out); replace HK := aM (Kept.drew HK.out); replace HB := aM (pD HB.out); have p386 : 0 ≤ ((ji57) : Int) := dT aQ; have q386 : (ji57) < (x0_4.length : Int) := dT aQ; obtain ⟨ad386, e386, hx386_0, hx386_1⟩ := at_impl_Peg (rR HO_0.out).2.2 (ji57) p386 q386; obtain rfl : (⟨go28, 0, none⟩ : Addr) = ad386 := (by injection e386)
               (first | simp only [add_plain] at hx386_0 | simp only [add_at] at hx386_0 | simp only [Addr.add, Nat.zero_add] at hx386_0 | skip)
               (first | simp only [add_plain] at hx386_1 | simp only [add_at] at hx386_1 | simp only [Addr.add, Nat.zero_add] at hx386_1 | skip)
               replace p386 := eq_true p386; replace q386 := eq_true q386; have p387 : 0 ≤ (x12_4 : Int) := dT aQ; have q387 : x12_4 < (x0_4.length : Int) := dT aQ; obtain ⟨ad387, e387, hx387_0, hx387_1⟩ := at_impl_Peg (rR HO_0.out).2.2 x12_4 p387 q387; obtain rfl : (⟨go28, 0, none⟩ : Addr) = ad387 := (by injection e387)
               (first | simp only [add_plain] at hx387_0 | simp only [add_at] at hx387_0 | simp only [Addr.add, Nat.zero_add] at hx387_0 | skip)
               (first | simp only [add_plain] at hx387_1 | simp only [add_at] at hx387_1 | simp only [Addr.add, Nat.zero_add] at hx387_1 | skip)
               replace p387 := eq_true p387; replace q387 := eq_true q387; have p62 : 0 ≤ (x12_4 : Int) := dT aQ; have q62 : (x12_4 : Int) < ((x0_4.length : Int) : Int) := dT aQ; obtain ⟨ce62, hcl62, hM62, hcc62, hfr62⟩ := Kd.R_elem HO_0.out z_impl_Peg (x12_4 : Int) p62 q62; obtain rfl := kd_impl_Peg_openM hM62; have hx62_0 : World.cell? _ ⟨go28, (x12_4 : Int).toNat * 2, none⟩ = some (.int .i64 ((rd_impl_Peg x0_4 x12_4).f0)) := hcc62 0 _ rfl; have hx62_1 : World.cell? _ ⟨go28, (x12_4 : Int).toNat * 2 + 1, none⟩ = some (.int .i64 ((rd_impl_Peg x0_4 x12_4).f1)) := hcc62 1 _ rfl; have hf62_0 : World.frozen? _ ⟨go28, (x12_4 : Int).toNat * 2, none⟩ = false := hfr62 0; have hf62_1 : World.frozen? _ ⟨go28, (x12_4 : Int).toNat * 2 + 1, none⟩ = false := hfr62 1; clear hcl62 hcc62 hfr62 hM62; replace p62 := eq_true p62; replace q62 := eq_true q62; obtain ⟨ce67, hcl67, hM67, hcc67, hfr67⟩ := Kd.R_elem HO_0.out z_impl_Peg (x12_4 : Int) (dT aQ) (by have h_ : (x12_4 : Int) < ((x0_4.length : Int) : Int) := dT aQ; first | exact h_ | (have e_ := (rR HO_0.out).1; omega) | simpa using h_)
               obtain rfl := kd_impl_Peg_openM hM67; have HP67 := (Kd.R_seg HO_0.out (x12_4 : Int) (dT aQ) (by have h_ : (x12_4 : Int) < ((x0_4.length : Int) : Int) := dT aQ; first | exact h_ | (have e_ := (rR HO_0.out).1; omega) | simpa using h_) (seg := [.int .i64 ((rd_impl_Peg x0_4 (ji57)).f0), .int .i64 ((rd_impl_Peg x0_4 (ji57)).f1)]) (j := 0) hcl67 hcc67 (show 2 ≤ 2 from by decide) (x' := (⟨(rd_impl_Peg x0_4 (ji57)).f0, (rd_impl_Peg x0_4 (ji57)).f1⟩ : S_impl_Peg)) (kd_impl_Peg_mkM _ _ _ (⟨(rd_impl_Peg x0_4 (ji57)).f0, (rd_impl_Peg x0_4 (ji57)).f1⟩ : S_impl_Peg) ) (fun _ hk => hk)).1
               rw [← Ny388.out] at HP67; have HQ67 := aM HP67; clear hcl67 hcc67 hfr67 hM67 HP67; have p63 : 0 ≤ ((ji57) : Int) := dT aQ; have q63 : ((ji57) : Int) < ((x0_4.length : Int) : Int) := dT aQ; obtain ⟨ce63, hcl63, hM63, hcc63, hfr63⟩ := Kd.R_elem HQ67.out z_impl_Peg ((ji57) : Int) p63 q63; obtain rfl := kd_impl_Peg_openM hM63; have hx63_0 : World.cell? _ ⟨go28, ((ji57) : Int).toNat * 2, none⟩ = some (.int .i64 ((rd_impl_Peg y388 (ji57)).f0)) := hcc63 0 _ rfl; have hx63_1 : World.cell? _ ⟨go28, ((ji57) : Int).toNat * 2 + 1, none⟩ = some (.int .i64 ((rd_impl_Peg y388 (ji57)).f1)) := hcc63 1 _ rfl; have hf63_0 : World.frozen? _ ⟨go28, ((ji57) : Int).toNat * 2, none⟩ = false := hfr63 0; have hf63_1 : World.frozen? _ ⟨go28, ((ji57) : Int).toNat * 2 + 1, none⟩ = false := hfr63 1; clear hcl63 hcc63 hfr63 hM63; replace p63 := eq_true p63; replace q63 := eq_true q63; obtain ⟨ce68, hcl68, hM68, hcc68, hfr68⟩ := Kd.R_elem HQ67.out z_impl_Peg ((ji57) : Int) (dT aQ) (by have h_ : ((ji57) : Int) < ((x0_4.length : Int) : Int) := dT aQ; first | exact h_ | (have e_ := (rR HO_0.out).1; omega) | simpa using h_)
               obtain rfl := kd_impl_Peg_openM hM68; have HP68 := (Kd.R_seg HQ67.out ((ji57) : Int) (dT aQ) (by have h_ : ((ji57) : Int) < ((x0_4.length : Int) : Int) := dT aQ; first | exact h_ | (have e_ := (rR HO_0.out).1; omega) | simpa using h_) (seg := [.int .i64 ((rd_impl_Peg x0_4 x12_4).f0), .int .i64 ((rd_impl_Peg x0_4 x12_4).f1)]) (j := 0) hcl68 hcc68 (show 2 ≤ 2 from by decide) (x' := (⟨(rd_impl_Peg x0_4 x12_4).f0, (rd_impl_Peg x0_4 x12_4).f1⟩ : S_impl_Peg)) (kd_impl_Peg_mkM _ _ _ (⟨(rd_impl_Peg x0_4 x12_4).f0, (rd_impl_Peg x0_4 x12_4).f1⟩ : S_impl_Peg) ) (fun _ hk => hk)).1
               rw [← Ny389.out] at HP68; have HQ68 := aM HP68; clear hcl68 hcc68 hfr68 hM68 HP68
               refine start_ (n := 18) (S := fun w' => w'.cell? ⟨go28, ((ji57)).toNat * 2, none⟩ = some (.int .i64 ((rd_impl_Peg x0_4 (ji57)).f0)) ∧ w'.cell? ⟨go28, ((ji57)).toNat * 2 + 1, none⟩ = some (.int .i64 ((rd_impl_Peg x0_4 (ji57)).f1)) ∧ w'.cell? ⟨go28, (x12_4).toNat * 2, none⟩ = some (.int .i64 ((rd_impl_Peg x0_4 x12_4).f0)) ∧ w'.cell? ⟨go28, (x12_4).toNat * 2 + 1, none⟩ = some (.int .i64 ((rd_impl_Peg x0_4 x12_4).f1))) (ds := [15, 17]) (bA 18 0) kR rfl rfl ⟨hx386_0, hx386_1, hx387_0, hx387_1⟩ (fun hHeld => ?_); refine with_tabW slices_partialInsertionSortCmpFunc_impl_Peg_at_impl_comparePegs.tab23 slices_partialInsertionSortCmpFunc_impl_Peg_at_impl_comparePegs.bits23 (fun HT_ HW_ => ?_)
               generalize w65.drew = w66 at HO_0 HK HB HQ67 HQ68 hf62_0 hf62_1 hf63_0 hf63_1 hx386_0 hx386_1 hx387_0 hx387_1 hx62_0 hx62_1 hx63_0 hx63_1 hHeld ⊢
               obtain ⟨vs0_, hs0_⟩ := cell?_setCell_some (p := ⟨go28, (x12_4 : Int).toNat * 2, none⟩) (x := .int .i64 ((rd_impl_Peg x0_4 (ji57)).f0)) hx386_0; obtain ⟨va_, ha_⟩ := cell?_setCell_some (p := ⟨go28, (x12_4 : Int).toNat * 2, none⟩) (x := .int .i64 ((rd_impl_Peg x0_4 (ji57)).f0)) hx386_1; obtain ⟨vs1_, hs1_⟩ := cell?_setCell_some (p := ⟨go28, (x12_4 : Int).toNat * 2 + 1, none⟩) (x := .int .i64 ((rd_impl_Peg x0_4 (ji57)).f1)) ha_; clear ha_
               obtain ⟨ce_, hcl_, hM_, hcc_, hfr_⟩ := Kd.R_elem HO_0.out z_impl_Peg ((ji57) : Int) (dT aQ) (dT aQ); have hz0_ : World.frozen? _ ⟨go28, ((ji57) : Int).toNat * 2, none⟩ = false := hfr_ 0; have hz1_ : World.frozen? _ ⟨go28, ((ji57) : Int).toNat * 2 + 1, none⟩ = false := hfr_ 1; clear hcl_ hM_ hcc_ hfr_
               refine pU 0 125 (bA 18 1) HT_ ?_; refine pU 1 126 (bA 18 3) HT_ ?_; refine pU 2 127 (bA 18 7) HT_ ?_; refine pU 3 128 (bA 18 15) HT_ ?_; refine pU 4 129 (bA 18 31) HT_ ?_; refine pU 5 130 (bA 18 63) HT_ ?_; refine pU 6 131 (bA 18 127) HT_ ?_; refine pU 7 132 (bA 18 255) HT_ ?_; refine pU 8 133 (bA 18 511) HT_ ?_; refine pU 10 135 (bA 18 1535) HT_ ?_; refine pU 11 136 (bA 18 3583) HT_ ?_; refine pU 12 137 (bA 18 7679) HT_ ?_
               refine tU 9 134 (bA 18 8191) HT_ HW_ hHeld ?_ (hy := Or.inl ⟨by rfl, by rintro w' ⟨s0, s1, s2, s3⟩; go_simp; with_reducible rfl⟩)
               refine tU 13 138 (bA 18 16383) HT_ HW_ hHeld ?_ (hy := Or.inl ⟨by rfl, by rintro w' ⟨s0, s1, s2, s3⟩; go_simp; with_reducible rfl⟩)
               refine pU 14 139 (bA 18 32767) HT_ ?_
               refine last_ (i := 15) (N := none) (bA 18 65535) rfl rfl (one_of HT_.out kR) (by decide) (fun K hK => ?_)
               refine skip_ (w1 := ?_) (by rfl) rfl ?_ ?_
               rotate_left
               ·go_simp
                rfl
               refine hK.out _ _ ?_
               clear hK K; refine pU 16 140 (bA 18 131071) HT_ ?_
               refine last_ (i := 17) (N := none) (bA 18 262143) rfl rfl (one_of HT_.out kR) (by decide) (fun K hK => ?_)
               refine skip_ (w1 := ?_) (by rfl) rfl ?_ ?_
               rotate_left
               ·go_simp
                rfl
               refine hK.out _ _ ?_
               clear hK K
               refine done_ (done_of HT_.out kR) ?_
               try go_wp2
               (try simp only [← hl0_4])
               go_roundg k4
               case measure => have := HK1.out; have := HJ4.out; have := HJ29.out; have := HK4.out; omega
               case rel => exact ⟨(y389), (wrap64 (x12_4 + 1)), eQ, H', ⟨by have := HK1.out; have := HJ4.out; have := HJ29.out; have := HK4.out; omega⟩, ⟨by (try simp only [hl0_29]); (try simp only [hl0_4]); (with_reducible repeat (first | apply rA | apply rN | apply rD)); exact HQ68.out⟩, ⟨by repeat (first | (with_reducible first | exact HK.out | apply Kept.alloc | apply Kept.drewN | apply Kept.drew | refine Kept.setCell ?_ HMgo28.out _ | refine Kept.setCell ?_ HMgo28.out _ | refine Kept.setCell ?_ HMgo28.out _ | refine Kept.setCell ?_ HMgo28.out _) | exact HK.out)⟩, ⟨by repeat (first | (with_reducible first | exact HB.out | apply pA | apply pN | apply pD | refine pS ?_ GB28.out | refine pS ?_ GB28.out | refine pS ?_ GB28.out | refine pS ?_ GB28.out) | exact HB.out)⟩⟩
              ·rw [if_neg c61] at H; have c61b0 := decide_eq_false c61; clear c61; have H' := aM H; clear H
               try go_wp2
               replace HO_0 := aM (rD HO_0.out); replace HK := aM (Kept.drew HK.out); replace HB := aM (pD HB.out); have p383 : 0 ≤ (x12_4 : Int) := dT aQ; have q383 : x12_4 < (x0_4.length : Int) := dT aQ; obtain ⟨ad383, e383, hx383_0, hx383_1⟩ := at_impl_Peg (rR HO_0.out).2.2 x12_4 p383 q383; obtain rfl : (⟨go28, 0, none⟩ : Addr) = ad383 := (by injection e383)
               (first | simp only [add_plain] at hx383_0 | simp only [add_at] at hx383_0 | simp only [Addr.add, Nat.zero_add] at hx383_0 | skip)
               (first | simp only [add_plain] at hx383_1 | simp only [add_at] at hx383_1 | simp only [Addr.add, Nat.zero_add] at hx383_1 | skip)
               replace p383 := eq_true p383; replace q383 := eq_true q383; have p384 : 0 ≤ ((ji57) : Int) := dT aQ; have q384 : (ji57) < (x0_4.length : Int) := dT aQ; obtain ⟨ad384, e384, hx384_0, hx384_1⟩ := at_impl_Peg (rR HO_0.out).2.2 (ji57) p384 q384; obtain rfl : (⟨go28, 0, none⟩ : Addr) = ad384 := (by injection e384)
               (first | simp only [add_plain] at hx384_0 | simp only [add_at] at hx384_0 | simp only [Addr.add, Nat.zero_add] at hx384_0 | skip)
               (first | simp only [add_plain] at hx384_1 | simp only [add_at] at hx384_1 | simp only [Addr.add, Nat.zero_add] at hx384_1 | skip)
               replace p384 := eq_true p384; replace q384 := eq_true q384
               refine start_ (n := 13) (S := fun w' => w'.cell? ⟨go28, (x12_4).toNat * 2, none⟩ = some (.int .i64 ((rd_impl_Peg x0_4 x12_4).f0)) ∧ w'.cell? ⟨go28, (x12_4).toNat * 2 + 1, none⟩ = some (.int .i64 ((rd_impl_Peg x0_4 x12_4).f1)) ∧ w'.cell? ⟨go28, ((ji57)).toNat * 2, none⟩ = some (.int .i64 ((rd_impl_Peg x0_4 (ji57)).f0)) ∧ w'.cell? ⟨go28, ((ji57)).toNat * 2 + 1, none⟩ = some (.int .i64 ((rd_impl_Peg x0_4 (ji57)).f1))) (ds := []) (bA 13 0) kR rfl kR ⟨hx383_0, hx383_1, hx384_0, hx384_1⟩ (fun hHeld => ?_); refine with_tabW slices_partialInsertionSortCmpFunc_impl_Peg_at_impl_comparePegs.tab22 slices_partialInsertionSortCmpFunc_impl_Peg_at_impl_comparePegs.bits22 (fun HT_ HW_ => ?_)
               generalize wr.drew = w69 at HO_0 HK HB hx383_0 hx383_1 hx384_0 hx384_1 hHeld ⊢
               refine pU 0 112 (bA 13 1) HT_ ?_; refine pU 1 113 (bA 13 3) HT_ ?_; refine pU 2 114 (bA 13 7) HT_ ?_; refine pU 3 115 (bA 13 15) HT_ ?_; refine pU 5 117 (bA 13 47) HT_ ?_; refine pU 6 118 (bA 13 111) HT_ ?_; refine pU 7 119 (bA 13 239) HT_ ?_; refine pU 8 120 (bA 13 495) HT_ ?_
               refine tU 4 116 (bA 13 511) HT_ HW_ hHeld ?_ (hy := Or.inl ⟨by rfl, by rintro w' ⟨s0, s1, s2, s3⟩; go_simp; with_reducible rfl⟩)
               refine tU 9 121 (bA 13 1023) HT_ HW_ hHeld ?_ (hy := Or.inl ⟨by rfl, by rintro w' ⟨s0, s1, s2, s3⟩; go_simp; with_reducible rfl⟩)
               refine oU 10 122 (bA 13 2047) HT_ (fun K hK => ?_)
               refine goesT_ Try.func108 kR rfl #[.agg #[.int .i64 ((rd_impl_Peg x0_4 x12_4).f0), .int .i64 ((rd_impl_Peg x0_4 x12_4).f1)], .agg #[.int .i64 ((rd_impl_Peg x0_4 (ji57)).f0), .int .i64 ((rd_impl_Peg x0_4 (ji57)).f1)]] (by rfl) rfl rfl (by first | rfl | (simp [Act.eval]; done)) (by (try simp only [mA, mC, mN]); first | done | (simp only [hji57]; rfl) | rfl | (simp only [lD, lT]; rfl)) ?_
               with_reducible refine (impl_comparePegs.calls k4 ((rd_impl_Peg x0_4 x12_4).f0) ((rd_impl_Peg x0_4 x12_4).f1) ((rd_impl_Peg x0_4 (ji57)).f0) ((rd_impl_Peg x0_4 (ji57)).f1) t385 _ A60.out).mono ?_
               rintro e w70 ⟨rfl, hb⟩; have HS0_ := (hb.cell (wB _ _ (hHeld.1))).trans (hHeld.1); have HS1_ := (hb.cell (wB _ _ (hHeld.2.1))).trans (hHeld.2.1); have HS2_ := (hb.cell (wB _ _ (hHeld.2.2.1))).trans (hHeld.2.2.1); have HS3_ := (hb.cell (wB _ _ (hHeld.2.2.2))).trans (hHeld.2.2.2); refine ⟨_, rfl, ?_⟩; replace HO_0 := aM (Kd.R_below (by (with_reducible repeat (first | apply rA | apply rN | apply rD)); exact HO_0.out) hb); replace HK := aM (Kept.below (S := (fun k_ => P0_ k_)) (by repeat (first | (with_reducible first | exact HK.out | apply Kept.alloc | apply Kept.drewN | apply Kept.drew) | exact HK.out)) hb); replace HB := tB HB hb
               (try clear hb); (try clear hb2); (try clear hk); (try clear hi)
               refine hK.out _ _ ⟨HS0_, HS1_, HS2_, HS3_⟩ (fun hHeld => ?_)
               clear hK K
               refine nU ?_
               refine pU 11 123 (bA 13 4095) HT_ ?_; refine pU 12 124 (bA 13 8191) HT_ ?_
               refine done_ (done_of HT_.out kR) ?_
               try go_wp2
               (try simp only [← hl0_29, ← hl0_4])
               go_roundg k4
               case measure => have := HK1.out; have := HJ4.out; have := HJ29.out; have := HK4.out; omega
               case rel => exact ⟨(x0_4), (x9_4), (wrap64 (x10_1 + 1)), eQ, eQ, H', ⟨by have := HK1.out; have := HJ4.out; have := HJ29.out; have := HK4.out; omega⟩, ⟨by (try simp only [hl0_29]); (try simp only [hl0_4]); (with_reducible repeat (first | apply rA | apply rN | apply rD)); exact HO_0.out⟩, ⟨by repeat (first | (with_reducible first | exact HK.out | apply Kept.alloc | apply Kept.drewN | apply Kept.drew) | exact HK.out)⟩, ⟨bQ⟩⟩
             ·rw [if_neg c54] at H; have c54b0 := decide_eq_false c54; clear c54; have H' := aM H; clear H; go_wp2
              (try simp only [← hl0_29, ← hl0_4])
              go_roundg k4
              case measure => have := HK1.out; have := HJ4.out; have := HJ29.out; have := HK4.out; omega
              case rel => exact ⟨(x0_4), (x9_4), (wrap64 (x10_1 + 1)), eQ, eQ, H', ⟨by have := HK1.out; have := HJ4.out; have := HJ29.out; have := HK4.out; omega⟩, ⟨by (try simp only [hl0_29]); (try simp only [hl0_4]); (with_reducible repeat (first | apply rA | apply rN | apply rD)); exact HO_0.out⟩, ⟨by repeat (first | (with_reducible first | exact HK.out | apply Kept.alloc | apply Kept.drewN | apply Kept.drew) | exact HK.out)⟩, ⟨bQ⟩⟩
          ·rw [if_neg c53] at H; have c53b0 := decide_eq_false c53; clear c53; have H' := aM H; clear H; go_wp2
           (try simp only [← hl0_29])
           go_roundg kj29
           case measure => have := HK1.out; have := HJ4.out; have := HJ29.out; omega
           case rel => exact ⟨(x0_29), (x9_4), (wrap64 (x10_1 + 1)), eQ, eQ, H', ⟨by have := HK1.out; have := HJ4.out; have := HJ29.out; omega⟩, ⟨by (try simp only [hl0_29]); (with_reducible repeat (first | apply rA | apply rN | apply rD)); exact HO_0.out⟩, ⟨by repeat (first | (with_reducible first | exact HK.out | apply Kept.alloc | apply Kept.drewN | apply Kept.drew) | exact HK.out)⟩, ⟨bQ⟩⟩
   ·rw [if_neg c4] at H; have c4b0 := decide_eq_false c4; clear c4
    simp only [Option.some.injEq, Prod.mk.injEq] at H
    obtain ⟨rfl, rfl⟩ := H; go_wp2
    go_ret
    exact ⟨wQ, by (with_reducible repeat (first | apply rA | apply rN | apply rD)); exact HO_0.out, by repeat (first | (with_reducible first | exact HB.out | apply pA | apply pN | apply pD) | exact HB.out), by repeat (first | (with_reducible first | exact HK.out | apply Kept.alloc | apply Kept.drewN | apply Kept.drew) | exact HK.out)⟩

end Go.Proofs.Ytoeclfihlhmnpaa.X
