-- thin
-- short
import Derived.Test.YtiacfkilmknldaaXA
import Derived.Test.YtiacfkilmknldaaX0
import Derived.Test.YtiacfkilmknldaaX20
import Derived.Test.YtiacfkilmknldaaX23
namespace Go.Proofs.Ytiacfkilmknldaa.X
open Go.RowKit Go.Proofs.Ytiacfkilmknldaa.XW Go.Proofs.YtiacfkilmknldaaW.PrintWords Go.Proofs.YtiacfkilmknldaaW.PrintLast Go.Proofs.YtiacfkilmknldaaW.PrintMore
attribute [local go_sem] max2_int min2_int max_two min_two max_three min_three max_four min_four   -- for this text's walks alone
set_option linter.unusedVariables false
set_option linter.unusedSimpArgs false

def spec_CircleOfThree.j0 : Nat → Int → Int → Int → Option (Int × Int × Int × Bool)
 | 0, _, _, _ => none
 | k + 1, x15, x16, x17 => (spec_pgCommon.f k x16 x17).bind fun t715 => ((spec_pgCommon.f k t715 x15).bind fun t716 => (if t716 = 0 then (none) else (some (wrap64 (Int.tdiv x16 t716), wrap64 (Int.tdiv x17 t716), wrap64 (Int.tdiv x15 t716), true))))
def spec_CircleOfThree.f (k : Nat) (l0 : List (S_impl_Peg)) : Option (Int × Int × Int × Bool) := (spec_trThree.f k l0).bind fun t708 => (if t708 = true then (if 0 < (l0.length : Int) then (if 1 < (l0.length : Int) then (if 2 < (l0.length : Int) then (if (wrap64 (2 * (wrap64 ((wrap64 ((wrap64 (((rd_impl_Peg l0 1).f0) - ((rd_impl_Peg l0 0).f0))) * (wrap64 (((rd_impl_Peg l0 2).f1) - ((rd_impl_Peg l0 0).f1))))) - (wrap64 ((wrap64 (((rd_impl_Peg l0 1).f1) - ((rd_impl_Peg l0 0).f1))) * (wrap64 (((rd_impl_Peg l0 2).f0) - ((rd_impl_Peg l0 0).f0))))))))) < 0 then (spec_CircleOfThree.j0 k (wrap64 (-(wrap64 (2 * (wrap64 ((wrap64 ((wrap64 (((rd_impl_Peg l0 1).f0) - ((rd_impl_Peg l0 0).f0))) * (wrap64 (((rd_impl_Peg l0 2).f1) - ((rd_impl_Peg l0 0).f1))))) - (wrap64 ((wrap64 (((rd_impl_Peg l0 1).f1) - ((rd_impl_Peg l0 0).f1))) * (wrap64 (((rd_impl_Peg l0 2).f0) - ((rd_impl_Peg l0 0).f0))))))))))) (wrap64 (-(wrap64 ((wrap64 ((wrap64 ((wrap64 (((rd_impl_Peg l0 2).f1) - ((rd_impl_Peg l0 0).f1))) * (wrap64 ((wrap64 ((wrap64 (((rd_impl_Peg l0 1).f0) - ((rd_impl_Peg l0 0).f0))) * (wrap64 (((rd_impl_Peg l0 1).f0) - ((rd_impl_Peg l0 0).f0))))) + (wrap64 ((wrap64 (((rd_impl_Peg l0 1).f1) - ((rd_impl_Peg l0 0).f1))) * (wrap64 (((rd_impl_Peg l0 1).f1) - ((rd_impl_Peg l0 0).f1))))))))) - (wrap64 ((wrap64 (((rd_impl_Peg l0 1).f1) - ((rd_impl_Peg l0 0).f1))) * (wrap64 ((wrap64 ((wrap64 (((rd_impl_Peg l0 2).f0) - ((rd_impl_Peg l0 0).f0))) * (wrap64 (((rd_impl_Peg l0 2).f0) - ((rd_impl_Peg l0 0).f0))))) + (wrap64 ((wrap64 (((rd_impl_Peg l0 2).f1) - ((rd_impl_Peg l0 0).f1))) * (wrap64 (((rd_impl_Peg l0 2).f1) - ((rd_impl_Peg l0 0).f1))))))))))) + (wrap64 (((rd_impl_Peg l0 0).f0) * (wrap64 (2 * (wrap64 ((wrap64 ((wrap64 (((rd_impl_Peg l0 1).f0) - ((rd_impl_Peg l0 0).f0))) * (wrap64 (((rd_impl_Peg l0 2).f1) - ((rd_impl_Peg l0 0).f1))))) - (wrap64 ((wrap64 (((rd_impl_Peg l0 1).f1) - ((rd_impl_Peg l0 0).f1))) * (wrap64 (((rd_impl_Peg l0 2).f0) - ((rd_impl_Peg l0 0).f0))))))))))))))) (wrap64 (-(wrap64 ((wrap64 ((wrap64 ((wrap64 (((rd_impl_Peg l0 1).f0) - ((rd_impl_Peg l0 0).f0))) * (wrap64 ((wrap64 ((wrap64 (((rd_impl_Peg l0 2).f0) - ((rd_impl_Peg l0 0).f0))) * (wrap64 (((rd_impl_Peg l0 2).f0) - ((rd_impl_Peg l0 0).f0))))) + (wrap64 ((wrap64 (((rd_impl_Peg l0 2).f1) - ((rd_impl_Peg l0 0).f1))) * (wrap64 (((rd_impl_Peg l0 2).f1) - ((rd_impl_Peg l0 0).f1))))))))) - (wrap64 ((wrap64 (((rd_impl_Peg l0 2).f0) - ((rd_impl_Peg l0 0).f0))) * (wrap64 ((wrap64 ((wrap64 (((rd_impl_Peg l0 1).f0) - ((rd_impl_Peg l0 0).f0))) * (wrap64 (((rd_impl_Peg l0 1).f0) - ((rd_impl_Peg l0 0).f0))))) + (wrap64 ((wrap64 (((rd_impl_Peg l0 1).f1) - ((rd_impl_Peg l0 0).f1))) * (wrap64 (((rd_impl_Peg l0 1).f1) - ((rd_impl_Peg l0 0).f1))))))))))) + (wrap64 (((rd_impl_Peg l0 0).f1) * (wrap64 (2 * (wrap64 ((wrap64 ((wrap64 (((rd_impl_Peg l0 1).f0) - ((rd_impl_Peg l0 0).f0))) * (wrap64 (((rd_impl_Peg l0 2).f1) - ((rd_impl_Peg l0 0).f1))))) - (wrap64 ((wrap64 (((rd_impl_Peg l0 1).f1) - ((rd_impl_Peg l0 0).f1))) * (wrap64 (((rd_impl_Peg l0 2).f0) - ((rd_impl_Peg l0 0).f0)))))))))))))))) else (spec_CircleOfThree.j0 k (wrap64 (2 * (wrap64 ((wrap64 ((wrap64 (((rd_impl_Peg l0 1).f0) - ((rd_impl_Peg l0 0).f0))) * (wrap64 (((rd_impl_Peg l0 2).f1) - ((rd_impl_Peg l0 0).f1))))) - (wrap64 ((wrap64 (((rd_impl_Peg l0 1).f1) - ((rd_impl_Peg l0 0).f1))) * (wrap64 (((rd_impl_Peg l0 2).f0) - ((rd_impl_Peg l0 0).f0))))))))) (wrap64 ((wrap64 ((wrap64 ((wrap64 (((rd_impl_Peg l0 2).f1) - ((rd_impl_Peg l0 0).f1))) * (wrap64 ((wrap64 ((wrap64 (((rd_impl_Peg l0 1).f0) - ((rd_impl_Peg l0 0).f0))) * (wrap64 (((rd_impl_Peg l0 1).f0) - ((rd_impl_Peg l0 0).f0))))) + (wrap64 ((wrap64 (((rd_impl_Peg l0 1).f1) - ((rd_impl_Peg l0 0).f1))) * (wrap64 (((rd_impl_Peg l0 1).f1) - ((rd_impl_Peg l0 0).f1))))))))) - (wrap64 ((wrap64 (((rd_impl_Peg l0 1).f1) - ((rd_impl_Peg l0 0).f1))) * (wrap64 ((wrap64 ((wrap64 (((rd_impl_Peg l0 2).f0) - ((rd_impl_Peg l0 0).f0))) * (wrap64 (((rd_impl_Peg l0 2).f0) - ((rd_impl_Peg l0 0).f0))))) + (wrap64 ((wrap64 (((rd_impl_Peg l0 2).f1) - ((rd_impl_Peg l0 0).f1))) * (wrap64 (((rd_impl_Peg l0 2).f1) - ((rd_impl_Peg l0 0).f1))))))))))) + (wrap64 (((rd_impl_Peg l0 0).f0) * (wrap64 (2 * (wrap64 ((wrap64 ((wrap64 (((rd_impl_Peg l0 1).f0) - ((rd_impl_Peg l0 0).f0))) * (wrap64 (((rd_impl_Peg l0 2).f1) - ((rd_impl_Peg l0 0).f1))))) - (wrap64 ((wrap64 (((rd_impl_Peg l0 1).f1) - ((rd_impl_Peg l0 0).f1))) * (wrap64 (((rd_impl_Peg l0 2).f0) - ((rd_impl_Peg l0 0).f0))))))))))))) (wrap64 ((wrap64 ((wrap64 ((wrap64 (((rd_impl_Peg l0 1).f0) - ((rd_impl_Peg l0 0).f0))) * (wrap64 ((wrap64 ((wrap64 (((rd_impl_Peg l0 2).f0) - ((rd_impl_Peg l0 0).f0))) * (wrap64 (((rd_impl_Peg l0 2).f0) - ((rd_impl_Peg l0 0).f0))))) + (wrap64 ((wrap64 (((rd_impl_Peg l0 2).f1) - ((rd_impl_Peg l0 0).f1))) * (wrap64 (((rd_impl_Peg l0 2).f1) - ((rd_impl_Peg l0 0).f1))))))))) - (wrap64 ((wrap64 (((rd_impl_Peg l0 2).f0) - ((rd_impl_Peg l0 0).f0))) * (wrap64 ((wrap64 ((wrap64 (((rd_impl_Peg l0 1).f0) - ((rd_impl_Peg l0 0).f0))) * (wrap64 (((rd_impl_Peg l0 1).f0) - ((rd_impl_Peg l0 0).f0))))) + (wrap64 ((wrap64 (((rd_impl_Peg l0 1).f1) - ((rd_impl_Peg l0 0).f1))) * (wrap64 (((rd_impl_Peg l0 1).f1) - ((rd_impl_Peg l0 0).f1))))))))))) + (wrap64 (((rd_impl_Peg l0 0).f1) * (wrap64 (2 * (wrap64 ((wrap64 ((wrap64 (((rd_impl_Peg l0 1).f0) - ((rd_impl_Peg l0 0).f0))) * (wrap64 (((rd_impl_Peg l0 2).f1) - ((rd_impl_Peg l0 0).f1))))) - (wrap64 ((wrap64 (((rd_impl_Peg l0 1).f1) - ((rd_impl_Peg l0 0).f1))) * (wrap64 (((rd_impl_Peg l0 2).f0) - ((rd_impl_Peg l0 0).f0))))))))))))))) else (none)) else (none)) else (none)) else (some (0, 0, 0, false)))
theorem spec_CircleOfThree.mono_l : ∀ k, (∀ y0 y1 y2, LeO (spec_CircleOfThree.j0 k y0 y1 y2) (spec_CircleOfThree.j0 (k + 1) y0 y1 y2))
 | 0 => fun _ _ _ r h => by simp [spec_CircleOfThree.j0] at h
 | k + 1 => by
  have ih0 := spec_CircleOfThree.mono_l k
  ·intro y0 y1 y2
   unfold spec_CircleOfThree.j0
   repeat' first
   | (with_reducible exact ih0 _ _ _)
   | (with_reducible exact spec_pgCommon.mono _ _ _)
   | (with_reducible exact spec_trThree.mono _ _)
   | (with_reducible exact LeO.refl _)
   | (with_reducible exact LeO.none _)
   | (with_reducible refine LeO.ite ?_ ?_)
   | (with_reducible refine LeO.bind ?_ (fun _ => ?_))
   | exact ih0 _ _ _
   | exact spec_pgCommon.mono _ _ _
   | exact spec_trThree.mono _ _
   | exact LeO.none _
   | refine LeO.ite ?_ ?_
   | refine LeO.bind ?_ (fun _ => ?_)
theorem spec_CircleOfThree.mono : ∀ a0 k, LeO (spec_CircleOfThree.f k a0) (spec_CircleOfThree.f (k + 1) a0) := by
 intro a0 k
 have ih0 := spec_CircleOfThree.mono_l k
 unfold spec_CircleOfThree.f
 repeat' first
   | (with_reducible exact ih0 _ _ _)
   | (with_reducible exact spec_pgCommon.mono _ _ _)
   | (with_reducible exact spec_trThree.mono _ _)
   | (with_reducible exact LeO.refl _)
   | (with_reducible exact LeO.none _)
   | (with_reducible refine LeO.ite ?_ ?_)
   | (with_reducible refine LeO.bind ?_ (fun _ => ?_))
   | exact ih0 _ _ _
   | exact spec_pgCommon.mono _ _ _
   | exact spec_trThree.mono _ _
   | exact LeO.none _
   | refine LeO.ite ?_ ?_
   | refine LeO.bind ?_ (fun _ => ?_)
def spec_CircleOfThree.T3 : Bool × List (List Nat × List Nat) := (true, [([], []), ([0], [0]), ([1], [1]), ([], []), ([3], [3]), ([4], [4]), ([], []), ([6], [6]), ([7], [7]), ([], []), ([], []), ([], []), ([9, 2, 0, 1, 2, 9, 10, 11], [2, 9]), ([10, 5, 12, 0, 1, 2, 3, 4, 5, 9, 10, 11, 12], [5, 10]), ([11, 8, 13, 0, 1, 2, 3, 4, 5, 6, 7, 8, 9, 10, 11, 12, 13], [8, 11])])
def spec_CircleOfThree.B3 : List Nat := [0, 1, 3, 0, 8, 24, 0, 64, 192, 0, 0, 0, 3591, 7743, 16383]
theorem spec_CircleOfThree.tab3 : rtab .any (opsOf Try.f54 3) = spec_CircleOfThree.T3 := by kernel_rfl
theorem spec_CircleOfThree.bits3 : waitsOk spec_CircleOfThree.T3.2 spec_CircleOfThree.B3 = true := by kernel_rfl
def spec_CircleOfThree.T4 : Bool × List (List Nat × List Nat) := (true, [([], []), ([0], [0]), ([], []), ([2], [2]), ([1, 3], [1, 3]), ([], []), ([5], [5]), ([], []), ([7], [7]), ([6, 8], [6, 8]), ([], []), ([10], [10]), ([], []), ([12], [12]), ([11, 13], [11, 13]), ([], []), ([15], [15]), ([], []), ([17], [17]), ([16, 18], [16, 18]), ([4, 0, 1, 2, 3, 4], [4]), ([9, 20, 0, 1, 2, 3, 4, 5, 6, 7, 8, 9, 20], [9]), ([14, 21, 0, 1, 2, 3, 4, 5, 6, 7, 8, 9, 10, 11, 12, 13, 14, 20, 21], [14]), ([19, 22, 0, 1, 2, 3, 4, 5, 6, 7, 8, 9, 10, 11, 12, 13, 14, 15, 16, 17, 18, 19, 20, 21, 22], [19])])
def spec_CircleOfThree.B4 : List Nat := [0, 1, 0, 4, 15, 0, 32, 0, 128, 480, 0, 1024, 0, 4096, 15360, 0, 32768, 0, 131072, 491520, 31, 1049599, 3178495, 8388607]
theorem spec_CircleOfThree.tab4 : rtab .any (opsOf Try.f54 4) = spec_CircleOfThree.T4 := by kernel_rfl
theorem spec_CircleOfThree.bits4 : waitsOk spec_CircleOfThree.T4.2 spec_CircleOfThree.B4 = true := by kernel_rfl
def spec_CircleOfThree.T14 : Bool × List (List Nat × List Nat) := (true, [([], []), ([], []), ([0, 1], [0, 1]), ([], []), ([], []), ([3, 4], [3, 4]), ([], []), ([], []), ([6, 7], [6, 7]), ([2, 0, 1, 2], [2]), ([5, 9, 0, 1, 2, 3, 4, 5, 9], [5]), ([8, 10, 0, 1, 2, 3, 4, 5, 6, 7, 8, 9, 10], [8]), ([11, 0, 1, 2, 3, 4, 5, 6, 7, 8, 9, 10, 11], [])])
def spec_CircleOfThree.B14 : List Nat := [0, 0, 3, 0, 0, 24, 0, 0, 192, 7, 575, 2047, 4095]
theorem spec_CircleOfThree.tab14 : rtab .any (opsOf Try.f54 14) = spec_CircleOfThree.T14 := by kernel_rfl
theorem spec_CircleOfThree.bits14 : waitsOk spec_CircleOfThree.T14.2 spec_CircleOfThree.B14 = true := by kernel_rfl
set_option maxHeartbeats 8000000 in
set_option maxRecDepth 100000 in
theorem spec_CircleOfThree.calls (k : Nat) (A0 : Option Addr) (c0 : Nat) (l0 : List (S_impl_Peg)) (r1 : Int) (r2 : Int) (r3 : Int) (r4 : Bool) (w : World) (hr0 : Kd.C kd_impl_Peg w A0 l0.length l0) (hc0 : l0.length ≤ c0) (h : spec_CircleOfThree.f k l0 = some (r1, r2, r3, r4)) :
  Calls Try.prog 54 #[.slice A0 l0.length c0] w fun e w' => e = .returned (.tuple #[.int .i64 r1, .int .i64 r2, .int .i64 r3, .bool r4]) ∧ Below w.heap.size w w' := by
 have hu34 := Try.underlying34
 have HR0 := aM hr0
 have HC0 := aM hc0
 clear hr0 hc0
 have HB := aM (Below.refl w.heap.size w)
 have H : ((spec_trThree.f k l0).bind fun t708 => (if t708 = true then (if 0 < (l0.length : Int) then (if 1 < (l0.length : Int) then (if 2 < (l0.length : Int) then (if (wrap64 (2 * (wrap64 ((wrap64 ((wrap64 (((rd_impl_Peg l0 1).f0) - ((rd_impl_Peg l0 0).f0))) * (wrap64 (((rd_impl_Peg l0 2).f1) - ((rd_impl_Peg l0 0).f1))))) - (wrap64 ((wrap64 (((rd_impl_Peg l0 1).f1) - ((rd_impl_Peg l0 0).f1))) * (wrap64 (((rd_impl_Peg l0 2).f0) - ((rd_impl_Peg l0 0).f0))))))))) < 0 then (spec_CircleOfThree.j0 k (wrap64 (-(wrap64 (2 * (wrap64 ((wrap64 ((wrap64 (((rd_impl_Peg l0 1).f0) - ((rd_impl_Peg l0 0).f0))) * (wrap64 (((rd_impl_Peg l0 2).f1) - ((rd_impl_Peg l0 0).f1))))) - (wrap64 ((wrap64 (((rd_impl_Peg l0 1).f1) - ((rd_impl_Peg l0 0).f1))) * (wrap64 (((rd_impl_Peg l0 2).f0) - ((rd_impl_Peg l0 0).f0))))))))))) (wrap64 (-(wrap64 ((wrap64 ((wrap64 ((wrap64 (((rd_impl_Peg l0 2).f1) - ((rd_impl_Peg l0 0).f1))) * (wrap64 ((wrap64 ((wrap64 (((rd_impl_Peg l0 1).f0) - ((rd_impl_Peg l0 0).f0))) * (wrap64 (((rd_impl_Peg l0 1).f0) - ((rd_impl_Peg l0 0).f0))))) + (wrap64 ((wrap64 (((rd_impl_Peg l0 1).f1) - ((rd_impl_Peg l0 0).f1))) * (wrap64 (((rd_impl_Peg l0 1).f1) - ((rd_impl_Peg l0 0).f1))))))))) - (wrap64 ((wrap64 (((rd_impl_Peg l0 1).f1) - ((rd_impl_Peg l0 0).f1))) * (wrap64 ((wrap64 ((wrap64 (((rd_impl_Peg l0 2).f0) - ((rd_impl_Peg l0 0).f0))) * (wrap64 (((rd_impl_Peg l0 2).f0) - ((rd_impl_Peg l0 0).f0))))) + (wrap64 ((wrap64 (((rd_impl_Peg l0 2).f1) - ((rd_impl_Peg l0 0).f1))) * (wrap64 (((rd_impl_Peg l0 2).f1) - ((rd_impl_Peg l0 0).f1))))))))))) + (wrap64 (((rd_impl_Peg l0 0).f0) * (wrap64 (2 * (wrap64 ((wrap64 ((wrap64 (((rd_impl_Peg l0 1).f0) - ((rd_impl_Peg l0 0).f0))) * (wrap64 (((rd_impl_Peg l0 2).f1) - ((rd_impl_Peg l0 0).f1))))) - (wrap64 ((wrap64 (((rd_impl_Peg l0 1).f1) - ((rd_impl_Peg l0 0).f1))) * (wrap64 (((rd_impl_Peg l0 2).f0) - ((rd_impl_Peg l0 0).f0))))))))))))))) (wrap64 (-(wrap64 ((wrap64 ((wrap64 ((wrap64 (((rd_impl_Peg l0 1).f0) - ((rd_impl_Peg l0 0).f0))) * (wrap64 ((wrap64 ((wrap64 (((rd_impl_Peg l0 2).f0) - ((rd_impl_Peg l0 0).f0))) * (wrap64 (((rd_impl_Peg l0 2).f0) - ((rd_impl_Peg l0 0).f0))))) + (wrap64 ((wrap64 (((rd_impl_Peg l0 2).f1) - ((rd_impl_Peg l0 0).f1))) * (wrap64 (((rd_impl_Peg l0 2).f1) - ((rd_impl_Peg l0 0).f1))))))))) - (wrap64 ((wrap64 (((rd_impl_Peg l0 2).f0) - ((rd_impl_Peg l0 0).f0))) * (wrap64 ((wrap64 ((wrap64 (((rd_impl_Peg l0 1).f0) - ((rd_impl_Peg l0 0).f0))) * (wrap64 (((rd_impl_Peg l0 1).f0) - ((rd_impl_Peg l0 0).f0))))) + (wrap64 ((wrap64 (((rd_impl_Peg l0 1).f1) - ((rd_impl_Peg l0 0).f1))) * (wrap64 (((rd_impl_Peg l0 1).f1) - ((rd_impl_Peg l0 0).f1))))))))))) + (wrap64 (((rd_impl_Peg l0 0).f1) * (wrap64 (2 * (wrap64 ((wrap64 ((wrap64 (((rd_impl_Peg l0 1).f0) - ((rd_impl_Peg l0 0).f0))) * (wrap64 (((rd_impl_Peg l0 2).f1) - ((rd_impl_Peg l0 0).f1))))) - (wrap64 ((wrap64 (((rd_impl_Peg l0 1).f1) - ((rd_impl_Peg l0 0).f1))) * (wrap64 (((rd_impl_Peg l0 2).f0) - ((rd_impl_Peg l0 0).f0)))))))))))))))) else (spec_CircleOfThree.j0 k (wrap64 (2 * (wrap64 ((wrap64 ((wrap64 (((rd_impl_Peg l0 1).f0) - ((rd_impl_Peg l0 0).f0))) * (wrap64 (((rd_impl_Peg l0 2).f1) - ((rd_impl_Peg l0 0).f1))))) - (wrap64 ((wrap64 (((rd_impl_Peg l0 1).f1) - ((rd_impl_Peg l0 0).f1))) * (wrap64 (((rd_impl_Peg l0 2).f0) - ((rd_impl_Peg l0 0).f0))))))))) (wrap64 ((wrap64 ((wrap64 ((wrap64 (((rd_impl_Peg l0 2).f1) - ((rd_impl_Peg l0 0).f1))) * (wrap64 ((wrap64 ((wrap64 (((rd_impl_Peg l0 1).f0) - ((rd_impl_Peg l0 0).f0))) * (wrap64 (((rd_impl_Peg l0 1).f0) - ((rd_impl_Peg l0 0).f0))))) + (wrap64 ((wrap64 (((rd_impl_Peg l0 1).f1) - ((rd_impl_Peg l0 0).f1))) * (wrap64 (((rd_impl_Peg l0 1).f1) - ((rd_impl_Peg l0 0).f1))))))))) - (wrap64 ((wrap64 (((rd_impl_Peg l0 1).f1) - ((rd_impl_Peg l0 0).f1))) * (wrap64 ((wrap64 ((wrap64 (((rd_impl_Peg l0 2).f0) - ((rd_impl_Peg l0 0).f0))) * (wrap64 (((rd_impl_Peg l0 2).f0) - ((rd_impl_Peg l0 0).f0))))) + (wrap64 ((wrap64 (((rd_impl_Peg l0 2).f1) - ((rd_impl_Peg l0 0).f1))) * (wrap64 (((rd_impl_Peg l0 2).f1) - ((rd_impl_Peg l0 0).f1))))))))))) + (wrap64 (((rd_impl_Peg l0 0).f0) * (wrap64 (2 * (wrap64 ((wrap64 ((wrap64 (((rd_impl_Peg l0 1).f0) - ((rd_impl_Peg l0 0).f0))) * (wrap64 (((rd_impl_Peg l0 2).f1) - ((rd_impl_Peg l0 0).f1))))) - (wrap64 ((wrap64 (((rd_impl_Peg l0 1).f1) - ((rd_impl_Peg l0 0).f1))) * (wrap64 (((rd_impl_Peg l0 2).f0) - ((rd_impl_Peg l0 0).f0))))))))))))) (wrap64 ((wrap64 ((wrap64 ((wrap64 (((rd_impl_Peg l0 1).f0) - ((rd_impl_Peg l0 0).f0))) * (wrap64 ((wrap64 ((wrap64 (((rd_impl_Peg l0 2).f0) - ((rd_impl_Peg l0 0).f0))) * (wrap64 (((rd_impl_Peg l0 2).f0) - ((rd_impl_Peg l0 0).f0))))) + (wrap64 ((wrap64 (((rd_impl_Peg l0 2).f1) - ((rd_impl_Peg l0 0).f1))) * (wrap64 (((rd_impl_Peg l0 2).f1) - ((rd_impl_Peg l0 0).f1))))))))) - (wrap64 ((wrap64 (((rd_impl_Peg l0 2).f0) - ((rd_impl_Peg l0 0).f0))) * (wrap64 ((wrap64 ((wrap64 (((rd_impl_Peg l0 1).f0) - ((rd_impl_Peg l0 0).f0))) * (wrap64 (((rd_impl_Peg l0 1).f0) - ((rd_impl_Peg l0 0).f0))))) + (wrap64 ((wrap64 (((rd_impl_Peg l0 1).f1) - ((rd_impl_Peg l0 0).f1))) * (wrap64 (((rd_impl_Peg l0 1).f1) - ((rd_impl_Peg l0 0).f1))))))))))) + (wrap64 (((rd_impl_Peg l0 0).f1) * (wrap64 (2 * (wrap64 ((wrap64 ((wrap64 (((rd_impl_Peg l0 1).f0) - ((rd_impl_Peg l0 0).f0))) * (wrap64 (((rd_impl_Peg l0 2).f1) - ((rd_impl_Peg l0 0).f1))))) - (wrap64 ((wrap64 (((rd_impl_Peg l0 1).f1) - ((rd_impl_Peg l0 0).f1))) * (wrap64 (((rd_impl_Peg l0 2).f0) - ((rd_impl_Peg l0 0).f0))))))))))))))) else (none)) else (none)) else (none)) else (some (0, 0, 0, false)))) = some (r1, r2, r3, r4) := h
 clear h
 replace H := oB.mp H
 obtain ⟨t708, A20, H⟩ := H
 replace H : (if t708 = true then (if 0 < (l0.length : Int) then (if 1 < (l0.length : Int) then (if 2 < (l0.length : Int) then (if (wrap64 (2 * (wrap64 ((wrap64 ((wrap64 (((rd_impl_Peg l0 1).f0) - ((rd_impl_Peg l0 0).f0))) * (wrap64 (((rd_impl_Peg l0 2).f1) - ((rd_impl_Peg l0 0).f1))))) - (wrap64 ((wrap64 (((rd_impl_Peg l0 1).f1) - ((rd_impl_Peg l0 0).f1))) * (wrap64 (((rd_impl_Peg l0 2).f0) - ((rd_impl_Peg l0 0).f0))))))))) < 0 then (spec_CircleOfThree.j0 k (wrap64 (-(wrap64 (2 * (wrap64 ((wrap64 ((wrap64 (((rd_impl_Peg l0 1).f0) - ((rd_impl_Peg l0 0).f0))) * (wrap64 (((rd_impl_Peg l0 2).f1) - ((rd_impl_Peg l0 0).f1))))) - (wrap64 ((wrap64 (((rd_impl_Peg l0 1).f1) - ((rd_impl_Peg l0 0).f1))) * (wrap64 (((rd_impl_Peg l0 2).f0) - ((rd_impl_Peg l0 0).f0))))))))))) (wrap64 (-(wrap64 ((wrap64 ((wrap64 ((wrap64 (((rd_impl_Peg l0 2).f1) - ((rd_impl_Peg l0 0).f1))) * (wrap64 ((wrap64 ((wrap64 (((rd_impl_Peg l0 1).f0) - ((rd_impl_Peg l0 0).f0))) * (wrap64 (((rd_impl_Peg l0 1).f0) - ((rd_impl_Peg l0 0).f0))))) + (wrap64 ((wrap64 (((rd_impl_Peg l0 1).f1) - ((rd_impl_Peg l0 0).f1))) * (wrap64 (((rd_impl_Peg l0 1).f1) - ((rd_impl_Peg l0 0).f1))))))))) - (wrap64 ((wrap64 (((rd_impl_Peg l0 1).f1) - ((rd_impl_Peg l0 0).f1))) * (wrap64 ((wrap64 ((wrap64 (((rd_impl_Peg l0 2).f0) - ((rd_impl_Peg l0 0).f0))) * (wrap64 (((rd_impl_Peg l0 2).f0) - ((rd_impl_Peg l0 0).f0))))) + (wrap64 ((wrap64 (((rd_impl_Peg l0 2).f1) - ((rd_impl_Peg l0 0).f1))) * (wrap64 (((rd_impl_Peg l0 2).f1) - ((rd_impl_Peg l0 0).f1))))))))))) + (wrap64 (((rd_impl_Peg l0 0).f0) * (wrap64 (2 * (wrap64 ((wrap64 ((wrap64 (((rd_impl_Peg l0 1).f0) - ((rd_impl_Peg l0 0).f0))) * (wrap64 (((rd_impl_Peg l0 2).f1) - ((rd_impl_Peg l0 0).f1))))) - (wrap64 ((wrap64 (((rd_impl_Peg l0 1).f1) - ((rd_impl_Peg l0 0).f1))) * (wrap64 (((rd_impl_Peg l0 2).f0) - ((rd_impl_Peg l0 0).f0))))))))))))))) (wrap64 (-(wrap64 ((wrap64 ((wrap64 ((wrap64 (((rd_impl_Peg l0 1).f0) - ((rd_impl_Peg l0 0).f0))) * (wrap64 ((wrap64 ((wrap64 (((rd_impl_Peg l0 2).f0) - ((rd_impl_Peg l0 0).f0))) * (wrap64 (((rd_impl_Peg l0 2).f0) - ((rd_impl_Peg l0 0).f0))))) + (wrap64 ((wrap64 (((rd_impl_Peg l0 2).f1) - ((rd_impl_Peg l0 0).f1))) * (wrap64 (((rd_impl_Peg l0 2).f1) - ((rd_impl_Peg l0 0).f1))))))))) - (wrap64 ((wrap64 (((rd_impl_Peg l0 2).f0) - ((rd_impl_Peg l0 0).f0))) * (wrap64 ((wrap64 ((wrap64 (((rd_impl_Peg l0 1).f0) - ((rd_impl_Peg l0 0).f0))) * (wrap64 (((rd_impl_Peg l0 1).f0) - ((rd_impl_Peg l0 0).f0))))) + (wrap64 ((wrap64 (((rd_impl_Peg l0 1).f1) - ((rd_impl_Peg l0 0).f1))) * (wrap64 (((rd_impl_Peg l0 1).f1) - ((rd_impl_Peg l0 0).f1))))))))))) + (wrap64 (((rd_impl_Peg l0 0).f1) * (wrap64 (2 * (wrap64 ((wrap64 ((wrap64 (((rd_impl_Peg l0 1).f0) - ((rd_impl_Peg l0 0).f0))) * (wrap64 (((rd_impl_Peg l0 2).f1) - ((rd_impl_Peg l0 0).f1))))) - (wrap64 ((wrap64 (((rd_impl_Peg l0 1).f1) - ((rd_impl_Peg l0 0).f1))) * (wrap64 (((rd_impl_Peg l0 2).f0) - ((rd_impl_Peg l0 0).f0)))))))))))))))) else (spec_CircleOfThree.j0 k (wrap64 (2 * (wrap64 ((wrap64 ((wrap64 (((rd_impl_Peg l0 1).f0) - ((rd_impl_Peg l0 0).f0))) * (wrap64 (((rd_impl_Peg l0 2).f1) - ((rd_impl_Peg l0 0).f1))))) - (wrap64 ((wrap64 (((rd_impl_Peg l0 1).f1) - ((rd_impl_Peg l0 0).f1))) * (wrap64 (((rd_impl_Peg l0 2).f0) - ((rd_impl_Peg l0 0).f0))))))))) (wrap64 ((wrap64 ((wrap64 ((wrap64 (((rd_impl_Peg l0 2).f1) - ((rd_impl_Peg l0 0).f1))) * (wrap64 ((wrap64 ((wrap64 (((rd_impl_Peg l0 1).f0) - ((rd_impl_Peg l0 0).f0))) * (wrap64 (((rd_impl_Peg l0 1).f0) - ((rd_impl_Peg l0 0).f0))))) + (wrap64 ((wrap64 (((rd_impl_Peg l0 1).f1) - ((rd_impl_Peg l0 0).f1))) * (wrap64 (((rd_impl_Peg l0 1).f1) - ((rd_impl_Peg l0 0).f1))))))))) - (wrap64 ((wrap64 (((rd_impl_Peg l0 1).f1) - ((rd_impl_Peg l0 0).f1))) * (wrap64 ((wrap64 ((wrap64 (((rd_impl_Peg l0 2).f0) - ((rd_impl_Peg l0 0).f0))) * (wrap64 (((rd_impl_Peg l0 2).f0) - ((rd_impl_Peg l0 0).f0))))) + (wrap64 ((wrap64 (((rd_impl_Peg l0 2).f1) - ((rd_impl_Peg l0 0).f1))) * (wrap64 (((rd_impl_Peg l0 2).f1) - ((rd_impl_Peg l0 0).f1))))))))))) + (wrap64 (((rd_impl_Peg l0 0).f0) * (wrap64 (2 * (wrap64 ((wrap64 ((wrap64 (((rd_impl_Peg l0 1).f0) - ((rd_impl_Peg l0 0).f0))) * (wrap64 (((rd_impl_Peg l0 2).f1) - ((rd_impl_Peg l0 0).f1))))) - (wrap64 ((wrap64 (((rd_impl_Peg l0 1).f1) - ((rd_impl_Peg l0 0).f1))) * (wrap64 (((rd_impl_Peg l0 2).f0) - ((rd_impl_Peg l0 0).f0))))))))))))) (wrap64 ((wrap64 ((wrap64 ((wrap64 (((rd_impl_Peg l0 1).f0) - ((rd_impl_Peg l0 0).f0))) * (wrap64 ((wrap64 ((wrap64 (((rd_impl_Peg l0 2).f0) - ((rd_impl_Peg l0 0).f0))) * (wrap64 (((rd_impl_Peg l0 2).f0) - ((rd_impl_Peg l0 0).f0))))) + (wrap64 ((wrap64 (((rd_impl_Peg l0 2).f1) - ((rd_impl_Peg l0 0).f1))) * (wrap64 (((rd_impl_Peg l0 2).f1) - ((rd_impl_Peg l0 0).f1))))))))) - (wrap64 ((wrap64 (((rd_impl_Peg l0 2).f0) - ((rd_impl_Peg l0 0).f0))) * (wrap64 ((wrap64 ((wrap64 (((rd_impl_Peg l0 1).f0) - ((rd_impl_Peg l0 0).f0))) * (wrap64 (((rd_impl_Peg l0 1).f0) - ((rd_impl_Peg l0 0).f0))))) + (wrap64 ((wrap64 (((rd_impl_Peg l0 1).f1) - ((rd_impl_Peg l0 0).f1))) * (wrap64 (((rd_impl_Peg l0 1).f1) - ((rd_impl_Peg l0 0).f1))))))))))) + (wrap64 (((rd_impl_Peg l0 0).f1) * (wrap64 (2 * (wrap64 ((wrap64 ((wrap64 (((rd_impl_Peg l0 1).f0) - ((rd_impl_Peg l0 0).f0))) * (wrap64 (((rd_impl_Peg l0 2).f1) - ((rd_impl_Peg l0 0).f1))))) - (wrap64 ((wrap64 (((rd_impl_Peg l0 1).f1) - ((rd_impl_Peg l0 0).f1))) * (wrap64 (((rd_impl_Peg l0 2).f0) - ((rd_impl_Peg l0 0).f0))))))))))))))) else (none)) else (none)) else (none)) else (some (0, 0, 0, false))) = some (r1, r2, r3, r4) := H
 have A2 := aM A20
 clear A20
 by_cases c3 : t708 = true
 ·subst c3
  have H1 : (if 0 < (l0.length : Int) then (if 1 < (l0.length : Int) then (if 2 < (l0.length : Int) then (if (wrap64 (2 * (wrap64 ((wrap64 ((wrap64 (((rd_impl_Peg l0 1).f0) - ((rd_impl_Peg l0 0).f0))) * (wrap64 (((rd_impl_Peg l0 2).f1) - ((rd_impl_Peg l0 0).f1))))) - (wrap64 ((wrap64 (((rd_impl_Peg l0 1).f1) - ((rd_impl_Peg l0 0).f1))) * (wrap64 (((rd_impl_Peg l0 2).f0) - ((rd_impl_Peg l0 0).f0))))))))) < 0 then (spec_CircleOfThree.j0 k (wrap64 (-(wrap64 (2 * (wrap64 ((wrap64 ((wrap64 (((rd_impl_Peg l0 1).f0) - ((rd_impl_Peg l0 0).f0))) * (wrap64 (((rd_impl_Peg l0 2).f1) - ((rd_impl_Peg l0 0).f1))))) - (wrap64 ((wrap64 (((rd_impl_Peg l0 1).f1) - ((rd_impl_Peg l0 0).f1))) * (wrap64 (((rd_impl_Peg l0 2).f0) - ((rd_impl_Peg l0 0).f0))))))))))) (wrap64 (-(wrap64 ((wrap64 ((wrap64 ((wrap64 (((rd_impl_Peg l0 2).f1) - ((rd_impl_Peg l0 0).f1))) * (wrap64 ((wrap64 ((wrap64 (((rd_impl_Peg l0 1).f0) - ((rd_impl_Peg l0 0).f0))) * (wrap64 (((rd_impl_Peg l0 1).f0) - ((rd_impl_Peg l0 0).f0))))) + (wrap64 ((wrap64 (((rd_impl_Peg l0 1).f1) - ((rd_impl_Peg l0 0).f1))) * (wrap64 (((rd_impl_Peg l0 1).f1) - ((rd_impl_Peg l0 0).f1))))))))) - (wrap64 ((wrap64 (((rd_impl_Peg l0 1).f1) - ((rd_impl_Peg l0 0).f1))) * (wrap64 ((wrap64 ((wrap64 (((rd_impl_Peg l0 2).f0) - ((rd_impl_Peg l0 0).f0))) * (wrap64 (((rd_impl_Peg l0 2).f0) - ((rd_impl_Peg l0 0).f0))))) + (wrap64 ((wrap64 (((rd_impl_Peg l0 2).f1) - ((rd_impl_Peg l0 0).f1))) * (wrap64 (((rd_impl_Peg l0 2).f1) - ((rd_impl_Peg l0 0).f1))))))))))) + (wrap64 (((rd_impl_Peg l0 0).f0) * (wrap64 (2 * (wrap64 ((wrap64 ((wrap64 (((rd_impl_Peg l0 1).f0) - ((rd_impl_Peg l0 0).f0))) * (wrap64 (((rd_impl_Peg l0 2).f1) - ((rd_impl_Peg l0 0).f1))))) - (wrap64 ((wrap64 (((rd_impl_Peg l0 1).f1) - ((rd_impl_Peg l0 0).f1))) * (wrap64 (((rd_impl_Peg l0 2).f0) - ((rd_impl_Peg l0 0).f0))))))))))))))) (wrap64 (-(wrap64 ((wrap64 ((wrap64 ((wrap64 (((rd_impl_Peg l0 1).f0) - ((rd_impl_Peg l0 0).f0))) * (wrap64 ((wrap64 ((wrap64 (((rd_impl_Peg l0 2).f0) - ((rd_impl_Peg l0 0).f0))) * (wrap64 (((rd_impl_Peg l0 2).f0) - ((rd_impl_Peg l0 0).f0))))) + (wrap64 ((wrap64 (((rd_impl_Peg l0 2).f1) - ((rd_impl_Peg l0 0).f1))) * (wrap64 (((rd_impl_Peg l0 2).f1) - ((rd_impl_Peg l0 0).f1))))))))) - (wrap64 ((wrap64 (((rd_impl_Peg l0 2).f0) - ((rd_impl_Peg l0 0).f0))) * (wrap64 ((wrap64 ((wrap64 (((rd_impl_Peg l0 1).f0) - ((rd_impl_Peg l0 0).f0))) * (wrap64 (((rd_impl_Peg l0 1).f0) - ((rd_impl_Peg l0 0).f0))))) + (wrap64 ((wrap64 (((rd_impl_Peg l0 1).f1) - ((rd_impl_Peg l0 0).f1))) * (wrap64 (((rd_impl_Peg l0 1).f1) - ((rd_impl_Peg l0 0).f1))))))))))) + (wrap64 (((rd_impl_Peg l0 0).f1) * (wrap64 (2 * (wrap64 ((wrap64 ((wrap64 (((rd_impl_Peg l0 1).f0) - ((rd_impl_Peg l0 0).f0))) * (wrap64 (((rd_impl_Peg l0 2).f1) - ((rd_impl_Peg l0 0).f1))))) - (wrap64 ((wrap64 (((rd_impl_Peg l0 1).f1) - ((rd_impl_Peg l0 0).f1))) * (wrap64 (((rd_impl_Peg l0 2).f0) - ((rd_impl_Peg l0 0).f0)))))))))))))))) else (spec_CircleOfThree.j0 k (wrap64 (2 * (wrap64 ((wrap64 ((wrap64 (((rd_impl_Peg l0 1).f0) - ((rd_impl_Peg l0 0).f0))) * (wrap64 (((rd_impl_Peg l0 2).f1) - ((rd_impl_Peg l0 0).f1))))) - (wrap64 ((wrap64 (((rd_impl_Peg l0 1).f1) - ((rd_impl_Peg l0 0).f1))) * (wrap64 (((rd_impl_Peg l0 2).f0) - ((rd_impl_Peg l0 0).f0))))))))) (wrap64 ((wrap64 ((wrap64 ((wrap64 (((rd_impl_Peg l0 2).f1) - ((rd_impl_Peg l0 0).f1))) * (wrap64 ((wrap64 ((wrap64 (((rd_impl_Peg l0 1).f0) - ((rd_impl_Peg l0 0).f0))) * (wrap64 (((rd_impl_Peg l0 1).f0) - ((rd_impl_Peg l0 0).f0))))) + (wrap64 ((wrap64 (((rd_impl_Peg l0 1).f1) - ((rd_impl_Peg l0 0).f1))) * (wrap64 (((rd_impl_Peg l0 1).f1) - ((rd_impl_Peg l0 0).f1))))))))) - (wrap64 ((wrap64 (((rd_impl_Peg l0 1).f1) - ((rd_impl_Peg l0 0).f1))) * (wrap64 ((wrap64 ((wrap64 (((rd_impl_Peg l0 2).f0) - ((rd_impl_Peg l0 0).f0))) * (wrap64 (((rd_impl_Peg l0 2).f0) - ((rd_impl_Peg l0 0).f0))))) + (wrap64 ((wrap64 (((rd_impl_Peg l0 2).f1) - ((rd_impl_Peg l0 0).f1))) * (wrap64 (((rd_impl_Peg l0 2).f1) - ((rd_impl_Peg l0 0).f1))))))))))) + (wrap64 (((rd_impl_Peg l0 0).f0) * (wrap64 (2 * (wrap64 ((wrap64 ((wrap64 (((rd_impl_Peg l0 1).f0) - ((rd_impl_Peg l0 0).f0))) * (wrap64 (((rd_impl_Peg l0 2).f1) - ((rd_impl_Peg l0 0).f1))))) - (wrap64 ((wrap64 (((rd_impl_Peg l0 1).f1) - ((rd_impl_Peg l0 0).f1))) * (wrap64 (((rd_impl_Peg l0 2).f0) - ((rd_impl_Peg l0 0).f0))))))))))))) (wrap64 ((wrap64 ((wrap64 ((wrap64 (((rd_impl_Peg l0 1).f0) - ((rd_impl_Peg l0 0).f0))) * (wrap64 ((wrap64 ((wrap64 (((rd_impl_Peg l0 2).f0) - ((rd_impl_Peg l0 0).f0))) * (wrap64 (((rd_impl_Peg l0 2).f0) - ((rd_impl_Peg l0 0).f0))))) + (wrap64 ((wrap64 (((rd_impl_Peg l0 2).f1) - ((rd_impl_Peg l0 0).f1))) * (wrap64 (((rd_impl_Peg l0 2).f1) - ((rd_impl_Peg l0 0).f1))))))))) - (wrap64 ((wrap64 (((rd_impl_Peg l0 2).f0) - ((rd_impl_Peg l0 0).f0))) * (wrap64 ((wrap64 ((wrap64 (((rd_impl_Peg l0 1).f0) - ((rd_impl_Peg l0 0).f0))) * (wrap64 (((rd_impl_Peg l0 1).f0) - ((rd_impl_Peg l0 0).f0))))) + (wrap64 ((wrap64 (((rd_impl_Peg l0 1).f1) - ((rd_impl_Peg l0 0).f1))) * (wrap64 (((rd_impl_Peg l0 1).f1) - ((rd_impl_Peg l0 0).f1))))))))))) + (wrap64 (((rd_impl_Peg l0 0).f1) * (wrap64 (2 * (wrap64 ((wrap64 ((wrap64 (((rd_impl_Peg l0 1).f0) - ((rd_impl_Peg l0 0).f0))) * (wrap64 (((rd_impl_Peg l0 2).f1) - ((rd_impl_Peg l0 0).f1))))) - (wrap64 ((wrap64 (((rd_impl_Peg l0 1).f1) - ((rd_impl_Peg l0 0).f1))) * (wrap64 (((rd_impl_Peg l0 2).f0) - ((rd_impl_Peg l0 0).f0))))))))))))))) else (none)) else (none)) else (none)) = some (r1, r2, r3, r4) := by rw [if_pos rfl] at H; exact H
  clear H
  have H := H1
  clear H1
  by_cases c4 : 0 < (l0.length : Int)
  ·rw [if_pos c4] at H
   have c4b0 : decide (0 < (l0.length : Int)) = true := dE c4
   have c4b1 : decide (0 < l0.length) = true := dE (by omega)
   clear c4
   by_cases c5 : 1 < (l0.length : Int)
   ·rw [if_pos c5] at H
    have c5b0 : decide (1 < (l0.length : Int)) = true := dE c5
    have c5b1 : decide (1 < l0.length) = true := dE (by omega)
    clear c5
    by_cases c6 : 2 < (l0.length : Int)
    ·rw [if_pos c6] at H
     have c6b0 : decide (2 < (l0.length : Int)) = true := dE c6
     have c6b1 : decide (2 < l0.length) = true := dE (by omega)
     clear c6
     have HC7 := aM H
     clear H
     go_enter Try.func54, Try.ntmps54
     try go_wp2_with (first | ((with_reducible refine gC (f := 95) rfl ?_); refine goesL_ (some 20) rfl rfl Try.func95 kR rfl #[.slice A0 l0.length c0] rfl sQ ?_; (with_reducible refine (spec_trThree.calls k _ _ l0 true _ ?side1 ?side2 A2.out).mono ?_); (case side1 => repeat (first | exact HR0.out | (with_reducible refine cA ?_ _) | (with_reducible refine cN ?_ _) | (with_reducible refine cD ?_))); (case side2 => exact HC0.out); rintro e w8 ⟨rfl, hb⟩; refine ⟨_, rfl, ?_⟩; have n0_ := aM (pT bQ hb); clear HB; have HB := n0_; clear n0_; (try clear hb); (try clear hb2); (try clear hk); (try clear hi)))
     have n0_ := aM (pD HB.out)
     clear HB
     have HB := n0_
     clear n0_
     have p709 : 0 ≤ (0 : Int) := (by omega)
     have q709 : 0 < (l0.length : Int) := dT aQ
     obtain ⟨ad709, e709, hx709_0, hx709_1⟩ := at_impl_Peg HR0.out 0 p709 q709
     have hw709_1 := hx709_1
     (try rw [show ((0 : Int)).toNat = 0 from rfl] at hw709_1)
     (try rw [show 0 * 2 = 0 from rfl] at hw709_1)
     (try rw [Addr.add_zero'] at hw709_1)
     have hw709_0 := hx709_0
     (try rw [show ((0 : Int)).toNat = 0 from rfl] at hw709_0)
     (try rw [show 0 * 2 = 0 from rfl] at hw709_0)
     (try rw [Addr.add_zero'] at hw709_0)
     cases e709
     have qi709 : (0 < l0.length) = True := eq_true (by omega)
     (try rw [show ((0 : Int)).toNat = 0 from rfl] at hx709_0)
     (try rw [show 0 * 2 = 0 from rfl] at hx709_0)
     (try rw [Addr.add_zero'] at hx709_0)
     (try rw [show ((0 : Int)).toNat = 0 from rfl] at hx709_1)
     (try rw [show 0 * 2 = 0 from rfl] at hx709_1)
     (try rw [Addr.add_zero'] at hx709_1)
     replace hx709_0 := (HB.out.cell (wB w _ hx709_0)).trans hx709_0
     replace hx709_1 := (HB.out.cell (wB w _ hx709_1)).trans hx709_1
     replace p709 := eq_true p709
     replace q709 := eq_true q709
     have p710 : 0 ≤ (1 : Int) := (by omega)
     have q710 : 1 < (l0.length : Int) := dT aQ
     obtain ⟨ad710, e710, hx710_0, hx710_1⟩ := at_impl_Peg HR0.out 1 p710 q710
     have hw710_1 := hx710_1
     (try rw [show ((1 : Int)).toNat = 1 from rfl] at hw710_1)
     (try rw [show 1 * 2 = 2 from rfl] at hw710_1)
     (try simp only [Nat.reduceMul, Nat.reduceEqDiff, Go.Addr.add, ↓reduceIte] at hw710_1)
     have hw710_0 := hx710_0
     (try rw [show ((1 : Int)).toNat = 1 from rfl] at hw710_0)
     (try rw [show 1 * 2 = 2 from rfl] at hw710_0)
     (try simp only [Nat.reduceMul, Nat.reduceEqDiff, Go.Addr.add, ↓reduceIte] at hw710_0)
     obtain rfl : ad709 = ad710 := (by injection e710)
     (try simp only [show (1 : Int).toNat = 1 from rfl, Nat.reduceMul, Nat.reduceEqDiff, Go.Addr.add, ↓reduceIte] at hx710_0)
     (try simp only [show (1 : Int).toNat = 1 from rfl, Nat.reduceMul, Nat.reduceEqDiff, Go.Addr.add, ↓reduceIte] at hx710_1)
     have qi710 : (1 < l0.length) = True := eq_true (by omega)
     (try rw [show ((1 : Int)).toNat = 1 from rfl] at hx710_0)
     (try rw [show 1 * 2 = 2 from rfl] at hx710_0)
     (try rw [show ((1 : Int)).toNat = 1 from rfl] at hx710_1)
     (try rw [show 1 * 2 = 2 from rfl] at hx710_1)
     replace hx710_0 := (HB.out.cell (wB w _ hx710_0)).trans hx710_0
     replace hx710_1 := (HB.out.cell (wB w _ hx710_1)).trans hx710_1
     replace p710 := eq_true p710
     replace q710 := eq_true q710
     have p711 : 0 ≤ (2 : Int) := (by omega)
     have q711 : 2 < (l0.length : Int) := dT aQ
     obtain ⟨ad711, e711, hx711_0, hx711_1⟩ := at_impl_Peg HR0.out 2 p711 q711
     have hw711_1 := hx711_1
     (try rw [show ((2 : Int)).toNat = 2 from rfl] at hw711_1)
     (try rw [show 2 * 2 = 4 from rfl] at hw711_1)
     (try simp only [Nat.reduceMul, Nat.reduceEqDiff, Go.Addr.add, ↓reduceIte] at hw711_1)
     have hw711_0 := hx711_0
     (try rw [show ((2 : Int)).toNat = 2 from rfl] at hw711_0)
     (try rw [show 2 * 2 = 4 from rfl] at hw711_0)
     (try simp only [Nat.reduceMul, Nat.reduceEqDiff, Go.Addr.add, ↓reduceIte] at hw711_0)
     obtain rfl : ad709 = ad711 := (by injection e711)
     (try simp only [show (2 : Int).toNat = 2 from rfl, Nat.reduceMul, Nat.reduceEqDiff, Go.Addr.add, ↓reduceIte] at hx711_0)
     (try simp only [show (2 : Int).toNat = 2 from rfl, Nat.reduceMul, Nat.reduceEqDiff, Go.Addr.add, ↓reduceIte] at hx711_1)
     have qi711 : (2 < l0.length) = True := eq_true (by omega)
     (try rw [show ((2 : Int)).toNat = 2 from rfl] at hx711_0)
     (try rw [show 2 * 2 = 4 from rfl] at hx711_0)
     (try rw [show ((2 : Int)).toNat = 2 from rfl] at hx711_1)
     (try rw [show 2 * 2 = 4 from rfl] at hx711_1)
     replace hx711_0 := (HB.out.cell (wB w _ hx711_0)).trans hx711_0
     replace hx711_1 := (HB.out.cell (wB w _ hx711_1)).trans hx711_1
     replace p711 := eq_true p711
     replace q711 := eq_true q711
     refine start_ (n := 15) (S := fun w' => w'.cell? ad709 = some (.int .i64 ((rd_impl_Peg l0 0).f0)) ∧ w'.cell? ⟨ad709.block, ad709.off + 1, none⟩ = some (.int .i64 ((rd_impl_Peg l0 0).f1)) ∧ w'.cell? ⟨ad709.block, ad709.off + 2, none⟩ = some (.int .i64 ((rd_impl_Peg l0 1).f0)) ∧ w'.cell? ⟨ad709.block, ad709.off + 2 + 1, none⟩ = some (.int .i64 ((rd_impl_Peg l0 1).f1)) ∧ w'.cell? ⟨ad709.block, ad709.off + 4, none⟩ = some (.int .i64 ((rd_impl_Peg l0 2).f0)) ∧ w'.cell? ⟨ad709.block, ad709.off + 4 + 1, none⟩ = some (.int .i64 ((rd_impl_Peg l0 2).f1))) (ds := []) #[false, false, false, false, false, false, false, false, false, false, false, false, false, false, false] kR rfl rfl ⟨((HB.out.cell (wB w _ hw709_0)).trans hw709_0), ((HB.out.cell (wB w _ hw709_1)).trans hw709_1), ((HB.out.cell (wB w _ hw710_0)).trans hw710_0), ((HB.out.cell (wB w _ hw710_1)).trans hw710_1), ((HB.out.cell (wB w _ hw711_0)).trans hw711_0), ((HB.out.cell (wB w _ hw711_1)).trans hw711_1)⟩ (fun hHeld => ?_); refine with_tabW spec_CircleOfThree.tab3 spec_CircleOfThree.bits3 (fun HT_ HW_ => ?_)
     generalize w8.drew = w9 at HB hx709_0 hx709_1 hx710_0 hx710_1 hx711_0 hx711_1 hHeld ⊢
     refine pure_ (i := 0) (N := some 22) (v := ?_) (a' := ?_) #[true, false, false, false, false, false, false, false, false, false, false, false, false, false, false] rfl rfl (any_of HT_.out kR) (fun _ _ _ h => h) (Or.inl ⟨by rfl, ?_⟩) ?_ ?_
     rotate_left
     ·intro w'
      go_simp
      with_reducible rfl
     rotate_left
     ·simp only [Act.put, sI, sZ, sS, i64_w, i32_w]
      rfl
     refine pure_ (i := 1) (N := some 23) (v := ?_) (a' := ?_) #[true, true, false, false, false, false, false, false, false, false, false, false, false, false, false] rfl rfl (any_of HT_.out kR) (fun _ _ _ h => h) (Or.inl ⟨by rfl, ?_⟩) ?_ ?_
     rotate_left
     ·intro w'
      go_simp
      with_reducible rfl
     rotate_left
     ·simp only [Act.put, sI, sZ, sS, i64_w, i32_w]
      rfl
     refine pure_ (i := 3) (N := some 25) (v := ?_) (a' := ?_) #[true, true, false, true, false, false, false, false, false, false, false, false, false, false, false] rfl rfl (any_of HT_.out kR) (fun _ _ _ h => h) (Or.inl ⟨by rfl, ?_⟩) ?_ ?_
     rotate_left
     ·intro w'
      go_simp
      with_reducible rfl
     rotate_left
     ·simp only [Act.put, sI, sZ, sS, i64_w, i32_w]
      rfl
     refine pure_ (i := 4) (N := some 26) (v := ?_) (a' := ?_) #[true, true, false, true, true, false, false, false, false, false, false, false, false, false, false] rfl rfl (any_of HT_.out kR) (fun _ _ _ h => h) (Or.inl ⟨by rfl, ?_⟩) ?_ ?_
     rotate_left
     ·intro w'
      go_simp
      with_reducible rfl
     rotate_left
     ·simp only [Act.put, sI, sZ, sS, i64_w, i32_w]
      rfl
     refine pure_ (i := 6) (N := some 28) (v := ?_) (a' := ?_) #[true, true, false, true, true, false, true, false, false, false, false, false, false, false, false] rfl rfl (any_of HT_.out kR) (fun _ _ _ h => h) (Or.inl ⟨by rfl, ?_⟩) ?_ ?_
     rotate_left
     ·intro w'
      go_simp
      with_reducible rfl
     rotate_left
     ·simp only [Act.put, sI, sZ, sS, i64_w, i32_w]
      rfl
     refine pure_ (i := 7) (N := some 29) (v := ?_) (a' := ?_) #[true, true, false, true, true, false, true, true, false, false, false, false, false, false, false] rfl rfl (any_of HT_.out kR) (fun _ _ _ h => h) (Or.inl ⟨by rfl, ?_⟩) ?_ ?_
     rotate_left
     ·intro w'
      go_simp
      with_reducible rfl
     rotate_left
     ·simp only [Act.put, sI, sZ, sS, i64_w, i32_w]
      rfl
     refine take_ (i := 2) (N := some 24) (v := ?_) (a' := ?_) #[true, true, true, true, true, false, true, true, false, false, false, false, false, false, false] rfl rfl (take_ofW HT_.out HW_.out kR) (fun _ _ _ h => h) (Or.inl ⟨by rfl, ?_⟩) hHeld ?_ ?_
     rotate_left
     ·rintro w' ⟨s0, s1, s2, s3, s4, s5⟩
      go_simp
      with_reducible rfl
     rotate_left
     ·simp only [Act.put, sI, sZ, sS, i64_w, i32_w]
      rfl
     refine take_ (i := 5) (N := some 27) (v := ?_) (a' := ?_) #[true, true, true, true, true, true, true, true, false, false, false, false, false, false, false] rfl rfl (take_ofW HT_.out HW_.out kR) (fun _ _ _ h => h) (Or.inl ⟨by rfl, ?_⟩) hHeld ?_ ?_
     rotate_left
     ·rintro w' ⟨s0, s1, s2, s3, s4, s5⟩
      go_simp
      with_reducible rfl
     rotate_left
     ·simp only [Act.put, sI, sZ, sS, i64_w, i32_w]
      rfl
     refine take_ (i := 8) (N := some 30) (v := ?_) (a' := ?_) #[true, true, true, true, true, true, true, true, true, false, false, false, false, false, false] rfl rfl (take_ofW HT_.out HW_.out kR) (fun _ _ _ h => h) (Or.inl ⟨by rfl, ?_⟩) hHeld ?_ ?_
     rotate_left
     ·rintro w' ⟨s0, s1, s2, s3, s4, s5⟩
      go_simp
      with_reducible rfl
     rotate_left
     ·simp only [Act.put, sI, sZ, sS, i64_w, i32_w]
      rfl
     refine join_ (σ := Nat × Nat × Nat) 3 #[true, true, true, true, true, true, true, true, true, true, true, true, false, false, false] (fun s_ => [(6, .pointer (some ⟨s_.1, 0, none⟩)), (7, .pointer (some ⟨s_.2.1, 0, none⟩)), (8, .pointer (some ⟨s_.2.2, 0, none⟩))]) (fun s_ w' => (w'.cell? ad709 = some (.int .i64 ((rd_impl_Peg l0 0).f0)) ∧ w'.cell? ⟨ad709.block, ad709.off + 1, none⟩ = some (.int .i64 ((rd_impl_Peg l0 0).f1)) ∧ w'.cell? ⟨ad709.block, ad709.off + 2, none⟩ = some (.int .i64 ((rd_impl_Peg l0 1).f0)) ∧ w'.cell? ⟨ad709.block, ad709.off + 2 + 1, none⟩ = some (.int .i64 ((rd_impl_Peg l0 1).f1)) ∧ w'.cell? ⟨ad709.block, ad709.off + 4, none⟩ = some (.int .i64 ((rd_impl_Peg l0 2).f0)) ∧ w'.cell? ⟨ad709.block, ad709.off + 4 + 1, none⟩ = some (.int .i64 ((rd_impl_Peg l0 2).f1))) ∧ (w'.heap[s_.1]? = some (.cells #[.int .i64 0, .int .i64 0] 34 (0, 0))) ∧ (w'.heap[s_.2.1]? = some (.cells #[.int .i64 0, .int .i64 0] 34 (0, 0))) ∧ (w'.heap[s_.2.2]? = some (.cells #[.int .i64 0, .int .i64 0] 34 (0, 0))) ∧ (w.heap.size ≤ s_.1) ∧ (w.heap.size ≤ s_.1) ∧ (s_.2.1 ≠ s_.1) ∧ (s_.1 ≠ s_.2.1) ∧ (s_.2.2 ≠ s_.1) ∧ (s_.1 ≠ s_.2.2) ∧ (w.heap.size ≤ s_.2.1) ∧ (w.heap.size ≤ s_.2.1) ∧ (s_.2.2 ≠ s_.2.1) ∧ (s_.2.1 ≠ s_.2.2) ∧ (w.heap.size ≤ s_.2.2) ∧ (w.heap.size ≤ s_.2.2) ∧ (Below w.heap.size w w')) ?_ ?_
     rotate_left
     ·intro hJ9_10_11
      refine join_ (σ := Nat × Nat) 4 #[true, true, true, true, true, true, true, true, true, true, true, false, false, false, false] (fun s_ => [(6, .pointer (some ⟨s_.1, 0, none⟩)), (7, .pointer (some ⟨s_.2, 0, none⟩))]) (fun s_ w' => (w'.cell? ad709 = some (.int .i64 ((rd_impl_Peg l0 0).f0)) ∧ w'.cell? ⟨ad709.block, ad709.off + 1, none⟩ = some (.int .i64 ((rd_impl_Peg l0 0).f1)) ∧ w'.cell? ⟨ad709.block, ad709.off + 2, none⟩ = some (.int .i64 ((rd_impl_Peg l0 1).f0)) ∧ w'.cell? ⟨ad709.block, ad709.off + 2 + 1, none⟩ = some (.int .i64 ((rd_impl_Peg l0 1).f1)) ∧ w'.cell? ⟨ad709.block, ad709.off + 4, none⟩ = some (.int .i64 ((rd_impl_Peg l0 2).f0)) ∧ w'.cell? ⟨ad709.block, ad709.off + 4 + 1, none⟩ = some (.int .i64 ((rd_impl_Peg l0 2).f1))) ∧ (w'.heap[s_.1]? = some (.cells #[.int .i64 0, .int .i64 0] 34 (0, 0))) ∧ (w'.heap[s_.2]? = some (.cells #[.int .i64 0, .int .i64 0] 34 (0, 0))) ∧ (w.heap.size ≤ s_.1) ∧ (w.heap.size ≤ s_.1) ∧ (s_.2 ≠ s_.1) ∧ (s_.1 ≠ s_.2) ∧ (w.heap.size ≤ s_.2) ∧ (w.heap.size ≤ s_.2) ∧ (Below w.heap.size w w')) ?_ ?_
      rotate_left
      ·intro hJ9_10
       refine join_ (σ := Nat × Nat) 4 #[true, true, true, true, true, true, true, true, true, true, false, true, false, false, false] (fun s_ => [(6, .pointer (some ⟨s_.1, 0, none⟩)), (8, .pointer (some ⟨s_.2, 0, none⟩))]) (fun s_ w' => (w'.cell? ad709 = some (.int .i64 ((rd_impl_Peg l0 0).f0)) ∧ w'.cell? ⟨ad709.block, ad709.off + 1, none⟩ = some (.int .i64 ((rd_impl_Peg l0 0).f1)) ∧ w'.cell? ⟨ad709.block, ad709.off + 2, none⟩ = some (.int .i64 ((rd_impl_Peg l0 1).f0)) ∧ w'.cell? ⟨ad709.block, ad709.off + 2 + 1, none⟩ = some (.int .i64 ((rd_impl_Peg l0 1).f1)) ∧ w'.cell? ⟨ad709.block, ad709.off + 4, none⟩ = some (.int .i64 ((rd_impl_Peg l0 2).f0)) ∧ w'.cell? ⟨ad709.block, ad709.off + 4 + 1, none⟩ = some (.int .i64 ((rd_impl_Peg l0 2).f1))) ∧ (w'.heap[s_.1]? = some (.cells #[.int .i64 0, .int .i64 0] 34 (0, 0))) ∧ (w'.heap[s_.2]? = some (.cells #[.int .i64 0, .int .i64 0] 34 (0, 0))) ∧ (w.heap.size ≤ s_.1) ∧ (w.heap.size ≤ s_.1) ∧ (s_.2 ≠ s_.1) ∧ (s_.1 ≠ s_.2) ∧ (w.heap.size ≤ s_.2) ∧ (w.heap.size ≤ s_.2) ∧ (Below w.heap.size w w')) ?_ ?_
       rotate_left
       ·intro hJ9_11
        refine join_ (σ := Nat × Nat) 4 #[true, true, true, true, true, true, true, true, true, false, true, true, false, false, false] (fun s_ => [(7, .pointer (some ⟨s_.1, 0, none⟩)), (8, .pointer (some ⟨s_.2, 0, none⟩))]) (fun s_ w' => (w'.cell? ad709 = some (.int .i64 ((rd_impl_Peg l0 0).f0)) ∧ w'.cell? ⟨ad709.block, ad709.off + 1, none⟩ = some (.int .i64 ((rd_impl_Peg l0 0).f1)) ∧ w'.cell? ⟨ad709.block, ad709.off + 2, none⟩ = some (.int .i64 ((rd_impl_Peg l0 1).f0)) ∧ w'.cell? ⟨ad709.block, ad709.off + 2 + 1, none⟩ = some (.int .i64 ((rd_impl_Peg l0 1).f1)) ∧ w'.cell? ⟨ad709.block, ad709.off + 4, none⟩ = some (.int .i64 ((rd_impl_Peg l0 2).f0)) ∧ w'.cell? ⟨ad709.block, ad709.off + 4 + 1, none⟩ = some (.int .i64 ((rd_impl_Peg l0 2).f1))) ∧ (w'.heap[s_.1]? = some (.cells #[.int .i64 0, .int .i64 0] 34 (0, 0))) ∧ (w'.heap[s_.2]? = some (.cells #[.int .i64 0, .int .i64 0] 34 (0, 0))) ∧ (w.heap.size ≤ s_.1) ∧ (w.heap.size ≤ s_.1) ∧ (s_.2 ≠ s_.1) ∧ (s_.1 ≠ s_.2) ∧ (w.heap.size ≤ s_.2) ∧ (w.heap.size ≤ s_.2) ∧ (Below w.heap.size w w')) ?_ ?_
        rotate_left
        ·intro hJ10_11
         refine join_ (σ := Nat) 5 #[true, true, true, true, true, true, true, true, true, true, false, false, false, false, false] (fun s_ => [(6, .pointer (some ⟨s_, 0, none⟩))]) (fun s_ w' => (w'.cell? ad709 = some (.int .i64 ((rd_impl_Peg l0 0).f0)) ∧ w'.cell? ⟨ad709.block, ad709.off + 1, none⟩ = some (.int .i64 ((rd_impl_Peg l0 0).f1)) ∧ w'.cell? ⟨ad709.block, ad709.off + 2, none⟩ = some (.int .i64 ((rd_impl_Peg l0 1).f0)) ∧ w'.cell? ⟨ad709.block, ad709.off + 2 + 1, none⟩ = some (.int .i64 ((rd_impl_Peg l0 1).f1)) ∧ w'.cell? ⟨ad709.block, ad709.off + 4, none⟩ = some (.int .i64 ((rd_impl_Peg l0 2).f0)) ∧ w'.cell? ⟨ad709.block, ad709.off + 4 + 1, none⟩ = some (.int .i64 ((rd_impl_Peg l0 2).f1))) ∧ (w'.heap[s_]? = some (.cells #[.int .i64 0, .int .i64 0] 34 (0, 0))) ∧ (w.heap.size ≤ s_) ∧ (w.heap.size ≤ s_) ∧ (Below w.heap.size w w')) ?_ ?_
         rotate_left
         ·intro hJ9
          refine join_ (σ := Nat) 5 #[true, true, true, true, true, true, true, true, true, false, true, false, false, false, false] (fun s_ => [(7, .pointer (some ⟨s_, 0, none⟩))]) (fun s_ w' => (w'.cell? ad709 = some (.int .i64 ((rd_impl_Peg l0 0).f0)) ∧ w'.cell? ⟨ad709.block, ad709.off + 1, none⟩ = some (.int .i64 ((rd_impl_Peg l0 0).f1)) ∧ w'.cell? ⟨ad709.block, ad709.off + 2, none⟩ = some (.int .i64 ((rd_impl_Peg l0 1).f0)) ∧ w'.cell? ⟨ad709.block, ad709.off + 2 + 1, none⟩ = some (.int .i64 ((rd_impl_Peg l0 1).f1)) ∧ w'.cell? ⟨ad709.block, ad709.off + 4, none⟩ = some (.int .i64 ((rd_impl_Peg l0 2).f0)) ∧ w'.cell? ⟨ad709.block, ad709.off + 4 + 1, none⟩ = some (.int .i64 ((rd_impl_Peg l0 2).f1))) ∧ (w'.heap[s_]? = some (.cells #[.int .i64 0, .int .i64 0] 34 (0, 0))) ∧ (w.heap.size ≤ s_) ∧ (w.heap.size ≤ s_) ∧ (Below w.heap.size w w')) ?_ ?_
          rotate_left
          ·intro hJ10
           refine join_ (σ := Nat) 5 #[true, true, true, true, true, true, true, true, true, false, false, true, false, false, false] (fun s_ => [(8, .pointer (some ⟨s_, 0, none⟩))]) (fun s_ w' => (w'.cell? ad709 = some (.int .i64 ((rd_impl_Peg l0 0).f0)) ∧ w'.cell? ⟨ad709.block, ad709.off + 1, none⟩ = some (.int .i64 ((rd_impl_Peg l0 0).f1)) ∧ w'.cell? ⟨ad709.block, ad709.off + 2, none⟩ = some (.int .i64 ((rd_impl_Peg l0 1).f0)) ∧ w'.cell? ⟨ad709.block, ad709.off + 2 + 1, none⟩ = some (.int .i64 ((rd_impl_Peg l0 1).f1)) ∧ w'.cell? ⟨ad709.block, ad709.off + 4, none⟩ = some (.int .i64 ((rd_impl_Peg l0 2).f0)) ∧ w'.cell? ⟨ad709.block, ad709.off + 4 + 1, none⟩ = some (.int .i64 ((rd_impl_Peg l0 2).f1))) ∧ (w'.heap[s_]? = some (.cells #[.int .i64 0, .int .i64 0] 34 (0, 0))) ∧ (w.heap.size ≤ s_) ∧ (w.heap.size ≤ s_) ∧ (Below w.heap.size w w')) ?_ ?_
           rotate_left
           ·intro hJ11
            refine three_ (i := 9) (j := 10) (k := 11) (Ni := some 6) (Nj := some 7) (Nk := some 8) #[true, true, true, true, true, true, true, true, true, true, false, false, false, false, false] #[true, true, true, true, true, true, true, true, true, false, true, false, false, false, false] #[true, true, true, true, true, true, true, true, true, false, false, true, false, false, false] rfl rfl rfl rfl rfl rfl (three_of HT_.out kR) (by decide) (by decide) (by decide) (fun K hK => ?_) (fun K hK => ?_) (fun K hK => ?_)
            ·skip
             refine box_step ?hg (N := 6) ?hd (cs := #[.int .i64 0, .int .i64 0]) (t := 34) ?hr ?_; (case hd => rfl); (case hg => rfl); (case hr => first | (go_simp; done) | (go_simp; rfl))
             intro gb712 hg w10 hbox hb
             have n0_ := aM (pT bQ hb)
             have n1_ := aM (hbox)
             have n2_ := aM ((by rw [hg]; exact (pZ bQ) : w.heap.size ≤ gb712))
             have n3_ := aM ((by rw [hg]; exact (pZ bQ) : w.heap.size ≤ gb712))
             clear HB
             have HB := n0_
             have BK712 := n1_
             have GW712 := n2_
             have GE712 := n3_
             clear n0_ n1_ n2_ n3_
             clear hb hbox hg
             refine hK.out _ _ ⟨((HB.out.cell (wB w _ hw709_0)).trans hw709_0), ((HB.out.cell (wB w _ hw709_1)).trans hw709_1), ((HB.out.cell (wB w _ hw710_0)).trans hw710_0), ((HB.out.cell (wB w _ hw710_1)).trans hw710_1), ((HB.out.cell (wB w _ hw711_0)).trans hw711_0), ((HB.out.cell (wB w _ hw711_1)).trans hw711_1)⟩ (fun hHeld => ?_)
             clear hK K
             refine norm_ (a' := ?_) ?_ ?_
             rotate_left
             ·show Act.put _ (some 6) _ = _
              simp only [Act.put, sI, sZ, sS, i64_w, i32_w]
              rfl
             exact norm_ (by first | (simp only [putAll, Act.put, sI, sZ, sS]; done) | (simp only [putAll, Act.put, sI, sZ, sS]; rfl)) (hJ9 (gb712) _ ⟨hHeld, (gQ BK712), GW712.out, GE712.out, (by repeat (first | (with_reducible first | exact HB.out | apply pA | apply pN | apply pD | refine pS ?_ GE712.out) | exact HB.out))⟩)
            ·skip
             refine box_step ?hg (N := 7) ?hd (cs := #[.int .i64 0, .int .i64 0]) (t := 34) ?hr ?_; (case hd => rfl); (case hg => rfl); (case hr => first | (go_simp; done) | (go_simp; rfl))
             intro gb713 hg w10 hbox hb
             have n0_ := aM (pT bQ hb)
             have n1_ := aM (hbox)
             have n2_ := aM ((by rw [hg]; exact (pZ bQ) : w.heap.size ≤ gb713))
             have n3_ := aM ((by rw [hg]; exact (pZ bQ) : w.heap.size ≤ gb713))
             clear HB
             have HB := n0_
             have BK713 := n1_
             have GW713 := n2_
             have GE713 := n3_
             clear n0_ n1_ n2_ n3_
             clear hb hbox hg
             refine hK.out _ _ ⟨((HB.out.cell (wB w _ hw709_0)).trans hw709_0), ((HB.out.cell (wB w _ hw709_1)).trans hw709_1), ((HB.out.cell (wB w _ hw710_0)).trans hw710_0), ((HB.out.cell (wB w _ hw710_1)).trans hw710_1), ((HB.out.cell (wB w _ hw711_0)).trans hw711_0), ((HB.out.cell (wB w _ hw711_1)).trans hw711_1)⟩ (fun hHeld => ?_)
             clear hK K
             refine norm_ (a' := ?_) ?_ ?_
             rotate_left
             ·show Act.put _ (some 7) _ = _
              simp only [Act.put, sI, sZ, sS, i64_w, i32_w]
              rfl
             exact norm_ (by first | (simp only [putAll, Act.put, sI, sZ, sS]; done) | (simp only [putAll, Act.put, sI, sZ, sS]; rfl)) (hJ10 (gb713) _ ⟨hHeld, (gQ BK713), GW713.out, GE713.out, (by repeat (first | (with_reducible first | exact HB.out | apply pA | apply pN | apply pD | refine pS ?_ GE713.out) | exact HB.out))⟩)
            ·skip
             refine box_step ?hg (N := 8) ?hd (cs := #[.int .i64 0, .int .i64 0]) (t := 34) ?hr ?_; (case hd => rfl); (case hg => rfl); (case hr => first | (go_simp; done) | (go_simp; rfl))
             intro gb714 hg w10 hbox hb
             have n0_ := aM (pT bQ hb)
             have n1_ := aM (hbox)
             have n2_ := aM ((by rw [hg]; exact (pZ bQ) : w.heap.size ≤ gb714))
             have n3_ := aM ((by rw [hg]; exact (pZ bQ) : w.heap.size ≤ gb714))
             clear HB
             have HB := n0_
             have BK714 := n1_
             have GW714 := n2_
             have GE714 := n3_
             clear n0_ n1_ n2_ n3_
             clear hb hbox hg
             refine hK.out _ _ ⟨((HB.out.cell (wB w _ hw709_0)).trans hw709_0), ((HB.out.cell (wB w _ hw709_1)).trans hw709_1), ((HB.out.cell (wB w _ hw710_0)).trans hw710_0), ((HB.out.cell (wB w _ hw710_1)).trans hw710_1), ((HB.out.cell (wB w _ hw711_0)).trans hw711_0), ((HB.out.cell (wB w _ hw711_1)).trans hw711_1)⟩ (fun hHeld => ?_)
             clear hK K
             refine norm_ (a' := ?_) ?_ ?_
             rotate_left
             ·show Act.put _ (some 8) _ = _
              simp only [Act.put, sI, sZ, sS, i64_w, i32_w]
              rfl
             exact norm_ (by first | (simp only [putAll, Act.put, sI, sZ, sS]; done) | (simp only [putAll, Act.put, sI, sZ, sS]; rfl)) (hJ11 (gb714) _ ⟨hHeld, (gQ BK714), GW714.out, GE714.out, (by repeat (first | (with_reducible first | exact HB.out | apply pA | apply pN | apply pD | refine pS ?_ GE714.out) | exact HB.out))⟩)
           ·skip
            rintro gb714 w11 ⟨hS_, h0_, h1_, h2_, h3_⟩
            have n0_ : Aside0 (w11.heap[gb714]? = some (.cells #[.int .i64 0, .int .i64 0] 34 (0, 0))) := ⟨h0_⟩
            have n1_ : Aside0 (w.heap.size ≤ gb714) := ⟨h1_⟩
            have n2_ : Aside0 (w.heap.size ≤ gb714) := ⟨h2_⟩
            have n3_ : Aside0 (Below w.heap.size w w11) := ⟨h3_⟩
            clear HB
            clear h0_ h1_ h2_ h3_
            have BK714 := n0_
            have GW714 := n1_
            have GE714 := n2_
            have HB := n3_
            clear n0_ n1_ n2_ n3_
            have hHeld : w11.cell? ad709 = some (.int .i64 ((rd_impl_Peg l0 0).f0)) ∧ w11.cell? ⟨ad709.block, ad709.off + 1, none⟩ = some (.int .i64 ((rd_impl_Peg l0 0).f1)) ∧ w11.cell? ⟨ad709.block, ad709.off + 2, none⟩ = some (.int .i64 ((rd_impl_Peg l0 1).f0)) ∧ w11.cell? ⟨ad709.block, ad709.off + 2 + 1, none⟩ = some (.int .i64 ((rd_impl_Peg l0 1).f1)) ∧ w11.cell? ⟨ad709.block, ad709.off + 4, none⟩ = some (.int .i64 ((rd_impl_Peg l0 2).f0)) ∧ w11.cell? ⟨ad709.block, ad709.off + 4 + 1, none⟩ = some (.int .i64 ((rd_impl_Peg l0 2).f1)) := hS_
            refine norm_ (a' := ?_) ?_ ?_
            rotate_left
            ·simp only [putAll, Act.put, sI, sZ, sS]
             rfl
            refine two_ (i := 9) (j := 10) (Ni := some 6) (Nj := some 7) #[true, true, true, true, true, true, true, true, true, true, false, true, false, false, false] #[true, true, true, true, true, true, true, true, true, false, true, true, false, false, false] rfl rfl rfl rfl (two_of HT_.out kR) (by decide) (by decide) (fun K hK => ?_) (fun K hK => ?_)
            ·skip
             refine box_step ?hg (N := 6) ?hd (cs := #[.int .i64 0, .int .i64 0]) (t := 34) ?hr ?_; (case hd => rfl); (case hg => rfl); (case hr => first | (go_simp; done) | (go_simp; rfl))
             intro gb712 hg w12 hbox hb
             have n0_ := aM (blk_below (g := gb714) (o := .cells #[.int .i64 0, .int .i64 0] 34 (0, 0)) (gQ BK714) hb)
             have n1_ := aM (pT (by repeat (first | (with_reducible first | exact HB.out | apply pA | apply pN | apply pD | refine pS ?_ GE714.out) | exact HB.out)) hb)
             have n2_ := aM (hbox)
             have n3_ := aM ((by rw [hg]; exact (pZ (by repeat (first | (with_reducible first | exact HB.out | apply pA | apply pN | apply pD | refine pS ?_ GE714.out) | exact HB.out))) : w.heap.size ≤ gb712))
             have n4_ := aM ((by rw [hg]; exact (pZ (by repeat (first | (with_reducible first | exact HB.out | apply pA | apply pN | apply pD | refine pS ?_ GE714.out) | exact HB.out))) : w.heap.size ≤ gb712))
             have n5_ := aM ((by rw [hg]; exact nN (blk_lt (g := gb714) (o := .cells #[.int .i64 0, .int .i64 0] 34 (0, 0)) (gQ BK714)) : gb714 ≠ gb712))
             have n6_ := aM ((by rw [hg]; exact Nat.ne_of_gt (blk_lt (g := gb714) (o := .cells #[.int .i64 0, .int .i64 0] 34 (0, 0)) (gQ BK714)) : gb712 ≠ gb714))
             clear BK714
             clear HB
             have BK714 := n0_
             have HB := n1_
             have BK712 := n2_
             have GW712 := n3_
             have GE712 := n4_
             have NB714_712 := n5_
             have NB712_714 := n6_
             clear n0_ n1_ n2_ n3_ n4_ n5_ n6_
             clear hb hbox hg
             refine hK.out _ _ ⟨((HB.out.cell (wB w _ hw709_0)).trans hw709_0), ((HB.out.cell (wB w _ hw709_1)).trans hw709_1), ((HB.out.cell (wB w _ hw710_0)).trans hw710_0), ((HB.out.cell (wB w _ hw710_1)).trans hw710_1), ((HB.out.cell (wB w _ hw711_0)).trans hw711_0), ((HB.out.cell (wB w _ hw711_1)).trans hw711_1)⟩ (fun hHeld => ?_)
             clear hK K
             refine norm_ (a' := ?_) ?_ ?_
             rotate_left
             ·show Act.put _ (some 6) _ = _
              simp only [Act.put, sI, sZ, sS, i64_w, i32_w]
              rfl
             exact norm_ (by first | (simp only [putAll, Act.put, sI, sZ, sS]; done) | (simp only [putAll, Act.put, sI, sZ, sS]; rfl)) (hJ9_11 (gb712, gb714) _ ⟨hHeld, (gQ BK712), (gQ BK714), GW712.out, GE712.out, NB714_712.out, NB712_714.out, GW714.out, GE714.out, (by repeat (first | (with_reducible first | exact HB.out | apply pA | apply pN | apply pD | refine pS ?_ GE714.out | refine pS ?_ GE712.out) | exact HB.out))⟩)
            ·skip
             refine box_step ?hg (N := 7) ?hd (cs := #[.int .i64 0, .int .i64 0]) (t := 34) ?hr ?_; (case hd => rfl); (case hg => rfl); (case hr => first | (go_simp; done) | (go_simp; rfl))
             intro gb713 hg w12 hbox hb
             have n0_ := aM (blk_below (g := gb714) (o := .cells #[.int .i64 0, .int .i64 0] 34 (0, 0)) (gQ BK714) hb)
             have n1_ := aM (pT (by repeat (first | (with_reducible first | exact HB.out | apply pA | apply pN | apply pD | refine pS ?_ GE714.out) | exact HB.out)) hb)
             have n2_ := aM (hbox)
             have n3_ := aM ((by rw [hg]; exact (pZ (by repeat (first | (with_reducible first | exact HB.out | apply pA | apply pN | apply pD | refine pS ?_ GE714.out) | exact HB.out))) : w.heap.size ≤ gb713))
             have n4_ := aM ((by rw [hg]; exact (pZ (by repeat (first | (with_reducible first | exact HB.out | apply pA | apply pN | apply pD | refine pS ?_ GE714.out) | exact HB.out))) : w.heap.size ≤ gb713))
             have n5_ := aM ((by rw [hg]; exact nN (blk_lt (g := gb714) (o := .cells #[.int .i64 0, .int .i64 0] 34 (0, 0)) (gQ BK714)) : gb714 ≠ gb713))
             have n6_ := aM ((by rw [hg]; exact Nat.ne_of_gt (blk_lt (g := gb714) (o := .cells #[.int .i64 0, .int .i64 0] 34 (0, 0)) (gQ BK714)) : gb713 ≠ gb714))
             clear BK714
             clear HB
             have BK714 := n0_
             have HB := n1_
             have BK713 := n2_
             have GW713 := n3_
             have GE713 := n4_
             have NB714_713 := n5_
             have NB713_714 := n6_
             clear n0_ n1_ n2_ n3_ n4_ n5_ n6_
             clear hb hbox hg
             refine hK.out _ _ ⟨((HB.out.cell (wB w _ hw709_0)).trans hw709_0), ((HB.out.cell (wB w _ hw709_1)).trans hw709_1), ((HB.out.cell (wB w _ hw710_0)).trans hw710_0), ((HB.out.cell (wB w _ hw710_1)).trans hw710_1), ((HB.out.cell (wB w _ hw711_0)).trans hw711_0), ((HB.out.cell (wB w _ hw711_1)).trans hw711_1)⟩ (fun hHeld => ?_)
             clear hK K
             refine norm_ (a' := ?_) ?_ ?_
             rotate_left
             ·show Act.put _ (some 7) _ = _
              simp only [Act.put, sI, sZ, sS, i64_w, i32_w]
              rfl
             exact norm_ (by first | (simp only [putAll, Act.put, sI, sZ, sS]; done) | (simp only [putAll, Act.put, sI, sZ, sS]; rfl)) (hJ10_11 (gb713, gb714) _ ⟨hHeld, (gQ BK713), (gQ BK714), GW713.out, GE713.out, NB714_713.out, NB713_714.out, GW714.out, GE714.out, (by repeat (first | (with_reducible first | exact HB.out | apply pA | apply pN | apply pD | refine pS ?_ GE714.out | refine pS ?_ GE713.out) | exact HB.out))⟩)
          ·skip
           rintro gb713 w11 ⟨hS_, h0_, h1_, h2_, h3_⟩
           have n0_ : Aside0 (w11.heap[gb713]? = some (.cells #[.int .i64 0, .int .i64 0] 34 (0, 0))) := ⟨h0_⟩
           have n1_ : Aside0 (w.heap.size ≤ gb713) := ⟨h1_⟩
           have n2_ : Aside0 (w.heap.size ≤ gb713) := ⟨h2_⟩
           have n3_ : Aside0 (Below w.heap.size w w11) := ⟨h3_⟩
           clear HB
           clear h0_ h1_ h2_ h3_
           have BK713 := n0_
           have GW713 := n1_
           have GE713 := n2_
           have HB := n3_
           clear n0_ n1_ n2_ n3_
           have hHeld : w11.cell? ad709 = some (.int .i64 ((rd_impl_Peg l0 0).f0)) ∧ w11.cell? ⟨ad709.block, ad709.off + 1, none⟩ = some (.int .i64 ((rd_impl_Peg l0 0).f1)) ∧ w11.cell? ⟨ad709.block, ad709.off + 2, none⟩ = some (.int .i64 ((rd_impl_Peg l0 1).f0)) ∧ w11.cell? ⟨ad709.block, ad709.off + 2 + 1, none⟩ = some (.int .i64 ((rd_impl_Peg l0 1).f1)) ∧ w11.cell? ⟨ad709.block, ad709.off + 4, none⟩ = some (.int .i64 ((rd_impl_Peg l0 2).f0)) ∧ w11.cell? ⟨ad709.block, ad709.off + 4 + 1, none⟩ = some (.int .i64 ((rd_impl_Peg l0 2).f1)) := hS_
           refine norm_ (a' := ?_) ?_ ?_
           rotate_left
           ·simp only [putAll, Act.put, sI, sZ, sS]
            rfl
           refine two_ (i := 9) (j := 11) (Ni := some 6) (Nj := some 8) #[true, true, true, true, true, true, true, true, true, true, true, false, false, false, false] #[true, true, true, true, true, true, true, true, true, false, true, true, false, false, false] rfl rfl rfl rfl (two_of HT_.out kR) (by decide) (by decide) (fun K hK => ?_) (fun K hK => ?_)
           ·skip
            refine box_step ?hg (N := 6) ?hd (cs := #[.int .i64 0, .int .i64 0]) (t := 34) ?hr ?_; (case hd => rfl); (case hg => rfl); (case hr => first | (go_simp; done) | (go_simp; rfl))
            intro gb712 hg w12 hbox hb
            have n0_ := aM (blk_below (g := gb713) (o := .cells #[.int .i64 0, .int .i64 0] 34 (0, 0)) (gQ BK713) hb)
            have n1_ := aM (pT (by repeat (first | (with_reducible first | exact HB.out | apply pA | apply pN | apply pD | refine pS ?_ GE713.out) | exact HB.out)) hb)
            have n2_ := aM (hbox)
            have n3_ := aM ((by rw [hg]; exact (pZ (by repeat (first | (with_reducible first | exact HB.out | apply pA | apply pN | apply pD | refine pS ?_ GE713.out) | exact HB.out))) : w.heap.size ≤ gb712))
            have n4_ := aM ((by rw [hg]; exact (pZ (by repeat (first | (with_reducible first | exact HB.out | apply pA | apply pN | apply pD | refine pS ?_ GE713.out) | exact HB.out))) : w.heap.size ≤ gb712))
            have n5_ := aM ((by rw [hg]; exact nN (blk_lt (g := gb713) (o := .cells #[.int .i64 0, .int .i64 0] 34 (0, 0)) (gQ BK713)) : gb713 ≠ gb712))
            have n6_ := aM ((by rw [hg]; exact Nat.ne_of_gt (blk_lt (g := gb713) (o := .cells #[.int .i64 0, .int .i64 0] 34 (0, 0)) (gQ BK713)) : gb712 ≠ gb713))
            clear BK713
            clear HB
            have BK713 := n0_
            have HB := n1_
            have BK712 := n2_
            have GW712 := n3_
            have GE712 := n4_
            have NB713_712 := n5_
            have NB712_713 := n6_
            clear n0_ n1_ n2_ n3_ n4_ n5_ n6_
            clear hb hbox hg
            refine hK.out _ _ ⟨((HB.out.cell (wB w _ hw709_0)).trans hw709_0), ((HB.out.cell (wB w _ hw709_1)).trans hw709_1), ((HB.out.cell (wB w _ hw710_0)).trans hw710_0), ((HB.out.cell (wB w _ hw710_1)).trans hw710_1), ((HB.out.cell (wB w _ hw711_0)).trans hw711_0), ((HB.out.cell (wB w _ hw711_1)).trans hw711_1)⟩ (fun hHeld => ?_)
            clear hK K
            refine norm_ (a' := ?_) ?_ ?_
            rotate_left
            ·show Act.put _ (some 6) _ = _
             simp only [Act.put, sI, sZ, sS, i64_w, i32_w]
             rfl
            exact norm_ (by first | (simp only [putAll, Act.put, sI, sZ, sS]; done) | (simp only [putAll, Act.put, sI, sZ, sS]; rfl)) (hJ9_10 (gb712, gb713) _ ⟨hHeld, (gQ BK712), (gQ BK713), GW712.out, GE712.out, NB713_712.out, NB712_713.out, GW713.out, GE713.out, (by repeat (first | (with_reducible first | exact HB.out | apply pA | apply pN | apply pD | refine pS ?_ GE713.out | refine pS ?_ GE712.out) | exact HB.out))⟩)
           ·skip
            refine box_step ?hg (N := 8) ?hd (cs := #[.int .i64 0, .int .i64 0]) (t := 34) ?hr ?_; (case hd => rfl); (case hg => rfl); (case hr => first | (go_simp; done) | (go_simp; rfl))
            intro gb714 hg w12 hbox hb
            have n0_ := aM (blk_below (g := gb713) (o := .cells #[.int .i64 0, .int .i64 0] 34 (0, 0)) (gQ BK713) hb)
            have n1_ := aM (pT (by repeat (first | (with_reducible first | exact HB.out | apply pA | apply pN | apply pD | refine pS ?_ GE713.out) | exact HB.out)) hb)
            have n2_ := aM (hbox)
            have n3_ := aM ((by rw [hg]; exact (pZ (by repeat (first | (with_reducible first | exact HB.out | apply pA | apply pN | apply pD | refine pS ?_ GE713.out) | exact HB.out))) : w.heap.size ≤ gb714))
            have n4_ := aM ((by rw [hg]; exact (pZ (by repeat (first | (with_reducible first | exact HB.out | apply pA | apply pN | apply pD | refine pS ?_ GE713.out) | exact HB.out))) : w.heap.size ≤ gb714))
            have n5_ := aM ((by rw [hg]; exact nN (blk_lt (g := gb713) (o := .cells #[.int .i64 0, .int .i64 0] 34 (0, 0)) (gQ BK713)) : gb713 ≠ gb714))
            have n6_ := aM ((by rw [hg]; exact Nat.ne_of_gt (blk_lt (g := gb713) (o := .cells #[.int .i64 0, .int .i64 0] 34 (0, 0)) (gQ BK713)) : gb714 ≠ gb713))
            clear BK713
            clear HB
            have BK713 := n0_
            have HB := n1_
            have BK714 := n2_
            have GW714 := n3_
            have GE714 := n4_
            have NB713_714 := n5_
            have NB714_713 := n6_
            clear n0_ n1_ n2_ n3_ n4_ n5_ n6_
            clear hb hbox hg
            refine hK.out _ _ ⟨((HB.out.cell (wB w _ hw709_0)).trans hw709_0), ((HB.out.cell (wB w _ hw709_1)).trans hw709_1), ((HB.out.cell (wB w _ hw710_0)).trans hw710_0), ((HB.out.cell (wB w _ hw710_1)).trans hw710_1), ((HB.out.cell (wB w _ hw711_0)).trans hw711_0), ((HB.out.cell (wB w _ hw711_1)).trans hw711_1)⟩ (fun hHeld => ?_)
            clear hK K
            refine norm_ (a' := ?_) ?_ ?_
            rotate_left
            ·show Act.put _ (some 8) _ = _
             simp only [Act.put, sI, sZ, sS, i64_w, i32_w]
             rfl
            exact norm_ (by first | (simp only [putAll, Act.put, sI, sZ, sS]; done) | (simp only [putAll, Act.put, sI, sZ, sS]; rfl)) (hJ10_11 (gb713, gb714) _ ⟨hHeld, (gQ BK713), (gQ BK714), GW713.out, GE713.out, NB714_713.out, NB713_714.out, GW714.out, GE714.out, (by repeat (first | (with_reducible first | exact HB.out | apply pA | apply pN | apply pD | refine pS ?_ GE713.out | refine pS ?_ GE714.out) | exact HB.out))⟩)
         ·skip
          rintro gb712 w11 ⟨hS_, h0_, h1_, h2_, h3_⟩
          have n0_ : Aside0 (w11.heap[gb712]? = some (.cells #[.int .i64 0, .int .i64 0] 34 (0, 0))) := ⟨h0_⟩
          have n1_ : Aside0 (w.heap.size ≤ gb712) := ⟨h1_⟩
          have n2_ : Aside0 (w.heap.size ≤ gb712) := ⟨h2_⟩
          have n3_ : Aside0 (Below w.heap.size w w11) := ⟨h3_⟩
          clear HB
          clear h0_ h1_ h2_ h3_
          have BK712 := n0_
          have GW712 := n1_
          have GE712 := n2_
          have HB := n3_
          clear n0_ n1_ n2_ n3_
          have hHeld : w11.cell? ad709 = some (.int .i64 ((rd_impl_Peg l0 0).f0)) ∧ w11.cell? ⟨ad709.block, ad709.off + 1, none⟩ = some (.int .i64 ((rd_impl_Peg l0 0).f1)) ∧ w11.cell? ⟨ad709.block, ad709.off + 2, none⟩ = some (.int .i64 ((rd_impl_Peg l0 1).f0)) ∧ w11.cell? ⟨ad709.block, ad709.off + 2 + 1, none⟩ = some (.int .i64 ((rd_impl_Peg l0 1).f1)) ∧ w11.cell? ⟨ad709.block, ad709.off + 4, none⟩ = some (.int .i64 ((rd_impl_Peg l0 2).f0)) ∧ w11.cell? ⟨ad709.block, ad709.off + 4 + 1, none⟩ = some (.int .i64 ((rd_impl_Peg l0 2).f1)) := hS_
          refine norm_ (a' := ?_) ?_ ?_
          rotate_left
          ·simp only [putAll, Act.put, sI, sZ, sS]
           rfl
          refine two_ (i := 10) (j := 11) (Ni := some 7) (Nj := some 8) #[true, true, true, true, true, true, true, true, true, true, true, false, false, false, false] #[true, true, true, true, true, true, true, true, true, true, false, true, false, false, false] rfl rfl rfl rfl (two_of HT_.out kR) (by decide) (by decide) (fun K hK => ?_) (fun K hK => ?_)
          ·skip
           refine box_step ?hg (N := 7) ?hd (cs := #[.int .i64 0, .int .i64 0]) (t := 34) ?hr ?_; (case hd => rfl); (case hg => rfl); (case hr => first | (go_simp; done) | (go_simp; rfl))
           intro gb713 hg w12 hbox hb
           have n0_ := aM (blk_below (g := gb712) (o := .cells #[.int .i64 0, .int .i64 0] 34 (0, 0)) (gQ BK712) hb)
           have n1_ := aM (pT (by repeat (first | (with_reducible first | exact HB.out | apply pA | apply pN | apply pD | refine pS ?_ GE712.out) | exact HB.out)) hb)
           have n2_ := aM (hbox)
           have n3_ := aM ((by rw [hg]; exact (pZ (by repeat (first | (with_reducible first | exact HB.out | apply pA | apply pN | apply pD | refine pS ?_ GE712.out) | exact HB.out))) : w.heap.size ≤ gb713))
           have n4_ := aM ((by rw [hg]; exact (pZ (by repeat (first | (with_reducible first | exact HB.out | apply pA | apply pN | apply pD | refine pS ?_ GE712.out) | exact HB.out))) : w.heap.size ≤ gb713))
           have n5_ := aM ((by rw [hg]; exact nN (blk_lt (g := gb712) (o := .cells #[.int .i64 0, .int .i64 0] 34 (0, 0)) (gQ BK712)) : gb712 ≠ gb713))
           have n6_ := aM ((by rw [hg]; exact Nat.ne_of_gt (blk_lt (g := gb712) (o := .cells #[.int .i64 0, .int .i64 0] 34 (0, 0)) (gQ BK712)) : gb713 ≠ gb712))
           clear BK712
           clear HB
           have BK712 := n0_
           have HB := n1_
           have BK713 := n2_
           have GW713 := n3_
           have GE713 := n4_
           have NB712_713 := n5_
           have NB713_712 := n6_
           clear n0_ n1_ n2_ n3_ n4_ n5_ n6_
           clear hb hbox hg
           refine hK.out _ _ ⟨((HB.out.cell (wB w _ hw709_0)).trans hw709_0), ((HB.out.cell (wB w _ hw709_1)).trans hw709_1), ((HB.out.cell (wB w _ hw710_0)).trans hw710_0), ((HB.out.cell (wB w _ hw710_1)).trans hw710_1), ((HB.out.cell (wB w _ hw711_0)).trans hw711_0), ((HB.out.cell (wB w _ hw711_1)).trans hw711_1)⟩ (fun hHeld => ?_)
           clear hK K
           refine norm_ (a' := ?_) ?_ ?_
           rotate_left
           ·show Act.put _ (some 7) _ = _
            simp only [Act.put, sI, sZ, sS, i64_w, i32_w]
            rfl
           exact norm_ (by first | (simp only [putAll, Act.put, sI, sZ, sS]; done) | (simp only [putAll, Act.put, sI, sZ, sS]; rfl)) (hJ9_10 (gb712, gb713) _ ⟨hHeld, (gQ BK712), (gQ BK713), GW712.out, GE712.out, NB713_712.out, NB712_713.out, GW713.out, GE713.out, (by repeat (first | (with_reducible first | exact HB.out | apply pA | apply pN | apply pD | refine pS ?_ GE712.out | refine pS ?_ GE713.out) | exact HB.out))⟩)
          ·skip
           refine box_step ?hg (N := 8) ?hd (cs := #[.int .i64 0, .int .i64 0]) (t := 34) ?hr ?_; (case hd => rfl); (case hg => rfl); (case hr => first | (go_simp; done) | (go_simp; rfl))
           intro gb714 hg w12 hbox hb
           have n0_ := aM (blk_below (g := gb712) (o := .cells #[.int .i64 0, .int .i64 0] 34 (0, 0)) (gQ BK712) hb)
           have n1_ := aM (pT (by repeat (first | (with_reducible first | exact HB.out | apply pA | apply pN | apply pD | refine pS ?_ GE712.out) | exact HB.out)) hb)
           have n2_ := aM (hbox)
           have n3_ := aM ((by rw [hg]; exact (pZ (by repeat (first | (with_reducible first | exact HB.out | apply pA | apply pN | apply pD | refine pS ?_ GE712.out) | exact HB.out))) : w.heap.size ≤ gb714))
           have n4_ := aM ((by rw [hg]; exact (pZ (by repeat (first | (with_reducible first | exact HB.out | apply pA | apply pN | apply pD | refine pS ?_ GE712.out) | exact HB.out))) : w.heap.size ≤ gb714))
           have n5_ := aM ((by rw [hg]; exact nN (blk_lt (g := gb712) (o := .cells #[.int .i64 0, .int .i64 0] 34 (0, 0)) (gQ BK712)) : gb712 ≠ gb714))
           have n6_ := aM ((by rw [hg]; exact Nat.ne_of_gt (blk_lt (g := gb712) (o := .cells #[.int .i64 0, .int .i64 0] 34 (0, 0)) (gQ BK712)) : gb714 ≠ gb712))
           clear BK712
           clear HB
           have BK712 := n0_
           have HB := n1_
           have BK714 := n2_
           have GW714 := n3_
           have GE714 := n4_
           have NB712_714 := n5_
           have NB714_712 := n6_
           clear n0_ n1_ n2_ n3_ n4_ n5_ n6_
           clear hb hbox hg
           refine hK.out _ _ ⟨((HB.out.cell (wB w _ hw709_0)).trans hw709_0), ((HB.out.cell (wB w _ hw709_1)).trans hw709_1), ((HB.out.cell (wB w _ hw710_0)).trans hw710_0), ((HB.out.cell (wB w _ hw710_1)).trans hw710_1), ((HB.out.cell (wB w _ hw711_0)).trans hw711_0), ((HB.out.cell (wB w _ hw711_1)).trans hw711_1)⟩ (fun hHeld => ?_)
           clear hK K
           refine norm_ (a' := ?_) ?_ ?_
           rotate_left
           ·show Act.put _ (some 8) _ = _
            simp only [Act.put, sI, sZ, sS, i64_w, i32_w]
            rfl
           exact norm_ (by first | (simp only [putAll, Act.put, sI, sZ, sS]; done) | (simp only [putAll, Act.put, sI, sZ, sS]; rfl)) (hJ9_11 (gb712, gb714) _ ⟨hHeld, (gQ BK712), (gQ BK714), GW712.out, GE712.out, NB714_712.out, NB712_714.out, GW714.out, GE714.out, (by repeat (first | (with_reducible first | exact HB.out | apply pA | apply pN | apply pD | refine pS ?_ GE712.out | refine pS ?_ GE714.out) | exact HB.out))⟩)
        ·skip
         rintro ⟨gb713, gb714⟩ w12 ⟨hS_, h0_, h1_, h2_, h3_, h4_, h5_, h6_, h7_, h8_⟩
         have n0_ : Aside0 (w12.heap[gb713]? = some (.cells #[.int .i64 0, .int .i64 0] 34 (0, 0))) := ⟨h0_⟩
         have n1_ : Aside0 (w12.heap[gb714]? = some (.cells #[.int .i64 0, .int .i64 0] 34 (0, 0))) := ⟨h1_⟩
         have n2_ : Aside0 (w.heap.size ≤ gb713) := ⟨h2_⟩
         have n3_ : Aside0 (w.heap.size ≤ gb713) := ⟨h3_⟩
         have n4_ : Aside0 (gb714 ≠ gb713) := ⟨h4_⟩
         have n5_ : Aside0 (gb713 ≠ gb714) := ⟨h5_⟩
         have n6_ : Aside0 (w.heap.size ≤ gb714) := ⟨h6_⟩
         have n7_ : Aside0 (w.heap.size ≤ gb714) := ⟨h7_⟩
         have n8_ : Aside0 (Below w.heap.size w w12) := ⟨h8_⟩
         clear HB
         clear h0_ h1_ h2_ h3_ h4_ h5_ h6_ h7_ h8_
         have BK713 := n0_
         have BK714 := n1_
         have GW713 := n2_
         have GE713 := n3_
         have NB714_713 := n4_
         have NB713_714 := n5_
         have GW714 := n6_
         have GE714 := n7_
         have HB := n8_
         clear n0_ n1_ n2_ n3_ n4_ n5_ n6_ n7_ n8_
         have hHeld : w12.cell? ad709 = some (.int .i64 ((rd_impl_Peg l0 0).f0)) ∧ w12.cell? ⟨ad709.block, ad709.off + 1, none⟩ = some (.int .i64 ((rd_impl_Peg l0 0).f1)) ∧ w12.cell? ⟨ad709.block, ad709.off + 2, none⟩ = some (.int .i64 ((rd_impl_Peg l0 1).f0)) ∧ w12.cell? ⟨ad709.block, ad709.off + 2 + 1, none⟩ = some (.int .i64 ((rd_impl_Peg l0 1).f1)) ∧ w12.cell? ⟨ad709.block, ad709.off + 4, none⟩ = some (.int .i64 ((rd_impl_Peg l0 2).f0)) ∧ w12.cell? ⟨ad709.block, ad709.off + 4 + 1, none⟩ = some (.int .i64 ((rd_impl_Peg l0 2).f1)) := hS_
         refine norm_ (a' := ?_) ?_ ?_
         rotate_left
         ·simp only [putAll, Act.put, sI, sZ, sS]
          rfl
         refine one_ (i := 9) (N := some 6) #[true, true, true, true, true, true, true, true, true, true, true, true, false, false, false] rfl rfl (one_of HT_.out kR) (by decide) (fun K hK => ?_)
         refine box_step ?hg (N := 6) ?hd (cs := #[.int .i64 0, .int .i64 0]) (t := 34) ?hr ?_; (case hd => rfl); (case hg => rfl); (case hr => first | (go_simp; done) | (go_simp; rfl))
         intro gb712 hg w13 hbox hb
         have n0_ := aM (blk_below (g := gb713) (o := .cells #[.int .i64 0, .int .i64 0] 34 (0, 0)) (gQ BK713) hb)
         have n1_ := aM (blk_below (g := gb714) (o := .cells #[.int .i64 0, .int .i64 0] 34 (0, 0)) (gQ BK714) hb)
         have n2_ := aM (pT (by repeat (first | (with_reducible first | exact HB.out | apply pA | apply pN | apply pD | refine pS ?_ GE713.out | refine pS ?_ GE714.out) | exact HB.out)) hb)
         have n3_ := aM (hbox)
         have n4_ := aM ((by rw [hg]; exact (pZ (by repeat (first | (with_reducible first | exact HB.out | apply pA | apply pN | apply pD | refine pS ?_ GE713.out | refine pS ?_ GE714.out) | exact HB.out))) : w.heap.size ≤ gb712))
         have n5_ := aM ((by rw [hg]; exact (pZ (by repeat (first | (with_reducible first | exact HB.out | apply pA | apply pN | apply pD | refine pS ?_ GE713.out | refine pS ?_ GE714.out) | exact HB.out))) : w.heap.size ≤ gb712))
         have n6_ := aM ((by rw [hg]; exact nN (blk_lt (g := gb713) (o := .cells #[.int .i64 0, .int .i64 0] 34 (0, 0)) (gQ BK713)) : gb713 ≠ gb712))
         have n7_ := aM ((by rw [hg]; exact Nat.ne_of_gt (blk_lt (g := gb713) (o := .cells #[.int .i64 0, .int .i64 0] 34 (0, 0)) (gQ BK713)) : gb712 ≠ gb713))
         have n8_ := aM ((by rw [hg]; exact nN (blk_lt (g := gb714) (o := .cells #[.int .i64 0, .int .i64 0] 34 (0, 0)) (gQ BK714)) : gb714 ≠ gb712))
         have n9_ := aM ((by rw [hg]; exact Nat.ne_of_gt (blk_lt (g := gb714) (o := .cells #[.int .i64 0, .int .i64 0] 34 (0, 0)) (gQ BK714)) : gb712 ≠ gb714))
         clear BK713
         clear BK714
         clear HB
         have BK713 := n0_
         have BK714 := n1_
         have HB := n2_
         have BK712 := n3_
         have GW712 := n4_
         have GE712 := n5_
         have NB713_712 := n6_
         have NB712_713 := n7_
         have NB714_712 := n8_
         have NB712_714 := n9_
         clear n0_ n1_ n2_ n3_ n4_ n5_ n6_ n7_ n8_ n9_
         clear hb hbox hg
         refine hK.out _ _ ⟨((HB.out.cell (wB w _ hw709_0)).trans hw709_0), ((HB.out.cell (wB w _ hw709_1)).trans hw709_1), ((HB.out.cell (wB w _ hw710_0)).trans hw710_0), ((HB.out.cell (wB w _ hw710_1)).trans hw710_1), ((HB.out.cell (wB w _ hw711_0)).trans hw711_0), ((HB.out.cell (wB w _ hw711_1)).trans hw711_1)⟩ (fun hHeld => ?_)
         clear hK K
         refine norm_ (a' := ?_) ?_ ?_
         rotate_left
         ·show Act.put _ (some 6) _ = _
          simp only [Act.put, sI, sZ, sS, i64_w, i32_w]
          rfl
         exact norm_ (by first | (simp only [putAll, Act.put, sI, sZ, sS]; done) | (simp only [putAll, Act.put, sI, sZ, sS]; rfl)) (hJ9_10_11 (gb712, gb713, gb714) _ ⟨hHeld, (gQ BK712), (gQ BK713), (gQ BK714), GW712.out, GE712.out, NB713_712.out, NB712_713.out, NB714_712.out, NB712_714.out, GW713.out, GE713.out, NB714_713.out, NB713_714.out, GW714.out, GE714.out, (by repeat (first | (with_reducible first | exact HB.out | apply pA | apply pN | apply pD | refine pS ?_ GE713.out | refine pS ?_ GE714.out | refine pS ?_ GE712.out) | exact HB.out))⟩)
       ·skip
        rintro ⟨gb712, gb714⟩ w12 ⟨hS_, h0_, h1_, h2_, h3_, h4_, h5_, h6_, h7_, h8_⟩
        have n0_ : Aside0 (w12.heap[gb712]? = some (.cells #[.int .i64 0, .int .i64 0] 34 (0, 0))) := ⟨h0_⟩
        have n1_ : Aside0 (w12.heap[gb714]? = some (.cells #[.int .i64 0, .int .i64 0] 34 (0, 0))) := ⟨h1_⟩
        have n2_ : Aside0 (w.heap.size ≤ gb712) := ⟨h2_⟩
        have n3_ : Aside0 (w.heap.size ≤ gb712) := ⟨h3_⟩
        have n4_ : Aside0 (gb714 ≠ gb712) := ⟨h4_⟩
        have n5_ : Aside0 (gb712 ≠ gb714) := ⟨h5_⟩
        have n6_ : Aside0 (w.heap.size ≤ gb714) := ⟨h6_⟩
        have n7_ : Aside0 (w.heap.size ≤ gb714) := ⟨h7_⟩
        have n8_ : Aside0 (Below w.heap.size w w12) := ⟨h8_⟩
        clear HB
        clear h0_ h1_ h2_ h3_ h4_ h5_ h6_ h7_ h8_
        have BK712 := n0_
        have BK714 := n1_
        have GW712 := n2_
        have GE712 := n3_
        have NB714_712 := n4_
        have NB712_714 := n5_
        have GW714 := n6_
        have GE714 := n7_
        have HB := n8_
        clear n0_ n1_ n2_ n3_ n4_ n5_ n6_ n7_ n8_
        have hHeld : w12.cell? ad709 = some (.int .i64 ((rd_impl_Peg l0 0).f0)) ∧ w12.cell? ⟨ad709.block, ad709.off + 1, none⟩ = some (.int .i64 ((rd_impl_Peg l0 0).f1)) ∧ w12.cell? ⟨ad709.block, ad709.off + 2, none⟩ = some (.int .i64 ((rd_impl_Peg l0 1).f0)) ∧ w12.cell? ⟨ad709.block, ad709.off + 2 + 1, none⟩ = some (.int .i64 ((rd_impl_Peg l0 1).f1)) ∧ w12.cell? ⟨ad709.block, ad709.off + 4, none⟩ = some (.int .i64 ((rd_impl_Peg l0 2).f0)) ∧ w12.cell? ⟨ad709.block, ad709.off + 4 + 1, none⟩ = some (.int .i64 ((rd_impl_Peg l0 2).f1)) := hS_
        refine norm_ (a' := ?_) ?_ ?_
        rotate_left
        ·simp only [putAll, Act.put, sI, sZ, sS]
         rfl
        refine one_ (i := 10) (N := some 7) #[true, true, true, true, true, true, true, true, true, true, true, true, false, false, false] rfl rfl (one_of HT_.out kR) (by decide) (fun K hK => ?_)
        refine box_step ?hg (N := 7) ?hd (cs := #[.int .i64 0, .int .i64 0]) (t := 34) ?hr ?_; (case hd => rfl); (case hg => rfl); (case hr => first | (go_simp; done) | (go_simp; rfl))
        intro gb713 hg w13 hbox hb
        have n0_ := aM (blk_below (g := gb712) (o := .cells #[.int .i64 0, .int .i64 0] 34 (0, 0)) (gQ BK712) hb)
        have n1_ := aM (blk_below (g := gb714) (o := .cells #[.int .i64 0, .int .i64 0] 34 (0, 0)) (gQ BK714) hb)
        have n2_ := aM (pT (by repeat (first | (with_reducible first | exact HB.out | apply pA | apply pN | apply pD | refine pS ?_ GE712.out | refine pS ?_ GE714.out) | exact HB.out)) hb)
        have n3_ := aM (hbox)
        have n4_ := aM ((by rw [hg]; exact (pZ (by repeat (first | (with_reducible first | exact HB.out | apply pA | apply pN | apply pD | refine pS ?_ GE712.out | refine pS ?_ GE714.out) | exact HB.out))) : w.heap.size ≤ gb713))
        have n5_ := aM ((by rw [hg]; exact (pZ (by repeat (first | (with_reducible first | exact HB.out | apply pA | apply pN | apply pD | refine pS ?_ GE712.out | refine pS ?_ GE714.out) | exact HB.out))) : w.heap.size ≤ gb713))
        have n6_ := aM ((by rw [hg]; exact nN (blk_lt (g := gb712) (o := .cells #[.int .i64 0, .int .i64 0] 34 (0, 0)) (gQ BK712)) : gb712 ≠ gb713))
        have n7_ := aM ((by rw [hg]; exact Nat.ne_of_gt (blk_lt (g := gb712) (o := .cells #[.int .i64 0, .int .i64 0] 34 (0, 0)) (gQ BK712)) : gb713 ≠ gb712))
        have n8_ := aM ((by rw [hg]; exact nN (blk_lt (g := gb714) (o := .cells #[.int .i64 0, .int .i64 0] 34 (0, 0)) (gQ BK714)) : gb714 ≠ gb713))
        have n9_ := aM ((by rw [hg]; exact Nat.ne_of_gt (blk_lt (g := gb714) (o := .cells #[.int .i64 0, .int .i64 0] 34 (0, 0)) (gQ BK714)) : gb713 ≠ gb714))
        clear BK712
        clear BK714
        clear HB
        have BK712 := n0_
        have BK714 := n1_
        have HB := n2_
        have BK713 := n3_
        have GW713 := n4_
        have GE713 := n5_
        have NB712_713 := n6_
        have NB713_712 := n7_
        have NB714_713 := n8_
        have NB713_714 := n9_
        clear n0_ n1_ n2_ n3_ n4_ n5_ n6_ n7_ n8_ n9_
        clear hb hbox hg
        refine hK.out _ _ ⟨((HB.out.cell (wB w _ hw709_0)).trans hw709_0), ((HB.out.cell (wB w _ hw709_1)).trans hw709_1), ((HB.out.cell (wB w _ hw710_0)).trans hw710_0), ((HB.out.cell (wB w _ hw710_1)).trans hw710_1), ((HB.out.cell (wB w _ hw711_0)).trans hw711_0), ((HB.out.cell (wB w _ hw711_1)).trans hw711_1)⟩ (fun hHeld => ?_)
        clear hK K
        refine norm_ (a' := ?_) ?_ ?_
        rotate_left
        ·show Act.put _ (some 7) _ = _
         simp only [Act.put, sI, sZ, sS, i64_w, i32_w]
         rfl
        exact norm_ (by first | (simp only [putAll, Act.put, sI, sZ, sS]; done) | (simp only [putAll, Act.put, sI, sZ, sS]; rfl)) (hJ9_10_11 (gb712, gb713, gb714) _ ⟨hHeld, (gQ BK712), (gQ BK713), (gQ BK714), GW712.out, GE712.out, NB713_712.out, NB712_713.out, NB714_712.out, NB712_714.out, GW713.out, GE713.out, NB714_713.out, NB713_714.out, GW714.out, GE714.out, (by repeat (first | (with_reducible first | exact HB.out | apply pA | apply pN | apply pD | refine pS ?_ GE712.out | refine pS ?_ GE714.out | refine pS ?_ GE713.out) | exact HB.out))⟩)
      ·skip
       rintro ⟨gb712, gb713⟩ w12 ⟨hS_, h0_, h1_, h2_, h3_, h4_, h5_, h6_, h7_, h8_⟩
       have n0_ : Aside0 (w12.heap[gb712]? = some (.cells #[.int .i64 0, .int .i64 0] 34 (0, 0))) := ⟨h0_⟩
       have n1_ : Aside0 (w12.heap[gb713]? = some (.cells #[.int .i64 0, .int .i64 0] 34 (0, 0))) := ⟨h1_⟩
       have n2_ : Aside0 (w.heap.size ≤ gb712) := ⟨h2_⟩
       have n3_ : Aside0 (w.heap.size ≤ gb712) := ⟨h3_⟩
       have n4_ : Aside0 (gb713 ≠ gb712) := ⟨h4_⟩
       have n5_ : Aside0 (gb712 ≠ gb713) := ⟨h5_⟩
       have n6_ : Aside0 (w.heap.size ≤ gb713) := ⟨h6_⟩
       have n7_ : Aside0 (w.heap.size ≤ gb713) := ⟨h7_⟩
       have n8_ : Aside0 (Below w.heap.size w w12) := ⟨h8_⟩
       clear HB
       clear h0_ h1_ h2_ h3_ h4_ h5_ h6_ h7_ h8_
       have BK712 := n0_
       have BK713 := n1_
       have GW712 := n2_
       have GE712 := n3_
       have NB713_712 := n4_
       have NB712_713 := n5_
       have GW713 := n6_
       have GE713 := n7_
       have HB := n8_
       clear n0_ n1_ n2_ n3_ n4_ n5_ n6_ n7_ n8_
       have hHeld : w12.cell? ad709 = some (.int .i64 ((rd_impl_Peg l0 0).f0)) ∧ w12.cell? ⟨ad709.block, ad709.off + 1, none⟩ = some (.int .i64 ((rd_impl_Peg l0 0).f1)) ∧ w12.cell? ⟨ad709.block, ad709.off + 2, none⟩ = some (.int .i64 ((rd_impl_Peg l0 1).f0)) ∧ w12.cell? ⟨ad709.block, ad709.off + 2 + 1, none⟩ = some (.int .i64 ((rd_impl_Peg l0 1).f1)) ∧ w12.cell? ⟨ad709.block, ad709.off + 4, none⟩ = some (.int .i64 ((rd_impl_Peg l0 2).f0)) ∧ w12.cell? ⟨ad709.block, ad709.off + 4 + 1, none⟩ = some (.int .i64 ((rd_impl_Peg l0 2).f1)) := hS_
       refine norm_ (a' := ?_) ?_ ?_
       rotate_left
       ·simp only [putAll, Act.put, sI, sZ, sS]
        rfl
       refine one_ (i := 11) (N := some 8) #[true, true, true, true, true, true, true, true, true, true, true, true, false, false, false] rfl rfl (one_of HT_.out kR) (by decide) (fun K hK => ?_)
       refine box_step ?hg (N := 8) ?hd (cs := #[.int .i64 0, .int .i64 0]) (t := 34) ?hr ?_; (case hd => rfl); (case hg => rfl); (case hr => first | (go_simp; done) | (go_simp; rfl))
       intro gb714 hg w13 hbox hb
       have n0_ := aM (blk_below (g := gb712) (o := .cells #[.int .i64 0, .int .i64 0] 34 (0, 0)) (gQ BK712) hb)
       have n1_ := aM (blk_below (g := gb713) (o := .cells #[.int .i64 0, .int .i64 0] 34 (0, 0)) (gQ BK713) hb)
       have n2_ := aM (pT (by repeat (first | (with_reducible first | exact HB.out | apply pA | apply pN | apply pD | refine pS ?_ GE712.out | refine pS ?_ GE713.out) | exact HB.out)) hb)
       have n3_ := aM (hbox)
       have n4_ := aM ((by rw [hg]; exact (pZ (by repeat (first | (with_reducible first | exact HB.out | apply pA | apply pN | apply pD | refine pS ?_ GE712.out | refine pS ?_ GE713.out) | exact HB.out))) : w.heap.size ≤ gb714))
       have n5_ := aM ((by rw [hg]; exact (pZ (by repeat (first | (with_reducible first | exact HB.out | apply pA | apply pN | apply pD | refine pS ?_ GE712.out | refine pS ?_ GE713.out) | exact HB.out))) : w.heap.size ≤ gb714))
       have n6_ := aM ((by rw [hg]; exact nN (blk_lt (g := gb712) (o := .cells #[.int .i64 0, .int .i64 0] 34 (0, 0)) (gQ BK712)) : gb712 ≠ gb714))
       have n7_ := aM ((by rw [hg]; exact Nat.ne_of_gt (blk_lt (g := gb712) (o := .cells #[.int .i64 0, .int .i64 0] 34 (0, 0)) (gQ BK712)) : gb714 ≠ gb712))
       have n8_ := aM ((by rw [hg]; exact nN (blk_lt (g := gb713) (o := .cells #[.int .i64 0, .int .i64 0] 34 (0, 0)) (gQ BK713)) : gb713 ≠ gb714))
       have n9_ := aM ((by rw [hg]; exact Nat.ne_of_gt (blk_lt (g := gb713) (o := .cells #[.int .i64 0, .int .i64 0] 34 (0, 0)) (gQ BK713)) : gb714 ≠ gb713))
       clear BK712
       clear BK713
       clear HB
       have BK712 := n0_
       have BK713 := n1_
       have HB := n2_
       have BK714 := n3_
       have GW714 := n4_
       have GE714 := n5_
       have NB712_714 := n6_
       have NB714_712 := n7_
       have NB713_714 := n8_
       have NB714_713 := n9_
       clear n0_ n1_ n2_ n3_ n4_ n5_ n6_ n7_ n8_ n9_
       clear hb hbox hg
       refine hK.out _ _ ⟨((HB.out.cell (wB w _ hw709_0)).trans hw709_0), ((HB.out.cell (wB w _ hw709_1)).trans hw709_1), ((HB.out.cell (wB w _ hw710_0)).trans hw710_0), ((HB.out.cell (wB w _ hw710_1)).trans hw710_1), ((HB.out.cell (wB w _ hw711_0)).trans hw711_0), ((HB.out.cell (wB w _ hw711_1)).trans hw711_1)⟩ (fun hHeld => ?_)
       clear hK K
       refine norm_ (a' := ?_) ?_ ?_
       rotate_left
       ·show Act.put _ (some 8) _ = _
        simp only [Act.put, sI, sZ, sS, i64_w, i32_w]
        rfl
       exact norm_ (by first | (simp only [putAll, Act.put, sI, sZ, sS]; done) | (simp only [putAll, Act.put, sI, sZ, sS]; rfl)) (hJ9_10_11 (gb712, gb713, gb714) _ ⟨hHeld, (gQ BK712), (gQ BK713), (gQ BK714), GW712.out, GE712.out, NB713_712.out, NB712_713.out, NB714_712.out, NB712_714.out, GW713.out, GE713.out, NB714_713.out, NB713_714.out, GW714.out, GE714.out, (by repeat (first | (with_reducible first | exact HB.out | apply pA | apply pN | apply pD | refine pS ?_ GE712.out | refine pS ?_ GE713.out | refine pS ?_ GE714.out) | exact HB.out))⟩)
     rintro ⟨gb712, gb713, gb714⟩ w13 ⟨hS_, h0_, h1_, h2_, h3_, h4_, h5_, h6_, h7_, h8_, h9_, h10_, h11_, h12_, h13_, h14_, h15_⟩
     have n0_ : Aside0 (w13.heap[gb712]? = some (.cells #[.int .i64 0, .int .i64 0] 34 (0, 0))) := ⟨h0_⟩
     have n1_ : Aside0 (w13.heap[gb713]? = some (.cells #[.int .i64 0, .int .i64 0] 34 (0, 0))) := ⟨h1_⟩
     have n2_ : Aside0 (w13.heap[gb714]? = some (.cells #[.int .i64 0, .int .i64 0] 34 (0, 0))) := ⟨h2_⟩
     have n3_ : Aside0 (w.heap.size ≤ gb712) := ⟨h3_⟩
     have n4_ : Aside0 (w.heap.size ≤ gb712) := ⟨h4_⟩
     have n5_ : Aside0 (gb713 ≠ gb712) := ⟨h5_⟩
     have n6_ : Aside0 (gb712 ≠ gb713) := ⟨h6_⟩
     have n7_ : Aside0 (gb714 ≠ gb712) := ⟨h7_⟩
     have n8_ : Aside0 (gb712 ≠ gb714) := ⟨h8_⟩
     have n9_ : Aside0 (w.heap.size ≤ gb713) := ⟨h9_⟩
     have n10_ : Aside0 (w.heap.size ≤ gb713) := ⟨h10_⟩
     have n11_ : Aside0 (gb714 ≠ gb713) := ⟨h11_⟩
     have n12_ : Aside0 (gb713 ≠ gb714) := ⟨h12_⟩
     have n13_ : Aside0 (w.heap.size ≤ gb714) := ⟨h13_⟩
     have n14_ : Aside0 (w.heap.size ≤ gb714) := ⟨h14_⟩
     have n15_ : Aside0 (Below w.heap.size w w13) := ⟨h15_⟩
     clear HB
     clear h0_ h1_ h2_ h3_ h4_ h5_ h6_ h7_ h8_ h9_ h10_ h11_ h12_ h13_ h14_ h15_
     have BK712 := n0_
     have BK713 := n1_
     have BK714 := n2_
     have GW712 := n3_
     have GE712 := n4_
     have NB713_712 := n5_
     have NB712_713 := n6_
     have NB714_712 := n7_
     have NB712_714 := n8_
     have GW713 := n9_
     have GE713 := n10_
     have NB714_713 := n11_
     have NB713_714 := n12_
     have GW714 := n13_
     have GE714 := n14_
     have HB := n15_
     clear n0_ n1_ n2_ n3_ n4_ n5_ n6_ n7_ n8_ n9_ n10_ n11_ n12_ n13_ n14_ n15_
     have hHeld : w13.cell? ad709 = some (.int .i64 ((rd_impl_Peg l0 0).f0)) ∧ w13.cell? ⟨ad709.block, ad709.off + 1, none⟩ = some (.int .i64 ((rd_impl_Peg l0 0).f1)) ∧ w13.cell? ⟨ad709.block, ad709.off + 2, none⟩ = some (.int .i64 ((rd_impl_Peg l0 1).f0)) ∧ w13.cell? ⟨ad709.block, ad709.off + 2 + 1, none⟩ = some (.int .i64 ((rd_impl_Peg l0 1).f1)) ∧ w13.cell? ⟨ad709.block, ad709.off + 4, none⟩ = some (.int .i64 ((rd_impl_Peg l0 2).f0)) ∧ w13.cell? ⟨ad709.block, ad709.off + 4 + 1, none⟩ = some (.int .i64 ((rd_impl_Peg l0 2).f1)) := hS_
     refine norm_ (a' := ?_) ?_ ?_
     rotate_left
     ·simp only [putAll, Act.put, sI, sZ, sS]
      rfl
     refine one_ (i := 12) (N := none) #[true, true, true, true, true, true, true, true, true, true, true, true, true, false, false] rfl rfl (one_of HT_.out kR) (by decide) (fun K hK => ?_)
     have hs14 : w13.cell? ⟨gb712, 0, none⟩ = some (.int .i64 0) := (kC BK712.out 0).trans rfl
     have hfs14 := kF BK712.out 0
     have hns14_1 := NB713_712.out
     have hns14_2 := NB714_712.out
     have hms14_1 := NB712_713.out
     have hms14_2 := NB712_714.out
     have hs15 : w13.cell? ⟨gb712, 1, none⟩ = some (.int .i64 0) := (kC BK712.out 1).trans rfl
     have hfs15 := kF BK712.out 1
     have hns15_1 := NB713_712.out
     have hns15_2 := NB714_712.out
     have hms15_1 := NB712_713.out
     have hms15_2 := NB712_714.out
     refine skip_ (w1 := ?_) (by rfl) rfl ?_ ?_
     rotate_left
     ·go_simp
      rfl
     refine hK.out _ _ ⟨((cell_far (p := ⟨gb712, _, none⟩) (by first | exact nN (nL (by have := wB _ _ hw709_0; first | rwa [add_block] at this | exact this) GW712.out) | (rw [add_block]; exact nN (nL (by have := wB _ _ hw709_0; first | rwa [add_block] at this | exact this) GW712.out)) | (show (Addr.add _ _).block ≠ _; rw [add_block]; exact nN (nL (by have := wB _ _ hw709_0; first | rwa [add_block] at this | exact this) GW712.out)) | (dsimp only; exact nN (nL (by have := wB _ _ hw709_0; first | rwa [add_block] at this | exact this) GW712.out))) _).trans (((cell_far (p := ⟨gb712, _, none⟩) (by first | exact nN (nL (by have := wB _ _ hw709_0; first | rwa [add_block] at this | exact this) GW712.out) | (rw [add_block]; exact nN (nL (by have := wB _ _ hw709_0; first | rwa [add_block] at this | exact this) GW712.out)) | (show (Addr.add _ _).block ≠ _; rw [add_block]; exact nN (nL (by have := wB _ _ hw709_0; first | rwa [add_block] at this | exact this) GW712.out)) | (dsimp only; exact nN (nL (by have := wB _ _ hw709_0; first | rwa [add_block] at this | exact this) GW712.out))) _).trans (hHeld.1)))), ((cell_far (p := ⟨gb712, _, none⟩) (by first | exact nN (nL (by have := wB _ _ hw709_1; first | rwa [add_block] at this | exact this) GW712.out) | (rw [add_block]; exact nN (nL (by have := wB _ _ hw709_1; first | rwa [add_block] at this | exact this) GW712.out)) | (show (Addr.add _ _).block ≠ _; rw [add_block]; exact nN (nL (by have := wB _ _ hw709_1; first | rwa [add_block] at this | exact this) GW712.out)) | (dsimp only; exact nN (nL (by have := wB _ _ hw709_1; first | rwa [add_block] at this | exact this) GW712.out))) _).trans (((cell_far (p := ⟨gb712, _, none⟩) (by first | exact nN (nL (by have := wB _ _ hw709_1; first | rwa [add_block] at this | exact this) GW712.out) | (rw [add_block]; exact nN (nL (by have := wB _ _ hw709_1; first | rwa [add_block] at this | exact this) GW712.out)) | (show (Addr.add _ _).block ≠ _; rw [add_block]; exact nN (nL (by have := wB _ _ hw709_1; first | rwa [add_block] at this | exact this) GW712.out)) | (dsimp only; exact nN (nL (by have := wB _ _ hw709_1; first | rwa [add_block] at this | exact this) GW712.out))) _).trans (hHeld.2.1)))), ((cell_far (p := ⟨gb712, _, none⟩) (by first | exact nN (nL (by have := wB _ _ hw710_0; first | rwa [add_block] at this | exact this) GW712.out) | (rw [add_block]; exact nN (nL (by have := wB _ _ hw710_0; first | rwa [add_block] at this | exact this) GW712.out)) | (show (Addr.add _ _).block ≠ _; rw [add_block]; exact nN (nL (by have := wB _ _ hw710_0; first | rwa [add_block] at this | exact this) GW712.out)) | (dsimp only; exact nN (nL (by have := wB _ _ hw710_0; first | rwa [add_block] at this | exact this) GW712.out))) _).trans (((cell_far (p := ⟨gb712, _, none⟩) (by first | exact nN (nL (by have := wB _ _ hw710_0; first | rwa [add_block] at this | exact this) GW712.out) | (rw [add_block]; exact nN (nL (by have := wB _ _ hw710_0; first | rwa [add_block] at this | exact this) GW712.out)) | (show (Addr.add _ _).block ≠ _; rw [add_block]; exact nN (nL (by have := wB _ _ hw710_0; first | rwa [add_block] at this | exact this) GW712.out)) | (dsimp only; exact nN (nL (by have := wB _ _ hw710_0; first | rwa [add_block] at this | exact this) GW712.out))) _).trans (hHeld.2.2.1)))), ((cell_far (p := ⟨gb712, _, none⟩) (by first | exact nN (nL (by have := wB _ _ hw710_1; first | rwa [add_block] at this | exact this) GW712.out) | (rw [add_block]; exact nN (nL (by have := wB _ _ hw710_1; first | rwa [add_block] at this | exact this) GW712.out)) | (show (Addr.add _ _).block ≠ _; rw [add_block]; exact nN (nL (by have := wB _ _ hw710_1; first | rwa [add_block] at this | exact this) GW712.out)) | (dsimp only; exact nN (nL (by have := wB _ _ hw710_1; first | rwa [add_block] at this | exact this) GW712.out))) _).trans (((cell_far (p := ⟨gb712, _, none⟩) (by first | exact nN (nL (by have := wB _ _ hw710_1; first | rwa [add_block] at this | exact this) GW712.out) | (rw [add_block]; exact nN (nL (by have := wB _ _ hw710_1; first | rwa [add_block] at this | exact this) GW712.out)) | (show (Addr.add _ _).block ≠ _; rw [add_block]; exact nN (nL (by have := wB _ _ hw710_1; first | rwa [add_block] at this | exact this) GW712.out)) | (dsimp only; exact nN (nL (by have := wB _ _ hw710_1; first | rwa [add_block] at this | exact this) GW712.out))) _).trans (hHeld.2.2.2.1)))), ((cell_far (p := ⟨gb712, _, none⟩) (by first | exact nN (nL (by have := wB _ _ hw711_0; first | rwa [add_block] at this | exact this) GW712.out) | (rw [add_block]; exact nN (nL (by have := wB _ _ hw711_0; first | rwa [add_block] at this | exact this) GW712.out)) | (show (Addr.add _ _).block ≠ _; rw [add_block]; exact nN (nL (by have := wB _ _ hw711_0; first | rwa [add_block] at this | exact this) GW712.out)) | (dsimp only; exact nN (nL (by have := wB _ _ hw711_0; first | rwa [add_block] at this | exact this) GW712.out))) _).trans (((cell_far (p := ⟨gb712, _, none⟩) (by first | exact nN (nL (by have := wB _ _ hw711_0; first | rwa [add_block] at this | exact this) GW712.out) | (rw [add_block]; exact nN (nL (by have := wB _ _ hw711_0; first | rwa [add_block] at this | exact this) GW712.out)) | (show (Addr.add _ _).block ≠ _; rw [add_block]; exact nN (nL (by have := wB _ _ hw711_0; first | rwa [add_block] at this | exact this) GW712.out)) | (dsimp only; exact nN (nL (by have := wB _ _ hw711_0; first | rwa [add_block] at this | exact this) GW712.out))) _).trans (hHeld.2.2.2.2.1)))), ((cell_far (p := ⟨gb712, _, none⟩) (by first | exact nN (nL (by have := wB _ _ hw711_1; first | rwa [add_block] at this | exact this) GW712.out) | (rw [add_block]; exact nN (nL (by have := wB _ _ hw711_1; first | rwa [add_block] at this | exact this) GW712.out)) | (show (Addr.add _ _).block ≠ _; rw [add_block]; exact nN (nL (by have := wB _ _ hw711_1; first | rwa [add_block] at this | exact this) GW712.out)) | (dsimp only; exact nN (nL (by have := wB _ _ hw711_1; first | rwa [add_block] at this | exact this) GW712.out))) _).trans (((cell_far (p := ⟨gb712, _, none⟩) (by first | exact nN (nL (by have := wB _ _ hw711_1; first | rwa [add_block] at this | exact this) GW712.out) | (rw [add_block]; exact nN (nL (by have := wB _ _ hw711_1; first | rwa [add_block] at this | exact this) GW712.out)) | (show (Addr.add _ _).block ≠ _; rw [add_block]; exact nN (nL (by have := wB _ _ hw711_1; first | rwa [add_block] at this | exact this) GW712.out)) | (dsimp only; exact nN (nL (by have := wB _ _ hw711_1; first | rwa [add_block] at this | exact this) GW712.out))) _).trans (hHeld.2.2.2.2.2))))⟩ (fun hHeld => ?_)
     clear hK K
     refine one_ (i := 13) (N := none) #[true, true, true, true, true, true, true, true, true, true, true, true, true, true, false] rfl rfl (one_of HT_.out kR) (by decide) (fun K hK => ?_)
     have hs16 : w13.cell? ⟨gb713, 0, none⟩ = some (.int .i64 0) := (kC BK713.out 0).trans rfl
     have hfs16 := kF BK713.out 0
     have hns16_0 := NB712_713.out
     have hns16_2 := NB714_713.out
     have hms16_0 := NB713_712.out
     have hms16_2 := NB713_714.out
     have hs17 : w13.cell? ⟨gb713, 1, none⟩ = some (.int .i64 0) := (kC BK713.out 1).trans rfl
     have hfs17 := kF BK713.out 1
     have hns17_0 := NB712_713.out
     have hns17_2 := NB714_713.out
     have hms17_0 := NB713_712.out
     have hms17_2 := NB713_714.out
     refine skip_ (w1 := ?_) (by rfl) rfl ?_ ?_
     rotate_left
     ·go_simp
      rfl
     refine hK.out _ _ ⟨((cell_far (p := ⟨gb713, _, none⟩) (by first | exact nN (nL (by have := wB _ _ hw709_0; first | rwa [add_block] at this | exact this) GW713.out) | (rw [add_block]; exact nN (nL (by have := wB _ _ hw709_0; first | rwa [add_block] at this | exact this) GW713.out)) | (show (Addr.add _ _).block ≠ _; rw [add_block]; exact nN (nL (by have := wB _ _ hw709_0; first | rwa [add_block] at this | exact this) GW713.out)) | (dsimp only; exact nN (nL (by have := wB _ _ hw709_0; first | rwa [add_block] at this | exact this) GW713.out))) _).trans (((cell_far (p := ⟨gb713, _, none⟩) (by first | exact nN (nL (by have := wB _ _ hw709_0; first | rwa [add_block] at this | exact this) GW713.out) | (rw [add_block]; exact nN (nL (by have := wB _ _ hw709_0; first | rwa [add_block] at this | exact this) GW713.out)) | (show (Addr.add _ _).block ≠ _; rw [add_block]; exact nN (nL (by have := wB _ _ hw709_0; first | rwa [add_block] at this | exact this) GW713.out)) | (dsimp only; exact nN (nL (by have := wB _ _ hw709_0; first | rwa [add_block] at this | exact this) GW713.out))) _).trans (hHeld.1)))), ((cell_far (p := ⟨gb713, _, none⟩) (by first | exact nN (nL (by have := wB _ _ hw709_1; first | rwa [add_block] at this | exact this) GW713.out) | (rw [add_block]; exact nN (nL (by have := wB _ _ hw709_1; first | rwa [add_block] at this | exact this) GW713.out)) | (show (Addr.add _ _).block ≠ _; rw [add_block]; exact nN (nL (by have := wB _ _ hw709_1; first | rwa [add_block] at this | exact this) GW713.out)) | (dsimp only; exact nN (nL (by have := wB _ _ hw709_1; first | rwa [add_block] at this | exact this) GW713.out))) _).trans (((cell_far (p := ⟨gb713, _, none⟩) (by first | exact nN (nL (by have := wB _ _ hw709_1; first | rwa [add_block] at this | exact this) GW713.out) | (rw [add_block]; exact nN (nL (by have := wB _ _ hw709_1; first | rwa [add_block] at this | exact this) GW713.out)) | (show (Addr.add _ _).block ≠ _; rw [add_block]; exact nN (nL (by have := wB _ _ hw709_1; first | rwa [add_block] at this | exact this) GW713.out)) | (dsimp only; exact nN (nL (by have := wB _ _ hw709_1; first | rwa [add_block] at this | exact this) GW713.out))) _).trans (hHeld.2.1)))), ((cell_far (p := ⟨gb713, _, none⟩) (by first | exact nN (nL (by have := wB _ _ hw710_0; first | rwa [add_block] at this | exact this) GW713.out) | (rw [add_block]; exact nN (nL (by have := wB _ _ hw710_0; first | rwa [add_block] at this | exact this) GW713.out)) | (show (Addr.add _ _).block ≠ _; rw [add_block]; exact nN (nL (by have := wB _ _ hw710_0; first | rwa [add_block] at this | exact this) GW713.out)) | (dsimp only; exact nN (nL (by have := wB _ _ hw710_0; first | rwa [add_block] at this | exact this) GW713.out))) _).trans (((cell_far (p := ⟨gb713, _, none⟩) (by first | exact nN (nL (by have := wB _ _ hw710_0; first | rwa [add_block] at this | exact this) GW713.out) | (rw [add_block]; exact nN (nL (by have := wB _ _ hw710_0; first | rwa [add_block] at this | exact this) GW713.out)) | (show (Addr.add _ _).block ≠ _; rw [add_block]; exact nN (nL (by have := wB _ _ hw710_0; first | rwa [add_block] at this | exact this) GW713.out)) | (dsimp only; exact nN (nL (by have := wB _ _ hw710_0; first | rwa [add_block] at this | exact this) GW713.out))) _).trans (hHeld.2.2.1)))), ((cell_far (p := ⟨gb713, _, none⟩) (by first | exact nN (nL (by have := wB _ _ hw710_1; first | rwa [add_block] at this | exact this) GW713.out) | (rw [add_block]; exact nN (nL (by have := wB _ _ hw710_1; first | rwa [add_block] at this | exact this) GW713.out)) | (show (Addr.add _ _).block ≠ _; rw [add_block]; exact nN (nL (by have := wB _ _ hw710_1; first | rwa [add_block] at this | exact this) GW713.out)) | (dsimp only; exact nN (nL (by have := wB _ _ hw710_1; first | rwa [add_block] at this | exact this) GW713.out))) _).trans (((cell_far (p := ⟨gb713, _, none⟩) (by first | exact nN (nL (by have := wB _ _ hw710_1; first | rwa [add_block] at this | exact this) GW713.out) | (rw [add_block]; exact nN (nL (by have := wB _ _ hw710_1; first | rwa [add_block] at this | exact this) GW713.out)) | (show (Addr.add _ _).block ≠ _; rw [add_block]; exact nN (nL (by have := wB _ _ hw710_1; first | rwa [add_block] at this | exact this) GW713.out)) | (dsimp only; exact nN (nL (by have := wB _ _ hw710_1; first | rwa [add_block] at this | exact this) GW713.out))) _).trans (hHeld.2.2.2.1)))), ((cell_far (p := ⟨gb713, _, none⟩) (by first | exact nN (nL (by have := wB _ _ hw711_0; first | rwa [add_block] at this | exact this) GW713.out) | (rw [add_block]; exact nN (nL (by have := wB _ _ hw711_0; first | rwa [add_block] at this | exact this) GW713.out)) | (show (Addr.add _ _).block ≠ _; rw [add_block]; exact nN (nL (by have := wB _ _ hw711_0; first | rwa [add_block] at this | exact this) GW713.out)) | (dsimp only; exact nN (nL (by have := wB _ _ hw711_0; first | rwa [add_block] at this | exact this) GW713.out))) _).trans (((cell_far (p := ⟨gb713, _, none⟩) (by first | exact nN (nL (by have := wB _ _ hw711_0; first | rwa [add_block] at this | exact this) GW713.out) | (rw [add_block]; exact nN (nL (by have := wB _ _ hw711_0; first | rwa [add_block] at this | exact this) GW713.out)) | (show (Addr.add _ _).block ≠ _; rw [add_block]; exact nN (nL (by have := wB _ _ hw711_0; first | rwa [add_block] at this | exact this) GW713.out)) | (dsimp only; exact nN (nL (by have := wB _ _ hw711_0; first | rwa [add_block] at this | exact this) GW713.out))) _).trans (hHeld.2.2.2.2.1)))), ((cell_far (p := ⟨gb713, _, none⟩) (by first | exact nN (nL (by have := wB _ _ hw711_1; first | rwa [add_block] at this | exact this) GW713.out) | (rw [add_block]; exact nN (nL (by have := wB _ _ hw711_1; first | rwa [add_block] at this | exact this) GW713.out)) | (show (Addr.add _ _).block ≠ _; rw [add_block]; exact nN (nL (by have := wB _ _ hw711_1; first | rwa [add_block] at this | exact this) GW713.out)) | (dsimp only; exact nN (nL (by have := wB _ _ hw711_1; first | rwa [add_block] at this | exact this) GW713.out))) _).trans (((cell_far (p := ⟨gb713, _, none⟩) (by first | exact nN (nL (by have := wB _ _ hw711_1; first | rwa [add_block] at this | exact this) GW713.out) | (rw [add_block]; exact nN (nL (by have := wB _ _ hw711_1; first | rwa [add_block] at this | exact this) GW713.out)) | (show (Addr.add _ _).block ≠ _; rw [add_block]; exact nN (nL (by have := wB _ _ hw711_1; first | rwa [add_block] at this | exact this) GW713.out)) | (dsimp only; exact nN (nL (by have := wB _ _ hw711_1; first | rwa [add_block] at this | exact this) GW713.out))) _).trans (hHeld.2.2.2.2.2))))⟩ (fun hHeld => ?_)
     clear hK K
     refine one_ (i := 14) (N := none) #[true, true, true, true, true, true, true, true, true, true, true, true, true, true, true] rfl rfl (one_of HT_.out kR) (by decide) (fun K hK => ?_)
     have hs18 : w13.cell? ⟨gb714, 0, none⟩ = some (.int .i64 0) := (kC BK714.out 0).trans rfl
     have hfs18 := kF BK714.out 0
     have hns18_0 := NB712_714.out
     have hns18_1 := NB713_714.out
     have hms18_0 := NB714_712.out
     have hms18_1 := NB714_713.out
     have hs19 : w13.cell? ⟨gb714, 1, none⟩ = some (.int .i64 0) := (kC BK714.out 1).trans rfl
     have hfs19 := kF BK714.out 1
     have hns19_0 := NB712_714.out
     have hns19_1 := NB713_714.out
     have hms19_0 := NB714_712.out
     have hms19_1 := NB714_713.out
     refine skip_ (w1 := ?_) (by rfl) rfl ?_ ?_
     rotate_left
     ·go_simp
      rfl
     refine hK.out _ _ ⟨((cell_far (p := ⟨gb714, _, none⟩) (by first | exact nN (nL (by have := wB _ _ hw709_0; first | rwa [add_block] at this | exact this) GW714.out) | (rw [add_block]; exact nN (nL (by have := wB _ _ hw709_0; first | rwa [add_block] at this | exact this) GW714.out)) | (show (Addr.add _ _).block ≠ _; rw [add_block]; exact nN (nL (by have := wB _ _ hw709_0; first | rwa [add_block] at this | exact this) GW714.out)) | (dsimp only; exact nN (nL (by have := wB _ _ hw709_0; first | rwa [add_block] at this | exact this) GW714.out))) _).trans (((cell_far (p := ⟨gb714, _, none⟩) (by first | exact nN (nL (by have := wB _ _ hw709_0; first | rwa [add_block] at this | exact this) GW714.out) | (rw [add_block]; exact nN (nL (by have := wB _ _ hw709_0; first | rwa [add_block] at this | exact this) GW714.out)) | (show (Addr.add _ _).block ≠ _; rw [add_block]; exact nN (nL (by have := wB _ _ hw709_0; first | rwa [add_block] at this | exact this) GW714.out)) | (dsimp only; exact nN (nL (by have := wB _ _ hw709_0; first | rwa [add_block] at this | exact this) GW714.out))) _).trans (hHeld.1)))), ((cell_far (p := ⟨gb714, _, none⟩) (by first | exact nN (nL (by have := wB _ _ hw709_1; first | rwa [add_block] at this | exact this) GW714.out) | (rw [add_block]; exact nN (nL (by have := wB _ _ hw709_1; first | rwa [add_block] at this | exact this) GW714.out)) | (show (Addr.add _ _).block ≠ _; rw [add_block]; exact nN (nL (by have := wB _ _ hw709_1; first | rwa [add_block] at this | exact this) GW714.out)) | (dsimp only; exact nN (nL (by have := wB _ _ hw709_1; first | rwa [add_block] at this | exact this) GW714.out))) _).trans (((cell_far (p := ⟨gb714, _, none⟩) (by first | exact nN (nL (by have := wB _ _ hw709_1; first | rwa [add_block] at this | exact this) GW714.out) | (rw [add_block]; exact nN (nL (by have := wB _ _ hw709_1; first | rwa [add_block] at this | exact this) GW714.out)) | (show (Addr.add _ _).block ≠ _; rw [add_block]; exact nN (nL (by have := wB _ _ hw709_1; first | rwa [add_block] at this | exact this) GW714.out)) | (dsimp only; exact nN (nL (by have := wB _ _ hw709_1; first | rwa [add_block] at this | exact this) GW714.out))) _).trans (hHeld.2.1)))), ((cell_far (p := ⟨gb714, _, none⟩) (by first | exact nN (nL (by have := wB _ _ hw710_0; first | rwa [add_block] at this | exact this) GW714.out) | (rw [add_block]; exact nN (nL (by have := wB _ _ hw710_0; first | rwa [add_block] at this | exact this) GW714.out)) | (show (Addr.add _ _).block ≠ _; rw [add_block]; exact nN (nL (by have := wB _ _ hw710_0; first | rwa [add_block] at this | exact this) GW714.out)) | (dsimp only; exact nN (nL (by have := wB _ _ hw710_0; first | rwa [add_block] at this | exact this) GW714.out))) _).trans (((cell_far (p := ⟨gb714, _, none⟩) (by first | exact nN (nL (by have := wB _ _ hw710_0; first | rwa [add_block] at this | exact this) GW714.out) | (rw [add_block]; exact nN (nL (by have := wB _ _ hw710_0; first | rwa [add_block] at this | exact this) GW714.out)) | (show (Addr.add _ _).block ≠ _; rw [add_block]; exact nN (nL (by have := wB _ _ hw710_0; first | rwa [add_block] at this | exact this) GW714.out)) | (dsimp only; exact nN (nL (by have := wB _ _ hw710_0; first | rwa [add_block] at this | exact this) GW714.out))) _).trans (hHeld.2.2.1)))), ((cell_far (p := ⟨gb714, _, none⟩) (by first | exact nN (nL (by have := wB _ _ hw710_1; first | rwa [add_block] at this | exact this) GW714.out) | (rw [add_block]; exact nN (nL (by have := wB _ _ hw710_1; first | rwa [add_block] at this | exact this) GW714.out)) | (show (Addr.add _ _).block ≠ _; rw [add_block]; exact nN (nL (by have := wB _ _ hw710_1; first | rwa [add_block] at this | exact this) GW714.out)) | (dsimp only; exact nN (nL (by have := wB _ _ hw710_1; first | rwa [add_block] at this | exact this) GW714.out))) _).trans (((cell_far (p := ⟨gb714, _, none⟩) (by first | exact nN (nL (by have := wB _ _ hw710_1; first | rwa [add_block] at this | exact this) GW714.out) | (rw [add_block]; exact nN (nL (by have := wB _ _ hw710_1; first | rwa [add_block] at this | exact this) GW714.out)) | (show (Addr.add _ _).block ≠ _; rw [add_block]; exact nN (nL (by have := wB _ _ hw710_1; first | rwa [add_block] at this | exact this) GW714.out)) | (dsimp only; exact nN (nL (by have := wB _ _ hw710_1; first | rwa [add_block] at this | exact this) GW714.out))) _).trans (hHeld.2.2.2.1)))), ((cell_far (p := ⟨gb714, _, none⟩) (by first | exact nN (nL (by have := wB _ _ hw711_0; first | rwa [add_block] at this | exact this) GW714.out) | (rw [add_block]; exact nN (nL (by have := wB _ _ hw711_0; first | rwa [add_block] at this | exact this) GW714.out)) | (show (Addr.add _ _).block ≠ _; rw [add_block]; exact nN (nL (by have := wB _ _ hw711_0; first | rwa [add_block] at this | exact this) GW714.out)) | (dsimp only; exact nN (nL (by have := wB _ _ hw711_0; first | rwa [add_block] at this | exact this) GW714.out))) _).trans (((cell_far (p := ⟨gb714, _, none⟩) (by first | exact nN (nL (by have := wB _ _ hw711_0; first | rwa [add_block] at this | exact this) GW714.out) | (rw [add_block]; exact nN (nL (by have := wB _ _ hw711_0; first | rwa [add_block] at this | exact this) GW714.out)) | (show (Addr.add _ _).block ≠ _; rw [add_block]; exact nN (nL (by have := wB _ _ hw711_0; first | rwa [add_block] at this | exact this) GW714.out)) | (dsimp only; exact nN (nL (by have := wB _ _ hw711_0; first | rwa [add_block] at this | exact this) GW714.out))) _).trans (hHeld.2.2.2.2.1)))), ((cell_far (p := ⟨gb714, _, none⟩) (by first | exact nN (nL (by have := wB _ _ hw711_1; first | rwa [add_block] at this | exact this) GW714.out) | (rw [add_block]; exact nN (nL (by have := wB _ _ hw711_1; first | rwa [add_block] at this | exact this) GW714.out)) | (show (Addr.add _ _).block ≠ _; rw [add_block]; exact nN (nL (by have := wB _ _ hw711_1; first | rwa [add_block] at this | exact this) GW714.out)) | (dsimp only; exact nN (nL (by have := wB _ _ hw711_1; first | rwa [add_block] at this | exact this) GW714.out))) _).trans (((cell_far (p := ⟨gb714, _, none⟩) (by first | exact nN (nL (by have := wB _ _ hw711_1; first | rwa [add_block] at this | exact this) GW714.out) | (rw [add_block]; exact nN (nL (by have := wB _ _ hw711_1; first | rwa [add_block] at this | exact this) GW714.out)) | (show (Addr.add _ _).block ≠ _; rw [add_block]; exact nN (nL (by have := wB _ _ hw711_1; first | rwa [add_block] at this | exact this) GW714.out)) | (dsimp only; exact nN (nL (by have := wB _ _ hw711_1; first | rwa [add_block] at this | exact this) GW714.out))) _).trans (hHeld.2.2.2.2.2))))⟩ (fun hHeld => ?_)
     clear hK K
     refine done_ (done_of HT_.out kR) ?_
     try go_wp2
     have n0_ : Aside0 (((((((w13.setCell ⟨gb712, 0, none⟩ (.int .i64 ((rd_impl_Peg l0 0).f0))).setCell ⟨gb712, 1, none⟩ (.int .i64 ((rd_impl_Peg l0 0).f1))).setCell ⟨gb713, 0, none⟩ (.int .i64 ((rd_impl_Peg l0 1).f0))).setCell ⟨gb713, 1, none⟩ (.int .i64 ((rd_impl_Peg l0 1).f1))).setCell ⟨gb714, 0, none⟩ (.int .i64 ((rd_impl_Peg l0 2).f0))).setCell ⟨gb714, 1, none⟩ (.int .i64 ((rd_impl_Peg l0 2).f1))).heap[gb712]? = some (.cells #[.int .i64 ((rd_impl_Peg l0 0).f0), .int .i64 ((rd_impl_Peg l0 0).f1)] 34 (0, 0))) := ⟨by (with_reducible repeat (first | refine kN ?_ _ | refine kD ?_ | refine kA ?_ _)); refine blk_far ?_ NB712_714.out _; (with_reducible repeat (first | refine kN ?_ _ | refine kD ?_ | refine kA ?_ _)); refine blk_far ?_ NB712_714.out _; (with_reducible repeat (first | refine kN ?_ _ | refine kD ?_ | refine kA ?_ _)); refine blk_far ?_ NB712_713.out _; (with_reducible repeat (first | refine kN ?_ _ | refine kD ?_ | refine kA ?_ _)); refine blk_far ?_ NB712_713.out _; (with_reducible repeat (first | refine kN ?_ _ | refine kD ?_ | refine kA ?_ _)); refine blk_put (cs := #[.int .i64 ((rd_impl_Peg l0 0).f0), .int .i64 0]) ?_ 1 _ rfl; (with_reducible repeat (first | refine kN ?_ _ | refine kD ?_ | refine kA ?_ _)); refine blk_put (cs := #[.int .i64 0, .int .i64 0]) ?_ 0 _ rfl; (with_reducible repeat (first | refine kN ?_ _ | refine kD ?_ | refine kA ?_ _)); exact BK712.out⟩
     have n1_ : Aside0 (((((((w13.setCell ⟨gb712, 0, none⟩ (.int .i64 ((rd_impl_Peg l0 0).f0))).setCell ⟨gb712, 1, none⟩ (.int .i64 ((rd_impl_Peg l0 0).f1))).setCell ⟨gb713, 0, none⟩ (.int .i64 ((rd_impl_Peg l0 1).f0))).setCell ⟨gb713, 1, none⟩ (.int .i64 ((rd_impl_Peg l0 1).f1))).setCell ⟨gb714, 0, none⟩ (.int .i64 ((rd_impl_Peg l0 2).f0))).setCell ⟨gb714, 1, none⟩ (.int .i64 ((rd_impl_Peg l0 2).f1))).heap[gb713]? = some (.cells #[.int .i64 ((rd_impl_Peg l0 1).f0), .int .i64 ((rd_impl_Peg l0 1).f1)] 34 (0, 0))) := ⟨by (with_reducible repeat (first | refine kN ?_ _ | refine kD ?_ | refine kA ?_ _)); refine blk_far ?_ NB713_714.out _; (with_reducible repeat (first | refine kN ?_ _ | refine kD ?_ | refine kA ?_ _)); refine blk_far ?_ NB713_714.out _; (with_reducible repeat (first | refine kN ?_ _ | refine kD ?_ | refine kA ?_ _)); refine blk_put (cs := #[.int .i64 ((rd_impl_Peg l0 1).f0), .int .i64 0]) ?_ 1 _ rfl; (with_reducible repeat (first | refine kN ?_ _ | refine kD ?_ | refine kA ?_ _)); refine blk_put (cs := #[.int .i64 0, .int .i64 0]) ?_ 0 _ rfl; (with_reducible repeat (first | refine kN ?_ _ | refine kD ?_ | refine kA ?_ _)); refine blk_far ?_ NB713_712.out _; (with_reducible repeat (first | refine kN ?_ _ | refine kD ?_ | refine kA ?_ _)); refine blk_far ?_ NB713_712.out _; (with_reducible repeat (first | refine kN ?_ _ | refine kD ?_ | refine kA ?_ _)); exact BK713.out⟩
     have n2_ : Aside0 (((((((w13.setCell ⟨gb712, 0, none⟩ (.int .i64 ((rd_impl_Peg l0 0).f0))).setCell ⟨gb712, 1, none⟩ (.int .i64 ((rd_impl_Peg l0 0).f1))).setCell ⟨gb713, 0, none⟩ (.int .i64 ((rd_impl_Peg l0 1).f0))).setCell ⟨gb713, 1, none⟩ (.int .i64 ((rd_impl_Peg l0 1).f1))).setCell ⟨gb714, 0, none⟩ (.int .i64 ((rd_impl_Peg l0 2).f0))).setCell ⟨gb714, 1, none⟩ (.int .i64 ((rd_impl_Peg l0 2).f1))).heap[gb714]? = some (.cells #[.int .i64 ((rd_impl_Peg l0 2).f0), .int .i64 ((rd_impl_Peg l0 2).f1)] 34 (0, 0))) := ⟨by (with_reducible repeat (first | refine kN ?_ _ | refine kD ?_ | refine kA ?_ _)); refine blk_put (cs := #[.int .i64 ((rd_impl_Peg l0 2).f0), .int .i64 0]) ?_ 1 _ rfl; (with_reducible repeat (first | refine kN ?_ _ | refine kD ?_ | refine kA ?_ _)); refine blk_put (cs := #[.int .i64 0, .int .i64 0]) ?_ 0 _ rfl; (with_reducible repeat (first | refine kN ?_ _ | refine kD ?_ | refine kA ?_ _)); refine blk_far ?_ NB714_713.out _; (with_reducible repeat (first | refine kN ?_ _ | refine kD ?_ | refine kA ?_ _)); refine blk_far ?_ NB714_713.out _; (with_reducible repeat (first | refine kN ?_ _ | refine kD ?_ | refine kA ?_ _)); refine blk_far ?_ NB714_712.out _; (with_reducible repeat (first | refine kN ?_ _ | refine kD ?_ | refine kA ?_ _)); refine blk_far ?_ NB714_712.out _; (with_reducible repeat (first | refine kN ?_ _ | refine kD ?_ | refine kA ?_ _)); exact BK714.out⟩
     have n3_ : Aside0 (Below w.heap.size w ((((((w13.setCell ⟨gb712, 0, none⟩ (.int .i64 ((rd_impl_Peg l0 0).f0))).setCell ⟨gb712, 1, none⟩ (.int .i64 ((rd_impl_Peg l0 0).f1))).setCell ⟨gb713, 0, none⟩ (.int .i64 ((rd_impl_Peg l0 1).f0))).setCell ⟨gb713, 1, none⟩ (.int .i64 ((rd_impl_Peg l0 1).f1))).setCell ⟨gb714, 0, none⟩ (.int .i64 ((rd_impl_Peg l0 2).f0))).setCell ⟨gb714, 1, none⟩ (.int .i64 ((rd_impl_Peg l0 2).f1)))) := ⟨by repeat (first | (with_reducible first | exact HB.out | apply pA | apply pN | apply pD | refine pS ?_ GE712.out | refine pS ?_ GE713.out | refine pS ?_ GE714.out) | exact HB.out)⟩
     (try clear BK712)
     (try clear BK713)
     (try clear BK714)
     (try clear HB)
     generalize ((((((w13.setCell ⟨gb712, 0, none⟩ (.int .i64 ((rd_impl_Peg l0 0).f0))).setCell ⟨gb712, 1, none⟩ (.int .i64 ((rd_impl_Peg l0 0).f1))).setCell ⟨gb713, 0, none⟩ (.int .i64 ((rd_impl_Peg l0 1).f0))).setCell ⟨gb713, 1, none⟩ (.int .i64 ((rd_impl_Peg l0 1).f1))).setCell ⟨gb714, 0, none⟩ (.int .i64 ((rd_impl_Peg l0 2).f0))).setCell ⟨gb714, 1, none⟩ (.int .i64 ((rd_impl_Peg l0 2).f1))) = w20 at n0_ n1_ n2_ n3_ ⊢
     have BK712 := n0_
     have BK713 := n1_
     have BK714 := n2_
     have HB := n3_
     clear n0_ n1_ n2_ n3_
     have n0_ := aM (kD BK712.out)
     have n1_ := aM (kD BK713.out)
     have n2_ := aM (kD BK714.out)
     have n3_ := aM (pD HB.out)
     clear BK712
     clear BK713
     clear BK714
     clear HB
     have BK712 := n0_
     have BK713 := n1_
     have BK714 := n2_
     have HB := n3_
     clear n0_ n1_ n2_ n3_
     refine start_ (n := 24) (S := fun w' => w'.cell? ⟨gb713, 0, none⟩ = some (.int .i64 ((rd_impl_Peg l0 1).f0)) ∧ w'.cell? ⟨gb713, 1, none⟩ = some (.int .i64 ((rd_impl_Peg l0 1).f1)) ∧ w'.cell? ⟨gb712, 0, none⟩ = some (.int .i64 ((rd_impl_Peg l0 0).f0)) ∧ w'.cell? ⟨gb712, 1, none⟩ = some (.int .i64 ((rd_impl_Peg l0 0).f1)) ∧ w'.cell? ⟨gb714, 0, none⟩ = some (.int .i64 ((rd_impl_Peg l0 2).f0)) ∧ w'.cell? ⟨gb714, 1, none⟩ = some (.int .i64 ((rd_impl_Peg l0 2).f1))) (ds := []) #[false, false, false, false, false, false, false, false, false, false, false, false, false, false, false, false, false, false, false, false, false, false, false, false] kR rfl rfl ⟨(kC BK713.out 0).trans rfl, (kC BK713.out 1).trans rfl, (kC BK712.out 0).trans rfl, (kC BK712.out 1).trans rfl, (kC BK714.out 0).trans rfl, (kC BK714.out 1).trans rfl⟩ (fun hHeld => ?_); refine with_tabW spec_CircleOfThree.tab4 spec_CircleOfThree.bits4 (fun HT_ HW_ => ?_)
     generalize w20.drew = w21 at BK712 BK713 BK714 HB hHeld ⊢
     refine pure_ (i := 0) (N := some 31) (v := ?_) (a' := ?_) #[true, false, false, false, false, false, false, false, false, false, false, false, false, false, false, false, false, false, false, false, false, false, false, false] rfl rfl (any_of HT_.out kR) (fun _ _ _ h => h) (Or.inl ⟨by rfl, ?_⟩) ?_ ?_
     rotate_left
     ·intro w'
      go_simp
      with_reducible rfl
     rotate_left
     ·simp only [Act.put, sI, sZ, sS, i64_w, i32_w]
      rfl
     refine pure_ (i := 2) (N := some 33) (v := ?_) (a' := ?_) #[true, false, true, false, false, false, false, false, false, false, false, false, false, false, false, false, false, false, false, false, false, false, false, false] rfl rfl (any_of HT_.out kR) (fun _ _ _ h => h) (Or.inl ⟨by rfl, ?_⟩) ?_ ?_
     rotate_left
     ·intro w'
      go_simp
      with_reducible rfl
     rotate_left
     ·simp only [Act.put, sI, sZ, sS, i64_w, i32_w]
      rfl
     refine pure_ (i := 5) (N := some 36) (v := ?_) (a' := ?_) #[true, false, true, false, false, true, false, false, false, false, false, false, false, false, false, false, false, false, false, false, false, false, false, false] rfl rfl (any_of HT_.out kR) (fun _ _ _ h => h) (Or.inl ⟨by rfl, ?_⟩) ?_ ?_
     rotate_left
     ·intro w'
      go_simp
      with_reducible rfl
     rotate_left
     ·simp only [Act.put, sI, sZ, sS, i64_w, i32_w]
      rfl
     refine pure_ (i := 7) (N := some 38) (v := ?_) (a' := ?_) #[true, false, true, false, false, true, false, true, false, false, false, false, false, false, false, false, false, false, false, false, false, false, false, false] rfl rfl (any_of HT_.out kR) (fun _ _ _ h => h) (Or.inl ⟨by rfl, ?_⟩) ?_ ?_
     rotate_left
     ·intro w'
      go_simp
      with_reducible rfl
     rotate_left
     ·simp only [Act.put, sI, sZ, sS, i64_w, i32_w]
      rfl
     refine pure_ (i := 10) (N := some 41) (v := ?_) (a' := ?_) #[true, false, true, false, false, true, false, true, false, false, true, false, false, false, false, false, false, false, false, false, false, false, false, false] rfl rfl (any_of HT_.out kR) (fun _ _ _ h => h) (Or.inl ⟨by rfl, ?_⟩) ?_ ?_
     rotate_left
     ·intro w'
      go_simp
      with_reducible rfl
     rotate_left
     ·simp only [Act.put, sI, sZ, sS, i64_w, i32_w]
      rfl
     refine pure_ (i := 12) (N := some 43) (v := ?_) (a' := ?_) #[true, false, true, false, false, true, false, true, false, false, true, false, true, false, false, false, false, false, false, false, false, false, false, false] rfl rfl (any_of HT_.out kR) (fun _ _ _ h => h) (Or.inl ⟨by rfl, ?_⟩) ?_ ?_
     rotate_left
     ·intro w'
      go_simp
      with_reducible rfl
     rotate_left
     ·simp only [Act.put, sI, sZ, sS, i64_w, i32_w]
      rfl
     refine pure_ (i := 15) (N := some 46) (v := ?_) (a' := ?_) #[true, false, true, false, false, true, false, true, false, false, true, false, true, false, false, true, false, false, false, false, false, false, false, false] rfl rfl (any_of HT_.out kR) (fun _ _ _ h => h) (Or.inl ⟨by rfl, ?_⟩) ?_ ?_
     rotate_left
     ·intro w'
      go_simp
      with_reducible rfl
     rotate_left
     ·simp only [Act.put, sI, sZ, sS, i64_w, i32_w]
      rfl
     refine pure_ (i := 17) (N := some 48) (v := ?_) (a' := ?_) #[true, false, true, false, false, true, false, true, false, false, true, false, true, false, false, true, false, true, false, false, false, false, false, false] rfl rfl (any_of HT_.out kR) (fun _ _ _ h => h) (Or.inl ⟨by rfl, ?_⟩) ?_ ?_
     rotate_left
     ·intro w'
      go_simp
      with_reducible rfl
     rotate_left
     ·simp only [Act.put, sI, sZ, sS, i64_w, i32_w]
      rfl
     refine take_ (i := 1) (N := some 32) (v := ?_) (a' := ?_) #[true, true, true, false, false, true, false, true, false, false, true, false, true, false, false, true, false, true, false, false, false, false, false, false] rfl rfl (take_ofW HT_.out HW_.out kR) (fun _ _ _ h => h) (Or.inl ⟨by rfl, ?_⟩) hHeld ?_ ?_
     rotate_left
     ·rintro w' ⟨s0, s1, s2, s3, s4, s5⟩
      go_simp
      with_reducible rfl
     rotate_left
     ·simp only [Act.put, sI, sZ, sS, i64_w, i32_w]
      rfl
     refine take_ (i := 3) (N := some 34) (v := ?_) (a' := ?_) #[true, true, true, true, false, true, false, true, false, false, true, false, true, false, false, true, false, true, false, false, false, false, false, false] rfl rfl (take_ofW HT_.out HW_.out kR) (fun _ _ _ h => h) (Or.inl ⟨by rfl, ?_⟩) hHeld ?_ ?_
     rotate_left
     ·rintro w' ⟨s0, s1, s2, s3, s4, s5⟩
      go_simp
      with_reducible rfl
     rotate_left
     ·simp only [Act.put, sI, sZ, sS, i64_w, i32_w]
      rfl
     refine pure_ (i := 4) (N := some 35) (v := ?_) (a' := ?_) #[true, true, true, true, true, true, false, true, false, false, true, false, true, false, false, true, false, true, false, false, false, false, false, false] rfl rfl (any_of HT_.out kR) (fun _ _ _ h => h) (Or.inl ⟨by rfl, ?_⟩) ?_ ?_
     rotate_left
     ·intro w'
      go_simp
      with_reducible rfl
     rotate_left
     ·simp only [Act.put, sI, sZ, sS, i64_w, i32_w]
      rfl
     refine pure_ (i := 20) (N := some 9) (v := ?_) (a' := ?_) #[true, true, true, true, true, true, false, true, false, false, true, false, true, false, false, true, false, true, false, false, true, false, false, false] rfl rfl (any_of HT_.out kR) (fun _ _ _ h => h) (Or.inl ⟨by rfl, ?_⟩) ?_ ?_
     rotate_left
     ·intro w'
      go_simp
      with_reducible rfl
     rotate_left
     ·simp only [Act.put, sI, sZ, sS, i64_w, i32_w]
      rfl
     refine take_ (i := 6) (N := some 37) (v := ?_) (a' := ?_) #[true, true, true, true, true, true, true, true, false, false, true, false, true, false, false, true, false, true, false, false, true, false, false, false] rfl rfl (take_ofW HT_.out HW_.out kR) (fun _ _ _ h => h) (Or.inl ⟨by rfl, ?_⟩) hHeld ?_ ?_
     rotate_left
     ·rintro w' ⟨s0, s1, s2, s3, s4, s5⟩
      go_simp
      with_reducible rfl
     rotate_left
     ·simp only [Act.put, sI, sZ, sS, i64_w, i32_w]
      rfl
     refine take_ (i := 8) (N := some 39) (v := ?_) (a' := ?_) #[true, true, true, true, true, true, true, true, true, false, true, false, true, false, false, true, false, true, false, false, true, false, false, false] rfl rfl (take_ofW HT_.out HW_.out kR) (fun _ _ _ h => h) (Or.inl ⟨by rfl, ?_⟩) hHeld ?_ ?_
     rotate_left
     ·rintro w' ⟨s0, s1, s2, s3, s4, s5⟩
      go_simp
      with_reducible rfl
     rotate_left
     ·simp only [Act.put, sI, sZ, sS, i64_w, i32_w]
      rfl
     refine pure_ (i := 9) (N := some 40) (v := ?_) (a' := ?_) #[true, true, true, true, true, true, true, true, true, true, true, false, true, false, false, true, false, true, false, false, true, false, false, false] rfl rfl (any_of HT_.out kR) (fun _ _ _ h => h) (Or.inl ⟨by rfl, ?_⟩) ?_ ?_
     rotate_left
     ·intro w'
      go_simp
      with_reducible rfl
     rotate_left
     ·simp only [Act.put, sI, sZ, sS, i64_w, i32_w]
      rfl
     refine pure_ (i := 21) (N := some 10) (v := ?_) (a' := ?_) #[true, true, true, true, true, true, true, true, true, true, true, false, true, false, false, true, false, true, false, false, true, true, false, false] rfl rfl (any_of HT_.out kR) (fun _ _ _ h => h) (Or.inl ⟨by rfl, ?_⟩) ?_ ?_
     rotate_left
     ·intro w'
      go_simp
      with_reducible rfl
     rotate_left
     ·simp only [Act.put, sI, sZ, sS, i64_w, i32_w]
      rfl
     refine take_ (i := 11) (N := some 42) (v := ?_) (a' := ?_) #[true, true, true, true, true, true, true, true, true, true, true, true, true, false, false, true, false, true, false, false, true, true, false, false] rfl rfl (take_ofW HT_.out HW_.out kR) (fun _ _ _ h => h) (Or.inl ⟨by rfl, ?_⟩) hHeld ?_ ?_
     rotate_left
     ·rintro w' ⟨s0, s1, s2, s3, s4, s5⟩
      go_simp
      with_reducible rfl
     rotate_left
     ·simp only [Act.put, sI, sZ, sS, i64_w, i32_w]
      rfl
     refine take_ (i := 13) (N := some 44) (v := ?_) (a' := ?_) #[true, true, true, true, true, true, true, true, true, true, true, true, true, true, false, true, false, true, false, false, true, true, false, false] rfl rfl (take_ofW HT_.out HW_.out kR) (fun _ _ _ h => h) (Or.inl ⟨by rfl, ?_⟩) hHeld ?_ ?_
     rotate_left
     ·rintro w' ⟨s0, s1, s2, s3, s4, s5⟩
      go_simp
      with_reducible rfl
     rotate_left
     ·simp only [Act.put, sI, sZ, sS, i64_w, i32_w]
      rfl
     refine pure_ (i := 14) (N := some 45) (v := ?_) (a' := ?_) #[true, true, true, true, true, true, true, true, true, true, true, true, true, true, true, true, false, true, false, false, true, true, false, false] rfl rfl (any_of HT_.out kR) (fun _ _ _ h => h) (Or.inl ⟨by rfl, ?_⟩) ?_ ?_
     rotate_left
     ·intro w'
      go_simp
      with_reducible rfl
     rotate_left
     ·simp only [Act.put, sI, sZ, sS, i64_w, i32_w]
      rfl
     refine pure_ (i := 22) (N := some 11) (v := ?_) (a' := ?_) #[true, true, true, true, true, true, true, true, true, true, true, true, true, true, true, true, false, true, false, false, true, true, true, false] rfl rfl (any_of HT_.out kR) (fun _ _ _ h => h) (Or.inl ⟨by rfl, ?_⟩) ?_ ?_
     rotate_left
     ·intro w'
      go_simp
      with_reducible rfl
     rotate_left
     ·simp only [Act.put, sI, sZ, sS, i64_w, i32_w]
      rfl
     refine take_ (i := 16) (N := some 47) (v := ?_) (a' := ?_) #[true, true, true, true, true, true, true, true, true, true, true, true, true, true, true, true, true, true, false, false, true, true, true, false] rfl rfl (take_ofW HT_.out HW_.out kR) (fun _ _ _ h => h) (Or.inl ⟨by rfl, ?_⟩) hHeld ?_ ?_
     rotate_left
     ·rintro w' ⟨s0, s1, s2, s3, s4, s5⟩
      go_simp
      with_reducible rfl
     rotate_left
     ·simp only [Act.put, sI, sZ, sS, i64_w, i32_w]
      rfl
     refine take_ (i := 18) (N := some 49) (v := ?_) (a' := ?_) #[true, true, true, true, true, true, true, true, true, true, true, true, true, true, true, true, true, true, true, false, true, true, true, false] rfl rfl (take_ofW HT_.out HW_.out kR) (fun _ _ _ h => h) (Or.inl ⟨by rfl, ?_⟩) hHeld ?_ ?_
     rotate_left
     ·rintro w' ⟨s0, s1, s2, s3, s4, s5⟩
      go_simp
      with_reducible rfl
     rotate_left
     ·simp only [Act.put, sI, sZ, sS, i64_w, i32_w]
      rfl
     refine pure_ (i := 19) (N := some 50) (v := ?_) (a' := ?_) #[true, true, true, true, true, true, true, true, true, true, true, true, true, true, true, true, true, true, true, true, true, true, true, false] rfl rfl (any_of HT_.out kR) (fun _ _ _ h => h) (Or.inl ⟨by rfl, ?_⟩) ?_ ?_
     rotate_left
     ·intro w'
      go_simp
      with_reducible rfl
     rotate_left
     ·simp only [Act.put, sI, sZ, sS, i64_w, i32_w]
      rfl
     refine pure_ (i := 23) (N := some 12) (v := ?_) (a' := ?_) #[true, true, true, true, true, true, true, true, true, true, true, true, true, true, true, true, true, true, true, true, true, true, true, true] rfl rfl (any_of HT_.out kR) (fun _ _ _ h => h) (Or.inl ⟨by rfl, ?_⟩) ?_ ?_
     rotate_left
     ·intro w'
      go_simp
      with_reducible rfl
     rotate_left
     ·simp only [Act.put, sI, sZ, sS, i64_w, i32_w]
      rfl
     refine done_ (done_of HT_.out kR) ?_
     have hnb22 := NB712_713.out
     have hnc22 := NB713_712.out
     have hnb23 := NB712_714.out
     have hnc23 := NB714_712.out
     have hcz24_0 : w21.cell? ⟨gb712, 0, none⟩ = some (.int .i64 ((rd_impl_Peg l0 0).f0)) := (kC BK712.out 0).trans rfl
     have hcz24_1 : w21.cell? ⟨gb712, 1, none⟩ = some (.int .i64 ((rd_impl_Peg l0 0).f1)) := (kC BK712.out 1).trans rfl
     have hfz24_0 := kF BK712.out 0
     have hfz24_1 := kF BK712.out 1
     go_upto_if 98 with (fail)
     go_cut [15, 16, 17] (fun v15 v16 v17 wc => ∃ (kq : Nat) (x15_6 : Int) (x16_6 : Int) (x17_6 : Int), v15 = .int .i64 x15_6 ∧ v16 = .int .i64 x16_6 ∧ v17 = .int .i64 x17_6 ∧ Aside0 (spec_CircleOfThree.j0 kq x15_6 x16_6 x17_6 = some (r1, r2, r3, r4)) ∧ Aside0 (kq ≤ k) ∧ Aside0 (wc.heap[gb712]? = some (.cells #[.int .i64 ((rd_impl_Peg l0 0).f0), .int .i64 ((rd_impl_Peg l0 0).f1)] 34 (0, 0))) ∧ Aside0 (wc.heap[gb713]? = some (.cells #[.int .i64 ((rd_impl_Peg l0 1).f0), .int .i64 ((rd_impl_Peg l0 1).f1)] 34 (0, 0))) ∧ Aside0 (wc.heap[gb714]? = some (.cells #[.int .i64 ((rd_impl_Peg l0 2).f0), .int .i64 ((rd_impl_Peg l0 2).f1)] 34 (0, 0))) ∧ Aside0 (Below w.heap.size w wc))
     case first =>
      have H := HC7.out
      clear HC7
      by_cases c25 : (wrap64 (2 * (wrap64 ((wrap64 ((wrap64 (((rd_impl_Peg l0 1).f0) - ((rd_impl_Peg l0 0).f0))) * (wrap64 (((rd_impl_Peg l0 2).f1) - ((rd_impl_Peg l0 0).f1))))) - (wrap64 ((wrap64 (((rd_impl_Peg l0 1).f1) - ((rd_impl_Peg l0 0).f1))) * (wrap64 (((rd_impl_Peg l0 2).f0) - ((rd_impl_Peg l0 0).f0))))))))) < 0
      ·rw [if_pos c25] at H
       have c25b0 : decide ((wrap64 (2 * (wrap64 ((wrap64 ((wrap64 (((rd_impl_Peg l0 1).f0) - ((rd_impl_Peg l0 0).f0))) * (wrap64 (((rd_impl_Peg l0 2).f1) - ((rd_impl_Peg l0 0).f1))))) - (wrap64 ((wrap64 (((rd_impl_Peg l0 1).f1) - ((rd_impl_Peg l0 0).f1))) * (wrap64 (((rd_impl_Peg l0 2).f0) - ((rd_impl_Peg l0 0).f0))))))))) < 0) = true := dE c25
       clear c25
       (first | rw [c25b0] | (simp only [i64_w, i32_w]; rw [c25b0]) | skip)
       have H' := aM H
       clear H
       go_wp2
       go_meet
       case rel => exact ⟨_, (wrap64 (-(wrap64 (2 * (wrap64 ((wrap64 ((wrap64 (((rd_impl_Peg l0 1).f0) - ((rd_impl_Peg l0 0).f0))) * (wrap64 (((rd_impl_Peg l0 2).f1) - ((rd_impl_Peg l0 0).f1))))) - (wrap64 ((wrap64 (((rd_impl_Peg l0 1).f1) - ((rd_impl_Peg l0 0).f1))) * (wrap64 (((rd_impl_Peg l0 2).f0) - ((rd_impl_Peg l0 0).f0))))))))))), (wrap64 (-(wrap64 ((wrap64 ((wrap64 ((wrap64 (((rd_impl_Peg l0 2).f1) - ((rd_impl_Peg l0 0).f1))) * (wrap64 ((wrap64 ((wrap64 (((rd_impl_Peg l0 1).f0) - ((rd_impl_Peg l0 0).f0))) * (wrap64 (((rd_impl_Peg l0 1).f0) - ((rd_impl_Peg l0 0).f0))))) + (wrap64 ((wrap64 (((rd_impl_Peg l0 1).f1) - ((rd_impl_Peg l0 0).f1))) * (wrap64 (((rd_impl_Peg l0 1).f1) - ((rd_impl_Peg l0 0).f1))))))))) - (wrap64 ((wrap64 (((rd_impl_Peg l0 1).f1) - ((rd_impl_Peg l0 0).f1))) * (wrap64 ((wrap64 ((wrap64 (((rd_impl_Peg l0 2).f0) - ((rd_impl_Peg l0 0).f0))) * (wrap64 (((rd_impl_Peg l0 2).f0) - ((rd_impl_Peg l0 0).f0))))) + (wrap64 ((wrap64 (((rd_impl_Peg l0 2).f1) - ((rd_impl_Peg l0 0).f1))) * (wrap64 (((rd_impl_Peg l0 2).f1) - ((rd_impl_Peg l0 0).f1))))))))))) + (wrap64 (((rd_impl_Peg l0 0).f0) * (wrap64 (2 * (wrap64 ((wrap64 ((wrap64 (((rd_impl_Peg l0 1).f0) - ((rd_impl_Peg l0 0).f0))) * (wrap64 (((rd_impl_Peg l0 2).f1) - ((rd_impl_Peg l0 0).f1))))) - (wrap64 ((wrap64 (((rd_impl_Peg l0 1).f1) - ((rd_impl_Peg l0 0).f1))) * (wrap64 (((rd_impl_Peg l0 2).f0) - ((rd_impl_Peg l0 0).f0))))))))))))))), (wrap64 (-(wrap64 ((wrap64 ((wrap64 ((wrap64 (((rd_impl_Peg l0 1).f0) - ((rd_impl_Peg l0 0).f0))) * (wrap64 ((wrap64 ((wrap64 (((rd_impl_Peg l0 2).f0) - ((rd_impl_Peg l0 0).f0))) * (wrap64 (((rd_impl_Peg l0 2).f0) - ((rd_impl_Peg l0 0).f0))))) + (wrap64 ((wrap64 (((rd_impl_Peg l0 2).f1) - ((rd_impl_Peg l0 0).f1))) * (wrap64 (((rd_impl_Peg l0 2).f1) - ((rd_impl_Peg l0 0).f1))))))))) - (wrap64 ((wrap64 (((rd_impl_Peg l0 2).f0) - ((rd_impl_Peg l0 0).f0))) * (wrap64 ((wrap64 ((wrap64 (((rd_impl_Peg l0 1).f0) - ((rd_impl_Peg l0 0).f0))) * (wrap64 (((rd_impl_Peg l0 1).f0) - ((rd_impl_Peg l0 0).f0))))) + (wrap64 ((wrap64 (((rd_impl_Peg l0 1).f1) - ((rd_impl_Peg l0 0).f1))) * (wrap64 (((rd_impl_Peg l0 1).f1) - ((rd_impl_Peg l0 0).f1))))))))))) + (wrap64 (((rd_impl_Peg l0 0).f1) * (wrap64 (2 * (wrap64 ((wrap64 ((wrap64 (((rd_impl_Peg l0 1).f0) - ((rd_impl_Peg l0 0).f0))) * (wrap64 (((rd_impl_Peg l0 2).f1) - ((rd_impl_Peg l0 0).f1))))) - (wrap64 ((wrap64 (((rd_impl_Peg l0 1).f1) - ((rd_impl_Peg l0 0).f1))) * (wrap64 (((rd_impl_Peg l0 2).f0) - ((rd_impl_Peg l0 0).f0))))))))))))))), eQ, eQ, eQ, H', ⟨by first | omega | exact Nat.le_refl _⟩, ⟨by (with_reducible repeat (first | refine kN ?_ _ | refine kD ?_ | refine kA ?_ _)); exact BK712.out⟩, ⟨by (with_reducible repeat (first | refine kN ?_ _ | refine kD ?_ | refine kA ?_ _)); exact BK713.out⟩, ⟨by (with_reducible repeat (first | refine kN ?_ _ | refine kD ?_ | refine kA ?_ _)); exact BK714.out⟩, ⟨by repeat (first | (with_reducible first | exact HB.out | apply pA | apply pN | apply pD | refine pS ?_ GE712.out | refine pS ?_ GE713.out | refine pS ?_ GE714.out) | exact HB.out)⟩⟩
      ·rw [if_neg c25] at H
       have c25b0 : decide ((wrap64 (2 * (wrap64 ((wrap64 ((wrap64 (((rd_impl_Peg l0 1).f0) - ((rd_impl_Peg l0 0).f0))) * (wrap64 (((rd_impl_Peg l0 2).f1) - ((rd_impl_Peg l0 0).f1))))) - (wrap64 ((wrap64 (((rd_impl_Peg l0 1).f1) - ((rd_impl_Peg l0 0).f1))) * (wrap64 (((rd_impl_Peg l0 2).f0) - ((rd_impl_Peg l0 0).f0))))))))) < 0) = false := decide_eq_false c25
       clear c25
       (first | rw [c25b0] | (simp only [i64_w, i32_w]; rw [c25b0]) | skip)
       have H' := aM H
       clear H
       go_wp2
       go_meet
       case rel => exact ⟨_, (wrap64 (2 * (wrap64 ((wrap64 ((wrap64 (((rd_impl_Peg l0 1).f0) - ((rd_impl_Peg l0 0).f0))) * (wrap64 (((rd_impl_Peg l0 2).f1) - ((rd_impl_Peg l0 0).f1))))) - (wrap64 ((wrap64 (((rd_impl_Peg l0 1).f1) - ((rd_impl_Peg l0 0).f1))) * (wrap64 (((rd_impl_Peg l0 2).f0) - ((rd_impl_Peg l0 0).f0))))))))), (wrap64 ((wrap64 ((wrap64 ((wrap64 (((rd_impl_Peg l0 2).f1) - ((rd_impl_Peg l0 0).f1))) * (wrap64 ((wrap64 ((wrap64 (((rd_impl_Peg l0 1).f0) - ((rd_impl_Peg l0 0).f0))) * (wrap64 (((rd_impl_Peg l0 1).f0) - ((rd_impl_Peg l0 0).f0))))) + (wrap64 ((wrap64 (((rd_impl_Peg l0 1).f1) - ((rd_impl_Peg l0 0).f1))) * (wrap64 (((rd_impl_Peg l0 1).f1) - ((rd_impl_Peg l0 0).f1))))))))) - (wrap64 ((wrap64 (((rd_impl_Peg l0 1).f1) - ((rd_impl_Peg l0 0).f1))) * (wrap64 ((wrap64 ((wrap64 (((rd_impl_Peg l0 2).f0) - ((rd_impl_Peg l0 0).f0))) * (wrap64 (((rd_impl_Peg l0 2).f0) - ((rd_impl_Peg l0 0).f0))))) + (wrap64 ((wrap64 (((rd_impl_Peg l0 2).f1) - ((rd_impl_Peg l0 0).f1))) * (wrap64 (((rd_impl_Peg l0 2).f1) - ((rd_impl_Peg l0 0).f1))))))))))) + (wrap64 (((rd_impl_Peg l0 0).f0) * (wrap64 (2 * (wrap64 ((wrap64 ((wrap64 (((rd_impl_Peg l0 1).f0) - ((rd_impl_Peg l0 0).f0))) * (wrap64 (((rd_impl_Peg l0 2).f1) - ((rd_impl_Peg l0 0).f1))))) - (wrap64 ((wrap64 (((rd_impl_Peg l0 1).f1) - ((rd_impl_Peg l0 0).f1))) * (wrap64 (((rd_impl_Peg l0 2).f0) - ((rd_impl_Peg l0 0).f0))))))))))))), (wrap64 ((wrap64 ((wrap64 ((wrap64 (((rd_impl_Peg l0 1).f0) - ((rd_impl_Peg l0 0).f0))) * (wrap64 ((wrap64 ((wrap64 (((rd_impl_Peg l0 2).f0) - ((rd_impl_Peg l0 0).f0))) * (wrap64 (((rd_impl_Peg l0 2).f0) - ((rd_impl_Peg l0 0).f0))))) + (wrap64 ((wrap64 (((rd_impl_Peg l0 2).f1) - ((rd_impl_Peg l0 0).f1))) * (wrap64 (((rd_impl_Peg l0 2).f1) - ((rd_impl_Peg l0 0).f1))))))))) - (wrap64 ((wrap64 (((rd_impl_Peg l0 2).f0) - ((rd_impl_Peg l0 0).f0))) * (wrap64 ((wrap64 ((wrap64 (((rd_impl_Peg l0 1).f0) - ((rd_impl_Peg l0 0).f0))) * (wrap64 (((rd_impl_Peg l0 1).f0) - ((rd_impl_Peg l0 0).f0))))) + (wrap64 ((wrap64 (((rd_impl_Peg l0 1).f1) - ((rd_impl_Peg l0 0).f1))) * (wrap64 (((rd_impl_Peg l0 1).f1) - ((rd_impl_Peg l0 0).f1))))))))))) + (wrap64 (((rd_impl_Peg l0 0).f1) * (wrap64 (2 * (wrap64 ((wrap64 ((wrap64 (((rd_impl_Peg l0 1).f0) - ((rd_impl_Peg l0 0).f0))) * (wrap64 (((rd_impl_Peg l0 2).f1) - ((rd_impl_Peg l0 0).f1))))) - (wrap64 ((wrap64 (((rd_impl_Peg l0 1).f1) - ((rd_impl_Peg l0 0).f1))) * (wrap64 (((rd_impl_Peg l0 2).f0) - ((rd_impl_Peg l0 0).f0))))))))))))), eQ, eQ, eQ, H', ⟨by first | omega | exact Nat.le_refl _⟩, ⟨by (with_reducible repeat (first | refine kN ?_ _ | refine kD ?_ | refine kA ?_ _)); exact BK712.out⟩, ⟨by (with_reducible repeat (first | refine kN ?_ _ | refine kD ?_ | refine kA ?_ _)); exact BK713.out⟩, ⟨by (with_reducible repeat (first | refine kN ?_ _ | refine kD ?_ | refine kA ?_ _)); exact BK714.out⟩, ⟨by repeat (first | (with_reducible first | exact HB.out | apply pA | apply pN | apply pD | refine pS ?_ GE712.out | refine pS ?_ GE713.out | refine pS ?_ GE714.out) | exact HB.out)⟩⟩
     case rest =>
      clear HC7
      try clear c2
      try clear p2
      try clear p6
      try clear c22
      try clear c23
      try clear c25
      try clear c25b0
      try clear hcz24_0
      try clear hcz24_1
      try clear hfz24_0
      try clear hfz24_1
      obtain ⟨kq, x15_6, x16_6, x17_6, rfl, rfl, rfl, HA, HJ6, BK712, BK713, BK714, HB⟩ := hcut
      cases kq with
      | zero => exact absurd HA.out (by simp [spec_CircleOfThree.j0])
      | succ kj6 =>
       have H := HA.out
       clear HA
       simp only [spec_CircleOfThree.j0] at H
       replace H := oB.mp H
       obtain ⟨t715, A260, H⟩ := H
       replace H : ((spec_pgCommon.f kj6 t715 x15_6).bind fun t716 => (if t716 = 0 then (none) else (some (wrap64 (Int.tdiv x16_6 t716), wrap64 (Int.tdiv x17_6 t716), wrap64 (Int.tdiv x15_6 t716), true)))) = some (r1, r2, r3, r4) := H
       have A26 := aM A260
       clear A260
       replace H := oB.mp H
       obtain ⟨t716, A270, H⟩ := H
       replace H : (if t716 = 0 then (none) else (some (wrap64 (Int.tdiv x16_6 t716), wrap64 (Int.tdiv x17_6 t716), wrap64 (Int.tdiv x15_6 t716), true))) = some (r1, r2, r3, r4) := H
       have A27 := aM A270
       clear A270
       by_cases c28 : t716 = 0
       ·rw [if_pos c28] at H
        exact absurd H (by simp)
       ·rw [if_neg c28] at H
        have c28b0 : (t716 == 0) = false := beq_eq_false_iff_ne.mpr c28
        have c28b1 : (t716 != 0) = true := bne_iff_ne.mpr c28
        simp only [Option.some.injEq, Prod.mk.injEq] at H
        obtain ⟨rfl, rfl, rfl, rfl⟩ := H
        try go_wp2_with (first | ((with_reducible refine gC (f := 110) rfl ?_); refine goesL_ (some 107) rfl rfl Try.func110 kR rfl #[.int .i64 x16_6, .int .i64 x17_6] rfl sQ ?_; (with_reducible refine (spec_pgCommon.calls kj6 x16_6 x17_6 t715 _ A26.out).mono ?_); rintro e w' ⟨rfl, ⟨nd, rfl⟩⟩; refine ⟨_, rfl, ?_⟩) | ((with_reducible refine gC (f := 110) rfl ?_); refine goesL_ (some 109) rfl rfl Try.func110 kR rfl #[.int .i64 t715, .int .i64 x15_6] rfl sQ ?_; (with_reducible refine (spec_pgCommon.calls kj6 t715 x15_6 t716 _ A27.out).mono ?_); rintro e w' ⟨rfl, ⟨nd, rfl⟩⟩; refine ⟨_, rfl, ?_⟩))
        (try (rw [drewN_self wc]; generalize hq_ : World.drewN wc _ = wc; have n0_ : Aside0 (wc.heap[gb712]? = some (.cells #[.int .i64 ((rd_impl_Peg l0 0).f0), .int .i64 ((rd_impl_Peg l0 0).f1)] 34 (0, 0))) := ⟨by rw [← hq_]; exact (gQ BK712)⟩; have n1_ : Aside0 (wc.heap[gb713]? = some (.cells #[.int .i64 ((rd_impl_Peg l0 1).f0), .int .i64 ((rd_impl_Peg l0 1).f1)] 34 (0, 0))) := ⟨by rw [← hq_]; exact (gQ BK713)⟩; have n2_ : Aside0 (wc.heap[gb714]? = some (.cells #[.int .i64 ((rd_impl_Peg l0 2).f0), .int .i64 ((rd_impl_Peg l0 2).f1)] 34 (0, 0))) := ⟨by rw [← hq_]; exact (gQ BK714)⟩; have n3_ : Aside0 (Below w.heap.size w wc) := ⟨by rw [← hq_]; exact (by repeat (first | (with_reducible first | exact HB.out | apply pA | apply pN | apply pD | refine pS ?_ GE712.out | refine pS ?_ GE713.out | refine pS ?_ GE714.out) | exact HB.out))⟩; clear BK712 BK713 BK714 HB hq_; have BK712 := n0_; have BK713 := n1_; have BK714 := n2_; have HB := n3_; clear n0_ n1_ n2_ n3_))
        have n0_ := aM (kD BK712.out)
        have n1_ := aM (kD BK713.out)
        have n2_ := aM (kD BK714.out)
        have n3_ := aM (pD HB.out)
        clear BK712
        clear BK713
        clear BK714
        clear HB
        have BK712 := n0_
        have BK713 := n1_
        have BK714 := n2_
        have HB := n3_
        clear n0_ n1_ n2_ n3_
        refine start_ (n := 13) (S := fun w' => True) (ds := []) #[false, false, false, false, false, false, false, false, false, false, false, false, false] kR rfl rfl trivial (fun hHeld => ?_); refine with_tabW spec_CircleOfThree.tab14 spec_CircleOfThree.bits14 (fun HT_ HW_ => ?_)
        generalize wc.drew = w29 at BK712 BK713 BK714 HB hHeld ⊢
        refine pure_ (i := 0) (N := some 110) (v := ?_) (a' := ?_) #[true, false, false, false, false, false, false, false, false, false, false, false, false] rfl rfl (any_of HT_.out kR) (fun _ _ _ h => h) (Or.inl ⟨by rfl, ?_⟩) ?_ ?_
        rotate_left
        ·intro w'
         go_simp
         with_reducible rfl
        rotate_left
        ·simp only [Act.put, sI, sZ, sS, i64_w, i32_w]
         rfl
        refine pure_ (i := 1) (N := some 111) (v := ?_) (a' := ?_) #[true, true, false, false, false, false, false, false, false, false, false, false, false] rfl rfl (any_of HT_.out kR) (fun _ _ _ h => h) (Or.inl ⟨by rfl, ?_⟩) ?_ ?_
        rotate_left
        ·intro w'
         go_simp
         with_reducible rfl
        rotate_left
        ·simp only [Act.put, sI, sZ, sS, i64_w, i32_w]
         rfl
        refine pure_ (i := 2) (N := some 112) (v := ?_) (a' := ?_) #[true, true, true, false, false, false, false, false, false, false, false, false, false] rfl rfl (any_of HT_.out kR) (fun _ _ _ h => h) (Or.inl ⟨by rfl, ?_⟩) ?_ ?_
        rotate_left
        ·intro w'
         go_simp
         with_reducible rfl
        rotate_left
        ·simp only [Act.put, sI, sZ, sS, i64_w, i32_w]
         rfl
        refine pure_ (i := 3) (N := some 113) (v := ?_) (a' := ?_) #[true, true, true, true, false, false, false, false, false, false, false, false, false] rfl rfl (any_of HT_.out kR) (fun _ _ _ h => h) (Or.inl ⟨by rfl, ?_⟩) ?_ ?_
        rotate_left
        ·intro w'
         go_simp
         with_reducible rfl
        rotate_left
        ·simp only [Act.put, sI, sZ, sS, i64_w, i32_w]
         rfl
        refine pure_ (i := 4) (N := some 114) (v := ?_) (a' := ?_) #[true, true, true, true, true, false, false, false, false, false, false, false, false] rfl rfl (any_of HT_.out kR) (fun _ _ _ h => h) (Or.inl ⟨by rfl, ?_⟩) ?_ ?_
        rotate_left
        ·intro w'
         go_simp
         with_reducible rfl
        rotate_left
        ·simp only [Act.put, sI, sZ, sS, i64_w, i32_w]
         rfl
        refine pure_ (i := 5) (N := some 115) (v := ?_) (a' := ?_) #[true, true, true, true, true, true, false, false, false, false, false, false, false] rfl rfl (any_of HT_.out kR) (fun _ _ _ h => h) (Or.inl ⟨by rfl, ?_⟩) ?_ ?_
        rotate_left
        ·intro w'
         go_simp
         with_reducible rfl
        rotate_left
        ·simp only [Act.put, sI, sZ, sS, i64_w, i32_w]
         rfl
        refine pure_ (i := 6) (N := some 116) (v := ?_) (a' := ?_) #[true, true, true, true, true, true, true, false, false, false, false, false, false] rfl rfl (any_of HT_.out kR) (fun _ _ _ h => h) (Or.inl ⟨by rfl, ?_⟩) ?_ ?_
        rotate_left
        ·intro w'
         go_simp
         with_reducible rfl
        rotate_left
        ·simp only [Act.put, sI, sZ, sS, i64_w, i32_w]
         rfl
        refine pure_ (i := 7) (N := some 117) (v := ?_) (a' := ?_) #[true, true, true, true, true, true, true, true, false, false, false, false, false] rfl rfl (any_of HT_.out kR) (fun _ _ _ h => h) (Or.inl ⟨by rfl, ?_⟩) ?_ ?_
        rotate_left
        ·intro w'
         go_simp
         with_reducible rfl
        rotate_left
        ·simp only [Act.put, sI, sZ, sS, i64_w, i32_w]
         rfl
        refine pure_ (i := 8) (N := some 118) (v := ?_) (a' := ?_) #[true, true, true, true, true, true, true, true, true, false, false, false, false] rfl rfl (any_of HT_.out kR) (fun _ _ _ h => h) (Or.inl ⟨by rfl, ?_⟩) ?_ ?_
        rotate_left
        ·intro w'
         go_simp
         with_reducible rfl
        rotate_left
        ·simp only [Act.put, sI, sZ, sS, i64_w, i32_w]
         rfl
        refine pure_ (i := 9) (N := some 2) (v := ?_) (a' := ?_) #[true, true, true, true, true, true, true, true, true, true, false, false, false] rfl rfl (any_of HT_.out kR) (fun _ _ _ h => h) (Or.inl ⟨by rfl, ?_⟩) ?_ ?_
        rotate_left
        ·intro w'
         go_simp
         with_reducible rfl
        rotate_left
        ·simp only [Act.put, sI, sZ, sS, i64_w, i32_w]
         rfl
        refine pure_ (i := 10) (N := some 3) (v := ?_) (a' := ?_) #[true, true, true, true, true, true, true, true, true, true, true, false, false] rfl rfl (any_of HT_.out kR) (fun _ _ _ h => h) (Or.inl ⟨by rfl, ?_⟩) ?_ ?_
        rotate_left
        ·intro w'
         go_simp
         with_reducible rfl
        rotate_left
        ·simp only [Act.put, sI, sZ, sS, i64_w, i32_w]
         rfl
        refine pure_ (i := 11) (N := some 4) (v := ?_) (a' := ?_) #[true, true, true, true, true, true, true, true, true, true, true, true, false] rfl rfl (any_of HT_.out kR) (fun _ _ _ h => h) (Or.inl ⟨by rfl, ?_⟩) ?_ ?_
        rotate_left
        ·intro w'
         go_simp
         with_reducible rfl
        rotate_left
        ·simp only [Act.put, sI, sZ, sS, i64_w, i32_w]
         rfl
        refine pure_ (i := 12) (N := some 5) (v := ?_) (a' := ?_) #[true, true, true, true, true, true, true, true, true, true, true, true, true] rfl rfl (any_of HT_.out kR) (fun _ _ _ h => h) (Or.inl ⟨by rfl, ?_⟩) ?_ ?_
        rotate_left
        ·intro w'
         go_simp
         with_reducible rfl
        rotate_left
        ·simp only [Act.put, sI, sZ, sS, i64_w, i32_w]
         rfl
        refine done_ (done_of HT_.out kR) ?_
        try go_wp2
        refine bodyPost_ret (results_list (rs := [.tmp 2, .tmp 3, .tmp 4, .tmp 5]) rfl (by simp) (.tmp (.tmp (.tmp (.tmp .nil))))) rfl ?_
        exact ⟨by first | rfl | (simp [errW_none, errW_some] <;> rfl) | (simp [*, errW_none, errW_some] <;> rfl), by repeat (first | (with_reducible first | exact HB.out | apply pA | apply pN | apply pD | refine pS ?_ GE712.out | refine pS ?_ GE713.out | refine pS ?_ GE714.out) | exact HB.out)⟩
    ·rw [if_neg c6] at H
     exact absurd H (by simp)
   ·rw [if_neg c5] at H
    exact absurd H (by simp)
  ·rw [if_neg c4] at H
   exact absurd H (by simp)
 ·replace c3 := Bool.eq_false_iff.mpr c3
  subst c3
  have H1 : (some (0, 0, 0, false)) = some (r1, r2, r3, r4) := by rw [if_neg (show ¬ (false = true) by decide)] at H; exact H
  clear H
  have H := H1
  clear H1
  simp only [Option.some.injEq, Prod.mk.injEq] at H
  obtain ⟨rfl, rfl, rfl, rfl⟩ := H
  go_enter Try.func54, Try.ntmps54
  go_wp2_with (first | ((with_reducible refine gC (f := 95) rfl ?_); refine goesL_ (some 20) rfl rfl Try.func95 kR rfl #[.slice A0 l0.length c0] rfl sQ ?_; (with_reducible refine (spec_trThree.calls k _ _ l0 false _ ?side1 ?side2 A2.out).mono ?_); (case side1 => repeat (first | exact HR0.out | (with_reducible refine cA ?_ _) | (with_reducible refine cN ?_ _) | (with_reducible refine cD ?_))); (case side2 => exact HC0.out); rintro e w30 ⟨rfl, hb⟩; refine ⟨_, rfl, ?_⟩; have n0_ := aM (pT bQ hb); clear HB; have HB := n0_; clear n0_; (try clear hb); (try clear hb2); (try clear hk); (try clear hi)))
  refine bodyPost_ret (results_list (rs := [.tmp 2, .tmp 3, .tmp 4, .tmp 5]) rfl (by simp) (.tmp (.tmp (.tmp (.tmp .nil))))) rfl ?_
  exact ⟨by first | rfl | (simp [errW_none, errW_some] <;> rfl) | (simp [*, errW_none, errW_some] <;> rfl), bQ⟩

end Go.Proofs.Ytiacfkilmknldaa.X
