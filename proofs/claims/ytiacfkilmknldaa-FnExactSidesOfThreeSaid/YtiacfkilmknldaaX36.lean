-- thin
-- short
import Derived.Test.YtiacfkilmknldaaXA
import Derived.Test.YtiacfkilmknldaaX0
import Derived.Test.YtiacfkilmknldaaX7
import Derived.Test.YtiacfkilmknldaaX25
import Derived.Test.YtiacfkilmknldaaX35
namespace Go.Proofs.Ytiacfkilmknldaa.X
open Go.RowKit Go.Proofs.Ytiacfkilmknldaa.XW Go.Proofs.YtiacfkilmknldaaW.PrintWords Go.Proofs.YtiacfkilmknldaaW.PrintLast Go.Proofs.YtiacfkilmknldaaW.PrintMore
attribute [local go_sem] max2_int min2_int max_two min_two max_three min_three max_four min_four   -- for this text's walks alone
set_option linter.unusedVariables false
set_option linter.unusedSimpArgs false

def impl_sides.f (l0 : List (S_impl_Peg)) : Option (List Int) := if 1 < (l0.length : Int) then (if 2 < (l0.length : Int) then ((impl_Peg_less.f ((rd_impl_Peg l0 1).f0) ((rd_impl_Peg l0 1).f1) ((rd_impl_Peg l0 2).f0) ((rd_impl_Peg l0 2).f1)).bind fun bt653 => ((impl_Peg_square.f bt653.1 bt653.2).bind fun t655 => (if 0 < (l0.length : Int) then ((impl_Peg_less.f ((rd_impl_Peg l0 2).f0) ((rd_impl_Peg l0 2).f1) ((rd_impl_Peg l0 0).f0) ((rd_impl_Peg l0 0).f1)).bind fun bt658 => ((impl_Peg_square.f bt658.1 bt658.2).bind fun t660 => ((impl_Peg_less.f ((rd_impl_Peg l0 0).f0) ((rd_impl_Peg l0 0).f1) ((rd_impl_Peg l0 1).f0) ((rd_impl_Peg l0 1).f1)).bind fun bt663 => ((impl_Peg_square.f bt663.1 bt663.2).bind fun t665 => (some (([t655, t660, t665] : List Int))))))) else (none)))) else (none)) else (none)
def impl_sides.T1 : Bool × List (List Nat × List Nat) := (true, [([], []), ([0], [0]), ([1], [1]), ([], []), ([3], [3]), ([4], [4]), ([2, 5], [2, 5]), ([6, 6], [6]), ([], []), ([8], [8]), ([9], [9]), ([], []), ([11], [11]), ([12], [12]), ([10, 13, 7], [10, 13]), ([14, 14], [14]), ([], []), ([16], [16]), ([17], [17]), ([], []), ([19], [19]), ([20], [20]), ([18, 21, 15], [18, 21]), ([22, 22], [22]), ([7, 15, 23], [7, 15, 23]), ([24, 23, 0, 1, 2, 3, 4, 5, 6, 7, 8, 9, 10, 11, 12, 13, 14, 15, 16, 17, 18, 19, 20, 21, 22, 23, 24], [24])])
def impl_sides.B1 : List Nat := [0, 1, 3, 0, 8, 24, 63, 127, 0, 256, 768, 0, 2048, 6144, 16383, 32767, 0, 65536, 196608, 0, 524288, 1572864, 4194303, 8388607, 16777215, 33554431]
theorem impl_sides.tab1 : rtab .any (opsOf Try.f106 1) = impl_sides.T1 := by kernel_rfl
theorem impl_sides.bits1 : waitsOk impl_sides.T1.2 impl_sides.B1 = true := by kernel_rfl
set_option maxHeartbeats 8000000 in
set_option maxRecDepth 100000 in
theorem impl_sides.calls (A0 : Option Addr) (c0 : Nat) (l0 : List (S_impl_Peg)) (r : List Int) (w : World) (hr0 : Kd.C kd_impl_Peg w A0 l0.length l0) (hc0 : l0.length ≤ c0) (h : impl_sides.f l0 = some r) :
  Calls Try.prog 106 #[.slice A0 l0.length c0] w fun e w' => ∃ v0_ : Value, e = .returned (v0_) ∧ Kd.R (Kd.int .i64) 3 w' w.heap.size (fun _ => True) v0_ r ∧ Below w.heap.size w w' := by
 have hu34 := Try.underlying34
 have HR0 := aM hr0
 have HC0 := aM hc0
 clear hr0 hc0
 have HB := aM (Below.refl w.heap.size w)
 have H : (if 1 < (l0.length : Int) then (if 2 < (l0.length : Int) then ((impl_Peg_less.f ((rd_impl_Peg l0 1).f0) ((rd_impl_Peg l0 1).f1) ((rd_impl_Peg l0 2).f0) ((rd_impl_Peg l0 2).f1)).bind fun bt653 => ((impl_Peg_square.f bt653.1 bt653.2).bind fun t655 => (if 0 < (l0.length : Int) then ((impl_Peg_less.f ((rd_impl_Peg l0 2).f0) ((rd_impl_Peg l0 2).f1) ((rd_impl_Peg l0 0).f0) ((rd_impl_Peg l0 0).f1)).bind fun bt658 => ((impl_Peg_square.f bt658.1 bt658.2).bind fun t660 => ((impl_Peg_less.f ((rd_impl_Peg l0 0).f0) ((rd_impl_Peg l0 0).f1) ((rd_impl_Peg l0 1).f0) ((rd_impl_Peg l0 1).f1)).bind fun bt663 => ((impl_Peg_square.f bt663.1 bt663.2).bind fun t665 => (some (([t655, t660, t665] : List Int))))))) else (none)))) else (none)) else (none)) = some r := h
 clear h
 by_cases c2 : 1 < (l0.length : Int)
 ·rw [if_pos c2] at H
  have c2b0 : decide (1 < (l0.length : Int)) = true := dE c2
  have c2b1 : decide (1 < l0.length) = true := dE (by omega)
  clear c2
  by_cases c3 : 2 < (l0.length : Int)
  ·rw [if_pos c3] at H
   have c3b0 : decide (2 < (l0.length : Int)) = true := dE c3
   have c3b1 : decide (2 < l0.length) = true := dE (by omega)
   clear c3
   replace H := oB.mp H
   obtain ⟨⟨t653, t654⟩, A40, H⟩ := H
   replace H : ((impl_Peg_square.f t653 t654).bind fun t655 => (if 0 < (l0.length : Int) then ((impl_Peg_less.f ((rd_impl_Peg l0 2).f0) ((rd_impl_Peg l0 2).f1) ((rd_impl_Peg l0 0).f0) ((rd_impl_Peg l0 0).f1)).bind fun bt658 => ((impl_Peg_square.f bt658.1 bt658.2).bind fun t660 => ((impl_Peg_less.f ((rd_impl_Peg l0 0).f0) ((rd_impl_Peg l0 0).f1) ((rd_impl_Peg l0 1).f0) ((rd_impl_Peg l0 1).f1)).bind fun bt663 => ((impl_Peg_square.f bt663.1 bt663.2).bind fun t665 => (some (([t655, t660, t665] : List Int))))))) else (none))) = some r := H
   have A4 := aM A40
   clear A40
   replace H := oB.mp H
   obtain ⟨t655, A50, H⟩ := H
   replace H : (if 0 < (l0.length : Int) then ((impl_Peg_less.f ((rd_impl_Peg l0 2).f0) ((rd_impl_Peg l0 2).f1) ((rd_impl_Peg l0 0).f0) ((rd_impl_Peg l0 0).f1)).bind fun bt658 => ((impl_Peg_square.f bt658.1 bt658.2).bind fun t660 => ((impl_Peg_less.f ((rd_impl_Peg l0 0).f0) ((rd_impl_Peg l0 0).f1) ((rd_impl_Peg l0 1).f0) ((rd_impl_Peg l0 1).f1)).bind fun bt663 => ((impl_Peg_square.f bt663.1 bt663.2).bind fun t665 => (some (([t655, t660, t665] : List Int))))))) else (none)) = some r := H
   have A5 := aM A50
   clear A50
   by_cases c6 : 0 < (l0.length : Int)
   ·rw [if_pos c6] at H
    have c6b0 : decide (0 < (l0.length : Int)) = true := dE c6
    have c6b1 : decide (0 < l0.length) = true := dE (by omega)
    clear c6
    replace H := oB.mp H
    obtain ⟨⟨t658, t659⟩, A70, H⟩ := H
    replace H : ((impl_Peg_square.f t658 t659).bind fun t660 => ((impl_Peg_less.f ((rd_impl_Peg l0 0).f0) ((rd_impl_Peg l0 0).f1) ((rd_impl_Peg l0 1).f0) ((rd_impl_Peg l0 1).f1)).bind fun bt663 => ((impl_Peg_square.f bt663.1 bt663.2).bind fun t665 => (some (([t655, t660, t665] : List Int)))))) = some r := H
    have A7 := aM A70
    clear A70
    replace H := oB.mp H
    obtain ⟨t660, A80, H⟩ := H
    replace H : ((impl_Peg_less.f ((rd_impl_Peg l0 0).f0) ((rd_impl_Peg l0 0).f1) ((rd_impl_Peg l0 1).f0) ((rd_impl_Peg l0 1).f1)).bind fun bt663 => ((impl_Peg_square.f bt663.1 bt663.2).bind fun t665 => (some (([t655, t660, t665] : List Int))))) = some r := H
    have A8 := aM A80
    clear A80
    replace H := oB.mp H
    obtain ⟨⟨t663, t664⟩, A90, H⟩ := H
    replace H : ((impl_Peg_square.f t663 t664).bind fun t665 => (some (([t655, t660, t665] : List Int)))) = some r := H
    have A9 := aM A90
    clear A90
    replace H := oB.mp H
    obtain ⟨t665, A100, H⟩ := H
    replace H : (some (([t655, t660, t665] : List Int))) = some r := H
    have A10 := aM A100
    clear A100
    obtain ⟨y666, hy666⟩ : ∃ y_ : List Int, y_ = (([t655, t660, t665] : List Int)) := ⟨_, rfl⟩
    replace H : (some y666) = some r := by first | (rw [hy666]; with_reducible exact H) | (have H2_ := (Option.bind_some _ _).symm.trans H; rw [hy666]; with_reducible exact H2_) | (have H2_ := (Option.bind_some _ _).symm.trans H; with_reducible exact H2_) | with_reducible exact H | (rw [hy666]; exact H) | exact H
    have Ny666 := aM hy666
    clear hy666
    obtain rfl := Option.some.inj H
    go_enter Try.func106, Try.ntmps106
    try go_wp2
    have n0_ := aM (pD HB.out)
    clear HB
    have HB := n0_
    clear n0_
    have p651 : 0 ≤ (1 : Int) := (by omega)
    have q651 : 1 < (l0.length : Int) := dT (by first | (with_reducible assumption) | assumption)
    obtain ⟨ad651, e651, hx651_0, hx651_1⟩ := at_impl_Peg HR0.out 1 p651 q651
    have hw651_1 := hx651_1
    (try rw [show ((1 : Int)).toNat = 1 from rfl] at hw651_1)
    (try rw [show 1 * 2 = 2 from rfl] at hw651_1)
    (try simp only [Nat.reduceMul, Nat.reduceEqDiff, Go.Addr.add, ↓reduceIte] at hw651_1)
    have hw651_0 := hx651_0
    (try rw [show ((1 : Int)).toNat = 1 from rfl] at hw651_0)
    (try rw [show 1 * 2 = 2 from rfl] at hw651_0)
    (try simp only [Nat.reduceMul, Nat.reduceEqDiff, Go.Addr.add, ↓reduceIte] at hw651_0)
    cases e651
    (try simp only [show (1 : Int).toNat = 1 from rfl, Nat.reduceMul, Nat.reduceEqDiff, Go.Addr.add, ↓reduceIte] at hx651_0)
    (try simp only [show (1 : Int).toNat = 1 from rfl, Nat.reduceMul, Nat.reduceEqDiff, Go.Addr.add, ↓reduceIte] at hx651_1)
    have qi651 : (1 < l0.length) = True := eq_true (by omega)
    (try rw [show ((1 : Int)).toNat = 1 from rfl] at hx651_0)
    (try rw [show 1 * 2 = 2 from rfl] at hx651_0)
    (try rw [show ((1 : Int)).toNat = 1 from rfl] at hx651_1)
    (try rw [show 1 * 2 = 2 from rfl] at hx651_1)
    replace hx651_0 := (HB.out.cell (wB w _ hx651_0)).trans hx651_0
    replace hx651_1 := (HB.out.cell (wB w _ hx651_1)).trans hx651_1
    replace p651 := eq_true p651
    replace q651 := eq_true q651
    have p652 : 0 ≤ (2 : Int) := (by omega)
    have q652 : 2 < (l0.length : Int) := dT (by first | (with_reducible assumption) | assumption)
    obtain ⟨ad652, e652, hx652_0, hx652_1⟩ := at_impl_Peg HR0.out 2 p652 q652
    have hw652_1 := hx652_1
    (try rw [show ((2 : Int)).toNat = 2 from rfl] at hw652_1)
    (try rw [show 2 * 2 = 4 from rfl] at hw652_1)
    (try simp only [Nat.reduceMul, Nat.reduceEqDiff, Go.Addr.add, ↓reduceIte] at hw652_1)
    have hw652_0 := hx652_0
    (try rw [show ((2 : Int)).toNat = 2 from rfl] at hw652_0)
    (try rw [show 2 * 2 = 4 from rfl] at hw652_0)
    (try simp only [Nat.reduceMul, Nat.reduceEqDiff, Go.Addr.add, ↓reduceIte] at hw652_0)
    obtain rfl : ad651 = ad652 := (by injection e652)
    (try simp only [show (2 : Int).toNat = 2 from rfl, Nat.reduceMul, Nat.reduceEqDiff, Go.Addr.add, ↓reduceIte] at hx652_0)
    (try simp only [show (2 : Int).toNat = 2 from rfl, Nat.reduceMul, Nat.reduceEqDiff, Go.Addr.add, ↓reduceIte] at hx652_1)
    have qi652 : (2 < l0.length) = True := eq_true (by omega)
    (try rw [show ((2 : Int)).toNat = 2 from rfl] at hx652_0)
    (try rw [show 2 * 2 = 4 from rfl] at hx652_0)
    (try rw [show ((2 : Int)).toNat = 2 from rfl] at hx652_1)
    (try rw [show 2 * 2 = 4 from rfl] at hx652_1)
    replace hx652_0 := (HB.out.cell (wB w _ hx652_0)).trans hx652_0
    replace hx652_1 := (HB.out.cell (wB w _ hx652_1)).trans hx652_1
    replace p652 := eq_true p652
    replace q652 := eq_true q652
    have p656 : 0 ≤ (2 : Int) := (by omega)
    have q656 : 2 < (l0.length : Int) := dT (by first | (with_reducible assumption) | assumption)
    obtain ⟨ad656, e656, hx656_0, hx656_1⟩ := at_impl_Peg HR0.out 2 p656 q656
    have hw656_1 := hx656_1
    (try rw [show ((2 : Int)).toNat = 2 from rfl] at hw656_1)
    (try rw [show 2 * 2 = 4 from rfl] at hw656_1)
    (try simp only [Nat.reduceMul, Nat.reduceEqDiff, Go.Addr.add, ↓reduceIte] at hw656_1)
    have hw656_0 := hx656_0
    (try rw [show ((2 : Int)).toNat = 2 from rfl] at hw656_0)
    (try rw [show 2 * 2 = 4 from rfl] at hw656_0)
    (try simp only [Nat.reduceMul, Nat.reduceEqDiff, Go.Addr.add, ↓reduceIte] at hw656_0)
    obtain rfl : ad651 = ad656 := (by injection e656)
    (try simp only [show (2 : Int).toNat = 2 from rfl, Nat.reduceMul, Nat.reduceEqDiff, Go.Addr.add, ↓reduceIte] at hx656_0)
    (try simp only [show (2 : Int).toNat = 2 from rfl, Nat.reduceMul, Nat.reduceEqDiff, Go.Addr.add, ↓reduceIte] at hx656_1)
    have qi656 : (2 < l0.length) = True := eq_true (by omega)
    (try rw [show ((2 : Int)).toNat = 2 from rfl] at hx656_0)
    (try rw [show 2 * 2 = 4 from rfl] at hx656_0)
    (try rw [show ((2 : Int)).toNat = 2 from rfl] at hx656_1)
    (try rw [show 2 * 2 = 4 from rfl] at hx656_1)
    replace hx656_0 := (HB.out.cell (wB w _ hx656_0)).trans hx656_0
    replace hx656_1 := (HB.out.cell (wB w _ hx656_1)).trans hx656_1
    replace p656 := eq_true p656
    replace q656 := eq_true q656
    have p657 : 0 ≤ (0 : Int) := (by omega)
    have q657 : 0 < (l0.length : Int) := dT (by first | (with_reducible assumption) | assumption)
    obtain ⟨ad657, e657, hx657_0, hx657_1⟩ := at_impl_Peg HR0.out 0 p657 q657
    have hw657_1 := hx657_1
    (try rw [show ((0 : Int)).toNat = 0 from rfl] at hw657_1)
    (try rw [show 0 * 2 = 0 from rfl] at hw657_1)
    (try rw [Addr.add_zero'] at hw657_1)
    have hw657_0 := hx657_0
    (try rw [show ((0 : Int)).toNat = 0 from rfl] at hw657_0)
    (try rw [show 0 * 2 = 0 from rfl] at hw657_0)
    (try rw [Addr.add_zero'] at hw657_0)
    obtain rfl : ad651 = ad657 := (by injection e657)
    have qi657 : (0 < l0.length) = True := eq_true (by omega)
    (try rw [show ((0 : Int)).toNat = 0 from rfl] at hx657_0)
    (try rw [show 0 * 2 = 0 from rfl] at hx657_0)
    (try rw [Addr.add_zero'] at hx657_0)
    (try rw [show ((0 : Int)).toNat = 0 from rfl] at hx657_1)
    (try rw [show 0 * 2 = 0 from rfl] at hx657_1)
    (try rw [Addr.add_zero'] at hx657_1)
    replace hx657_0 := (HB.out.cell (wB w _ hx657_0)).trans hx657_0
    replace hx657_1 := (HB.out.cell (wB w _ hx657_1)).trans hx657_1
    replace p657 := eq_true p657
    replace q657 := eq_true q657
    have p661 : 0 ≤ (0 : Int) := (by omega)
    have q661 : 0 < (l0.length : Int) := dT (by first | (with_reducible assumption) | assumption)
    obtain ⟨ad661, e661, hx661_0, hx661_1⟩ := at_impl_Peg HR0.out 0 p661 q661
    have hw661_1 := hx661_1
    (try rw [show ((0 : Int)).toNat = 0 from rfl] at hw661_1)
    (try rw [show 0 * 2 = 0 from rfl] at hw661_1)
    (try rw [Addr.add_zero'] at hw661_1)
    have hw661_0 := hx661_0
    (try rw [show ((0 : Int)).toNat = 0 from rfl] at hw661_0)
    (try rw [show 0 * 2 = 0 from rfl] at hw661_0)
    (try rw [Addr.add_zero'] at hw661_0)
    obtain rfl : ad651 = ad661 := (by injection e661)
    have qi661 : (0 < l0.length) = True := eq_true (by omega)
    (try rw [show ((0 : Int)).toNat = 0 from rfl] at hx661_0)
    (try rw [show 0 * 2 = 0 from rfl] at hx661_0)
    (try rw [Addr.add_zero'] at hx661_0)
    (try rw [show ((0 : Int)).toNat = 0 from rfl] at hx661_1)
    (try rw [show 0 * 2 = 0 from rfl] at hx661_1)
    (try rw [Addr.add_zero'] at hx661_1)
    replace hx661_0 := (HB.out.cell (wB w _ hx661_0)).trans hx661_0
    replace hx661_1 := (HB.out.cell (wB w _ hx661_1)).trans hx661_1
    replace p661 := eq_true p661
    replace q661 := eq_true q661
    have p662 : 0 ≤ (1 : Int) := (by omega)
    have q662 : 1 < (l0.length : Int) := dT (by first | (with_reducible assumption) | assumption)
    obtain ⟨ad662, e662, hx662_0, hx662_1⟩ := at_impl_Peg HR0.out 1 p662 q662
    have hw662_1 := hx662_1
    (try rw [show ((1 : Int)).toNat = 1 from rfl] at hw662_1)
    (try rw [show 1 * 2 = 2 from rfl] at hw662_1)
    (try simp only [Nat.reduceMul, Nat.reduceEqDiff, Go.Addr.add, ↓reduceIte] at hw662_1)
    have hw662_0 := hx662_0
    (try rw [show ((1 : Int)).toNat = 1 from rfl] at hw662_0)
    (try rw [show 1 * 2 = 2 from rfl] at hw662_0)
    (try simp only [Nat.reduceMul, Nat.reduceEqDiff, Go.Addr.add, ↓reduceIte] at hw662_0)
    obtain rfl : ad651 = ad662 := (by injection e662)
    (try simp only [show (1 : Int).toNat = 1 from rfl, Nat.reduceMul, Nat.reduceEqDiff, Go.Addr.add, ↓reduceIte] at hx662_0)
    (try simp only [show (1 : Int).toNat = 1 from rfl, Nat.reduceMul, Nat.reduceEqDiff, Go.Addr.add, ↓reduceIte] at hx662_1)
    have qi662 : (1 < l0.length) = True := eq_true (by omega)
    (try rw [show ((1 : Int)).toNat = 1 from rfl] at hx662_0)
    (try rw [show 1 * 2 = 2 from rfl] at hx662_0)
    (try rw [show ((1 : Int)).toNat = 1 from rfl] at hx662_1)
    (try rw [show 1 * 2 = 2 from rfl] at hx662_1)
    replace hx662_0 := (HB.out.cell (wB w _ hx662_0)).trans hx662_0
    replace hx662_1 := (HB.out.cell (wB w _ hx662_1)).trans hx662_1
    replace p662 := eq_true p662
    replace q662 := eq_true q662
    refine start_ (n := 26) (S := fun w' => w'.cell? ⟨ad651.block, ad651.off + 2, none⟩ = some (.int .i64 ((rd_impl_Peg l0 1).f0)) ∧ w'.cell? ⟨ad651.block, ad651.off + 2 + 1, none⟩ = some (.int .i64 ((rd_impl_Peg l0 1).f1)) ∧ w'.cell? ⟨ad651.block, ad651.off + 4, none⟩ = some (.int .i64 ((rd_impl_Peg l0 2).f0)) ∧ w'.cell? ⟨ad651.block, ad651.off + 4 + 1, none⟩ = some (.int .i64 ((rd_impl_Peg l0 2).f1)) ∧ w'.cell? ⟨ad651.block, ad651.off + 4, none⟩ = some (.int .i64 ((rd_impl_Peg l0 2).f0)) ∧ w'.cell? ⟨ad651.block, ad651.off + 4 + 1, none⟩ = some (.int .i64 ((rd_impl_Peg l0 2).f1)) ∧ w'.cell? ad651 = some (.int .i64 ((rd_impl_Peg l0 0).f0)) ∧ w'.cell? ⟨ad651.block, ad651.off + 1, none⟩ = some (.int .i64 ((rd_impl_Peg l0 0).f1)) ∧ w'.cell? ad651 = some (.int .i64 ((rd_impl_Peg l0 0).f0)) ∧ w'.cell? ⟨ad651.block, ad651.off + 1, none⟩ = some (.int .i64 ((rd_impl_Peg l0 0).f1)) ∧ w'.cell? ⟨ad651.block, ad651.off + 2, none⟩ = some (.int .i64 ((rd_impl_Peg l0 1).f0)) ∧ w'.cell? ⟨ad651.block, ad651.off + 2 + 1, none⟩ = some (.int .i64 ((rd_impl_Peg l0 1).f1))) (ds := []) #[false, false, false, false, false, false, false, false, false, false, false, false, false, false, false, false, false, false, false, false, false, false, false, false, false, false] (by kernel_rfl) rfl rfl ⟨((HB.out.cell (wB w _ hw651_0)).trans hw651_0), ((HB.out.cell (wB w _ hw651_1)).trans hw651_1), ((HB.out.cell (wB w _ hw652_0)).trans hw652_0), ((HB.out.cell (wB w _ hw652_1)).trans hw652_1), ((HB.out.cell (wB w _ hw656_0)).trans hw656_0), ((HB.out.cell (wB w _ hw656_1)).trans hw656_1), ((HB.out.cell (wB w _ hw657_0)).trans hw657_0), ((HB.out.cell (wB w _ hw657_1)).trans hw657_1), ((HB.out.cell (wB w _ hw661_0)).trans hw661_0), ((HB.out.cell (wB w _ hw661_1)).trans hw661_1), ((HB.out.cell (wB w _ hw662_0)).trans hw662_0), ((HB.out.cell (wB w _ hw662_1)).trans hw662_1)⟩ (fun hHeld => ?_); refine with_tabW impl_sides.tab1 impl_sides.bits1 (fun HT_ HW_ => ?_)
    generalize w.drew = w11 at HB hx651_0 hx651_1 hx652_0 hx652_1 hx656_0 hx656_1 hx657_0 hx657_1 hx661_0 hx661_1 hx662_0 hx662_1 hHeld ⊢
    refine pure_ (i := 0) (N := some 3) (v := ?_) (a' := ?_) #[true, false, false, false, false, false, false, false, false, false, false, false, false, false, false, false, false, false, false, false, false, false, false, false, false, false] rfl rfl (any_of HT_.out (by kernel_rfl)) (fun _ _ _ h => h) (Or.inl ⟨by rfl, ?_⟩) ?_ ?_
    rotate_left
    ·intro w'
     go_simp
     with_reducible rfl
    rotate_left
    ·simp only [Act.put, sI, sZ, sS, i64_w, i32_w]
     rfl
    refine pure_ (i := 1) (N := some 4) (v := ?_) (a' := ?_) #[true, true, false, false, false, false, false, false, false, false, false, false, false, false, false, false, false, false, false, false, false, false, false, false, false, false] rfl rfl (any_of HT_.out (by kernel_rfl)) (fun _ _ _ h => h) (Or.inl ⟨by rfl, ?_⟩) ?_ ?_
    rotate_left
    ·intro w'
     go_simp
     with_reducible rfl
    rotate_left
    ·simp only [Act.put, sI, sZ, sS, i64_w, i32_w]
     rfl
    refine pure_ (i := 3) (N := some 6) (v := ?_) (a' := ?_) #[true, true, false, true, false, false, false, false, false, false, false, false, false, false, false, false, false, false, false, false, false, false, false, false, false, false] rfl rfl (any_of HT_.out (by kernel_rfl)) (fun _ _ _ h => h) (Or.inl ⟨by rfl, ?_⟩) ?_ ?_
    rotate_left
    ·intro w'
     go_simp
     with_reducible rfl
    rotate_left
    ·simp only [Act.put, sI, sZ, sS, i64_w, i32_w]
     rfl
    refine pure_ (i := 4) (N := some 7) (v := ?_) (a' := ?_) #[true, true, false, true, true, false, false, false, false, false, false, false, false, false, false, false, false, false, false, false, false, false, false, false, false, false] rfl rfl (any_of HT_.out (by kernel_rfl)) (fun _ _ _ h => h) (Or.inl ⟨by rfl, ?_⟩) ?_ ?_
    rotate_left
    ·intro w'
     go_simp
     with_reducible rfl
    rotate_left
    ·simp only [Act.put, sI, sZ, sS, i64_w, i32_w]
     rfl
    refine pure_ (i := 8) (N := some 11) (v := ?_) (a' := ?_) #[true, true, false, true, true, false, false, false, true, false, false, false, false, false, false, false, false, false, false, false, false, false, false, false, false, false] rfl rfl (any_of HT_.out (by kernel_rfl)) (fun _ _ _ h => h) (Or.inl ⟨by rfl, ?_⟩) ?_ ?_
    rotate_left
    ·intro w'
     go_simp
     with_reducible rfl
    rotate_left
    ·simp only [Act.put, sI, sZ, sS, i64_w, i32_w]
     rfl
    refine pure_ (i := 9) (N := some 12) (v := ?_) (a' := ?_) #[true, true, false, true, true, false, false, false, true, true, false, false, false, false, false, false, false, false, false, false, false, false, false, false, false, false] rfl rfl (any_of HT_.out (by kernel_rfl)) (fun _ _ _ h => h) (Or.inl ⟨by rfl, ?_⟩) ?_ ?_
    rotate_left
    ·intro w'
     go_simp
     with_reducible rfl
    rotate_left
    ·simp only [Act.put, sI, sZ, sS, i64_w, i32_w]
     rfl
    refine pure_ (i := 11) (N := some 14) (v := ?_) (a' := ?_) #[true, true, false, true, true, false, false, false, true, true, false, true, false, false, false, false, false, false, false, false, false, false, false, false, false, false] rfl rfl (any_of HT_.out (by kernel_rfl)) (fun _ _ _ h => h) (Or.inl ⟨by rfl, ?_⟩) ?_ ?_
    rotate_left
    ·intro w'
     go_simp
     with_reducible rfl
    rotate_left
    ·simp only [Act.put, sI, sZ, sS, i64_w, i32_w]
     rfl
    refine pure_ (i := 12) (N := some 15) (v := ?_) (a' := ?_) #[true, true, false, true, true, false, false, false, true, true, false, true, true, false, false, false, false, false, false, false, false, false, false, false, false, false] rfl rfl (any_of HT_.out (by kernel_rfl)) (fun _ _ _ h => h) (Or.inl ⟨by rfl, ?_⟩) ?_ ?_
    rotate_left
    ·intro w'
     go_simp
     with_reducible rfl
    rotate_left
    ·simp only [Act.put, sI, sZ, sS, i64_w, i32_w]
     rfl
    refine pure_ (i := 16) (N := some 19) (v := ?_) (a' := ?_) #[true, true, false, true, true, false, false, false, true, true, false, true, true, false, false, false, true, false, false, false, false, false, false, false, false, false] rfl rfl (any_of HT_.out (by kernel_rfl)) (fun _ _ _ h => h) (Or.inl ⟨by rfl, ?_⟩) ?_ ?_
    rotate_left
    ·intro w'
     go_simp
     with_reducible rfl
    rotate_left
    ·simp only [Act.put, sI, sZ, sS, i64_w, i32_w]
     rfl
    refine pure_ (i := 17) (N := some 20) (v := ?_) (a' := ?_) #[true, true, false, true, true, false, false, false, true, true, false, true, true, false, false, false, true, true, false, false, false, false, false, false, false, false] rfl rfl (any_of HT_.out (by kernel_rfl)) (fun _ _ _ h => h) (Or.inl ⟨by rfl, ?_⟩) ?_ ?_
    rotate_left
    ·intro w'
     go_simp
     with_reducible rfl
    rotate_left
    ·simp only [Act.put, sI, sZ, sS, i64_w, i32_w]
     rfl
    refine pure_ (i := 19) (N := some 22) (v := ?_) (a' := ?_) #[true, true, false, true, true, false, false, false, true, true, false, true, true, false, false, false, true, true, false, true, false, false, false, false, false, false] rfl rfl (any_of HT_.out (by kernel_rfl)) (fun _ _ _ h => h) (Or.inl ⟨by rfl, ?_⟩) ?_ ?_
    rotate_left
    ·intro w'
     go_simp
     with_reducible rfl
    rotate_left
    ·simp only [Act.put, sI, sZ, sS, i64_w, i32_w]
     rfl
    refine pure_ (i := 20) (N := some 23) (v := ?_) (a' := ?_) #[true, true, false, true, true, false, false, false, true, true, false, true, true, false, false, false, true, true, false, true, true, false, false, false, false, false] rfl rfl (any_of HT_.out (by kernel_rfl)) (fun _ _ _ h => h) (Or.inl ⟨by rfl, ?_⟩) ?_ ?_
    rotate_left
    ·intro w'
     go_simp
     with_reducible rfl
    rotate_left
    ·simp only [Act.put, sI, sZ, sS, i64_w, i32_w]
     rfl
    refine take_ (i := 2) (N := some 5) (v := ?_) (a' := ?_) #[true, true, true, true, true, false, false, false, true, true, false, true, true, false, false, false, true, true, false, true, true, false, false, false, false, false] rfl rfl (take_ofW HT_.out HW_.out (by kernel_rfl)) (fun _ _ _ h => h) (Or.inl ⟨by rfl, ?_⟩) hHeld ?_ ?_
    rotate_left
    ·rintro w' ⟨s0, s1, s2, s3, s4, s5, s6, s7, s8, s9, s10, s11⟩
     go_simp
     with_reducible rfl
    rotate_left
    ·simp only [Act.put, sI, sZ, sS, i64_w, i32_w]
     rfl
    refine take_ (i := 5) (N := some 8) (v := ?_) (a' := ?_) #[true, true, true, true, true, true, false, false, true, true, false, true, true, false, false, false, true, true, false, true, true, false, false, false, false, false] rfl rfl (take_ofW HT_.out HW_.out (by kernel_rfl)) (fun _ _ _ h => h) (Or.inl ⟨by rfl, ?_⟩) hHeld ?_ ?_
    rotate_left
    ·rintro w' ⟨s0, s1, s2, s3, s4, s5, s6, s7, s8, s9, s10, s11⟩
     go_simp
     with_reducible rfl
    rotate_left
    ·simp only [Act.put, sI, sZ, sS, i64_w, i32_w]
     rfl
    refine take_ (i := 10) (N := some 13) (v := ?_) (a' := ?_) #[true, true, true, true, true, true, false, false, true, true, true, true, true, false, false, false, true, true, false, true, true, false, false, false, false, false] rfl rfl (take_ofW HT_.out HW_.out (by kernel_rfl)) (fun _ _ _ h => h) (Or.inl ⟨by rfl, ?_⟩) hHeld ?_ ?_
    rotate_left
    ·rintro w' ⟨s0, s1, s2, s3, s4, s5, s6, s7, s8, s9, s10, s11⟩
     go_simp
     with_reducible rfl
    rotate_left
    ·simp only [Act.put, sI, sZ, sS, i64_w, i32_w]
     rfl
    refine take_ (i := 13) (N := some 16) (v := ?_) (a' := ?_) #[true, true, true, true, true, true, false, false, true, true, true, true, true, true, false, false, true, true, false, true, true, false, false, false, false, false] rfl rfl (take_ofW HT_.out HW_.out (by kernel_rfl)) (fun _ _ _ h => h) (Or.inl ⟨by rfl, ?_⟩) hHeld ?_ ?_
    rotate_left
    ·rintro w' ⟨s0, s1, s2, s3, s4, s5, s6, s7, s8, s9, s10, s11⟩
     go_simp
     with_reducible rfl
    rotate_left
    ·simp only [Act.put, sI, sZ, sS, i64_w, i32_w]
     rfl
    refine take_ (i := 18) (N := some 21) (v := ?_) (a' := ?_) #[true, true, true, true, true, true, false, false, true, true, true, true, true, true, false, false, true, true, true, true, true, false, false, false, false, false] rfl rfl (take_ofW HT_.out HW_.out (by kernel_rfl)) (fun _ _ _ h => h) (Or.inl ⟨by rfl, ?_⟩) hHeld ?_ ?_
    rotate_left
    ·rintro w' ⟨s0, s1, s2, s3, s4, s5, s6, s7, s8, s9, s10, s11⟩
     go_simp
     with_reducible rfl
    rotate_left
    ·simp only [Act.put, sI, sZ, sS, i64_w, i32_w]
     rfl
    refine take_ (i := 21) (N := some 24) (v := ?_) (a' := ?_) #[true, true, true, true, true, true, false, false, true, true, true, true, true, true, false, false, true, true, true, true, true, true, false, false, false, false] rfl rfl (take_ofW HT_.out HW_.out (by kernel_rfl)) (fun _ _ _ h => h) (Or.inl ⟨by rfl, ?_⟩) hHeld ?_ ?_
    rotate_left
    ·rintro w' ⟨s0, s1, s2, s3, s4, s5, s6, s7, s8, s9, s10, s11⟩
     go_simp
     with_reducible rfl
    rotate_left
    ·simp only [Act.put, sI, sZ, sS, i64_w, i32_w]
     rfl
    refine one_ (i := 6) (N := some 9) #[true, true, true, true, true, true, true, false, true, true, true, true, true, true, false, false, true, true, true, true, true, true, false, false, false, false] rfl rfl (one_of HT_.out (by kernel_rfl)) (by decide) (fun K hK => ?_)
    refine goes_ Try.func112 (by kernel_rfl) rfl #[.agg #[.int .i64 ((rd_impl_Peg l0 1).f0), .int .i64 ((rd_impl_Peg l0 1).f1)], .agg #[.int .i64 ((rd_impl_Peg l0 2).f0), .int .i64 ((rd_impl_Peg l0 2).f1)]] (by rfl) rfl rfl (by (try simp only [mA, mC, mN]); first | done | rfl | (simp only [lD, lT]; rfl)) ?_
    with_reducible refine (impl_Peg_less.calls ((rd_impl_Peg l0 1).f0) ((rd_impl_Peg l0 1).f1) ((rd_impl_Peg l0 2).f0) ((rd_impl_Peg l0 2).f1) t653 t654 _ A4.out).mono ?_
    rintro e w12 ⟨rfl, hb⟩
    refine ⟨_, rfl, ?_⟩
    have n0_ := aM (pT (by repeat (first | (with_reducible first | exact HB.out | apply pA | apply pN | apply pD) | exact HB.out)) hb)
    clear HB
    have HB := n0_
    clear n0_
    (try clear hb)
    (try clear hb2)
    (try clear hk)
    (try clear hi)
    refine hK.out _ _ ⟨((HB.out.cell (wB w _ hw651_0)).trans hw651_0), ((HB.out.cell (wB w _ hw651_1)).trans hw651_1), ((HB.out.cell (wB w _ hw652_0)).trans hw652_0), ((HB.out.cell (wB w _ hw652_1)).trans hw652_1), ((HB.out.cell (wB w _ hw656_0)).trans hw656_0), ((HB.out.cell (wB w _ hw656_1)).trans hw656_1), ((HB.out.cell (wB w _ hw657_0)).trans hw657_0), ((HB.out.cell (wB w _ hw657_1)).trans hw657_1), ((HB.out.cell (wB w _ hw661_0)).trans hw661_0), ((HB.out.cell (wB w _ hw661_1)).trans hw661_1), ((HB.out.cell (wB w _ hw662_0)).trans hw662_0), ((HB.out.cell (wB w _ hw662_1)).trans hw662_1)⟩ (fun hHeld => ?_)
    clear hK K
    refine norm_ (a' := ?_) ?_ ?_
    rotate_left
    ·show Act.put _ (some 9) _ = _
     simp only [Act.put, sI, sZ, sS, i64_w, i32_w]
     rfl
    refine one_ (i := 7) (N := some 10) #[true, true, true, true, true, true, true, true, true, true, true, true, true, true, false, false, true, true, true, true, true, true, false, false, false, false] rfl rfl (one_of HT_.out (by kernel_rfl)) (by decide) (fun K hK => ?_)
    refine goes_ Try.func113 (by kernel_rfl) rfl #[.agg #[.int .i64 t653, .int .i64 t654]] (by rfl) rfl rfl (by (try simp only [mA, mC, mN]); first | done | rfl | (simp only [lD, lT]; rfl)) ?_
    with_reducible refine (impl_Peg_square.calls t653 t654 t655 _ A5.out).mono ?_
    rintro e w13 ⟨rfl, hb⟩
    refine ⟨_, rfl, ?_⟩
    have n0_ := aM (pT (by repeat (first | (with_reducible first | exact HB.out | apply pA | apply pN | apply pD) | exact HB.out)) hb)
    clear HB
    have HB := n0_
    clear n0_
    (try clear hb)
    (try clear hb2)
    (try clear hk)
    (try clear hi)
    refine hK.out _ _ ⟨((HB.out.cell (wB w _ hw651_0)).trans hw651_0), ((HB.out.cell (wB w _ hw651_1)).trans hw651_1), ((HB.out.cell (wB w _ hw652_0)).trans hw652_0), ((HB.out.cell (wB w _ hw652_1)).trans hw652_1), ((HB.out.cell (wB w _ hw656_0)).trans hw656_0), ((HB.out.cell (wB w _ hw656_1)).trans hw656_1), ((HB.out.cell (wB w _ hw657_0)).trans hw657_0), ((HB.out.cell (wB w _ hw657_1)).trans hw657_1), ((HB.out.cell (wB w _ hw661_0)).trans hw661_0), ((HB.out.cell (wB w _ hw661_1)).trans hw661_1), ((HB.out.cell (wB w _ hw662_0)).trans hw662_0), ((HB.out.cell (wB w _ hw662_1)).trans hw662_1)⟩ (fun hHeld => ?_)
    clear hK K
    refine norm_ (a' := ?_) ?_ ?_
    rotate_left
    ·show Act.put _ (some 10) _ = _
     simp only [Act.put, sI, sZ, sS, i64_w, i32_w]
     rfl
    refine one_ (i := 14) (N := some 17) #[true, true, true, true, true, true, true, true, true, true, true, true, true, true, true, false, true, true, true, true, true, true, false, false, false, false] rfl rfl (one_of HT_.out (by kernel_rfl)) (by decide) (fun K hK => ?_)
    refine goes_ Try.func112 (by kernel_rfl) rfl #[.agg #[.int .i64 ((rd_impl_Peg l0 2).f0), .int .i64 ((rd_impl_Peg l0 2).f1)], .agg #[.int .i64 ((rd_impl_Peg l0 0).f0), .int .i64 ((rd_impl_Peg l0 0).f1)]] (by rfl) rfl rfl (by (try simp only [mA, mC, mN]); first | done | rfl | (simp only [lD, lT]; rfl)) ?_
    with_reducible refine (impl_Peg_less.calls ((rd_impl_Peg l0 2).f0) ((rd_impl_Peg l0 2).f1) ((rd_impl_Peg l0 0).f0) ((rd_impl_Peg l0 0).f1) t658 t659 _ A7.out).mono ?_
    rintro e w14 ⟨rfl, hb⟩
    refine ⟨_, rfl, ?_⟩
    have n0_ := aM (pT (by repeat (first | (with_reducible first | exact HB.out | apply pA | apply pN | apply pD) | exact HB.out)) hb)
    clear HB
    have HB := n0_
    clear n0_
    (try clear hb)
    (try clear hb2)
    (try clear hk)
    (try clear hi)
    refine hK.out _ _ ⟨((HB.out.cell (wB w _ hw651_0)).trans hw651_0), ((HB.out.cell (wB w _ hw651_1)).trans hw651_1), ((HB.out.cell (wB w _ hw652_0)).trans hw652_0), ((HB.out.cell (wB w _ hw652_1)).trans hw652_1), ((HB.out.cell (wB w _ hw656_0)).trans hw656_0), ((HB.out.cell (wB w _ hw656_1)).trans hw656_1), ((HB.out.cell (wB w _ hw657_0)).trans hw657_0), ((HB.out.cell (wB w _ hw657_1)).trans hw657_1), ((HB.out.cell (wB w _ hw661_0)).trans hw661_0), ((HB.out.cell (wB w _ hw661_1)).trans hw661_1), ((HB.out.cell (wB w _ hw662_0)).trans hw662_0), ((HB.out.cell (wB w _ hw662_1)).trans hw662_1)⟩ (fun hHeld => ?_)
    clear hK K
    refine norm_ (a' := ?_) ?_ ?_
    rotate_left
    ·show Act.put _ (some 17) _ = _
     simp only [Act.put, sI, sZ, sS, i64_w, i32_w]
     rfl
    refine one_ (i := 15) (N := some 18) #[true, true, true, true, true, true, true, true, true, true, true, true, true, true, true, true, true, true, true, true, true, true, false, false, false, false] rfl rfl (one_of HT_.out (by kernel_rfl)) (by decide) (fun K hK => ?_)
    refine goes_ Try.func113 (by kernel_rfl) rfl #[.agg #[.int .i64 t658, .int .i64 t659]] (by rfl) rfl rfl (by (try simp only [mA, mC, mN]); first | done | rfl | (simp only [lD, lT]; rfl)) ?_
    with_reducible refine (impl_Peg_square.calls t658 t659 t660 _ A8.out).mono ?_
    rintro e w15 ⟨rfl, hb⟩
    refine ⟨_, rfl, ?_⟩
    have n0_ := aM (pT (by repeat (first | (with_reducible first | exact HB.out | apply pA | apply pN | apply pD) | exact HB.out)) hb)
    clear HB
    have HB := n0_
    clear n0_
    (try clear hb)
    (try clear hb2)
    (try clear hk)
    (try clear hi)
    refine hK.out _ _ ⟨((HB.out.cell (wB w _ hw651_0)).trans hw651_0), ((HB.out.cell (wB w _ hw651_1)).trans hw651_1), ((HB.out.cell (wB w _ hw652_0)).trans hw652_0), ((HB.out.cell (wB w _ hw652_1)).trans hw652_1), ((HB.out.cell (wB w _ hw656_0)).trans hw656_0), ((HB.out.cell (wB w _ hw656_1)).trans hw656_1), ((HB.out.cell (wB w _ hw657_0)).trans hw657_0), ((HB.out.cell (wB w _ hw657_1)).trans hw657_1), ((HB.out.cell (wB w _ hw661_0)).trans hw661_0), ((HB.out.cell (wB w _ hw661_1)).trans hw661_1), ((HB.out.cell (wB w _ hw662_0)).trans hw662_0), ((HB.out.cell (wB w _ hw662_1)).trans hw662_1)⟩ (fun hHeld => ?_)
    clear hK K
    refine norm_ (a' := ?_) ?_ ?_
    rotate_left
    ·show Act.put _ (some 18) _ = _
     simp only [Act.put, sI, sZ, sS, i64_w, i32_w]
     rfl
    refine one_ (i := 22) (N := some 25) #[true, true, true, true, true, true, true, true, true, true, true, true, true, true, true, true, true, true, true, true, true, true, true, false, false, false] rfl rfl (one_of HT_.out (by kernel_rfl)) (by decide) (fun K hK => ?_)
    refine goes_ Try.func112 (by kernel_rfl) rfl #[.agg #[.int .i64 ((rd_impl_Peg l0 0).f0), .int .i64 ((rd_impl_Peg l0 0).f1)], .agg #[.int .i64 ((rd_impl_Peg l0 1).f0), .int .i64 ((rd_impl_Peg l0 1).f1)]] (by rfl) rfl rfl (by (try simp only [mA, mC, mN]); first | done | rfl | (simp only [lD, lT]; rfl)) ?_
    with_reducible refine (impl_Peg_less.calls ((rd_impl_Peg l0 0).f0) ((rd_impl_Peg l0 0).f1) ((rd_impl_Peg l0 1).f0) ((rd_impl_Peg l0 1).f1) t663 t664 _ A9.out).mono ?_
    rintro e w16 ⟨rfl, hb⟩
    refine ⟨_, rfl, ?_⟩
    have n0_ := aM (pT (by repeat (first | (with_reducible first | exact HB.out | apply pA | apply pN | apply pD) | exact HB.out)) hb)
    clear HB
    have HB := n0_
    clear n0_
    (try clear hb)
    (try clear hb2)
    (try clear hk)
    (try clear hi)
    refine hK.out _ _ ⟨((HB.out.cell (wB w _ hw651_0)).trans hw651_0), ((HB.out.cell (wB w _ hw651_1)).trans hw651_1), ((HB.out.cell (wB w _ hw652_0)).trans hw652_0), ((HB.out.cell (wB w _ hw652_1)).trans hw652_1), ((HB.out.cell (wB w _ hw656_0)).trans hw656_0), ((HB.out.cell (wB w _ hw656_1)).trans hw656_1), ((HB.out.cell (wB w _ hw657_0)).trans hw657_0), ((HB.out.cell (wB w _ hw657_1)).trans hw657_1), ((HB.out.cell (wB w _ hw661_0)).trans hw661_0), ((HB.out.cell (wB w _ hw661_1)).trans hw661_1), ((HB.out.cell (wB w _ hw662_0)).trans hw662_0), ((HB.out.cell (wB w _ hw662_1)).trans hw662_1)⟩ (fun hHeld => ?_)
    clear hK K
    refine norm_ (a' := ?_) ?_ ?_
    rotate_left
    ·show Act.put _ (some 25) _ = _
     simp only [Act.put, sI, sZ, sS, i64_w, i32_w]
     rfl
    refine one_ (i := 23) (N := some 26) #[true, true, true, true, true, true, true, true, true, true, true, true, true, true, true, true, true, true, true, true, true, true, true, true, false, false] rfl rfl (one_of HT_.out (by kernel_rfl)) (by decide) (fun K hK => ?_)
    refine goes_ Try.func113 (by kernel_rfl) rfl #[.agg #[.int .i64 t663, .int .i64 t664]] (by rfl) rfl rfl (by (try simp only [mA, mC, mN]); first | done | rfl | (simp only [lD, lT]; rfl)) ?_
    with_reducible refine (impl_Peg_square.calls t663 t664 t665 _ A10.out).mono ?_
    rintro e w17 ⟨rfl, hb⟩
    refine ⟨_, rfl, ?_⟩
    have n0_ := aM (pT (by repeat (first | (with_reducible first | exact HB.out | apply pA | apply pN | apply pD) | exact HB.out)) hb)
    clear HB
    have HB := n0_
    clear n0_
    (try clear hb)
    (try clear hb2)
    (try clear hk)
    (try clear hi)
    refine hK.out _ _ ⟨((HB.out.cell (wB w _ hw651_0)).trans hw651_0), ((HB.out.cell (wB w _ hw651_1)).trans hw651_1), ((HB.out.cell (wB w _ hw652_0)).trans hw652_0), ((HB.out.cell (wB w _ hw652_1)).trans hw652_1), ((HB.out.cell (wB w _ hw656_0)).trans hw656_0), ((HB.out.cell (wB w _ hw656_1)).trans hw656_1), ((HB.out.cell (wB w _ hw657_0)).trans hw657_0), ((HB.out.cell (wB w _ hw657_1)).trans hw657_1), ((HB.out.cell (wB w _ hw661_0)).trans hw661_0), ((HB.out.cell (wB w _ hw661_1)).trans hw661_1), ((HB.out.cell (wB w _ hw662_0)).trans hw662_0), ((HB.out.cell (wB w _ hw662_1)).trans hw662_1)⟩ (fun hHeld => ?_)
    clear hK K
    refine norm_ (a' := ?_) ?_ ?_
    rotate_left
    ·show Act.put _ (some 26) _ = _
     simp only [Act.put, sI, sZ, sS, i64_w, i32_w]
     rfl
    refine one_ (i := 24) (N := some 27) #[true, true, true, true, true, true, true, true, true, true, true, true, true, true, true, true, true, true, true, true, true, true, true, true, true, false] rfl rfl (one_of HT_.out (by kernel_rfl)) (by decide) (fun K hK => ?_)
    refine Kd.R_lit_step (Kd.int .i64) _ 3 ?hg (N := 27) ?hd (xs := ([t655, t660, t665] : List Int)) (inner := [.int .i64 t655, .int .i64 t660, .int .i64 t665]) (ok := fun _ => True) (okp := fun _ => True) ?hr ?hp (fun _ hk => hk) trivial (Below.refl _ _) (Nat.le_refl _) (by simp) ?_; (case hd => rfl); (case hg => rfl); (case hr => first | (go_simp; done) | (go_simp; rfl)); (case hp => exact (Reps.one (show Kd.M (Kd.int .i64) _ _ _ t655 [.int .i64 t655] from rfl) (Reps.one (show Kd.M (Kd.int .i64) _ _ _ t660 [.int .i64 t660] from rfl) (Reps.one (show Kd.M (Kd.int .i64) _ _ _ t665 [.int .i64 t665] from rfl) (Reps.none _ _)))))
    intro v667 w18 ho19 hb hg_ hnew_
    clear hg_ hnew_
    (first | rw [← Ny666.out] at ho19 | (simp only [Int.reduceToNat] at ho19; rw [← Ny666.out] at ho19))
    have n0_ := aM (Kd.R_lower ho19 (pZ (by repeat (first | (with_reducible first | exact HB.out | apply pA | apply pN | apply pD) | exact HB.out))))
    have n1_ := aM (pT (by repeat (first | (with_reducible first | exact HB.out | apply pA | apply pN | apply pD) | exact HB.out)) hb)
    clear HB
    have HO668 := n0_
    have HB := n1_
    clear n0_ n1_
    clear hb ho19
    refine hK.out _ _ ⟨((HB.out.cell (wB w _ hw651_0)).trans hw651_0), ((HB.out.cell (wB w _ hw651_1)).trans hw651_1), ((HB.out.cell (wB w _ hw652_0)).trans hw652_0), ((HB.out.cell (wB w _ hw652_1)).trans hw652_1), ((HB.out.cell (wB w _ hw656_0)).trans hw656_0), ((HB.out.cell (wB w _ hw656_1)).trans hw656_1), ((HB.out.cell (wB w _ hw657_0)).trans hw657_0), ((HB.out.cell (wB w _ hw657_1)).trans hw657_1), ((HB.out.cell (wB w _ hw661_0)).trans hw661_0), ((HB.out.cell (wB w _ hw661_1)).trans hw661_1), ((HB.out.cell (wB w _ hw662_0)).trans hw662_0), ((HB.out.cell (wB w _ hw662_1)).trans hw662_1)⟩ (fun hHeld => ?_)
    clear hK K
    refine norm_ (a' := ?_) ?_ ?_
    rotate_left
    ·show Act.put _ (some 27) _ = _
     simp only [Act.put, sI, sZ, sS, i64_w, i32_w]
     rfl
    refine pure_ (i := 25) (N := some 2) (v := ?_) (a' := ?_) #[true, true, true, true, true, true, true, true, true, true, true, true, true, true, true, true, true, true, true, true, true, true, true, true, true, true] rfl rfl (any_of HT_.out (by kernel_rfl)) (fun _ _ _ h => h) (Or.inl ⟨by rfl, ?_⟩) ?_ ?_
    rotate_left
    ·intro w'
     go_simp
     with_reducible rfl
    rotate_left
    ·simp only [Act.put, sI, sZ, sS, i64_w, i32_w]
     rfl
    refine done_ (done_of HT_.out (by kernel_rfl)) ?_
    try go_wp2
    go_ret
    exact ⟨_, by first | rfl | (simp [errW_none, errW_some] <;> rfl) | (simp [*, errW_none, errW_some] <;> rfl), by (with_reducible repeat (first | apply rA | apply rN | apply rD)); exact HO668.out, by repeat (first | (with_reducible first | exact HB.out | apply pA | apply pN | apply pD) | exact HB.out)⟩
   ·rw [if_neg c6] at H
    exact absurd H (by simp)
  ·rw [if_neg c3] at H
   exact absurd H (by simp)
 ·rw [if_neg c2] at H
  exact absurd H (by simp)

def impl_SidesOfThree.f (k : Nat) (l0 : List (S_impl_Peg)) : Option (List Int × Bool) := (impl_isThree.f k l0).bind fun t669 => (if t669 = true then ((impl_sides.f l0).bind fun t670 => (some (t670, true))) else (some (([] : List Int), false)))
theorem impl_SidesOfThree.mono : ∀ a0 k, LeO (impl_SidesOfThree.f k a0) (impl_SidesOfThree.f (k + 1) a0) := by
 intro a0 k
 unfold impl_SidesOfThree.f
 repeat' first
   | (with_reducible exact impl_isThree.mono _ _)
   | (with_reducible exact LeO.refl _)
   | (with_reducible exact LeO.none _)
   | (with_reducible refine LeO.ite ?_ ?_)
   | (with_reducible refine LeO.bind ?_ (fun _ => ?_))
   | exact impl_isThree.mono _ _
   | exact LeO.none _
   | refine LeO.ite ?_ ?_
   | refine LeO.bind ?_ (fun _ => ?_)
set_option maxHeartbeats 8000000 in
set_option maxRecDepth 100000 in
theorem impl_SidesOfThree.calls (k : Nat) (A0 : Option Addr) (c0 : Nat) (l0 : List (S_impl_Peg)) (r1 : List Int) (r2 : Bool) (w : World) (hr0 : Kd.C kd_impl_Peg w A0 l0.length l0) (hc0 : l0.length ≤ c0) (h : impl_SidesOfThree.f k l0 = some (r1, r2)) :
  Calls Try.prog 51 #[.slice A0 l0.length c0] w fun e w' => ∃ v0_ : Value, e = .returned (.tuple #[v0_, .bool r2]) ∧ Kd.R (Kd.int .i64) 3 w' w.heap.size (fun _ => True) v0_ r1 ∧ Below w.heap.size w w' := by
 have HR0 := aM hr0
 have HC0 := aM hc0
 clear hr0 hc0
 have HB := aM (Below.refl w.heap.size w)
 have H : ((impl_isThree.f k l0).bind fun t669 => (if t669 = true then ((impl_sides.f l0).bind fun t670 => (some (t670, true))) else (some (([] : List Int), false)))) = some (r1, r2) := h
 clear h
 replace H := oB.mp H
 obtain ⟨t669, A20, H⟩ := H
 replace H : (if t669 = true then ((impl_sides.f l0).bind fun t670 => (some (t670, true))) else (some (([] : List Int), false))) = some (r1, r2) := H
 have A2 := aM A20
 clear A20
 by_cases c3 : t669 = true
 ·subst c3
  have H1 : ((impl_sides.f l0).bind fun t670 => (some (t670, true))) = some (r1, r2) := by rw [if_pos rfl] at H; exact H
  clear H
  have H := H1
  clear H1
  replace H := oB.mp H
  obtain ⟨t670, A40, H⟩ := H
  replace H : (some (t670, true)) = some (r1, r2) := H
  have A4 := aM A40
  clear A40
  simp only [Option.some.injEq, Prod.mk.injEq] at H
  obtain ⟨rfl, rfl⟩ := H
  go_enter Try.func51, Try.ntmps51
  go_wp2_with (first | ((with_reducible refine gC (f := 96) rfl ?_); refine goesL_ (some 5) rfl rfl Try.func96 (by kernel_rfl) rfl #[.slice A0 l0.length c0] rfl (by (try simp only [mA, mC, mN]); first | done | rfl | (simp only [lD, lT]; rfl)) ?_; (with_reducible refine (impl_isThree.calls k _ _ l0 true _ ?side1 ?side2 A2.out).mono ?_); (case side1 => repeat (first | exact HR0.out | (with_reducible refine cA ?_ _) | (with_reducible refine cN ?_ _) | (with_reducible refine cD ?_))); (case side2 => exact HC0.out); rintro e w5 ⟨rfl, hb⟩; refine ⟨_, rfl, ?_⟩; have n0_ := aM (pT (by repeat (first | (with_reducible first | exact HB.out | apply pA | apply pN | apply pD) | exact HB.out)) hb); clear HB; have HB := n0_; clear n0_; (try clear hb); (try clear hb2); (try clear hk); (try clear hi)) | ((with_reducible refine gC (f := 106) rfl ?_); refine goesL_ (some 8) rfl rfl Try.func106 (by kernel_rfl) rfl #[.slice A0 l0.length c0] rfl (by (try simp only [mA, mC, mN]); first | done | rfl | (simp only [lD, lT]; rfl)) ?_; (with_reducible refine (impl_sides.calls _ _ l0 t670 _ ?side1 ?side2 A4.out).mono ?_); (case side1 => repeat (first | exact (Kd.C_below HR0.out HB.out) | (with_reducible refine cA ?_ _) | (with_reducible refine cN ?_ _) | (with_reducible refine cD ?_))); (case side2 => exact HC0.out); rintro e w6 ⟨v671, rfl, ho0, hb⟩; refine ⟨_, rfl, ?_⟩; have n0_ := aM (Kd.R_lower ho0 (pZ (by repeat (first | (with_reducible first | exact HB.out | apply pA | apply pN | apply pD) | exact HB.out)))); have n1_ := aM (pT (by repeat (first | (with_reducible first | exact HB.out | apply pA | apply pN | apply pD) | exact HB.out)) hb); clear HB; have HO672 := n0_; have HB := n1_; clear n0_ n1_; (try clear hb); (try clear hb2); (try clear hk); (try clear hi); (try clear ho0)))
  go_ret2
  exact ⟨_, by first | rfl | (simp [errW_none, errW_some] <;> rfl) | (simp [*, errW_none, errW_some] <;> rfl), by (with_reducible repeat (first | apply rA | apply rN | apply rD)); exact HO672.out, by repeat (first | (with_reducible first | exact HB.out | apply pA | apply pN | apply pD) | exact HB.out)⟩
 ·replace c3 := Bool.eq_false_iff.mpr c3
  subst c3
  have H1 : (some (([] : List Int), false)) = some (r1, r2) := by rw [if_neg (show ¬ (false = true) by decide)] at H; exact H
  clear H
  have H := H1
  clear H1
  simp only [Option.some.injEq, Prod.mk.injEq] at H
  obtain ⟨rfl, rfl⟩ := H
  go_enter Try.func51, Try.ntmps51
  go_wp2_with (first | ((with_reducible refine gC (f := 96) rfl ?_); refine goesL_ (some 5) rfl rfl Try.func96 (by kernel_rfl) rfl #[.slice A0 l0.length c0] rfl (by (try simp only [mA, mC, mN]); first | done | rfl | (simp only [lD, lT]; rfl)) ?_; (with_reducible refine (impl_isThree.calls k _ _ l0 false _ ?side1 ?side2 A2.out).mono ?_); (case side1 => repeat (first | exact HR0.out | (with_reducible refine cA ?_ _) | (with_reducible refine cN ?_ _) | (with_reducible refine cD ?_))); (case side2 => exact HC0.out); rintro e w7 ⟨rfl, hb⟩; refine ⟨_, rfl, ?_⟩; have n0_ := aM (pT (by repeat (first | (with_reducible first | exact HB.out | apply pA | apply pN | apply pD) | exact HB.out)) hb); clear HB; have HB := n0_; clear n0_; (try clear hb); (try clear hb2); (try clear hk); (try clear hi)))
  go_ret2
  exact ⟨_, by first | rfl | (simp [errW_none, errW_some] <;> rfl) | (simp [*, errW_none, errW_some] <;> rfl), by first | exact Kd.R_nil _ _ _ _ _ | exact Kd.N_nil _ _ _ _ _ | exact Kd.V_nil _ _ _ _ _ | exact Kd.Q_nil _ _ _ _ _ | exact Kd.S_nil _ _ _ _ _, by repeat (first | (with_reducible first | exact HB.out | apply pA | apply pN | apply pD) | exact HB.out)⟩

end Go.Proofs.Ytiacfkilmknldaa.X
