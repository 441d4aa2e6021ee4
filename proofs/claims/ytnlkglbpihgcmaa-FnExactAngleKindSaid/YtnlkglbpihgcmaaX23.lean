-- thin
-- short
import Derived.Test.YtnlkglbpihgcmaaXA
import Derived.Test.YtnlkglbpihgcmaaX0
import Derived.Test.YtnlkglbpihgcmaaX8
import Derived.Test.YtnlkglbpihgcmaaX22
namespace Go.Proofs.Ytnlkglbpihgcmaa.X
open Go.RowKit Go.Proofs.Ytnlkglbpihgcmaa.XW Go.Proofs.YtnlkglbpihgcmaaW.PrintWords Go.Proofs.YtnlkglbpihgcmaaW.PrintLast Go.Proofs.YtnlkglbpihgcmaaW.PrintMore
attribute [local go_sem] max2_int min2_int max_two min_two max_three min_three max_four min_four   -- for this text's walks alone
set_option linter.unusedVariables false
set_option linter.unusedSimpArgs false

def impl_sides.f (l0 : List (S_impl_Peg)) : Option (List Int) := if 1 < (l0.length : Int) then (if 2 < (l0.length : Int) then ((impl_Peg_less.f ((rd_impl_Peg l0 1).f0) ((rd_impl_Peg l0 1).f1) ((rd_impl_Peg l0 2).f0) ((rd_impl_Peg l0 2).f1)).bind fun bt466 => ((impl_Peg_square.f bt466.1 bt466.2).bind fun t468 => (if 0 < (l0.length : Int) then ((impl_Peg_less.f ((rd_impl_Peg l0 2).f0) ((rd_impl_Peg l0 2).f1) ((rd_impl_Peg l0 0).f0) ((rd_impl_Peg l0 0).f1)).bind fun bt471 => ((impl_Peg_square.f bt471.1 bt471.2).bind fun t473 => ((impl_Peg_less.f ((rd_impl_Peg l0 0).f0) ((rd_impl_Peg l0 0).f1) ((rd_impl_Peg l0 1).f0) ((rd_impl_Peg l0 1).f1)).bind fun bt476 => ((impl_Peg_square.f bt476.1 bt476.2).bind fun t478 => (some (([t468, t473, t478] : List Int))))))) else (none)))) else (none)) else (none)
def impl_sides.T1 : Bool × List (List Nat × List Nat) := (true, [([], []), ([0], [0]), ([1], [1]), ([], []), ([3], [3]), ([4], [4]), ([2, 5], [2, 5]), ([6, 6], [6]), ([], []), ([8], [8]), ([9], [9]), ([], []), ([11], [11]), ([12], [12]), ([10, 13, 7], [10, 13]), ([14, 14], [14]), ([], []), ([16], [16]), ([17], [17]), ([], []), ([19], [19]), ([20], [20]), ([18, 21, 15], [18, 21]), ([22, 22], [22]), ([7, 15, 23], [7, 15, 23]), ([24, 23, 0, 1, 2, 3, 4, 5, 6, 7, 8, 9, 10, 11, 12, 13, 14, 15, 16, 17, 18, 19, 20, 21, 22, 23, 24], [24])])
def impl_sides.B1 : List Nat := [0, 1, 3, 0, 8, 24, 63, 127, 0, 256, 768, 0, 2048, 6144, 16383, 32767, 0, 65536, 196608, 0, 524288, 1572864, 4194303, 8388607, 16777215, 33554431]
theorem impl_sides.tab1 : rtab .any (opsOf Try.f81 1) = impl_sides.T1 := by kernel_rfl
theorem impl_sides.bits1 : waitsOk impl_sides.T1.2 impl_sides.B1 = true := by kernel_rfl
set_option maxHeartbeats 8000000 in
set_option maxRecDepth 100000 in
theorem impl_sides.calls (A0 : Option Addr) (c0 : Nat) (l0 : List (S_impl_Peg)) (r : List Int) (w : World) (hr0 : Kd.C kd_impl_Peg w A0 l0.length l0) (hc0 : l0.length ≤ c0) (h : impl_sides.f l0 = some r) :
  Calls Try.prog 81 #[.slice A0 l0.length c0] w fun e w' => ∃ v0_ : Value, e = .returned (v0_) ∧ Kd.R (Kd.int .i64) 3 w' w.heap.size (fun _ => True) v0_ r ∧ Below w.heap.size w w' := by
 have hu62 := Try.underlying62
 have HR0 := aM hr0
 have HC0 := aM hc0
 clear hr0 hc0
 have HB := aM (Below.refl w.heap.size w)
 have H : (if 1 < (l0.length : Int) then (if 2 < (l0.length : Int) then ((impl_Peg_less.f ((rd_impl_Peg l0 1).f0) ((rd_impl_Peg l0 1).f1) ((rd_impl_Peg l0 2).f0) ((rd_impl_Peg l0 2).f1)).bind fun bt466 => ((impl_Peg_square.f bt466.1 bt466.2).bind fun t468 => (if 0 < (l0.length : Int) then ((impl_Peg_less.f ((rd_impl_Peg l0 2).f0) ((rd_impl_Peg l0 2).f1) ((rd_impl_Peg l0 0).f0) ((rd_impl_Peg l0 0).f1)).bind fun bt471 => ((impl_Peg_square.f bt471.1 bt471.2).bind fun t473 => ((impl_Peg_less.f ((rd_impl_Peg l0 0).f0) ((rd_impl_Peg l0 0).f1) ((rd_impl_Peg l0 1).f0) ((rd_impl_Peg l0 1).f1)).bind fun bt476 => ((impl_Peg_square.f bt476.1 bt476.2).bind fun t478 => (some (([t468, t473, t478] : List Int))))))) else (none)))) else (none)) else (none)) = some r := h
 clear h
 by_cases c2 : 1 < (l0.length : Int)
 ·rw [if_pos c2] at H
  have c2b0 : decide (1 < (l0.length : Int)) = true := dE c2
  have c2b1 : decide (1 < l0.length) = true := dE (by omega)
  clear c2
  by_cases c3 : 2 < (l0.length : Int)
  ·rw [if_pos c3] at H
   have c3b0 : decide (2 < (l0.length : Int)) = true := dE c3
   have c3b1 : decide (2 < l0.length) = true := dE (by omega)
   clear c3
   replace H := oB.mp H
   obtain ⟨⟨t466, t467⟩, A40, H⟩ := H
   replace H : ((impl_Peg_square.f t466 t467).bind fun t468 => (if 0 < (l0.length : Int) then ((impl_Peg_less.f ((rd_impl_Peg l0 2).f0) ((rd_impl_Peg l0 2).f1) ((rd_impl_Peg l0 0).f0) ((rd_impl_Peg l0 0).f1)).bind fun bt471 => ((impl_Peg_square.f bt471.1 bt471.2).bind fun t473 => ((impl_Peg_less.f ((rd_impl_Peg l0 0).f0) ((rd_impl_Peg l0 0).f1) ((rd_impl_Peg l0 1).f0) ((rd_impl_Peg l0 1).f1)).bind fun bt476 => ((impl_Peg_square.f bt476.1 bt476.2).bind fun t478 => (some (([t468, t473, t478] : List Int))))))) else (none))) = some r := H
   have A4 := aM A40
   clear A40
   replace H := oB.mp H
   obtain ⟨t468, A50, H⟩ := H
   replace H : (if 0 < (l0.length : Int) then ((impl_Peg_less.f ((rd_impl_Peg l0 2).f0) ((rd_impl_Peg l0 2).f1) ((rd_impl_Peg l0 0).f0) ((rd_impl_Peg l0 0).f1)).bind fun bt471 => ((impl_Peg_square.f bt471.1 bt471.2).bind fun t473 => ((impl_Peg_less.f ((rd_impl_Peg l0 0).f0) ((rd_impl_Peg l0 0).f1) ((rd_impl_Peg l0 1).f0) ((rd_impl_Peg l0 1).f1)).bind fun bt476 => ((impl_Peg_square.f bt476.1 bt476.2).bind fun t478 => (some (([t468, t473, t478] : List Int))))))) else (none)) = some r := H
   have A5 := aM A50
   clear A50
   by_cases c6 : 0 < (l0.length : Int)
   ·rw [if_pos c6] at H
    have c6b0 : decide (0 < (l0.length : Int)) = true := dE c6
    have c6b1 : decide (0 < l0.length) = true := dE (by omega)
    clear c6
    replace H := oB.mp H
    obtain ⟨⟨t471, t472⟩, A70, H⟩ := H
    replace H : ((impl_Peg_square.f t471 t472).bind fun t473 => ((impl_Peg_less.f ((rd_impl_Peg l0 0).f0) ((rd_impl_Peg l0 0).f1) ((rd_impl_Peg l0 1).f0) ((rd_impl_Peg l0 1).f1)).bind fun bt476 => ((impl_Peg_square.f bt476.1 bt476.2).bind fun t478 => (some (([t468, t473, t478] : List Int)))))) = some r := H
    have A7 := aM A70
    clear A70
    replace H := oB.mp H
    obtain ⟨t473, A80, H⟩ := H
    replace H : ((impl_Peg_less.f ((rd_impl_Peg l0 0).f0) ((rd_impl_Peg l0 0).f1) ((rd_impl_Peg l0 1).f0) ((rd_impl_Peg l0 1).f1)).bind fun bt476 => ((impl_Peg_square.f bt476.1 bt476.2).bind fun t478 => (some (([t468, t473, t478] : List Int))))) = some r := H
    have A8 := aM A80
    clear A80
    replace H := oB.mp H
    obtain ⟨⟨t476, t477⟩, A90, H⟩ := H
    replace H : ((impl_Peg_square.f t476 t477).bind fun t478 => (some (([t468, t473, t478] : List Int)))) = some r := H
    have A9 := aM A90
    clear A90
    replace H := oB.mp H
    obtain ⟨t478, A100, H⟩ := H
    replace H : (some (([t468, t473, t478] : List Int))) = some r := H
    have A10 := aM A100
    clear A100
    obtain ⟨y479, hy479⟩ : ∃ y_ : List Int, y_ = (([t468, t473, t478] : List Int)) := ⟨_, rfl⟩
    replace H : (some y479) = some r := by first | (rw [hy479]; with_reducible exact H) | (have H2_ := (Option.bind_some _ _).symm.trans H; rw [hy479]; with_reducible exact H2_) | (have H2_ := (Option.bind_some _ _).symm.trans H; with_reducible exact H2_) | with_reducible exact H | (rw [hy479]; exact H) | exact H
    have Ny479 := aM hy479
    clear hy479
    obtain rfl := Option.some.inj H
    go_enter Try.func81, Try.ntmps81
    try go_wp2
    have n0_ := aM (pD HB.out)
    clear HB
    have HB := n0_
    clear n0_
    have p464 : 0 ≤ (1 : Int) := (by omega)
    have q464 : 1 < (l0.length : Int) := dT (by first | (with_reducible assumption) | assumption)
    obtain ⟨ad464, e464, hx464_0, hx464_1⟩ := at_impl_Peg HR0.out 1 p464 q464
    have hw464_1 := hx464_1
    (try rw [show ((1 : Int)).toNat = 1 from rfl] at hw464_1)
    (try rw [show 1 * 2 = 2 from rfl] at hw464_1)
    (try simp only [Nat.reduceMul, Nat.reduceEqDiff, Go.Addr.add, ↓reduceIte] at hw464_1)
    have hw464_0 := hx464_0
    (try rw [show ((1 : Int)).toNat = 1 from rfl] at hw464_0)
    (try rw [show 1 * 2 = 2 from rfl] at hw464_0)
    (try simp only [Nat.reduceMul, Nat.reduceEqDiff, Go.Addr.add, ↓reduceIte] at hw464_0)
    cases e464
    (try simp only [show (1 : Int).toNat = 1 from rfl, Nat.reduceMul, Nat.reduceEqDiff, Go.Addr.add, ↓reduceIte] at hx464_0)
    (try simp only [show (1 : Int).toNat = 1 from rfl, Nat.reduceMul, Nat.reduceEqDiff, Go.Addr.add, ↓reduceIte] at hx464_1)
    have qi464 : (1 < l0.length) = True := eq_true (by omega)
    (try rw [show ((1 : Int)).toNat = 1 from rfl] at hx464_0)
    (try rw [show 1 * 2 = 2 from rfl] at hx464_0)
    (try rw [show ((1 : Int)).toNat = 1 from rfl] at hx464_1)
    (try rw [show 1 * 2 = 2 from rfl] at hx464_1)
    replace hx464_0 := (HB.out.cell (wB w _ hx464_0)).trans hx464_0
    replace hx464_1 := (HB.out.cell (wB w _ hx464_1)).trans hx464_1
    replace p464 := eq_true p464
    replace q464 := eq_true q464
    have p465 : 0 ≤ (2 : Int) := (by omega)
    have q465 : 2 < (l0.length : Int) := dT (by first | (with_reducible assumption) | assumption)
    obtain ⟨ad465, e465, hx465_0, hx465_1⟩ := at_impl_Peg HR0.out 2 p465 q465
    have hw465_1 := hx465_1
    (try rw [show ((2 : Int)).toNat = 2 from rfl] at hw465_1)
    (try rw [show 2 * 2 = 4 from rfl] at hw465_1)
    (try simp only [Nat.reduceMul, Nat.reduceEqDiff, Go.Addr.add, ↓reduceIte] at hw465_1)
    have hw465_0 := hx465_0
    (try rw [show ((2 : Int)).toNat = 2 from rfl] at hw465_0)
    (try rw [show 2 * 2 = 4 from rfl] at hw465_0)
    (try simp only [Nat.reduceMul, Nat.reduceEqDiff, Go.Addr.add, ↓reduceIte] at hw465_0)
    obtain rfl : ad464 = ad465 := (by injection e465)
    (try simp only [show (2 : Int).toNat = 2 from rfl, Nat.reduceMul, Nat.reduceEqDiff, Go.Addr.add, ↓reduceIte] at hx465_0)
    (try simp only [show (2 : Int).toNat = 2 from rfl, Nat.reduceMul, Nat.reduceEqDiff, Go.Addr.add, ↓reduceIte] at hx465_1)
    have qi465 : (2 < l0.length) = True := eq_true (by omega)
    (try rw [show ((2 : Int)).toNat = 2 from rfl] at hx465_0)
    (try rw [show 2 * 2 = 4 from rfl] at hx465_0)
    (try rw [show ((2 : Int)).toNat = 2 from rfl] at hx465_1)
    (try rw [show 2 * 2 = 4 from rfl] at hx465_1)
    replace hx465_0 := (HB.out.cell (wB w _ hx465_0)).trans hx465_0
    replace hx465_1 := (HB.out.cell (wB w _ hx465_1)).trans hx465_1
    replace p465 := eq_true p465
    replace q465 := eq_true q465
    have p469 : 0 ≤ (2 : Int) := (by omega)
    have q469 : 2 < (l0.length : Int) := dT (by first | (with_reducible assumption) | assumption)
    obtain ⟨ad469, e469, hx469_0, hx469_1⟩ := at_impl_Peg HR0.out 2 p469 q469
    have hw469_1 := hx469_1
    (try rw [show ((2 : Int)).toNat = 2 from rfl] at hw469_1)
    (try rw [show 2 * 2 = 4 from rfl] at hw469_1)
    (try simp only [Nat.reduceMul, Nat.reduceEqDiff, Go.Addr.add, ↓reduceIte] at hw469_1)
    have hw469_0 := hx469_0
    (try rw [show ((2 : Int)).toNat = 2 from rfl] at hw469_0)
    (try rw [show 2 * 2 = 4 from rfl] at hw469_0)
    (try simp only [Nat.reduceMul, Nat.reduceEqDiff, Go.Addr.add, ↓reduceIte] at hw469_0)
    obtain rfl : ad464 = ad469 := (by injection e469)
    (try simp only [show (2 : Int).toNat = 2 from rfl, Nat.reduceMul, Nat.reduceEqDiff, Go.Addr.add, ↓reduceIte] at hx469_0)
    (try simp only [show (2 : Int).toNat = 2 from rfl, Nat.reduceMul, Nat.reduceEqDiff, Go.Addr.add, ↓reduceIte] at hx469_1)
    have qi469 : (2 < l0.length) = True := eq_true (by omega)
    (try rw [show ((2 : Int)).toNat = 2 from rfl] at hx469_0)
    (try rw [show 2 * 2 = 4 from rfl] at hx469_0)
    (try rw [show ((2 : Int)).toNat = 2 from rfl] at hx469_1)
    (try rw [show 2 * 2 = 4 from rfl] at hx469_1)
    replace hx469_0 := (HB.out.cell (wB w _ hx469_0)).trans hx469_0
    replace hx469_1 := (HB.out.cell (wB w _ hx469_1)).trans hx469_1
    replace p469 := eq_true p469
    replace q469 := eq_true q469
    have p470 : 0 ≤ (0 : Int) := (by omega)
    have q470 : 0 < (l0.length : Int) := dT (by first | (with_reducible assumption) | assumption)
    obtain ⟨ad470, e470, hx470_0, hx470_1⟩ := at_impl_Peg HR0.out 0 p470 q470
    have hw470_1 := hx470_1
    (try rw [show ((0 : Int)).toNat = 0 from rfl] at hw470_1)
    (try rw [show 0 * 2 = 0 from rfl] at hw470_1)
    (try rw [Addr.add_zero'] at hw470_1)
    have hw470_0 := hx470_0
    (try rw [show ((0 : Int)).toNat = 0 from rfl] at hw470_0)
    (try rw [show 0 * 2 = 0 from rfl] at hw470_0)
    (try rw [Addr.add_zero'] at hw470_0)
    obtain rfl : ad464 = ad470 := (by injection e470)
    have qi470 : (0 < l0.length) = True := eq_true (by omega)
    (try rw [show ((0 : Int)).toNat = 0 from rfl] at hx470_0)
    (try rw [show 0 * 2 = 0 from rfl] at hx470_0)
    (try rw [Addr.add_zero'] at hx470_0)
    (try rw [show ((0 : Int)).toNat = 0 from rfl] at hx470_1)
    (try rw [show 0 * 2 = 0 from rfl] at hx470_1)
    (try rw [Addr.add_zero'] at hx470_1)
    replace hx470_0 := (HB.out.cell (wB w _ hx470_0)).trans hx470_0
    replace hx470_1 := (HB.out.cell (wB w _ hx470_1)).trans hx470_1
    replace p470 := eq_true p470
    replace q470 := eq_true q470
    have p474 : 0 ≤ (0 : Int) := (by omega)
    have q474 : 0 < (l0.length : Int) := dT (by first | (with_reducible assumption) | assumption)
    obtain ⟨ad474, e474, hx474_0, hx474_1⟩ := at_impl_Peg HR0.out 0 p474 q474
    have hw474_1 := hx474_1
    (try rw [show ((0 : Int)).toNat = 0 from rfl] at hw474_1)
    (try rw [show 0 * 2 = 0 from rfl] at hw474_1)
    (try rw [Addr.add_zero'] at hw474_1)
    have hw474_0 := hx474_0
    (try rw [show ((0 : Int)).toNat = 0 from rfl] at hw474_0)
    (try rw [show 0 * 2 = 0 from rfl] at hw474_0)
    (try rw [Addr.add_zero'] at hw474_0)
    obtain rfl : ad464 = ad474 := (by injection e474)
    have qi474 : (0 < l0.length) = True := eq_true (by omega)
    (try rw [show ((0 : Int)).toNat = 0 from rfl] at hx474_0)
    (try rw [show 0 * 2 = 0 from rfl] at hx474_0)
    (try rw [Addr.add_zero'] at hx474_0)
    (try rw [show ((0 : Int)).toNat = 0 from rfl] at hx474_1)
    (try rw [show 0 * 2 = 0 from rfl] at hx474_1)
    (try rw [Addr.add_zero'] at hx474_1)
    replace hx474_0 := (HB.out.cell (wB w _ hx474_0)).trans hx474_0
    replace hx474_1 := (HB.out.cell (wB w _ hx474_1)).trans hx474_1
    replace p474 := eq_true p474
    replace q474 := eq_true q474
    have p475 : 0 ≤ (1 : Int) := (by omega)
    have q475 : 1 < (l0.length : Int) := dT (by first | (with_reducible assumption) | assumption)
    obtain ⟨ad475, e475, hx475_0, hx475_1⟩ := at_impl_Peg HR0.out 1 p475 q475
    have hw475_1 := hx475_1
    (try rw [show ((1 : Int)).toNat = 1 from rfl] at hw475_1)
    (try rw [show 1 * 2 = 2 from rfl] at hw475_1)
    (try simp only [Nat.reduceMul, Nat.reduceEqDiff, Go.Addr.add, ↓reduceIte] at hw475_1)
    have hw475_0 := hx475_0
    (try rw [show ((1 : Int)).toNat = 1 from rfl] at hw475_0)
    (try rw [show 1 * 2 = 2 from rfl] at hw475_0)
    (try simp only [Nat.reduceMul, Nat.reduceEqDiff, Go.Addr.add, ↓reduceIte] at hw475_0)
    obtain rfl : ad464 = ad475 := (by injection e475)
    (try simp only [show (1 : Int).toNat = 1 from rfl, Nat.reduceMul, Nat.reduceEqDiff, Go.Addr.add, ↓reduceIte] at hx475_0)
    (try simp only [show (1 : Int).toNat = 1 from rfl, Nat.reduceMul, Nat.reduceEqDiff, Go.Addr.add, ↓reduceIte] at hx475_1)
    have qi475 : (1 < l0.length) = True := eq_true (by omega)
    (try rw [show ((1 : Int)).toNat = 1 from rfl] at hx475_0)
    (try rw [show 1 * 2 = 2 from rfl] at hx475_0)
    (try rw [show ((1 : Int)).toNat = 1 from rfl] at hx475_1)
    (try rw [show 1 * 2 = 2 from rfl] at hx475_1)
    replace hx475_0 := (HB.out.cell (wB w _ hx475_0)).trans hx475_0
    replace hx475_1 := (HB.out.cell (wB w _ hx475_1)).trans hx475_1
    replace p475 := eq_true p475
    replace q475 := eq_true q475
    refine start_ (n := 26) (S := fun w' => w'.cell? ⟨ad464.block, ad464.off + 2, none⟩ = some (.int .i64 ((rd_impl_Peg l0 1).f0)) ∧ w'.cell? ⟨ad464.block, ad464.off + 2 + 1, none⟩ = some (.int .i64 ((rd_impl_Peg l0 1).f1)) ∧ w'.cell? ⟨ad464.block, ad464.off + 4, none⟩ = some (.int .i64 ((rd_impl_Peg l0 2).f0)) ∧ w'.cell? ⟨ad464.block, ad464.off + 4 + 1, none⟩ = some (.int .i64 ((rd_impl_Peg l0 2).f1)) ∧ w'.cell? ⟨ad464.block, ad464.off + 4, none⟩ = some (.int .i64 ((rd_impl_Peg l0 2).f0)) ∧ w'.cell? ⟨ad464.block, ad464.off + 4 + 1, none⟩ = some (.int .i64 ((rd_impl_Peg l0 2).f1)) ∧ w'.cell? ad464 = some (.int .i64 ((rd_impl_Peg l0 0).f0)) ∧ w'.cell? ⟨ad464.block, ad464.off + 1, none⟩ = some (.int .i64 ((rd_impl_Peg l0 0).f1)) ∧ w'.cell? ad464 = some (.int .i64 ((rd_impl_Peg l0 0).f0)) ∧ w'.cell? ⟨ad464.block, ad464.off + 1, none⟩ = some (.int .i64 ((rd_impl_Peg l0 0).f1)) ∧ w'.cell? ⟨ad464.block, ad464.off + 2, none⟩ = some (.int .i64 ((rd_impl_Peg l0 1).f0)) ∧ w'.cell? ⟨ad464.block, ad464.off + 2 + 1, none⟩ = some (.int .i64 ((rd_impl_Peg l0 1).f1))) (ds := []) #[false, false, false, false, false, false, false, false, false, false, false, false, false, false, false, false, false, false, false, false, false, false, false, false, false, false] (by kernel_rfl) rfl rfl ⟨((HB.out.cell (wB w _ hw464_0)).trans hw464_0), ((HB.out.cell (wB w _ hw464_1)).trans hw464_1), ((HB.out.cell (wB w _ hw465_0)).trans hw465_0), ((HB.out.cell (wB w _ hw465_1)).trans hw465_1), ((HB.out.cell (wB w _ hw469_0)).trans hw469_0), ((HB.out.cell (wB w _ hw469_1)).trans hw469_1), ((HB.out.cell (wB w _ hw470_0)).trans hw470_0), ((HB.out.cell (wB w _ hw470_1)).trans hw470_1), ((HB.out.cell (wB w _ hw474_0)).trans hw474_0), ((HB.out.cell (wB w _ hw474_1)).trans hw474_1), ((HB.out.cell (wB w _ hw475_0)).trans hw475_0), ((HB.out.cell (wB w _ hw475_1)).trans hw475_1)⟩ (fun hHeld => ?_); refine with_tabW impl_sides.tab1 impl_sides.bits1 (fun HT_ HW_ => ?_)
    generalize w.drew = w11 at HB hx464_0 hx464_1 hx465_0 hx465_1 hx469_0 hx469_1 hx470_0 hx470_1 hx474_0 hx474_1 hx475_0 hx475_1 hHeld ⊢
    refine pure_ (i := 0) (N := some 3) (v := ?_) (a' := ?_) #[true, false, false, false, false, false, false, false, false, false, false, false, false, false, false, false, false, false, false, false, false, false, false, false, false, false] rfl rfl (any_of HT_.out (by kernel_rfl)) (fun _ _ _ h => h) (Or.inl ⟨by rfl, ?_⟩) ?_ ?_
    rotate_left
    ·intro w'
     go_simp
     with_reducible rfl
    rotate_left
    ·simp only [Act.put, sI, sZ, sS, i64_w, i32_w]
     rfl
    refine pure_ (i := 1) (N := some 4) (v := ?_) (a' := ?_) #[true, true, false, false, false, false, false, false, false, false, false, false, false, false, false, false, false, false, false, false, false, false, false, false, false, false] rfl rfl (any_of HT_.out (by kernel_rfl)) (fun _ _ _ h => h) (Or.inl ⟨by rfl, ?_⟩) ?_ ?_
    rotate_left
    ·intro w'
     go_simp
     with_reducible rfl
    rotate_left
    ·simp only [Act.put, sI, sZ, sS, i64_w, i32_w]
     rfl
    refine pure_ (i := 3) (N := some 6) (v := ?_) (a' := ?_) #[true, true, false, true, false, false, false, false, false, false, false, false, false, false, false, false, false, false, false, false, false, false, false, false, false, false] rfl rfl (any_of HT_.out (by kernel_rfl)) (fun _ _ _ h => h) (Or.inl ⟨by rfl, ?_⟩) ?_ ?_
    rotate_left
    ·intro w'
     go_simp
     with_reducible rfl
    rotate_left
    ·simp only [Act.put, sI, sZ, sS, i64_w, i32_w]
     rfl
    refine pure_ (i := 4) (N := some 7) (v := ?_) (a' := ?_) #[true, true, false, true, true, false, false, false, false, false, false, false, false, false, false, false, false, false, false, false, false, false, false, false, false, false] rfl rfl (any_of HT_.out (by kernel_rfl)) (fun _ _ _ h => h) (Or.inl ⟨by rfl, ?_⟩) ?_ ?_
    rotate_left
    ·intro w'
     go_simp
     with_reducible rfl
    rotate_left
    ·simp only [Act.put, sI, sZ, sS, i64_w, i32_w]
     rfl
    refine pure_ (i := 8) (N := some 11) (v := ?_) (a' := ?_) #[true, true, false, true, true, false, false, false, true, false, false, false, false, false, false, false, false, false, false, false, false, false, false, false, false, false] rfl rfl (any_of HT_.out (by kernel_rfl)) (fun _ _ _ h => h) (Or.inl ⟨by rfl, ?_⟩) ?_ ?_
    rotate_left
    ·intro w'
     go_simp
     with_reducible rfl
    rotate_left
    ·simp only [Act.put, sI, sZ, sS, i64_w, i32_w]
     rfl
    refine pure_ (i := 9) (N := some 12) (v := ?_) (a' := ?_) #[true, true, false, true, true, false, false, false, true, true, false, false, false, false, false, false, false, false, false, false, false, false, false, false, false, false] rfl rfl (any_of HT_.out (by kernel_rfl)) (fun _ _ _ h => h) (Or.inl ⟨by rfl, ?_⟩) ?_ ?_
    rotate_left
    ·intro w'
     go_simp
     with_reducible rfl
    rotate_left
    ·simp only [Act.put, sI, sZ, sS, i64_w, i32_w]
     rfl
    refine pure_ (i := 11) (N := some 14) (v := ?_) (a' := ?_) #[true, true, false, true, true, false, false, false, true, true, false, true, false, false, false, false, false, false, false, false, false, false, false, false, false, false] rfl rfl (any_of HT_.out (by kernel_rfl)) (fun _ _ _ h => h) (Or.inl ⟨by rfl, ?_⟩) ?_ ?_
    rotate_left
    ·intro w'
     go_simp
     with_reducible rfl
    rotate_left
    ·simp only [Act.put, sI, sZ, sS, i64_w, i32_w]
     rfl
    refine pure_ (i := 12) (N := some 15) (v := ?_) (a' := ?_) #[true, true, false, true, true, false, false, false, true, true, false, true, true, false, false, false, false, false, false, false, false, false, false, false, false, false] rfl rfl (any_of HT_.out (by kernel_rfl)) (fun _ _ _ h => h) (Or.inl ⟨by rfl, ?_⟩) ?_ ?_
    rotate_left
    ·intro w'
     go_simp
     with_reducible rfl
    rotate_left
    ·simp only [Act.put, sI, sZ, sS, i64_w, i32_w]
     rfl
    refine pure_ (i := 16) (N := some 19) (v := ?_) (a' := ?_) #[true, true, false, true, true, false, false, false, true, true, false, true, true, false, false, false, true, false, false, false, false, false, false, false, false, false] rfl rfl (any_of HT_.out (by kernel_rfl)) (fun _ _ _ h => h) (Or.inl ⟨by rfl, ?_⟩) ?_ ?_
    rotate_left
    ·intro w'
     go_simp
     with_reducible rfl
    rotate_left
    ·simp only [Act.put, sI, sZ, sS, i64_w, i32_w]
     rfl
    refine pure_ (i := 17) (N := some 20) (v := ?_) (a' := ?_) #[true, true, false, true, true, false, false, false, true, true, false, true, true, false, false, false, true, true, false, false, false, false, false, false, false, false] rfl rfl (any_of HT_.out (by kernel_rfl)) (fun _ _ _ h => h) (Or.inl ⟨by rfl, ?_⟩) ?_ ?_
    rotate_left
    ·intro w'
     go_simp
     with_reducible rfl
    rotate_left
    ·simp only [Act.put, sI, sZ, sS, i64_w, i32_w]
     rfl
    refine pure_ (i := 19) (N := some 22) (v := ?_) (a' := ?_) #[true, true, false, true, true, false, false, false, true, true, false, true, true, false, false, false, true, true, false, true, false, false, false, false, false, false] rfl rfl (any_of HT_.out (by kernel_rfl)) (fun _ _ _ h => h) (Or.inl ⟨by rfl, ?_⟩) ?_ ?_
    rotate_left
    ·intro w'
     go_simp
     with_reducible rfl
    rotate_left
    ·simp only [Act.put, sI, sZ, sS, i64_w, i32_w]
     rfl
    refine pure_ (i := 20) (N := some 23) (v := ?_) (a' := ?_) #[true, true, false, true, true, false, false, false, true, true, false, true, true, false, false, false, true, true, false, true, true, false, false, false, false, false] rfl rfl (any_of HT_.out (by kernel_rfl)) (fun _ _ _ h => h) (Or.inl ⟨by rfl, ?_⟩) ?_ ?_
    rotate_left
    ·intro w'
     go_simp
     with_reducible rfl
    rotate_left
    ·simp only [Act.put, sI, sZ, sS, i64_w, i32_w]
     rfl
    refine take_ (i := 2) (N := some 5) (v := ?_) (a' := ?_) #[true, true, true, true, true, false, false, false, true, true, false, true, true, false, false, false, true, true, false, true, true, false, false, false, false, false] rfl rfl (take_ofW HT_.out HW_.out (by kernel_rfl)) (fun _ _ _ h => h) (Or.inl ⟨by rfl, ?_⟩) hHeld ?_ ?_
    rotate_left
    ·rintro w' ⟨s0, s1, s2, s3, s4, s5, s6, s7, s8, s9, s10, s11⟩
     go_simp
     with_reducible rfl
    rotate_left
    ·simp only [Act.put, sI, sZ, sS, i64_w, i32_w]
     rfl
    refine take_ (i := 5) (N := some 8) (v := ?_) (a' := ?_) #[true, true, true, true, true, true, false, false, true, true, false, true, true, false, false, false, true, true, false, true, true, false, false, false, false, false] rfl rfl (take_ofW HT_.out HW_.out (by kernel_rfl)) (fun _ _ _ h => h) (Or.inl ⟨by rfl, ?_⟩) hHeld ?_ ?_
    rotate_left
    ·rintro w' ⟨s0, s1, s2, s3, s4, s5, s6, s7, s8, s9, s10, s11⟩
     go_simp
     with_reducible rfl
    rotate_left
    ·simp only [Act.put, sI, sZ, sS, i64_w, i32_w]
     rfl
    refine take_ (i := 10) (N := some 13) (v := ?_) (a' := ?_) #[true, true, true, true, true, true, false, false, true, true, true, true, true, false, false, false, true, true, false, true, true, false, false, false, false, false] rfl rfl (take_ofW HT_.out HW_.out (by kernel_rfl)) (fun _ _ _ h => h) (Or.inl ⟨by rfl, ?_⟩) hHeld ?_ ?_
    rotate_left
    ·rintro w' ⟨s0, s1, s2, s3, s4, s5, s6, s7, s8, s9, s10, s11⟩
     go_simp
     with_reducible rfl
    rotate_left
    ·simp only [Act.put, sI, sZ, sS, i64_w, i32_w]
     rfl
    refine take_ (i := 13) (N := some 16) (v := ?_) (a' := ?_) #[true, true, true, true, true, true, false, false, true, true, true, true, true, true, false, false, true, true, false, true, true, false, false, false, false, false] rfl rfl (take_ofW HT_.out HW_.out (by kernel_rfl)) (fun _ _ _ h => h) (Or.inl ⟨by rfl, ?_⟩) hHeld ?_ ?_
    rotate_left
    ·rintro w' ⟨s0, s1, s2, s3, s4, s5, s6, s7, s8, s9, s10, s11⟩
     go_simp
     with_reducible rfl
    rotate_left
    ·simp only [Act.put, sI, sZ, sS, i64_w, i32_w]
     rfl
    refine take_ (i := 18) (N := some 21) (v := ?_) (a' := ?_) #[true, true, true, true, true, true, false, false, true, true, true, true, true, true, false, false, true, true, true, true, true, false, false, false, false, false] rfl rfl (take_ofW HT_.out HW_.out (by kernel_rfl)) (fun _ _ _ h => h) (Or.inl ⟨by rfl, ?_⟩) hHeld ?_ ?_
    rotate_left
    ·rintro w' ⟨s0, s1, s2, s3, s4, s5, s6, s7, s8, s9, s10, s11⟩
     go_simp
     with_reducible rfl
    rotate_left
    ·simp only [Act.put, sI, sZ, sS, i64_w, i32_w]
     rfl
    refine take_ (i := 21) (N := some 24) (v := ?_) (a' := ?_) #[true, true, true, true, true, true, false, false, true, true, true, true, true, true, false, false, true, true, true, true, true, true, false, false, false, false] rfl rfl (take_ofW HT_.out HW_.out (by kernel_rfl)) (fun _ _ _ h => h) (Or.inl ⟨by rfl, ?_⟩) hHeld ?_ ?_
    rotate_left
    ·rintro w' ⟨s0, s1, s2, s3, s4, s5, s6, s7, s8, s9, s10, s11⟩
     go_simp
     with_reducible rfl
    rotate_left
    ·simp only [Act.put, sI, sZ, sS, i64_w, i32_w]
     rfl
    refine one_ (i := 6) (N := some 9) #[true, true, true, true, true, true, true, false, true, true, true, true, true, true, false, false, true, true, true, true, true, true, false, false, false, false] rfl rfl (one_of HT_.out (by kernel_rfl)) (by decide) (fun K hK => ?_)
    refine goes_ Try.func99 (by kernel_rfl) rfl #[.agg #[.int .i64 ((rd_impl_Peg l0 1).f0), .int .i64 ((rd_impl_Peg l0 1).f1)], .agg #[.int .i64 ((rd_impl_Peg l0 2).f0), .int .i64 ((rd_impl_Peg l0 2).f1)]] (by rfl) rfl rfl (by (try simp only [mA, mC, mN]); first | done | rfl | (simp only [lD, lT]; rfl)) ?_
    with_reducible refine (impl_Peg_less.calls ((rd_impl_Peg l0 1).f0) ((rd_impl_Peg l0 1).f1) ((rd_impl_Peg l0 2).f0) ((rd_impl_Peg l0 2).f1) t466 t467 _ A4.out).mono ?_
    rintro e w12 ⟨rfl, hb⟩
    refine ⟨_, rfl, ?_⟩
    have n0_ := aM (pT (by repeat (first | (with_reducible first | exact HB.out | apply pA | apply pN | apply pD) | exact HB.out)) hb)
    clear HB
    have HB := n0_
    clear n0_
    (try clear hb)
    (try clear hb2)
    (try clear hk)
    (try clear hi)
    refine hK.out _ _ ⟨((HB.out.cell (wB w _ hw464_0)).trans hw464_0), ((HB.out.cell (wB w _ hw464_1)).trans hw464_1), ((HB.out.cell (wB w _ hw465_0)).trans hw465_0), ((HB.out.cell (wB w _ hw465_1)).trans hw465_1), ((HB.out.cell (wB w _ hw469_0)).trans hw469_0), ((HB.out.cell (wB w _ hw469_1)).trans hw469_1), ((HB.out.cell (wB w _ hw470_0)).trans hw470_0), ((HB.out.cell (wB w _ hw470_1)).trans hw470_1), ((HB.out.cell (wB w _ hw474_0)).trans hw474_0), ((HB.out.cell (wB w _ hw474_1)).trans hw474_1), ((HB.out.cell (wB w _ hw475_0)).trans hw475_0), ((HB.out.cell (wB w _ hw475_1)).trans hw475_1)⟩ (fun hHeld => ?_)
    clear hK K
    refine norm_ (a' := ?_) ?_ ?_
    rotate_left
    ·show Act.put _ (some 9) _ = _
     simp only [Act.put, sI, sZ, sS, i64_w, i32_w]
     rfl
    refine one_ (i := 7) (N := some 10) #[true, true, true, true, true, true, true, true, true, true, true, true, true, true, false, false, true, true, true, true, true, true, false, false, false, false] rfl rfl (one_of HT_.out (by kernel_rfl)) (by decide) (fun K hK => ?_)
    refine goes_ Try.func115 (by kernel_rfl) rfl #[.agg #[.int .i64 t466, .int .i64 t467]] (by rfl) rfl rfl (by (try simp only [mA, mC, mN]); first | done | rfl | (simp only [lD, lT]; rfl)) ?_
    with_reducible refine (impl_Peg_square.calls t466 t467 t468 _ A5.out).mono ?_
    rintro e w13 ⟨rfl, hb⟩
    refine ⟨_, rfl, ?_⟩
    have n0_ := aM (pT (by repeat (first | (with_reducible first | exact HB.out | apply pA | apply pN | apply pD) | exact HB.out)) hb)
    clear HB
    have HB := n0_
    clear n0_
    (try clear hb)
    (try clear hb2)
    (try clear hk)
    (try clear hi)
    refine hK.out _ _ ⟨((HB.out.cell (wB w _ hw464_0)).trans hw464_0), ((HB.out.cell (wB w _ hw464_1)).trans hw464_1), ((HB.out.cell (wB w _ hw465_0)).trans hw465_0), ((HB.out.cell (wB w _ hw465_1)).trans hw465_1), ((HB.out.cell (wB w _ hw469_0)).trans hw469_0), ((HB.out.cell (wB w _ hw469_1)).trans hw469_1), ((HB.out.cell (wB w _ hw470_0)).trans hw470_0), ((HB.out.cell (wB w _ hw470_1)).trans hw470_1), ((HB.out.cell (wB w _ hw474_0)).trans hw474_0), ((HB.out.cell (wB w _ hw474_1)).trans hw474_1), ((HB.out.cell (wB w _ hw475_0)).trans hw475_0), ((HB.out.cell (wB w _ hw475_1)).trans hw475_1)⟩ (fun hHeld => ?_)
    clear hK K
    refine norm_ (a' := ?_) ?_ ?_
    rotate_left
    ·show Act.put _ (some 10) _ = _
     simp only [Act.put, sI, sZ, sS, i64_w, i32_w]
     rfl
    refine one_ (i := 14) (N := some 17) #[true, true, true, true, true, true, true, true, true, true, true, true, true, true, true, false, true, true, true, true, true, true, false, false, false, false] rfl rfl (one_of HT_.out (by kernel_rfl)) (by decide) (fun K hK => ?_)
    refine goes_ Try.func99 (by kernel_rfl) rfl #[.agg #[.int .i64 ((rd_impl_Peg l0 2).f0), .int .i64 ((rd_impl_Peg l0 2).f1)], .agg #[.int .i64 ((rd_impl_Peg l0 0).f0), .int .i64 ((rd_impl_Peg l0 0).f1)]] (by rfl) rfl rfl (by (try simp only [mA, mC, mN]); first | done | rfl | (simp only [lD, lT]; rfl)) ?_
    with_reducible refine (impl_Peg_less.calls ((rd_impl_Peg l0 2).f0) ((rd_impl_Peg l0 2).f1) ((rd_impl_Peg l0 0).f0) ((rd_impl_Peg l0 0).f1) t471 t472 _ A7.out).mono ?_
    rintro e w14 ⟨rfl, hb⟩
    refine ⟨_, rfl, ?_⟩
    have n0_ := aM (pT (by repeat (first | (with_reducible first | exact HB.out | apply pA | apply pN | apply pD) | exact HB.out)) hb)
    clear HB
    have HB := n0_
    clear n0_
    (try clear hb)
    (try clear hb2)
    (try clear hk)
    (try clear hi)
    refine hK.out _ _ ⟨((HB.out.cell (wB w _ hw464_0)).trans hw464_0), ((HB.out.cell (wB w _ hw464_1)).trans hw464_1), ((HB.out.cell (wB w _ hw465_0)).trans hw465_0), ((HB.out.cell (wB w _ hw465_1)).trans hw465_1), ((HB.out.cell (wB w _ hw469_0)).trans hw469_0), ((HB.out.cell (wB w _ hw469_1)).trans hw469_1), ((HB.out.cell (wB w _ hw470_0)).trans hw470_0), ((HB.out.cell (wB w _ hw470_1)).trans hw470_1), ((HB.out.cell (wB w _ hw474_0)).trans hw474_0), ((HB.out.cell (wB w _ hw474_1)).trans hw474_1), ((HB.out.cell (wB w _ hw475_0)).trans hw475_0), ((HB.out.cell (wB w _ hw475_1)).trans hw475_1)⟩ (fun hHeld => ?_)
    clear hK K
    refine norm_ (a' := ?_) ?_ ?_
    rotate_left
    ·show Act.put _ (some 17) _ = _
     simp only [Act.put, sI, sZ, sS, i64_w, i32_w]
     rfl
    refine one_ (i := 15) (N := some 18) #[true, true, true, true, true, true, true, true, true, true, true, true, true, true, true, true, true, true, true, true, true, true, false, false, false, false] rfl rfl (one_of HT_.out (by kernel_rfl)) (by decide) (fun K hK => ?_)
    refine goes_ Try.func115 (by kernel_rfl) rfl #[.agg #[.int .i64 t471, .int .i64 t472]] (by rfl) rfl rfl (by (try simp only [mA, mC, mN]); first | done | rfl | (simp only [lD, lT]; rfl)) ?_
    with_reducible refine (impl_Peg_square.calls t471 t472 t473 _ A8.out).mono ?_
    rintro e w15 ⟨rfl, hb⟩
    refine ⟨_, rfl, ?_⟩
    have n0_ := aM (pT (by repeat (first | (with_reducible first | exact HB.out | apply pA | apply pN | apply pD) | exact HB.out)) hb)
    clear HB
    have HB := n0_
    clear n0_
    (try clear hb)
    (try clear hb2)
    (try clear hk)
    (try clear hi)
    refine hK.out _ _ ⟨((HB.out.cell (wB w _ hw464_0)).trans hw464_0), ((HB.out.cell (wB w _ hw464_1)).trans hw464_1), ((HB.out.cell (wB w _ hw465_0)).trans hw465_0), ((HB.out.cell (wB w _ hw465_1)).trans hw465_1), ((HB.out.cell (wB w _ hw469_0)).trans hw469_0), ((HB.out.cell (wB w _ hw469_1)).trans hw469_1), ((HB.out.cell (wB w _ hw470_0)).trans hw470_0), ((HB.out.cell (wB w _ hw470_1)).trans hw470_1), ((HB.out.cell (wB w _ hw474_0)).trans hw474_0), ((HB.out.cell (wB w _ hw474_1)).trans hw474_1), ((HB.out.cell (wB w _ hw475_0)).trans hw475_0), ((HB.out.cell (wB w _ hw475_1)).trans hw475_1)⟩ (fun hHeld => ?_)
    clear hK K
    refine norm_ (a' := ?_) ?_ ?_
    rotate_left
    ·show Act.put _ (some 18) _ = _
     simp only [Act.put, sI, sZ, sS, i64_w, i32_w]
     rfl
    refine one_ (i := 22) (N := some 25) #[true, true, true, true, true, true, true, true, true, true, true, true, true, true, true, true, true, true, true, true, true, true, true, false, false, false] rfl rfl (one_of HT_.out (by kernel_rfl)) (by decide) (fun K hK => ?_)
    refine goes_ Try.func99 (by kernel_rfl) rfl #[.agg #[.int .i64 ((rd_impl_Peg l0 0).f0), .int .i64 ((rd_impl_Peg l0 0).f1)], .agg #[.int .i64 ((rd_impl_Peg l0 1).f0), .int .i64 ((rd_impl_Peg l0 1).f1)]] (by rfl) rfl rfl (by (try simp only [mA, mC, mN]); first | done | rfl | (simp only [lD, lT]; rfl)) ?_
    with_reducible refine (impl_Peg_less.calls ((rd_impl_Peg l0 0).f0) ((rd_impl_Peg l0 0).f1) ((rd_impl_Peg l0 1).f0) ((rd_impl_Peg l0 1).f1) t476 t477 _ A9.out).mono ?_
    rintro e w16 ⟨rfl, hb⟩
    refine ⟨_, rfl, ?_⟩
    have n0_ := aM (pT (by repeat (first | (with_reducible first | exact HB.out | apply pA | apply pN | apply pD) | exact HB.out)) hb)
    clear HB
    have HB := n0_
    clear n0_
    (try clear hb)
    (try clear hb2)
    (try clear hk)
    (try clear hi)
    refine hK.out _ _ ⟨((HB.out.cell (wB w _ hw464_0)).trans hw464_0), ((HB.out.cell (wB w _ hw464_1)).trans hw464_1), ((HB.out.cell (wB w _ hw465_0)).trans hw465_0), ((HB.out.cell (wB w _ hw465_1)).trans hw465_1), ((HB.out.cell (wB w _ hw469_0)).trans hw469_0), ((HB.out.cell (wB w _ hw469_1)).trans hw469_1), ((HB.out.cell (wB w _ hw470_0)).trans hw470_0), ((HB.out.cell (wB w _ hw470_1)).trans hw470_1), ((HB.out.cell (wB w _ hw474_0)).trans hw474_0), ((HB.out.cell (wB w _ hw474_1)).trans hw474_1), ((HB.out.cell (wB w _ hw475_0)).trans hw475_0), ((HB.out.cell (wB w _ hw475_1)).trans hw475_1)⟩ (fun hHeld => ?_)
    clear hK K
    refine norm_ (a' := ?_) ?_ ?_
    rotate_left
    ·show Act.put _ (some 25) _ = _
     simp only [Act.put, sI, sZ, sS, i64_w, i32_w]
     rfl
    refine one_ (i := 23) (N := some 26) #[true, true, true, true, true, true, true, true, true, true, true, true, true, true, true, true, true, true, true, true, true, true, true, true, false, false] rfl rfl (one_of HT_.out (by kernel_rfl)) (by decide) (fun K hK => ?_)
    refine goes_ Try.func115 (by kernel_rfl) rfl #[.agg #[.int .i64 t476, .int .i64 t477]] (by rfl) rfl rfl (by (try simp only [mA, mC, mN]); first | done | rfl | (simp only [lD, lT]; rfl)) ?_
    with_reducible refine (impl_Peg_square.calls t476 t477 t478 _ A10.out).mono ?_
    rintro e w17 ⟨rfl, hb⟩
    refine ⟨_, rfl, ?_⟩
    have n0_ := aM (pT (by repeat (first | (with_reducible first | exact HB.out | apply pA | apply pN | apply pD) | exact HB.out)) hb)
    clear HB
    have HB := n0_
    clear n0_
    (try clear hb)
    (try clear hb2)
    (try clear hk)
    (try clear hi)
    refine hK.out _ _ ⟨((HB.out.cell (wB w _ hw464_0)).trans hw464_0), ((HB.out.cell (wB w _ hw464_1)).trans hw464_1), ((HB.out.cell (wB w _ hw465_0)).trans hw465_0), ((HB.out.cell (wB w _ hw465_1)).trans hw465_1), ((HB.out.cell (wB w _ hw469_0)).trans hw469_0), ((HB.out.cell (wB w _ hw469_1)).trans hw469_1), ((HB.out.cell (wB w _ hw470_0)).trans hw470_0), ((HB.out.cell (wB w _ hw470_1)).trans hw470_1), ((HB.out.cell (wB w _ hw474_0)).trans hw474_0), ((HB.out.cell (wB w _ hw474_1)).trans hw474_1), ((HB.out.cell (wB w _ hw475_0)).trans hw475_0), ((HB.out.cell (wB w _ hw475_1)).trans hw475_1)⟩ (fun hHeld => ?_)
    clear hK K
    refine norm_ (a' := ?_) ?_ ?_
    rotate_left
    ·show Act.put _ (some 26) _ = _
     simp only [Act.put, sI, sZ, sS, i64_w, i32_w]
     rfl
    refine one_ (i := 24) (N := some 27) #[true, true, true, true, true, true, true, true, true, true, true, true, true, true, true, true, true, true, true, true, true, true, true, true, true, false] rfl rfl (one_of HT_.out (by kernel_rfl)) (by decide) (fun K hK => ?_)
    refine Kd.R_lit_step (Kd.int .i64) _ 3 ?hg (N := 27) ?hd (xs := ([t468, t473, t478] : List Int)) (inner := [.int .i64 t468, .int .i64 t473, .int .i64 t478]) (ok := fun _ => True) (okp := fun _ => True) ?hr ?hp (fun _ hk => hk) trivial (Below.refl _ _) (Nat.le_refl _) (by simp) ?_; (case hd => rfl); (case hg => rfl); (case hr => first | (go_simp; done) | (go_simp; rfl)); (case hp => exact (Reps.one (show Kd.M (Kd.int .i64) _ _ _ t468 [.int .i64 t468] from rfl) (Reps.one (show Kd.M (Kd.int .i64) _ _ _ t473 [.int .i64 t473] from rfl) (Reps.one (show Kd.M (Kd.int .i64) _ _ _ t478 [.int .i64 t478] from rfl) (Reps.none _ _)))))
    intro v480 w18 ho19 hb hg_ hnew_
    clear hg_ hnew_
    (first | rw [← Ny479.out] at ho19 | (simp only [Int.reduceToNat] at ho19; rw [← Ny479.out] at ho19))
    have n0_ := aM (Kd.R_lower ho19 (pZ (by repeat (first | (with_reducible first | exact HB.out | apply pA | apply pN | apply pD) | exact HB.out))))
    have n1_ := aM (pT (by repeat (first | (with_reducible first | exact HB.out | apply pA | apply pN | apply pD) | exact HB.out)) hb)
    clear HB
    have HO481 := n0_
    have HB := n1_
    clear n0_ n1_
    clear hb ho19
    refine hK.out _ _ ⟨((HB.out.cell (wB w _ hw464_0)).trans hw464_0), ((HB.out.cell (wB w _ hw464_1)).trans hw464_1), ((HB.out.cell (wB w _ hw465_0)).trans hw465_0), ((HB.out.cell (wB w _ hw465_1)).trans hw465_1), ((HB.out.cell (wB w _ hw469_0)).trans hw469_0), ((HB.out.cell (wB w _ hw469_1)).trans hw469_1), ((HB.out.cell (wB w _ hw470_0)).trans hw470_0), ((HB.out.cell (wB w _ hw470_1)).trans hw470_1), ((HB.out.cell (wB w _ hw474_0)).trans hw474_0), ((HB.out.cell (wB w _ hw474_1)).trans hw474_1), ((HB.out.cell (wB w _ hw475_0)).trans hw475_0), ((HB.out.cell (wB w _ hw475_1)).trans hw475_1)⟩ (fun hHeld => ?_)
    clear hK K
    refine norm_ (a' := ?_) ?_ ?_
    rotate_left
    ·show Act.put _ (some 27) _ = _
     simp only [Act.put, sI, sZ, sS, i64_w, i32_w]
     rfl
    refine pure_ (i := 25) (N := some 2) (v := ?_) (a' := ?_) #[true, true, true, true, true, true, true, true, true, true, true, true, true, true, true, true, true, true, true, true, true, true, true, true, true, true] rfl rfl (any_of HT_.out (by kernel_rfl)) (fun _ _ _ h => h) (Or.inl ⟨by rfl, ?_⟩) ?_ ?_
    rotate_left
    ·intro w'
     go_simp
     with_reducible rfl
    rotate_left
    ·simp only [Act.put, sI, sZ, sS, i64_w, i32_w]
     rfl
    refine done_ (done_of HT_.out (by kernel_rfl)) ?_
    try go_wp2
    go_ret
    exact ⟨_, by first | rfl | (simp [errW_none, errW_some] <;> rfl) | (simp [*, errW_none, errW_some] <;> rfl), by (with_reducible repeat (first | apply rA | apply rN | apply rD)); exact HO481.out, by repeat (first | (with_reducible first | exact HB.out | apply pA | apply pN | apply pD) | exact HB.out)⟩
   ·rw [if_neg c6] at H
    exact absurd H (by simp)
  ·rw [if_neg c3] at H
   exact absurd H (by simp)
 ·rw [if_neg c2] at H
  exact absurd H (by simp)

end Go.Proofs.Ytnlkglbpihgcmaa.X
