-- thin
-- short
import Derived.Test.YtiacfkilmknldaaXA
import Derived.Test.YtiacfkilmknldaaX0
import Derived.Test.YtiacfkilmknldaaX2
import Derived.Test.YtiacfkilmknldaaX23
namespace Go.Proofs.Ytiacfkilmknldaa.X
open Go.RowKit Go.Proofs.Ytiacfkilmknldaa.XW Go.Proofs.YtiacfkilmknldaaW.PrintWords Go.Proofs.YtiacfkilmknldaaW.PrintLast Go.Proofs.YtiacfkilmknldaaW.PrintMore
attribute [local go_sem] max2_int min2_int max_two min_two max_three min_three max_four min_four   -- for this text's walks alone
set_option linter.unusedVariables false
set_option linter.unusedSimpArgs false

def spec_trParts.f (l0 : List (S_impl_Peg)) (a1_0 : Int) (a1_1 : Int) : Option (List Int) := if 1 < (l0.length : Int) then (if 2 < (l0.length : Int) then ((spec_pgTurn.f a1_0 a1_1 ((rd_impl_Peg l0 1).f0) ((rd_impl_Peg l0 1).f1) ((rd_impl_Peg l0 2).f0) ((rd_impl_Peg l0 2).f1)).bind fun t551 => (if 0 < (l0.length : Int) then ((spec_pgTurn.f ((rd_impl_Peg l0 0).f0) ((rd_impl_Peg l0 0).f1) a1_0 a1_1 ((rd_impl_Peg l0 2).f0) ((rd_impl_Peg l0 2).f1)).bind fun t554 => ((spec_pgTurn.f ((rd_impl_Peg l0 0).f0) ((rd_impl_Peg l0 0).f1) ((rd_impl_Peg l0 1).f0) ((rd_impl_Peg l0 1).f1) a1_0 a1_1).bind fun t557 => (some (([t551, t554, t557] : List Int))))) else (none))) else (none)) else (none)
def spec_trParts.T1 : Bool × List (List Nat × List Nat) := (true, [([], []), ([], []), ([1], [1]), ([2], [2]), ([], []), ([4], [4]), ([5], [5]), ([0, 3, 6], [0, 3, 6]), ([], []), ([8], [8]), ([9], [9]), ([], []), ([], []), ([12], [12]), ([13], [13]), ([10, 11, 14, 7], [10, 11, 14]), ([], []), ([16], [16]), ([17], [17]), ([], []), ([19], [19]), ([20], [20]), ([], []), ([18, 21, 22, 15], [18, 21, 22]), ([7, 15, 23], [7, 15, 23]), ([24, 23, 0, 1, 2, 3, 4, 5, 6, 7, 8, 9, 10, 11, 12, 13, 14, 15, 16, 17, 18, 19, 20, 21, 22, 23, 24], [24])])
def spec_trParts.B1 : List Nat := [0, 0, 2, 6, 0, 16, 48, 127, 0, 256, 768, 0, 0, 4096, 12288, 32767, 0, 65536, 196608, 0, 524288, 1572864, 0, 8388607, 16777215, 33554431]
theorem spec_trParts.tab1 : rtab .any (opsOf Try.f103 1) = spec_trParts.T1 := by kernel_rfl
theorem spec_trParts.bits1 : waitsOk spec_trParts.T1.2 spec_trParts.B1 = true := by kernel_rfl
set_option maxHeartbeats 8000000 in
set_option maxRecDepth 100000 in
theorem spec_trParts.calls (A0 : Option Addr) (c0 : Nat) (l0 : List (S_impl_Peg)) (a1_0 : Int) (a1_1 : Int) (r : List Int) (w : World) (hr0 : Kd.C kd_impl_Peg w A0 l0.length l0) (hc0 : l0.length ≤ c0) (h : spec_trParts.f l0 a1_0 a1_1 = some r) :
  Calls Try.prog 103 #[.slice A0 l0.length c0, .agg #[.int .i64 a1_0, .int .i64 a1_1]] w fun e w' => ∃ v0_ : Value, e = .returned (v0_) ∧ Kd.R (Kd.int .i64) 3 w' w.heap.size (fun _ => True) v0_ r ∧ Below w.heap.size w w' := by
 have hu34 := Try.underlying34
 have HR0 := aM hr0
 have HC0 := aM hc0
 clear hr0 hc0
 have HB := aM (Below.refl w.heap.size w)
 have H : (if 1 < (l0.length : Int) then (if 2 < (l0.length : Int) then ((spec_pgTurn.f a1_0 a1_1 ((rd_impl_Peg l0 1).f0) ((rd_impl_Peg l0 1).f1) ((rd_impl_Peg l0 2).f0) ((rd_impl_Peg l0 2).f1)).bind fun t551 => (if 0 < (l0.length : Int) then ((spec_pgTurn.f ((rd_impl_Peg l0 0).f0) ((rd_impl_Peg l0 0).f1) a1_0 a1_1 ((rd_impl_Peg l0 2).f0) ((rd_impl_Peg l0 2).f1)).bind fun t554 => ((spec_pgTurn.f ((rd_impl_Peg l0 0).f0) ((rd_impl_Peg l0 0).f1) ((rd_impl_Peg l0 1).f0) ((rd_impl_Peg l0 1).f1) a1_0 a1_1).bind fun t557 => (some (([t551, t554, t557] : List Int))))) else (none))) else (none)) else (none)) = some r := h
 clear h
 by_cases c3 : 1 < (l0.length : Int)
 ·rw [if_pos c3] at H
  have c3b0 : decide (1 < (l0.length : Int)) = true := dE c3
  have c3b1 : decide (1 < l0.length) = true := dE (by omega)
  clear c3
  by_cases c4 : 2 < (l0.length : Int)
  ·rw [if_pos c4] at H
   have c4b0 : decide (2 < (l0.length : Int)) = true := dE c4
   have c4b1 : decide (2 < l0.length) = true := dE (by omega)
   clear c4
   replace H := oB.mp H
   obtain ⟨t551, A50, H⟩ := H
   replace H : (if 0 < (l0.length : Int) then ((spec_pgTurn.f ((rd_impl_Peg l0 0).f0) ((rd_impl_Peg l0 0).f1) a1_0 a1_1 ((rd_impl_Peg l0 2).f0) ((rd_impl_Peg l0 2).f1)).bind fun t554 => ((spec_pgTurn.f ((rd_impl_Peg l0 0).f0) ((rd_impl_Peg l0 0).f1) ((rd_impl_Peg l0 1).f0) ((rd_impl_Peg l0 1).f1) a1_0 a1_1).bind fun t557 => (some (([t551, t554, t557] : List Int))))) else (none)) = some r := H
   have A5 := aM A50
   clear A50
   by_cases c6 : 0 < (l0.length : Int)
   ·rw [if_pos c6] at H
    have c6b0 : decide (0 < (l0.length : Int)) = true := dE c6
    have c6b1 : decide (0 < l0.length) = true := dE (by omega)
    clear c6
    replace H := oB.mp H
    obtain ⟨t554, A70, H⟩ := H
    replace H : ((spec_pgTurn.f ((rd_impl_Peg l0 0).f0) ((rd_impl_Peg l0 0).f1) ((rd_impl_Peg l0 1).f0) ((rd_impl_Peg l0 1).f1) a1_0 a1_1).bind fun t557 => (some (([t551, t554, t557] : List Int)))) = some r := H
    have A7 := aM A70
    clear A70
    replace H := oB.mp H
    obtain ⟨t557, A80, H⟩ := H
    replace H : (some (([t551, t554, t557] : List Int))) = some r := H
    have A8 := aM A80
    clear A80
    obtain ⟨y558, hy558⟩ : ∃ y_ : List Int, y_ = (([t551, t554, t557] : List Int)) := ⟨_, rfl⟩
    replace H : (some y558) = some r := by first | (rw [hy558]; with_reducible exact H) | (have H2_ := (Option.bind_some _ _).symm.trans H; rw [hy558]; with_reducible exact H2_) | (have H2_ := (Option.bind_some _ _).symm.trans H; with_reducible exact H2_) | with_reducible exact H | (rw [hy558]; exact H) | exact H
    have Ny558 := aM hy558
    clear hy558
    obtain rfl := Option.some.inj H
    go_enter Try.func103, Try.ntmps103
    try go_wp2_with (first | ((with_reducible refine gate_dst (N := 3) rfl ?_); refine box_event ?hg (N := 3) ?hd (cs := #[.int .i64 a1_0, .int .i64 a1_1]) (t := 34) ?hr ?_; (case hd => rfl); (case hg => rfl); (case hr => first | (go_simp; done) | (go_simp; rfl)); intro gb548 hg w9 hbox hb; have n0_ := aM (pT (by repeat (first | (with_reducible first | exact HB.out | apply pA | apply pN | apply pD) | exact HB.out)) hb); have n1_ := aM (hbox); have n2_ := aM ((by rw [hg]; exact (pZ (by repeat (first | (with_reducible first | exact HB.out | apply pA | apply pN | apply pD) | exact HB.out))) : w.heap.size ≤ gb548)); have n3_ := aM ((by rw [hg]; exact (pZ (by repeat (first | (with_reducible first | exact HB.out | apply pA | apply pN | apply pD) | exact HB.out))) : w.heap.size ≤ gb548)); clear HB; have HB := n0_; have BK548 := n1_; have GW548 := n2_; have GE548 := n3_; clear n0_ n1_ n2_ n3_; clear hb hbox hg))
    have n0_ := aM (kD BK548.out)
    have n1_ := aM (pD HB.out)
    clear BK548
    clear HB
    have BK548 := n0_
    have HB := n1_
    clear n0_ n1_
    have p549 : 0 ≤ (1 : Int) := (by omega)
    have q549 : 1 < (l0.length : Int) := dT (by first | (with_reducible assumption) | assumption)
    obtain ⟨ad549, e549, hx549_0, hx549_1⟩ := at_impl_Peg HR0.out 1 p549 q549
    have hw549_1 := hx549_1
    (try rw [show ((1 : Int)).toNat = 1 from rfl] at hw549_1)
    (try rw [show 1 * 2 = 2 from rfl] at hw549_1)
    (try simp only [Nat.reduceMul, Nat.reduceEqDiff, Go.Addr.add, ↓reduceIte] at hw549_1)
    have hw549_0 := hx549_0
    (try rw [show ((1 : Int)).toNat = 1 from rfl] at hw549_0)
    (try rw [show 1 * 2 = 2 from rfl] at hw549_0)
    (try simp only [Nat.reduceMul, Nat.reduceEqDiff, Go.Addr.add, ↓reduceIte] at hw549_0)
    cases e549
    (try simp only [show (1 : Int).toNat = 1 from rfl, Nat.reduceMul, Nat.reduceEqDiff, Go.Addr.add, ↓reduceIte] at hx549_0)
    (try simp only [show (1 : Int).toNat = 1 from rfl, Nat.reduceMul, Nat.reduceEqDiff, Go.Addr.add, ↓reduceIte] at hx549_1)
    have qi549 : (1 < l0.length) = True := eq_true (by omega)
    (try rw [show ((1 : Int)).toNat = 1 from rfl] at hx549_0)
    (try rw [show 1 * 2 = 2 from rfl] at hx549_0)
    (try rw [show ((1 : Int)).toNat = 1 from rfl] at hx549_1)
    (try rw [show 1 * 2 = 2 from rfl] at hx549_1)
    replace hx549_0 := (HB.out.cell (wB w _ hx549_0)).trans hx549_0
    replace hx549_1 := (HB.out.cell (wB w _ hx549_1)).trans hx549_1
    replace p549 := eq_true p549
    replace q549 := eq_true q549
    have p550 : 0 ≤ (2 : Int) := (by omega)
    have q550 : 2 < (l0.length : Int) := dT (by first | (with_reducible assumption) | assumption)
    obtain ⟨ad550, e550, hx550_0, hx550_1⟩ := at_impl_Peg HR0.out 2 p550 q550
    have hw550_1 := hx550_1
    (try rw [show ((2 : Int)).toNat = 2 from rfl] at hw550_1)
    (try rw [show 2 * 2 = 4 from rfl] at hw550_1)
    (try simp only [Nat.reduceMul, Nat.reduceEqDiff, Go.Addr.add, ↓reduceIte] at hw550_1)
    have hw550_0 := hx550_0
    (try rw [show ((2 : Int)).toNat = 2 from rfl] at hw550_0)
    (try rw [show 2 * 2 = 4 from rfl] at hw550_0)
    (try simp only [Nat.reduceMul, Nat.reduceEqDiff, Go.Addr.add, ↓reduceIte] at hw550_0)
    obtain rfl : ad549 = ad550 := (by injection e550)
    (try simp only [show (2 : Int).toNat = 2 from rfl, Nat.reduceMul, Nat.reduceEqDiff, Go.Addr.add, ↓reduceIte] at hx550_0)
    (try simp only [show (2 : Int).toNat = 2 from rfl, Nat.reduceMul, Nat.reduceEqDiff, Go.Addr.add, ↓reduceIte] at hx550_1)
    have qi550 : (2 < l0.length) = True := eq_true (by omega)
    (try rw [show ((2 : Int)).toNat = 2 from rfl] at hx550_0)
    (try rw [show 2 * 2 = 4 from rfl] at hx550_0)
    (try rw [show ((2 : Int)).toNat = 2 from rfl] at hx550_1)
    (try rw [show 2 * 2 = 4 from rfl] at hx550_1)
    replace hx550_0 := (HB.out.cell (wB w _ hx550_0)).trans hx550_0
    replace hx550_1 := (HB.out.cell (wB w _ hx550_1)).trans hx550_1
    replace p550 := eq_true p550
    replace q550 := eq_true q550
    have p552 : 0 ≤ (0 : Int) := (by omega)
    have q552 : 0 < (l0.length : Int) := dT (by first | (with_reducible assumption) | assumption)
    obtain ⟨ad552, e552, hx552_0, hx552_1⟩ := at_impl_Peg HR0.out 0 p552 q552
    have hw552_1 := hx552_1
    (try rw [show ((0 : Int)).toNat = 0 from rfl] at hw552_1)
    (try rw [show 0 * 2 = 0 from rfl] at hw552_1)
    (try rw [Addr.add_zero'] at hw552_1)
    have hw552_0 := hx552_0
    (try rw [show ((0 : Int)).toNat = 0 from rfl] at hw552_0)
    (try rw [show 0 * 2 = 0 from rfl] at hw552_0)
    (try rw [Addr.add_zero'] at hw552_0)
    obtain rfl : ad549 = ad552 := (by injection e552)
    have qi552 : (0 < l0.length) = True := eq_true (by omega)
    (try rw [show ((0 : Int)).toNat = 0 from rfl] at hx552_0)
    (try rw [show 0 * 2 = 0 from rfl] at hx552_0)
    (try rw [Addr.add_zero'] at hx552_0)
    (try rw [show ((0 : Int)).toNat = 0 from rfl] at hx552_1)
    (try rw [show 0 * 2 = 0 from rfl] at hx552_1)
    (try rw [Addr.add_zero'] at hx552_1)
    replace hx552_0 := (HB.out.cell (wB w _ hx552_0)).trans hx552_0
    replace hx552_1 := (HB.out.cell (wB w _ hx552_1)).trans hx552_1
    replace p552 := eq_true p552
    replace q552 := eq_true q552
    have p553 : 0 ≤ (2 : Int) := (by omega)
    have q553 : 2 < (l0.length : Int) := dT (by first | (with_reducible assumption) | assumption)
    obtain ⟨ad553, e553, hx553_0, hx553_1⟩ := at_impl_Peg HR0.out 2 p553 q553
    have hw553_1 := hx553_1
    (try rw [show ((2 : Int)).toNat = 2 from rfl] at hw553_1)
    (try rw [show 2 * 2 = 4 from rfl] at hw553_1)
    (try simp only [Nat.reduceMul, Nat.reduceEqDiff, Go.Addr.add, ↓reduceIte] at hw553_1)
    have hw553_0 := hx553_0
    (try rw [show ((2 : Int)).toNat = 2 from rfl] at hw553_0)
    (try rw [show 2 * 2 = 4 from rfl] at hw553_0)
    (try simp only [Nat.reduceMul, Nat.reduceEqDiff, Go.Addr.add, ↓reduceIte] at hw553_0)
    obtain rfl : ad549 = ad553 := (by injection e553)
    (try simp only [show (2 : Int).toNat = 2 from rfl, Nat.reduceMul, Nat.reduceEqDiff, Go.Addr.add, ↓reduceIte] at hx553_0)
    (try simp only [show (2 : Int).toNat = 2 from rfl, Nat.reduceMul, Nat.reduceEqDiff, Go.Addr.add, ↓reduceIte] at hx553_1)
    have qi553 : (2 < l0.length) = True := eq_true (by omega)
    (try rw [show ((2 : Int)).toNat = 2 from rfl] at hx553_0)
    (try rw [show 2 * 2 = 4 from rfl] at hx553_0)
    (try rw [show ((2 : Int)).toNat = 2 from rfl] at hx553_1)
    (try rw [show 2 * 2 = 4 from rfl] at hx553_1)
    replace hx553_0 := (HB.out.cell (wB w _ hx553_0)).trans hx553_0
    replace hx553_1 := (HB.out.cell (wB w _ hx553_1)).trans hx553_1
    replace p553 := eq_true p553
    replace q553 := eq_true q553
    have p555 : 0 ≤ (0 : Int) := (by omega)
    have q555 : 0 < (l0.length : Int) := dT (by first | (with_reducible assumption) | assumption)
    obtain ⟨ad555, e555, hx555_0, hx555_1⟩ := at_impl_Peg HR0.out 0 p555 q555
    have hw555_1 := hx555_1
    (try rw [show ((0 : Int)).toNat = 0 from rfl] at hw555_1)
    (try rw [show 0 * 2 = 0 from rfl] at hw555_1)
    (try rw [Addr.add_zero'] at hw555_1)
    have hw555_0 := hx555_0
    (try rw [show ((0 : Int)).toNat = 0 from rfl] at hw555_0)
    (try rw [show 0 * 2 = 0 from rfl] at hw555_0)
    (try rw [Addr.add_zero'] at hw555_0)
    obtain rfl : ad549 = ad555 := (by injection e555)
    have qi555 : (0 < l0.length) = True := eq_true (by omega)
    (try rw [show ((0 : Int)).toNat = 0 from rfl] at hx555_0)
    (try rw [show 0 * 2 = 0 from rfl] at hx555_0)
    (try rw [Addr.add_zero'] at hx555_0)
    (try rw [show ((0 : Int)).toNat = 0 from rfl] at hx555_1)
    (try rw [show 0 * 2 = 0 from rfl] at hx555_1)
    (try rw [Addr.add_zero'] at hx555_1)
    replace hx555_0 := (HB.out.cell (wB w _ hx555_0)).trans hx555_0
    replace hx555_1 := (HB.out.cell (wB w _ hx555_1)).trans hx555_1
    replace p555 := eq_true p555
    replace q555 := eq_true q555
    have p556 : 0 ≤ (1 : Int) := (by omega)
    have q556 : 1 < (l0.length : Int) := dT (by first | (with_reducible assumption) | assumption)
    obtain ⟨ad556, e556, hx556_0, hx556_1⟩ := at_impl_Peg HR0.out 1 p556 q556
    have hw556_1 := hx556_1
    (try rw [show ((1 : Int)).toNat = 1 from rfl] at hw556_1)
    (try rw [show 1 * 2 = 2 from rfl] at hw556_1)
    (try simp only [Nat.reduceMul, Nat.reduceEqDiff, Go.Addr.add, ↓reduceIte] at hw556_1)
    have hw556_0 := hx556_0
    (try rw [show ((1 : Int)).toNat = 1 from rfl] at hw556_0)
    (try rw [show 1 * 2 = 2 from rfl] at hw556_0)
    (try simp only [Nat.reduceMul, Nat.reduceEqDiff, Go.Addr.add, ↓reduceIte] at hw556_0)
    obtain rfl : ad549 = ad556 := (by injection e556)
    (try simp only [show (1 : Int).toNat = 1 from rfl, Nat.reduceMul, Nat.reduceEqDiff, Go.Addr.add, ↓reduceIte] at hx556_0)
    (try simp only [show (1 : Int).toNat = 1 from rfl, Nat.reduceMul, Nat.reduceEqDiff, Go.Addr.add, ↓reduceIte] at hx556_1)
    have qi556 : (1 < l0.length) = True := eq_true (by omega)
    (try rw [show ((1 : Int)).toNat = 1 from rfl] at hx556_0)
    (try rw [show 1 * 2 = 2 from rfl] at hx556_0)
    (try rw [show ((1 : Int)).toNat = 1 from rfl] at hx556_1)
    (try rw [show 1 * 2 = 2 from rfl] at hx556_1)
    replace hx556_0 := (HB.out.cell (wB w _ hx556_0)).trans hx556_0
    replace hx556_1 := (HB.out.cell (wB w _ hx556_1)).trans hx556_1
    replace p556 := eq_true p556
    replace q556 := eq_true q556
    refine start_ (n := 26) (S := fun w' => w'.cell? ⟨gb548, 0, none⟩ = some (.int .i64 a1_0) ∧ w'.cell? ⟨gb548, 1, none⟩ = some (.int .i64 a1_1) ∧ w'.cell? ⟨ad549.block, ad549.off + 2, none⟩ = some (.int .i64 ((rd_impl_Peg l0 1).f0)) ∧ w'.cell? ⟨ad549.block, ad549.off + 2 + 1, none⟩ = some (.int .i64 ((rd_impl_Peg l0 1).f1)) ∧ w'.cell? ⟨ad549.block, ad549.off + 4, none⟩ = some (.int .i64 ((rd_impl_Peg l0 2).f0)) ∧ w'.cell? ⟨ad549.block, ad549.off + 4 + 1, none⟩ = some (.int .i64 ((rd_impl_Peg l0 2).f1)) ∧ w'.cell? ad549 = some (.int .i64 ((rd_impl_Peg l0 0).f0)) ∧ w'.cell? ⟨ad549.block, ad549.off + 1, none⟩ = some (.int .i64 ((rd_impl_Peg l0 0).f1)) ∧ w'.cell? ⟨ad549.block, ad549.off + 4, none⟩ = some (.int .i64 ((rd_impl_Peg l0 2).f0)) ∧ w'.cell? ⟨ad549.block, ad549.off + 4 + 1, none⟩ = some (.int .i64 ((rd_impl_Peg l0 2).f1)) ∧ w'.cell? ad549 = some (.int .i64 ((rd_impl_Peg l0 0).f0)) ∧ w'.cell? ⟨ad549.block, ad549.off + 1, none⟩ = some (.int .i64 ((rd_impl_Peg l0 0).f1)) ∧ w'.cell? ⟨ad549.block, ad549.off + 2, none⟩ = some (.int .i64 ((rd_impl_Peg l0 1).f0)) ∧ w'.cell? ⟨ad549.block, ad549.off + 2 + 1, none⟩ = some (.int .i64 ((rd_impl_Peg l0 1).f1))) (ds := []) #[false, false, false, false, false, false, false, false, false, false, false, false, false, false, false, false, false, false, false, false, false, false, false, false, false, false] (by kernel_rfl) rfl rfl ⟨(kC BK548.out 0).trans rfl, (kC BK548.out 1).trans rfl, ((HB.out.cell (wB w _ hw549_0)).trans hw549_0), ((HB.out.cell (wB w _ hw549_1)).trans hw549_1), ((HB.out.cell (wB w _ hw550_0)).trans hw550_0), ((HB.out.cell (wB w _ hw550_1)).trans hw550_1), ((HB.out.cell (wB w _ hw552_0)).trans hw552_0), ((HB.out.cell (wB w _ hw552_1)).trans hw552_1), ((HB.out.cell (wB w _ hw553_0)).trans hw553_0), ((HB.out.cell (wB w _ hw553_1)).trans hw553_1), ((HB.out.cell (wB w _ hw555_0)).trans hw555_0), ((HB.out.cell (wB w _ hw555_1)).trans hw555_1), ((HB.out.cell (wB w _ hw556_0)).trans hw556_0), ((HB.out.cell (wB w _ hw556_1)).trans hw556_1)⟩ (fun hHeld => ?_); refine with_tabW spec_trParts.tab1 spec_trParts.bits1 (fun HT_ HW_ => ?_)
    generalize w9.drew = w10 at BK548 HB hx549_0 hx549_1 hx550_0 hx550_1 hx552_0 hx552_1 hx553_0 hx553_1 hx555_0 hx555_1 hx556_0 hx556_1 hHeld ⊢
    refine pure_ (i := 1) (N := some 6) (v := ?_) (a' := ?_) #[false, true, false, false, false, false, false, false, false, false, false, false, false, false, false, false, false, false, false, false, false, false, false, false, false, false] rfl rfl (any_of HT_.out (by kernel_rfl)) (fun _ _ _ h => h) (Or.inl ⟨by rfl, ?_⟩) ?_ ?_
    rotate_left
    ·intro w'
     go_simp
     with_reducible rfl
    rotate_left
    ·simp only [Act.put, sI, sZ, sS, i64_w, i32_w]
     rfl
    refine pure_ (i := 2) (N := some 7) (v := ?_) (a' := ?_) #[false, true, true, false, false, false, false, false, false, false, false, false, false, false, false, false, false, false, false, false, false, false, false, false, false, false] rfl rfl (any_of HT_.out (by kernel_rfl)) (fun _ _ _ h => h) (Or.inl ⟨by rfl, ?_⟩) ?_ ?_
    rotate_left
    ·intro w'
     go_simp
     with_reducible rfl
    rotate_left
    ·simp only [Act.put, sI, sZ, sS, i64_w, i32_w]
     rfl
    refine pure_ (i := 4) (N := some 9) (v := ?_) (a' := ?_) #[false, true, true, false, true, false, false, false, false, false, false, false, false, false, false, false, false, false, false, false, false, false, false, false, false, false] rfl rfl (any_of HT_.out (by kernel_rfl)) (fun _ _ _ h => h) (Or.inl ⟨by rfl, ?_⟩) ?_ ?_
    rotate_left
    ·intro w'
     go_simp
     with_reducible rfl
    rotate_left
    ·simp only [Act.put, sI, sZ, sS, i64_w, i32_w]
     rfl
    refine pure_ (i := 5) (N := some 10) (v := ?_) (a' := ?_) #[false, true, true, false, true, true, false, false, false, false, false, false, false, false, false, false, false, false, false, false, false, false, false, false, false, false] rfl rfl (any_of HT_.out (by kernel_rfl)) (fun _ _ _ h => h) (Or.inl ⟨by rfl, ?_⟩) ?_ ?_
    rotate_left
    ·intro w'
     go_simp
     with_reducible rfl
    rotate_left
    ·simp only [Act.put, sI, sZ, sS, i64_w, i32_w]
     rfl
    refine pure_ (i := 8) (N := some 13) (v := ?_) (a' := ?_) #[false, true, true, false, true, true, false, false, true, false, false, false, false, false, false, false, false, false, false, false, false, false, false, false, false, false] rfl rfl (any_of HT_.out (by kernel_rfl)) (fun _ _ _ h => h) (Or.inl ⟨by rfl, ?_⟩) ?_ ?_
    rotate_left
    ·intro w'
     go_simp
     with_reducible rfl
    rotate_left
    ·simp only [Act.put, sI, sZ, sS, i64_w, i32_w]
     rfl
    refine pure_ (i := 9) (N := some 14) (v := ?_) (a' := ?_) #[false, true, true, false, true, true, false, false, true, true, false, false, false, false, false, false, false, false, false, false, false, false, false, false, false, false] rfl rfl (any_of HT_.out (by kernel_rfl)) (fun _ _ _ h => h) (Or.inl ⟨by rfl, ?_⟩) ?_ ?_
    rotate_left
    ·intro w'
     go_simp
     with_reducible rfl
    rotate_left
    ·simp only [Act.put, sI, sZ, sS, i64_w, i32_w]
     rfl
    refine pure_ (i := 12) (N := some 17) (v := ?_) (a' := ?_) #[false, true, true, false, true, true, false, false, true, true, false, false, true, false, false, false, false, false, false, false, false, false, false, false, false, false] rfl rfl (any_of HT_.out (by kernel_rfl)) (fun _ _ _ h => h) (Or.inl ⟨by rfl, ?_⟩) ?_ ?_
    rotate_left
    ·intro w'
     go_simp
     with_reducible rfl
    rotate_left
    ·simp only [Act.put, sI, sZ, sS, i64_w, i32_w]
     rfl
    refine pure_ (i := 13) (N := some 18) (v := ?_) (a' := ?_) #[false, true, true, false, true, true, false, false, true, true, false, false, true, true, false, false, false, false, false, false, false, false, false, false, false, false] rfl rfl (any_of HT_.out (by kernel_rfl)) (fun _ _ _ h => h) (Or.inl ⟨by rfl, ?_⟩) ?_ ?_
    rotate_left
    ·intro w'
     go_simp
     with_reducible rfl
    rotate_left
    ·simp only [Act.put, sI, sZ, sS, i64_w, i32_w]
     rfl
    refine pure_ (i := 16) (N := some 21) (v := ?_) (a' := ?_) #[false, true, true, false, true, true, false, false, true, true, false, false, true, true, false, false, true, false, false, false, false, false, false, false, false, false] rfl rfl (any_of HT_.out (by kernel_rfl)) (fun _ _ _ h => h) (Or.inl ⟨by rfl, ?_⟩) ?_ ?_
    rotate_left
    ·intro w'
     go_simp
     with_reducible rfl
    rotate_left
    ·simp only [Act.put, sI, sZ, sS, i64_w, i32_w]
     rfl
    refine pure_ (i := 17) (N := some 22) (v := ?_) (a' := ?_) #[false, true, true, false, true, true, false, false, true, true, false, false, true, true, false, false, true, true, false, false, false, false, false, false, false, false] rfl rfl (any_of HT_.out (by kernel_rfl)) (fun _ _ _ h => h) (Or.inl ⟨by rfl, ?_⟩) ?_ ?_
    rotate_left
    ·intro w'
     go_simp
     with_reducible rfl
    rotate_left
    ·simp only [Act.put, sI, sZ, sS, i64_w, i32_w]
     rfl
    refine pure_ (i := 19) (N := some 24) (v := ?_) (a' := ?_) #[false, true, true, false, true, true, false, false, true, true, false, false, true, true, false, false, true, true, false, true, false, false, false, false, false, false] rfl rfl (any_of HT_.out (by kernel_rfl)) (fun _ _ _ h => h) (Or.inl ⟨by rfl, ?_⟩) ?_ ?_
    rotate_left
    ·intro w'
     go_simp
     with_reducible rfl
    rotate_left
    ·simp only [Act.put, sI, sZ, sS, i64_w, i32_w]
     rfl
    refine pure_ (i := 20) (N := some 25) (v := ?_) (a' := ?_) #[false, true, true, false, true, true, false, false, true, true, false, false, true, true, false, false, true, true, false, true, true, false, false, false, false, false] rfl rfl (any_of HT_.out (by kernel_rfl)) (fun _ _ _ h => h) (Or.inl ⟨by rfl, ?_⟩) ?_ ?_
    rotate_left
    ·intro w'
     go_simp
     with_reducible rfl
    rotate_left
    ·simp only [Act.put, sI, sZ, sS, i64_w, i32_w]
     rfl
    refine take_ (i := 0) (N := some 5) (v := ?_) (a' := ?_) #[true, true, true, false, true, true, false, false, true, true, false, false, true, true, false, false, true, true, false, true, true, false, false, false, false, false] rfl rfl (take_ofW HT_.out HW_.out (by kernel_rfl)) (fun _ _ _ h => h) (Or.inl ⟨by rfl, ?_⟩) hHeld ?_ ?_
    rotate_left
    ·rintro w' ⟨s0, s1, s2, s3, s4, s5, s6, s7, s8, s9, s10, s11, s12, s13⟩
     go_simp
     with_reducible rfl
    rotate_left
    ·simp only [Act.put, sI, sZ, sS, i64_w, i32_w]
     rfl
    refine take_ (i := 3) (N := some 8) (v := ?_) (a' := ?_) #[true, true, true, true, true, true, false, false, true, true, false, false, true, true, false, false, true, true, false, true, true, false, false, false, false, false] rfl rfl (take_ofW HT_.out HW_.out (by kernel_rfl)) (fun _ _ _ h => h) (Or.inl ⟨by rfl, ?_⟩) hHeld ?_ ?_
    rotate_left
    ·rintro w' ⟨s0, s1, s2, s3, s4, s5, s6, s7, s8, s9, s10, s11, s12, s13⟩
     go_simp
     with_reducible rfl
    rotate_left
    ·simp only [Act.put, sI, sZ, sS, i64_w, i32_w]
     rfl
    refine take_ (i := 6) (N := some 11) (v := ?_) (a' := ?_) #[true, true, true, true, true, true, true, false, true, true, false, false, true, true, false, false, true, true, false, true, true, false, false, false, false, false] rfl rfl (take_ofW HT_.out HW_.out (by kernel_rfl)) (fun _ _ _ h => h) (Or.inl ⟨by rfl, ?_⟩) hHeld ?_ ?_
    rotate_left
    ·rintro w' ⟨s0, s1, s2, s3, s4, s5, s6, s7, s8, s9, s10, s11, s12, s13⟩
     go_simp
     with_reducible rfl
    rotate_left
    ·simp only [Act.put, sI, sZ, sS, i64_w, i32_w]
     rfl
    refine take_ (i := 10) (N := some 15) (v := ?_) (a' := ?_) #[true, true, true, true, true, true, true, false, true, true, true, false, true, true, false, false, true, true, false, true, true, false, false, false, false, false] rfl rfl (take_ofW HT_.out HW_.out (by kernel_rfl)) (fun _ _ _ h => h) (Or.inl ⟨by rfl, ?_⟩) hHeld ?_ ?_
    rotate_left
    ·rintro w' ⟨s0, s1, s2, s3, s4, s5, s6, s7, s8, s9, s10, s11, s12, s13⟩
     go_simp
     with_reducible rfl
    rotate_left
    ·simp only [Act.put, sI, sZ, sS, i64_w, i32_w]
     rfl
    refine take_ (i := 11) (N := some 16) (v := ?_) (a' := ?_) #[true, true, true, true, true, true, true, false, true, true, true, true, true, true, false, false, true, true, false, true, true, false, false, false, false, false] rfl rfl (take_ofW HT_.out HW_.out (by kernel_rfl)) (fun _ _ _ h => h) (Or.inl ⟨by rfl, ?_⟩) hHeld ?_ ?_
    rotate_left
    ·rintro w' ⟨s0, s1, s2, s3, s4, s5, s6, s7, s8, s9, s10, s11, s12, s13⟩
     go_simp
     with_reducible rfl
    rotate_left
    ·simp only [Act.put, sI, sZ, sS, i64_w, i32_w]
     rfl
    refine take_ (i := 14) (N := some 19) (v := ?_) (a' := ?_) #[true, true, true, true, true, true, true, false, true, true, true, true, true, true, true, false, true, true, false, true, true, false, false, false, false, false] rfl rfl (take_ofW HT_.out HW_.out (by kernel_rfl)) (fun _ _ _ h => h) (Or.inl ⟨by rfl, ?_⟩) hHeld ?_ ?_
    rotate_left
    ·rintro w' ⟨s0, s1, s2, s3, s4, s5, s6, s7, s8, s9, s10, s11, s12, s13⟩
     go_simp
     with_reducible rfl
    rotate_left
    ·simp only [Act.put, sI, sZ, sS, i64_w, i32_w]
     rfl
    refine take_ (i := 18) (N := some 23) (v := ?_) (a' := ?_) #[true, true, true, true, true, true, true, false, true, true, true, true, true, true, true, false, true, true, true, true, true, false, false, false, false, false] rfl rfl (take_ofW HT_.out HW_.out (by kernel_rfl)) (fun _ _ _ h => h) (Or.inl ⟨by rfl, ?_⟩) hHeld ?_ ?_
    rotate_left
    ·rintro w' ⟨s0, s1, s2, s3, s4, s5, s6, s7, s8, s9, s10, s11, s12, s13⟩
     go_simp
     with_reducible rfl
    rotate_left
    ·simp only [Act.put, sI, sZ, sS, i64_w, i32_w]
     rfl
    refine take_ (i := 21) (N := some 26) (v := ?_) (a' := ?_) #[true, true, true, true, true, true, true, false, true, true, true, true, true, true, true, false, true, true, true, true, true, true, false, false, false, false] rfl rfl (take_ofW HT_.out HW_.out (by kernel_rfl)) (fun _ _ _ h => h) (Or.inl ⟨by rfl, ?_⟩) hHeld ?_ ?_
    rotate_left
    ·rintro w' ⟨s0, s1, s2, s3, s4, s5, s6, s7, s8, s9, s10, s11, s12, s13⟩
     go_simp
     with_reducible rfl
    rotate_left
    ·simp only [Act.put, sI, sZ, sS, i64_w, i32_w]
     rfl
    refine take_ (i := 22) (N := some 27) (v := ?_) (a' := ?_) #[true, true, true, true, true, true, true, false, true, true, true, true, true, true, true, false, true, true, true, true, true, true, true, false, false, false] rfl rfl (take_ofW HT_.out HW_.out (by kernel_rfl)) (fun _ _ _ h => h) (Or.inl ⟨by rfl, ?_⟩) hHeld ?_ ?_
    rotate_left
    ·rintro w' ⟨s0, s1, s2, s3, s4, s5, s6, s7, s8, s9, s10, s11, s12, s13⟩
     go_simp
     with_reducible rfl
    rotate_left
    ·simp only [Act.put, sI, sZ, sS, i64_w, i32_w]
     rfl
    refine one_ (i := 7) (N := some 12) #[true, true, true, true, true, true, true, true, true, true, true, true, true, true, true, false, true, true, true, true, true, true, true, false, false, false] rfl rfl (one_of HT_.out (by kernel_rfl)) (by decide) (fun K hK => ?_)
    refine goes_ Try.func134 (by kernel_rfl) rfl #[.agg #[.int .i64 a1_0, .int .i64 a1_1], .agg #[.int .i64 ((rd_impl_Peg l0 1).f0), .int .i64 ((rd_impl_Peg l0 1).f1)], .agg #[.int .i64 ((rd_impl_Peg l0 2).f0), .int .i64 ((rd_impl_Peg l0 2).f1)]] (by rfl) rfl rfl (by (try simp only [mA, mC, mN]); first | done | rfl | (simp only [lD, lT]; rfl)) ?_
    with_reducible refine (spec_pgTurn.calls a1_0 a1_1 ((rd_impl_Peg l0 1).f0) ((rd_impl_Peg l0 1).f1) ((rd_impl_Peg l0 2).f0) ((rd_impl_Peg l0 2).f1) t551 _ A5.out).mono ?_
    rintro e w11 ⟨rfl, hb⟩
    refine ⟨_, rfl, ?_⟩
    have n0_ := aM (blk_below (g := gb548) (o := .cells #[.int .i64 a1_0, .int .i64 a1_1] 34 (0, 0)) (by (with_reducible repeat (first | refine kN ?_ _ | refine kD ?_ | refine kA ?_ _)); exact BK548.out) hb)
    have n1_ := aM (pT (by repeat (first | (with_reducible first | exact HB.out | apply pA | apply pN | apply pD | refine pS ?_ GE548.out) | exact HB.out)) hb)
    clear BK548
    clear HB
    have BK548 := n0_
    have HB := n1_
    clear n0_ n1_
    (try clear hb)
    (try clear hb2)
    (try clear hk)
    (try clear hi)
    refine hK.out _ _ ⟨(kC BK548.out 0).trans rfl, (kC BK548.out 1).trans rfl, ((HB.out.cell (wB w _ hw549_0)).trans hw549_0), ((HB.out.cell (wB w _ hw549_1)).trans hw549_1), ((HB.out.cell (wB w _ hw550_0)).trans hw550_0), ((HB.out.cell (wB w _ hw550_1)).trans hw550_1), ((HB.out.cell (wB w _ hw552_0)).trans hw552_0), ((HB.out.cell (wB w _ hw552_1)).trans hw552_1), ((HB.out.cell (wB w _ hw553_0)).trans hw553_0), ((HB.out.cell (wB w _ hw553_1)).trans hw553_1), ((HB.out.cell (wB w _ hw555_0)).trans hw555_0), ((HB.out.cell (wB w _ hw555_1)).trans hw555_1), ((HB.out.cell (wB w _ hw556_0)).trans hw556_0), ((HB.out.cell (wB w _ hw556_1)).trans hw556_1)⟩ (fun hHeld => ?_)
    clear hK K
    refine norm_ (a' := ?_) ?_ ?_
    rotate_left
    ·show Act.put _ (some 12) _ = _
     simp only [Act.put, sI, sZ, sS, i64_w, i32_w]
     rfl
    refine one_ (i := 15) (N := some 20) #[true, true, true, true, true, true, true, true, true, true, true, true, true, true, true, true, true, true, true, true, true, true, true, false, false, false] rfl rfl (one_of HT_.out (by kernel_rfl)) (by decide) (fun K hK => ?_)
    refine goes_ Try.func134 (by kernel_rfl) rfl #[.agg #[.int .i64 ((rd_impl_Peg l0 0).f0), .int .i64 ((rd_impl_Peg l0 0).f1)], .agg #[.int .i64 a1_0, .int .i64 a1_1], .agg #[.int .i64 ((rd_impl_Peg l0 2).f0), .int .i64 ((rd_impl_Peg l0 2).f1)]] (by rfl) rfl rfl (by (try simp only [mA, mC, mN]); first | done | rfl | (simp only [lD, lT]; rfl)) ?_
    with_reducible refine (spec_pgTurn.calls ((rd_impl_Peg l0 0).f0) ((rd_impl_Peg l0 0).f1) a1_0 a1_1 ((rd_impl_Peg l0 2).f0) ((rd_impl_Peg l0 2).f1) t554 _ A7.out).mono ?_
    rintro e w12 ⟨rfl, hb⟩
    refine ⟨_, rfl, ?_⟩
    have n0_ := aM (blk_below (g := gb548) (o := .cells #[.int .i64 a1_0, .int .i64 a1_1] 34 (0, 0)) (by (with_reducible repeat (first | refine kN ?_ _ | refine kD ?_ | refine kA ?_ _)); exact BK548.out) hb)
    have n1_ := aM (pT (by repeat (first | (with_reducible first | exact HB.out | apply pA | apply pN | apply pD | refine pS ?_ GE548.out) | exact HB.out)) hb)
    clear BK548
    clear HB
    have BK548 := n0_
    have HB := n1_
    clear n0_ n1_
    (try clear hb)
    (try clear hb2)
    (try clear hk)
    (try clear hi)
    refine hK.out _ _ ⟨(kC BK548.out 0).trans rfl, (kC BK548.out 1).trans rfl, ((HB.out.cell (wB w _ hw549_0)).trans hw549_0), ((HB.out.cell (wB w _ hw549_1)).trans hw549_1), ((HB.out.cell (wB w _ hw550_0)).trans hw550_0), ((HB.out.cell (wB w _ hw550_1)).trans hw550_1), ((HB.out.cell (wB w _ hw552_0)).trans hw552_0), ((HB.out.cell (wB w _ hw552_1)).trans hw552_1), ((HB.out.cell (wB w _ hw553_0)).trans hw553_0), ((HB.out.cell (wB w _ hw553_1)).trans hw553_1), ((HB.out.cell (wB w _ hw555_0)).trans hw555_0), ((HB.out.cell (wB w _ hw555_1)).trans hw555_1), ((HB.out.cell (wB w _ hw556_0)).trans hw556_0), ((HB.out.cell (wB w _ hw556_1)).trans hw556_1)⟩ (fun hHeld => ?_)
    clear hK K
    refine norm_ (a' := ?_) ?_ ?_
    rotate_left
    ·show Act.put _ (some 20) _ = _
     simp only [Act.put, sI, sZ, sS, i64_w, i32_w]
     rfl
    refine one_ (i := 23) (N := some 28) #[true, true, true, true, true, true, true, true, true, true, true, true, true, true, true, true, true, true, true, true, true, true, true, true, false, false] rfl rfl (one_of HT_.out (by kernel_rfl)) (by decide) (fun K hK => ?_)
    refine goes_ Try.func134 (by kernel_rfl) rfl #[.agg #[.int .i64 ((rd_impl_Peg l0 0).f0), .int .i64 ((rd_impl_Peg l0 0).f1)], .agg #[.int .i64 ((rd_impl_Peg l0 1).f0), .int .i64 ((rd_impl_Peg l0 1).f1)], .agg #[.int .i64 a1_0, .int .i64 a1_1]] (by rfl) rfl rfl (by (try simp only [mA, mC, mN]); first | done | rfl | (simp only [lD, lT]; rfl)) ?_
    with_reducible refine (spec_pgTurn.calls ((rd_impl_Peg l0 0).f0) ((rd_impl_Peg l0 0).f1) ((rd_impl_Peg l0 1).f0) ((rd_impl_Peg l0 1).f1) a1_0 a1_1 t557 _ A8.out).mono ?_
    rintro e w13 ⟨rfl, hb⟩
    refine ⟨_, rfl, ?_⟩
    have n0_ := aM (blk_below (g := gb548) (o := .cells #[.int .i64 a1_0, .int .i64 a1_1] 34 (0, 0)) (by (with_reducible repeat (first | refine kN ?_ _ | refine kD ?_ | refine kA ?_ _)); exact BK548.out) hb)
    have n1_ := aM (pT (by repeat (first | (with_reducible first | exact HB.out | apply pA | apply pN | apply pD | refine pS ?_ GE548.out) | exact HB.out)) hb)
    clear BK548
    clear HB
    have BK548 := n0_
    have HB := n1_
    clear n0_ n1_
    (try clear hb)
    (try clear hb2)
    (try clear hk)
    (try clear hi)
    refine hK.out _ _ ⟨(kC BK548.out 0).trans rfl, (kC BK548.out 1).trans rfl, ((HB.out.cell (wB w _ hw549_0)).trans hw549_0), ((HB.out.cell (wB w _ hw549_1)).trans hw549_1), ((HB.out.cell (wB w _ hw550_0)).trans hw550_0), ((HB.out.cell (wB w _ hw550_1)).trans hw550_1), ((HB.out.cell (wB w _ hw552_0)).trans hw552_0), ((HB.out.cell (wB w _ hw552_1)).trans hw552_1), ((HB.out.cell (wB w _ hw553_0)).trans hw553_0), ((HB.out.cell (wB w _ hw553_1)).trans hw553_1), ((HB.out.cell (wB w _ hw555_0)).trans hw555_0), ((HB.out.cell (wB w _ hw555_1)).trans hw555_1), ((HB.out.cell (wB w _ hw556_0)).trans hw556_0), ((HB.out.cell (wB w _ hw556_1)).trans hw556_1)⟩ (fun hHeld => ?_)
    clear hK K
    refine norm_ (a' := ?_) ?_ ?_
    rotate_left
    ·show Act.put _ (some 28) _ = _
     simp only [Act.put, sI, sZ, sS, i64_w, i32_w]
     rfl
    refine one_ (i := 24) (N := some 29) #[true, true, true, true, true, true, true, true, true, true, true, true, true, true, true, true, true, true, true, true, true, true, true, true, true, false] rfl rfl (one_of HT_.out (by kernel_rfl)) (by decide) (fun K hK => ?_)
    refine Kd.R_lit_step (Kd.int .i64) _ 3 ?hg (N := 29) ?hd (xs := ([t551, t554, t557] : List Int)) (inner := [.int .i64 t551, .int .i64 t554, .int .i64 t557]) (ok := fun _ => True) (okp := fun _ => True) ?hr ?hp (fun _ hk => hk) trivial (Below.refl _ _) (Nat.le_refl _) (by simp) ?_; (case hd => rfl); (case hg => rfl); (case hr => first | (go_simp; done) | (go_simp; rfl)); (case hp => exact (Reps.one (show Kd.M (Kd.int .i64) _ _ _ t551 [.int .i64 t551] from rfl) (Reps.one (show Kd.M (Kd.int .i64) _ _ _ t554 [.int .i64 t554] from rfl) (Reps.one (show Kd.M (Kd.int .i64) _ _ _ t557 [.int .i64 t557] from rfl) (Reps.none _ _)))))
    intro v559 w14 ho15 hb hg_ hnew_
    clear hg_ hnew_
    (first | rw [← Ny558.out] at ho15 | (simp only [Int.reduceToNat] at ho15; rw [← Ny558.out] at ho15))
    have n0_ := aM (Kd.R_lower ho15 (pZ (by repeat (first | (with_reducible first | exact HB.out | apply pA | apply pN | apply pD | refine pS ?_ GE548.out) | exact HB.out))))
    have n1_ := aM (blk_below (g := gb548) (o := .cells #[.int .i64 a1_0, .int .i64 a1_1] 34 (0, 0)) (by (with_reducible repeat (first | refine kN ?_ _ | refine kD ?_ | refine kA ?_ _)); exact BK548.out) hb)
    have n2_ := aM (pT (by repeat (first | (with_reducible first | exact HB.out | apply pA | apply pN | apply pD | refine pS ?_ GE548.out) | exact HB.out)) hb)
    clear BK548
    clear HB
    have HO560 := n0_
    have BK548 := n1_
    have HB := n2_
    clear n0_ n1_ n2_
    clear hb ho15
    refine hK.out _ _ ⟨(kC BK548.out 0).trans rfl, (kC BK548.out 1).trans rfl, ((HB.out.cell (wB w _ hw549_0)).trans hw549_0), ((HB.out.cell (wB w _ hw549_1)).trans hw549_1), ((HB.out.cell (wB w _ hw550_0)).trans hw550_0), ((HB.out.cell (wB w _ hw550_1)).trans hw550_1), ((HB.out.cell (wB w _ hw552_0)).trans hw552_0), ((HB.out.cell (wB w _ hw552_1)).trans hw552_1), ((HB.out.cell (wB w _ hw553_0)).trans hw553_0), ((HB.out.cell (wB w _ hw553_1)).trans hw553_1), ((HB.out.cell (wB w _ hw555_0)).trans hw555_0), ((HB.out.cell (wB w _ hw555_1)).trans hw555_1), ((HB.out.cell (wB w _ hw556_0)).trans hw556_0), ((HB.out.cell (wB w _ hw556_1)).trans hw556_1)⟩ (fun hHeld => ?_)
    clear hK K
    refine norm_ (a' := ?_) ?_ ?_
    rotate_left
    ·show Act.put _ (some 29) _ = _
     simp only [Act.put, sI, sZ, sS, i64_w, i32_w]
     rfl
    refine pure_ (i := 25) (N := some 4) (v := ?_) (a' := ?_) #[true, true, true, true, true, true, true, true, true, true, true, true, true, true, true, true, true, true, true, true, true, true, true, true, true, true] rfl rfl (any_of HT_.out (by kernel_rfl)) (fun _ _ _ h => h) (Or.inl ⟨by rfl, ?_⟩) ?_ ?_
    rotate_left
    ·intro w'
     go_simp
     with_reducible rfl
    rotate_left
    ·simp only [Act.put, sI, sZ, sS, i64_w, i32_w]
     rfl
    refine done_ (done_of HT_.out (by kernel_rfl)) ?_
    try go_wp2
    go_ret
    exact ⟨_, by first | rfl | (simp [errW_none, errW_some] <;> rfl) | (simp [*, errW_none, errW_some] <;> rfl), by (with_reducible repeat (first | apply rA | apply rN | apply rD)); exact HO560.out, by repeat (first | (with_reducible first | exact HB.out | apply pA | apply pN | apply pD | refine pS ?_ GE548.out) | exact HB.out)⟩
   ·rw [if_neg c6] at H
    exact absurd H (by simp)
  ·rw [if_neg c4] at H
   exact absurd H (by simp)
 ·rw [if_neg c3] at H
  exact absurd H (by simp)

def spec_PartsOfPeg.f (k : Nat) (l0 : List (S_impl_Peg)) (a1_0 : Int) (a1_1 : Int) : Option (List Int × Bool) := (spec_trThree.f k l0).bind fun t562 => (if t562 = true then ((spec_pgIs.f a1_0 a1_1).bind fun t563 => (if t563 = true then ((spec_trParts.f l0 a1_0 a1_1).bind fun t564 => (some (t564, true))) else (some (([] : List Int), false)))) else (some (([] : List Int), false)))
theorem spec_PartsOfPeg.mono : ∀ a0 a1 a2 k, LeO (spec_PartsOfPeg.f k a0 a1 a2) (spec_PartsOfPeg.f (k + 1) a0 a1 a2) := by
 intro a0 a1 a2 k
 unfold spec_PartsOfPeg.f
 repeat' first
   | (with_reducible exact spec_trThree.mono _ _)
   | (with_reducible exact LeO.refl _)
   | (with_reducible exact LeO.none _)
   | (with_reducible refine LeO.ite ?_ ?_)
   | (with_reducible refine LeO.bind ?_ (fun _ => ?_))
   | exact spec_trThree.mono _ _
   | exact LeO.none _
   | refine LeO.ite ?_ ?_
   | refine LeO.bind ?_ (fun _ => ?_)
set_option maxHeartbeats 8000000 in
set_option maxRecDepth 100000 in
theorem spec_PartsOfPeg.calls (k : Nat) (A0 : Option Addr) (c0 : Nat) (l0 : List (S_impl_Peg)) (a1_0 : Int) (a1_1 : Int) (r1 : List Int) (r2 : Bool) (w : World) (hr0 : Kd.C kd_impl_Peg w A0 l0.length l0) (hc0 : l0.length ≤ c0) (h : spec_PartsOfPeg.f k l0 a1_0 a1_1 = some (r1, r2)) :
  Calls Try.prog 45 #[.slice A0 l0.length c0, .agg #[.int .i64 a1_0, .int .i64 a1_1]] w fun e w' => ∃ v0_ : Value, e = .returned (.tuple #[v0_, .bool r2]) ∧ Kd.R (Kd.int .i64) 3 w' w.heap.size (fun _ => True) v0_ r1 ∧ Below w.heap.size w w' := by
 have hu34 := Try.underlying34
 have HR0 := aM hr0
 have HC0 := aM hc0
 clear hr0 hc0
 have HB := aM (Below.refl w.heap.size w)
 have H : ((spec_trThree.f k l0).bind fun t562 => (if t562 = true then ((spec_pgIs.f a1_0 a1_1).bind fun t563 => (if t563 = true then ((spec_trParts.f l0 a1_0 a1_1).bind fun t564 => (some (t564, true))) else (some (([] : List Int), false)))) else (some (([] : List Int), false)))) = some (r1, r2) := h
 clear h
 replace H := oB.mp H
 obtain ⟨t562, A30, H⟩ := H
 replace H : (if t562 = true then ((spec_pgIs.f a1_0 a1_1).bind fun t563 => (if t563 = true then ((spec_trParts.f l0 a1_0 a1_1).bind fun t564 => (some (t564, true))) else (some (([] : List Int), false)))) else (some (([] : List Int), false))) = some (r1, r2) := H
 have A3 := aM A30
 clear A30
 by_cases c4 : t562 = true
 ·subst c4
  have H1 : ((spec_pgIs.f a1_0 a1_1).bind fun t563 => (if t563 = true then ((spec_trParts.f l0 a1_0 a1_1).bind fun t564 => (some (t564, true))) else (some (([] : List Int), false)))) = some (r1, r2) := by rw [if_pos rfl] at H; exact H
  clear H
  have H := H1
  clear H1
  replace H := oB.mp H
  obtain ⟨t563, A50, H⟩ := H
  replace H : (if t563 = true then ((spec_trParts.f l0 a1_0 a1_1).bind fun t564 => (some (t564, true))) else (some (([] : List Int), false))) = some (r1, r2) := H
  have A5 := aM A50
  clear A50
  by_cases c6 : t563 = true
  ·subst c6
   have H1 : ((spec_trParts.f l0 a1_0 a1_1).bind fun t564 => (some (t564, true))) = some (r1, r2) := by rw [if_pos rfl] at H; exact H
   clear H
   have H := H1
   clear H1
   replace H := oB.mp H
   obtain ⟨t564, A70, H⟩ := H
   replace H : (some (t564, true)) = some (r1, r2) := H
   have A7 := aM A70
   clear A70
   simp only [Option.some.injEq, Prod.mk.injEq] at H
   obtain ⟨rfl, rfl⟩ := H
   go_enter Try.func45, Try.ntmps45
   go_wp2_with (first | ((with_reducible refine gate_dst (N := 3) rfl ?_); refine box_event ?hg (N := 3) ?hd (cs := #[.int .i64 a1_0, .int .i64 a1_1]) (t := 34) ?hr ?_; (case hd => rfl); (case hg => rfl); (case hr => first | (go_simp; done) | (go_simp; rfl)); intro gb561 hg w8 hbox hb; have n0_ := aM (pT (by repeat (first | (with_reducible first | exact HB.out | apply pA | apply pN | apply pD) | exact HB.out)) hb); have n1_ := aM (hbox); have n2_ := aM ((by rw [hg]; exact (pZ (by repeat (first | (with_reducible first | exact HB.out | apply pA | apply pN | apply pD) | exact HB.out))) : w.heap.size ≤ gb561)); have n3_ := aM ((by rw [hg]; exact (pZ (by repeat (first | (with_reducible first | exact HB.out | apply pA | apply pN | apply pD) | exact HB.out))) : w.heap.size ≤ gb561)); clear HB; have HB := n0_; have BK561 := n1_; have GW561 := n2_; have GE561 := n3_; clear n0_ n1_ n2_ n3_; clear hb hbox hg) | ((with_reducible refine gC (f := 95) rfl ?_); refine goesL_ (some 7) rfl rfl Try.func95 (by kernel_rfl) rfl #[.slice A0 l0.length c0] rfl (by (try simp only [mA, mC, mN]); first | done | rfl | (simp only [lD, lT]; rfl)) ?_; (with_reducible refine (spec_trThree.calls k _ _ l0 true _ ?side1 ?side2 A3.out).mono ?_); (case side1 => repeat (first | exact (Kd.C_below HR0.out HB.out) | (with_reducible refine cA ?_ _) | (with_reducible refine cN ?_ _) | (with_reducible refine cD ?_))); (case side2 => exact HC0.out); rintro e w9 ⟨rfl, hb⟩; refine ⟨_, rfl, ?_⟩; have n0_ := aM (blk_below (g := gb561) (o := .cells #[.int .i64 a1_0, .int .i64 a1_1] 34 (0, 0)) (by (with_reducible repeat (first | refine kN ?_ _ | refine kD ?_ | refine kA ?_ _)); exact BK561.out) hb); have n1_ := aM (pT (by repeat (first | (with_reducible first | exact HB.out | apply pA | apply pN | apply pD | refine pS ?_ GE561.out) | exact HB.out)) hb); clear BK561; clear HB; have BK561 := n0_; have HB := n1_; clear n0_ n1_; (try clear hb); (try clear hb2); (try clear hk); (try clear hi); have hcz10_0 : w9.cell? ⟨gb561, 0, none⟩ = some (.int .i64 a1_0) := (kC BK561.out 0).trans rfl; have hcz10_1 : w9.cell? ⟨gb561, 1, none⟩ = some (.int .i64 a1_1) := (kC BK561.out 1).trans rfl; have hfz10_0 := kF BK561.out 0; have hfz10_1 := kF BK561.out 1) | (go_at_call 87; (with_reducible refine (spec_pgIs.calls a1_0 a1_1 true _ A5.out).mono ?_); rintro e w11 ⟨rfl, hb⟩; have n0_ := aM (blk_below (g := gb561) (o := .cells #[.int .i64 a1_0, .int .i64 a1_1] 34 (0, 0)) (by (with_reducible repeat (first | refine kN ?_ _ | refine kD ?_ | refine kA ?_ _)); exact BK561.out) hb); have n1_ := aM (pT (by repeat (first | (with_reducible first | exact HB.out | apply pA | apply pN | apply pD | refine pS ?_ GE561.out) | exact HB.out)) hb); clear BK561; clear HB; have BK561 := n0_; have HB := n1_; clear n0_ n1_; (try clear hb); (try clear hb2); (try clear hk); (try clear hi); have hcz12_0 : w11.cell? ⟨gb561, 0, none⟩ = some (.int .i64 a1_0) := (kC BK561.out 0).trans rfl; have hcz12_1 : w11.cell? ⟨gb561, 1, none⟩ = some (.int .i64 a1_1) := (kC BK561.out 1).trans rfl; have hfz12_0 := kF BK561.out 0; have hfz12_1 := kF BK561.out 1) | ((with_reducible refine gC (f := 103) rfl ?_); refine goesL_ (some 16) rfl rfl Try.func103 (by kernel_rfl) rfl #[.slice A0 l0.length c0, .agg #[.int .i64 a1_0, .int .i64 a1_1]] rfl (by (try simp only [mA, mC, mN]); first | done | rfl | (simp only [lD, lT]; rfl)) ?_; (with_reducible refine (spec_trParts.calls _ _ l0 a1_0 a1_1 t564 _ ?side1 ?side2 A7.out).mono ?_); (case side1 => repeat (first | exact (Kd.C_below HR0.out HB.out) | (with_reducible refine cA ?_ _) | (with_reducible refine cN ?_ _) | (with_reducible refine cD ?_))); (case side2 => exact HC0.out); rintro e w13 ⟨v565, rfl, ho0, hb⟩; refine ⟨_, rfl, ?_⟩; have n0_ := aM (Kd.R_lower ho0 (pZ (by repeat (first | (with_reducible first | exact HB.out | apply pA | apply pN | apply pD | refine pS ?_ GE561.out) | exact HB.out)))); have n1_ := aM (blk_below (g := gb561) (o := .cells #[.int .i64 a1_0, .int .i64 a1_1] 34 (0, 0)) (by (with_reducible repeat (first | refine kN ?_ _ | refine kD ?_ | refine kA ?_ _)); exact BK561.out) hb); have n2_ := aM (pT (by repeat (first | (with_reducible first | exact HB.out | apply pA | apply pN | apply pD | refine pS ?_ GE561.out) | exact HB.out)) hb); clear BK561; clear HB; have HO566 := n0_; have BK561 := n1_; have HB := n2_; clear n0_ n1_ n2_; (try clear hb); (try clear hb2); (try clear hk); (try clear hi); (try clear ho0)))
   go_ret2
   exact ⟨_, by first | rfl | (simp [errW_none, errW_some] <;> rfl) | (simp [*, errW_none, errW_some] <;> rfl), by (with_reducible repeat (first | apply rA | apply rN | apply rD)); exact HO566.out, by repeat (first | (with_reducible first | exact HB.out | apply pA | apply pN | apply pD | refine pS ?_ GE561.out) | exact HB.out)⟩
  ·replace c6 := Bool.eq_false_iff.mpr c6
   subst c6
   have H1 : (some (([] : List Int), false)) = some (r1, r2) := by rw [if_neg (show ¬ (false = true) by decide)] at H; exact H
   clear H
   have H := H1
   clear H1
   simp only [Option.some.injEq, Prod.mk.injEq] at H
   obtain ⟨rfl, rfl⟩ := H
   go_enter Try.func45, Try.ntmps45
   go_wp2_with (first | ((with_reducible refine gate_dst (N := 3) rfl ?_); refine box_event ?hg (N := 3) ?hd (cs := #[.int .i64 a1_0, .int .i64 a1_1]) (t := 34) ?hr ?_; (case hd => rfl); (case hg => rfl); (case hr => first | (go_simp; done) | (go_simp; rfl)); intro gb561 hg w14 hbox hb; have n0_ := aM (pT (by repeat (first | (with_reducible first | exact HB.out | apply pA | apply pN | apply pD) | exact HB.out)) hb); have n1_ := aM (hbox); have n2_ := aM ((by rw [hg]; exact (pZ (by repeat (first | (with_reducible first | exact HB.out | apply pA | apply pN | apply pD) | exact HB.out))) : w.heap.size ≤ gb561)); have n3_ := aM ((by rw [hg]; exact (pZ (by repeat (first | (with_reducible first | exact HB.out | apply pA | apply pN | apply pD) | exact HB.out))) : w.heap.size ≤ gb561)); clear HB; have HB := n0_; have BK561 := n1_; have GW561 := n2_; have GE561 := n3_; clear n0_ n1_ n2_ n3_; clear hb hbox hg) | ((with_reducible refine gC (f := 95) rfl ?_); refine goesL_ (some 7) rfl rfl Try.func95 (by kernel_rfl) rfl #[.slice A0 l0.length c0] rfl (by (try simp only [mA, mC, mN]); first | done | rfl | (simp only [lD, lT]; rfl)) ?_; (with_reducible refine (spec_trThree.calls k _ _ l0 true _ ?side1 ?side2 A3.out).mono ?_); (case side1 => repeat (first | exact (Kd.C_below HR0.out HB.out) | (with_reducible refine cA ?_ _) | (with_reducible refine cN ?_ _) | (with_reducible refine cD ?_))); (case side2 => exact HC0.out); rintro e w15 ⟨rfl, hb⟩; refine ⟨_, rfl, ?_⟩; have n0_ := aM (blk_below (g := gb561) (o := .cells #[.int .i64 a1_0, .int .i64 a1_1] 34 (0, 0)) (by (with_reducible repeat (first | refine kN ?_ _ | refine kD ?_ | refine kA ?_ _)); exact BK561.out) hb); have n1_ := aM (pT (by repeat (first | (with_reducible first | exact HB.out | apply pA | apply pN | apply pD | refine pS ?_ GE561.out) | exact HB.out)) hb); clear BK561; clear HB; have BK561 := n0_; have HB := n1_; clear n0_ n1_; (try clear hb); (try clear hb2); (try clear hk); (try clear hi); have hcz16_0 : w15.cell? ⟨gb561, 0, none⟩ = some (.int .i64 a1_0) := (kC BK561.out 0).trans rfl; have hcz16_1 : w15.cell? ⟨gb561, 1, none⟩ = some (.int .i64 a1_1) := (kC BK561.out 1).trans rfl; have hfz16_0 := kF BK561.out 0; have hfz16_1 := kF BK561.out 1) | (go_at_call 87; (with_reducible refine (spec_pgIs.calls a1_0 a1_1 false _ A5.out).mono ?_); rintro e w17 ⟨rfl, hb⟩; have n0_ := aM (blk_below (g := gb561) (o := .cells #[.int .i64 a1_0, .int .i64 a1_1] 34 (0, 0)) (by (with_reducible repeat (first | refine kN ?_ _ | refine kD ?_ | refine kA ?_ _)); exact BK561.out) hb); have n1_ := aM (pT (by repeat (first | (with_reducible first | exact HB.out | apply pA | apply pN | apply pD | refine pS ?_ GE561.out) | exact HB.out)) hb); clear BK561; clear HB; have BK561 := n0_; have HB := n1_; clear n0_ n1_; (try clear hb); (try clear hb2); (try clear hk); (try clear hi)))
   go_ret2
   exact ⟨_, by first | rfl | (simp [errW_none, errW_some] <;> rfl) | (simp [*, errW_none, errW_some] <;> rfl), by first | exact Kd.R_nil _ _ _ _ _ | exact Kd.N_nil _ _ _ _ _ | exact Kd.V_nil _ _ _ _ _ | exact Kd.Q_nil _ _ _ _ _ | exact Kd.S_nil _ _ _ _ _, by repeat (first | (with_reducible first | exact HB.out | apply pA | apply pN | apply pD | refine pS ?_ GE561.out) | exact HB.out)⟩
 ·replace c4 := Bool.eq_false_iff.mpr c4
  subst c4
  have H1 : (some (([] : List Int), false)) = some (r1, r2) := by rw [if_neg (show ¬ (false = true) by decide)] at H; exact H
  clear H
  have H := H1
  clear H1
  simp only [Option.some.injEq, Prod.mk.injEq] at H
  obtain ⟨rfl, rfl⟩ := H
  go_enter Try.func45, Try.ntmps45
  go_wp2_with (first | ((with_reducible refine gate_dst (N := 3) rfl ?_); refine box_event ?hg (N := 3) ?hd (cs := #[.int .i64 a1_0, .int .i64 a1_1]) (t := 34) ?hr ?_; (case hd => rfl); (case hg => rfl); (case hr => first | (go_simp; done) | (go_simp; rfl)); intro gb561 hg w18 hbox hb; have n0_ := aM (pT (by repeat (first | (with_reducible first | exact HB.out | apply pA | apply pN | apply pD) | exact HB.out)) hb); have n1_ := aM (hbox); have n2_ := aM ((by rw [hg]; exact (pZ (by repeat (first | (with_reducible first | exact HB.out | apply pA | apply pN | apply pD) | exact HB.out))) : w.heap.size ≤ gb561)); have n3_ := aM ((by rw [hg]; exact (pZ (by repeat (first | (with_reducible first | exact HB.out | apply pA | apply pN | apply pD) | exact HB.out))) : w.heap.size ≤ gb561)); clear HB; have HB := n0_; have BK561 := n1_; have GW561 := n2_; have GE561 := n3_; clear n0_ n1_ n2_ n3_; clear hb hbox hg) | ((with_reducible refine gC (f := 95) rfl ?_); refine goesL_ (some 7) rfl rfl Try.func95 (by kernel_rfl) rfl #[.slice A0 l0.length c0] rfl (by (try simp only [mA, mC, mN]); first | done | rfl | (simp only [lD, lT]; rfl)) ?_; (with_reducible refine (spec_trThree.calls k _ _ l0 false _ ?side1 ?side2 A3.out).mono ?_); (case side1 => repeat (first | exact (Kd.C_below HR0.out HB.out) | (with_reducible refine cA ?_ _) | (with_reducible refine cN ?_ _) | (with_reducible refine cD ?_))); (case side2 => exact HC0.out); rintro e w19 ⟨rfl, hb⟩; refine ⟨_, rfl, ?_⟩; have n0_ := aM (blk_below (g := gb561) (o := .cells #[.int .i64 a1_0, .int .i64 a1_1] 34 (0, 0)) (by (with_reducible repeat (first | refine kN ?_ _ | refine kD ?_ | refine kA ?_ _)); exact BK561.out) hb); have n1_ := aM (pT (by repeat (first | (with_reducible first | exact HB.out | apply pA | apply pN | apply pD | refine pS ?_ GE561.out) | exact HB.out)) hb); clear BK561; clear HB; have BK561 := n0_; have HB := n1_; clear n0_ n1_; (try clear hb); (try clear hb2); (try clear hk); (try clear hi)))
  go_ret2
  exact ⟨_, by first | rfl | (simp [errW_none, errW_some] <;> rfl) | (simp [*, errW_none, errW_some] <;> rfl), by first | exact Kd.R_nil _ _ _ _ _ | exact Kd.N_nil _ _ _ _ _ | exact Kd.V_nil _ _ _ _ _ | exact Kd.Q_nil _ _ _ _ _ | exact Kd.S_nil _ _ _ _ _, by repeat (first | (with_reducible first | exact HB.out | apply pA | apply pN | apply pD | refine pS ?_ GE561.out) | exact HB.out)⟩

end Go.Proofs.Ytiacfkilmknldaa.X
