-- thin
-- short
import Derived.Test.YtiacfkilmknldaaXA
import Derived.Test.YtiacfkilmknldaaX0
import Derived.Test.YtiacfkilmknldaaX7
import Derived.Test.YtiacfkilmknldaaX8
import Derived.Test.YtiacfkilmknldaaX25
namespace Go.Proofs.Ytiacfkilmknldaa.X
open Go.RowKit Go.Proofs.Ytiacfkilmknldaa.XW Go.Proofs.YtiacfkilmknldaaW.PrintWords Go.Proofs.YtiacfkilmknldaaW.PrintLast Go.Proofs.YtiacfkilmknldaaW.PrintMore
attribute [local go_sem] max2_int min2_int max_two min_two max_three min_three max_four min_four   -- for this text's walks alone
set_option linter.unusedVariables false
set_option linter.unusedSimpArgs false

def impl_parts.f (l0 : List (S_impl_Peg)) (a1_0 : Int) (a1_1 : Int) : Option (List Int) := if 1 < (l0.length : Int) then (if 2 < (l0.length : Int) then ((impl_turn.f a1_0 a1_1 ((rd_impl_Peg l0 1).f0) ((rd_impl_Peg l0 1).f1) ((rd_impl_Peg l0 2).f0) ((rd_impl_Peg l0 2).f1)).bind fun t570 => (if 0 < (l0.length : Int) then ((impl_turn.f ((rd_impl_Peg l0 0).f0) ((rd_impl_Peg l0 0).f1) a1_0 a1_1 ((rd_impl_Peg l0 2).f0) ((rd_impl_Peg l0 2).f1)).bind fun t573 => ((impl_turn.f ((rd_impl_Peg l0 0).f0) ((rd_impl_Peg l0 0).f1) ((rd_impl_Peg l0 1).f0) ((rd_impl_Peg l0 1).f1) a1_0 a1_1).bind fun t576 => (some (([t570, t573, t576] : List Int))))) else (none))) else (none)) else (none)
def impl_parts.T1 : Bool × List (List Nat × List Nat) := (true, [([], []), ([], []), ([1], [1]), ([2], [2]), ([], []), ([4], [4]), ([5], [5]), ([0, 3, 6], [0, 3, 6]), ([], []), ([8], [8]), ([9], [9]), ([], []), ([], []), ([12], [12]), ([13], [13]), ([10, 11, 14, 7], [10, 11, 14]), ([], []), ([16], [16]), ([17], [17]), ([], []), ([19], [19]), ([20], [20]), ([], []), ([18, 21, 22, 15], [18, 21, 22]), ([7, 15, 23], [7, 15, 23]), ([24, 23, 0, 1, 2, 3, 4, 5, 6, 7, 8, 9, 10, 11, 12, 13, 14, 15, 16, 17, 18, 19, 20, 21, 22, 23, 24], [24])])
def impl_parts.B1 : List Nat := [0, 0, 2, 6, 0, 16, 48, 127, 0, 256, 768, 0, 0, 4096, 12288, 32767, 0, 65536, 196608, 0, 524288, 1572864, 0, 8388607, 16777215, 33554431]
theorem impl_parts.tab1 : rtab .any (opsOf Try.f104 1) = impl_parts.T1 := by kernel_rfl
theorem impl_parts.bits1 : waitsOk impl_parts.T1.2 impl_parts.B1 = true := by kernel_rfl
set_option maxHeartbeats 8000000 in
set_option maxRecDepth 100000 in
theorem impl_parts.calls (A0 : Option Addr) (c0 : Nat) (l0 : List (S_impl_Peg)) (a1_0 : Int) (a1_1 : Int) (r : List Int) (w : World) (hr0 : Kd.C kd_impl_Peg w A0 l0.length l0) (hc0 : l0.length ≤ c0) (h : impl_parts.f l0 a1_0 a1_1 = some r) :
  Calls Try.prog 104 #[.slice A0 l0.length c0, .agg #[.int .i64 a1_0, .int .i64 a1_1]] w fun e w' => ∃ v0_ : Value, e = .returned (v0_) ∧ Kd.R (Kd.int .i64) 3 w' w.heap.size (fun _ => True) v0_ r ∧ Below w.heap.size w w' := by
 have hu34 := Try.underlying34
 have HR0 := aM hr0
 have HC0 := aM hc0
 clear hr0 hc0
 have HB := aM (Below.refl w.heap.size w)
 have H : (if 1 < (l0.length : Int) then (if 2 < (l0.length : Int) then ((impl_turn.f a1_0 a1_1 ((rd_impl_Peg l0 1).f0) ((rd_impl_Peg l0 1).f1) ((rd_impl_Peg l0 2).f0) ((rd_impl_Peg l0 2).f1)).bind fun t570 => (if 0 < (l0.length : Int) then ((impl_turn.f ((rd_impl_Peg l0 0).f0) ((rd_impl_Peg l0 0).f1) a1_0 a1_1 ((rd_impl_Peg l0 2).f0) ((rd_impl_Peg l0 2).f1)).bind fun t573 => ((impl_turn.f ((rd_impl_Peg l0 0).f0) ((rd_impl_Peg l0 0).f1) ((rd_impl_Peg l0 1).f0) ((rd_impl_Peg l0 1).f1) a1_0 a1_1).bind fun t576 => (some (([t570, t573, t576] : List Int))))) else (none))) else (none)) else (none)) = some r := h
 clear h
 by_cases c3 : 1 < (l0.length : Int)
 ·rw [if_pos c3] at H
  have c3b0 : decide (1 < (l0.length : Int)) = true := dE c3
  have c3b1 : decide (1 < l0.length) = true := dE (by omega)
  clear c3
  by_cases c4 : 2 < (l0.length : Int)
  ·rw [if_pos c4] at H
   have c4b0 : decide (2 < (l0.length : Int)) = true := dE c4
   have c4b1 : decide (2 < l0.length) = true := dE (by omega)
   clear c4
   replace H := oB.mp H
   obtain ⟨t570, A50, H⟩ := H
   replace H : (if 0 < (l0.length : Int) then ((impl_turn.f ((rd_impl_Peg l0 0).f0) ((rd_impl_Peg l0 0).f1) a1_0 a1_1 ((rd_impl_Peg l0 2).f0) ((rd_impl_Peg l0 2).f1)).bind fun t573 => ((impl_turn.f ((rd_impl_Peg l0 0).f0) ((rd_impl_Peg l0 0).f1) ((rd_impl_Peg l0 1).f0) ((rd_impl_Peg l0 1).f1) a1_0 a1_1).bind fun t576 => (some (([t570, t573, t576] : List Int))))) else (none)) = some r := H
   have A5 := aM A50
   clear A50
   by_cases c6 : 0 < (l0.length : Int)
   ·rw [if_pos c6] at H
    have c6b0 : decide (0 < (l0.length : Int)) = true := dE c6
    have c6b1 : decide (0 < l0.length) = true := dE (by omega)
    clear c6
    replace H := oB.mp H
    obtain ⟨t573, A70, H⟩ := H
    replace H : ((impl_turn.f ((rd_impl_Peg l0 0).f0) ((rd_impl_Peg l0 0).f1) ((rd_impl_Peg l0 1).f0) ((rd_impl_Peg l0 1).f1) a1_0 a1_1).bind fun t576 => (some (([t570, t573, t576] : List Int)))) = some r := H
    have A7 := aM A70
    clear A70
    replace H := oB.mp H
    obtain ⟨t576, A80, H⟩ := H
    replace H : (some (([t570, t573, t576] : List Int))) = some r := H
    have A8 := aM A80
    clear A80
    obtain ⟨y577, hy577⟩ : ∃ y_ : List Int, y_ = (([t570, t573, t576] : List Int)) := ⟨_, rfl⟩
    replace H : (some y577) = some r := by first | (rw [hy577]; with_reducible exact H) | (have H2_ := (Option.bind_some _ _).symm.trans H; rw [hy577]; with_reducible exact H2_) | (have H2_ := (Option.bind_some _ _).symm.trans H; with_reducible exact H2_) | with_reducible exact H | (rw [hy577]; exact H) | exact H
    have Ny577 := aM hy577
    clear hy577
    obtain rfl := Option.some.inj H
    go_enter Try.func104, Try.ntmps104
    try go_wp2_with (first | ((with_reducible refine gate_dst (N := 3) rfl ?_); refine box_event ?hg (N := 3) ?hd (cs := #[.int .i64 a1_0, .int .i64 a1_1]) (t := 34) ?hr ?_; (case hd => rfl); (case hg => rfl); (case hr => first | (go_simp; done) | (go_simp; rfl)); intro gb567 hg w9 hbox hb; have n0_ := aM (pT (by repeat (first | (with_reducible first | exact HB.out | apply pA | apply pN | apply pD) | exact HB.out)) hb); have n1_ := aM (hbox); have n2_ := aM ((by rw [hg]; exact (pZ (by repeat (first | (with_reducible first | exact HB.out | apply pA | apply pN | apply pD) | exact HB.out))) : w.heap.size ≤ gb567)); have n3_ := aM ((by rw [hg]; exact (pZ (by repeat (first | (with_reducible first | exact HB.out | apply pA | apply pN | apply pD) | exact HB.out))) : w.heap.size ≤ gb567)); clear HB; have HB := n0_; have BK567 := n1_; have GW567 := n2_; have GE567 := n3_; clear n0_ n1_ n2_ n3_; clear hb hbox hg))
    have n0_ := aM (kD BK567.out)
    have n1_ := aM (pD HB.out)
    clear BK567
    clear HB
    have BK567 := n0_
    have HB := n1_
    clear n0_ n1_
    have p568 : 0 ≤ (1 : Int) := (by omega)
    have q568 : 1 < (l0.length : Int) := dT (by first | (with_reducible assumption) | assumption)
    obtain ⟨ad568, e568, hx568_0, hx568_1⟩ := at_impl_Peg HR0.out 1 p568 q568
    have hw568_1 := hx568_1
    (try rw [show ((1 : Int)).toNat = 1 from rfl] at hw568_1)
    (try rw [show 1 * 2 = 2 from rfl] at hw568_1)
    (try simp only [Nat.reduceMul, Nat.reduceEqDiff, Go.Addr.add, ↓reduceIte] at hw568_1)
    have hw568_0 := hx568_0
    (try rw [show ((1 : Int)).toNat = 1 from rfl] at hw568_0)
    (try rw [show 1 * 2 = 2 from rfl] at hw568_0)
    (try simp only [Nat.reduceMul, Nat.reduceEqDiff, Go.Addr.add, ↓reduceIte] at hw568_0)
    cases e568
    (try simp only [show (1 : Int).toNat = 1 from rfl, Nat.reduceMul, Nat.reduceEqDiff, Go.Addr.add, ↓reduceIte] at hx568_0)
    (try simp only [show (1 : Int).toNat = 1 from rfl, Nat.reduceMul, Nat.reduceEqDiff, Go.Addr.add, ↓reduceIte] at hx568_1)
    have qi568 : (1 < l0.length) = True := eq_true (by omega)
    (try rw [show ((1 : Int)).toNat = 1 from rfl] at hx568_0)
    (try rw [show 1 * 2 = 2 from rfl] at hx568_0)
    (try rw [show ((1 : Int)).toNat = 1 from rfl] at hx568_1)
    (try rw [show 1 * 2 = 2 from rfl] at hx568_1)
    replace hx568_0 := (HB.out.cell (wB w _ hx568_0)).trans hx568_0
    replace hx568_1 := (HB.out.cell (wB w _ hx568_1)).trans hx568_1
    replace p568 := eq_true p568
    replace q568 := eq_true q568
    have p569 : 0 ≤ (2 : Int) := (by omega)
    have q569 : 2 < (l0.length : Int) := dT (by first | (with_reducible assumption) | assumption)
    obtain ⟨ad569, e569, hx569_0, hx569_1⟩ := at_impl_Peg HR0.out 2 p569 q569
    have hw569_1 := hx569_1
    (try rw [show ((2 : Int)).toNat = 2 from rfl] at hw569_1)
    (try rw [show 2 * 2 = 4 from rfl] at hw569_1)
    (try simp only [Nat.reduceMul, Nat.reduceEqDiff, Go.Addr.add, ↓reduceIte] at hw569_1)
    have hw569_0 := hx569_0
    (try rw [show ((2 : Int)).toNat = 2 from rfl] at hw569_0)
    (try rw [show 2 * 2 = 4 from rfl] at hw569_0)
    (try simp only [Nat.reduceMul, Nat.reduceEqDiff, Go.Addr.add, ↓reduceIte] at hw569_0)
    obtain rfl : ad568 = ad569 := (by injection e569)
    (try simp only [show (2 : Int).toNat = 2 from rfl, Nat.reduceMul, Nat.reduceEqDiff, Go.Addr.add, ↓reduceIte] at hx569_0)
    (try simp only [show (2 : Int).toNat = 2 from rfl, Nat.reduceMul, Nat.reduceEqDiff, Go.Addr.add, ↓reduceIte] at hx569_1)
    have qi569 : (2 < l0.length) = True := eq_true (by omega)
    (try rw [show ((2 : Int)).toNat = 2 from rfl] at hx569_0)
    (try rw [show 2 * 2 = 4 from rfl] at hx569_0)
    (try rw [show ((2 : Int)).toNat = 2 from rfl] at hx569_1)
    (try rw [show 2 * 2 = 4 from rfl] at hx569_1)
    replace hx569_0 := (HB.out.cell (wB w _ hx569_0)).trans hx569_0
    replace hx569_1 := (HB.out.cell (wB w _ hx569_1)).trans hx569_1
    replace p569 := eq_true p569
    replace q569 := eq_true q569
    have p571 : 0 ≤ (0 : Int) := (by omega)
    have q571 : 0 < (l0.length : Int) := dT (by first | (with_reducible assumption) | assumption)
    obtain ⟨ad571, e571, hx571_0, hx571_1⟩ := at_impl_Peg HR0.out 0 p571 q571
    have hw571_1 := hx571_1
    (try rw [show ((0 : Int)).toNat = 0 from rfl] at hw571_1)
    (try rw [show 0 * 2 = 0 from rfl] at hw571_1)
    (try rw [Addr.add_zero'] at hw571_1)
    have hw571_0 := hx571_0
    (try rw [show ((0 : Int)).toNat = 0 from rfl] at hw571_0)
    (try rw [show 0 * 2 = 0 from rfl] at hw571_0)
    (try rw [Addr.add_zero'] at hw571_0)
    obtain rfl : ad568 = ad571 := (by injection e571)
    have qi571 : (0 < l0.length) = True := eq_true (by omega)
    (try rw [show ((0 : Int)).toNat = 0 from rfl] at hx571_0)
    (try rw [show 0 * 2 = 0 from rfl] at hx571_0)
    (try rw [Addr.add_zero'] at hx571_0)
    (try rw [show ((0 : Int)).toNat = 0 from rfl] at hx571_1)
    (try rw [show 0 * 2 = 0 from rfl] at hx571_1)
    (try rw [Addr.add_zero'] at hx571_1)
    replace hx571_0 := (HB.out.cell (wB w _ hx571_0)).trans hx571_0
    replace hx571_1 := (HB.out.cell (wB w _ hx571_1)).trans hx571_1
    replace p571 := eq_true p571
    replace q571 := eq_true q571
    have p572 : 0 ≤ (2 : Int) := (by omega)
    have q572 : 2 < (l0.length : Int) := dT (by first | (with_reducible assumption) | assumption)
    obtain ⟨ad572, e572, hx572_0, hx572_1⟩ := at_impl_Peg HR0.out 2 p572 q572
    have hw572_1 := hx572_1
    (try rw [show ((2 : Int)).toNat = 2 from rfl] at hw572_1)
    (try rw [show 2 * 2 = 4 from rfl] at hw572_1)
    (try simp only [Nat.reduceMul, Nat.reduceEqDiff, Go.Addr.add, ↓reduceIte] at hw572_1)
    have hw572_0 := hx572_0
    (try rw [show ((2 : Int)).toNat = 2 from rfl] at hw572_0)
    (try rw [show 2 * 2 = 4 from rfl] at hw572_0)
    (try simp only [Nat.reduceMul, Nat.reduceEqDiff, Go.Addr.add, ↓reduceIte] at hw572_0)
    obtain rfl : ad568 = ad572 := (by injection e572)
    (try simp only [show (2 : Int).toNat = 2 from rfl, Nat.reduceMul, Nat.reduceEqDiff, Go.Addr.add, ↓reduceIte] at hx572_0)
    (try simp only [show (2 : Int).toNat = 2 from rfl, Nat.reduceMul, Nat.reduceEqDiff, Go.Addr.add, ↓reduceIte] at hx572_1)
    have qi572 : (2 < l0.length) = True := eq_true (by omega)
    (try rw [show ((2 : Int)).toNat = 2 from rfl] at hx572_0)
    (try rw [show 2 * 2 = 4 from rfl] at hx572_0)
    (try rw [show ((2 : Int)).toNat = 2 from rfl] at hx572_1)
    (try rw [show 2 * 2 = 4 from rfl] at hx572_1)
    replace hx572_0 := (HB.out.cell (wB w _ hx572_0)).trans hx572_0
    replace hx572_1 := (HB.out.cell (wB w _ hx572_1)).trans hx572_1
    replace p572 := eq_true p572
    replace q572 := eq_true q572
    have p574 : 0 ≤ (0 : Int) := (by omega)
    have q574 : 0 < (l0.length : Int) := dT (by first | (with_reducible assumption) | assumption)
    obtain ⟨ad574, e574, hx574_0, hx574_1⟩ := at_impl_Peg HR0.out 0 p574 q574
    have hw574_1 := hx574_1
    (try rw [show ((0 : Int)).toNat = 0 from rfl] at hw574_1)
    (try rw [show 0 * 2 = 0 from rfl] at hw574_1)
    (try rw [Addr.add_zero'] at hw574_1)
    have hw574_0 := hx574_0
    (try rw [show ((0 : Int)).toNat = 0 from rfl] at hw574_0)
    (try rw [show 0 * 2 = 0 from rfl] at hw574_0)
    (try rw [Addr.add_zero'] at hw574_0)
    obtain rfl : ad568 = ad574 := (by injection e574)
    have qi574 : (0 < l0.length) = True := eq_true (by omega)
    (try rw [show ((0 : Int)).toNat = 0 from rfl] at hx574_0)
    (try rw [show 0 * 2 = 0 from rfl] at hx574_0)
    (try rw [Addr.add_zero'] at hx574_0)
    (try rw [show ((0 : Int)).toNat = 0 from rfl] at hx574_1)
    (try rw [show 0 * 2 = 0 from rfl] at hx574_1)
    (try rw [Addr.add_zero'] at hx574_1)
    replace hx574_0 := (HB.out.cell (wB w _ hx574_0)).trans hx574_0
    replace hx574_1 := (HB.out.cell (wB w _ hx574_1)).trans hx574_1
    replace p574 := eq_true p574
    replace q574 := eq_true q574
    have p575 : 0 ≤ (1 : Int) := (by omega)
    have q575 : 1 < (l0.length : Int) := dT (by first | (with_reducible assumption) | assumption)
    obtain ⟨ad575, e575, hx575_0, hx575_1⟩ := at_impl_Peg HR0.out 1 p575 q575
    have hw575_1 := hx575_1
    (try rw [show ((1 : Int)).toNat = 1 from rfl] at hw575_1)
    (try rw [show 1 * 2 = 2 from rfl] at hw575_1)
    (try simp only [Nat.reduceMul, Nat.reduceEqDiff, Go.Addr.add, ↓reduceIte] at hw575_1)
    have hw575_0 := hx575_0
    (try rw [show ((1 : Int)).toNat = 1 from rfl] at hw575_0)
    (try rw [show 1 * 2 = 2 from rfl] at hw575_0)
    (try simp only [Nat.reduceMul, Nat.reduceEqDiff, Go.Addr.add, ↓reduceIte] at hw575_0)
    obtain rfl : ad568 = ad575 := (by injection e575)
    (try simp only [show (1 : Int).toNat = 1 from rfl, Nat.reduceMul, Nat.reduceEqDiff, Go.Addr.add, ↓reduceIte] at hx575_0)
    (try simp only [show (1 : Int).toNat = 1 from rfl, Nat.reduceMul, Nat.reduceEqDiff, Go.Addr.add, ↓reduceIte] at hx575_1)
    have qi575 : (1 < l0.length) = True := eq_true (by omega)
    (try rw [show ((1 : Int)).toNat = 1 from rfl] at hx575_0)
    (try rw [show 1 * 2 = 2 from rfl] at hx575_0)
    (try rw [show ((1 : Int)).toNat = 1 from rfl] at hx575_1)
    (try rw [show 1 * 2 = 2 from rfl] at hx575_1)
    replace hx575_0 := (HB.out.cell (wB w _ hx575_0)).trans hx575_0
    replace hx575_1 := (HB.out.cell (wB w _ hx575_1)).trans hx575_1
    replace p575 := eq_true p575
    replace q575 := eq_true q575
    refine start_ (n := 26) (S := fun w' => w'.cell? ⟨gb567, 0, none⟩ = some (.int .i64 a1_0) ∧ w'.cell? ⟨gb567, 1, none⟩ = some (.int .i64 a1_1) ∧ w'.cell? ⟨ad568.block, ad568.off + 2, none⟩ = some (.int .i64 ((rd_impl_Peg l0 1).f0)) ∧ w'.cell? ⟨ad568.block, ad568.off + 2 + 1, none⟩ = some (.int .i64 ((rd_impl_Peg l0 1).f1)) ∧ w'.cell? ⟨ad568.block, ad568.off + 4, none⟩ = some (.int .i64 ((rd_impl_Peg l0 2).f0)) ∧ w'.cell? ⟨ad568.block, ad568.off + 4 + 1, none⟩ = some (.int .i64 ((rd_impl_Peg l0 2).f1)) ∧ w'.cell? ad568 = some (.int .i64 ((rd_impl_Peg l0 0).f0)) ∧ w'.cell? ⟨ad568.block, ad568.off + 1, none⟩ = some (.int .i64 ((rd_impl_Peg l0 0).f1)) ∧ w'.cell? ⟨ad568.block, ad568.off + 4, none⟩ = some (.int .i64 ((rd_impl_Peg l0 2).f0)) ∧ w'.cell? ⟨ad568.block, ad568.off + 4 + 1, none⟩ = some (.int .i64 ((rd_impl_Peg l0 2).f1)) ∧ w'.cell? ad568 = some (.int .i64 ((rd_impl_Peg l0 0).f0)) ∧ w'.cell? ⟨ad568.block, ad568.off + 1, none⟩ = some (.int .i64 ((rd_impl_Peg l0 0).f1)) ∧ w'.cell? ⟨ad568.block, ad568.off + 2, none⟩ = some (.int .i64 ((rd_impl_Peg l0 1).f0)) ∧ w'.cell? ⟨ad568.block, ad568.off + 2 + 1, none⟩ = some (.int .i64 ((rd_impl_Peg l0 1).f1))) (ds := []) #[false, false, false, false, false, false, false, false, false, false, false, false, false, false, false, false, false, false, false, false, false, false, false, false, false, false] (by kernel_rfl) rfl rfl ⟨(kC BK567.out 0).trans rfl, (kC BK567.out 1).trans rfl, ((HB.out.cell (wB w _ hw568_0)).trans hw568_0), ((HB.out.cell (wB w _ hw568_1)).trans hw568_1), ((HB.out.cell (wB w _ hw569_0)).trans hw569_0), ((HB.out.cell (wB w _ hw569_1)).trans hw569_1), ((HB.out.cell (wB w _ hw571_0)).trans hw571_0), ((HB.out.cell (wB w _ hw571_1)).trans hw571_1), ((HB.out.cell (wB w _ hw572_0)).trans hw572_0), ((HB.out.cell (wB w _ hw572_1)).trans hw572_1), ((HB.out.cell (wB w _ hw574_0)).trans hw574_0), ((HB.out.cell (wB w _ hw574_1)).trans hw574_1), ((HB.out.cell (wB w _ hw575_0)).trans hw575_0), ((HB.out.cell (wB w _ hw575_1)).trans hw575_1)⟩ (fun hHeld => ?_); refine with_tabW impl_parts.tab1 impl_parts.bits1 (fun HT_ HW_ => ?_)
    generalize w9.drew = w10 at BK567 HB hx568_0 hx568_1 hx569_0 hx569_1 hx571_0 hx571_1 hx572_0 hx572_1 hx574_0 hx574_1 hx575_0 hx575_1 hHeld ⊢
    refine pure_ (i := 1) (N := some 6) (v := ?_) (a' := ?_) #[false, true, false, false, false, false, false, false, false, false, false, false, false, false, false, false, false, false, false, false, false, false, false, false, false, false] rfl rfl (any_of HT_.out (by kernel_rfl)) (fun _ _ _ h => h) (Or.inl ⟨by rfl, ?_⟩) ?_ ?_
    rotate_left
    ·intro w'
     go_simp
     with_reducible rfl
    rotate_left
    ·simp only [Act.put, sI, sZ, sS, i64_w, i32_w]
     rfl
    refine pure_ (i := 2) (N := some 7) (v := ?_) (a' := ?_) #[false, true, true, false, false, false, false, false, false, false, false, false, false, false, false, false, false, false, false, false, false, false, false, false, false, false] rfl rfl (any_of HT_.out (by kernel_rfl)) (fun _ _ _ h => h) (Or.inl ⟨by rfl, ?_⟩) ?_ ?_
    rotate_left
    ·intro w'
     go_simp
     with_reducible rfl
    rotate_left
    ·simp only [Act.put, sI, sZ, sS, i64_w, i32_w]
     rfl
    refine pure_ (i := 4) (N := some 9) (v := ?_) (a' := ?_) #[false, true, true, false, true, false, false, false, false, false, false, false, false, false, false, false, false, false, false, false, false, false, false, false, false, false] rfl rfl (any_of HT_.out (by kernel_rfl)) (fun _ _ _ h => h) (Or.inl ⟨by rfl, ?_⟩) ?_ ?_
    rotate_left
    ·intro w'
     go_simp
     with_reducible rfl
    rotate_left
    ·simp only [Act.put, sI, sZ, sS, i64_w, i32_w]
     rfl
    refine pure_ (i := 5) (N := some 10) (v := ?_) (a' := ?_) #[false, true, true, false, true, true, false, false, false, false, false, false, false, false, false, false, false, false, false, false, false, false, false, false, false, false] rfl rfl (any_of HT_.out (by kernel_rfl)) (fun _ _ _ h => h) (Or.inl ⟨by rfl, ?_⟩) ?_ ?_
    rotate_left
    ·intro w'
     go_simp
     with_reducible rfl
    rotate_left
    ·simp only [Act.put, sI, sZ, sS, i64_w, i32_w]
     rfl
    refine pure_ (i := 8) (N := some 13) (v := ?_) (a' := ?_) #[false, true, true, false, true, true, false, false, true, false, false, false, false, false, false, false, false, false, false, false, false, false, false, false, false, false] rfl rfl (any_of HT_.out (by kernel_rfl)) (fun _ _ _ h => h) (Or.inl ⟨by rfl, ?_⟩) ?_ ?_
    rotate_left
    ·intro w'
     go_simp
     with_reducible rfl
    rotate_left
    ·simp only [Act.put, sI, sZ, sS, i64_w, i32_w]
     rfl
    refine pure_ (i := 9) (N := some 14) (v := ?_) (a' := ?_) #[false, true, true, false, true, true, false, false, true, true, false, false, false, false, false, false, false, false, false, false, false, false, false, false, false, false] rfl rfl (any_of HT_.out (by kernel_rfl)) (fun _ _ _ h => h) (Or.inl ⟨by rfl, ?_⟩) ?_ ?_
    rotate_left
    ·intro w'
     go_simp
     with_reducible rfl
    rotate_left
    ·simp only [Act.put, sI, sZ, sS, i64_w, i32_w]
     rfl
    refine pure_ (i := 12) (N := some 17) (v := ?_) (a' := ?_) #[false, true, true, false, true, true, false, false, true, true, false, false, true, false, false, false, false, false, false, false, false, false, false, false, false, false] rfl rfl (any_of HT_.out (by kernel_rfl)) (fun _ _ _ h => h) (Or.inl ⟨by rfl, ?_⟩) ?_ ?_
    rotate_left
    ·intro w'
     go_simp
     with_reducible rfl
    rotate_left
    ·simp only [Act.put, sI, sZ, sS, i64_w, i32_w]
     rfl
    refine pure_ (i := 13) (N := some 18) (v := ?_) (a' := ?_) #[false, true, true, false, true, true, false, false, true, true, false, false, true, true, false, false, false, false, false, false, false, false, false, false, false, false] rfl rfl (any_of HT_.out (by kernel_rfl)) (fun _ _ _ h => h) (Or.inl ⟨by rfl, ?_⟩) ?_ ?_
    rotate_left
    ·intro w'
     go_simp
     with_reducible rfl
    rotate_left
    ·simp only [Act.put, sI, sZ, sS, i64_w, i32_w]
     rfl
    refine pure_ (i := 16) (N := some 21) (v := ?_) (a' := ?_) #[false, true, true, false, true, true, false, false, true, true, false, false, true, true, false, false, true, false, false, false, false, false, false, false, false, false] rfl rfl (any_of HT_.out (by kernel_rfl)) (fun _ _ _ h => h) (Or.inl ⟨by rfl, ?_⟩) ?_ ?_
    rotate_left
    ·intro w'
     go_simp
     with_reducible rfl
    rotate_left
    ·simp only [Act.put, sI, sZ, sS, i64_w, i32_w]
     rfl
    refine pure_ (i := 17) (N := some 22) (v := ?_) (a' := ?_) #[false, true, true, false, true, true, false, false, true, true, false, false, true, true, false, false, true, true, false, false, false, false, false, false, false, false] rfl rfl (any_of HT_.out (by kernel_rfl)) (fun _ _ _ h => h) (Or.inl ⟨by rfl, ?_⟩) ?_ ?_
    rotate_left
    ·intro w'
     go_simp
     with_reducible rfl
    rotate_left
    ·simp only [Act.put, sI, sZ, sS, i64_w, i32_w]
     rfl
    refine pure_ (i := 19) (N := some 24) (v := ?_) (a' := ?_) #[false, true, true, false, true, true, false, false, true, true, false, false, true, true, false, false, true, true, false, true, false, false, false, false, false, false] rfl rfl (any_of HT_.out (by kernel_rfl)) (fun _ _ _ h => h) (Or.inl ⟨by rfl, ?_⟩) ?_ ?_
    rotate_left
    ·intro w'
     go_simp
     with_reducible rfl
    rotate_left
    ·simp only [Act.put, sI, sZ, sS, i64_w, i32_w]
     rfl
    refine pure_ (i := 20) (N := some 25) (v := ?_) (a' := ?_) #[false, true, true, false, true, true, false, false, true, true, false, false, true, true, false, false, true, true, false, true, true, false, false, false, false, false] rfl rfl (any_of HT_.out (by kernel_rfl)) (fun _ _ _ h => h) (Or.inl ⟨by rfl, ?_⟩) ?_ ?_
    rotate_left
    ·intro w'
     go_simp
     with_reducible rfl
    rotate_left
    ·simp only [Act.put, sI, sZ, sS, i64_w, i32_w]
     rfl
    refine take_ (i := 0) (N := some 5) (v := ?_) (a' := ?_) #[true, true, true, false, true, true, false, false, true, true, false, false, true, true, false, false, true, true, false, true, true, false, false, false, false, false] rfl rfl (take_ofW HT_.out HW_.out (by kernel_rfl)) (fun _ _ _ h => h) (Or.inl ⟨by rfl, ?_⟩) hHeld ?_ ?_
    rotate_left
    ·rintro w' ⟨s0, s1, s2, s3, s4, s5, s6, s7, s8, s9, s10, s11, s12, s13⟩
     go_simp
     with_reducible rfl
    rotate_left
    ·simp only [Act.put, sI, sZ, sS, i64_w, i32_w]
     rfl
    refine take_ (i := 3) (N := some 8) (v := ?_) (a' := ?_) #[true, true, true, true, true, true, false, false, true, true, false, false, true, true, false, false, true, true, false, true, true, false, false, false, false, false] rfl rfl (take_ofW HT_.out HW_.out (by kernel_rfl)) (fun _ _ _ h => h) (Or.inl ⟨by rfl, ?_⟩) hHeld ?_ ?_
    rotate_left
    ·rintro w' ⟨s0, s1, s2, s3, s4, s5, s6, s7, s8, s9, s10, s11, s12, s13⟩
     go_simp
     with_reducible rfl
    rotate_left
    ·simp only [Act.put, sI, sZ, sS, i64_w, i32_w]
     rfl
    refine take_ (i := 6) (N := some 11) (v := ?_) (a' := ?_) #[true, true, true, true, true, true, true, false, true, true, false, false, true, true, false, false, true, true, false, true, true, false, false, false, false, false] rfl rfl (take_ofW HT_.out HW_.out (by kernel_rfl)) (fun _ _ _ h => h) (Or.inl ⟨by rfl, ?_⟩) hHeld ?_ ?_
    rotate_left
    ·rintro w' ⟨s0, s1, s2, s3, s4, s5, s6, s7, s8, s9, s10, s11, s12, s13⟩
     go_simp
     with_reducible rfl
    rotate_left
    ·simp only [Act.put, sI, sZ, sS, i64_w, i32_w]
     rfl
    refine take_ (i := 10) (N := some 15) (v := ?_) (a' := ?_) #[true, true, true, true, true, true, true, false, true, true, true, false, true, true, false, false, true, true, false, true, true, false, false, false, false, false] rfl rfl (take_ofW HT_.out HW_.out (by kernel_rfl)) (fun _ _ _ h => h) (Or.inl ⟨by rfl, ?_⟩) hHeld ?_ ?_
    rotate_left
    ·rintro w' ⟨s0, s1, s2, s3, s4, s5, s6, s7, s8, s9, s10, s11, s12, s13⟩
     go_simp
     with_reducible rfl
    rotate_left
    ·simp only [Act.put, sI, sZ, sS, i64_w, i32_w]
     rfl
    refine take_ (i := 11) (N := some 16) (v := ?_) (a' := ?_) #[true, true, true, true, true, true, true, false, true, true, true, true, true, true, false, false, true, true, false, true, true, false, false, false, false, false] rfl rfl (take_ofW HT_.out HW_.out (by kernel_rfl)) (fun _ _ _ h => h) (Or.inl ⟨by rfl, ?_⟩) hHeld ?_ ?_
    rotate_left
    ·rintro w' ⟨s0, s1, s2, s3, s4, s5, s6, s7, s8, s9, s10, s11, s12, s13⟩
     go_simp
     with_reducible rfl
    rotate_left
    ·simp only [Act.put, sI, sZ, sS, i64_w, i32_w]
     rfl
    refine take_ (i := 14) (N := some 19) (v := ?_) (a' := ?_) #[true, true, true, true, true, true, true, false, true, true, true, true, true, true, true, false, true, true, false, true, true, false, false, false, false, false] rfl rfl (take_ofW HT_.out HW_.out (by kernel_rfl)) (fun _ _ _ h => h) (Or.inl ⟨by rfl, ?_⟩) hHeld ?_ ?_
    rotate_left
    ·rintro w' ⟨s0, s1, s2, s3, s4, s5, s6, s7, s8, s9, s10, s11, s12, s13⟩
     go_simp
     with_reducible rfl
    rotate_left
    ·simp only [Act.put, sI, sZ, sS, i64_w, i32_w]
     rfl
    refine take_ (i := 18) (N := some 23) (v := ?_) (a' := ?_) #[true, true, true, true, true, true, true, false, true, true, true, true, true, true, true, false, true, true, true, true, true, false, false, false, false, false] rfl rfl (take_ofW HT_.out HW_.out (by kernel_rfl)) (fun _ _ _ h => h) (Or.inl ⟨by rfl, ?_⟩) hHeld ?_ ?_
    rotate_left
    ·rintro w' ⟨s0, s1, s2, s3, s4, s5, s6, s7, s8, s9, s10, s11, s12, s13⟩
     go_simp
     with_reducible rfl
    rotate_left
    ·simp only [Act.put, sI, sZ, sS, i64_w, i32_w]
     rfl
    refine take_ (i := 21) (N := some 26) (v := ?_) (a' := ?_) #[true, true, true, true, true, true, true, false, true, true, true, true, true, true, true, false, true, true, true, true, true, true, false, false, false, false] rfl rfl (take_ofW HT_.out HW_.out (by kernel_rfl)) (fun _ _ _ h => h) (Or.inl ⟨by rfl, ?_⟩) hHeld ?_ ?_
    rotate_left
    ·rintro w' ⟨s0, s1, s2, s3, s4, s5, s6, s7, s8, s9, s10, s11, s12, s13⟩
     go_simp
     with_reducible rfl
    rotate_left
    ·simp only [Act.put, sI, sZ, sS, i64_w, i32_w]
     rfl
    refine take_ (i := 22) (N := some 27) (v := ?_) (a' := ?_) #[true, true, true, true, true, true, true, false, true, true, true, true, true, true, true, false, true, true, true, true, true, true, true, false, false, false] rfl rfl (take_ofW HT_.out HW_.out (by kernel_rfl)) (fun _ _ _ h => h) (Or.inl ⟨by rfl, ?_⟩) hHeld ?_ ?_
    rotate_left
    ·rintro w' ⟨s0, s1, s2, s3, s4, s5, s6, s7, s8, s9, s10, s11, s12, s13⟩
     go_simp
     with_reducible rfl
    rotate_left
    ·simp only [Act.put, sI, sZ, sS, i64_w, i32_w]
     rfl
    refine one_ (i := 7) (N := some 12) #[true, true, true, true, true, true, true, true, true, true, true, true, true, true, true, false, true, true, true, true, true, true, true, false, false, false] rfl rfl (one_of HT_.out (by kernel_rfl)) (by decide) (fun K hK => ?_)
    refine goes_ Try.func138 (by kernel_rfl) rfl #[.agg #[.int .i64 a1_0, .int .i64 a1_1], .agg #[.int .i64 ((rd_impl_Peg l0 1).f0), .int .i64 ((rd_impl_Peg l0 1).f1)], .agg #[.int .i64 ((rd_impl_Peg l0 2).f0), .int .i64 ((rd_impl_Peg l0 2).f1)]] (by rfl) rfl rfl (by (try simp only [mA, mC, mN]); first | done | rfl | (simp only [lD, lT]; rfl)) ?_
    with_reducible refine (impl_turn.calls a1_0 a1_1 ((rd_impl_Peg l0 1).f0) ((rd_impl_Peg l0 1).f1) ((rd_impl_Peg l0 2).f0) ((rd_impl_Peg l0 2).f1) t570 _ A5.out).mono ?_
    rintro e w11 ⟨rfl, hb⟩
    refine ⟨_, rfl, ?_⟩
    have n0_ := aM (blk_below (g := gb567) (o := .cells #[.int .i64 a1_0, .int .i64 a1_1] 34 (0, 0)) (by (with_reducible repeat (first | refine kN ?_ _ | refine kD ?_ | refine kA ?_ _)); exact BK567.out) hb)
    have n1_ := aM (pT (by repeat (first | (with_reducible first | exact HB.out | apply pA | apply pN | apply pD | refine pS ?_ GE567.out) | exact HB.out)) hb)
    clear BK567
    clear HB
    have BK567 := n0_
    have HB := n1_
    clear n0_ n1_
    (try clear hb)
    (try clear hb2)
    (try clear hk)
    (try clear hi)
    refine hK.out _ _ ⟨(kC BK567.out 0).trans rfl, (kC BK567.out 1).trans rfl, ((HB.out.cell (wB w _ hw568_0)).trans hw568_0), ((HB.out.cell (wB w _ hw568_1)).trans hw568_1), ((HB.out.cell (wB w _ hw569_0)).trans hw569_0), ((HB.out.cell (wB w _ hw569_1)).trans hw569_1), ((HB.out.cell (wB w _ hw571_0)).trans hw571_0), ((HB.out.cell (wB w _ hw571_1)).trans hw571_1), ((HB.out.cell (wB w _ hw572_0)).trans hw572_0), ((HB.out.cell (wB w _ hw572_1)).trans hw572_1), ((HB.out.cell (wB w _ hw574_0)).trans hw574_0), ((HB.out.cell (wB w _ hw574_1)).trans hw574_1), ((HB.out.cell (wB w _ hw575_0)).trans hw575_0), ((HB.out.cell (wB w _ hw575_1)).trans hw575_1)⟩ (fun hHeld => ?_)
    clear hK K
    refine norm_ (a' := ?_) ?_ ?_
    rotate_left
    ·show Act.put _ (some 12) _ = _
     simp only [Act.put, sI, sZ, sS, i64_w, i32_w]
     rfl
    refine one_ (i := 15) (N := some 20) #[true, true, true, true, true, true, true, true, true, true, true, true, true, true, true, true, true, true, true, true, true, true, true, false, false, false] rfl rfl (one_of HT_.out (by kernel_rfl)) (by decide) (fun K hK => ?_)
    refine goes_ Try.func138 (by kernel_rfl) rfl #[.agg #[.int .i64 ((rd_impl_Peg l0 0).f0), .int .i64 ((rd_impl_Peg l0 0).f1)], .agg #[.int .i64 a1_0, .int .i64 a1_1], .agg #[.int .i64 ((rd_impl_Peg l0 2).f0), .int .i64 ((rd_impl_Peg l0 2).f1)]] (by rfl) rfl rfl (by (try simp only [mA, mC, mN]); first | done | rfl | (simp only [lD, lT]; rfl)) ?_
    with_reducible refine (impl_turn.calls ((rd_impl_Peg l0 0).f0) ((rd_impl_Peg l0 0).f1) a1_0 a1_1 ((rd_impl_Peg l0 2).f0) ((rd_impl_Peg l0 2).f1) t573 _ A7.out).mono ?_
    rintro e w12 ⟨rfl, hb⟩
    refine ⟨_, rfl, ?_⟩
    have n0_ := aM (blk_below (g := gb567) (o := .cells #[.int .i64 a1_0, .int .i64 a1_1] 34 (0, 0)) (by (with_reducible repeat (first | refine kN ?_ _ | refine kD ?_ | refine kA ?_ _)); exact BK567.out) hb)
    have n1_ := aM (pT (by repeat (first | (with_reducible first | exact HB.out | apply pA | apply pN | apply pD | refine pS ?_ GE567.out) | exact HB.out)) hb)
    clear BK567
    clear HB
    have BK567 := n0_
    have HB := n1_
    clear n0_ n1_
    (try clear hb)
    (try clear hb2)
    (try clear hk)
    (try clear hi)
    refine hK.out _ _ ⟨(kC BK567.out 0).trans rfl, (kC BK567.out 1).trans rfl, ((HB.out.cell (wB w _ hw568_0)).trans hw568_0), ((HB.out.cell (wB w _ hw568_1)).trans hw568_1), ((HB.out.cell (wB w _ hw569_0)).trans hw569_0), ((HB.out.cell (wB w _ hw569_1)).trans hw569_1), ((HB.out.cell (wB w _ hw571_0)).trans hw571_0), ((HB.out.cell (wB w _ hw571_1)).trans hw571_1), ((HB.out.cell (wB w _ hw572_0)).trans hw572_0), ((HB.out.cell (wB w _ hw572_1)).trans hw572_1), ((HB.out.cell (wB w _ hw574_0)).trans hw574_0), ((HB.out.cell (wB w _ hw574_1)).trans hw574_1), ((HB.out.cell (wB w _ hw575_0)).trans hw575_0), ((HB.out.cell (wB w _ hw575_1)).trans hw575_1)⟩ (fun hHeld => ?_)
    clear hK K
    refine norm_ (a' := ?_) ?_ ?_
    rotate_left
    ·show Act.put _ (some 20) _ = _
     simp only [Act.put, sI, sZ, sS, i64_w, i32_w]
     rfl
    refine one_ (i := 23) (N := some 28) #[true, true, true, true, true, true, true, true, true, true, true, true, true, true, true, true, true, true, true, true, true, true, true, true, false, false] rfl rfl (one_of HT_.out (by kernel_rfl)) (by decide) (fun K hK => ?_)
    refine goes_ Try.func138 (by kernel_rfl) rfl #[.agg #[.int .i64 ((rd_impl_Peg l0 0).f0), .int .i64 ((rd_impl_Peg l0 0).f1)], .agg #[.int .i64 ((rd_impl_Peg l0 1).f0), .int .i64 ((rd_impl_Peg l0 1).f1)], .agg #[.int .i64 a1_0, .int .i64 a1_1]] (by rfl) rfl rfl (by (try simp only [mA, mC, mN]); first | done | rfl | (simp only [lD, lT]; rfl)) ?_
    with_reducible refine (impl_turn.calls ((rd_impl_Peg l0 0).f0) ((rd_impl_Peg l0 0).f1) ((rd_impl_Peg l0 1).f0) ((rd_impl_Peg l0 1).f1) a1_0 a1_1 t576 _ A8.out).mono ?_
    rintro e w13 ⟨rfl, hb⟩
    refine ⟨_, rfl, ?_⟩
    have n0_ := aM (blk_below (g := gb567) (o := .cells #[.int .i64 a1_0, .int .i64 a1_1] 34 (0, 0)) (by (with_reducible repeat (first | refine kN ?_ _ | refine kD ?_ | refine kA ?_ _)); exact BK567.out) hb)
    have n1_ := aM (pT (by repeat (first | (with_reducible first | exact HB.out | apply pA | apply pN | apply pD | refine pS ?_ GE567.out) | exact HB.out)) hb)
    clear BK567
    clear HB
    have BK567 := n0_
    have HB := n1_
    clear n0_ n1_
    (try clear hb)
    (try clear hb2)
    (try clear hk)
    (try clear hi)
    refine hK.out _ _ ⟨(kC BK567.out 0).trans rfl, (kC BK567.out 1).trans rfl, ((HB.out.cell (wB w _ hw568_0)).trans hw568_0), ((HB.out.cell (wB w _ hw568_1)).trans hw568_1), ((HB.out.cell (wB w _ hw569_0)).trans hw569_0), ((HB.out.cell (wB w _ hw569_1)).trans hw569_1), ((HB.out.cell (wB w _ hw571_0)).trans hw571_0), ((HB.out.cell (wB w _ hw571_1)).trans hw571_1), ((HB.out.cell (wB w _ hw572_0)).trans hw572_0), ((HB.out.cell (wB w _ hw572_1)).trans hw572_1), ((HB.out.cell (wB w _ hw574_0)).trans hw574_0), ((HB.out.cell (wB w _ hw574_1)).trans hw574_1), ((HB.out.cell (wB w _ hw575_0)).trans hw575_0), ((HB.out.cell (wB w _ hw575_1)).trans hw575_1)⟩ (fun hHeld => ?_)
    clear hK K
    refine norm_ (a' := ?_) ?_ ?_
    rotate_left
    ·show Act.put _ (some 28) _ = _
     simp only [Act.put, sI, sZ, sS, i64_w, i32_w]
     rfl
    refine one_ (i := 24) (N := some 29) #[true, true, true, true, true, true, true, true, true, true, true, true, true, true, true, true, true, true, true, true, true, true, true, true, true, false] rfl rfl (one_of HT_.out (by kernel_rfl)) (by decide) (fun K hK => ?_)
    refine Kd.R_lit_step (Kd.int .i64) _ 3 ?hg (N := 29) ?hd (xs := ([t570, t573, t576] : List Int)) (inner := [.int .i64 t570, .int .i64 t573, .int .i64 t576]) (ok := fun _ => True) (okp := fun _ => True) ?hr ?hp (fun _ hk => hk) trivial (Below.refl _ _) (Nat.le_refl _) (by simp) ?_; (case hd => rfl); (case hg => rfl); (case hr => first | (go_simp; done) | (go_simp; rfl)); (case hp => exact (Reps.one (show Kd.M (Kd.int .i64) _ _ _ t570 [.int .i64 t570] from rfl) (Reps.one (show Kd.M (Kd.int .i64) _ _ _ t573 [.int .i64 t573] from rfl) (Reps.one (show Kd.M (Kd.int .i64) _ _ _ t576 [.int .i64 t576] from rfl) (Reps.none _ _)))))
    intro v578 w14 ho15 hb hg_ hnew_
    clear hg_ hnew_
    (first | rw [← Ny577.out] at ho15 | (simp only [Int.reduceToNat] at ho15; rw [← Ny577.out] at ho15))
    have n0_ := aM (Kd.R_lower ho15 (pZ (by repeat (first | (with_reducible first | exact HB.out | apply pA | apply pN | apply pD | refine pS ?_ GE567.out) | exact HB.out))))
    have n1_ := aM (blk_below (g := gb567) (o := .cells #[.int .i64 a1_0, .int .i64 a1_1] 34 (0, 0)) (by (with_reducible repeat (first | refine kN ?_ _ | refine kD ?_ | refine kA ?_ _)); exact BK567.out) hb)
    have n2_ := aM (pT (by repeat (first | (with_reducible first | exact HB.out | apply pA | apply pN | apply pD | refine pS ?_ GE567.out) | exact HB.out)) hb)
    clear BK567
    clear HB
    have HO579 := n0_
    have BK567 := n1_
    have HB := n2_
    clear n0_ n1_ n2_
    clear hb ho15
    refine hK.out _ _ ⟨(kC BK567.out 0).trans rfl, (kC BK567.out 1).trans rfl, ((HB.out.cell (wB w _ hw568_0)).trans hw568_0), ((HB.out.cell (wB w _ hw568_1)).trans hw568_1), ((HB.out.cell (wB w _ hw569_0)).trans hw569_0), ((HB.out.cell (wB w _ hw569_1)).trans hw569_1), ((HB.out.cell (wB w _ hw571_0)).trans hw571_0), ((HB.out.cell (wB w _ hw571_1)).trans hw571_1), ((HB.out.cell (wB w _ hw572_0)).trans hw572_0), ((HB.out.cell (wB w _ hw572_1)).trans hw572_1), ((HB.out.cell (wB w _ hw574_0)).trans hw574_0), ((HB.out.cell (wB w _ hw574_1)).trans hw574_1), ((HB.out.cell (wB w _ hw575_0)).trans hw575_0), ((HB.out.cell (wB w _ hw575_1)).trans hw575_1)⟩ (fun hHeld => ?_)
    clear hK K
    refine norm_ (a' := ?_) ?_ ?_
    rotate_left
    ·show Act.put _ (some 29) _ = _
     simp only [Act.put, sI, sZ, sS, i64_w, i32_w]
     rfl
    refine pure_ (i := 25) (N := some 4) (v := ?_) (a' := ?_) #[true, true, true, true, true, true, true, true, true, true, true, true, true, true, true, true, true, true, true, true, true, true, true, true, true, true] rfl rfl (any_of HT_.out (by kernel_rfl)) (fun _ _ _ h => h) (Or.inl ⟨by rfl, ?_⟩) ?_ ?_
    rotate_left
    ·intro w'
     go_simp
     with_reducible rfl
    rotate_left
    ·simp only [Act.put, sI, sZ, sS, i64_w, i32_w]
     rfl
    refine done_ (done_of HT_.out (by kernel_rfl)) ?_
    try go_wp2
    go_ret
    exact ⟨_, by first | rfl | (simp [errW_none, errW_some] <;> rfl) | (simp [*, errW_none, errW_some] <;> rfl), by (with_reducible repeat (first | apply rA | apply rN | apply rD)); exact HO579.out, by repeat (first | (with_reducible first | exact HB.out | apply pA | apply pN | apply pD | refine pS ?_ GE567.out) | exact HB.out)⟩
   ·rw [if_neg c6] at H
    exact absurd H (by simp)
  ·rw [if_neg c4] at H
   exact absurd H (by simp)
 ·rw [if_neg c3] at H
  exact absurd H (by simp)

def impl_PartsOfPeg.f (k : Nat) (l0 : List (S_impl_Peg)) (a1_0 : Int) (a1_1 : Int) : Option (List Int × Bool) := (impl_isThree.f k l0).bind fun t581 => (if t581 = true then ((impl_IsPeg.f a1_0 a1_1).bind fun t582 => (if t582 = true then ((impl_parts.f l0 a1_0 a1_1).bind fun t583 => (some (t583, true))) else (some (([] : List Int), false)))) else (some (([] : List Int), false)))
theorem impl_PartsOfPeg.mono : ∀ a0 a1 a2 k, LeO (impl_PartsOfPeg.f k a0 a1 a2) (impl_PartsOfPeg.f (k + 1) a0 a1 a2) := by
 intro a0 a1 a2 k
 unfold impl_PartsOfPeg.f
 repeat' first
   | (with_reducible exact impl_isThree.mono _ _)
   | (with_reducible exact LeO.refl _)
   | (with_reducible exact LeO.none _)
   | (with_reducible refine LeO.ite ?_ ?_)
   | (with_reducible refine LeO.bind ?_ (fun _ => ?_))
   | exact impl_isThree.mono _ _
   | exact LeO.none _
   | refine LeO.ite ?_ ?_
   | refine LeO.bind ?_ (fun _ => ?_)
set_option maxHeartbeats 8000000 in
set_option maxRecDepth 100000 in
theorem impl_PartsOfPeg.calls (k : Nat) (A0 : Option Addr) (c0 : Nat) (l0 : List (S_impl_Peg)) (a1_0 : Int) (a1_1 : Int) (r1 : List Int) (r2 : Bool) (w : World) (hr0 : Kd.C kd_impl_Peg w A0 l0.length l0) (hc0 : l0.length ≤ c0) (h : impl_PartsOfPeg.f k l0 a1_0 a1_1 = some (r1, r2)) :
  Calls Try.prog 46 #[.slice A0 l0.length c0, .agg #[.int .i64 a1_0, .int .i64 a1_1]] w fun e w' => ∃ v0_ : Value, e = .returned (.tuple #[v0_, .bool r2]) ∧ Kd.R (Kd.int .i64) 3 w' w.heap.size (fun _ => True) v0_ r1 ∧ Below w.heap.size w w' := by
 have hu34 := Try.underlying34
 have HR0 := aM hr0
 have HC0 := aM hc0
 clear hr0 hc0
 have HB := aM (Below.refl w.heap.size w)
 have H : ((impl_isThree.f k l0).bind fun t581 => (if t581 = true then ((impl_IsPeg.f a1_0 a1_1).bind fun t582 => (if t582 = true then ((impl_parts.f l0 a1_0 a1_1).bind fun t583 => (some (t583, true))) else (some (([] : List Int), false)))) else (some (([] : List Int), false)))) = some (r1, r2) := h
 clear h
 replace H := oB.mp H
 obtain ⟨t581, A30, H⟩ := H
 replace H : (if t581 = true then ((impl_IsPeg.f a1_0 a1_1).bind fun t582 => (if t582 = true then ((impl_parts.f l0 a1_0 a1_1).bind fun t583 => (some (t583, true))) else (some (([] : List Int), false)))) else (some (([] : List Int), false))) = some (r1, r2) := H
 have A3 := aM A30
 clear A30
 by_cases c4 : t581 = true
 ·subst c4
  have H1 : ((impl_IsPeg.f a1_0 a1_1).bind fun t582 => (if t582 = true then ((impl_parts.f l0 a1_0 a1_1).bind fun t583 => (some (t583, true))) else (some (([] : List Int), false)))) = some (r1, r2) := by rw [if_pos rfl] at H; exact H
  clear H
  have H := H1
  clear H1
  replace H := oB.mp H
  obtain ⟨t582, A50, H⟩ := H
  replace H : (if t582 = true then ((impl_parts.f l0 a1_0 a1_1).bind fun t583 => (some (t583, true))) else (some (([] : List Int), false))) = some (r1, r2) := H
  have A5 := aM A50
  clear A50
  by_cases c6 : t582 = true
  ·subst c6
   have H1 : ((impl_parts.f l0 a1_0 a1_1).bind fun t583 => (some (t583, true))) = some (r1, r2) := by rw [if_pos rfl] at H; exact H
   clear H
   have H := H1
   clear H1
   replace H := oB.mp H
   obtain ⟨t583, A70, H⟩ := H
   replace H : (some (t583, true)) = some (r1, r2) := H
   have A7 := aM A70
   clear A70
   simp only [Option.some.injEq, Prod.mk.injEq] at H
   obtain ⟨rfl, rfl⟩ := H
   go_enter Try.func46, Try.ntmps46
   go_wp2_with (first | ((with_reducible refine gate_dst (N := 3) rfl ?_); refine box_event ?hg (N := 3) ?hd (cs := #[.int .i64 a1_0, .int .i64 a1_1]) (t := 34) ?hr ?_; (case hd => rfl); (case hg => rfl); (case hr => first | (go_simp; done) | (go_simp; rfl)); intro gb580 hg w8 hbox hb; have n0_ := aM (pT (by repeat (first | (with_reducible first | exact HB.out | apply pA | apply pN | apply pD) | exact HB.out)) hb); have n1_ := aM (hbox); have n2_ := aM ((by rw [hg]; exact (pZ (by repeat (first | (with_reducible first | exact HB.out | apply pA | apply pN | apply pD) | exact HB.out))) : w.heap.size ≤ gb580)); have n3_ := aM ((by rw [hg]; exact (pZ (by repeat (first | (with_reducible first | exact HB.out | apply pA | apply pN | apply pD) | exact HB.out))) : w.heap.size ≤ gb580)); clear HB; have HB := n0_; have BK580 := n1_; have GW580 := n2_; have GE580 := n3_; clear n0_ n1_ n2_ n3_; clear hb hbox hg) | ((with_reducible refine gC (f := 96) rfl ?_); refine goesL_ (some 7) rfl rfl Try.func96 (by kernel_rfl) rfl #[.slice A0 l0.length c0] rfl (by (try simp only [mA, mC, mN]); first | done | rfl | (simp only [lD, lT]; rfl)) ?_; (with_reducible refine (impl_isThree.calls k _ _ l0 true _ ?side1 ?side2 A3.out).mono ?_); (case side1 => repeat (first | exact (Kd.C_below HR0.out HB.out) | (with_reducible refine cA ?_ _) | (with_reducible refine cN ?_ _) | (with_reducible refine cD ?_))); (case side2 => exact HC0.out); rintro e w9 ⟨rfl, hb⟩; refine ⟨_, rfl, ?_⟩; have n0_ := aM (blk_below (g := gb580) (o := .cells #[.int .i64 a1_0, .int .i64 a1_1] 34 (0, 0)) (by (with_reducible repeat (first | refine kN ?_ _ | refine kD ?_ | refine kA ?_ _)); exact BK580.out) hb); have n1_ := aM (pT (by repeat (first | (with_reducible first | exact HB.out | apply pA | apply pN | apply pD | refine pS ?_ GE580.out) | exact HB.out)) hb); clear BK580; clear HB; have BK580 := n0_; have HB := n1_; clear n0_ n1_; (try clear hb); (try clear hb2); (try clear hk); (try clear hi); have hcz10_0 : w9.cell? ⟨gb580, 0, none⟩ = some (.int .i64 a1_0) := (kC BK580.out 0).trans rfl; have hcz10_1 : w9.cell? ⟨gb580, 1, none⟩ = some (.int .i64 a1_1) := (kC BK580.out 1).trans rfl; have hfz10_0 := kF BK580.out 0; have hfz10_1 := kF BK580.out 1) | (go_at_call 89; (with_reducible refine (impl_IsPeg.calls a1_0 a1_1 true _ A5.out).mono ?_); rintro e w11 ⟨rfl, hb⟩; have n0_ := aM (blk_below (g := gb580) (o := .cells #[.int .i64 a1_0, .int .i64 a1_1] 34 (0, 0)) (by (with_reducible repeat (first | refine kN ?_ _ | refine kD ?_ | refine kA ?_ _)); exact BK580.out) hb); have n1_ := aM (pT (by repeat (first | (with_reducible first | exact HB.out | apply pA | apply pN | apply pD | refine pS ?_ GE580.out) | exact HB.out)) hb); clear BK580; clear HB; have BK580 := n0_; have HB := n1_; clear n0_ n1_; (try clear hb); (try clear hb2); (try clear hk); (try clear hi); have hcz12_0 : w11.cell? ⟨gb580, 0, none⟩ = some (.int .i64 a1_0) := (kC BK580.out 0).trans rfl; have hcz12_1 : w11.cell? ⟨gb580, 1, none⟩ = some (.int .i64 a1_1) := (kC BK580.out 1).trans rfl; have hfz12_0 := kF BK580.out 0; have hfz12_1 := kF BK580.out 1) | ((with_reducible refine gC (f := 104) rfl ?_); refine goesL_ (some 16) rfl rfl Try.func104 (by kernel_rfl) rfl #[.slice A0 l0.length c0, .agg #[.int .i64 a1_0, .int .i64 a1_1]] rfl (by (try simp only [mA, mC, mN]); first | done | rfl | (simp only [lD, lT]; rfl)) ?_; (with_reducible refine (impl_parts.calls _ _ l0 a1_0 a1_1 t583 _ ?side1 ?side2 A7.out).mono ?_); (case side1 => repeat (first | exact (Kd.C_below HR0.out HB.out) | (with_reducible refine cA ?_ _) | (with_reducible refine cN ?_ _) | (with_reducible refine cD ?_))); (case side2 => exact HC0.out); rintro e w13 ⟨v584, rfl, ho0, hb⟩; refine ⟨_, rfl, ?_⟩; have n0_ := aM (Kd.R_lower ho0 (pZ (by repeat (first | (with_reducible first | exact HB.out | apply pA | apply pN | apply pD | refine pS ?_ GE580.out) | exact HB.out)))); have n1_ := aM (blk_below (g := gb580) (o := .cells #[.int .i64 a1_0, .int .i64 a1_1] 34 (0, 0)) (by (with_reducible repeat (first | refine kN ?_ _ | refine kD ?_ | refine kA ?_ _)); exact BK580.out) hb); have n2_ := aM (pT (by repeat (first | (with_reducible first | exact HB.out | apply pA | apply pN | apply pD | refine pS ?_ GE580.out) | exact HB.out)) hb); clear BK580; clear HB; have HO585 := n0_; have BK580 := n1_; have HB := n2_; clear n0_ n1_ n2_; (try clear hb); (try clear hb2); (try clear hk); (try clear hi); (try clear ho0)))
   go_ret2
   exact ⟨_, by first | rfl | (simp [errW_none, errW_some] <;> rfl) | (simp [*, errW_none, errW_some] <;> rfl), by (with_reducible repeat (first | apply rA | apply rN | apply rD)); exact HO585.out, by repeat (first | (with_reducible first | exact HB.out | apply pA | apply pN | apply pD | refine pS ?_ GE580.out) | exact HB.out)⟩
  ·replace c6 := Bool.eq_false_iff.mpr c6
   subst c6
   have H1 : (some (([] : List Int), false)) = some (r1, r2) := by rw [if_neg (show ¬ (false = true) by decide)] at H; exact H
   clear H
   have H := H1
   clear H1
   simp only [Option.some.injEq, Prod.mk.injEq] at H
   obtain ⟨rfl, rfl⟩ := H
   go_enter Try.func46, Try.ntmps46
   go_wp2_with (first | ((with_reducible refine gate_dst (N := 3) rfl ?_); refine box_event ?hg (N := 3) ?hd (cs := #[.int .i64 a1_0, .int .i64 a1_1]) (t := 34) ?hr ?_; (case hd => rfl); (case hg => rfl); (case hr => first | (go_simp; done) | (go_simp; rfl)); intro gb580 hg w14 hbox hb; have n0_ := aM (pT (by repeat (first | (with_reducible first | exact HB.out | apply pA | apply pN | apply pD) | exact HB.out)) hb); have n1_ := aM (hbox); have n2_ := aM ((by rw [hg]; exact (pZ (by repeat (first | (with_reducible first | exact HB.out | apply pA | apply pN | apply pD) | exact HB.out))) : w.heap.size ≤ gb580)); have n3_ := aM ((by rw [hg]; exact (pZ (by repeat (first | (with_reducible first | exact HB.out | apply pA | apply pN | apply pD) | exact HB.out))) : w.heap.size ≤ gb580)); clear HB; have HB := n0_; have BK580 := n1_; have GW580 := n2_; have GE580 := n3_; clear n0_ n1_ n2_ n3_; clear hb hbox hg) | ((with_reducible refine gC (f := 96) rfl ?_); refine goesL_ (some 7) rfl rfl Try.func96 (by kernel_rfl) rfl #[.slice A0 l0.length c0] rfl (by (try simp only [mA, mC, mN]); first | done | rfl | (simp only [lD, lT]; rfl)) ?_; (with_reducible refine (impl_isThree.calls k _ _ l0 true _ ?side1 ?side2 A3.out).mono ?_); (case side1 => repeat (first | exact (Kd.C_below HR0.out HB.out) | (with_reducible refine cA ?_ _) | (with_reducible refine cN ?_ _) | (with_reducible refine cD ?_))); (case side2 => exact HC0.out); rintro e w15 ⟨rfl, hb⟩; refine ⟨_, rfl, ?_⟩; have n0_ := aM (blk_below (g := gb580) (o := .cells #[.int .i64 a1_0, .int .i64 a1_1] 34 (0, 0)) (by (with_reducible repeat (first | refine kN ?_ _ | refine kD ?_ | refine kA ?_ _)); exact BK580.out) hb); have n1_ := aM (pT (by repeat (first | (with_reducible first | exact HB.out | apply pA | apply pN | apply pD | refine pS ?_ GE580.out) | exact HB.out)) hb); clear BK580; clear HB; have BK580 := n0_; have HB := n1_; clear n0_ n1_; (try clear hb); (try clear hb2); (try clear hk); (try clear hi); have hcz16_0 : w15.cell? ⟨gb580, 0, none⟩ = some (.int .i64 a1_0) := (kC BK580.out 0).trans rfl; have hcz16_1 : w15.cell? ⟨gb580, 1, none⟩ = some (.int .i64 a1_1) := (kC BK580.out 1).trans rfl; have hfz16_0 := kF BK580.out 0; have hfz16_1 := kF BK580.out 1) | (go_at_call 89; (with_reducible refine (impl_IsPeg.calls a1_0 a1_1 false _ A5.out).mono ?_); rintro e w17 ⟨rfl, hb⟩; have n0_ := aM (blk_below (g := gb580) (o := .cells #[.int .i64 a1_0, .int .i64 a1_1] 34 (0, 0)) (by (with_reducible repeat (first | refine kN ?_ _ | refine kD ?_ | refine kA ?_ _)); exact BK580.out) hb); have n1_ := aM (pT (by repeat (first | (with_reducible first | exact HB.out | apply pA | apply pN | apply pD | refine pS ?_ GE580.out) | exact HB.out)) hb); clear BK580; clear HB; have BK580 := n0_; have HB := n1_; clear n0_ n1_; (try clear hb); (try clear hb2); (try clear hk); (try clear hi)))
   go_ret2
   exact ⟨_, by first | rfl | (simp [errW_none, errW_some] <;> rfl) | (simp [*, errW_none, errW_some] <;> rfl), by first | exact Kd.R_nil _ _ _ _ _ | exact Kd.N_nil _ _ _ _ _ | exact Kd.V_nil _ _ _ _ _ | exact Kd.Q_nil _ _ _ _ _ | exact Kd.S_nil _ _ _ _ _, by repeat (first | (with_reducible first | exact HB.out | apply pA | apply pN | apply pD | refine pS ?_ GE580.out) | exact HB.out)⟩
 ·replace c4 := Bool.eq_false_iff.mpr c4
  subst c4
  have H1 : (some (([] : List Int), false)) = some (r1, r2) := by rw [if_neg (show ¬ (false = true) by decide)] at H; exact H
  clear H
  have H := H1
  clear H1
  simp only [Option.some.injEq, Prod.mk.injEq] at H
  obtain ⟨rfl, rfl⟩ := H
  go_enter Try.func46, Try.ntmps46
  go_wp2_with (first | ((with_reducible refine gate_dst (N := 3) rfl ?_); refine box_event ?hg (N := 3) ?hd (cs := #[.int .i64 a1_0, .int .i64 a1_1]) (t := 34) ?hr ?_; (case hd => rfl); (case hg => rfl); (case hr => first | (go_simp; done) | (go_simp; rfl)); intro gb580 hg w18 hbox hb; have n0_ := aM (pT (by repeat (first | (with_reducible first | exact HB.out | apply pA | apply pN | apply pD) | exact HB.out)) hb); have n1_ := aM (hbox); have n2_ := aM ((by rw [hg]; exact (pZ (by repeat (first | (with_reducible first | exact HB.out | apply pA | apply pN | apply pD) | exact HB.out))) : w.heap.size ≤ gb580)); have n3_ := aM ((by rw [hg]; exact (pZ (by repeat (first | (with_reducible first | exact HB.out | apply pA | apply pN | apply pD) | exact HB.out))) : w.heap.size ≤ gb580)); clear HB; have HB := n0_; have BK580 := n1_; have GW580 := n2_; have GE580 := n3_; clear n0_ n1_ n2_ n3_; clear hb hbox hg) | ((with_reducible refine gC (f := 96) rfl ?_); refine goesL_ (some 7) rfl rfl Try.func96 (by kernel_rfl) rfl #[.slice A0 l0.length c0] rfl (by (try simp only [mA, mC, mN]); first | done | rfl | (simp only [lD, lT]; rfl)) ?_; (with_reducible refine (impl_isThree.calls k _ _ l0 false _ ?side1 ?side2 A3.out).mono ?_); (case side1 => repeat (first | exact (Kd.C_below HR0.out HB.out) | (with_reducible refine cA ?_ _) | (with_reducible refine cN ?_ _) | (with_reducible refine cD ?_))); (case side2 => exact HC0.out); rintro e w19 ⟨rfl, hb⟩; refine ⟨_, rfl, ?_⟩; have n0_ := aM (blk_below (g := gb580) (o := .cells #[.int .i64 a1_0, .int .i64 a1_1] 34 (0, 0)) (by (with_reducible repeat (first | refine kN ?_ _ | refine kD ?_ | refine kA ?_ _)); exact BK580.out) hb); have n1_ := aM (pT (by repeat (first | (with_reducible first | exact HB.out | apply pA | apply pN | apply pD | refine pS ?_ GE580.out) | exact HB.out)) hb); clear BK580; clear HB; have BK580 := n0_; have HB := n1_; clear n0_ n1_; (try clear hb); (try clear hb2); (try clear hk); (try clear hi)))
  go_ret2
  exact ⟨_, by first | rfl | (simp [errW_none, errW_some] <;> rfl) | (simp [*, errW_none, errW_some] <;> rfl), by first | exact Kd.R_nil _ _ _ _ _ | exact Kd.N_nil _ _ _ _ _ | exact Kd.V_nil _ _ _ _ _ | exact Kd.Q_nil _ _ _ _ _ | exact Kd.S_nil _ _ _ _ _, by repeat (first | (with_reducible first | exact HB.out | apply pA | apply pN | apply pD | refine pS ?_ GE580.out) | exact HB.out)⟩

end Go.Proofs.Ytiacfkilmknldaa.X
