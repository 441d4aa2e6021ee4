-- thin
-- short
import Derived.Test.YtiacfkilmknldaaXA
import Derived.Test.YtiacfkilmknldaaX0
import Derived.Test.YtiacfkilmknldaaX23
namespace Go.Proofs.Ytiacfkilmknldaa.X
open Go.RowKit Go.Proofs.Ytiacfkilmknldaa.XW Go.Proofs.YtiacfkilmknldaaW.PrintWords Go.Proofs.YtiacfkilmknldaaW.PrintLast Go.Proofs.YtiacfkilmknldaaW.PrintMore
attribute [local go_sem] max2_int min2_int max_two min_two max_three min_three max_four min_four   -- for this text's walks alone
set_option linter.unusedVariables false
set_option linter.unusedSimpArgs false

def spec_trSquare.f (a0_0 : Int) (a0_1 : Int) (a1_0 : Int) (a1_1 : Int) : Option (Int) := some (wrap64 ((wrap64 ((wrap64 (a0_0 - a1_0)) * (wrap64 (a0_0 - a1_0)))) + (wrap64 ((wrap64 (a0_1 - a1_1)) * (wrap64 (a0_1 - a1_1))))))
set_option maxHeartbeats 8000000 in
set_option maxRecDepth 100000 in
theorem spec_trSquare.calls (a0_0 : Int) (a0_1 : Int) (a1_0 : Int) (a1_1 : Int) (r : Int) (w : World) (h : spec_trSquare.f a0_0 a0_1 a1_0 a1_1 = some r) :
  Calls Try.prog 144 #[.agg #[.int .i64 a0_0, .int .i64 a0_1], .agg #[.int .i64 a1_0, .int .i64 a1_1]] w fun e w' => e = .returned (.int .i64 r) ∧ Below w.heap.size w w' := by
 have hu34 := Try.underlying34
 have HB := aM (Below.refl w.heap.size w)
 have H : (some (wrap64 ((wrap64 ((wrap64 (a0_0 - a1_0)) * (wrap64 (a0_0 - a1_0)))) + (wrap64 ((wrap64 (a0_1 - a1_1)) * (wrap64 (a0_1 - a1_1))))))) = some r := h
 clear h
 obtain rfl := Option.some.inj H
 go_enter Try.func144, Try.ntmps144
 go_wp2_with (first | ((with_reducible refine gate_dst (N := 2) rfl ?_); refine box_event ?hg (N := 2) ?hd (cs := #[.int .i64 a0_0, .int .i64 a0_1]) (t := 34) ?hr ?_; (case hd => rfl); (case hg => rfl); (case hr => first | (go_simp; done) | (go_simp; rfl)); intro gb632 hg w3 hbox hb; have n0_ := aM (pT bQ hb); have n1_ := aM (hbox); have n2_ := aM ((by rw [hg]; exact (pZ bQ) : w.heap.size ≤ gb632)); have n3_ := aM ((by rw [hg]; exact (pZ bQ) : w.heap.size ≤ gb632)); clear HB; have HB := n0_; have BK632 := n1_; have GW632 := n2_; have GE632 := n3_; clear n0_ n1_ n2_ n3_; clear hb hbox hg) | ((with_reducible refine gate_dst (N := 3) rfl ?_); refine box_event ?hg (N := 3) ?hd (cs := #[.int .i64 a1_0, .int .i64 a1_1]) (t := 34) ?hr ?_; (case hd => rfl); (case hg => rfl); (case hr => first | (go_simp; done) | (go_simp; rfl)); intro gb633 hg w4 hbox hb; have n0_ := aM (blk_below (g := gb632) (o := .cells #[.int .i64 a0_0, .int .i64 a0_1] 34 (0, 0)) (gQ BK632) hb); have n1_ := aM (pT (by repeat (first | (with_reducible first | exact HB.out | apply pA | apply pN | apply pD | refine pS ?_ GE632.out) | exact HB.out)) hb); have n2_ := aM (hbox); have n3_ := aM ((by rw [hg]; exact (pZ (by repeat (first | (with_reducible first | exact HB.out | apply pA | apply pN | apply pD | refine pS ?_ GE632.out) | exact HB.out))) : w.heap.size ≤ gb633)); have n4_ := aM ((by rw [hg]; exact (pZ (by repeat (first | (with_reducible first | exact HB.out | apply pA | apply pN | apply pD | refine pS ?_ GE632.out) | exact HB.out))) : w.heap.size ≤ gb633)); have n5_ := aM ((by rw [hg]; exact nN (blk_lt (g := gb632) (o := .cells #[.int .i64 a0_0, .int .i64 a0_1] 34 (0, 0)) (gQ BK632)) : gb632 ≠ gb633)); have n6_ := aM ((by rw [hg]; exact Nat.ne_of_gt (blk_lt (g := gb632) (o := .cells #[.int .i64 a0_0, .int .i64 a0_1] 34 (0, 0)) (gQ BK632)) : gb633 ≠ gb632)); clear BK632; clear HB; have BK632 := n0_; have HB := n1_; have BK633 := n2_; have GW633 := n3_; have GE633 := n4_; have NB632_633 := n5_; have NB633_632 := n6_; clear n0_ n1_ n2_ n3_ n4_ n5_ n6_; clear hb hbox hg; have hnb5 := NB632_633.out; have hnc5 := NB633_632.out; have hcz6_0 : w4.cell? ⟨gb632, 0, none⟩ = some (.int .i64 a0_0) := (kC BK632.out 0).trans rfl; have hcz6_1 : w4.cell? ⟨gb632, 1, none⟩ = some (.int .i64 a0_1) := (kC BK632.out 1).trans rfl; have hfz6_0 := kF BK632.out 0; have hfz6_1 := kF BK632.out 1; have hcz7_0 : w4.cell? ⟨gb633, 0, none⟩ = some (.int .i64 a1_0) := (kC BK633.out 0).trans rfl; have hcz7_1 : w4.cell? ⟨gb633, 1, none⟩ = some (.int .i64 a1_1) := (kC BK633.out 1).trans rfl; have hfz7_0 := kF BK633.out 0; have hfz7_1 := kF BK633.out 1))
 go_ret
 exact ⟨by first | rfl | (simp [errW_none, errW_some] <;> rfl) | (simp [*, errW_none, errW_some] <;> rfl), by repeat (first | (with_reducible first | exact HB.out | apply pA | apply pN | apply pD | refine pS ?_ GE632.out | refine pS ?_ GE633.out) | exact HB.out)⟩

def spec_trSides.f (l0 : List (S_impl_Peg)) : Option (List Int) := if 1 < (l0.length : Int) then (if 2 < (l0.length : Int) then ((spec_trSquare.f ((rd_impl_Peg l0 1).f0) ((rd_impl_Peg l0 1).f1) ((rd_impl_Peg l0 2).f0) ((rd_impl_Peg l0 2).f1)).bind fun t636 => (if 0 < (l0.length : Int) then ((spec_trSquare.f ((rd_impl_Peg l0 2).f0) ((rd_impl_Peg l0 2).f1) ((rd_impl_Peg l0 0).f0) ((rd_impl_Peg l0 0).f1)).bind fun t639 => ((spec_trSquare.f ((rd_impl_Peg l0 0).f0) ((rd_impl_Peg l0 0).f1) ((rd_impl_Peg l0 1).f0) ((rd_impl_Peg l0 1).f1)).bind fun t642 => (some (([t636, t639, t642] : List Int))))) else (none))) else (none)) else (none)
def spec_trSides.T1 : Bool × List (List Nat × List Nat) := (true, [([], []), ([0], [0]), ([1], [1]), ([], []), ([3], [3]), ([4], [4]), ([2, 5], [2, 5]), ([], []), ([7], [7]), ([8], [8]), ([], []), ([10], [10]), ([11], [11]), ([9, 12, 6], [9, 12]), ([], []), ([14], [14]), ([15], [15]), ([], []), ([17], [17]), ([18], [18]), ([16, 19, 13], [16, 19]), ([6, 13, 20], [6, 13, 20]), ([21, 20, 0, 1, 2, 3, 4, 5, 6, 7, 8, 9, 10, 11, 12, 13, 14, 15, 16, 17, 18, 19, 20, 21], [21])])
def spec_trSides.B1 : List Nat := [0, 1, 3, 0, 8, 24, 63, 0, 128, 384, 0, 1024, 3072, 8191, 0, 16384, 49152, 0, 131072, 393216, 1048575, 2097151, 4194303]
theorem spec_trSides.tab1 : rtab .any (opsOf Try.f105 1) = spec_trSides.T1 := by kernel_rfl
theorem spec_trSides.bits1 : waitsOk spec_trSides.T1.2 spec_trSides.B1 = true := by kernel_rfl
set_option maxHeartbeats 8000000 in
set_option maxRecDepth 100000 in
theorem spec_trSides.calls (A0 : Option Addr) (c0 : Nat) (l0 : List (S_impl_Peg)) (r : List Int) (w : World) (hr0 : Kd.C kd_impl_Peg w A0 l0.length l0) (hc0 : l0.length ≤ c0) (h : spec_trSides.f l0 = some r) :
  Calls Try.prog 105 #[.slice A0 l0.length c0] w fun e w' => ∃ v0_ : Value, e = .returned (v0_) ∧ Kd.R (Kd.int .i64) 3 w' w.heap.size (fun _ => True) v0_ r ∧ Below w.heap.size w w' := by
 have hu34 := Try.underlying34
 have HR0 := aM hr0
 have HC0 := aM hc0
 clear hr0 hc0
 have HB := aM (Below.refl w.heap.size w)
 have H : (if 1 < (l0.length : Int) then (if 2 < (l0.length : Int) then ((spec_trSquare.f ((rd_impl_Peg l0 1).f0) ((rd_impl_Peg l0 1).f1) ((rd_impl_Peg l0 2).f0) ((rd_impl_Peg l0 2).f1)).bind fun t636 => (if 0 < (l0.length : Int) then ((spec_trSquare.f ((rd_impl_Peg l0 2).f0) ((rd_impl_Peg l0 2).f1) ((rd_impl_Peg l0 0).f0) ((rd_impl_Peg l0 0).f1)).bind fun t639 => ((spec_trSquare.f ((rd_impl_Peg l0 0).f0) ((rd_impl_Peg l0 0).f1) ((rd_impl_Peg l0 1).f0) ((rd_impl_Peg l0 1).f1)).bind fun t642 => (some (([t636, t639, t642] : List Int))))) else (none))) else (none)) else (none)) = some r := h
 clear h
 by_cases c2 : 1 < (l0.length : Int)
 ·rw [if_pos c2] at H
  have c2b0 : decide (1 < (l0.length : Int)) = true := dE c2
  have c2b1 : decide (1 < l0.length) = true := dE (by omega)
  clear c2
  by_cases c3 : 2 < (l0.length : Int)
  ·rw [if_pos c3] at H
   have c3b0 : decide (2 < (l0.length : Int)) = true := dE c3
   have c3b1 : decide (2 < l0.length) = true := dE (by omega)
   clear c3
   replace H := oB.mp H
   obtain ⟨t636, A40, H⟩ := H
   replace H : (if 0 < (l0.length : Int) then ((spec_trSquare.f ((rd_impl_Peg l0 2).f0) ((rd_impl_Peg l0 2).f1) ((rd_impl_Peg l0 0).f0) ((rd_impl_Peg l0 0).f1)).bind fun t639 => ((spec_trSquare.f ((rd_impl_Peg l0 0).f0) ((rd_impl_Peg l0 0).f1) ((rd_impl_Peg l0 1).f0) ((rd_impl_Peg l0 1).f1)).bind fun t642 => (some (([t636, t639, t642] : List Int))))) else (none)) = some r := H
   have A4 := aM A40
   clear A40
   by_cases c5 : 0 < (l0.length : Int)
   ·rw [if_pos c5] at H
    have c5b0 : decide (0 < (l0.length : Int)) = true := dE c5
    have c5b1 : decide (0 < l0.length) = true := dE (by omega)
    clear c5
    replace H := oB.mp H
    obtain ⟨t639, A60, H⟩ := H
    replace H : ((spec_trSquare.f ((rd_impl_Peg l0 0).f0) ((rd_impl_Peg l0 0).f1) ((rd_impl_Peg l0 1).f0) ((rd_impl_Peg l0 1).f1)).bind fun t642 => (some (([t636, t639, t642] : List Int)))) = some r := H
    have A6 := aM A60
    clear A60
    replace H := oB.mp H
    obtain ⟨t642, A70, H⟩ := H
    replace H : (some (([t636, t639, t642] : List Int))) = some r := H
    have A7 := aM A70
    clear A70
    obtain ⟨y643, hy643⟩ : ∃ y_ : List Int, y_ = (([t636, t639, t642] : List Int)) := ⟨_, rfl⟩
    replace H : (some y643) = some r := by first | (rw [hy643]; with_reducible exact H) | (have H2_ := (Option.bind_some _ _).symm.trans H; rw [hy643]; with_reducible exact H2_) | (have H2_ := (Option.bind_some _ _).symm.trans H; with_reducible exact H2_) | with_reducible exact H | (rw [hy643]; exact H) | exact H
    have Ny643 := aM hy643
    clear hy643
    obtain rfl := Option.some.inj H
    go_enter Try.func105, Try.ntmps105
    try go_wp2
    have n0_ := aM (pD HB.out)
    clear HB
    have HB := n0_
    clear n0_
    have p634 : 0 ≤ (1 : Int) := (by omega)
    have q634 : 1 < (l0.length : Int) := dT aQ
    obtain ⟨ad634, e634, hx634_0, hx634_1⟩ := at_impl_Peg HR0.out 1 p634 q634
    have hw634_1 := hx634_1
    (try rw [show ((1 : Int)).toNat = 1 from rfl] at hw634_1)
    (try rw [show 1 * 2 = 2 from rfl] at hw634_1)
    (try simp only [Nat.reduceMul, Nat.reduceEqDiff, Go.Addr.add, ↓reduceIte] at hw634_1)
    have hw634_0 := hx634_0
    (try rw [show ((1 : Int)).toNat = 1 from rfl] at hw634_0)
    (try rw [show 1 * 2 = 2 from rfl] at hw634_0)
    (try simp only [Nat.reduceMul, Nat.reduceEqDiff, Go.Addr.add, ↓reduceIte] at hw634_0)
    cases e634
    (try simp only [show (1 : Int).toNat = 1 from rfl, Nat.reduceMul, Nat.reduceEqDiff, Go.Addr.add, ↓reduceIte] at hx634_0)
    (try simp only [show (1 : Int).toNat = 1 from rfl, Nat.reduceMul, Nat.reduceEqDiff, Go.Addr.add, ↓reduceIte] at hx634_1)
    have qi634 : (1 < l0.length) = True := eq_true (by omega)
    (try rw [show ((1 : Int)).toNat = 1 from rfl] at hx634_0)
    (try rw [show 1 * 2 = 2 from rfl] at hx634_0)
    (try rw [show ((1 : Int)).toNat = 1 from rfl] at hx634_1)
    (try rw [show 1 * 2 = 2 from rfl] at hx634_1)
    replace hx634_0 := (HB.out.cell (wB w _ hx634_0)).trans hx634_0
    replace hx634_1 := (HB.out.cell (wB w _ hx634_1)).trans hx634_1
    replace p634 := eq_true p634
    replace q634 := eq_true q634
    have p635 : 0 ≤ (2 : Int) := (by omega)
    have q635 : 2 < (l0.length : Int) := dT aQ
    obtain ⟨ad635, e635, hx635_0, hx635_1⟩ := at_impl_Peg HR0.out 2 p635 q635
    have hw635_1 := hx635_1
    (try rw [show ((2 : Int)).toNat = 2 from rfl] at hw635_1)
    (try rw [show 2 * 2 = 4 from rfl] at hw635_1)
    (try simp only [Nat.reduceMul, Nat.reduceEqDiff, Go.Addr.add, ↓reduceIte] at hw635_1)
    have hw635_0 := hx635_0
    (try rw [show ((2 : Int)).toNat = 2 from rfl] at hw635_0)
    (try rw [show 2 * 2 = 4 from rfl] at hw635_0)
    (try simp only [Nat.reduceMul, Nat.reduceEqDiff, Go.Addr.add, ↓reduceIte] at hw635_0)
    obtain rfl : ad634 = ad635 := (by injection e635)
    (try simp only [show (2 : Int).toNat = 2 from rfl, Nat.reduceMul, Nat.reduceEqDiff, Go.Addr.add, ↓reduceIte] at hx635_0)
    (try simp only [show (2 : Int).toNat = 2 from rfl, Nat.reduceMul, Nat.reduceEqDiff, Go.Addr.add, ↓reduceIte] at hx635_1)
    have qi635 : (2 < l0.length) = True := eq_true (by omega)
    (try rw [show ((2 : Int)).toNat = 2 from rfl] at hx635_0)
    (try rw [show 2 * 2 = 4 from rfl] at hx635_0)
    (try rw [show ((2 : Int)).toNat = 2 from rfl] at hx635_1)
    (try rw [show 2 * 2 = 4 from rfl] at hx635_1)
    replace hx635_0 := (HB.out.cell (wB w _ hx635_0)).trans hx635_0
    replace hx635_1 := (HB.out.cell (wB w _ hx635_1)).trans hx635_1
    replace p635 := eq_true p635
    replace q635 := eq_true q635
    have p637 : 0 ≤ (2 : Int) := (by omega)
    have q637 : 2 < (l0.length : Int) := dT aQ
    obtain ⟨ad637, e637, hx637_0, hx637_1⟩ := at_impl_Peg HR0.out 2 p637 q637
    have hw637_1 := hx637_1
    (try rw [show ((2 : Int)).toNat = 2 from rfl] at hw637_1)
    (try rw [show 2 * 2 = 4 from rfl] at hw637_1)
    (try simp only [Nat.reduceMul, Nat.reduceEqDiff, Go.Addr.add, ↓reduceIte] at hw637_1)
    have hw637_0 := hx637_0
    (try rw [show ((2 : Int)).toNat = 2 from rfl] at hw637_0)
    (try rw [show 2 * 2 = 4 from rfl] at hw637_0)
    (try simp only [Nat.reduceMul, Nat.reduceEqDiff, Go.Addr.add, ↓reduceIte] at hw637_0)
    obtain rfl : ad634 = ad637 := (by injection e637)
    (try simp only [show (2 : Int).toNat = 2 from rfl, Nat.reduceMul, Nat.reduceEqDiff, Go.Addr.add, ↓reduceIte] at hx637_0)
    (try simp only [show (2 : Int).toNat = 2 from rfl, Nat.reduceMul, Nat.reduceEqDiff, Go.Addr.add, ↓reduceIte] at hx637_1)
    have qi637 : (2 < l0.length) = True := eq_true (by omega)
    (try rw [show ((2 : Int)).toNat = 2 from rfl] at hx637_0)
    (try rw [show 2 * 2 = 4 from rfl] at hx637_0)
    (try rw [show ((2 : Int)).toNat = 2 from rfl] at hx637_1)
    (try rw [show 2 * 2 = 4 from rfl] at hx637_1)
    replace hx637_0 := (HB.out.cell (wB w _ hx637_0)).trans hx637_0
    replace hx637_1 := (HB.out.cell (wB w _ hx637_1)).trans hx637_1
    replace p637 := eq_true p637
    replace q637 := eq_true q637
    have p638 : 0 ≤ (0 : Int) := (by omega)
    have q638 : 0 < (l0.length : Int) := dT aQ
    obtain ⟨ad638, e638, hx638_0, hx638_1⟩ := at_impl_Peg HR0.out 0 p638 q638
    have hw638_1 := hx638_1
    (try rw [show ((0 : Int)).toNat = 0 from rfl] at hw638_1)
    (try rw [show 0 * 2 = 0 from rfl] at hw638_1)
    (try rw [Addr.add_zero'] at hw638_1)
    have hw638_0 := hx638_0
    (try rw [show ((0 : Int)).toNat = 0 from rfl] at hw638_0)
    (try rw [show 0 * 2 = 0 from rfl] at hw638_0)
    (try rw [Addr.add_zero'] at hw638_0)
    obtain rfl : ad634 = ad638 := (by injection e638)
    have qi638 : (0 < l0.length) = True := eq_true (by omega)
    (try rw [show ((0 : Int)).toNat = 0 from rfl] at hx638_0)
    (try rw [show 0 * 2 = 0 from rfl] at hx638_0)
    (try rw [Addr.add_zero'] at hx638_0)
    (try rw [show ((0 : Int)).toNat = 0 from rfl] at hx638_1)
    (try rw [show 0 * 2 = 0 from rfl] at hx638_1)
    (try rw [Addr.add_zero'] at hx638_1)
    replace hx638_0 := (HB.out.cell (wB w _ hx638_0)).trans hx638_0
    replace hx638_1 := (HB.out.cell (wB w _ hx638_1)).trans hx638_1
    replace p638 := eq_true p638
    replace q638 := eq_true q638
    have p640 : 0 ≤ (0 : Int) := (by omega)
    have q640 : 0 < (l0.length : Int) := dT aQ
    obtain ⟨ad640, e640, hx640_0, hx640_1⟩ := at_impl_Peg HR0.out 0 p640 q640
    have hw640_1 := hx640_1
    (try rw [show ((0 : Int)).toNat = 0 from rfl] at hw640_1)
    (try rw [show 0 * 2 = 0 from rfl] at hw640_1)
    (try rw [Addr.add_zero'] at hw640_1)
    have hw640_0 := hx640_0
    (try rw [show ((0 : Int)).toNat = 0 from rfl] at hw640_0)
    (try rw [show 0 * 2 = 0 from rfl] at hw640_0)
    (try rw [Addr.add_zero'] at hw640_0)
    obtain rfl : ad634 = ad640 := (by injection e640)
    have qi640 : (0 < l0.length) = True := eq_true (by omega)
    (try rw [show ((0 : Int)).toNat = 0 from rfl] at hx640_0)
    (try rw [show 0 * 2 = 0 from rfl] at hx640_0)
    (try rw [Addr.add_zero'] at hx640_0)
    (try rw [show ((0 : Int)).toNat = 0 from rfl] at hx640_1)
    (try rw [show 0 * 2 = 0 from rfl] at hx640_1)
    (try rw [Addr.add_zero'] at hx640_1)
    replace hx640_0 := (HB.out.cell (wB w _ hx640_0)).trans hx640_0
    replace hx640_1 := (HB.out.cell (wB w _ hx640_1)).trans hx640_1
    replace p640 := eq_true p640
    replace q640 := eq_true q640
    have p641 : 0 ≤ (1 : Int) := (by omega)
    have q641 : 1 < (l0.length : Int) := dT aQ
    obtain ⟨ad641, e641, hx641_0, hx641_1⟩ := at_impl_Peg HR0.out 1 p641 q641
    have hw641_1 := hx641_1
    (try rw [show ((1 : Int)).toNat = 1 from rfl] at hw641_1)
    (try rw [show 1 * 2 = 2 from rfl] at hw641_1)
    (try simp only [Nat.reduceMul, Nat.reduceEqDiff, Go.Addr.add, ↓reduceIte] at hw641_1)
    have hw641_0 := hx641_0
    (try rw [show ((1 : Int)).toNat = 1 from rfl] at hw641_0)
    (try rw [show 1 * 2 = 2 from rfl] at hw641_0)
    (try simp only [Nat.reduceMul, Nat.reduceEqDiff, Go.Addr.add, ↓reduceIte] at hw641_0)
    obtain rfl : ad634 = ad641 := (by injection e641)
    (try simp only [show (1 : Int).toNat = 1 from rfl, Nat.reduceMul, Nat.reduceEqDiff, Go.Addr.add, ↓reduceIte] at hx641_0)
    (try simp only [show (1 : Int).toNat = 1 from rfl, Nat.reduceMul, Nat.reduceEqDiff, Go.Addr.add, ↓reduceIte] at hx641_1)
    have qi641 : (1 < l0.length) = True := eq_true (by omega)
    (try rw [show ((1 : Int)).toNat = 1 from rfl] at hx641_0)
    (try rw [show 1 * 2 = 2 from rfl] at hx641_0)
    (try rw [show ((1 : Int)).toNat = 1 from rfl] at hx641_1)
    (try rw [show 1 * 2 = 2 from rfl] at hx641_1)
    replace hx641_0 := (HB.out.cell (wB w _ hx641_0)).trans hx641_0
    replace hx641_1 := (HB.out.cell (wB w _ hx641_1)).trans hx641_1
    replace p641 := eq_true p641
    replace q641 := eq_true q641
    refine start_ (n := 23) (S := fun w' => w'.cell? ⟨ad634.block, ad634.off + 2, none⟩ = some (.int .i64 ((rd_impl_Peg l0 1).f0)) ∧ w'.cell? ⟨ad634.block, ad634.off + 2 + 1, none⟩ = some (.int .i64 ((rd_impl_Peg l0 1).f1)) ∧ w'.cell? ⟨ad634.block, ad634.off + 4, none⟩ = some (.int .i64 ((rd_impl_Peg l0 2).f0)) ∧ w'.cell? ⟨ad634.block, ad634.off + 4 + 1, none⟩ = some (.int .i64 ((rd_impl_Peg l0 2).f1)) ∧ w'.cell? ⟨ad634.block, ad634.off + 4, none⟩ = some (.int .i64 ((rd_impl_Peg l0 2).f0)) ∧ w'.cell? ⟨ad634.block, ad634.off + 4 + 1, none⟩ = some (.int .i64 ((rd_impl_Peg l0 2).f1)) ∧ w'.cell? ad634 = some (.int .i64 ((rd_impl_Peg l0 0).f0)) ∧ w'.cell? ⟨ad634.block, ad634.off + 1, none⟩ = some (.int .i64 ((rd_impl_Peg l0 0).f1)) ∧ w'.cell? ad634 = some (.int .i64 ((rd_impl_Peg l0 0).f0)) ∧ w'.cell? ⟨ad634.block, ad634.off + 1, none⟩ = some (.int .i64 ((rd_impl_Peg l0 0).f1)) ∧ w'.cell? ⟨ad634.block, ad634.off + 2, none⟩ = some (.int .i64 ((rd_impl_Peg l0 1).f0)) ∧ w'.cell? ⟨ad634.block, ad634.off + 2 + 1, none⟩ = some (.int .i64 ((rd_impl_Peg l0 1).f1))) (ds := []) #[false, false, false, false, false, false, false, false, false, false, false, false, false, false, false, false, false, false, false, false, false, false, false] kR rfl rfl ⟨((HB.out.cell (wB w _ hw634_0)).trans hw634_0), ((HB.out.cell (wB w _ hw634_1)).trans hw634_1), ((HB.out.cell (wB w _ hw635_0)).trans hw635_0), ((HB.out.cell (wB w _ hw635_1)).trans hw635_1), ((HB.out.cell (wB w _ hw637_0)).trans hw637_0), ((HB.out.cell (wB w _ hw637_1)).trans hw637_1), ((HB.out.cell (wB w _ hw638_0)).trans hw638_0), ((HB.out.cell (wB w _ hw638_1)).trans hw638_1), ((HB.out.cell (wB w _ hw640_0)).trans hw640_0), ((HB.out.cell (wB w _ hw640_1)).trans hw640_1), ((HB.out.cell (wB w _ hw641_0)).trans hw641_0), ((HB.out.cell (wB w _ hw641_1)).trans hw641_1)⟩ (fun hHeld => ?_); refine with_tabW spec_trSides.tab1 spec_trSides.bits1 (fun HT_ HW_ => ?_)
    generalize w.drew = w8 at HB hx634_0 hx634_1 hx635_0 hx635_1 hx637_0 hx637_1 hx638_0 hx638_1 hx640_0 hx640_1 hx641_0 hx641_1 hHeld ⊢
    refine pure_ (i := 0) (N := some 3) (v := ?_) (a' := ?_) #[true, false, false, false, false, false, false, false, false, false, false, false, false, false, false, false, false, false, false, false, false, false, false] rfl rfl (any_of HT_.out kR) (fun _ _ _ h => h) (Or.inl ⟨by rfl, ?_⟩) ?_ ?_
    rotate_left
    ·intro w'
     go_simp
     with_reducible rfl
    rotate_left
    ·simp only [Act.put, sI, sZ, sS, i64_w, i32_w]
     rfl
    refine pure_ (i := 1) (N := some 4) (v := ?_) (a' := ?_) #[true, true, false, false, false, false, false, false, false, false, false, false, false, false, false, false, false, false, false, false, false, false, false] rfl rfl (any_of HT_.out kR) (fun _ _ _ h => h) (Or.inl ⟨by rfl, ?_⟩) ?_ ?_
    rotate_left
    ·intro w'
     go_simp
     with_reducible rfl
    rotate_left
    ·simp only [Act.put, sI, sZ, sS, i64_w, i32_w]
     rfl
    refine pure_ (i := 3) (N := some 6) (v := ?_) (a' := ?_) #[true, true, false, true, false, false, false, false, false, false, false, false, false, false, false, false, false, false, false, false, false, false, false] rfl rfl (any_of HT_.out kR) (fun _ _ _ h => h) (Or.inl ⟨by rfl, ?_⟩) ?_ ?_
    rotate_left
    ·intro w'
     go_simp
     with_reducible rfl
    rotate_left
    ·simp only [Act.put, sI, sZ, sS, i64_w, i32_w]
     rfl
    refine pure_ (i := 4) (N := some 7) (v := ?_) (a' := ?_) #[true, true, false, true, true, false, false, false, false, false, false, false, false, false, false, false, false, false, false, false, false, false, false] rfl rfl (any_of HT_.out kR) (fun _ _ _ h => h) (Or.inl ⟨by rfl, ?_⟩) ?_ ?_
    rotate_left
    ·intro w'
     go_simp
     with_reducible rfl
    rotate_left
    ·simp only [Act.put, sI, sZ, sS, i64_w, i32_w]
     rfl
    refine pure_ (i := 7) (N := some 10) (v := ?_) (a' := ?_) #[true, true, false, true, true, false, false, true, false, false, false, false, false, false, false, false, false, false, false, false, false, false, false] rfl rfl (any_of HT_.out kR) (fun _ _ _ h => h) (Or.inl ⟨by rfl, ?_⟩) ?_ ?_
    rotate_left
    ·intro w'
     go_simp
     with_reducible rfl
    rotate_left
    ·simp only [Act.put, sI, sZ, sS, i64_w, i32_w]
     rfl
    refine pure_ (i := 8) (N := some 11) (v := ?_) (a' := ?_) #[true, true, false, true, true, false, false, true, true, false, false, false, false, false, false, false, false, false, false, false, false, false, false] rfl rfl (any_of HT_.out kR) (fun _ _ _ h => h) (Or.inl ⟨by rfl, ?_⟩) ?_ ?_
    rotate_left
    ·intro w'
     go_simp
     with_reducible rfl
    rotate_left
    ·simp only [Act.put, sI, sZ, sS, i64_w, i32_w]
     rfl
    refine pure_ (i := 10) (N := some 13) (v := ?_) (a' := ?_) #[true, true, false, true, true, false, false, true, true, false, true, false, false, false, false, false, false, false, false, false, false, false, false] rfl rfl (any_of HT_.out kR) (fun _ _ _ h => h) (Or.inl ⟨by rfl, ?_⟩) ?_ ?_
    rotate_left
    ·intro w'
     go_simp
     with_reducible rfl
    rotate_left
    ·simp only [Act.put, sI, sZ, sS, i64_w, i32_w]
     rfl
    refine pure_ (i := 11) (N := some 14) (v := ?_) (a' := ?_) #[true, true, false, true, true, false, false, true, true, false, true, true, false, false, false, false, false, false, false, false, false, false, false] rfl rfl (any_of HT_.out kR) (fun _ _ _ h => h) (Or.inl ⟨by rfl, ?_⟩) ?_ ?_
    rotate_left
    ·intro w'
     go_simp
     with_reducible rfl
    rotate_left
    ·simp only [Act.put, sI, sZ, sS, i64_w, i32_w]
     rfl
    refine pure_ (i := 14) (N := some 17) (v := ?_) (a' := ?_) #[true, true, false, true, true, false, false, true, true, false, true, true, false, false, true, false, false, false, false, false, false, false, false] rfl rfl (any_of HT_.out kR) (fun _ _ _ h => h) (Or.inl ⟨by rfl, ?_⟩) ?_ ?_
    rotate_left
    ·intro w'
     go_simp
     with_reducible rfl
    rotate_left
    ·simp only [Act.put, sI, sZ, sS, i64_w, i32_w]
     rfl
    refine pure_ (i := 15) (N := some 18) (v := ?_) (a' := ?_) #[true, true, false, true, true, false, false, true, true, false, true, true, false, false, true, true, false, false, false, false, false, false, false] rfl rfl (any_of HT_.out kR) (fun _ _ _ h => h) (Or.inl ⟨by rfl, ?_⟩) ?_ ?_
    rotate_left
    ·intro w'
     go_simp
     with_reducible rfl
    rotate_left
    ·simp only [Act.put, sI, sZ, sS, i64_w, i32_w]
     rfl
    refine pure_ (i := 17) (N := some 20) (v := ?_) (a' := ?_) #[true, true, false, true, true, false, false, true, true, false, true, true, false, false, true, true, false, true, false, false, false, false, false] rfl rfl (any_of HT_.out kR) (fun _ _ _ h => h) (Or.inl ⟨by rfl, ?_⟩) ?_ ?_
    rotate_left
    ·intro w'
     go_simp
     with_reducible rfl
    rotate_left
    ·simp only [Act.put, sI, sZ, sS, i64_w, i32_w]
     rfl
    refine pure_ (i := 18) (N := some 21) (v := ?_) (a' := ?_) #[true, true, false, true, true, false, false, true, true, false, true, true, false, false, true, true, false, true, true, false, false, false, false] rfl rfl (any_of HT_.out kR) (fun _ _ _ h => h) (Or.inl ⟨by rfl, ?_⟩) ?_ ?_
    rotate_left
    ·intro w'
     go_simp
     with_reducible rfl
    rotate_left
    ·simp only [Act.put, sI, sZ, sS, i64_w, i32_w]
     rfl
    refine take_ (i := 2) (N := some 5) (v := ?_) (a' := ?_) #[true, true, true, true, true, false, false, true, true, false, true, true, false, false, true, true, false, true, true, false, false, false, false] rfl rfl (take_ofW HT_.out HW_.out kR) (fun _ _ _ h => h) (Or.inl ⟨by rfl, ?_⟩) hHeld ?_ ?_
    rotate_left
    ·rintro w' ⟨s0, s1, s2, s3, s4, s5, s6, s7, s8, s9, s10, s11⟩
     go_simp
     with_reducible rfl
    rotate_left
    ·simp only [Act.put, sI, sZ, sS, i64_w, i32_w]
     rfl
    refine take_ (i := 5) (N := some 8) (v := ?_) (a' := ?_) #[true, true, true, true, true, true, false, true, true, false, true, true, false, false, true, true, false, true, true, false, false, false, false] rfl rfl (take_ofW HT_.out HW_.out kR) (fun _ _ _ h => h) (Or.inl ⟨by rfl, ?_⟩) hHeld ?_ ?_
    rotate_left
    ·rintro w' ⟨s0, s1, s2, s3, s4, s5, s6, s7, s8, s9, s10, s11⟩
     go_simp
     with_reducible rfl
    rotate_left
    ·simp only [Act.put, sI, sZ, sS, i64_w, i32_w]
     rfl
    refine take_ (i := 9) (N := some 12) (v := ?_) (a' := ?_) #[true, true, true, true, true, true, false, true, true, true, true, true, false, false, true, true, false, true, true, false, false, false, false] rfl rfl (take_ofW HT_.out HW_.out kR) (fun _ _ _ h => h) (Or.inl ⟨by rfl, ?_⟩) hHeld ?_ ?_
    rotate_left
    ·rintro w' ⟨s0, s1, s2, s3, s4, s5, s6, s7, s8, s9, s10, s11⟩
     go_simp
     with_reducible rfl
    rotate_left
    ·simp only [Act.put, sI, sZ, sS, i64_w, i32_w]
     rfl
    refine take_ (i := 12) (N := some 15) (v := ?_) (a' := ?_) #[true, true, true, true, true, true, false, true, true, true, true, true, true, false, true, true, false, true, true, false, false, false, false] rfl rfl (take_ofW HT_.out HW_.out kR) (fun _ _ _ h => h) (Or.inl ⟨by rfl, ?_⟩) hHeld ?_ ?_
    rotate_left
    ·rintro w' ⟨s0, s1, s2, s3, s4, s5, s6, s7, s8, s9, s10, s11⟩
     go_simp
     with_reducible rfl
    rotate_left
    ·simp only [Act.put, sI, sZ, sS, i64_w, i32_w]
     rfl
    refine take_ (i := 16) (N := some 19) (v := ?_) (a' := ?_) #[true, true, true, true, true, true, false, true, true, true, true, true, true, false, true, true, true, true, true, false, false, false, false] rfl rfl (take_ofW HT_.out HW_.out kR) (fun _ _ _ h => h) (Or.inl ⟨by rfl, ?_⟩) hHeld ?_ ?_
    rotate_left
    ·rintro w' ⟨s0, s1, s2, s3, s4, s5, s6, s7, s8, s9, s10, s11⟩
     go_simp
     with_reducible rfl
    rotate_left
    ·simp only [Act.put, sI, sZ, sS, i64_w, i32_w]
     rfl
    refine take_ (i := 19) (N := some 22) (v := ?_) (a' := ?_) #[true, true, true, true, true, true, false, true, true, true, true, true, true, false, true, true, true, true, true, true, false, false, false] rfl rfl (take_ofW HT_.out HW_.out kR) (fun _ _ _ h => h) (Or.inl ⟨by rfl, ?_⟩) hHeld ?_ ?_
    rotate_left
    ·rintro w' ⟨s0, s1, s2, s3, s4, s5, s6, s7, s8, s9, s10, s11⟩
     go_simp
     with_reducible rfl
    rotate_left
    ·simp only [Act.put, sI, sZ, sS, i64_w, i32_w]
     rfl
    refine one_ (i := 6) (N := some 9) #[true, true, true, true, true, true, true, true, true, true, true, true, true, false, true, true, true, true, true, true, false, false, false] rfl rfl (one_of HT_.out kR) (by decide) (fun K hK => ?_)
    refine goes_ Try.func144 kR rfl #[.agg #[.int .i64 ((rd_impl_Peg l0 1).f0), .int .i64 ((rd_impl_Peg l0 1).f1)], .agg #[.int .i64 ((rd_impl_Peg l0 2).f0), .int .i64 ((rd_impl_Peg l0 2).f1)]] (by rfl) rfl rfl sQ ?_
    with_reducible refine (spec_trSquare.calls ((rd_impl_Peg l0 1).f0) ((rd_impl_Peg l0 1).f1) ((rd_impl_Peg l0 2).f0) ((rd_impl_Peg l0 2).f1) t636 _ A4.out).mono ?_
    rintro e w9 ⟨rfl, hb⟩
    refine ⟨_, rfl, ?_⟩
    have n0_ := aM (pT bQ hb)
    clear HB
    have HB := n0_
    clear n0_
    (try clear hb)
    (try clear hb2)
    (try clear hk)
    (try clear hi)
    refine hK.out _ _ ⟨((HB.out.cell (wB w _ hw634_0)).trans hw634_0), ((HB.out.cell (wB w _ hw634_1)).trans hw634_1), ((HB.out.cell (wB w _ hw635_0)).trans hw635_0), ((HB.out.cell (wB w _ hw635_1)).trans hw635_1), ((HB.out.cell (wB w _ hw637_0)).trans hw637_0), ((HB.out.cell (wB w _ hw637_1)).trans hw637_1), ((HB.out.cell (wB w _ hw638_0)).trans hw638_0), ((HB.out.cell (wB w _ hw638_1)).trans hw638_1), ((HB.out.cell (wB w _ hw640_0)).trans hw640_0), ((HB.out.cell (wB w _ hw640_1)).trans hw640_1), ((HB.out.cell (wB w _ hw641_0)).trans hw641_0), ((HB.out.cell (wB w _ hw641_1)).trans hw641_1)⟩ (fun hHeld => ?_)
    clear hK K
    refine norm_ (a' := ?_) ?_ ?_
    rotate_left
    ·show Act.put _ (some 9) _ = _
     simp only [Act.put, sI, sZ, sS, i64_w, i32_w]
     rfl
    refine one_ (i := 13) (N := some 16) #[true, true, true, true, true, true, true, true, true, true, true, true, true, true, true, true, true, true, true, true, false, false, false] rfl rfl (one_of HT_.out kR) (by decide) (fun K hK => ?_)
    refine goes_ Try.func144 kR rfl #[.agg #[.int .i64 ((rd_impl_Peg l0 2).f0), .int .i64 ((rd_impl_Peg l0 2).f1)], .agg #[.int .i64 ((rd_impl_Peg l0 0).f0), .int .i64 ((rd_impl_Peg l0 0).f1)]] (by rfl) rfl rfl sQ ?_
    with_reducible refine (spec_trSquare.calls ((rd_impl_Peg l0 2).f0) ((rd_impl_Peg l0 2).f1) ((rd_impl_Peg l0 0).f0) ((rd_impl_Peg l0 0).f1) t639 _ A6.out).mono ?_
    rintro e w10 ⟨rfl, hb⟩
    refine ⟨_, rfl, ?_⟩
    have n0_ := aM (pT bQ hb)
    clear HB
    have HB := n0_
    clear n0_
    (try clear hb)
    (try clear hb2)
    (try clear hk)
    (try clear hi)
    refine hK.out _ _ ⟨((HB.out.cell (wB w _ hw634_0)).trans hw634_0), ((HB.out.cell (wB w _ hw634_1)).trans hw634_1), ((HB.out.cell (wB w _ hw635_0)).trans hw635_0), ((HB.out.cell (wB w _ hw635_1)).trans hw635_1), ((HB.out.cell (wB w _ hw637_0)).trans hw637_0), ((HB.out.cell (wB w _ hw637_1)).trans hw637_1), ((HB.out.cell (wB w _ hw638_0)).trans hw638_0), ((HB.out.cell (wB w _ hw638_1)).trans hw638_1), ((HB.out.cell (wB w _ hw640_0)).trans hw640_0), ((HB.out.cell (wB w _ hw640_1)).trans hw640_1), ((HB.out.cell (wB w _ hw641_0)).trans hw641_0), ((HB.out.cell (wB w _ hw641_1)).trans hw641_1)⟩ (fun hHeld => ?_)
    clear hK K
    refine norm_ (a' := ?_) ?_ ?_
    rotate_left
    ·show Act.put _ (some 16) _ = _
     simp only [Act.put, sI, sZ, sS, i64_w, i32_w]
     rfl
    refine one_ (i := 20) (N := some 23) #[true, true, true, true, true, true, true, true, true, true, true, true, true, true, true, true, true, true, true, true, true, false, false] rfl rfl (one_of HT_.out kR) (by decide) (fun K hK => ?_)
    refine goes_ Try.func144 kR rfl #[.agg #[.int .i64 ((rd_impl_Peg l0 0).f0), .int .i64 ((rd_impl_Peg l0 0).f1)], .agg #[.int .i64 ((rd_impl_Peg l0 1).f0), .int .i64 ((rd_impl_Peg l0 1).f1)]] (by rfl) rfl rfl sQ ?_
    with_reducible refine (spec_trSquare.calls ((rd_impl_Peg l0 0).f0) ((rd_impl_Peg l0 0).f1) ((rd_impl_Peg l0 1).f0) ((rd_impl_Peg l0 1).f1) t642 _ A7.out).mono ?_
    rintro e w11 ⟨rfl, hb⟩
    refine ⟨_, rfl, ?_⟩
    have n0_ := aM (pT bQ hb)
    clear HB
    have HB := n0_
    clear n0_
    (try clear hb)
    (try clear hb2)
    (try clear hk)
    (try clear hi)
    refine hK.out _ _ ⟨((HB.out.cell (wB w _ hw634_0)).trans hw634_0), ((HB.out.cell (wB w _ hw634_1)).trans hw634_1), ((HB.out.cell (wB w _ hw635_0)).trans hw635_0), ((HB.out.cell (wB w _ hw635_1)).trans hw635_1), ((HB.out.cell (wB w _ hw637_0)).trans hw637_0), ((HB.out.cell (wB w _ hw637_1)).trans hw637_1), ((HB.out.cell (wB w _ hw638_0)).trans hw638_0), ((HB.out.cell (wB w _ hw638_1)).trans hw638_1), ((HB.out.cell (wB w _ hw640_0)).trans hw640_0), ((HB.out.cell (wB w _ hw640_1)).trans hw640_1), ((HB.out.cell (wB w _ hw641_0)).trans hw641_0), ((HB.out.cell (wB w _ hw641_1)).trans hw641_1)⟩ (fun hHeld => ?_)
    clear hK K
    refine norm_ (a' := ?_) ?_ ?_
    rotate_left
    ·show Act.put _ (some 23) _ = _
     simp only [Act.put, sI, sZ, sS, i64_w, i32_w]
     rfl
    refine one_ (i := 21) (N := some 24) #[true, true, true, true, true, true, true, true, true, true, true, true, true, true, true, true, true, true, true, true, true, true, false] rfl rfl (one_of HT_.out kR) (by decide) (fun K hK => ?_)
    refine Kd.R_lit_step (Kd.int .i64) _ 3 ?hg (N := 24) ?hd (xs := ([t636, t639, t642] : List Int)) (inner := [.int .i64 t636, .int .i64 t639, .int .i64 t642]) (ok := fun _ => True) (okp := fun _ => True) ?hr ?hp (fun _ hk => hk) trivial (Below.refl _ _) (Nat.le_refl _) (by simp) ?_; (case hd => rfl); (case hg => rfl); (case hr => first | (go_simp; done) | (go_simp; rfl)); (case hp => exact (Reps.one (show Kd.M (Kd.int .i64) _ _ _ t636 [.int .i64 t636] from rfl) (Reps.one (show Kd.M (Kd.int .i64) _ _ _ t639 [.int .i64 t639] from rfl) (Reps.one (show Kd.M (Kd.int .i64) _ _ _ t642 [.int .i64 t642] from rfl) (Reps.none _ _)))))
    intro v644 w12 ho13 hb hg_ hnew_
    clear hg_ hnew_
    (first | rw [← Ny643.out] at ho13 | (simp only [Int.reduceToNat] at ho13; rw [← Ny643.out] at ho13))
    have n0_ := aM (Kd.R_lower ho13 (pZ bQ))
    have n1_ := aM (pT bQ hb)
    clear HB
    have HO645 := n0_
    have HB := n1_
    clear n0_ n1_
    clear hb ho13
    refine hK.out _ _ ⟨((HB.out.cell (wB w _ hw634_0)).trans hw634_0), ((HB.out.cell (wB w _ hw634_1)).trans hw634_1), ((HB.out.cell (wB w _ hw635_0)).trans hw635_0), ((HB.out.cell (wB w _ hw635_1)).trans hw635_1), ((HB.out.cell (wB w _ hw637_0)).trans hw637_0), ((HB.out.cell (wB w _ hw637_1)).trans hw637_1), ((HB.out.cell (wB w _ hw638_0)).trans hw638_0), ((HB.out.cell (wB w _ hw638_1)).trans hw638_1), ((HB.out.cell (wB w _ hw640_0)).trans hw640_0), ((HB.out.cell (wB w _ hw640_1)).trans hw640_1), ((HB.out.cell (wB w _ hw641_0)).trans hw641_0), ((HB.out.cell (wB w _ hw641_1)).trans hw641_1)⟩ (fun hHeld => ?_)
    clear hK K
    refine norm_ (a' := ?_) ?_ ?_
    rotate_left
    ·show Act.put _ (some 24) _ = _
     simp only [Act.put, sI, sZ, sS, i64_w, i32_w]
     rfl
    refine pure_ (i := 22) (N := some 2) (v := ?_) (a' := ?_) #[true, true, true, true, true, true, true, true, true, true, true, true, true, true, true, true, true, true, true, true, true, true, true] rfl rfl (any_of HT_.out kR) (fun _ _ _ h => h) (Or.inl ⟨by rfl, ?_⟩) ?_ ?_
    rotate_left
    ·intro w'
     go_simp
     with_reducible rfl
    rotate_left
    ·simp only [Act.put, sI, sZ, sS, i64_w, i32_w]
     rfl
    refine done_ (done_of HT_.out kR) ?_
    try go_wp2
    go_ret
    exact ⟨_, by first | rfl | (simp [errW_none, errW_some] <;> rfl) | (simp [*, errW_none, errW_some] <;> rfl), by (with_reducible repeat (first | apply rA | apply rN | apply rD)); exact HO645.out, bQ⟩
   ·rw [if_neg c5] at H
    exact absurd H (by simp)
  ·rw [if_neg c3] at H
   exact absurd H (by simp)
 ·rw [if_neg c2] at H
  exact absurd H (by simp)

def spec_SidesOfThree.f (k : Nat) (l0 : List (S_impl_Peg)) : Option (List Int × Bool) := (spec_trThree.f k l0).bind fun t646 => (if t646 = true then ((spec_trSides.f l0).bind fun t647 => (some (t647, true))) else (some (([] : List Int), false)))
theorem spec_SidesOfThree.mono : ∀ a0 k, LeO (spec_SidesOfThree.f k a0) (spec_SidesOfThree.f (k + 1) a0) := by
 intro a0 k
 unfold spec_SidesOfThree.f
 repeat' first
   | (with_reducible exact spec_trThree.mono _ _)
   | (with_reducible exact LeO.refl _)
   | (with_reducible exact LeO.none _)
   | (with_reducible refine LeO.ite ?_ ?_)
   | (with_reducible refine LeO.bind ?_ (fun _ => ?_))
   | exact spec_trThree.mono _ _
   | exact LeO.none _
   | refine LeO.ite ?_ ?_
   | refine LeO.bind ?_ (fun _ => ?_)
set_option maxHeartbeats 8000000 in
set_option maxRecDepth 100000 in
theorem spec_SidesOfThree.calls (k : Nat) (A0 : Option Addr) (c0 : Nat) (l0 : List (S_impl_Peg)) (r1 : List Int) (r2 : Bool) (w : World) (hr0 : Kd.C kd_impl_Peg w A0 l0.length l0) (hc0 : l0.length ≤ c0) (h : spec_SidesOfThree.f k l0 = some (r1, r2)) :
  Calls Try.prog 50 #[.slice A0 l0.length c0] w fun e w' => ∃ v0_ : Value, e = .returned (.tuple #[v0_, .bool r2]) ∧ Kd.R (Kd.int .i64) 3 w' w.heap.size (fun _ => True) v0_ r1 ∧ Below w.heap.size w w' := by
 have HR0 := aM hr0
 have HC0 := aM hc0
 clear hr0 hc0
 have HB := aM (Below.refl w.heap.size w)
 have H : ((spec_trThree.f k l0).bind fun t646 => (if t646 = true then ((spec_trSides.f l0).bind fun t647 => (some (t647, true))) else (some (([] : List Int), false)))) = some (r1, r2) := h
 clear h
 replace H := oB.mp H
 obtain ⟨t646, A20, H⟩ := H
 replace H : (if t646 = true then ((spec_trSides.f l0).bind fun t647 => (some (t647, true))) else (some (([] : List Int), false))) = some (r1, r2) := H
 have A2 := aM A20
 clear A20
 by_cases c3 : t646 = true
 ·subst c3
  have H1 : ((spec_trSides.f l0).bind fun t647 => (some (t647, true))) = some (r1, r2) := by rw [if_pos rfl] at H; exact H
  clear H
  have H := H1
  clear H1
  replace H := oB.mp H
  obtain ⟨t647, A40, H⟩ := H
  replace H : (some (t647, true)) = some (r1, r2) := H
  have A4 := aM A40
  clear A40
  simp only [Option.some.injEq, Prod.mk.injEq] at H
  obtain ⟨rfl, rfl⟩ := H
  go_enter Try.func50, Try.ntmps50
  go_wp2_with (first | ((with_reducible refine gC (f := 95) rfl ?_); refine goesL_ (some 5) rfl rfl Try.func95 kR rfl #[.slice A0 l0.length c0] rfl sQ ?_; (with_reducible refine (spec_trThree.calls k _ _ l0 true _ ?side1 ?side2 A2.out).mono ?_); (case side1 => repeat (first | exact HR0.out | (with_reducible refine cA ?_ _) | (with_reducible refine cN ?_ _) | (with_reducible refine cD ?_))); (case side2 => exact HC0.out); rintro e w5 ⟨rfl, hb⟩; refine ⟨_, rfl, ?_⟩; have n0_ := aM (pT bQ hb); clear HB; have HB := n0_; clear n0_; (try clear hb); (try clear hb2); (try clear hk); (try clear hi)) | ((with_reducible refine gC (f := 105) rfl ?_); refine goesL_ (some 8) rfl rfl Try.func105 kR rfl #[.slice A0 l0.length c0] rfl sQ ?_; (with_reducible refine (spec_trSides.calls _ _ l0 t647 _ ?side1 ?side2 A4.out).mono ?_); (case side1 => repeat (first | exact (Kd.C_below HR0.out HB.out) | (with_reducible refine cA ?_ _) | (with_reducible refine cN ?_ _) | (with_reducible refine cD ?_))); (case side2 => exact HC0.out); rintro e w6 ⟨v648, rfl, ho0, hb⟩; refine ⟨_, rfl, ?_⟩; have n0_ := aM (Kd.R_lower ho0 (pZ bQ)); have n1_ := aM (pT bQ hb); clear HB; have HO649 := n0_; have HB := n1_; clear n0_ n1_; (try clear hb); (try clear hb2); (try clear hk); (try clear hi); (try clear ho0)))
  go_ret2
  exact ⟨_, by first | rfl | (simp [errW_none, errW_some] <;> rfl) | (simp [*, errW_none, errW_some] <;> rfl), by (with_reducible repeat (first | apply rA | apply rN | apply rD)); exact HO649.out, bQ⟩
 ·replace c3 := Bool.eq_false_iff.mpr c3
  subst c3
  have H1 : (some (([] : List Int), false)) = some (r1, r2) := by rw [if_neg (show ¬ (false = true) by decide)] at H; exact H
  clear H
  have H := H1
  clear H1
  simp only [Option.some.injEq, Prod.mk.injEq] at H
  obtain ⟨rfl, rfl⟩ := H
  go_enter Try.func50, Try.ntmps50
  go_wp2_with (first | ((with_reducible refine gC (f := 95) rfl ?_); refine goesL_ (some 5) rfl rfl Try.func95 kR rfl #[.slice A0 l0.length c0] rfl sQ ?_; (with_reducible refine (spec_trThree.calls k _ _ l0 false _ ?side1 ?side2 A2.out).mono ?_); (case side1 => repeat (first | exact HR0.out | (with_reducible refine cA ?_ _) | (with_reducible refine cN ?_ _) | (with_reducible refine cD ?_))); (case side2 => exact HC0.out); rintro e w7 ⟨rfl, hb⟩; refine ⟨_, rfl, ?_⟩; have n0_ := aM (pT bQ hb); clear HB; have HB := n0_; clear n0_; (try clear hb); (try clear hb2); (try clear hk); (try clear hi)))
  go_ret2
  exact ⟨_, by first | rfl | (simp [errW_none, errW_some] <;> rfl) | (simp [*, errW_none, errW_some] <;> rfl), by first | exact Kd.R_nil _ _ _ _ _ | exact Kd.N_nil _ _ _ _ _ | exact Kd.V_nil _ _ _ _ _ | exact Kd.Q_nil _ _ _ _ _ | exact Kd.S_nil _ _ _ _ _, bQ⟩

def impl_Peg_square.f (a0_0 : Int) (a0_1 : Int) : Option (Int) := some (wrap64 ((wrap64 (a0_0 * a0_0)) + (wrap64 (a0_1 * a0_1))))
set_option maxHeartbeats 8000000 in
set_option maxRecDepth 100000 in
theorem impl_Peg_square.calls (a0_0 : Int) (a0_1 : Int) (r : Int) (w : World) (h : impl_Peg_square.f a0_0 a0_1 = some r) :
  Calls Try.prog 113 #[.agg #[.int .i64 a0_0, .int .i64 a0_1]] w fun e w' => e = .returned (.int .i64 r) ∧ Below w.heap.size w w' := by
 have hu34 := Try.underlying34
 have HB := aM (Below.refl w.heap.size w)
 have H : (some (wrap64 ((wrap64 (a0_0 * a0_0)) + (wrap64 (a0_1 * a0_1))))) = some r := h
 clear h
 obtain rfl := Option.some.inj H
 go_enter Try.func113, Try.ntmps113
 go_wp2_with (first | ((with_reducible refine gate_dst (N := 1) rfl ?_); refine box_event ?hg (N := 1) ?hd (cs := #[.int .i64 a0_0, .int .i64 a0_1]) (t := 34) ?hr ?_; (case hd => rfl); (case hg => rfl); (case hr => first | (go_simp; done) | (go_simp; rfl)); intro gb650 hg w2 hbox hb; have n0_ := aM (pT bQ hb); have n1_ := aM (hbox); have n2_ := aM ((by rw [hg]; exact (pZ bQ) : w.heap.size ≤ gb650)); have n3_ := aM ((by rw [hg]; exact (pZ bQ) : w.heap.size ≤ gb650)); clear HB; have HB := n0_; have BK650 := n1_; have GW650 := n2_; have GE650 := n3_; clear n0_ n1_ n2_ n3_; clear hb hbox hg; have hcz3_0 : w2.cell? ⟨gb650, 0, none⟩ = some (.int .i64 a0_0) := (kC BK650.out 0).trans rfl; have hcz3_1 : w2.cell? ⟨gb650, 1, none⟩ = some (.int .i64 a0_1) := (kC BK650.out 1).trans rfl; have hfz3_0 := kF BK650.out 0; have hfz3_1 := kF BK650.out 1))
 go_ret
 exact ⟨by first | rfl | (simp [errW_none, errW_some] <;> rfl) | (simp [*, errW_none, errW_some] <;> rfl), by repeat (first | (with_reducible first | exact HB.out | apply pA | apply pN | apply pD | refine pS ?_ GE650.out) | exact HB.out)⟩

end Go.Proofs.Ytiacfkilmknldaa.X
