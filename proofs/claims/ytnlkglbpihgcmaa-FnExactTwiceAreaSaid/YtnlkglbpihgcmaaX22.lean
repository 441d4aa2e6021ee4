-- thin
-- short
import Derived.Test.YtnlkglbpihgcmaaXA
import Derived.Test.YtnlkglbpihgcmaaX0
import Derived.Test.YtnlkglbpihgcmaaX5
import Derived.Test.YtnlkglbpihgcmaaX13
namespace Go.Proofs.Ytnlkglbpihgcmaa.X
open Go.RowKit Go.Proofs.Ytnlkglbpihgcmaa.XW Go.Proofs.YtnlkglbpihgcmaaW.PrintWords Go.Proofs.YtnlkglbpihgcmaaW.PrintLast Go.Proofs.YtnlkglbpihgcmaaW.PrintMore
attribute [local go_sem] max2_int min2_int max_two min_two max_three min_three max_four min_four   -- for this text's walks alone
set_option linter.unusedVariables false
set_option linter.unusedSimpArgs false

def spec_trSquare.f (a0_0 : Int) (a0_1 : Int) (a1_0 : Int) (a1_1 : Int) : Option (Int) := some (wrap64 ((wrap64 ((wrap64 (a0_0 - a1_0)) * (wrap64 (a0_0 - a1_0)))) + (wrap64 ((wrap64 (a0_1 - a1_1)) * (wrap64 (a0_1 - a1_1))))))
set_option maxHeartbeats 8000000 in
set_option maxRecDepth 100000 in
theorem spec_trSquare.calls (a0_0 : Int) (a0_1 : Int) (a1_0 : Int) (a1_1 : Int) (r : Int) (w : World) (h : spec_trSquare.f a0_0 a0_1 a1_0 a1_1 = some r) :
  Calls Try.prog 114 #[.agg #[.int .i64 a0_0, .int .i64 a0_1], .agg #[.int .i64 a1_0, .int .i64 a1_1]] w fun e w' => e = .returned (.int .i64 r) ∧ Below w.heap.size w w' := by
 have hu62 := Try.underlying62
 have HB := aM (Below.refl w.heap.size w)
 have H : (some (wrap64 ((wrap64 ((wrap64 (a0_0 - a1_0)) * (wrap64 (a0_0 - a1_0)))) + (wrap64 ((wrap64 (a0_1 - a1_1)) * (wrap64 (a0_1 - a1_1))))))) = some r := h
 clear h
 obtain rfl := Option.some.inj H
 go_enter Try.func114, Try.ntmps114
 go_wp2_with (first | ((with_reducible refine gate_dst (N := 2) rfl ?_); refine box_event ?hg (N := 2) ?hd (cs := #[.int .i64 a0_0, .int .i64 a0_1]) (t := 62) ?hr ?_; (case hd => rfl); (case hg => rfl); (case hr => first | (go_simp; done) | (go_simp; rfl)); intro gb436 hg w3 hbox hb; have n0_ := aM (pT (by repeat (first | (with_reducible first | exact HB.out | apply pA | apply pN | apply pD) | exact HB.out)) hb); have n1_ := aM (hbox); have n2_ := aM ((by rw [hg]; exact (pZ (by repeat (first | (with_reducible first | exact HB.out | apply pA | apply pN | apply pD) | exact HB.out))) : w.heap.size ≤ gb436)); have n3_ := aM ((by rw [hg]; exact (pZ (by repeat (first | (with_reducible first | exact HB.out | apply pA | apply pN | apply pD) | exact HB.out))) : w.heap.size ≤ gb436)); clear HB; have HB := n0_; have BK436 := n1_; have GW436 := n2_; have GE436 := n3_; clear n0_ n1_ n2_ n3_; clear hb hbox hg) | ((with_reducible refine gate_dst (N := 3) rfl ?_); refine box_event ?hg (N := 3) ?hd (cs := #[.int .i64 a1_0, .int .i64 a1_1]) (t := 62) ?hr ?_; (case hd => rfl); (case hg => rfl); (case hr => first | (go_simp; done) | (go_simp; rfl)); intro gb437 hg w4 hbox hb; have n0_ := aM (blk_below (g := gb436) (o := .cells #[.int .i64 a0_0, .int .i64 a0_1] 62 (0, 0)) (by (with_reducible repeat (first | refine kN ?_ _ | refine kD ?_ | refine kA ?_ _)); exact BK436.out) hb); have n1_ := aM (pT (by repeat (first | (with_reducible first | exact HB.out | apply pA | apply pN | apply pD | refine pS ?_ GE436.out) | exact HB.out)) hb); have n2_ := aM (hbox); have n3_ := aM ((by rw [hg]; exact (pZ (by repeat (first | (with_reducible first | exact HB.out | apply pA | apply pN | apply pD | refine pS ?_ GE436.out) | exact HB.out))) : w.heap.size ≤ gb437)); have n4_ := aM ((by rw [hg]; exact (pZ (by repeat (first | (with_reducible first | exact HB.out | apply pA | apply pN | apply pD | refine pS ?_ GE436.out) | exact HB.out))) : w.heap.size ≤ gb437)); have n5_ := aM ((by rw [hg]; exact nN (blk_lt (g := gb436) (o := .cells #[.int .i64 a0_0, .int .i64 a0_1] 62 (0, 0)) (by (with_reducible repeat (first | refine kN ?_ _ | refine kD ?_ | refine kA ?_ _)); exact BK436.out)) : gb436 ≠ gb437)); have n6_ := aM ((by rw [hg]; exact Nat.ne_of_gt (blk_lt (g := gb436) (o := .cells #[.int .i64 a0_0, .int .i64 a0_1] 62 (0, 0)) (by (with_reducible repeat (first | refine kN ?_ _ | refine kD ?_ | refine kA ?_ _)); exact BK436.out)) : gb437 ≠ gb436)); clear BK436; clear HB; have BK436 := n0_; have HB := n1_; have BK437 := n2_; have GW437 := n3_; have GE437 := n4_; have NB436_437 := n5_; have NB437_436 := n6_; clear n0_ n1_ n2_ n3_ n4_ n5_ n6_; clear hb hbox hg; have hnb5 := NB436_437.out; have hnc5 := NB437_436.out; have hcz6_0 : w4.cell? ⟨gb436, 0, none⟩ = some (.int .i64 a0_0) := (kC BK436.out 0).trans rfl; have hcz6_1 : w4.cell? ⟨gb436, 1, none⟩ = some (.int .i64 a0_1) := (kC BK436.out 1).trans rfl; have hfz6_0 := kF BK436.out 0; have hfz6_1 := kF BK436.out 1; have hcz7_0 : w4.cell? ⟨gb437, 0, none⟩ = some (.int .i64 a1_0) := (kC BK437.out 0).trans rfl; have hcz7_1 : w4.cell? ⟨gb437, 1, none⟩ = some (.int .i64 a1_1) := (kC BK437.out 1).trans rfl; have hfz7_0 := kF BK437.out 0; have hfz7_1 := kF BK437.out 1))
 go_ret
 exact ⟨by first | rfl | (simp [errW_none, errW_some] <;> rfl) | (simp [*, errW_none, errW_some] <;> rfl), by repeat (first | (with_reducible first | exact HB.out | apply pA | apply pN | apply pD | refine pS ?_ GE436.out | refine pS ?_ GE437.out) | exact HB.out)⟩

def spec_trSides.f (l0 : List (S_impl_Peg)) : Option (List Int) := if 1 < (l0.length : Int) then (if 2 < (l0.length : Int) then ((spec_trSquare.f ((rd_impl_Peg l0 1).f0) ((rd_impl_Peg l0 1).f1) ((rd_impl_Peg l0 2).f0) ((rd_impl_Peg l0 2).f1)).bind fun t440 => (if 0 < (l0.length : Int) then ((spec_trSquare.f ((rd_impl_Peg l0 2).f0) ((rd_impl_Peg l0 2).f1) ((rd_impl_Peg l0 0).f0) ((rd_impl_Peg l0 0).f1)).bind fun t443 => ((spec_trSquare.f ((rd_impl_Peg l0 0).f0) ((rd_impl_Peg l0 0).f1) ((rd_impl_Peg l0 1).f0) ((rd_impl_Peg l0 1).f1)).bind fun t446 => (some (([t440, t443, t446] : List Int))))) else (none))) else (none)) else (none)
def spec_trSides.T1 : Bool × List (List Nat × List Nat) := (true, [([], []), ([0], [0]), ([1], [1]), ([], []), ([3], [3]), ([4], [4]), ([2, 5], [2, 5]), ([], []), ([7], [7]), ([8], [8]), ([], []), ([10], [10]), ([11], [11]), ([9, 12, 6], [9, 12]), ([], []), ([14], [14]), ([15], [15]), ([], []), ([17], [17]), ([18], [18]), ([16, 19, 13], [16, 19]), ([6, 13, 20], [6, 13, 20]), ([21, 20, 0, 1, 2, 3, 4, 5, 6, 7, 8, 9, 10, 11, 12, 13, 14, 15, 16, 17, 18, 19, 20, 21], [21])])
def spec_trSides.B1 : List Nat := [0, 1, 3, 0, 8, 24, 63, 0, 128, 384, 0, 1024, 3072, 8191, 0, 16384, 49152, 0, 131072, 393216, 1048575, 2097151, 4194303]
theorem spec_trSides.tab1 : rtab .any (opsOf Try.f78 1) = spec_trSides.T1 := by kernel_rfl
theorem spec_trSides.bits1 : waitsOk spec_trSides.T1.2 spec_trSides.B1 = true := by kernel_rfl
set_option maxHeartbeats 8000000 in
set_option maxRecDepth 100000 in
theorem spec_trSides.calls (A0 : Option Addr) (c0 : Nat) (l0 : List (S_impl_Peg)) (r : List Int) (w : World) (hr0 : Kd.C kd_impl_Peg w A0 l0.length l0) (hc0 : l0.length ≤ c0) (h : spec_trSides.f l0 = some r) :
  Calls Try.prog 78 #[.slice A0 l0.length c0] w fun e w' => ∃ v0_ : Value, e = .returned (v0_) ∧ Kd.R (Kd.int .i64) 3 w' w.heap.size (fun _ => True) v0_ r ∧ Below w.heap.size w w' := by
 have hu62 := Try.underlying62
 have HR0 := aM hr0
 have HC0 := aM hc0
 clear hr0 hc0
 have HB := aM (Below.refl w.heap.size w)
 have H : (if 1 < (l0.length : Int) then (if 2 < (l0.length : Int) then ((spec_trSquare.f ((rd_impl_Peg l0 1).f0) ((rd_impl_Peg l0 1).f1) ((rd_impl_Peg l0 2).f0) ((rd_impl_Peg l0 2).f1)).bind fun t440 => (if 0 < (l0.length : Int) then ((spec_trSquare.f ((rd_impl_Peg l0 2).f0) ((rd_impl_Peg l0 2).f1) ((rd_impl_Peg l0 0).f0) ((rd_impl_Peg l0 0).f1)).bind fun t443 => ((spec_trSquare.f ((rd_impl_Peg l0 0).f0) ((rd_impl_Peg l0 0).f1) ((rd_impl_Peg l0 1).f0) ((rd_impl_Peg l0 1).f1)).bind fun t446 => (some (([t440, t443, t446] : List Int))))) else (none))) else (none)) else (none)) = some r := h
 clear h
 by_cases c2 : 1 < (l0.length : Int)
 ·rw [if_pos c2] at H
  have c2b0 : decide (1 < (l0.length : Int)) = true := dE c2
  have c2b1 : decide (1 < l0.length) = true := dE (by omega)
  clear c2
  by_cases c3 : 2 < (l0.length : Int)
  ·rw [if_pos c3] at H
   have c3b0 : decide (2 < (l0.length : Int)) = true := dE c3
   have c3b1 : decide (2 < l0.length) = true := dE (by omega)
   clear c3
   replace H := oB.mp H
   obtain ⟨t440, A40, H⟩ := H
   replace H : (if 0 < (l0.length : Int) then ((spec_trSquare.f ((rd_impl_Peg l0 2).f0) ((rd_impl_Peg l0 2).f1) ((rd_impl_Peg l0 0).f0) ((rd_impl_Peg l0 0).f1)).bind fun t443 => ((spec_trSquare.f ((rd_impl_Peg l0 0).f0) ((rd_impl_Peg l0 0).f1) ((rd_impl_Peg l0 1).f0) ((rd_impl_Peg l0 1).f1)).bind fun t446 => (some (([t440, t443, t446] : List Int))))) else (none)) = some r := H
   have A4 := aM A40
   clear A40
   by_cases c5 : 0 < (l0.length : Int)
   ·rw [if_pos c5] at H
    have c5b0 : decide (0 < (l0.length : Int)) = true := dE c5
    have c5b1 : decide (0 < l0.length) = true := dE (by omega)
    clear c5
    replace H := oB.mp H
    obtain ⟨t443, A60, H⟩ := H
    replace H : ((spec_trSquare.f ((rd_impl_Peg l0 0).f0) ((rd_impl_Peg l0 0).f1) ((rd_impl_Peg l0 1).f0) ((rd_impl_Peg l0 1).f1)).bind fun t446 => (some (([t440, t443, t446] : List Int)))) = some r := H
    have A6 := aM A60
    clear A60
    replace H := oB.mp H
    obtain ⟨t446, A70, H⟩ := H
    replace H : (some (([t440, t443, t446] : List Int))) = some r := H
    have A7 := aM A70
    clear A70
    obtain ⟨y447, hy447⟩ : ∃ y_ : List Int, y_ = (([t440, t443, t446] : List Int)) := ⟨_, rfl⟩
    replace H : (some y447) = some r := by first | (rw [hy447]; with_reducible exact H) | (have H2_ := (Option.bind_some _ _).symm.trans H; rw [hy447]; with_reducible exact H2_) | (have H2_ := (Option.bind_some _ _).symm.trans H; with_reducible exact H2_) | with_reducible exact H | (rw [hy447]; exact H) | exact H
    have Ny447 := aM hy447
    clear hy447
    obtain rfl := Option.some.inj H
    go_enter Try.func78, Try.ntmps78
    try go_wp2
    have n0_ := aM (pD HB.out)
    clear HB
    have HB := n0_
    clear n0_
    have p438 : 0 ≤ (1 : Int) := (by omega)
    have q438 : 1 < (l0.length : Int) := dT (by first | (with_reducible assumption) | assumption)
    obtain ⟨ad438, e438, hx438_0, hx438_1⟩ := at_impl_Peg HR0.out 1 p438 q438
    have hw438_1 := hx438_1
    (try rw [show ((1 : Int)).toNat = 1 from rfl] at hw438_1)
    (try rw [show 1 * 2 = 2 from rfl] at hw438_1)
    (try simp only [Nat.reduceMul, Nat.reduceEqDiff, Go.Addr.add, ↓reduceIte] at hw438_1)
    have hw438_0 := hx438_0
    (try rw [show ((1 : Int)).toNat = 1 from rfl] at hw438_0)
    (try rw [show 1 * 2 = 2 from rfl] at hw438_0)
    (try simp only [Nat.reduceMul, Nat.reduceEqDiff, Go.Addr.add, ↓reduceIte] at hw438_0)
    cases e438
    (try simp only [show (1 : Int).toNat = 1 from rfl, Nat.reduceMul, Nat.reduceEqDiff, Go.Addr.add, ↓reduceIte] at hx438_0)
    (try simp only [show (1 : Int).toNat = 1 from rfl, Nat.reduceMul, Nat.reduceEqDiff, Go.Addr.add, ↓reduceIte] at hx438_1)
    have qi438 : (1 < l0.length) = True := eq_true (by omega)
    (try rw [show ((1 : Int)).toNat = 1 from rfl] at hx438_0)
    (try rw [show 1 * 2 = 2 from rfl] at hx438_0)
    (try rw [show ((1 : Int)).toNat = 1 from rfl] at hx438_1)
    (try rw [show 1 * 2 = 2 from rfl] at hx438_1)
    replace hx438_0 := (HB.out.cell (wB w _ hx438_0)).trans hx438_0
    replace hx438_1 := (HB.out.cell (wB w _ hx438_1)).trans hx438_1
    replace p438 := eq_true p438
    replace q438 := eq_true q438
    have p439 : 0 ≤ (2 : Int) := (by omega)
    have q439 : 2 < (l0.length : Int) := dT (by first | (with_reducible assumption) | assumption)
    obtain ⟨ad439, e439, hx439_0, hx439_1⟩ := at_impl_Peg HR0.out 2 p439 q439
    have hw439_1 := hx439_1
    (try rw [show ((2 : Int)).toNat = 2 from rfl] at hw439_1)
    (try rw [show 2 * 2 = 4 from rfl] at hw439_1)
    (try simp only [Nat.reduceMul, Nat.reduceEqDiff, Go.Addr.add, ↓reduceIte] at hw439_1)
    have hw439_0 := hx439_0
    (try rw [show ((2 : Int)).toNat = 2 from rfl] at hw439_0)
    (try rw [show 2 * 2 = 4 from rfl] at hw439_0)
    (try simp only [Nat.reduceMul, Nat.reduceEqDiff, Go.Addr.add, ↓reduceIte] at hw439_0)
    obtain rfl : ad438 = ad439 := (by injection e439)
    (try simp only [show (2 : Int).toNat = 2 from rfl, Nat.reduceMul, Nat.reduceEqDiff, Go.Addr.add, ↓reduceIte] at hx439_0)
    (try simp only [show (2 : Int).toNat = 2 from rfl, Nat.reduceMul, Nat.reduceEqDiff, Go.Addr.add, ↓reduceIte] at hx439_1)
    have qi439 : (2 < l0.length) = True := eq_true (by omega)
    (try rw [show ((2 : Int)).toNat = 2 from rfl] at hx439_0)
    (try rw [show 2 * 2 = 4 from rfl] at hx439_0)
    (try rw [show ((2 : Int)).toNat = 2 from rfl] at hx439_1)
    (try rw [show 2 * 2 = 4 from rfl] at hx439_1)
    replace hx439_0 := (HB.out.cell (wB w _ hx439_0)).trans hx439_0
    replace hx439_1 := (HB.out.cell (wB w _ hx439_1)).trans hx439_1
    replace p439 := eq_true p439
    replace q439 := eq_true q439
    have p441 : 0 ≤ (2 : Int) := (by omega)
    have q441 : 2 < (l0.length : Int) := dT (by first | (with_reducible assumption) | assumption)
    obtain ⟨ad441, e441, hx441_0, hx441_1⟩ := at_impl_Peg HR0.out 2 p441 q441
    have hw441_1 := hx441_1
    (try rw [show ((2 : Int)).toNat = 2 from rfl] at hw441_1)
    (try rw [show 2 * 2 = 4 from rfl] at hw441_1)
    (try simp only [Nat.reduceMul, Nat.reduceEqDiff, Go.Addr.add, ↓reduceIte] at hw441_1)
    have hw441_0 := hx441_0
    (try rw [show ((2 : Int)).toNat = 2 from rfl] at hw441_0)
    (try rw [show 2 * 2 = 4 from rfl] at hw441_0)
    (try simp only [Nat.reduceMul, Nat.reduceEqDiff, Go.Addr.add, ↓reduceIte] at hw441_0)
    obtain rfl : ad438 = ad441 := (by injection e441)
    (try simp only [show (2 : Int).toNat = 2 from rfl, Nat.reduceMul, Nat.reduceEqDiff, Go.Addr.add, ↓reduceIte] at hx441_0)
    (try simp only [show (2 : Int).toNat = 2 from rfl, Nat.reduceMul, Nat.reduceEqDiff, Go.Addr.add, ↓reduceIte] at hx441_1)
    have qi441 : (2 < l0.length) = True := eq_true (by omega)
    (try rw [show ((2 : Int)).toNat = 2 from rfl] at hx441_0)
    (try rw [show 2 * 2 = 4 from rfl] at hx441_0)
    (try rw [show ((2 : Int)).toNat = 2 from rfl] at hx441_1)
    (try rw [show 2 * 2 = 4 from rfl] at hx441_1)
    replace hx441_0 := (HB.out.cell (wB w _ hx441_0)).trans hx441_0
    replace hx441_1 := (HB.out.cell (wB w _ hx441_1)).trans hx441_1
    replace p441 := eq_true p441
    replace q441 := eq_true q441
    have p442 : 0 ≤ (0 : Int) := (by omega)
    have q442 : 0 < (l0.length : Int) := dT (by first | (with_reducible assumption) | assumption)
    obtain ⟨ad442, e442, hx442_0, hx442_1⟩ := at_impl_Peg HR0.out 0 p442 q442
    have hw442_1 := hx442_1
    (try rw [show ((0 : Int)).toNat = 0 from rfl] at hw442_1)
    (try rw [show 0 * 2 = 0 from rfl] at hw442_1)
    (try rw [Addr.add_zero'] at hw442_1)
    have hw442_0 := hx442_0
    (try rw [show ((0 : Int)).toNat = 0 from rfl] at hw442_0)
    (try rw [show 0 * 2 = 0 from rfl] at hw442_0)
    (try rw [Addr.add_zero'] at hw442_0)
    obtain rfl : ad438 = ad442 := (by injection e442)
    have qi442 : (0 < l0.length) = True := eq_true (by omega)
    (try rw [show ((0 : Int)).toNat = 0 from rfl] at hx442_0)
    (try rw [show 0 * 2 = 0 from rfl] at hx442_0)
    (try rw [Addr.add_zero'] at hx442_0)
    (try rw [show ((0 : Int)).toNat = 0 from rfl] at hx442_1)
    (try rw [show 0 * 2 = 0 from rfl] at hx442_1)
    (try rw [Addr.add_zero'] at hx442_1)
    replace hx442_0 := (HB.out.cell (wB w _ hx442_0)).trans hx442_0
    replace hx442_1 := (HB.out.cell (wB w _ hx442_1)).trans hx442_1
    replace p442 := eq_true p442
    replace q442 := eq_true q442
    have p444 : 0 ≤ (0 : Int) := (by omega)
    have q444 : 0 < (l0.length : Int) := dT (by first | (with_reducible assumption) | assumption)
    obtain ⟨ad444, e444, hx444_0, hx444_1⟩ := at_impl_Peg HR0.out 0 p444 q444
    have hw444_1 := hx444_1
    (try rw [show ((0 : Int)).toNat = 0 from rfl] at hw444_1)
    (try rw [show 0 * 2 = 0 from rfl] at hw444_1)
    (try rw [Addr.add_zero'] at hw444_1)
    have hw444_0 := hx444_0
    (try rw [show ((0 : Int)).toNat = 0 from rfl] at hw444_0)
    (try rw [show 0 * 2 = 0 from rfl] at hw444_0)
    (try rw [Addr.add_zero'] at hw444_0)
    obtain rfl : ad438 = ad444 := (by injection e444)
    have qi444 : (0 < l0.length) = True := eq_true (by omega)
    (try rw [show ((0 : Int)).toNat = 0 from rfl] at hx444_0)
    (try rw [show 0 * 2 = 0 from rfl] at hx444_0)
    (try rw [Addr.add_zero'] at hx444_0)
    (try rw [show ((0 : Int)).toNat = 0 from rfl] at hx444_1)
    (try rw [show 0 * 2 = 0 from rfl] at hx444_1)
    (try rw [Addr.add_zero'] at hx444_1)
    replace hx444_0 := (HB.out.cell (wB w _ hx444_0)).trans hx444_0
    replace hx444_1 := (HB.out.cell (wB w _ hx444_1)).trans hx444_1
    replace p444 := eq_true p444
    replace q444 := eq_true q444
    have p445 : 0 ≤ (1 : Int) := (by omega)
    have q445 : 1 < (l0.length : Int) := dT (by first | (with_reducible assumption) | assumption)
    obtain ⟨ad445, e445, hx445_0, hx445_1⟩ := at_impl_Peg HR0.out 1 p445 q445
    have hw445_1 := hx445_1
    (try rw [show ((1 : Int)).toNat = 1 from rfl] at hw445_1)
    (try rw [show 1 * 2 = 2 from rfl] at hw445_1)
    (try simp only [Nat.reduceMul, Nat.reduceEqDiff, Go.Addr.add, ↓reduceIte] at hw445_1)
    have hw445_0 := hx445_0
    (try rw [show ((1 : Int)).toNat = 1 from rfl] at hw445_0)
    (try rw [show 1 * 2 = 2 from rfl] at hw445_0)
    (try simp only [Nat.reduceMul, Nat.reduceEqDiff, Go.Addr.add, ↓reduceIte] at hw445_0)
    obtain rfl : ad438 = ad445 := (by injection e445)
    (try simp only [show (1 : Int).toNat = 1 from rfl, Nat.reduceMul, Nat.reduceEqDiff, Go.Addr.add, ↓reduceIte] at hx445_0)
    (try simp only [show (1 : Int).toNat = 1 from rfl, Nat.reduceMul, Nat.reduceEqDiff, Go.Addr.add, ↓reduceIte] at hx445_1)
    have qi445 : (1 < l0.length) = True := eq_true (by omega)
    (try rw [show ((1 : Int)).toNat = 1 from rfl] at hx445_0)
    (try rw [show 1 * 2 = 2 from rfl] at hx445_0)
    (try rw [show ((1 : Int)).toNat = 1 from rfl] at hx445_1)
    (try rw [show 1 * 2 = 2 from rfl] at hx445_1)
    replace hx445_0 := (HB.out.cell (wB w _ hx445_0)).trans hx445_0
    replace hx445_1 := (HB.out.cell (wB w _ hx445_1)).trans hx445_1
    replace p445 := eq_true p445
    replace q445 := eq_true q445
    refine start_ (n := 23) (S := fun w' => w'.cell? ⟨ad438.block, ad438.off + 2, none⟩ = some (.int .i64 ((rd_impl_Peg l0 1).f0)) ∧ w'.cell? ⟨ad438.block, ad438.off + 2 + 1, none⟩ = some (.int .i64 ((rd_impl_Peg l0 1).f1)) ∧ w'.cell? ⟨ad438.block, ad438.off + 4, none⟩ = some (.int .i64 ((rd_impl_Peg l0 2).f0)) ∧ w'.cell? ⟨ad438.block, ad438.off + 4 + 1, none⟩ = some (.int .i64 ((rd_impl_Peg l0 2).f1)) ∧ w'.cell? ⟨ad438.block, ad438.off + 4, none⟩ = some (.int .i64 ((rd_impl_Peg l0 2).f0)) ∧ w'.cell? ⟨ad438.block, ad438.off + 4 + 1, none⟩ = some (.int .i64 ((rd_impl_Peg l0 2).f1)) ∧ w'.cell? ad438 = some (.int .i64 ((rd_impl_Peg l0 0).f0)) ∧ w'.cell? ⟨ad438.block, ad438.off + 1, none⟩ = some (.int .i64 ((rd_impl_Peg l0 0).f1)) ∧ w'.cell? ad438 = some (.int .i64 ((rd_impl_Peg l0 0).f0)) ∧ w'.cell? ⟨ad438.block, ad438.off + 1, none⟩ = some (.int .i64 ((rd_impl_Peg l0 0).f1)) ∧ w'.cell? ⟨ad438.block, ad438.off + 2, none⟩ = some (.int .i64 ((rd_impl_Peg l0 1).f0)) ∧ w'.cell? ⟨ad438.block, ad438.off + 2 + 1, none⟩ = some (.int .i64 ((rd_impl_Peg l0 1).f1))) (ds := []) #[false, false, false, false, false, false, false, false, false, false, false, false, false, false, false, false, false, false, false, false, false, false, false] (by kernel_rfl) rfl rfl ⟨((HB.out.cell (wB w _ hw438_0)).trans hw438_0), ((HB.out.cell (wB w _ hw438_1)).trans hw438_1), ((HB.out.cell (wB w _ hw439_0)).trans hw439_0), ((HB.out.cell (wB w _ hw439_1)).trans hw439_1), ((HB.out.cell (wB w _ hw441_0)).trans hw441_0), ((HB.out.cell (wB w _ hw441_1)).trans hw441_1), ((HB.out.cell (wB w _ hw442_0)).trans hw442_0), ((HB.out.cell (wB w _ hw442_1)).trans hw442_1), ((HB.out.cell (wB w _ hw444_0)).trans hw444_0), ((HB.out.cell (wB w _ hw444_1)).trans hw444_1), ((HB.out.cell (wB w _ hw445_0)).trans hw445_0), ((HB.out.cell (wB w _ hw445_1)).trans hw445_1)⟩ (fun hHeld => ?_); refine with_tabW spec_trSides.tab1 spec_trSides.bits1 (fun HT_ HW_ => ?_)
    generalize w.drew = w8 at HB hx438_0 hx438_1 hx439_0 hx439_1 hx441_0 hx441_1 hx442_0 hx442_1 hx444_0 hx444_1 hx445_0 hx445_1 hHeld ⊢
    refine pure_ (i := 0) (N := some 3) (v := ?_) (a' := ?_) #[true, false, false, false, false, false, false, false, false, false, false, false, false, false, false, false, false, false, false, false, false, false, false] rfl rfl (any_of HT_.out (by kernel_rfl)) (fun _ _ _ h => h) (Or.inl ⟨by rfl, ?_⟩) ?_ ?_
    rotate_left
    ·intro w'
     go_simp
     with_reducible rfl
    rotate_left
    ·simp only [Act.put, sI, sZ, sS, i64_w, i32_w]
     rfl
    refine pure_ (i := 1) (N := some 4) (v := ?_) (a' := ?_) #[true, true, false, false, false, false, false, false, false, false, false, false, false, false, false, false, false, false, false, false, false, false, false] rfl rfl (any_of HT_.out (by kernel_rfl)) (fun _ _ _ h => h) (Or.inl ⟨by rfl, ?_⟩) ?_ ?_
    rotate_left
    ·intro w'
     go_simp
     with_reducible rfl
    rotate_left
    ·simp only [Act.put, sI, sZ, sS, i64_w, i32_w]
     rfl
    refine pure_ (i := 3) (N := some 6) (v := ?_) (a' := ?_) #[true, true, false, true, false, false, false, false, false, false, false, false, false, false, false, false, false, false, false, false, false, false, false] rfl rfl (any_of HT_.out (by kernel_rfl)) (fun _ _ _ h => h) (Or.inl ⟨by rfl, ?_⟩) ?_ ?_
    rotate_left
    ·intro w'
     go_simp
     with_reducible rfl
    rotate_left
    ·simp only [Act.put, sI, sZ, sS, i64_w, i32_w]
     rfl
    refine pure_ (i := 4) (N := some 7) (v := ?_) (a' := ?_) #[true, true, false, true, true, false, false, false, false, false, false, false, false, false, false, false, false, false, false, false, false, false, false] rfl rfl (any_of HT_.out (by kernel_rfl)) (fun _ _ _ h => h) (Or.inl ⟨by rfl, ?_⟩) ?_ ?_
    rotate_left
    ·intro w'
     go_simp
     with_reducible rfl
    rotate_left
    ·simp only [Act.put, sI, sZ, sS, i64_w, i32_w]
     rfl
    refine pure_ (i := 7) (N := some 10) (v := ?_) (a' := ?_) #[true, true, false, true, true, false, false, true, false, false, false, false, false, false, false, false, false, false, false, false, false, false, false] rfl rfl (any_of HT_.out (by kernel_rfl)) (fun _ _ _ h => h) (Or.inl ⟨by rfl, ?_⟩) ?_ ?_
    rotate_left
    ·intro w'
     go_simp
     with_reducible rfl
    rotate_left
    ·simp only [Act.put, sI, sZ, sS, i64_w, i32_w]
     rfl
    refine pure_ (i := 8) (N := some 11) (v := ?_) (a' := ?_) #[true, true, false, true, true, false, false, true, true, false, false, false, false, false, false, false, false, false, false, false, false, false, false] rfl rfl (any_of HT_.out (by kernel_rfl)) (fun _ _ _ h => h) (Or.inl ⟨by rfl, ?_⟩) ?_ ?_
    rotate_left
    ·intro w'
     go_simp
     with_reducible rfl
    rotate_left
    ·simp only [Act.put, sI, sZ, sS, i64_w, i32_w]
     rfl
    refine pure_ (i := 10) (N := some 13) (v := ?_) (a' := ?_) #[true, true, false, true, true, false, false, true, true, false, true, false, false, false, false, false, false, false, false, false, false, false, false] rfl rfl (any_of HT_.out (by kernel_rfl)) (fun _ _ _ h => h) (Or.inl ⟨by rfl, ?_⟩) ?_ ?_
    rotate_left
    ·intro w'
     go_simp
     with_reducible rfl
    rotate_left
    ·simp only [Act.put, sI, sZ, sS, i64_w, i32_w]
     rfl
    refine pure_ (i := 11) (N := some 14) (v := ?_) (a' := ?_) #[true, true, false, true, true, false, false, true, true, false, true, true, false, false, false, false, false, false, false, false, false, false, false] rfl rfl (any_of HT_.out (by kernel_rfl)) (fun _ _ _ h => h) (Or.inl ⟨by rfl, ?_⟩) ?_ ?_
    rotate_left
    ·intro w'
     go_simp
     with_reducible rfl
    rotate_left
    ·simp only [Act.put, sI, sZ, sS, i64_w, i32_w]
     rfl
    refine pure_ (i := 14) (N := some 17) (v := ?_) (a' := ?_) #[true, true, false, true, true, false, false, true, true, false, true, true, false, false, true, false, false, false, false, false, false, false, false] rfl rfl (any_of HT_.out (by kernel_rfl)) (fun _ _ _ h => h) (Or.inl ⟨by rfl, ?_⟩) ?_ ?_
    rotate_left
    ·intro w'
     go_simp
     with_reducible rfl
    rotate_left
    ·simp only [Act.put, sI, sZ, sS, i64_w, i32_w]
     rfl
    refine pure_ (i := 15) (N := some 18) (v := ?_) (a' := ?_) #[true, true, false, true, true, false, false, true, true, false, true, true, false, false, true, true, false, false, false, false, false, false, false] rfl rfl (any_of HT_.out (by kernel_rfl)) (fun _ _ _ h => h) (Or.inl ⟨by rfl, ?_⟩) ?_ ?_
    rotate_left
    ·intro w'
     go_simp
     with_reducible rfl
    rotate_left
    ·simp only [Act.put, sI, sZ, sS, i64_w, i32_w]
     rfl
    refine pure_ (i := 17) (N := some 20) (v := ?_) (a' := ?_) #[true, true, false, true, true, false, false, true, true, false, true, true, false, false, true, true, false, true, false, false, false, false, false] rfl rfl (any_of HT_.out (by kernel_rfl)) (fun _ _ _ h => h) (Or.inl ⟨by rfl, ?_⟩) ?_ ?_
    rotate_left
    ·intro w'
     go_simp
     with_reducible rfl
    rotate_left
    ·simp only [Act.put, sI, sZ, sS, i64_w, i32_w]
     rfl
    refine pure_ (i := 18) (N := some 21) (v := ?_) (a' := ?_) #[true, true, false, true, true, false, false, true, true, false, true, true, false, false, true, true, false, true, true, false, false, false, false] rfl rfl (any_of HT_.out (by kernel_rfl)) (fun _ _ _ h => h) (Or.inl ⟨by rfl, ?_⟩) ?_ ?_
    rotate_left
    ·intro w'
     go_simp
     with_reducible rfl
    rotate_left
    ·simp only [Act.put, sI, sZ, sS, i64_w, i32_w]
     rfl
    refine take_ (i := 2) (N := some 5) (v := ?_) (a' := ?_) #[true, true, true, true, true, false, false, true, true, false, true, true, false, false, true, true, false, true, true, false, false, false, false] rfl rfl (take_ofW HT_.out HW_.out (by kernel_rfl)) (fun _ _ _ h => h) (Or.inl ⟨by rfl, ?_⟩) hHeld ?_ ?_
    rotate_left
    ·rintro w' ⟨s0, s1, s2, s3, s4, s5, s6, s7, s8, s9, s10, s11⟩
     go_simp
     with_reducible rfl
    rotate_left
    ·simp only [Act.put, sI, sZ, sS, i64_w, i32_w]
     rfl
    refine take_ (i := 5) (N := some 8) (v := ?_) (a' := ?_) #[true, true, true, true, true, true, false, true, true, false, true, true, false, false, true, true, false, true, true, false, false, false, false] rfl rfl (take_ofW HT_.out HW_.out (by kernel_rfl)) (fun _ _ _ h => h) (Or.inl ⟨by rfl, ?_⟩) hHeld ?_ ?_
    rotate_left
    ·rintro w' ⟨s0, s1, s2, s3, s4, s5, s6, s7, s8, s9, s10, s11⟩
     go_simp
     with_reducible rfl
    rotate_left
    ·simp only [Act.put, sI, sZ, sS, i64_w, i32_w]
     rfl
    refine take_ (i := 9) (N := some 12) (v := ?_) (a' := ?_) #[true, true, true, true, true, true, false, true, true, true, true, true, false, false, true, true, false, true, true, false, false, false, false] rfl rfl (take_ofW HT_.out HW_.out (by kernel_rfl)) (fun _ _ _ h => h) (Or.inl ⟨by rfl, ?_⟩) hHeld ?_ ?_
    rotate_left
    ·rintro w' ⟨s0, s1, s2, s3, s4, s5, s6, s7, s8, s9, s10, s11⟩
     go_simp
     with_reducible rfl
    rotate_left
    ·simp only [Act.put, sI, sZ, sS, i64_w, i32_w]
     rfl
    refine take_ (i := 12) (N := some 15) (v := ?_) (a' := ?_) #[true, true, true, true, true, true, false, true, true, true, true, true, true, false, true, true, false, true, true, false, false, false, false] rfl rfl (take_ofW HT_.out HW_.out (by kernel_rfl)) (fun _ _ _ h => h) (Or.inl ⟨by rfl, ?_⟩) hHeld ?_ ?_
    rotate_left
    ·rintro w' ⟨s0, s1, s2, s3, s4, s5, s6, s7, s8, s9, s10, s11⟩
     go_simp
     with_reducible rfl
    rotate_left
    ·simp only [Act.put, sI, sZ, sS, i64_w, i32_w]
     rfl
    refine take_ (i := 16) (N := some 19) (v := ?_) (a' := ?_) #[true, true, true, true, true, true, false, true, true, true, true, true, true, false, true, true, true, true, true, false, false, false, false] rfl rfl (take_ofW HT_.out HW_.out (by kernel_rfl)) (fun _ _ _ h => h) (Or.inl ⟨by rfl, ?_⟩) hHeld ?_ ?_
    rotate_left
    ·rintro w' ⟨s0, s1, s2, s3, s4, s5, s6, s7, s8, s9, s10, s11⟩
     go_simp
     with_reducible rfl
    rotate_left
    ·simp only [Act.put, sI, sZ, sS, i64_w, i32_w]
     rfl
    refine take_ (i := 19) (N := some 22) (v := ?_) (a' := ?_) #[true, true, true, true, true, true, false, true, true, true, true, true, true, false, true, true, true, true, true, true, false, false, false] rfl rfl (take_ofW HT_.out HW_.out (by kernel_rfl)) (fun _ _ _ h => h) (Or.inl ⟨by rfl, ?_⟩) hHeld ?_ ?_
    rotate_left
    ·rintro w' ⟨s0, s1, s2, s3, s4, s5, s6, s7, s8, s9, s10, s11⟩
     go_simp
     with_reducible rfl
    rotate_left
    ·simp only [Act.put, sI, sZ, sS, i64_w, i32_w]
     rfl
    refine one_ (i := 6) (N := some 9) #[true, true, true, true, true, true, true, true, true, true, true, true, true, false, true, true, true, true, true, true, false, false, false] rfl rfl (one_of HT_.out (by kernel_rfl)) (by decide) (fun K hK => ?_)
    refine goes_ Try.func114 (by kernel_rfl) rfl #[.agg #[.int .i64 ((rd_impl_Peg l0 1).f0), .int .i64 ((rd_impl_Peg l0 1).f1)], .agg #[.int .i64 ((rd_impl_Peg l0 2).f0), .int .i64 ((rd_impl_Peg l0 2).f1)]] (by rfl) rfl rfl (by (try simp only [mA, mC, mN]); first | done | rfl | (simp only [lD, lT]; rfl)) ?_
    with_reducible refine (spec_trSquare.calls ((rd_impl_Peg l0 1).f0) ((rd_impl_Peg l0 1).f1) ((rd_impl_Peg l0 2).f0) ((rd_impl_Peg l0 2).f1) t440 _ A4.out).mono ?_
    rintro e w9 ⟨rfl, hb⟩
    refine ⟨_, rfl, ?_⟩
    have n0_ := aM (pT (by repeat (first | (with_reducible first | exact HB.out | apply pA | apply pN | apply pD) | exact HB.out)) hb)
    clear HB
    have HB := n0_
    clear n0_
    (try clear hb)
    (try clear hb2)
    (try clear hk)
    (try clear hi)
    refine hK.out _ _ ⟨((HB.out.cell (wB w _ hw438_0)).trans hw438_0), ((HB.out.cell (wB w _ hw438_1)).trans hw438_1), ((HB.out.cell (wB w _ hw439_0)).trans hw439_0), ((HB.out.cell (wB w _ hw439_1)).trans hw439_1), ((HB.out.cell (wB w _ hw441_0)).trans hw441_0), ((HB.out.cell (wB w _ hw441_1)).trans hw441_1), ((HB.out.cell (wB w _ hw442_0)).trans hw442_0), ((HB.out.cell (wB w _ hw442_1)).trans hw442_1), ((HB.out.cell (wB w _ hw444_0)).trans hw444_0), ((HB.out.cell (wB w _ hw444_1)).trans hw444_1), ((HB.out.cell (wB w _ hw445_0)).trans hw445_0), ((HB.out.cell (wB w _ hw445_1)).trans hw445_1)⟩ (fun hHeld => ?_)
    clear hK K
    refine norm_ (a' := ?_) ?_ ?_
    rotate_left
    ·show Act.put _ (some 9) _ = _
     simp only [Act.put, sI, sZ, sS, i64_w, i32_w]
     rfl
    refine one_ (i := 13) (N := some 16) #[true, true, true, true, true, true, true, true, true, true, true, true, true, true, true, true, true, true, true, true, false, false, false] rfl rfl (one_of HT_.out (by kernel_rfl)) (by decide) (fun K hK => ?_)
    refine goes_ Try.func114 (by kernel_rfl) rfl #[.agg #[.int .i64 ((rd_impl_Peg l0 2).f0), .int .i64 ((rd_impl_Peg l0 2).f1)], .agg #[.int .i64 ((rd_impl_Peg l0 0).f0), .int .i64 ((rd_impl_Peg l0 0).f1)]] (by rfl) rfl rfl (by (try simp only [mA, mC, mN]); first | done | rfl | (simp only [lD, lT]; rfl)) ?_
    with_reducible refine (spec_trSquare.calls ((rd_impl_Peg l0 2).f0) ((rd_impl_Peg l0 2).f1) ((rd_impl_Peg l0 0).f0) ((rd_impl_Peg l0 0).f1) t443 _ A6.out).mono ?_
    rintro e w10 ⟨rfl, hb⟩
    refine ⟨_, rfl, ?_⟩
    have n0_ := aM (pT (by repeat (first | (with_reducible first | exact HB.out | apply pA | apply pN | apply pD) | exact HB.out)) hb)
    clear HB
    have HB := n0_
    clear n0_
    (try clear hb)
    (try clear hb2)
    (try clear hk)
    (try clear hi)
    refine hK.out _ _ ⟨((HB.out.cell (wB w _ hw438_0)).trans hw438_0), ((HB.out.cell (wB w _ hw438_1)).trans hw438_1), ((HB.out.cell (wB w _ hw439_0)).trans hw439_0), ((HB.out.cell (wB w _ hw439_1)).trans hw439_1), ((HB.out.cell (wB w _ hw441_0)).trans hw441_0), ((HB.out.cell (wB w _ hw441_1)).trans hw441_1), ((HB.out.cell (wB w _ hw442_0)).trans hw442_0), ((HB.out.cell (wB w _ hw442_1)).trans hw442_1), ((HB.out.cell (wB w _ hw444_0)).trans hw444_0), ((HB.out.cell (wB w _ hw444_1)).trans hw444_1), ((HB.out.cell (wB w _ hw445_0)).trans hw445_0), ((HB.out.cell (wB w _ hw445_1)).trans hw445_1)⟩ (fun hHeld => ?_)
    clear hK K
    refine norm_ (a' := ?_) ?_ ?_
    rotate_left
    ·show Act.put _ (some 16) _ = _
     simp only [Act.put, sI, sZ, sS, i64_w, i32_w]
     rfl
    refine one_ (i := 20) (N := some 23) #[true, true, true, true, true, true, true, true, true, true, true, true, true, true, true, true, true, true, true, true, true, false, false] rfl rfl (one_of HT_.out (by kernel_rfl)) (by decide) (fun K hK => ?_)
    refine goes_ Try.func114 (by kernel_rfl) rfl #[.agg #[.int .i64 ((rd_impl_Peg l0 0).f0), .int .i64 ((rd_impl_Peg l0 0).f1)], .agg #[.int .i64 ((rd_impl_Peg l0 1).f0), .int .i64 ((rd_impl_Peg l0 1).f1)]] (by rfl) rfl rfl (by (try simp only [mA, mC, mN]); first | done | rfl | (simp only [lD, lT]; rfl)) ?_
    with_reducible refine (spec_trSquare.calls ((rd_impl_Peg l0 0).f0) ((rd_impl_Peg l0 0).f1) ((rd_impl_Peg l0 1).f0) ((rd_impl_Peg l0 1).f1) t446 _ A7.out).mono ?_
    rintro e w11 ⟨rfl, hb⟩
    refine ⟨_, rfl, ?_⟩
    have n0_ := aM (pT (by repeat (first | (with_reducible first | exact HB.out | apply pA | apply pN | apply pD) | exact HB.out)) hb)
    clear HB
    have HB := n0_
    clear n0_
    (try clear hb)
    (try clear hb2)
    (try clear hk)
    (try clear hi)
    refine hK.out _ _ ⟨((HB.out.cell (wB w _ hw438_0)).trans hw438_0), ((HB.out.cell (wB w _ hw438_1)).trans hw438_1), ((HB.out.cell (wB w _ hw439_0)).trans hw439_0), ((HB.out.cell (wB w _ hw439_1)).trans hw439_1), ((HB.out.cell (wB w _ hw441_0)).trans hw441_0), ((HB.out.cell (wB w _ hw441_1)).trans hw441_1), ((HB.out.cell (wB w _ hw442_0)).trans hw442_0), ((HB.out.cell (wB w _ hw442_1)).trans hw442_1), ((HB.out.cell (wB w _ hw444_0)).trans hw444_0), ((HB.out.cell (wB w _ hw444_1)).trans hw444_1), ((HB.out.cell (wB w _ hw445_0)).trans hw445_0), ((HB.out.cell (wB w _ hw445_1)).trans hw445_1)⟩ (fun hHeld => ?_)
    clear hK K
    refine norm_ (a' := ?_) ?_ ?_
    rotate_left
    ·show Act.put _ (some 23) _ = _
     simp only [Act.put, sI, sZ, sS, i64_w, i32_w]
     rfl
    refine one_ (i := 21) (N := some 24) #[true, true, true, true, true, true, true, true, true, true, true, true, true, true, true, true, true, true, true, true, true, true, false] rfl rfl (one_of HT_.out (by kernel_rfl)) (by decide) (fun K hK => ?_)
    refine Kd.R_lit_step (Kd.int .i64) _ 3 ?hg (N := 24) ?hd (xs := ([t440, t443, t446] : List Int)) (inner := [.int .i64 t440, .int .i64 t443, .int .i64 t446]) (ok := fun _ => True) (okp := fun _ => True) ?hr ?hp (fun _ hk => hk) trivial (Below.refl _ _) (Nat.le_refl _) (by simp) ?_; (case hd => rfl); (case hg => rfl); (case hr => first | (go_simp; done) | (go_simp; rfl)); (case hp => exact (Reps.one (show Kd.M (Kd.int .i64) _ _ _ t440 [.int .i64 t440] from rfl) (Reps.one (show Kd.M (Kd.int .i64) _ _ _ t443 [.int .i64 t443] from rfl) (Reps.one (show Kd.M (Kd.int .i64) _ _ _ t446 [.int .i64 t446] from rfl) (Reps.none _ _)))))
    intro v448 w12 ho13 hb hg_ hnew_
    clear hg_ hnew_
    (first | rw [← Ny447.out] at ho13 | (simp only [Int.reduceToNat] at ho13; rw [← Ny447.out] at ho13))
    have n0_ := aM (Kd.R_lower ho13 (pZ (by repeat (first | (with_reducible first | exact HB.out | apply pA | apply pN | apply pD) | exact HB.out))))
    have n1_ := aM (pT (by repeat (first | (with_reducible first | exact HB.out | apply pA | apply pN | apply pD) | exact HB.out)) hb)
    clear HB
    have HO449 := n0_
    have HB := n1_
    clear n0_ n1_
    clear hb ho13
    refine hK.out _ _ ⟨((HB.out.cell (wB w _ hw438_0)).trans hw438_0), ((HB.out.cell (wB w _ hw438_1)).trans hw438_1), ((HB.out.cell (wB w _ hw439_0)).trans hw439_0), ((HB.out.cell (wB w _ hw439_1)).trans hw439_1), ((HB.out.cell (wB w _ hw441_0)).trans hw441_0), ((HB.out.cell (wB w _ hw441_1)).trans hw441_1), ((HB.out.cell (wB w _ hw442_0)).trans hw442_0), ((HB.out.cell (wB w _ hw442_1)).trans hw442_1), ((HB.out.cell (wB w _ hw444_0)).trans hw444_0), ((HB.out.cell (wB w _ hw444_1)).trans hw444_1), ((HB.out.cell (wB w _ hw445_0)).trans hw445_0), ((HB.out.cell (wB w _ hw445_1)).trans hw445_1)⟩ (fun hHeld => ?_)
    clear hK K
    refine norm_ (a' := ?_) ?_ ?_
    rotate_left
    ·show Act.put _ (some 24) _ = _
     simp only [Act.put, sI, sZ, sS, i64_w, i32_w]
     rfl
    refine pure_ (i := 22) (N := some 2) (v := ?_) (a' := ?_) #[true, true, true, true, true, true, true, true, true, true, true, true, true, true, true, true, true, true, true, true, true, true, true] rfl rfl (any_of HT_.out (by kernel_rfl)) (fun _ _ _ h => h) (Or.inl ⟨by rfl, ?_⟩) ?_ ?_
    rotate_left
    ·intro w'
     go_simp
     with_reducible rfl
    rotate_left
    ·simp only [Act.put, sI, sZ, sS, i64_w, i32_w]
     rfl
    refine done_ (done_of HT_.out (by kernel_rfl)) ?_
    try go_wp2
    go_ret
    exact ⟨_, by first | rfl | (simp [errW_none, errW_some] <;> rfl) | (simp [*, errW_none, errW_some] <;> rfl), by (with_reducible repeat (first | apply rA | apply rN | apply rD)); exact HO449.out, by repeat (first | (with_reducible first | exact HB.out | apply pA | apply pN | apply pD) | exact HB.out)⟩
   ·rw [if_neg c5] at H
    exact absurd H (by simp)
  ·rw [if_neg c3] at H
   exact absurd H (by simp)
 ·rw [if_neg c2] at H
  exact absurd H (by simp)

def spec_l1Most.f (a0 : Int) (a1 : Int) : Option (Int) := if a0 > a1 then (some a0) else (some a1)
set_option maxHeartbeats 8000000 in
set_option maxRecDepth 100000 in
theorem spec_l1Most.calls (a0 : Int) (a1 : Int) (r : Int) (w : World) (h : spec_l1Most.f a0 a1 = some r) :
  Calls Try.prog 79 #[.int .i64 a0, .int .i64 a1] w fun e w' => e = .returned (.int .i64 r) ∧ Drawn0 w w' := by
 have H : (if a0 > a1 then (some a0) else (some a1)) = some r := h
 clear h
 by_cases c3 : a0 > a1
 ·rw [if_pos c3] at H
  have c3b0 : decide (a1 < a0) = true := dE c3
  clear c3
  obtain rfl := Option.some.inj H
  go_enter Try.func79, Try.ntmps79
  go_wp2
  go_ret
  exact ⟨by first | rfl | (simp; done) | (simp [*]; done), by repeat (first | exact Drawn0.refl _ | apply Drawn0.step)⟩
 ·rw [if_neg c3] at H
  have c3b0 : decide (a1 < a0) = false := decide_eq_false c3
  clear c3
  obtain rfl := Option.some.inj H
  go_enter Try.func79, Try.ntmps79
  go_wp2
  go_ret
  exact ⟨by first | rfl | (simp; done) | (simp [*]; done), by repeat (first | exact Drawn0.refl _ | apply Drawn0.step)⟩

def spec_AngleKind.f (k : Nat) (l0 : List (S_impl_Peg)) : Option (Int × Bool) := (spec_trThree.f k l0).bind fun t450 => (if t450 = true then ((spec_trSides.f l0).bind fun t451 => (if 0 < (t451.length : Int) then (if 1 < (t451.length : Int) then (if 2 < (t451.length : Int) then ((spec_l1Most.f (rd t451 1) (rd t451 2)).bind fun t457 => ((spec_l1Most.f (rd t451 0) t457).bind fun t458 => ((spec_l1Sign.f (wrap64 ((wrap64 ((wrap64 ((rd t451 0) + (rd t451 1))) + (rd t451 2))) - (wrap64 (2 * t458))))).bind fun t462 => (some (t462, true))))) else (none)) else (none)) else (none))) else (some (0, false)))
theorem spec_AngleKind.mono : ∀ a0 k, LeO (spec_AngleKind.f k a0) (spec_AngleKind.f (k + 1) a0) := by
 intro a0 k
 unfold spec_AngleKind.f
 repeat' first
   | (with_reducible exact spec_trThree.mono _ _)
   | (with_reducible exact LeO.refl _)
   | (with_reducible exact LeO.none _)
   | (with_reducible refine LeO.ite ?_ ?_)
   | (with_reducible refine LeO.bind ?_ (fun _ => ?_))
   | exact spec_trThree.mono _ _
   | exact LeO.none _
   | refine LeO.ite ?_ ?_
   | refine LeO.bind ?_ (fun _ => ?_)
set_option maxHeartbeats 8000000 in
set_option maxRecDepth 100000 in
theorem spec_AngleKind.calls (k : Nat) (A0 : Option Addr) (c0 : Nat) (l0 : List (S_impl_Peg)) (r1 : Int) (r2 : Bool) (w : World) (hr0 : Kd.C kd_impl_Peg w A0 l0.length l0) (hc0 : l0.length ≤ c0) (h : spec_AngleKind.f k l0 = some (r1, r2)) :
  Calls Try.prog 43 #[.slice A0 l0.length c0] w fun e w' => e = .returned (.tuple #[.int .i64 r1, .bool r2]) ∧ Below w.heap.size w w' := by
 have HR0 := aM hr0
 have HC0 := aM hc0
 clear hr0 hc0
 have HB := aM (Below.refl w.heap.size w)
 have H : ((spec_trThree.f k l0).bind fun t450 => (if t450 = true then ((spec_trSides.f l0).bind fun t451 => (if 0 < (t451.length : Int) then (if 1 < (t451.length : Int) then (if 2 < (t451.length : Int) then ((spec_l1Most.f (rd t451 1) (rd t451 2)).bind fun t457 => ((spec_l1Most.f (rd t451 0) t457).bind fun t458 => ((spec_l1Sign.f (wrap64 ((wrap64 ((wrap64 ((rd t451 0) + (rd t451 1))) + (rd t451 2))) - (wrap64 (2 * t458))))).bind fun t462 => (some (t462, true))))) else (none)) else (none)) else (none))) else (some (0, false)))) = some (r1, r2) := h
 clear h
 replace H := oB.mp H
 obtain ⟨t450, A20, H⟩ := H
 replace H : (if t450 = true then ((spec_trSides.f l0).bind fun t451 => (if 0 < (t451.length : Int) then (if 1 < (t451.length : Int) then (if 2 < (t451.length : Int) then ((spec_l1Most.f (rd t451 1) (rd t451 2)).bind fun t457 => ((spec_l1Most.f (rd t451 0) t457).bind fun t458 => ((spec_l1Sign.f (wrap64 ((wrap64 ((wrap64 ((rd t451 0) + (rd t451 1))) + (rd t451 2))) - (wrap64 (2 * t458))))).bind fun t462 => (some (t462, true))))) else (none)) else (none)) else (none))) else (some (0, false))) = some (r1, r2) := H
 have A2 := aM A20
 clear A20
 by_cases c3 : t450 = true
 ·subst c3
  have H1 : ((spec_trSides.f l0).bind fun t451 => (if 0 < (t451.length : Int) then (if 1 < (t451.length : Int) then (if 2 < (t451.length : Int) then ((spec_l1Most.f (rd t451 1) (rd t451 2)).bind fun t457 => ((spec_l1Most.f (rd t451 0) t457).bind fun t458 => ((spec_l1Sign.f (wrap64 ((wrap64 ((wrap64 ((rd t451 0) + (rd t451 1))) + (rd t451 2))) - (wrap64 (2 * t458))))).bind fun t462 => (some (t462, true))))) else (none)) else (none)) else (none))) = some (r1, r2) := by rw [if_pos rfl] at H; exact H
  clear H
  have H := H1
  clear H1
  replace H := oB.mp H
  obtain ⟨t451, A40, H⟩ := H
  replace H : (if 0 < (t451.length : Int) then (if 1 < (t451.length : Int) then (if 2 < (t451.length : Int) then ((spec_l1Most.f (rd t451 1) (rd t451 2)).bind fun t457 => ((spec_l1Most.f (rd t451 0) t457).bind fun t458 => ((spec_l1Sign.f (wrap64 ((wrap64 ((wrap64 ((rd t451 0) + (rd t451 1))) + (rd t451 2))) - (wrap64 (2 * t458))))).bind fun t462 => (some (t462, true))))) else (none)) else (none)) else (none)) = some (r1, r2) := H
  have A4 := aM A40
  clear A40
  by_cases c5 : 0 < (t451.length : Int)
  ·rw [if_pos c5] at H
   have c5b0 : decide (0 < (t451.length : Int)) = true := dE c5
   have c5b1 : decide (0 < t451.length) = true := dE (by omega)
   clear c5
   by_cases c6 : 1 < (t451.length : Int)
   ·rw [if_pos c6] at H
    have c6b0 : decide (1 < (t451.length : Int)) = true := dE c6
    have c6b1 : decide (1 < t451.length) = true := dE (by omega)
    clear c6
    by_cases c7 : 2 < (t451.length : Int)
    ·rw [if_pos c7] at H
     have c7b0 : decide (2 < (t451.length : Int)) = true := dE c7
     have c7b1 : decide (2 < t451.length) = true := dE (by omega)
     clear c7
     replace H := oB.mp H
     obtain ⟨t457, A80, H⟩ := H
     replace H : ((spec_l1Most.f (rd t451 0) t457).bind fun t458 => ((spec_l1Sign.f (wrap64 ((wrap64 ((wrap64 ((rd t451 0) + (rd t451 1))) + (rd t451 2))) - (wrap64 (2 * t458))))).bind fun t462 => (some (t462, true)))) = some (r1, r2) := H
     have A8 := aM A80
     clear A80
     replace H := oB.mp H
     obtain ⟨t458, A90, H⟩ := H
     replace H : ((spec_l1Sign.f (wrap64 ((wrap64 ((wrap64 ((rd t451 0) + (rd t451 1))) + (rd t451 2))) - (wrap64 (2 * t458))))).bind fun t462 => (some (t462, true))) = some (r1, r2) := H
     have A9 := aM A90
     clear A90
     replace H := oB.mp H
     obtain ⟨t462, A100, H⟩ := H
     replace H : (some (t462, true)) = some (r1, r2) := H
     have A10 := aM A100
     clear A100
     simp only [Option.some.injEq, Prod.mk.injEq] at H
     obtain ⟨rfl, rfl⟩ := H
     go_enter Try.func43, Try.ntmps43
     go_wp2_with (first | (go_at_call 63; (with_reducible refine (spec_trThree.calls k _ _ l0 true _ ?side1 ?side2 A2.out).mono ?_); (case side1 => repeat (first | exact HR0.out | (with_reducible refine cA ?_ _) | (with_reducible refine cN ?_ _) | (with_reducible refine cD ?_))); (case side2 => exact HC0.out); rintro e w11 ⟨rfl, hb⟩; have n0_ := aM (pT (by repeat (first | (with_reducible first | exact HB.out | apply pA | apply pN | apply pD) | exact HB.out)) hb); clear HB; have HB := n0_; clear n0_; (try clear hb); (try clear hb2); (try clear hk); (try clear hi)) | (go_at_call 78; (with_reducible refine (spec_trSides.calls _ _ l0 t451 _ ?side1 ?side2 A4.out).mono ?_); (case side1 => repeat (first | exact (Kd.C_below HR0.out HB.out) | (with_reducible refine cA ?_ _) | (with_reducible refine cN ?_ _) | (with_reducible refine cD ?_))); (case side2 => exact HC0.out); rintro e w12 ⟨v452, rfl, ho0, hb⟩; have n0_ := aM (Kd.R_lower ho0 (pZ (by repeat (first | (with_reducible first | exact HB.out | apply pA | apply pN | apply pD) | exact HB.out)))); have n1_ := aM (pT (by repeat (first | (with_reducible first | exact HB.out | apply pA | apply pN | apply pD) | exact HB.out)) hb); clear HB; have HO453 := n0_; have HB := n1_; clear n0_ n1_; (try clear hb); (try clear hb2); (try clear hk); (try clear hi); (try clear ho0); obtain ⟨Ao13, co13, eo13⟩ := Kd.R_slice HO453.out; subst eo13; have p454 : 0 ≤ (0 : Int) := (by omega); have q454 : 0 < (t451.length : Int) := dT (by first | (with_reducible assumption) | assumption); obtain ⟨ad454, e454, hx454_0⟩ := Kd.at_int (rR HO453.out).2.2 0 p454 q454; cases e454; have qi454 : (0 < t451.length) = True := eq_true (by omega); (try rw [show ((0 : Int)).toNat = 0 from rfl] at hx454_0); (try rw [Addr.add_zero'] at hx454_0); replace p454 := eq_true p454; replace q454 := eq_true q454; have p455 : 0 ≤ (1 : Int) := (by omega); have q455 : 1 < (t451.length : Int) := dT (by first | (with_reducible assumption) | assumption); obtain ⟨ad455, e455, hx455_0⟩ := Kd.at_int (rR HO453.out).2.2 1 p455 q455; obtain rfl : ad454 = ad455 := (by injection e455); (try simp only [show (1 : Int).toNat = 1 from rfl, Nat.reduceMul, Nat.reduceEqDiff, Go.Addr.add, ↓reduceIte] at hx455_0); have qi455 : (1 < t451.length) = True := eq_true (by omega); (try rw [show ((1 : Int)).toNat = 1 from rfl] at hx455_0); replace p455 := eq_true p455; replace q455 := eq_true q455; have p456 : 0 ≤ (2 : Int) := (by omega); have q456 : 2 < (t451.length : Int) := dT (by first | (with_reducible assumption) | assumption); obtain ⟨ad456, e456, hx456_0⟩ := Kd.at_int (rR HO453.out).2.2 2 p456 q456; obtain rfl : ad454 = ad456 := (by injection e456); (try simp only [show (2 : Int).toNat = 2 from rfl, Nat.reduceMul, Nat.reduceEqDiff, Go.Addr.add, ↓reduceIte] at hx456_0); have qi456 : (2 < t451.length) = True := eq_true (by omega); (try rw [show ((2 : Int)).toNat = 2 from rfl] at hx456_0); replace p456 := eq_true p456; replace q456 := eq_true q456) | (go_at_call 79; (with_reducible refine (spec_l1Most.calls (rd t451 1) (rd t451 2) t457 _ A8.out).mono ?_); rintro e w' ⟨rfl, ⟨nd, rfl⟩⟩; (try first | exact ⟨rfl, _, World.drewN_drewN _ _ _⟩ | exact ⟨rfl, _, Eq.trans (World.drewN_drewN _ _ _) (congrArg (World.drewN _) (Nat.add_assoc _ _ _))⟩)) | (go_at_call 79; (with_reducible refine (spec_l1Most.calls (rd t451 0) t457 t458 _ A9.out).mono ?_); rintro e w' ⟨rfl, ⟨nd, rfl⟩⟩; (try first | exact ⟨rfl, _, World.drewN_drewN _ _ _⟩ | exact ⟨rfl, _, Eq.trans (World.drewN_drewN _ _ _) (congrArg (World.drewN _) (Nat.add_assoc _ _ _))⟩); have p459 : 0 ≤ (0 : Int) := (by omega); have q459 : 0 < (t451.length : Int) := dT (by first | (with_reducible assumption) | assumption); obtain ⟨ad459, e459, hx459_0⟩ := Kd.at_int (rR HO453.out).2.2 0 p459 q459; obtain rfl : ad454 = ad459 := (by injection e459); have qi459 : (0 < t451.length) = True := eq_true (by omega); (try rw [show ((0 : Int)).toNat = 0 from rfl] at hx459_0); (try rw [Addr.add_zero'] at hx459_0); replace p459 := eq_true p459; replace q459 := eq_true q459; have p460 : 0 ≤ (1 : Int) := (by omega); have q460 : 1 < (t451.length : Int) := dT (by first | (with_reducible assumption) | assumption); obtain ⟨ad460, e460, hx460_0⟩ := Kd.at_int (rR HO453.out).2.2 1 p460 q460; obtain rfl : ad454 = ad460 := (by injection e460); (try simp only [show (1 : Int).toNat = 1 from rfl, Nat.reduceMul, Nat.reduceEqDiff, Go.Addr.add, ↓reduceIte] at hx460_0); have qi460 : (1 < t451.length) = True := eq_true (by omega); (try rw [show ((1 : Int)).toNat = 1 from rfl] at hx460_0); replace p460 := eq_true p460; replace q460 := eq_true q460; have p461 : 0 ≤ (2 : Int) := (by omega); have q461 : 2 < (t451.length : Int) := dT (by first | (with_reducible assumption) | assumption); obtain ⟨ad461, e461, hx461_0⟩ := Kd.at_int (rR HO453.out).2.2 2 p461 q461; obtain rfl : ad454 = ad461 := (by injection e461); (try simp only [show (2 : Int).toNat = 2 from rfl, Nat.reduceMul, Nat.reduceEqDiff, Go.Addr.add, ↓reduceIte] at hx461_0); have qi461 : (2 < t451.length) = True := eq_true (by omega); (try rw [show ((2 : Int)).toNat = 2 from rfl] at hx461_0); replace p461 := eq_true p461; replace q461 := eq_true q461) | (go_at_call 80; (with_reducible refine (spec_l1Sign.calls (wrap64 ((wrap64 ((wrap64 ((rd t451 0) + (rd t451 1))) + (rd t451 2))) - (wrap64 (2 * t458)))) t462 _ A10.out).mono ?_); rintro e w' ⟨rfl, ⟨nd, rfl⟩⟩; (try first | exact ⟨rfl, _, World.drewN_drewN _ _ _⟩ | exact ⟨rfl, _, Eq.trans (World.drewN_drewN _ _ _) (congrArg (World.drewN _) (Nat.add_assoc _ _ _))⟩)))
     repeat (go_quiet (first | (go_at_call 63; (with_reducible refine (spec_trThree.calls k _ _ l0 true _ ?side1 ?side2 A2.out).mono ?_); (case side1 => repeat (first | exact HR0.out | (with_reducible refine cA ?_ _) | (with_reducible refine cN ?_ _) | (with_reducible refine cD ?_))); (case side2 => exact HC0.out); rintro e w11 ⟨rfl, hb⟩; have n0_ := aM (pT (by repeat (first | (with_reducible first | exact HB.out | apply pA | apply pN | apply pD) | exact HB.out)) hb); clear HB; have HB := n0_; clear n0_; (try clear hb); (try clear hb2); (try clear hk); (try clear hi)) | (go_at_call 78; (with_reducible refine (spec_trSides.calls _ _ l0 t451 _ ?side1 ?side2 A4.out).mono ?_); (case side1 => repeat (first | exact (Kd.C_below HR0.out HB.out) | (with_reducible refine cA ?_ _) | (with_reducible refine cN ?_ _) | (with_reducible refine cD ?_))); (case side2 => exact HC0.out); rintro e w12 ⟨v452, rfl, ho0, hb⟩; have n0_ := aM (Kd.R_lower ho0 (pZ (by repeat (first | (with_reducible first | exact HB.out | apply pA | apply pN | apply pD) | exact HB.out)))); have n1_ := aM (pT (by repeat (first | (with_reducible first | exact HB.out | apply pA | apply pN | apply pD) | exact HB.out)) hb); clear HB; have HO453 := n0_; have HB := n1_; clear n0_ n1_; (try clear hb); (try clear hb2); (try clear hk); (try clear hi); (try clear ho0); obtain ⟨Ao13, co13, eo13⟩ := Kd.R_slice HO453.out; subst eo13; have p454 : 0 ≤ (0 : Int) := (by omega); have q454 : 0 < (t451.length : Int) := dT (by first | (with_reducible assumption) | assumption); obtain ⟨ad454, e454, hx454_0⟩ := Kd.at_int (rR HO453.out).2.2 0 p454 q454; cases e454; have qi454 : (0 < t451.length) = True := eq_true (by omega); (try rw [show ((0 : Int)).toNat = 0 from rfl] at hx454_0); (try rw [Addr.add_zero'] at hx454_0); replace p454 := eq_true p454; replace q454 := eq_true q454; have p455 : 0 ≤ (1 : Int) := (by omega); have q455 : 1 < (t451.length : Int) := dT (by first | (with_reducible assumption) | assumption); obtain ⟨ad455, e455, hx455_0⟩ := Kd.at_int (rR HO453.out).2.2 1 p455 q455; obtain rfl : ad454 = ad455 := (by injection e455); (try simp only [show (1 : Int).toNat = 1 from rfl, Nat.reduceMul, Nat.reduceEqDiff, Go.Addr.add, ↓reduceIte] at hx455_0); have qi455 : (1 < t451.length) = True := eq_true (by omega); (try rw [show ((1 : Int)).toNat = 1 from rfl] at hx455_0); replace p455 := eq_true p455; replace q455 := eq_true q455; have p456 : 0 ≤ (2 : Int) := (by omega); have q456 : 2 < (t451.length : Int) := dT (by first | (with_reducible assumption) | assumption); obtain ⟨ad456, e456, hx456_0⟩ := Kd.at_int (rR HO453.out).2.2 2 p456 q456; obtain rfl : ad454 = ad456 := (by injection e456); (try simp only [show (2 : Int).toNat = 2 from rfl, Nat.reduceMul, Nat.reduceEqDiff, Go.Addr.add, ↓reduceIte] at hx456_0); have qi456 : (2 < t451.length) = True := eq_true (by omega); (try rw [show ((2 : Int)).toNat = 2 from rfl] at hx456_0); replace p456 := eq_true p456; replace q456 := eq_true q456) | (go_at_call 79; (with_reducible refine (spec_l1Most.calls (rd t451 1) (rd t451 2) t457 _ A8.out).mono ?_); rintro e w' ⟨rfl, ⟨nd, rfl⟩⟩; (try first | exact ⟨rfl, _, World.drewN_drewN _ _ _⟩ | exact ⟨rfl, _, Eq.trans (World.drewN_drewN _ _ _) (congrArg (World.drewN _) (Nat.add_assoc _ _ _))⟩)) | (go_at_call 79; (with_reducible refine (spec_l1Most.calls (rd t451 0) t457 t458 _ A9.out).mono ?_); rintro e w' ⟨rfl, ⟨nd, rfl⟩⟩; (try first | exact ⟨rfl, _, World.drewN_drewN _ _ _⟩ | exact ⟨rfl, _, Eq.trans (World.drewN_drewN _ _ _) (congrArg (World.drewN _) (Nat.add_assoc _ _ _))⟩); have p459 : 0 ≤ (0 : Int) := (by omega); have q459 : 0 < (t451.length : Int) := dT (by first | (with_reducible assumption) | assumption); obtain ⟨ad459, e459, hx459_0⟩ := Kd.at_int (rR HO453.out).2.2 0 p459 q459; obtain rfl : ad454 = ad459 := (by injection e459); have qi459 : (0 < t451.length) = True := eq_true (by omega); (try rw [show ((0 : Int)).toNat = 0 from rfl] at hx459_0); (try rw [Addr.add_zero'] at hx459_0); replace p459 := eq_true p459; replace q459 := eq_true q459; have p460 : 0 ≤ (1 : Int) := (by omega); have q460 : 1 < (t451.length : Int) := dT (by first | (with_reducible assumption) | assumption); obtain ⟨ad460, e460, hx460_0⟩ := Kd.at_int (rR HO453.out).2.2 1 p460 q460; obtain rfl : ad454 = ad460 := (by injection e460); (try simp only [show (1 : Int).toNat = 1 from rfl, Nat.reduceMul, Nat.reduceEqDiff, Go.Addr.add, ↓reduceIte] at hx460_0); have qi460 : (1 < t451.length) = True := eq_true (by omega); (try rw [show ((1 : Int)).toNat = 1 from rfl] at hx460_0); replace p460 := eq_true p460; replace q460 := eq_true q460; have p461 : 0 ≤ (2 : Int) := (by omega); have q461 : 2 < (t451.length : Int) := dT (by first | (with_reducible assumption) | assumption); obtain ⟨ad461, e461, hx461_0⟩ := Kd.at_int (rR HO453.out).2.2 2 p461 q461; obtain rfl : ad454 = ad461 := (by injection e461); (try simp only [show (2 : Int).toNat = 2 from rfl, Nat.reduceMul, Nat.reduceEqDiff, Go.Addr.add, ↓reduceIte] at hx461_0); have qi461 : (2 < t451.length) = True := eq_true (by omega); (try rw [show ((2 : Int)).toNat = 2 from rfl] at hx461_0); replace p461 := eq_true p461; replace q461 := eq_true q461) | (go_at_call 80; (with_reducible refine (spec_l1Sign.calls (wrap64 ((wrap64 ((wrap64 ((rd t451 0) + (rd t451 1))) + (rd t451 2))) - (wrap64 (2 * t458)))) t462 _ A10.out).mono ?_); rintro e w' ⟨rfl, ⟨nd, rfl⟩⟩; (try first | exact ⟨rfl, _, World.drewN_drewN _ _ _⟩ | exact ⟨rfl, _, Eq.trans (World.drewN_drewN _ _ _) (congrArg (World.drewN _) (Nat.add_assoc _ _ _))⟩))); try go_wp2_with (first | (go_at_call 63; (with_reducible refine (spec_trThree.calls k _ _ l0 true _ ?side1 ?side2 A2.out).mono ?_); (case side1 => repeat (first | exact HR0.out | (with_reducible refine cA ?_ _) | (with_reducible refine cN ?_ _) | (with_reducible refine cD ?_))); (case side2 => exact HC0.out); rintro e w11 ⟨rfl, hb⟩; have n0_ := aM (pT (by repeat (first | (with_reducible first | exact HB.out | apply pA | apply pN | apply pD) | exact HB.out)) hb); clear HB; have HB := n0_; clear n0_; (try clear hb); (try clear hb2); (try clear hk); (try clear hi)) | (go_at_call 78; (with_reducible refine (spec_trSides.calls _ _ l0 t451 _ ?side1 ?side2 A4.out).mono ?_); (case side1 => repeat (first | exact (Kd.C_below HR0.out HB.out) | (with_reducible refine cA ?_ _) | (with_reducible refine cN ?_ _) | (with_reducible refine cD ?_))); (case side2 => exact HC0.out); rintro e w12 ⟨v452, rfl, ho0, hb⟩; have n0_ := aM (Kd.R_lower ho0 (pZ (by repeat (first | (with_reducible first | exact HB.out | apply pA | apply pN | apply pD) | exact HB.out)))); have n1_ := aM (pT (by repeat (first | (with_reducible first | exact HB.out | apply pA | apply pN | apply pD) | exact HB.out)) hb); clear HB; have HO453 := n0_; have HB := n1_; clear n0_ n1_; (try clear hb); (try clear hb2); (try clear hk); (try clear hi); (try clear ho0); obtain ⟨Ao13, co13, eo13⟩ := Kd.R_slice HO453.out; subst eo13; have p454 : 0 ≤ (0 : Int) := (by omega); have q454 : 0 < (t451.length : Int) := dT (by first | (with_reducible assumption) | assumption); obtain ⟨ad454, e454, hx454_0⟩ := Kd.at_int (rR HO453.out).2.2 0 p454 q454; cases e454; have qi454 : (0 < t451.length) = True := eq_true (by omega); (try rw [show ((0 : Int)).toNat = 0 from rfl] at hx454_0); (try rw [Addr.add_zero'] at hx454_0); replace p454 := eq_true p454; replace q454 := eq_true q454; have p455 : 0 ≤ (1 : Int) := (by omega); have q455 : 1 < (t451.length : Int) := dT (by first | (with_reducible assumption) | assumption); obtain ⟨ad455, e455, hx455_0⟩ := Kd.at_int (rR HO453.out).2.2 1 p455 q455; obtain rfl : ad454 = ad455 := (by injection e455); (try simp only [show (1 : Int).toNat = 1 from rfl, Nat.reduceMul, Nat.reduceEqDiff, Go.Addr.add, ↓reduceIte] at hx455_0); have qi455 : (1 < t451.length) = True := eq_true (by omega); (try rw [show ((1 : Int)).toNat = 1 from rfl] at hx455_0); replace p455 := eq_true p455; replace q455 := eq_true q455; have p456 : 0 ≤ (2 : Int) := (by omega); have q456 : 2 < (t451.length : Int) := dT (by first | (with_reducible assumption) | assumption); obtain ⟨ad456, e456, hx456_0⟩ := Kd.at_int (rR HO453.out).2.2 2 p456 q456; obtain rfl : ad454 = ad456 := (by injection e456); (try simp only [show (2 : Int).toNat = 2 from rfl, Nat.reduceMul, Nat.reduceEqDiff, Go.Addr.add, ↓reduceIte] at hx456_0); have qi456 : (2 < t451.length) = True := eq_true (by omega); (try rw [show ((2 : Int)).toNat = 2 from rfl] at hx456_0); replace p456 := eq_true p456; replace q456 := eq_true q456) | (go_at_call 79; (with_reducible refine (spec_l1Most.calls (rd t451 1) (rd t451 2) t457 _ A8.out).mono ?_); rintro e w' ⟨rfl, ⟨nd, rfl⟩⟩; (try first | exact ⟨rfl, _, World.drewN_drewN _ _ _⟩ | exact ⟨rfl, _, Eq.trans (World.drewN_drewN _ _ _) (congrArg (World.drewN _) (Nat.add_assoc _ _ _))⟩)) | (go_at_call 79; (with_reducible refine (spec_l1Most.calls (rd t451 0) t457 t458 _ A9.out).mono ?_); rintro e w' ⟨rfl, ⟨nd, rfl⟩⟩; (try first | exact ⟨rfl, _, World.drewN_drewN _ _ _⟩ | exact ⟨rfl, _, Eq.trans (World.drewN_drewN _ _ _) (congrArg (World.drewN _) (Nat.add_assoc _ _ _))⟩); have p459 : 0 ≤ (0 : Int) := (by omega); have q459 : 0 < (t451.length : Int) := dT (by first | (with_reducible assumption) | assumption); obtain ⟨ad459, e459, hx459_0⟩ := Kd.at_int (rR HO453.out).2.2 0 p459 q459; obtain rfl : ad454 = ad459 := (by injection e459); have qi459 : (0 < t451.length) = True := eq_true (by omega); (try rw [show ((0 : Int)).toNat = 0 from rfl] at hx459_0); (try rw [Addr.add_zero'] at hx459_0); replace p459 := eq_true p459; replace q459 := eq_true q459; have p460 : 0 ≤ (1 : Int) := (by omega); have q460 : 1 < (t451.length : Int) := dT (by first | (with_reducible assumption) | assumption); obtain ⟨ad460, e460, hx460_0⟩ := Kd.at_int (rR HO453.out).2.2 1 p460 q460; obtain rfl : ad454 = ad460 := (by injection e460); (try simp only [show (1 : Int).toNat = 1 from rfl, Nat.reduceMul, Nat.reduceEqDiff, Go.Addr.add, ↓reduceIte] at hx460_0); have qi460 : (1 < t451.length) = True := eq_true (by omega); (try rw [show ((1 : Int)).toNat = 1 from rfl] at hx460_0); replace p460 := eq_true p460; replace q460 := eq_true q460; have p461 : 0 ≤ (2 : Int) := (by omega); have q461 : 2 < (t451.length : Int) := dT (by first | (with_reducible assumption) | assumption); obtain ⟨ad461, e461, hx461_0⟩ := Kd.at_int (rR HO453.out).2.2 2 p461 q461; obtain rfl : ad454 = ad461 := (by injection e461); (try simp only [show (2 : Int).toNat = 2 from rfl, Nat.reduceMul, Nat.reduceEqDiff, Go.Addr.add, ↓reduceIte] at hx461_0); have qi461 : (2 < t451.length) = True := eq_true (by omega); (try rw [show ((2 : Int)).toNat = 2 from rfl] at hx461_0); replace p461 := eq_true p461; replace q461 := eq_true q461) | (go_at_call 80; (with_reducible refine (spec_l1Sign.calls (wrap64 ((wrap64 ((wrap64 ((rd t451 0) + (rd t451 1))) + (rd t451 2))) - (wrap64 (2 * t458)))) t462 _ A10.out).mono ?_); rintro e w' ⟨rfl, ⟨nd, rfl⟩⟩; (try first | exact ⟨rfl, _, World.drewN_drewN _ _ _⟩ | exact ⟨rfl, _, Eq.trans (World.drewN_drewN _ _ _) (congrArg (World.drewN _) (Nat.add_assoc _ _ _))⟩))))
     go_ret2
     exact ⟨by first | rfl | (simp [errW_none, errW_some] <;> rfl) | (simp [*, errW_none, errW_some] <;> rfl), by repeat (first | (with_reducible first | exact HB.out | apply pA | apply pN | apply pD) | exact HB.out)⟩
    ·rw [if_neg c7] at H
     exact absurd H (by simp)
   ·rw [if_neg c6] at H
    exact absurd H (by simp)
  ·rw [if_neg c5] at H
   exact absurd H (by simp)
 ·replace c3 := Bool.eq_false_iff.mpr c3
  subst c3
  have H1 : (some (0, false)) = some (r1, r2) := by rw [if_neg (show ¬ (false = true) by decide)] at H; exact H
  clear H
  have H := H1
  clear H1
  simp only [Option.some.injEq, Prod.mk.injEq] at H
  obtain ⟨rfl, rfl⟩ := H
  go_enter Try.func43, Try.ntmps43
  go_wp2_with (first | (go_at_call 63; (with_reducible refine (spec_trThree.calls k _ _ l0 false _ ?side1 ?side2 A2.out).mono ?_); (case side1 => repeat (first | exact HR0.out | (with_reducible refine cA ?_ _) | (with_reducible refine cN ?_ _) | (with_reducible refine cD ?_))); (case side2 => exact HC0.out); rintro e w14 ⟨rfl, hb⟩; have n0_ := aM (pT (by repeat (first | (with_reducible first | exact HB.out | apply pA | apply pN | apply pD) | exact HB.out)) hb); clear HB; have HB := n0_; clear n0_; (try clear hb); (try clear hb2); (try clear hk); (try clear hi)))
  repeat (go_quiet (first | (go_at_call 63; (with_reducible refine (spec_trThree.calls k _ _ l0 false _ ?side1 ?side2 A2.out).mono ?_); (case side1 => repeat (first | exact HR0.out | (with_reducible refine cA ?_ _) | (with_reducible refine cN ?_ _) | (with_reducible refine cD ?_))); (case side2 => exact HC0.out); rintro e w14 ⟨rfl, hb⟩; have n0_ := aM (pT (by repeat (first | (with_reducible first | exact HB.out | apply pA | apply pN | apply pD) | exact HB.out)) hb); clear HB; have HB := n0_; clear n0_; (try clear hb); (try clear hb2); (try clear hk); (try clear hi))); try go_wp2_with (first | (go_at_call 63; (with_reducible refine (spec_trThree.calls k _ _ l0 false _ ?side1 ?side2 A2.out).mono ?_); (case side1 => repeat (first | exact HR0.out | (with_reducible refine cA ?_ _) | (with_reducible refine cN ?_ _) | (with_reducible refine cD ?_))); (case side2 => exact HC0.out); rintro e w14 ⟨rfl, hb⟩; have n0_ := aM (pT (by repeat (first | (with_reducible first | exact HB.out | apply pA | apply pN | apply pD) | exact HB.out)) hb); clear HB; have HB := n0_; clear n0_; (try clear hb); (try clear hb2); (try clear hk); (try clear hi))))
  go_ret2
  exact ⟨by first | rfl | (simp [errW_none, errW_some] <;> rfl) | (simp [*, errW_none, errW_some] <;> rfl), by repeat (first | (with_reducible first | exact HB.out | apply pA | apply pN | apply pD) | exact HB.out)⟩

def impl_Peg_square.f (a0_0 : Int) (a0_1 : Int) : Option (Int) := some (wrap64 ((wrap64 (a0_0 * a0_0)) + (wrap64 (a0_1 * a0_1))))
set_option maxHeartbeats 8000000 in
set_option maxRecDepth 100000 in
theorem impl_Peg_square.calls (a0_0 : Int) (a0_1 : Int) (r : Int) (w : World) (h : impl_Peg_square.f a0_0 a0_1 = some r) :
  Calls Try.prog 115 #[.agg #[.int .i64 a0_0, .int .i64 a0_1]] w fun e w' => e = .returned (.int .i64 r) ∧ Below w.heap.size w w' := by
 have hu62 := Try.underlying62
 have HB := aM (Below.refl w.heap.size w)
 have H : (some (wrap64 ((wrap64 (a0_0 * a0_0)) + (wrap64 (a0_1 * a0_1))))) = some r := h
 clear h
 obtain rfl := Option.some.inj H
 go_enter Try.func115, Try.ntmps115
 go_wp2_with (first | ((with_reducible refine gate_dst (N := 1) rfl ?_); refine box_event ?hg (N := 1) ?hd (cs := #[.int .i64 a0_0, .int .i64 a0_1]) (t := 62) ?hr ?_; (case hd => rfl); (case hg => rfl); (case hr => first | (go_simp; done) | (go_simp; rfl)); intro gb463 hg w2 hbox hb; have n0_ := aM (pT (by repeat (first | (with_reducible first | exact HB.out | apply pA | apply pN | apply pD) | exact HB.out)) hb); have n1_ := aM (hbox); have n2_ := aM ((by rw [hg]; exact (pZ (by repeat (first | (with_reducible first | exact HB.out | apply pA | apply pN | apply pD) | exact HB.out))) : w.heap.size ≤ gb463)); have n3_ := aM ((by rw [hg]; exact (pZ (by repeat (first | (with_reducible first | exact HB.out | apply pA | apply pN | apply pD) | exact HB.out))) : w.heap.size ≤ gb463)); clear HB; have HB := n0_; have BK463 := n1_; have GW463 := n2_; have GE463 := n3_; clear n0_ n1_ n2_ n3_; clear hb hbox hg; have hcz3_0 : w2.cell? ⟨gb463, 0, none⟩ = some (.int .i64 a0_0) := (kC BK463.out 0).trans rfl; have hcz3_1 : w2.cell? ⟨gb463, 1, none⟩ = some (.int .i64 a0_1) := (kC BK463.out 1).trans rfl; have hfz3_0 := kF BK463.out 0; have hfz3_1 := kF BK463.out 1))
 go_ret
 exact ⟨by first | rfl | (simp [errW_none, errW_some] <;> rfl) | (simp [*, errW_none, errW_some] <;> rfl), by repeat (first | (with_reducible first | exact HB.out | apply pA | apply pN | apply pD | refine pS ?_ GE463.out) | exact HB.out)⟩

end Go.Proofs.Ytnlkglbpihgcmaa.X
