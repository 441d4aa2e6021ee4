-- thin
-- short
import Derived.Test.YtnlkglbpihgcmaaXA
import Derived.Test.YtnlkglbpihgcmaaX0
import Derived.Test.YtnlkglbpihgcmaaX7
import Derived.Test.YtnlkglbpihgcmaaX11
namespace Go.Proofs.Ytnlkglbpihgcmaa.X
open Go.RowKit Go.Proofs.Ytnlkglbpihgcmaa.XW Go.Proofs.YtnlkglbpihgcmaaW.PrintWords Go.Proofs.YtnlkglbpihgcmaaW.PrintLast Go.Proofs.YtnlkglbpihgcmaaW.PrintMore
attribute [local go_sem] max2_int min2_int max_two min_two max_three min_three max_four min_four   -- for this text's walks alone
set_option linter.unusedVariables false
set_option linter.unusedSimpArgs false

def spec_trThree.f (k : Nat) (l0 : List (S_impl_Peg)) : Option (Bool) := if (l0.length : Int) = 3 then ((spec_pgGood.f k l0).bind fun t305 => (some t305)) else (some false)
theorem spec_trThree.mono : ∀ a0 k, LeO (spec_trThree.f k a0) (spec_trThree.f (k + 1) a0) := by
 intro a0 k
 unfold spec_trThree.f
 repeat' first
   | (with_reducible exact spec_pgGood.mono _ _)
   | (with_reducible exact LeO.refl _)
   | (with_reducible exact LeO.none _)
   | (with_reducible refine LeO.ite ?_ ?_)
   | (with_reducible refine LeO.bind ?_ (fun _ => ?_))
   | exact spec_pgGood.mono _ _
   | exact LeO.none _
   | refine LeO.ite ?_ ?_
   | refine LeO.bind ?_ (fun _ => ?_)
set_option maxHeartbeats 8000000 in
set_option maxRecDepth 100000 in
theorem spec_trThree.calls (k : Nat) (A0 : Option Addr) (c0 : Nat) (l0 : List (S_impl_Peg)) (r : Bool) (w : World) (hr0 : Kd.C kd_impl_Peg w A0 l0.length l0) (hc0 : l0.length ≤ c0) (h : spec_trThree.f k l0 = some r) :
  Calls Try.prog 63 #[.slice A0 l0.length c0] w fun e w' => e = .returned (.bool r) ∧ Below w.heap.size w w' := by
 have HR0 := aM hr0
 have HC0 := aM hc0
 clear hr0 hc0
 have HB := aM (Below.refl w.heap.size w)
 have H : (if (l0.length : Int) = 3 then ((spec_pgGood.f k l0).bind fun t305 => (some t305)) else (some false)) = some r := h
 clear h
 by_cases c2 : (l0.length : Int) = 3
 ·rw [if_pos c2] at H
  have c2b0 : ((l0.length : Int) == 3) = true := beq_iff_eq.mpr c2
  have c2b1 : ((l0.length : Int) != 3) = false := bne_eq_false_iff_eq.mpr c2
  clear c2
  replace H := oB.mp H
  obtain ⟨t305, A30, H⟩ := H
  replace H : (some t305) = some r := H
  have A3 := aM A30
  clear A30
  obtain rfl := Option.some.inj H
  go_enter Try.func63, Try.ntmps63
  go_wp2_with (first | (go_at_call 55; (with_reducible refine (spec_pgGood.calls k _ _ l0 t305 _ ?side1 ?side2 A3.out).mono ?_); (case side1 => repeat (first | exact HR0.out | (with_reducible refine cA ?_ _) | (with_reducible refine cN ?_ _) | (with_reducible refine cD ?_))); (case side2 => exact HC0.out); rintro e w4 ⟨rfl, hb⟩; have n0_ := aM (pT (by repeat (first | (with_reducible first | exact HB.out | apply pA | apply pN | apply pD) | exact HB.out)) hb); clear HB; have HB := n0_; clear n0_; (try clear hb); (try clear hb2); (try clear hk); (try clear hi)))
  go_ret
  exact ⟨by first | rfl | (simp [errW_none, errW_some] <;> rfl) | (simp [*, errW_none, errW_some] <;> rfl), by repeat (first | (with_reducible first | exact HB.out | apply pA | apply pN | apply pD) | exact HB.out)⟩
 ·rw [if_neg c2] at H
  have c2b0 : ((l0.length : Int) == 3) = false := beq_eq_false_iff_ne.mpr c2
  have c2b1 : ((l0.length : Int) != 3) = true := bne_iff_ne.mpr c2
  obtain rfl := Option.some.inj H
  go_enter Try.func63, Try.ntmps63
  go_wp2
  go_ret
  exact ⟨by first | rfl | (simp [errW_none, errW_some] <;> rfl) | (simp [*, errW_none, errW_some] <;> rfl), by repeat (first | (with_reducible first | exact HB.out | apply pA | apply pN | apply pD) | exact HB.out)⟩

def spec_ThriceCentre.f (k : Nat) (l0 : List (S_impl_Peg)) : Option (Int × Int × Bool) := (spec_trThree.f k l0).bind fun t306 => (if t306 = true then (if 0 < (l0.length : Int) then (if 1 < (l0.length : Int) then (if 2 < (l0.length : Int) then (some (wrap64 ((wrap64 (((rd_impl_Peg l0 0).f0) + ((rd_impl_Peg l0 1).f0))) + ((rd_impl_Peg l0 2).f0)), wrap64 ((wrap64 (((rd_impl_Peg l0 0).f1) + ((rd_impl_Peg l0 1).f1))) + ((rd_impl_Peg l0 2).f1)), true)) else (none)) else (none)) else (none)) else (some (0, 0, false)))
theorem spec_ThriceCentre.mono : ∀ a0 k, LeO (spec_ThriceCentre.f k a0) (spec_ThriceCentre.f (k + 1) a0) := by
 intro a0 k
 unfold spec_ThriceCentre.f
 repeat' first
   | (with_reducible exact spec_trThree.mono _ _)
   | (with_reducible exact LeO.refl _)
   | (with_reducible exact LeO.none _)
   | (with_reducible refine LeO.ite ?_ ?_)
   | (with_reducible refine LeO.bind ?_ (fun _ => ?_))
   | exact spec_trThree.mono _ _
   | exact LeO.none _
   | refine LeO.ite ?_ ?_
   | refine LeO.bind ?_ (fun _ => ?_)
set_option maxHeartbeats 8000000 in
set_option maxRecDepth 100000 in
theorem spec_ThriceCentre.calls (k : Nat) (A0 : Option Addr) (c0 : Nat) (l0 : List (S_impl_Peg)) (r1 : Int) (r2 : Int) (r3 : Bool) (w : World) (hr0 : Kd.C kd_impl_Peg w A0 l0.length l0) (hc0 : l0.length ≤ c0) (h : spec_ThriceCentre.f k l0 = some (r1, r2, r3)) :
  Calls Try.prog 25 #[.slice A0 l0.length c0] w fun e w' => e = .returned (.tuple #[.int .i64 r1, .int .i64 r2, .bool r3]) ∧ Below w.heap.size w w' := by
 have HR0 := aM hr0
 have HC0 := aM hc0
 clear hr0 hc0
 have HB := aM (Below.refl w.heap.size w)
 have H : ((spec_trThree.f k l0).bind fun t306 => (if t306 = true then (if 0 < (l0.length : Int) then (if 1 < (l0.length : Int) then (if 2 < (l0.length : Int) then (some (wrap64 ((wrap64 (((rd_impl_Peg l0 0).f0) + ((rd_impl_Peg l0 1).f0))) + ((rd_impl_Peg l0 2).f0)), wrap64 ((wrap64 (((rd_impl_Peg l0 0).f1) + ((rd_impl_Peg l0 1).f1))) + ((rd_impl_Peg l0 2).f1)), true)) else (none)) else (none)) else (none)) else (some (0, 0, false)))) = some (r1, r2, r3) := h
 clear h
 replace H := oB.mp H
 obtain ⟨t306, A20, H⟩ := H
 replace H : (if t306 = true then (if 0 < (l0.length : Int) then (if 1 < (l0.length : Int) then (if 2 < (l0.length : Int) then (some (wrap64 ((wrap64 (((rd_impl_Peg l0 0).f0) + ((rd_impl_Peg l0 1).f0))) + ((rd_impl_Peg l0 2).f0)), wrap64 ((wrap64 (((rd_impl_Peg l0 0).f1) + ((rd_impl_Peg l0 1).f1))) + ((rd_impl_Peg l0 2).f1)), true)) else (none)) else (none)) else (none)) else (some (0, 0, false))) = some (r1, r2, r3) := H
 have A2 := aM A20
 clear A20
 by_cases c3 : t306 = true
 ·subst c3
  have H1 : (if 0 < (l0.length : Int) then (if 1 < (l0.length : Int) then (if 2 < (l0.length : Int) then (some (wrap64 ((wrap64 (((rd_impl_Peg l0 0).f0) + ((rd_impl_Peg l0 1).f0))) + ((rd_impl_Peg l0 2).f0)), wrap64 ((wrap64 (((rd_impl_Peg l0 0).f1) + ((rd_impl_Peg l0 1).f1))) + ((rd_impl_Peg l0 2).f1)), true)) else (none)) else (none)) else (none)) = some (r1, r2, r3) := by rw [if_pos rfl] at H; exact H
  clear H
  have H := H1
  clear H1
  by_cases c4 : 0 < (l0.length : Int)
  ·rw [if_pos c4] at H
   have c4b0 : decide (0 < (l0.length : Int)) = true := dE c4
   have c4b1 : decide (0 < l0.length) = true := dE (by omega)
   clear c4
   by_cases c5 : 1 < (l0.length : Int)
   ·rw [if_pos c5] at H
    have c5b0 : decide (1 < (l0.length : Int)) = true := dE c5
    have c5b1 : decide (1 < l0.length) = true := dE (by omega)
    clear c5
    by_cases c6 : 2 < (l0.length : Int)
    ·rw [if_pos c6] at H
     have c6b0 : decide (2 < (l0.length : Int)) = true := dE c6
     have c6b1 : decide (2 < l0.length) = true := dE (by omega)
     clear c6
     simp only [Option.some.injEq, Prod.mk.injEq] at H
     obtain ⟨rfl, rfl, rfl⟩ := H
     go_enter Try.func25, Try.ntmps25
     go_wp2_with (first | (go_at_call 63; (with_reducible refine (spec_trThree.calls k _ _ l0 true _ ?side1 ?side2 A2.out).mono ?_); (case side1 => repeat (first | exact HR0.out | (with_reducible refine cA ?_ _) | (with_reducible refine cN ?_ _) | (with_reducible refine cD ?_))); (case side2 => exact HC0.out); rintro e w7 ⟨rfl, hb⟩; have n0_ := aM (pT (by repeat (first | (with_reducible first | exact HB.out | apply pA | apply pN | apply pD) | exact HB.out)) hb); clear HB; have HB := n0_; clear n0_; (try clear hb); (try clear hb2); (try clear hk); (try clear hi); have p307 : 0 ≤ (0 : Int) := (by omega); have q307 : 0 < (l0.length : Int) := dT (by first | (with_reducible assumption) | assumption); obtain ⟨ad307, e307, hx307_0, hx307_1⟩ := at_impl_Peg HR0.out 0 p307 q307; cases e307; have qi307 : (0 < l0.length) = True := eq_true (by omega); (try rw [show ((0 : Int)).toNat = 0 from rfl] at hx307_0); (try rw [show 0 * 2 = 0 from rfl] at hx307_0); (try rw [Addr.add_zero'] at hx307_0); (try rw [show ((0 : Int)).toNat = 0 from rfl] at hx307_1); (try rw [show 0 * 2 = 0 from rfl] at hx307_1); (try rw [Addr.add_zero'] at hx307_1); replace hx307_0 := (HB.out.cell (wB w _ hx307_0)).trans hx307_0; replace hx307_1 := (HB.out.cell (wB w _ hx307_1)).trans hx307_1; replace p307 := eq_true p307; replace q307 := eq_true q307; have p308 : 0 ≤ (1 : Int) := (by omega); have q308 : 1 < (l0.length : Int) := dT (by first | (with_reducible assumption) | assumption); obtain ⟨ad308, e308, hx308_0, hx308_1⟩ := at_impl_Peg HR0.out 1 p308 q308; obtain rfl : ad307 = ad308 := (by injection e308); (try simp only [show (1 : Int).toNat = 1 from rfl, Nat.reduceMul, Nat.reduceEqDiff, Go.Addr.add, ↓reduceIte] at hx308_0); (try simp only [show (1 : Int).toNat = 1 from rfl, Nat.reduceMul, Nat.reduceEqDiff, Go.Addr.add, ↓reduceIte] at hx308_1); have qi308 : (1 < l0.length) = True := eq_true (by omega); (try rw [show ((1 : Int)).toNat = 1 from rfl] at hx308_0); (try rw [show 1 * 2 = 2 from rfl] at hx308_0); (try rw [show ((1 : Int)).toNat = 1 from rfl] at hx308_1); (try rw [show 1 * 2 = 2 from rfl] at hx308_1); replace hx308_0 := (HB.out.cell (wB w _ hx308_0)).trans hx308_0; replace hx308_1 := (HB.out.cell (wB w _ hx308_1)).trans hx308_1; replace p308 := eq_true p308; replace q308 := eq_true q308; have p309 : 0 ≤ (2 : Int) := (by omega); have q309 : 2 < (l0.length : Int) := dT (by first | (with_reducible assumption) | assumption); obtain ⟨ad309, e309, hx309_0, hx309_1⟩ := at_impl_Peg HR0.out 2 p309 q309; obtain rfl : ad307 = ad309 := (by injection e309); (try simp only [show (2 : Int).toNat = 2 from rfl, Nat.reduceMul, Nat.reduceEqDiff, Go.Addr.add, ↓reduceIte] at hx309_0); (try simp only [show (2 : Int).toNat = 2 from rfl, Nat.reduceMul, Nat.reduceEqDiff, Go.Addr.add, ↓reduceIte] at hx309_1); have qi309 : (2 < l0.length) = True := eq_true (by omega); (try rw [show ((2 : Int)).toNat = 2 from rfl] at hx309_0); (try rw [show 2 * 2 = 4 from rfl] at hx309_0); (try rw [show ((2 : Int)).toNat = 2 from rfl] at hx309_1); (try rw [show 2 * 2 = 4 from rfl] at hx309_1); replace hx309_0 := (HB.out.cell (wB w _ hx309_0)).trans hx309_0; replace hx309_1 := (HB.out.cell (wB w _ hx309_1)).trans hx309_1; replace p309 := eq_true p309; replace q309 := eq_true q309; have p310 : 0 ≤ (0 : Int) := (by omega); have q310 : 0 < (l0.length : Int) := dT (by first | (with_reducible assumption) | assumption); obtain ⟨ad310, e310, hx310_0, hx310_1⟩ := at_impl_Peg HR0.out 0 p310 q310; obtain rfl : ad307 = ad310 := (by injection e310); have qi310 : (0 < l0.length) = True := eq_true (by omega); (try rw [show ((0 : Int)).toNat = 0 from rfl] at hx310_0); (try rw [show 0 * 2 = 0 from rfl] at hx310_0); (try rw [Addr.add_zero'] at hx310_0); (try rw [show ((0 : Int)).toNat = 0 from rfl] at hx310_1); (try rw [show 0 * 2 = 0 from rfl] at hx310_1); (try rw [Addr.add_zero'] at hx310_1); replace hx310_0 := (HB.out.cell (wB w _ hx310_0)).trans hx310_0; replace hx310_1 := (HB.out.cell (wB w _ hx310_1)).trans hx310_1; replace p310 := eq_true p310; replace q310 := eq_true q310; have p311 : 0 ≤ (1 : Int) := (by omega); have q311 : 1 < (l0.length : Int) := dT (by first | (with_reducible assumption) | assumption); obtain ⟨ad311, e311, hx311_0, hx311_1⟩ := at_impl_Peg HR0.out 1 p311 q311; obtain rfl : ad307 = ad311 := (by injection e311); (try simp only [show (1 : Int).toNat = 1 from rfl, Nat.reduceMul, Nat.reduceEqDiff, Go.Addr.add, ↓reduceIte] at hx311_0); (try simp only [show (1 : Int).toNat = 1 from rfl, Nat.reduceMul, Nat.reduceEqDiff, Go.Addr.add, ↓reduceIte] at hx311_1); have qi311 : (1 < l0.length) = True := eq_true (by omega); (try rw [show ((1 : Int)).toNat = 1 from rfl] at hx311_0); (try rw [show 1 * 2 = 2 from rfl] at hx311_0); (try rw [show ((1 : Int)).toNat = 1 from rfl] at hx311_1); (try rw [show 1 * 2 = 2 from rfl] at hx311_1); replace hx311_0 := (HB.out.cell (wB w _ hx311_0)).trans hx311_0; replace hx311_1 := (HB.out.cell (wB w _ hx311_1)).trans hx311_1; replace p311 := eq_true p311; replace q311 := eq_true q311; have p312 : 0 ≤ (2 : Int) := (by omega); have q312 : 2 < (l0.length : Int) := dT (by first | (with_reducible assumption) | assumption); obtain ⟨ad312, e312, hx312_0, hx312_1⟩ := at_impl_Peg HR0.out 2 p312 q312; obtain rfl : ad307 = ad312 := (by injection e312); (try simp only [show (2 : Int).toNat = 2 from rfl, Nat.reduceMul, Nat.reduceEqDiff, Go.Addr.add, ↓reduceIte] at hx312_0); (try simp only [show (2 : Int).toNat = 2 from rfl, Nat.reduceMul, Nat.reduceEqDiff, Go.Addr.add, ↓reduceIte] at hx312_1); have qi312 : (2 < l0.length) = True := eq_true (by omega); (try rw [show ((2 : Int)).toNat = 2 from rfl] at hx312_0); (try rw [show 2 * 2 = 4 from rfl] at hx312_0); (try rw [show ((2 : Int)).toNat = 2 from rfl] at hx312_1); (try rw [show 2 * 2 = 4 from rfl] at hx312_1); replace hx312_0 := (HB.out.cell (wB w _ hx312_0)).trans hx312_0; replace hx312_1 := (HB.out.cell (wB w _ hx312_1)).trans hx312_1; replace p312 := eq_true p312; replace q312 := eq_true q312))
     repeat (go_quiet (first | (go_at_call 63; (with_reducible refine (spec_trThree.calls k _ _ l0 true _ ?side1 ?side2 A2.out).mono ?_); (case side1 => repeat (first | exact HR0.out | (with_reducible refine cA ?_ _) | (with_reducible refine cN ?_ _) | (with_reducible refine cD ?_))); (case side2 => exact HC0.out); rintro e w7 ⟨rfl, hb⟩; have n0_ := aM (pT (by repeat (first | (with_reducible first | exact HB.out | apply pA | apply pN | apply pD) | exact HB.out)) hb); clear HB; have HB := n0_; clear n0_; (try clear hb); (try clear hb2); (try clear hk); (try clear hi); have p307 : 0 ≤ (0 : Int) := (by omega); have q307 : 0 < (l0.length : Int) := dT (by first | (with_reducible assumption) | assumption); obtain ⟨ad307, e307, hx307_0, hx307_1⟩ := at_impl_Peg HR0.out 0 p307 q307; cases e307; have qi307 : (0 < l0.length) = True := eq_true (by omega); (try rw [show ((0 : Int)).toNat = 0 from rfl] at hx307_0); (try rw [show 0 * 2 = 0 from rfl] at hx307_0); (try rw [Addr.add_zero'] at hx307_0); (try rw [show ((0 : Int)).toNat = 0 from rfl] at hx307_1); (try rw [show 0 * 2 = 0 from rfl] at hx307_1); (try rw [Addr.add_zero'] at hx307_1); replace hx307_0 := (HB.out.cell (wB w _ hx307_0)).trans hx307_0; replace hx307_1 := (HB.out.cell (wB w _ hx307_1)).trans hx307_1; replace p307 := eq_true p307; replace q307 := eq_true q307; have p308 : 0 ≤ (1 : Int) := (by omega); have q308 : 1 < (l0.length : Int) := dT (by first | (with_reducible assumption) | assumption); obtain ⟨ad308, e308, hx308_0, hx308_1⟩ := at_impl_Peg HR0.out 1 p308 q308; obtain rfl : ad307 = ad308 := (by injection e308); (try simp only [show (1 : Int).toNat = 1 from rfl, Nat.reduceMul, Nat.reduceEqDiff, Go.Addr.add, ↓reduceIte] at hx308_0); (try simp only [show (1 : Int).toNat = 1 from rfl, Nat.reduceMul, Nat.reduceEqDiff, Go.Addr.add, ↓reduceIte] at hx308_1); have qi308 : (1 < l0.length) = True := eq_true (by omega); (try rw [show ((1 : Int)).toNat = 1 from rfl] at hx308_0); (try rw [show 1 * 2 = 2 from rfl] at hx308_0); (try rw [show ((1 : Int)).toNat = 1 from rfl] at hx308_1); (try rw [show 1 * 2 = 2 from rfl] at hx308_1); replace hx308_0 := (HB.out.cell (wB w _ hx308_0)).trans hx308_0; replace hx308_1 := (HB.out.cell (wB w _ hx308_1)).trans hx308_1; replace p308 := eq_true p308; replace q308 := eq_true q308; have p309 : 0 ≤ (2 : Int) := (by omega); have q309 : 2 < (l0.length : Int) := dT (by first | (with_reducible assumption) | assumption); obtain ⟨ad309, e309, hx309_0, hx309_1⟩ := at_impl_Peg HR0.out 2 p309 q309; obtain rfl : ad307 = ad309 := (by injection e309); (try simp only [show (2 : Int).toNat = 2 from rfl, Nat.reduceMul, Nat.reduceEqDiff, Go.Addr.add, ↓reduceIte] at hx309_0); (try simp only [show (2 : Int).toNat = 2 from rfl, Nat.reduceMul, Nat.reduceEqDiff, Go.Addr.add, ↓reduceIte] at hx309_1); have qi309 : (2 < l0.length) = True := eq_true (by omega); (try rw [show ((2 : Int)).toNat = 2 from rfl] at hx309_0); (try rw [show 2 * 2 = 4 from rfl] at hx309_0); (try rw [show ((2 : Int)).toNat = 2 from rfl] at hx309_1); (try rw [show 2 * 2 = 4 from rfl] at hx309_1); replace hx309_0 := (HB.out.cell (wB w _ hx309_0)).trans hx309_0; replace hx309_1 := (HB.out.cell (wB w _ hx309_1)).trans hx309_1; replace p309 := eq_true p309; replace q309 := eq_true q309; have p310 : 0 ≤ (0 : Int) := (by omega); have q310 : 0 < (l0.length : Int) := dT (by first | (with_reducible assumption) | assumption); obtain ⟨ad310, e310, hx310_0, hx310_1⟩ := at_impl_Peg HR0.out 0 p310 q310; obtain rfl : ad307 = ad310 := (by injection e310); have qi310 : (0 < l0.length) = True := eq_true (by omega); (try rw [show ((0 : Int)).toNat = 0 from rfl] at hx310_0); (try rw [show 0 * 2 = 0 from rfl] at hx310_0); (try rw [Addr.add_zero'] at hx310_0); (try rw [show ((0 : Int)).toNat = 0 from rfl] at hx310_1); (try rw [show 0 * 2 = 0 from rfl] at hx310_1); (try rw [Addr.add_zero'] at hx310_1); replace hx310_0 := (HB.out.cell (wB w _ hx310_0)).trans hx310_0; replace hx310_1 := (HB.out.cell (wB w _ hx310_1)).trans hx310_1; replace p310 := eq_true p310; replace q310 := eq_true q310; have p311 : 0 ≤ (1 : Int) := (by omega); have q311 : 1 < (l0.length : Int) := dT (by first | (with_reducible assumption) | assumption); obtain ⟨ad311, e311, hx311_0, hx311_1⟩ := at_impl_Peg HR0.out 1 p311 q311; obtain rfl : ad307 = ad311 := (by injection e311); (try simp only [show (1 : Int).toNat = 1 from rfl, Nat.reduceMul, Nat.reduceEqDiff, Go.Addr.add, ↓reduceIte] at hx311_0); (try simp only [show (1 : Int).toNat = 1 from rfl, Nat.reduceMul, Nat.reduceEqDiff, Go.Addr.add, ↓reduceIte] at hx311_1); have qi311 : (1 < l0.length) = True := eq_true (by omega); (try rw [show ((1 : Int)).toNat = 1 from rfl] at hx311_0); (try rw [show 1 * 2 = 2 from rfl] at hx311_0); (try rw [show ((1 : Int)).toNat = 1 from rfl] at hx311_1); (try rw [show 1 * 2 = 2 from rfl] at hx311_1); replace hx311_0 := (HB.out.cell (wB w _ hx311_0)).trans hx311_0; replace hx311_1 := (HB.out.cell (wB w _ hx311_1)).trans hx311_1; replace p311 := eq_true p311; replace q311 := eq_true q311; have p312 : 0 ≤ (2 : Int) := (by omega); have q312 : 2 < (l0.length : Int) := dT (by first | (with_reducible assumption) | assumption); obtain ⟨ad312, e312, hx312_0, hx312_1⟩ := at_impl_Peg HR0.out 2 p312 q312; obtain rfl : ad307 = ad312 := (by injection e312); (try simp only [show (2 : Int).toNat = 2 from rfl, Nat.reduceMul, Nat.reduceEqDiff, Go.Addr.add, ↓reduceIte] at hx312_0); (try simp only [show (2 : Int).toNat = 2 from rfl, Nat.reduceMul, Nat.reduceEqDiff, Go.Addr.add, ↓reduceIte] at hx312_1); have qi312 : (2 < l0.length) = True := eq_true (by omega); (try rw [show ((2 : Int)).toNat = 2 from rfl] at hx312_0); (try rw [show 2 * 2 = 4 from rfl] at hx312_0); (try rw [show ((2 : Int)).toNat = 2 from rfl] at hx312_1); (try rw [show 2 * 2 = 4 from rfl] at hx312_1); replace hx312_0 := (HB.out.cell (wB w _ hx312_0)).trans hx312_0; replace hx312_1 := (HB.out.cell (wB w _ hx312_1)).trans hx312_1; replace p312 := eq_true p312; replace q312 := eq_true q312)); try go_wp2_with (first | (go_at_call 63; (with_reducible refine (spec_trThree.calls k _ _ l0 true _ ?side1 ?side2 A2.out).mono ?_); (case side1 => repeat (first | exact HR0.out | (with_reducible refine cA ?_ _) | (with_reducible refine cN ?_ _) | (with_reducible refine cD ?_))); (case side2 => exact HC0.out); rintro e w7 ⟨rfl, hb⟩; have n0_ := aM (pT (by repeat (first | (with_reducible first | exact HB.out | apply pA | apply pN | apply pD) | exact HB.out)) hb); clear HB; have HB := n0_; clear n0_; (try clear hb); (try clear hb2); (try clear hk); (try clear hi); have p307 : 0 ≤ (0 : Int) := (by omega); have q307 : 0 < (l0.length : Int) := dT (by first | (with_reducible assumption) | assumption); obtain ⟨ad307, e307, hx307_0, hx307_1⟩ := at_impl_Peg HR0.out 0 p307 q307; cases e307; have qi307 : (0 < l0.length) = True := eq_true (by omega); (try rw [show ((0 : Int)).toNat = 0 from rfl] at hx307_0); (try rw [show 0 * 2 = 0 from rfl] at hx307_0); (try rw [Addr.add_zero'] at hx307_0); (try rw [show ((0 : Int)).toNat = 0 from rfl] at hx307_1); (try rw [show 0 * 2 = 0 from rfl] at hx307_1); (try rw [Addr.add_zero'] at hx307_1); replace hx307_0 := (HB.out.cell (wB w _ hx307_0)).trans hx307_0; replace hx307_1 := (HB.out.cell (wB w _ hx307_1)).trans hx307_1; replace p307 := eq_true p307; replace q307 := eq_true q307; have p308 : 0 ≤ (1 : Int) := (by omega); have q308 : 1 < (l0.length : Int) := dT (by first | (with_reducible assumption) | assumption); obtain ⟨ad308, e308, hx308_0, hx308_1⟩ := at_impl_Peg HR0.out 1 p308 q308; obtain rfl : ad307 = ad308 := (by injection e308); (try simp only [show (1 : Int).toNat = 1 from rfl, Nat.reduceMul, Nat.reduceEqDiff, Go.Addr.add, ↓reduceIte] at hx308_0); (try simp only [show (1 : Int).toNat = 1 from rfl, Nat.reduceMul, Nat.reduceEqDiff, Go.Addr.add, ↓reduceIte] at hx308_1); have qi308 : (1 < l0.length) = True := eq_true (by omega); (try rw [show ((1 : Int)).toNat = 1 from rfl] at hx308_0); (try rw [show 1 * 2 = 2 from rfl] at hx308_0); (try rw [show ((1 : Int)).toNat = 1 from rfl] at hx308_1); (try rw [show 1 * 2 = 2 from rfl] at hx308_1); replace hx308_0 := (HB.out.cell (wB w _ hx308_0)).trans hx308_0; replace hx308_1 := (HB.out.cell (wB w _ hx308_1)).trans hx308_1; replace p308 := eq_true p308; replace q308 := eq_true q308; have p309 : 0 ≤ (2 : Int) := (by omega); have q309 : 2 < (l0.length : Int) := dT (by first | (with_reducible assumption) | assumption); obtain ⟨ad309, e309, hx309_0, hx309_1⟩ := at_impl_Peg HR0.out 2 p309 q309; obtain rfl : ad307 = ad309 := (by injection e309); (try simp only [show (2 : Int).toNat = 2 from rfl, Nat.reduceMul, Nat.reduceEqDiff, Go.Addr.add, ↓reduceIte] at hx309_0); (try simp only [show (2 : Int).toNat = 2 from rfl, Nat.reduceMul, Nat.reduceEqDiff, Go.Addr.add, ↓reduceIte] at hx309_1); have qi309 : (2 < l0.length) = True := eq_true (by omega); (try rw [show ((2 : Int)).toNat = 2 from rfl] at hx309_0); (try rw [show 2 * 2 = 4 from rfl] at hx309_0); (try rw [show ((2 : Int)).toNat = 2 from rfl] at hx309_1); (try rw [show 2 * 2 = 4 from rfl] at hx309_1); replace hx309_0 := (HB.out.cell (wB w _ hx309_0)).trans hx309_0; replace hx309_1 := (HB.out.cell (wB w _ hx309_1)).trans hx309_1; replace p309 := eq_true p309; replace q309 := eq_true q309; have p310 : 0 ≤ (0 : Int) := (by omega); have q310 : 0 < (l0.length : Int) := dT (by first | (with_reducible assumption) | assumption); obtain ⟨ad310, e310, hx310_0, hx310_1⟩ := at_impl_Peg HR0.out 0 p310 q310; obtain rfl : ad307 = ad310 := (by injection e310); have qi310 : (0 < l0.length) = True := eq_true (by omega); (try rw [show ((0 : Int)).toNat = 0 from rfl] at hx310_0); (try rw [show 0 * 2 = 0 from rfl] at hx310_0); (try rw [Addr.add_zero'] at hx310_0); (try rw [show ((0 : Int)).toNat = 0 from rfl] at hx310_1); (try rw [show 0 * 2 = 0 from rfl] at hx310_1); (try rw [Addr.add_zero'] at hx310_1); replace hx310_0 := (HB.out.cell (wB w _ hx310_0)).trans hx310_0; replace hx310_1 := (HB.out.cell (wB w _ hx310_1)).trans hx310_1; replace p310 := eq_true p310; replace q310 := eq_true q310; have p311 : 0 ≤ (1 : Int) := (by omega); have q311 : 1 < (l0.length : Int) := dT (by first | (with_reducible assumption) | assumption); obtain ⟨ad311, e311, hx311_0, hx311_1⟩ := at_impl_Peg HR0.out 1 p311 q311; obtain rfl : ad307 = ad311 := (by injection e311); (try simp only [show (1 : Int).toNat = 1 from rfl, Nat.reduceMul, Nat.reduceEqDiff, Go.Addr.add, ↓reduceIte] at hx311_0); (try simp only [show (1 : Int).toNat = 1 from rfl, Nat.reduceMul, Nat.reduceEqDiff, Go.Addr.add, ↓reduceIte] at hx311_1); have qi311 : (1 < l0.length) = True := eq_true (by omega); (try rw [show ((1 : Int)).toNat = 1 from rfl] at hx311_0); (try rw [show 1 * 2 = 2 from rfl] at hx311_0); (try rw [show ((1 : Int)).toNat = 1 from rfl] at hx311_1); (try rw [show 1 * 2 = 2 from rfl] at hx311_1); replace hx311_0 := (HB.out.cell (wB w _ hx311_0)).trans hx311_0; replace hx311_1 := (HB.out.cell (wB w _ hx311_1)).trans hx311_1; replace p311 := eq_true p311; replace q311 := eq_true q311; have p312 : 0 ≤ (2 : Int) := (by omega); have q312 : 2 < (l0.length : Int) := dT (by first | (with_reducible assumption) | assumption); obtain ⟨ad312, e312, hx312_0, hx312_1⟩ := at_impl_Peg HR0.out 2 p312 q312; obtain rfl : ad307 = ad312 := (by injection e312); (try simp only [show (2 : Int).toNat = 2 from rfl, Nat.reduceMul, Nat.reduceEqDiff, Go.Addr.add, ↓reduceIte] at hx312_0); (try simp only [show (2 : Int).toNat = 2 from rfl, Nat.reduceMul, Nat.reduceEqDiff, Go.Addr.add, ↓reduceIte] at hx312_1); have qi312 : (2 < l0.length) = True := eq_true (by omega); (try rw [show ((2 : Int)).toNat = 2 from rfl] at hx312_0); (try rw [show 2 * 2 = 4 from rfl] at hx312_0); (try rw [show ((2 : Int)).toNat = 2 from rfl] at hx312_1); (try rw [show 2 * 2 = 4 from rfl] at hx312_1); replace hx312_0 := (HB.out.cell (wB w _ hx312_0)).trans hx312_0; replace hx312_1 := (HB.out.cell (wB w _ hx312_1)).trans hx312_1; replace p312 := eq_true p312; replace q312 := eq_true q312)))
     go_ret3
     exact ⟨by first | rfl | (simp [errW_none, errW_some] <;> rfl) | (simp [*, errW_none, errW_some] <;> rfl), by repeat (first | (with_reducible first | exact HB.out | apply pA | apply pN | apply pD) | exact HB.out)⟩
    ·rw [if_neg c6] at H
     exact absurd H (by simp)
   ·rw [if_neg c5] at H
    exact absurd H (by simp)
  ·rw [if_neg c4] at H
   exact absurd H (by simp)
 ·replace c3 := Bool.eq_false_iff.mpr c3
  subst c3
  have H1 : (some (0, 0, false)) = some (r1, r2, r3) := by rw [if_neg (show ¬ (false = true) by decide)] at H; exact H
  clear H
  have H := H1
  clear H1
  simp only [Option.some.injEq, Prod.mk.injEq] at H
  obtain ⟨rfl, rfl, rfl⟩ := H
  go_enter Try.func25, Try.ntmps25
  go_wp2_with (first | (go_at_call 63; (with_reducible refine (spec_trThree.calls k _ _ l0 false _ ?side1 ?side2 A2.out).mono ?_); (case side1 => repeat (first | exact HR0.out | (with_reducible refine cA ?_ _) | (with_reducible refine cN ?_ _) | (with_reducible refine cD ?_))); (case side2 => exact HC0.out); rintro e w8 ⟨rfl, hb⟩; have n0_ := aM (pT (by repeat (first | (with_reducible first | exact HB.out | apply pA | apply pN | apply pD) | exact HB.out)) hb); clear HB; have HB := n0_; clear n0_; (try clear hb); (try clear hb2); (try clear hk); (try clear hi)))
  repeat (go_quiet (first | (go_at_call 63; (with_reducible refine (spec_trThree.calls k _ _ l0 false _ ?side1 ?side2 A2.out).mono ?_); (case side1 => repeat (first | exact HR0.out | (with_reducible refine cA ?_ _) | (with_reducible refine cN ?_ _) | (with_reducible refine cD ?_))); (case side2 => exact HC0.out); rintro e w8 ⟨rfl, hb⟩; have n0_ := aM (pT (by repeat (first | (with_reducible first | exact HB.out | apply pA | apply pN | apply pD) | exact HB.out)) hb); clear HB; have HB := n0_; clear n0_; (try clear hb); (try clear hb2); (try clear hk); (try clear hi))); try go_wp2_with (first | (go_at_call 63; (with_reducible refine (spec_trThree.calls k _ _ l0 false _ ?side1 ?side2 A2.out).mono ?_); (case side1 => repeat (first | exact HR0.out | (with_reducible refine cA ?_ _) | (with_reducible refine cN ?_ _) | (with_reducible refine cD ?_))); (case side2 => exact HC0.out); rintro e w8 ⟨rfl, hb⟩; have n0_ := aM (pT (by repeat (first | (with_reducible first | exact HB.out | apply pA | apply pN | apply pD) | exact HB.out)) hb); clear HB; have HB := n0_; clear n0_; (try clear hb); (try clear hb2); (try clear hk); (try clear hi))))
  go_ret3
  exact ⟨by first | rfl | (simp [errW_none, errW_some] <;> rfl) | (simp [*, errW_none, errW_some] <;> rfl), by repeat (first | (with_reducible first | exact HB.out | apply pA | apply pN | apply pD) | exact HB.out)⟩

def impl_isThree.f (k : Nat) (l0 : List (S_impl_Peg)) : Option (Bool) := if (l0.length : Int) = 3 then ((impl_IsPolygon.f k l0).bind fun t313 => (some t313)) else (some false)
theorem impl_isThree.mono : ∀ a0 k, LeO (impl_isThree.f k a0) (impl_isThree.f (k + 1) a0) := by
 intro a0 k
 unfold impl_isThree.f
 repeat' first
   | (with_reducible exact impl_IsPolygon.mono _ _)
   | (with_reducible exact LeO.refl _)
   | (with_reducible exact LeO.none _)
   | (with_reducible refine LeO.ite ?_ ?_)
   | (with_reducible refine LeO.bind ?_ (fun _ => ?_))
   | exact impl_IsPolygon.mono _ _
   | exact LeO.none _
   | refine LeO.ite ?_ ?_
   | refine LeO.bind ?_ (fun _ => ?_)
set_option maxHeartbeats 8000000 in
set_option maxRecDepth 100000 in
theorem impl_isThree.calls (k : Nat) (A0 : Option Addr) (c0 : Nat) (l0 : List (S_impl_Peg)) (r : Bool) (w : World) (hr0 : Kd.C kd_impl_Peg w A0 l0.length l0) (hc0 : l0.length ≤ c0) (h : impl_isThree.f k l0 = some r) :
  Calls Try.prog 64 #[.slice A0 l0.length c0] w fun e w' => e = .returned (.bool r) ∧ Below w.heap.size w w' := by
 have HR0 := aM hr0
 have HC0 := aM hc0
 clear hr0 hc0
 have HB := aM (Below.refl w.heap.size w)
 have H : (if (l0.length : Int) = 3 then ((impl_IsPolygon.f k l0).bind fun t313 => (some t313)) else (some false)) = some r := h
 clear h
 by_cases c2 : (l0.length : Int) = 3
 ·rw [if_pos c2] at H
  have c2b0 : ((l0.length : Int) == 3) = true := beq_iff_eq.mpr c2
  have c2b1 : ((l0.length : Int) != 3) = false := bne_eq_false_iff_eq.mpr c2
  clear c2
  replace H := oB.mp H
  obtain ⟨t313, A30, H⟩ := H
  replace H : (some t313) = some r := H
  have A3 := aM A30
  clear A30
  obtain rfl := Option.some.inj H
  go_enter Try.func64, Try.ntmps64
  go_wp2_with (first | (go_at_call 23; (with_reducible refine (impl_IsPolygon.calls k _ _ l0 t313 _ ?side1 ?side2 A3.out).mono ?_); (case side1 => repeat (first | exact HR0.out | (with_reducible refine cA ?_ _) | (with_reducible refine cN ?_ _) | (with_reducible refine cD ?_))); (case side2 => exact HC0.out); rintro e w4 ⟨rfl, hb⟩; have n0_ := aM (pT (by repeat (first | (with_reducible first | exact HB.out | apply pA | apply pN | apply pD) | exact HB.out)) hb); clear HB; have HB := n0_; clear n0_; (try clear hb); (try clear hb2); (try clear hk); (try clear hi)))
  go_ret
  exact ⟨by first | rfl | (simp [errW_none, errW_some] <;> rfl) | (simp [*, errW_none, errW_some] <;> rfl), by repeat (first | (with_reducible first | exact HB.out | apply pA | apply pN | apply pD) | exact HB.out)⟩
 ·rw [if_neg c2] at H
  have c2b0 : ((l0.length : Int) == 3) = false := beq_eq_false_iff_ne.mpr c2
  have c2b1 : ((l0.length : Int) != 3) = true := bne_iff_ne.mpr c2
  obtain rfl := Option.some.inj H
  go_enter Try.func64, Try.ntmps64
  go_wp2
  go_ret
  exact ⟨by first | rfl | (simp [errW_none, errW_some] <;> rfl) | (simp [*, errW_none, errW_some] <;> rfl), by repeat (first | (with_reducible first | exact HB.out | apply pA | apply pN | apply pD) | exact HB.out)⟩

def impl_Peg_plus.f (a0_0 : Int) (a0_1 : Int) (a1_0 : Int) (a1_1 : Int) : Option (Int × Int) := some (wrap64 (a0_0 + a1_0), wrap64 (a0_1 + a1_1))
set_option maxHeartbeats 8000000 in
set_option maxRecDepth 100000 in
theorem impl_Peg_plus.calls (a0_0 : Int) (a0_1 : Int) (a1_0 : Int) (a1_1 : Int) (r1 : Int) (r2 : Int) (w : World) (h : impl_Peg_plus.f a0_0 a0_1 a1_0 a1_1 = some (r1, r2)) :
  Calls Try.prog 65 #[.agg #[.int .i64 a0_0, .int .i64 a0_1], .agg #[.int .i64 a1_0, .int .i64 a1_1]] w fun e w' => e = .returned (.agg #[.int .i64 r1, .int .i64 r2]) ∧ Below w.heap.size w w' := by
 have hu62 := Try.underlying62
 have HB := aM (Below.refl w.heap.size w)
 have H : (some (wrap64 (a0_0 + a1_0), wrap64 (a0_1 + a1_1))) = some (r1, r2) := h
 clear h
 simp only [Option.some.injEq, Prod.mk.injEq] at H
 obtain ⟨rfl, rfl⟩ := H
 go_enter Try.func65, Try.ntmps65
 go_wp2_with (first | ((with_reducible refine gate_dst (N := 2) rfl ?_); refine box_event ?hg (N := 2) ?hd (cs := #[.int .i64 a0_0, .int .i64 a0_1]) (t := 62) ?hr ?_; (case hd => rfl); (case hg => rfl); (case hr => first | (go_simp; done) | (go_simp; rfl)); intro gb314 hg w3 hbox hb; have n0_ := aM (pT (by repeat (first | (with_reducible first | exact HB.out | apply pA | apply pN | apply pD) | exact HB.out)) hb); have n1_ := aM (hbox); have n2_ := aM ((by rw [hg]; exact (pZ (by repeat (first | (with_reducible first | exact HB.out | apply pA | apply pN | apply pD) | exact HB.out))) : w.heap.size ≤ gb314)); have n3_ := aM ((by rw [hg]; exact (pZ (by repeat (first | (with_reducible first | exact HB.out | apply pA | apply pN | apply pD) | exact HB.out))) : w.heap.size ≤ gb314)); clear HB; have HB := n0_; have BK314 := n1_; have GW314 := n2_; have GE314 := n3_; clear n0_ n1_ n2_ n3_; clear hb hbox hg) | ((with_reducible refine gate_dst (N := 3) rfl ?_); refine box_event ?hg (N := 3) ?hd (cs := #[.int .i64 a1_0, .int .i64 a1_1]) (t := 62) ?hr ?_; (case hd => rfl); (case hg => rfl); (case hr => first | (go_simp; done) | (go_simp; rfl)); intro gb315 hg w4 hbox hb; have n0_ := aM (blk_below (g := gb314) (o := .cells #[.int .i64 a0_0, .int .i64 a0_1] 62 (0, 0)) (by (with_reducible repeat (first | refine kN ?_ _ | refine kD ?_ | refine kA ?_ _)); exact BK314.out) hb); have n1_ := aM (pT (by repeat (first | (with_reducible first | exact HB.out | apply pA | apply pN | apply pD | refine pS ?_ GE314.out) | exact HB.out)) hb); have n2_ := aM (hbox); have n3_ := aM ((by rw [hg]; exact (pZ (by repeat (first | (with_reducible first | exact HB.out | apply pA | apply pN | apply pD | refine pS ?_ GE314.out) | exact HB.out))) : w.heap.size ≤ gb315)); have n4_ := aM ((by rw [hg]; exact (pZ (by repeat (first | (with_reducible first | exact HB.out | apply pA | apply pN | apply pD | refine pS ?_ GE314.out) | exact HB.out))) : w.heap.size ≤ gb315)); have n5_ := aM ((by rw [hg]; exact nN (blk_lt (g := gb314) (o := .cells #[.int .i64 a0_0, .int .i64 a0_1] 62 (0, 0)) (by (with_reducible repeat (first | refine kN ?_ _ | refine kD ?_ | refine kA ?_ _)); exact BK314.out)) : gb314 ≠ gb315)); have n6_ := aM ((by rw [hg]; exact Nat.ne_of_gt (blk_lt (g := gb314) (o := .cells #[.int .i64 a0_0, .int .i64 a0_1] 62 (0, 0)) (by (with_reducible repeat (first | refine kN ?_ _ | refine kD ?_ | refine kA ?_ _)); exact BK314.out)) : gb315 ≠ gb314)); clear BK314; clear HB; have BK314 := n0_; have HB := n1_; have BK315 := n2_; have GW315 := n3_; have GE315 := n4_; have NB314_315 := n5_; have NB315_314 := n6_; clear n0_ n1_ n2_ n3_ n4_ n5_ n6_; clear hb hbox hg) | ((with_reducible refine gate_dst (N := 4) rfl ?_); refine box_event ?hg (N := 4) ?hd (cs := #[.int .i64 0, .int .i64 0]) (t := 62) ?hr ?_; (case hd => rfl); (case hg => rfl); (case hr => first | (go_simp; done) | (go_simp; rfl)); intro gb316 hg w5 hbox hb; have n0_ := aM (blk_below (g := gb314) (o := .cells #[.int .i64 a0_0, .int .i64 a0_1] 62 (0, 0)) (by (with_reducible repeat (first | refine kN ?_ _ | refine kD ?_ | refine kA ?_ _)); exact BK314.out) hb); have n1_ := aM (blk_below (g := gb315) (o := .cells #[.int .i64 a1_0, .int .i64 a1_1] 62 (0, 0)) (by (with_reducible repeat (first | refine kN ?_ _ | refine kD ?_ | refine kA ?_ _)); exact BK315.out) hb); have n2_ := aM (pT (by repeat (first | (with_reducible first | exact HB.out | apply pA | apply pN | apply pD | refine pS ?_ GE314.out | refine pS ?_ GE315.out) | exact HB.out)) hb); have n3_ := aM (hbox); have n4_ := aM ((by rw [hg]; exact (pZ (by repeat (first | (with_reducible first | exact HB.out | apply pA | apply pN | apply pD | refine pS ?_ GE314.out | refine pS ?_ GE315.out) | exact HB.out))) : w.heap.size ≤ gb316)); have n5_ := aM ((by rw [hg]; exact (pZ (by repeat (first | (with_reducible first | exact HB.out | apply pA | apply pN | apply pD | refine pS ?_ GE314.out | refine pS ?_ GE315.out) | exact HB.out))) : w.heap.size ≤ gb316)); have n6_ := aM ((by rw [hg]; exact nN (blk_lt (g := gb314) (o := .cells #[.int .i64 a0_0, .int .i64 a0_1] 62 (0, 0)) (by (with_reducible repeat (first | refine kN ?_ _ | refine kD ?_ | refine kA ?_ _)); exact BK314.out)) : gb314 ≠ gb316)); have n7_ := aM ((by rw [hg]; exact Nat.ne_of_gt (blk_lt (g := gb314) (o := .cells #[.int .i64 a0_0, .int .i64 a0_1] 62 (0, 0)) (by (with_reducible repeat (first | refine kN ?_ _ | refine kD ?_ | refine kA ?_ _)); exact BK314.out)) : gb316 ≠ gb314)); have n8_ := aM ((by rw [hg]; exact nN (blk_lt (g := gb315) (o := .cells #[.int .i64 a1_0, .int .i64 a1_1] 62 (0, 0)) (by (with_reducible repeat (first | refine kN ?_ _ | refine kD ?_ | refine kA ?_ _)); exact BK315.out)) : gb315 ≠ gb316)); have n9_ := aM ((by rw [hg]; exact Nat.ne_of_gt (blk_lt (g := gb315) (o := .cells #[.int .i64 a1_0, .int .i64 a1_1] 62 (0, 0)) (by (with_reducible repeat (first | refine kN ?_ _ | refine kD ?_ | refine kA ?_ _)); exact BK315.out)) : gb316 ≠ gb315)); clear BK314; clear BK315; clear HB; have BK314 := n0_; have BK315 := n1_; have HB := n2_; have BK316 := n3_; have GW316 := n4_; have GE316 := n5_; have NB314_316 := n6_; have NB316_314 := n7_; have NB315_316 := n8_; have NB316_315 := n9_; clear n0_ n1_ n2_ n3_ n4_ n5_ n6_ n7_ n8_ n9_; clear hb hbox hg; have hnb6 := NB314_315.out; have hnc6 := NB315_314.out; have hnb7 := NB314_316.out; have hnc7 := NB316_314.out; have hcz8_0 : w5.cell? ⟨gb314, 0, none⟩ = some (.int .i64 a0_0) := (kC BK314.out 0).trans rfl; have hcz8_1 : w5.cell? ⟨gb314, 1, none⟩ = some (.int .i64 a0_1) := (kC BK314.out 1).trans rfl; have hfz8_0 := kF BK314.out 0; have hfz8_1 := kF BK314.out 1; have hnb9 := NB315_316.out; have hnc9 := NB316_315.out; have hcz10_0 : w5.cell? ⟨gb315, 0, none⟩ = some (.int .i64 a1_0) := (kC BK315.out 0).trans rfl; have hcz10_1 : w5.cell? ⟨gb315, 1, none⟩ = some (.int .i64 a1_1) := (kC BK315.out 1).trans rfl; have hfz10_0 := kF BK315.out 0; have hfz10_1 := kF BK315.out 1; have hcz11_0 : w5.cell? ⟨gb316, 0, none⟩ = some (.int .i64 0) := (kC BK316.out 0).trans rfl; have hcz11_1 : w5.cell? ⟨gb316, 1, none⟩ = some (.int .i64 0) := (kC BK316.out 1).trans rfl; have hfz11_0 := kF BK316.out 0; have hfz11_1 := kF BK316.out 1))
 refine bodyPost_ret (results_cell_row rfl _ _ gb316 62 #[.int .i64 (wrap64 (a0_0 + a1_0)), .int .i64 (wrap64 (a0_1 + a1_1))] (0, 0) _ rfl (by (with_reducible repeat (first | refine kN ?_ _ | refine kD ?_ | refine kA ?_ _)); refine blk_put (cs := #[.int .i64 (wrap64 (a0_0 + a1_0)), .int .i64 0]) ?_ 1 _ rfl; (with_reducible repeat (first | refine kN ?_ _ | refine kD ?_ | refine kA ?_ _)); refine blk_put (cs := #[.int .i64 0, .int .i64 0]) ?_ 0 _ rfl; (with_reducible repeat (first | refine kN ?_ _ | refine kD ?_ | refine kA ?_ _)); exact BK316.out) Try.underlying62 rfl (by kernel_rfl)) rfl ?_
 exact ⟨by first | rfl | (simp [errW_none, errW_some] <;> rfl) | (simp [*, errW_none, errW_some] <;> rfl), by repeat (first | (with_reducible first | exact HB.out | apply pA | apply pN | apply pD | refine pS ?_ GE314.out | refine pS ?_ GE315.out | refine pS ?_ GE316.out) | exact HB.out)⟩

end Go.Proofs.Ytnlkglbpihgcmaa.X
