-- thin
-- short
import Derived.Test.YtnlkglbpihgcmaaXA
import Derived.Test.YtnlkglbpihgcmaaX0
import Derived.Test.YtnlkglbpihgcmaaX7
import Derived.Test.YtnlkglbpihgcmaaX11
import Derived.Test.YtnlkglbpihgcmaaX18
import Derived.Test.YtnlkglbpihgcmaaX26
namespace Go.Proofs.Ytnlkglbpihgcmaa.X
open Go.RowKit Go.Proofs.Ytnlkglbpihgcmaa.XW Go.Proofs.YtnlkglbpihgcmaaW.PrintWords Go.Proofs.YtnlkglbpihgcmaaW.PrintLast Go.Proofs.YtnlkglbpihgcmaaW.PrintMore
attribute [local go_sem] max2_int min2_int max_two min_two max_three min_three max_four min_four   -- for this text's walks alone
set_option linter.unusedVariables false
set_option linter.unusedSimpArgs false

def spec_cuGood.f (k : Nat) (l0 : List (S_impl_Peg)) : Option (Bool) := (spec_pgGood.f k l0).bind fun t587 => (if t587 = true then ((spec_pgArea.f k l0).bind fun t588 => ((spec_l1Abs.f t588).bind fun t589 => (some (decide (t589 ≤ 10))))) else (some false))
theorem spec_cuGood.mono : ∀ a0 k, LeO (spec_cuGood.f k a0) (spec_cuGood.f (k + 1) a0) := by
 intro a0 k
 unfold spec_cuGood.f
 repeat' first
   | (with_reducible exact spec_pgArea.mono _ _)
   | (with_reducible exact spec_pgGood.mono _ _)
   | (with_reducible exact LeO.refl _)
   | (with_reducible exact LeO.none _)
   | (with_reducible refine LeO.ite ?_ ?_)
   | (with_reducible refine LeO.bind ?_ (fun _ => ?_))
   | exact spec_pgArea.mono _ _
   | exact spec_pgGood.mono _ _
   | exact LeO.none _
   | refine LeO.ite ?_ ?_
   | refine LeO.bind ?_ (fun _ => ?_)
set_option maxHeartbeats 8000000 in
set_option maxRecDepth 100000 in
theorem spec_cuGood.calls (k : Nat) (A0 : Option Addr) (c0 : Nat) (l0 : List (S_impl_Peg)) (r : Bool) (w : World) (hr0 : Kd.C kd_impl_Peg w A0 l0.length l0) (hc0 : l0.length ≤ c0) (h : spec_cuGood.f k l0 = some r) :
  Calls Try.prog 87 #[.slice A0 l0.length c0] w fun e w' => e = .returned (.bool r) ∧ Below w.heap.size w w' := by
 have HR0 := aM hr0
 have HC0 := aM hc0
 clear hr0 hc0
 have HB := aM (Below.refl w.heap.size w)
 have H : ((spec_pgGood.f k l0).bind fun t587 => (if t587 = true then ((spec_pgArea.f k l0).bind fun t588 => ((spec_l1Abs.f t588).bind fun t589 => (some (decide (t589 ≤ 10))))) else (some false))) = some r := h
 clear h
 replace H := oB.mp H
 obtain ⟨t587, A20, H⟩ := H
 replace H : (if t587 = true then ((spec_pgArea.f k l0).bind fun t588 => ((spec_l1Abs.f t588).bind fun t589 => (some (decide (t589 ≤ 10))))) else (some false)) = some r := H
 have A2 := aM A20
 clear A20
 by_cases c3 : t587 = true
 ·subst c3
  have H1 : ((spec_pgArea.f k l0).bind fun t588 => ((spec_l1Abs.f t588).bind fun t589 => (some (decide (t589 ≤ 10))))) = some r := by rw [if_pos rfl] at H; exact H
  clear H
  have H := H1
  clear H1
  replace H := oB.mp H
  obtain ⟨t588, A40, H⟩ := H
  replace H : ((spec_l1Abs.f t588).bind fun t589 => (some (decide (t589 ≤ 10)))) = some r := H
  have A4 := aM A40
  clear A40
  replace H := oB.mp H
  obtain ⟨t589, A50, H⟩ := H
  replace H : (some (decide (t589 ≤ 10))) = some r := H
  have A5 := aM A50
  clear A50
  obtain rfl := Option.some.inj H
  go_enter Try.func87, Try.ntmps87
  go_wp2_with (first | ((with_reducible refine gC (f := 55) rfl ?_); refine goesL_ (some 4) rfl rfl Try.func55 (by kernel_rfl) rfl #[.slice A0 l0.length c0] rfl (by (try simp only [mA, mC, mN]); first | done | rfl | (simp only [lD, lT]; rfl)) ?_; (with_reducible refine (spec_pgGood.calls k _ _ l0 true _ ?side1 ?side2 A2.out).mono ?_); (case side1 => repeat (first | exact HR0.out | (with_reducible refine cA ?_ _) | (with_reducible refine cN ?_ _) | (with_reducible refine cD ?_))); (case side2 => exact HC0.out); rintro e w6 ⟨rfl, hb⟩; refine ⟨_, rfl, ?_⟩; have n0_ := aM (pT (by repeat (first | (with_reducible first | exact HB.out | apply pA | apply pN | apply pD) | exact HB.out)) hb); clear HB; have HB := n0_; clear n0_; (try clear hb); (try clear hb2); (try clear hk); (try clear hi)) | (go_at_call 66; (with_reducible refine (spec_pgArea.calls k _ _ l0 t588 _ ?side1 ?side2 A4.out).mono ?_); (case side1 => repeat (first | exact (Kd.C_below HR0.out HB.out) | (with_reducible refine cA ?_ _) | (with_reducible refine cN ?_ _) | (with_reducible refine cD ?_))); (case side2 => exact HC0.out); rintro e w7 ⟨rfl, hb⟩; have n0_ := aM (pT (by repeat (first | (with_reducible first | exact HB.out | apply pA | apply pN | apply pD) | exact HB.out)) hb); clear HB; have HB := n0_; clear n0_; (try clear hb); (try clear hb2); (try clear hk); (try clear hi)) | (go_at_call 83; (with_reducible refine (spec_l1Abs.calls t588 t589 _ A5.out).mono ?_); rintro e w' ⟨rfl, ⟨nd, rfl⟩⟩))
  go_ret
  exact ⟨by first | rfl | (simp [errW_none, errW_some] <;> rfl) | (simp [*, errW_none, errW_some] <;> rfl), by repeat (first | (with_reducible first | exact HB.out | apply pA | apply pN | apply pD) | exact HB.out)⟩
 ·replace c3 := Bool.eq_false_iff.mpr c3
  subst c3
  have H1 : (some false) = some r := by rw [if_neg (show ¬ (false = true) by decide)] at H; exact H
  clear H
  have H := H1
  clear H1
  obtain rfl := Option.some.inj H
  go_enter Try.func87, Try.ntmps87
  go_wp2_with (first | ((with_reducible refine gC (f := 55) rfl ?_); refine goesL_ (some 4) rfl rfl Try.func55 (by kernel_rfl) rfl #[.slice A0 l0.length c0] rfl (by (try simp only [mA, mC, mN]); first | done | rfl | (simp only [lD, lT]; rfl)) ?_; (with_reducible refine (spec_pgGood.calls k _ _ l0 false _ ?side1 ?side2 A2.out).mono ?_); (case side1 => repeat (first | exact HR0.out | (with_reducible refine cA ?_ _) | (with_reducible refine cN ?_ _) | (with_reducible refine cD ?_))); (case side2 => exact HC0.out); rintro e w8 ⟨rfl, hb⟩; refine ⟨_, rfl, ?_⟩; have n0_ := aM (pT (by repeat (first | (with_reducible first | exact HB.out | apply pA | apply pN | apply pD) | exact HB.out)) hb); clear HB; have HB := n0_; clear n0_; (try clear hb); (try clear hb2); (try clear hk); (try clear hi)))
  go_ret
  exact ⟨by first | rfl | (simp [errW_none, errW_some] <;> rfl) | (simp [*, errW_none, errW_some] <;> rfl), by repeat (first | (with_reducible first | exact HB.out | apply pA | apply pN | apply pD) | exact HB.out)⟩

def spec_TrianglesOfCut.f (k : Nat) (l0 : List (S_impl_Peg)) : Option (Int × Bool) := (spec_cuGood.f k l0).bind fun t590 => (if t590 = true then ((spec_pgArea.f k l0).bind fun t591 => ((spec_l1Abs.f t591).bind fun t592 => (some (t592, true)))) else (some (0, false)))
theorem spec_TrianglesOfCut.mono : ∀ a0 k, LeO (spec_TrianglesOfCut.f k a0) (spec_TrianglesOfCut.f (k + 1) a0) := by
 intro a0 k
 unfold spec_TrianglesOfCut.f
 repeat' first
   | (with_reducible exact spec_cuGood.mono _ _)
   | (with_reducible exact spec_pgArea.mono _ _)
   | (with_reducible exact LeO.refl _)
   | (with_reducible exact LeO.none _)
   | (with_reducible refine LeO.ite ?_ ?_)
   | (with_reducible refine LeO.bind ?_ (fun _ => ?_))
   | exact spec_cuGood.mono _ _
   | exact spec_pgArea.mono _ _
   | exact LeO.none _
   | refine LeO.ite ?_ ?_
   | refine LeO.bind ?_ (fun _ => ?_)
set_option maxHeartbeats 8000000 in
set_option maxRecDepth 100000 in
theorem spec_TrianglesOfCut.calls (k : Nat) (A0 : Option Addr) (c0 : Nat) (l0 : List (S_impl_Peg)) (r1 : Int) (r2 : Bool) (w : World) (hr0 : Kd.C kd_impl_Peg w A0 l0.length l0) (hc0 : l0.length ≤ c0) (h : spec_TrianglesOfCut.f k l0 = some (r1, r2)) :
  Calls Try.prog 50 #[.slice A0 l0.length c0] w fun e w' => e = .returned (.tuple #[.int .i64 r1, .bool r2]) ∧ Below w.heap.size w w' := by
 have HR0 := aM hr0
 have HC0 := aM hc0
 clear hr0 hc0
 have HB := aM (Below.refl w.heap.size w)
 have H : ((spec_cuGood.f k l0).bind fun t590 => (if t590 = true then ((spec_pgArea.f k l0).bind fun t591 => ((spec_l1Abs.f t591).bind fun t592 => (some (t592, true)))) else (some (0, false)))) = some (r1, r2) := h
 clear h
 replace H := oB.mp H
 obtain ⟨t590, A20, H⟩ := H
 replace H : (if t590 = true then ((spec_pgArea.f k l0).bind fun t591 => ((spec_l1Abs.f t591).bind fun t592 => (some (t592, true)))) else (some (0, false))) = some (r1, r2) := H
 have A2 := aM A20
 clear A20
 by_cases c3 : t590 = true
 ·subst c3
  have H1 : ((spec_pgArea.f k l0).bind fun t591 => ((spec_l1Abs.f t591).bind fun t592 => (some (t592, true)))) = some (r1, r2) := by rw [if_pos rfl] at H; exact H
  clear H
  have H := H1
  clear H1
  replace H := oB.mp H
  obtain ⟨t591, A40, H⟩ := H
  replace H : ((spec_l1Abs.f t591).bind fun t592 => (some (t592, true))) = some (r1, r2) := H
  have A4 := aM A40
  clear A40
  replace H := oB.mp H
  obtain ⟨t592, A50, H⟩ := H
  replace H : (some (t592, true)) = some (r1, r2) := H
  have A5 := aM A50
  clear A50
  simp only [Option.some.injEq, Prod.mk.injEq] at H
  obtain ⟨rfl, rfl⟩ := H
  go_enter Try.func50, Try.ntmps50
  go_wp2_with (first | ((with_reducible refine gC (f := 87) rfl ?_); refine goesL_ (some 5) rfl rfl Try.func87 (by kernel_rfl) rfl #[.slice A0 l0.length c0] rfl (by (try simp only [mA, mC, mN]); first | done | rfl | (simp only [lD, lT]; rfl)) ?_; (with_reducible refine (spec_cuGood.calls k _ _ l0 true _ ?side1 ?side2 A2.out).mono ?_); (case side1 => repeat (first | exact HR0.out | (with_reducible refine cA ?_ _) | (with_reducible refine cN ?_ _) | (with_reducible refine cD ?_))); (case side2 => exact HC0.out); rintro e w6 ⟨rfl, hb⟩; refine ⟨_, rfl, ?_⟩; have n0_ := aM (pT (by repeat (first | (with_reducible first | exact HB.out | apply pA | apply pN | apply pD) | exact HB.out)) hb); clear HB; have HB := n0_; clear n0_; (try clear hb); (try clear hb2); (try clear hk); (try clear hi)) | ((with_reducible refine gC (f := 66) rfl ?_); refine goesL_ (some 8) rfl rfl Try.func66 (by kernel_rfl) rfl #[.slice A0 l0.length c0] rfl (by (try simp only [mA, mC, mN]); first | done | rfl | (simp only [lD, lT]; rfl)) ?_; (with_reducible refine (spec_pgArea.calls k _ _ l0 t591 _ ?side1 ?side2 A4.out).mono ?_); (case side1 => repeat (first | exact (Kd.C_below HR0.out HB.out) | (with_reducible refine cA ?_ _) | (with_reducible refine cN ?_ _) | (with_reducible refine cD ?_))); (case side2 => exact HC0.out); rintro e w7 ⟨rfl, hb⟩; refine ⟨_, rfl, ?_⟩; have n0_ := aM (pT (by repeat (first | (with_reducible first | exact HB.out | apply pA | apply pN | apply pD) | exact HB.out)) hb); clear HB; have HB := n0_; clear n0_; (try clear hb); (try clear hb2); (try clear hk); (try clear hi)) | ((with_reducible refine gC (f := 83) rfl ?_); refine goesL_ (some 9) rfl rfl Try.func83 (by kernel_rfl) rfl #[.int .i64 t591] rfl (by (try simp only [mA, mC, mN]); first | done | rfl | (simp only [lD, lT]; rfl)) ?_; (with_reducible refine (spec_l1Abs.calls t591 t592 _ A5.out).mono ?_); rintro e w' ⟨rfl, ⟨nd, rfl⟩⟩; refine ⟨_, rfl, ?_⟩))
  go_ret2
  exact ⟨by first | rfl | (simp [errW_none, errW_some] <;> rfl) | (simp [*, errW_none, errW_some] <;> rfl), by repeat (first | (with_reducible first | exact HB.out | apply pA | apply pN | apply pD) | exact HB.out)⟩
 ·replace c3 := Bool.eq_false_iff.mpr c3
  subst c3
  have H1 : (some (0, false)) = some (r1, r2) := by rw [if_neg (show ¬ (false = true) by decide)] at H; exact H
  clear H
  have H := H1
  clear H1
  simp only [Option.some.injEq, Prod.mk.injEq] at H
  obtain ⟨rfl, rfl⟩ := H
  go_enter Try.func50, Try.ntmps50
  go_wp2_with (first | ((with_reducible refine gC (f := 87) rfl ?_); refine goesL_ (some 5) rfl rfl Try.func87 (by kernel_rfl) rfl #[.slice A0 l0.length c0] rfl (by (try simp only [mA, mC, mN]); first | done | rfl | (simp only [lD, lT]; rfl)) ?_; (with_reducible refine (spec_cuGood.calls k _ _ l0 false _ ?side1 ?side2 A2.out).mono ?_); (case side1 => repeat (first | exact HR0.out | (with_reducible refine cA ?_ _) | (with_reducible refine cN ?_ _) | (with_reducible refine cD ?_))); (case side2 => exact HC0.out); rintro e w8 ⟨rfl, hb⟩; refine ⟨_, rfl, ?_⟩; have n0_ := aM (pT (by repeat (first | (with_reducible first | exact HB.out | apply pA | apply pN | apply pD) | exact HB.out)) hb); clear HB; have HB := n0_; clear n0_; (try clear hb); (try clear hb2); (try clear hk); (try clear hi)))
  go_ret2
  exact ⟨by first | rfl | (simp [errW_none, errW_some] <;> rfl) | (simp [*, errW_none, errW_some] <;> rfl), by repeat (first | (with_reducible first | exact HB.out | apply pA | apply pN | apply pD) | exact HB.out)⟩

def impl_isCuttable.f (k : Nat) (l0 : List (S_impl_Peg)) : Option (Bool) := (impl_IsPolygon.f k l0).bind fun t593 => (if t593 = true then ((impl_twice.f k l0).bind fun t594 => ((impl_size.f t594).bind fun t595 => (some (decide (t595 ≤ 10))))) else (some false))
theorem impl_isCuttable.mono : ∀ a0 k, LeO (impl_isCuttable.f k a0) (impl_isCuttable.f (k + 1) a0) := by
 intro a0 k
 unfold impl_isCuttable.f
 repeat' first
   | (with_reducible exact impl_IsPolygon.mono _ _)
   | (with_reducible exact impl_twice.mono _ _)
   | (with_reducible exact LeO.refl _)
   | (with_reducible exact LeO.none _)
   | (with_reducible refine LeO.ite ?_ ?_)
   | (with_reducible refine LeO.bind ?_ (fun _ => ?_))
   | exact impl_IsPolygon.mono _ _
   | exact impl_twice.mono _ _
   | exact LeO.none _
   | refine LeO.ite ?_ ?_
   | refine LeO.bind ?_ (fun _ => ?_)
set_option maxHeartbeats 8000000 in
set_option maxRecDepth 100000 in
theorem impl_isCuttable.calls (k : Nat) (A0 : Option Addr) (c0 : Nat) (l0 : List (S_impl_Peg)) (r : Bool) (w : World) (hr0 : Kd.C kd_impl_Peg w A0 l0.length l0) (hc0 : l0.length ≤ c0) (h : impl_isCuttable.f k l0 = some r) :
  Calls Try.prog 88 #[.slice A0 l0.length c0] w fun e w' => e = .returned (.bool r) ∧ Below w.heap.size w w' := by
 have HR0 := aM hr0
 have HC0 := aM hc0
 clear hr0 hc0
 have HB := aM (Below.refl w.heap.size w)
 have H : ((impl_IsPolygon.f k l0).bind fun t593 => (if t593 = true then ((impl_twice.f k l0).bind fun t594 => ((impl_size.f t594).bind fun t595 => (some (decide (t595 ≤ 10))))) else (some false))) = some r := h
 clear h
 replace H := oB.mp H
 obtain ⟨t593, A20, H⟩ := H
 replace H : (if t593 = true then ((impl_twice.f k l0).bind fun t594 => ((impl_size.f t594).bind fun t595 => (some (decide (t595 ≤ 10))))) else (some false)) = some r := H
 have A2 := aM A20
 clear A20
 by_cases c3 : t593 = true
 ·subst c3
  have H1 : ((impl_twice.f k l0).bind fun t594 => ((impl_size.f t594).bind fun t595 => (some (decide (t595 ≤ 10))))) = some r := by rw [if_pos rfl] at H; exact H
  clear H
  have H := H1
  clear H1
  replace H := oB.mp H
  obtain ⟨t594, A40, H⟩ := H
  replace H : ((impl_size.f t594).bind fun t595 => (some (decide (t595 ≤ 10)))) = some r := H
  have A4 := aM A40
  clear A40
  replace H := oB.mp H
  obtain ⟨t595, A50, H⟩ := H
  replace H : (some (decide (t595 ≤ 10))) = some r := H
  have A5 := aM A50
  clear A50
  obtain rfl := Option.some.inj H
  go_enter Try.func88, Try.ntmps88
  go_wp2_with (first | ((with_reducible refine gC (f := 23) rfl ?_); refine goesL_ (some 4) rfl rfl Try.func23 (by kernel_rfl) rfl #[.slice A0 l0.length c0] rfl (by (try simp only [mA, mC, mN]); first | done | rfl | (simp only [lD, lT]; rfl)) ?_; (with_reducible refine (impl_IsPolygon.calls k _ _ l0 true _ ?side1 ?side2 A2.out).mono ?_); (case side1 => repeat (first | exact HR0.out | (with_reducible refine cA ?_ _) | (with_reducible refine cN ?_ _) | (with_reducible refine cD ?_))); (case side2 => exact HC0.out); rintro e w6 ⟨rfl, hb⟩; refine ⟨_, rfl, ?_⟩; have n0_ := aM (pT (by repeat (first | (with_reducible first | exact HB.out | apply pA | apply pN | apply pD) | exact HB.out)) hb); clear HB; have HB := n0_; clear n0_; (try clear hb); (try clear hb2); (try clear hk); (try clear hi)) | (go_at_call 67; (with_reducible refine (impl_twice.calls k _ _ l0 t594 _ ?side1 ?side2 A4.out).mono ?_); (case side1 => repeat (first | exact (Kd.C_below HR0.out HB.out) | (with_reducible refine cA ?_ _) | (with_reducible refine cN ?_ _) | (with_reducible refine cD ?_))); (case side2 => exact HC0.out); rintro e w7 ⟨rfl, hb⟩; have n0_ := aM (pT (by repeat (first | (with_reducible first | exact HB.out | apply pA | apply pN | apply pD) | exact HB.out)) hb); clear HB; have HB := n0_; clear n0_; (try clear hb); (try clear hb2); (try clear hk); (try clear hi)) | (go_at_call 84; (with_reducible refine (impl_size.calls t594 t595 _ A5.out).mono ?_); rintro e w8 ⟨rfl, hb⟩; have n0_ := aM (pT (by repeat (first | (with_reducible first | exact HB.out | apply pA | apply pN | apply pD) | exact HB.out)) hb); clear HB; have HB := n0_; clear n0_; (try clear hb); (try clear hb2); (try clear hk); (try clear hi)))
  go_ret
  exact ⟨by first | rfl | (simp [errW_none, errW_some] <;> rfl) | (simp [*, errW_none, errW_some] <;> rfl), by repeat (first | (with_reducible first | exact HB.out | apply pA | apply pN | apply pD) | exact HB.out)⟩
 ·replace c3 := Bool.eq_false_iff.mpr c3
  subst c3
  have H1 : (some false) = some r := by rw [if_neg (show ¬ (false = true) by decide)] at H; exact H
  clear H
  have H := H1
  clear H1
  obtain rfl := Option.some.inj H
  go_enter Try.func88, Try.ntmps88
  go_wp2_with (first | ((with_reducible refine gC (f := 23) rfl ?_); refine goesL_ (some 4) rfl rfl Try.func23 (by kernel_rfl) rfl #[.slice A0 l0.length c0] rfl (by (try simp only [mA, mC, mN]); first | done | rfl | (simp only [lD, lT]; rfl)) ?_; (with_reducible refine (impl_IsPolygon.calls k _ _ l0 false _ ?side1 ?side2 A2.out).mono ?_); (case side1 => repeat (first | exact HR0.out | (with_reducible refine cA ?_ _) | (with_reducible refine cN ?_ _) | (with_reducible refine cD ?_))); (case side2 => exact HC0.out); rintro e w9 ⟨rfl, hb⟩; refine ⟨_, rfl, ?_⟩; have n0_ := aM (pT (by repeat (first | (with_reducible first | exact HB.out | apply pA | apply pN | apply pD) | exact HB.out)) hb); clear HB; have HB := n0_; clear n0_; (try clear hb); (try clear hb2); (try clear hk); (try clear hi)))
  go_ret
  exact ⟨by first | rfl | (simp [errW_none, errW_some] <;> rfl) | (simp [*, errW_none, errW_some] <;> rfl), by repeat (first | (with_reducible first | exact HB.out | apply pA | apply pN | apply pD) | exact HB.out)⟩

def impl_TrianglesOfCut.f (k : Nat) (l0 : List (S_impl_Peg)) : Option (Int × Bool) := (impl_isCuttable.f k l0).bind fun t596 => (if t596 = true then ((impl_twice.f k l0).bind fun t597 => ((impl_size.f t597).bind fun t598 => (some (t598, true)))) else (some (0, false)))
theorem impl_TrianglesOfCut.mono : ∀ a0 k, LeO (impl_TrianglesOfCut.f k a0) (impl_TrianglesOfCut.f (k + 1) a0) := by
 intro a0 k
 unfold impl_TrianglesOfCut.f
 repeat' first
   | (with_reducible exact impl_isCuttable.mono _ _)
   | (with_reducible exact impl_twice.mono _ _)
   | (with_reducible exact LeO.refl _)
   | (with_reducible exact LeO.none _)
   | (with_reducible refine LeO.ite ?_ ?_)
   | (with_reducible refine LeO.bind ?_ (fun _ => ?_))
   | exact impl_isCuttable.mono _ _
   | exact impl_twice.mono _ _
   | exact LeO.none _
   | refine LeO.ite ?_ ?_
   | refine LeO.bind ?_ (fun _ => ?_)
set_option maxHeartbeats 8000000 in
set_option maxRecDepth 100000 in
theorem impl_TrianglesOfCut.calls (k : Nat) (A0 : Option Addr) (c0 : Nat) (l0 : List (S_impl_Peg)) (r1 : Int) (r2 : Bool) (w : World) (hr0 : Kd.C kd_impl_Peg w A0 l0.length l0) (hc0 : l0.length ≤ c0) (h : impl_TrianglesOfCut.f k l0 = some (r1, r2)) :
  Calls Try.prog 51 #[.slice A0 l0.length c0] w fun e w' => e = .returned (.tuple #[.int .i64 r1, .bool r2]) ∧ Below w.heap.size w w' := by
 have HR0 := aM hr0
 have HC0 := aM hc0
 clear hr0 hc0
 have HB := aM (Below.refl w.heap.size w)
 have H : ((impl_isCuttable.f k l0).bind fun t596 => (if t596 = true then ((impl_twice.f k l0).bind fun t597 => ((impl_size.f t597).bind fun t598 => (some (t598, true)))) else (some (0, false)))) = some (r1, r2) := h
 clear h
 replace H := oB.mp H
 obtain ⟨t596, A20, H⟩ := H
 replace H : (if t596 = true then ((impl_twice.f k l0).bind fun t597 => ((impl_size.f t597).bind fun t598 => (some (t598, true)))) else (some (0, false))) = some (r1, r2) := H
 have A2 := aM A20
 clear A20
 by_cases c3 : t596 = true
 ·subst c3
  have H1 : ((impl_twice.f k l0).bind fun t597 => ((impl_size.f t597).bind fun t598 => (some (t598, true)))) = some (r1, r2) := by rw [if_pos rfl] at H; exact H
  clear H
  have H := H1
  clear H1
  replace H := oB.mp H
  obtain ⟨t597, A40, H⟩ := H
  replace H : ((impl_size.f t597).bind fun t598 => (some (t598, true))) = some (r1, r2) := H
  have A4 := aM A40
  clear A40
  replace H := oB.mp H
  obtain ⟨t598, A50, H⟩ := H
  replace H : (some (t598, true)) = some (r1, r2) := H
  have A5 := aM A50
  clear A50
  simp only [Option.some.injEq, Prod.mk.injEq] at H
  obtain ⟨rfl, rfl⟩ := H
  go_enter Try.func51, Try.ntmps51
  go_wp2_with (first | ((with_reducible refine gC (f := 88) rfl ?_); refine goesL_ (some 5) rfl rfl Try.func88 (by kernel_rfl) rfl #[.slice A0 l0.length c0] rfl (by (try simp only [mA, mC, mN]); first | done | rfl | (simp only [lD, lT]; rfl)) ?_; (with_reducible refine (impl_isCuttable.calls k _ _ l0 true _ ?side1 ?side2 A2.out).mono ?_); (case side1 => repeat (first | exact HR0.out | (with_reducible refine cA ?_ _) | (with_reducible refine cN ?_ _) | (with_reducible refine cD ?_))); (case side2 => exact HC0.out); rintro e w6 ⟨rfl, hb⟩; refine ⟨_, rfl, ?_⟩; have n0_ := aM (pT (by repeat (first | (with_reducible first | exact HB.out | apply pA | apply pN | apply pD) | exact HB.out)) hb); clear HB; have HB := n0_; clear n0_; (try clear hb); (try clear hb2); (try clear hk); (try clear hi)) | ((with_reducible refine gC (f := 67) rfl ?_); refine goesL_ (some 8) rfl rfl Try.func67 (by kernel_rfl) rfl #[.slice A0 l0.length c0] rfl (by (try simp only [mA, mC, mN]); first | done | rfl | (simp only [lD, lT]; rfl)) ?_; (with_reducible refine (impl_twice.calls k _ _ l0 t597 _ ?side1 ?side2 A4.out).mono ?_); (case side1 => repeat (first | exact (Kd.C_below HR0.out HB.out) | (with_reducible refine cA ?_ _) | (with_reducible refine cN ?_ _) | (with_reducible refine cD ?_))); (case side2 => exact HC0.out); rintro e w7 ⟨rfl, hb⟩; refine ⟨_, rfl, ?_⟩; have n0_ := aM (pT (by repeat (first | (with_reducible first | exact HB.out | apply pA | apply pN | apply pD) | exact HB.out)) hb); clear HB; have HB := n0_; clear n0_; (try clear hb); (try clear hb2); (try clear hk); (try clear hi)) | ((with_reducible refine gC (f := 84) rfl ?_); refine goesL_ (some 9) rfl rfl Try.func84 (by kernel_rfl) rfl #[.int .i64 t597] rfl (by (try simp only [mA, mC, mN]); first | done | rfl | (simp only [lD, lT]; rfl)) ?_; (with_reducible refine (impl_size.calls t597 t598 _ A5.out).mono ?_); rintro e w8 ⟨rfl, hb⟩; refine ⟨_, rfl, ?_⟩; have n0_ := aM (pT (by repeat (first | (with_reducible first | exact HB.out | apply pA | apply pN | apply pD) | exact HB.out)) hb); clear HB; have HB := n0_; clear n0_; (try clear hb); (try clear hb2); (try clear hk); (try clear hi)))
  go_ret2
  exact ⟨by first | rfl | (simp [errW_none, errW_some] <;> rfl) | (simp [*, errW_none, errW_some] <;> rfl), by repeat (first | (with_reducible first | exact HB.out | apply pA | apply pN | apply pD) | exact HB.out)⟩
 ·replace c3 := Bool.eq_false_iff.mpr c3
  subst c3
  have H1 : (some (0, false)) = some (r1, r2) := by rw [if_neg (show ¬ (false = true) by decide)] at H; exact H
  clear H
  have H := H1
  clear H1
  simp only [Option.some.injEq, Prod.mk.injEq] at H
  obtain ⟨rfl, rfl⟩ := H
  go_enter Try.func51, Try.ntmps51
  go_wp2_with (first | ((with_reducible refine gC (f := 88) rfl ?_); refine goesL_ (some 5) rfl rfl Try.func88 (by kernel_rfl) rfl #[.slice A0 l0.length c0] rfl (by (try simp only [mA, mC, mN]); first | done | rfl | (simp only [lD, lT]; rfl)) ?_; (with_reducible refine (impl_isCuttable.calls k _ _ l0 false _ ?side1 ?side2 A2.out).mono ?_); (case side1 => repeat (first | exact HR0.out | (with_reducible refine cA ?_ _) | (with_reducible refine cN ?_ _) | (with_reducible refine cD ?_))); (case side2 => exact HC0.out); rintro e w9 ⟨rfl, hb⟩; refine ⟨_, rfl, ?_⟩; have n0_ := aM (pT (by repeat (first | (with_reducible first | exact HB.out | apply pA | apply pN | apply pD) | exact HB.out)) hb); clear HB; have HB := n0_; clear n0_; (try clear hb); (try clear hb2); (try clear hk); (try clear hi)))
  go_ret2
  exact ⟨by first | rfl | (simp [errW_none, errW_some] <;> rfl) | (simp [*, errW_none, errW_some] <;> rfl), by repeat (first | (with_reducible first | exact HB.out | apply pA | apply pN | apply pD) | exact HB.out)⟩

end Go.Proofs.Ytnlkglbpihgcmaa.X
