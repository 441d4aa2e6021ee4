-- thin
-- short
-- compact
import Derived.Test.YtfihohongkfibaaXA
import Derived.Test.YtfihohongkfibaaX0
import Derived.Test.YtfihohongkfibaaX1
import Derived.Test.YtfihohongkfibaaX5
import Derived.Test.YtfihohongkfibaaX9
import Derived.Test.YtfihohongkfibaaX13
import Derived.Test.YtfihohongkfibaaX17
namespace Go.Proofs.Ytfihohongkfibaa.X
open Go.RowKit Go.Proofs.Ytfihohongkfibaa.XW Go.Proofs.YtfihohongkfibaaW.PrintWords Go.Proofs.YtfihohongkfibaaW.PrintLast Go.Proofs.YtfihohongkfibaaW.PrintMore
attribute [local go_sem] max2_int min2_int max_two min_two max_three min_three max_four min_four   -- for this text's walks alone
set_option linter.unusedVariables false
set_option linter.unusedSimpArgs false

attribute [local go_sem high] eqA50
def spec_mvAlike.f (k : Nat) (l0 : List (S_impl_Peg)) (l1 : List (S_impl_Peg)) : Option (Bool) := if (l0.length : Int) = (l1.length : Int) then ((spec_mvKind.f k l0).bind fun t428 => ((spec_mvKind.f k l1).bind fun t431 => ((spec_mvBefore.f k t428 t431).bind fun t434 => (if t434 = true then (some false) else ((spec_mvBefore.f k t431 t428).bind fun t435 => (some (!t435))))))) else (some false)
theorem spec_mvAlike.mono : ∀ a0 a1 k, LeO (spec_mvAlike.f k a0 a1) (spec_mvAlike.f (k + 1) a0 a1) := by
 intro a0 a1 k
 unfold spec_mvAlike.f
 repeat' first | (with_reducible exact spec_mvBefore.mono _ _ _) | (with_reducible exact spec_mvKind.mono _ _) | (with_reducible exact LeO.refl _) | (with_reducible exact LeO.none _) | (with_reducible refine LeO.ite ?_ ?_) | (with_reducible refine LeO.bind ?_ (fun _ => ?_)) | exact spec_mvBefore.mono _ _ _ | exact spec_mvKind.mono _ _ | exact LeO.none _ | refine LeO.ite ?_ ?_ | refine LeO.bind ?_ (fun _ => ?_)
set_option maxHeartbeats 8000000 in
set_option maxRecDepth 100000 in
theorem spec_mvAlike.calls (k : Nat) (A0 : Option Addr) (c0 : Nat) (l0 : List (S_impl_Peg)) (A1 : Option Addr) (c1 : Nat) (l1 : List (S_impl_Peg)) (r : Bool) (w : World) (hr0 : Kd.C kd_impl_Peg w A0 l0.length l0) (hc0 : l0.length ≤ c0) (hr1 : Kd.C kd_impl_Peg w A1 l1.length l1) (hc1 : l1.length ≤ c1) (h : spec_mvAlike.f k l0 l1 = some r) :
  Calls Try.prog 91 #[.slice A0 l0.length c0, .slice A1 l1.length c1] w fun e w' => e = .returned (.bool r) ∧ Below w.heap.size w w' := by
 have HR0 := aM hr0; have HC0 := aM hc0; clear hr0 hc0; have HR1 := aM hr1; have HC1 := aM hc1; clear hr1 hc1; have HB := aM (Below.refl w.heap.size w)
 unfold spec_mvAlike.f at h; have H := h; clear h
 by_cases c3 : (l0.length : Int) = (l1.length : Int)
 ·rw [if_pos c3] at H; have c3b0 : ((l0.length : Int) == (l1.length : Int)) = true := beq_iff_eq.mpr c3; have c3b1 : ((l0.length : Int) != (l1.length : Int)) = false := bne_eq_false_iff_eq.mpr c3; have c3b2 : (l0.length == l1.length) = true := by first | simpa using c3 | (simp at c3 ⊢; omega)
  clear c3; replace H := bS H; obtain ⟨t428, A4, H⟩ := H; replace H := bS H; obtain ⟨t431, A5, H⟩ := H; replace H := bS H; obtain ⟨t434, A6, H⟩ := H
  by_cases c7 : t434 = true
  ·subst c7; replace H := iT H; obtain rfl := Option.some.inj H
   go_enter Try.func91, Try.ntmps91
   go_wp2_with (first | ((with_reducible refine gC (f := 87) rfl ?_); refine goesL_ (some 13) rfl rfl Try.func87 kR rfl #[.slice A0 l0.length c0] rfl sQ ?_; (with_reducible refine (spec_mvKind.calls k (fun k_ => k_ < w.heap.size) _ _ l0 t428 _ ?side1 A4.out).mono ?_); (case side1 => exact Kd.V_mk HC0.out (Kd.F_below (Kd.C_F kd_impl_Peg_heap HR0.out) bQ)); rintro e w8 ⟨v429, rfl, ho0, hb⟩; refine ⟨_, rfl, ?_⟩; have HO430 := aM (Kd.V_lower (Kd.V_mono (ok' := fun k_ => True) ho0 (fun k_ hk_ => trivial)) (pZ bQ)); replace HB := tB HB hb; (try clear hb); (try clear hb2); (try clear hk); (try clear hi); (try clear ho0)) | ((with_reducible refine gC (f := 87) rfl ?_); refine goesL_ (some 15) rfl rfl Try.func87 kR rfl #[.slice A1 l1.length c1] rfl sQ ?_; (with_reducible refine (spec_mvKind.calls k (fun k_ => k_ < w.heap.size) _ _ l1 t431 _ ?side1 A5.out).mono ?_); (case side1 => exact Kd.V_mk HC1.out (Kd.F_below (Kd.C_F kd_impl_Peg_heap HR1.out) bQ)); rintro e w9 ⟨v432, rfl, ho0, hb⟩; refine ⟨_, rfl, ?_⟩; have HO433 := aM (Kd.V_lower (Kd.V_mono (ok' := fun k_ => True) ho0 (fun k_ hk_ => trivial)) (pZ bQ)); replace HO430 := aM (Kd.V_below (by (with_reducible repeat (first | apply Kd.V_alloc | apply Kd.V_drewN | apply Kd.V_drew)); exact HO430.out) hb); replace HB := tB HB hb; (try clear hb); (try clear hb2); (try clear hk); (try clear hi); (try clear ho0); obtain ⟨Ao10, co10, eo10⟩ := Kd.V_slice HO430.out; subst eo10; obtain ⟨Ao11, co11, eo11⟩ := Kd.V_slice HO433.out; subst eo11) | ((with_reducible refine gC (f := 127) rfl ?_); refine goesL_ (some 18) rfl rfl Try.func127 kR rfl #[.slice Ao10 t428.length co10, .slice Ao11 t431.length co11] rfl sQ ?_; (with_reducible refine (spec_mvBefore.calls k _ _ t428 _ _ t431 true _ ?side1 ?side2 ?side3 ?side4 A6.out).mono ?_); (case side1 => repeat (first | exact (Kd.V_reads' HO430.out).2.2 | (with_reducible refine cA ?_ _) | (with_reducible refine cN ?_ _) | (with_reducible refine cD ?_))); (case side2 => exact (Kd.V_reads' HO430.out).2.1); (case side3 => repeat (first | exact (Kd.V_reads' HO433.out).2.2 | (with_reducible refine cA ?_ _) | (with_reducible refine cN ?_ _) | (with_reducible refine cD ?_))); (case side4 => exact (Kd.V_reads' HO433.out).2.1); rintro e w12 ⟨rfl, hb⟩; refine ⟨_, rfl, ?_⟩; replace HO430 := aM (Kd.V_below (by (with_reducible repeat (first | apply Kd.V_alloc | apply Kd.V_drewN | apply Kd.V_drew)); exact HO430.out) hb); replace HO433 := aM (Kd.V_below (by (with_reducible repeat (first | apply Kd.V_alloc | apply Kd.V_drewN | apply Kd.V_drew)); exact HO433.out) hb); replace HB := tB HB hb; (try clear hb); (try clear hb2); (try clear hk); (try clear hi)))
   go_ret
   exact ⟨wQ, bQ⟩
  ·replace c7 := Bool.eq_false_iff.mpr c7; subst c7; replace H := iF H; replace H := bS H; obtain ⟨t435, A13, H⟩ := H; obtain rfl := Option.some.inj H
   go_enter Try.func91, Try.ntmps91
   go_wp2_with (first | ((with_reducible refine gC (f := 87) rfl ?_); refine goesL_ (some 13) rfl rfl Try.func87 kR rfl #[.slice A0 l0.length c0] rfl sQ ?_; (with_reducible refine (spec_mvKind.calls k (fun k_ => k_ < w.heap.size) _ _ l0 t428 _ ?side1 A4.out).mono ?_); (case side1 => exact Kd.V_mk HC0.out (Kd.F_below (Kd.C_F kd_impl_Peg_heap HR0.out) bQ)); rintro e w14 ⟨v429, rfl, ho0, hb⟩; refine ⟨_, rfl, ?_⟩; have HO430 := aM (Kd.V_lower (Kd.V_mono (ok' := fun k_ => True) ho0 (fun k_ hk_ => trivial)) (pZ bQ)); replace HB := tB HB hb; (try clear hb); (try clear hb2); (try clear hk); (try clear hi); (try clear ho0)) | ((with_reducible refine gC (f := 87) rfl ?_); refine goesL_ (some 15) rfl rfl Try.func87 kR rfl #[.slice A1 l1.length c1] rfl sQ ?_; (with_reducible refine (spec_mvKind.calls k (fun k_ => k_ < w.heap.size) _ _ l1 t431 _ ?side1 A5.out).mono ?_); (case side1 => exact Kd.V_mk HC1.out (Kd.F_below (Kd.C_F kd_impl_Peg_heap HR1.out) bQ)); rintro e w15 ⟨v432, rfl, ho0, hb⟩; refine ⟨_, rfl, ?_⟩; have HO433 := aM (Kd.V_lower (Kd.V_mono (ok' := fun k_ => True) ho0 (fun k_ hk_ => trivial)) (pZ bQ)); replace HO430 := aM (Kd.V_below (by (with_reducible repeat (first | apply Kd.V_alloc | apply Kd.V_drewN | apply Kd.V_drew)); exact HO430.out) hb); replace HB := tB HB hb; (try clear hb); (try clear hb2); (try clear hk); (try clear hi); (try clear ho0); obtain ⟨Ao16, co16, eo16⟩ := Kd.V_slice HO430.out; subst eo16; obtain ⟨Ao17, co17, eo17⟩ := Kd.V_slice HO433.out; subst eo17) | ((with_reducible refine gC (f := 127) rfl ?_); refine goesL_ (some 18) rfl rfl Try.func127 kR rfl #[.slice Ao16 t428.length co16, .slice Ao17 t431.length co17] rfl sQ ?_; (with_reducible refine (spec_mvBefore.calls k _ _ t428 _ _ t431 false _ ?side1 ?side2 ?side3 ?side4 A6.out).mono ?_); (case side1 => repeat (first | exact (Kd.V_reads' HO430.out).2.2 | (with_reducible refine cA ?_ _) | (with_reducible refine cN ?_ _) | (with_reducible refine cD ?_))); (case side2 => exact (Kd.V_reads' HO430.out).2.1); (case side3 => repeat (first | exact (Kd.V_reads' HO433.out).2.2 | (with_reducible refine cA ?_ _) | (with_reducible refine cN ?_ _) | (with_reducible refine cD ?_))); (case side4 => exact (Kd.V_reads' HO433.out).2.1); rintro e w18 ⟨rfl, hb⟩; refine ⟨_, rfl, ?_⟩; replace HO430 := aM (Kd.V_below (by (with_reducible repeat (first | apply Kd.V_alloc | apply Kd.V_drewN | apply Kd.V_drew)); exact HO430.out) hb); replace HO433 := aM (Kd.V_below (by (with_reducible repeat (first | apply Kd.V_alloc | apply Kd.V_drewN | apply Kd.V_drew)); exact HO433.out) hb); replace HB := tB HB hb; (try clear hb); (try clear hb2); (try clear hk); (try clear hi)) | (go_at_call 127; (with_reducible refine (spec_mvBefore.calls k _ _ t431 _ _ t428 t435 _ ?side1 ?side2 ?side3 ?side4 A13.out).mono ?_); (case side1 => repeat (first | exact (Kd.V_reads' HO433.out).2.2 | (with_reducible refine cA ?_ _) | (with_reducible refine cN ?_ _) | (with_reducible refine cD ?_))); (case side2 => exact (Kd.V_reads' HO433.out).2.1); (case side3 => repeat (first | exact (Kd.V_reads' HO430.out).2.2 | (with_reducible refine cA ?_ _) | (with_reducible refine cN ?_ _) | (with_reducible refine cD ?_))); (case side4 => exact (Kd.V_reads' HO430.out).2.1); rintro e w19 ⟨rfl, hb⟩; replace HO430 := aM (Kd.V_below (by (with_reducible repeat (first | apply Kd.V_alloc | apply Kd.V_drewN | apply Kd.V_drew)); exact HO430.out) hb); replace HO433 := aM (Kd.V_below (by (with_reducible repeat (first | apply Kd.V_alloc | apply Kd.V_drewN | apply Kd.V_drew)); exact HO433.out) hb); replace HB := tB HB hb; (try clear hb); (try clear hb2); (try clear hk); (try clear hi)))
   go_ret
   exact ⟨wQ, bQ⟩
 ·rw [if_neg c3] at H; have c3b0 : ((l0.length : Int) == (l1.length : Int)) = false := beq_eq_false_iff_ne.mpr c3; have c3b1 : ((l0.length : Int) != (l1.length : Int)) = true := bne_iff_ne.mpr c3; have c3b2 : (l0.length == l1.length) = false := by first | simpa using c3 | (simp at c3 ⊢; omega)
  obtain rfl := Option.some.inj H
  go_enter Try.func91, Try.ntmps91
  go_wp2
  go_ret
  exact ⟨wQ, bQ⟩

def spec_AreAlike.f (k : Nat) (l0 : List (S_impl_Peg)) (l1 : List (S_impl_Peg)) : Option (Bool × Bool) := (spec_pgGood.f k l0).bind fun t436 => (if t436 = true then ((spec_pgGood.f k l1).bind fun t437 => (if t437 = true then ((spec_mvAlike.f k l0 l1).bind fun t438 => (some (t438, true))) else (some (false, false)))) else (some (false, false)))
theorem spec_AreAlike.mono : ∀ a0 a1 k, LeO (spec_AreAlike.f k a0 a1) (spec_AreAlike.f (k + 1) a0 a1) := by
 intro a0 a1 k
 unfold spec_AreAlike.f
 repeat' first | (with_reducible exact spec_mvAlike.mono _ _ _) | (with_reducible exact spec_pgGood.mono _ _) | (with_reducible exact LeO.refl _) | (with_reducible exact LeO.none _) | (with_reducible refine LeO.ite ?_ ?_) | (with_reducible refine LeO.bind ?_ (fun _ => ?_)) | exact spec_mvAlike.mono _ _ _ | exact spec_pgGood.mono _ _ | exact LeO.none _ | refine LeO.ite ?_ ?_ | refine LeO.bind ?_ (fun _ => ?_)
set_option maxHeartbeats 8000000 in
set_option maxRecDepth 100000 in
theorem spec_AreAlike.calls (k : Nat) (A0 : Option Addr) (c0 : Nat) (l0 : List (S_impl_Peg)) (A1 : Option Addr) (c1 : Nat) (l1 : List (S_impl_Peg)) (r1 : Bool) (r2 : Bool) (w : World) (hr0 : Kd.C kd_impl_Peg w A0 l0.length l0) (hc0 : l0.length ≤ c0) (hr1 : Kd.C kd_impl_Peg w A1 l1.length l1) (hc1 : l1.length ≤ c1) (h : spec_AreAlike.f k l0 l1 = some (r1, r2)) :
  Calls Try.prog 42 #[.slice A0 l0.length c0, .slice A1 l1.length c1] w fun e w' => e = .returned (.tuple #[.bool r1, .bool r2]) ∧ Below w.heap.size w w' := by
 have HR0 := aM hr0; have HC0 := aM hc0; clear hr0 hc0; have HR1 := aM hr1; have HC1 := aM hc1; clear hr1 hc1; have HB := aM (Below.refl w.heap.size w)
 unfold spec_AreAlike.f at h; have H := h; clear h
 replace H := bS H; obtain ⟨t436, A3, H⟩ := H
 by_cases c4 : t436 = true
 ·subst c4; replace H := iT H; replace H := bS H; obtain ⟨t437, A5, H⟩ := H
  by_cases c6 : t437 = true
  ·subst c6; replace H := iT H; replace H := bS H; obtain ⟨t438, A7, H⟩ := H
   simp only [Option.some.injEq, Prod.mk.injEq] at H
   obtain ⟨rfl, rfl⟩ := H
   go_enter Try.func42, Try.ntmps42
   go_wp2_with (first | ((with_reducible refine gC (f := 53) rfl ?_); refine goesL_ (some 7) rfl rfl Try.func53 kR rfl #[.slice A0 l0.length c0] rfl sQ ?_; (with_reducible refine (spec_pgGood.calls k _ _ l0 true _ ?side1 ?side2 A3.out).mono ?_); (case side1 => repeat (first | exact HR0.out | (with_reducible refine cA ?_ _) | (with_reducible refine cN ?_ _) | (with_reducible refine cD ?_))); (case side2 => exact HC0.out); rintro e w8 ⟨rfl, hb⟩; refine ⟨_, rfl, ?_⟩; replace HB := tB HB hb; (try clear hb); (try clear hb2); (try clear hk); (try clear hi)) | (go_at_call 53; (with_reducible refine (spec_pgGood.calls k _ _ l1 true _ ?side1 ?side2 A5.out).mono ?_); (case side1 => repeat (first | exact (Kd.C_below HR1.out HB.out) | (with_reducible refine cA ?_ _) | (with_reducible refine cN ?_ _) | (with_reducible refine cD ?_))); (case side2 => exact HC1.out); rintro e w9 ⟨rfl, hb⟩; replace HB := tB HB hb; (try clear hb); (try clear hb2); (try clear hk); (try clear hi)) | ((with_reducible refine gC (f := 91) rfl ?_); refine goesL_ (some 16) rfl rfl Try.func91 kR rfl #[.slice A0 l0.length c0, .slice A1 l1.length c1] rfl sQ ?_; (with_reducible refine (spec_mvAlike.calls k _ _ l0 _ _ l1 t438 _ ?side1 ?side2 ?side3 ?side4 A7.out).mono ?_); (case side1 => repeat (first | exact (Kd.C_below HR0.out HB.out) | (with_reducible refine cA ?_ _) | (with_reducible refine cN ?_ _) | (with_reducible refine cD ?_))); (case side2 => exact HC0.out); (case side3 => repeat (first | exact (Kd.C_below HR1.out HB.out) | (with_reducible refine cA ?_ _) | (with_reducible refine cN ?_ _) | (with_reducible refine cD ?_))); (case side4 => exact HC1.out); rintro e w10 ⟨rfl, hb⟩; refine ⟨_, rfl, ?_⟩; replace HB := tB HB hb; (try clear hb); (try clear hb2); (try clear hk); (try clear hi)))
   go_ret2
   exact ⟨wQ, bQ⟩
  ·replace c6 := Bool.eq_false_iff.mpr c6; subst c6; replace H := iF H
   simp only [Option.some.injEq, Prod.mk.injEq] at H
   obtain ⟨rfl, rfl⟩ := H
   go_enter Try.func42, Try.ntmps42
   go_wp2_with (first | ((with_reducible refine gC (f := 53) rfl ?_); refine goesL_ (some 7) rfl rfl Try.func53 kR rfl #[.slice A0 l0.length c0] rfl sQ ?_; (with_reducible refine (spec_pgGood.calls k _ _ l0 true _ ?side1 ?side2 A3.out).mono ?_); (case side1 => repeat (first | exact HR0.out | (with_reducible refine cA ?_ _) | (with_reducible refine cN ?_ _) | (with_reducible refine cD ?_))); (case side2 => exact HC0.out); rintro e w11 ⟨rfl, hb⟩; refine ⟨_, rfl, ?_⟩; replace HB := tB HB hb; (try clear hb); (try clear hb2); (try clear hk); (try clear hi)) | (go_at_call 53; (with_reducible refine (spec_pgGood.calls k _ _ l1 false _ ?side1 ?side2 A5.out).mono ?_); (case side1 => repeat (first | exact (Kd.C_below HR1.out HB.out) | (with_reducible refine cA ?_ _) | (with_reducible refine cN ?_ _) | (with_reducible refine cD ?_))); (case side2 => exact HC1.out); rintro e w12 ⟨rfl, hb⟩; replace HB := tB HB hb; (try clear hb); (try clear hb2); (try clear hk); (try clear hi)))
   go_ret2
   exact ⟨wQ, bQ⟩
 ·replace c4 := Bool.eq_false_iff.mpr c4; subst c4; replace H := iF H
  simp only [Option.some.injEq, Prod.mk.injEq] at H
  obtain ⟨rfl, rfl⟩ := H
  go_enter Try.func42, Try.ntmps42
  go_wp2_with (first | ((with_reducible refine gC (f := 53) rfl ?_); refine goesL_ (some 7) rfl rfl Try.func53 kR rfl #[.slice A0 l0.length c0] rfl sQ ?_; (with_reducible refine (spec_pgGood.calls k _ _ l0 false _ ?side1 ?side2 A3.out).mono ?_); (case side1 => repeat (first | exact HR0.out | (with_reducible refine cA ?_ _) | (with_reducible refine cN ?_ _) | (with_reducible refine cD ?_))); (case side2 => exact HC0.out); rintro e w13 ⟨rfl, hb⟩; refine ⟨_, rfl, ?_⟩; replace HB := tB HB hb; (try clear hb); (try clear hb2); (try clear hk); (try clear hi)))
  go_ret2
  exact ⟨wQ, bQ⟩

def slices_Equal_impl_Peg.l0 : Nat → List (S_impl_Peg) → List (S_impl_Peg) → Int → Int → Option (Bool)
 | 0, _, _, _, _ => none
 | k + 1, x0, x1, x12, x13 => if x13 < x12 then (if 0 ≤ x13 then (if x13 < (x0.length : Int) then (if x13 < (x1.length : Int) then (if (!(((rd_impl_Peg x0 x13).f0) == ((rd_impl_Peg x1 x13).f0)) || (!(((rd_impl_Peg x0 x13).f1) == ((rd_impl_Peg x1 x13).f1)))) = true then (some false) else (slices_Equal_impl_Peg.l0 k x0 x1 x12 (wrap64 (x13 + 1)))) else (none)) else (none)) else (none)) else (some true)
def slices_Equal_impl_Peg.f (k : Nat) (l0 : List (S_impl_Peg)) (l1 : List (S_impl_Peg)) : Option (Bool) := if (l0.length : Int) = (l1.length : Int) then (slices_Equal_impl_Peg.l0 k l0 l1 (l0.length : Int) 0) else (some false)
theorem slices_Equal_impl_Peg.mono_l : ∀ k, (∀ y0 y1 y2 y3, LeO (slices_Equal_impl_Peg.l0 k y0 y1 y2 y3) (slices_Equal_impl_Peg.l0 (k + 1) y0 y1 y2 y3))
 | 0 => fun _ _ _ _ r h => by simp [slices_Equal_impl_Peg.l0] at h
 | k + 1 => by
  have ih0 := slices_Equal_impl_Peg.mono_l k
  ·intro y0 y1 y2 y3
   unfold slices_Equal_impl_Peg.l0
   repeat' first
   | (with_reducible exact ih0 _ _ _ _)
   | (with_reducible exact LeO.refl _)
   | (with_reducible exact LeO.none _)
   | (with_reducible refine LeO.ite ?_ ?_)
   | (with_reducible refine LeO.bind ?_ (fun _ => ?_))
   | exact ih0 _ _ _ _
   | exact LeO.none _
   | refine LeO.ite ?_ ?_
   | refine LeO.bind ?_ (fun _ => ?_)
theorem slices_Equal_impl_Peg.mono : ∀ a0 a1 k, LeO (slices_Equal_impl_Peg.f k a0 a1) (slices_Equal_impl_Peg.f (k + 1) a0 a1) := by
 intro a0 a1 k
 have ih0 := slices_Equal_impl_Peg.mono_l k
 unfold slices_Equal_impl_Peg.f
 repeat' first | (with_reducible exact ih0 _ _ _ _) | (with_reducible exact LeO.refl _) | (with_reducible exact LeO.none _) | (with_reducible refine LeO.ite ?_ ?_) | (with_reducible refine LeO.bind ?_ (fun _ => ?_)) | exact ih0 _ _ _ _ | exact LeO.none _ | refine LeO.ite ?_ ?_ | refine LeO.bind ?_ (fun _ => ?_)
set_option maxHeartbeats 8000000 in
set_option maxRecDepth 100000 in
theorem slices_Equal_impl_Peg.calls (k : Nat) (A0 : Option Addr) (c0 : Nat) (l0 : List (S_impl_Peg)) (A1 : Option Addr) (c1 : Nat) (l1 : List (S_impl_Peg)) (r : Bool) (w : World) (hr0 : Kd.C kd_impl_Peg w A0 l0.length l0) (hc0 : l0.length ≤ c0) (hr1 : Kd.C kd_impl_Peg w A1 l1.length l1) (hc1 : l1.length ≤ c1) (h : slices_Equal_impl_Peg.f k l0 l1 = some r) :
  Calls Try.prog 92 #[.slice A0 l0.length c0, .slice A1 l1.length c1] w fun e w' => e = .returned (.bool r) ∧ Drawn0 w w' := by
 have hu50 := Try.underlying50; have HR0 := aM hr0; have HC0 := aM hc0; clear hr0 hc0; have HR1 := aM hr1; have HC1 := aM hc1; clear hr1 hc1
 unfold slices_Equal_impl_Peg.f at h; have H := h; clear h
 by_cases c3 : (l0.length : Int) = (l1.length : Int)
 ·rw [if_pos c3] at H; have c3b0 : ((l0.length : Int) == (l1.length : Int)) = true := beq_iff_eq.mpr c3; have c3b1 : ((l0.length : Int) != (l1.length : Int)) = false := bne_eq_false_iff_eq.mpr c3; have c3b2 : (l0.length == l1.length) = true := by first | simpa using c3 | (simp at c3 ⊢; omega)
  clear c3; have H' := aM H; clear H
  go_enter Try.func92, Try.ntmps92
  go_wp2
  repeat (go_quiet (fail); try go_wp2)
  go_loopg [13] k (fun kq v13 w' => ∃ (x13_1 : Int), v13 = .int .i64 x13_1 ∧ Aside0 (slices_Equal_impl_Peg.l0 kq l0 l1 (l0.length : Int) x13_1 = some r) ∧ Aside0 (kq ≤ k) ∧ Drawn0 w w')
  case atStart => exact ⟨(0), eQ, H', ⟨Nat.le_refl _⟩, dQ⟩
  case round =>
   clear H'; (try clear c1); (try clear c3); (try clear c3b0); (try clear c3b1); (try clear c3b2); obtain ⟨x13_1, rfl, HA, HK1, ⟨m1, rfl⟩⟩ := hrel
   cases gk with
   | zero => exact absurd HA.out (by simp [slices_Equal_impl_Peg.l0])
   | succ k1 =>
    have H := HA.out; clear HA
    simp only [slices_Equal_impl_Peg.l0] at H
    by_cases c4 : x13_1 < (l0.length : Int)
    ·rw [if_pos c4] at H; have c4b0 := dE c4; clear c4; replace H := iD H; obtain ⟨c5b0, H⟩ := H; replace H := iD H; obtain ⟨c6b0, H⟩ := H; replace H := iD H; obtain ⟨c7b0, H⟩ := H
     by_cases c8 : (!(((rd_impl_Peg l0 x13_1).f0) == ((rd_impl_Peg l1 x13_1).f0)) || (!(((rd_impl_Peg l0 x13_1).f1) == ((rd_impl_Peg l1 x13_1).f1)))) = true
     ·rw [if_pos c8] at H; have c8b0 := c8; clear c8; obtain rfl := Option.some.inj H; have p439 : 0 ≤ (x13_1 : Int) := dT aQ; have q439 : x13_1 < (l0.length : Int) := dT aQ; obtain ⟨ad439, e439, hx439_0, hx439_1⟩ := at_impl_Peg HR0.out x13_1 p439 q439
      cases e439
      replace p439 := eq_true p439; replace q439 := eq_true q439; have p440 : 0 ≤ (x13_1 : Int) := dT aQ; have q440 : x13_1 < (l1.length : Int) := dT aQ; obtain ⟨ad440, e440, hx440_0, hx440_1⟩ := at_impl_Peg HR1.out x13_1 p440 q440
      cases e440
      replace p440 := eq_true p440; replace q440 := eq_true q440; go_wp2
      repeat (go_quiet (fail); try go_wp2)
      go_ret
      exact ⟨eQ, dQ⟩
     ·rw [if_neg c8] at H; have c8b0 : (!(((rd_impl_Peg l0 x13_1).f0) == ((rd_impl_Peg l1 x13_1).f0)) || (!(((rd_impl_Peg l0 x13_1).f1) == ((rd_impl_Peg l1 x13_1).f1)))) = false := by simpa using c8
      clear c8; have H' := aM H; clear H; have p439 : 0 ≤ (x13_1 : Int) := dT aQ; have q439 : x13_1 < (l0.length : Int) := dT aQ; obtain ⟨ad439, e439, hx439_0, hx439_1⟩ := at_impl_Peg HR0.out x13_1 p439 q439
      cases e439
      replace p439 := eq_true p439; replace q439 := eq_true q439; have p440 : 0 ≤ (x13_1 : Int) := dT aQ; have q440 : x13_1 < (l1.length : Int) := dT aQ; obtain ⟨ad440, e440, hx440_0, hx440_1⟩ := at_impl_Peg HR1.out x13_1 p440 q440
      cases e440
      replace p440 := eq_true p440; replace q440 := eq_true q440; go_wp2
      repeat (go_quiet (fail); try go_wp2)
      go_roundg k1
      case measure => have := HK1.out; omega
      case rel => exact ⟨(wrap64 (x13_1 + 1)), eQ, H', ⟨by have := HK1.out; omega⟩, dQ⟩
    ·rw [if_neg c4] at H; have c4b0 := decide_eq_false c4; clear c4; obtain rfl := Option.some.inj H; go_wp2
     repeat (go_quiet (fail); try go_wp2)
     go_ret
     exact ⟨eQ, dQ⟩
 ·rw [if_neg c3] at H; have c3b0 : ((l0.length : Int) == (l1.length : Int)) = false := beq_eq_false_iff_ne.mpr c3; have c3b1 : ((l0.length : Int) != (l1.length : Int)) = true := bne_iff_ne.mpr c3; have c3b2 : (l0.length == l1.length) = false := by first | simpa using c3 | (simp at c3 ⊢; omega)
  obtain rfl := Option.some.inj H
  go_enter Try.func92, Try.ntmps92
  go_wp2
  repeat (go_quiet (fail); try go_wp2)
  go_ret
  exact ⟨eQ, dQ⟩

def impl_AreAlike.j0 : Nat → List (S_impl_Peg) → List (S_impl_Peg) → Bool → Option (Bool × Bool)
 | 0, _, _, _ => none
 | k + 1, x0, x1, x13 => if x13 = true then (some (false, false)) else ((impl_firstFrame.f k x0).bind fun t443 => ((impl_firstFrame.f k x1).bind fun t446 => ((slices_Equal_impl_Peg.f k t443 t446).bind fun t449 => (some (t449, true)))))
def impl_AreAlike.f (k : Nat) (l0 : List (S_impl_Peg)) (l1 : List (S_impl_Peg)) : Option (Bool × Bool) := (impl_IsPolygon.f k l0).bind fun t441 => (if t441 = true then ((impl_IsPolygon.f k l1).bind fun t442 => (impl_AreAlike.j0 k l0 l1 (!t442))) else (impl_AreAlike.j0 k l0 l1 true))
theorem impl_AreAlike.mono_l : ∀ k, (∀ y0 y1 y2, LeO (impl_AreAlike.j0 k y0 y1 y2) (impl_AreAlike.j0 (k + 1) y0 y1 y2))
 | 0 => fun _ _ _ r h => by simp [impl_AreAlike.j0] at h
 | k + 1 => by
  have ih0 := impl_AreAlike.mono_l k
  ·intro y0 y1 y2
   unfold impl_AreAlike.j0
   repeat' first
   | (with_reducible exact ih0 _ _ _)
   | (with_reducible exact impl_IsPolygon.mono _ _)
   | (with_reducible exact impl_firstFrame.mono _ _)
   | (with_reducible exact slices_Equal_impl_Peg.mono _ _ _)
   | (with_reducible exact LeO.refl _)
   | (with_reducible exact LeO.none _)
   | (with_reducible refine LeO.ite ?_ ?_)
   | (with_reducible refine LeO.bind ?_ (fun _ => ?_))
   | exact ih0 _ _ _
   | exact impl_IsPolygon.mono _ _
   | exact impl_firstFrame.mono _ _
   | exact slices_Equal_impl_Peg.mono _ _ _
   | exact LeO.none _
   | refine LeO.ite ?_ ?_
   | refine LeO.bind ?_ (fun _ => ?_)
theorem impl_AreAlike.mono : ∀ a0 a1 k, LeO (impl_AreAlike.f k a0 a1) (impl_AreAlike.f (k + 1) a0 a1) := by
 intro a0 a1 k
 have ih0 := impl_AreAlike.mono_l k
 unfold impl_AreAlike.f
 repeat' first | (with_reducible exact ih0 _ _ _) | (with_reducible exact impl_IsPolygon.mono _ _) | (with_reducible exact impl_firstFrame.mono _ _) | (with_reducible exact slices_Equal_impl_Peg.mono _ _ _) | (with_reducible exact LeO.refl _) | (with_reducible exact LeO.none _) | (with_reducible refine LeO.ite ?_ ?_) | (with_reducible refine LeO.bind ?_ (fun _ => ?_)) | exact ih0 _ _ _ | exact impl_IsPolygon.mono _ _ | exact impl_firstFrame.mono _ _ | exact slices_Equal_impl_Peg.mono _ _ _ | exact LeO.none _ | refine LeO.ite ?_ ?_ | refine LeO.bind ?_ (fun _ => ?_)
set_option maxHeartbeats 8000000 in
set_option maxRecDepth 100000 in
theorem impl_AreAlike.calls (k : Nat) (A0 : Option Addr) (c0 : Nat) (l0 : List (S_impl_Peg)) (A1 : Option Addr) (c1 : Nat) (l1 : List (S_impl_Peg)) (r1 : Bool) (r2 : Bool) (w : World) (hr0 : Kd.C kd_impl_Peg w A0 l0.length l0) (hc0 : l0.length ≤ c0) (hr1 : Kd.C kd_impl_Peg w A1 l1.length l1) (hc1 : l1.length ≤ c1) (h : impl_AreAlike.f k l0 l1 = some (r1, r2)) :
  Calls Try.prog 43 #[.slice A0 l0.length c0, .slice A1 l1.length c1] w fun e w' => e = .returned (.tuple #[.bool r1, .bool r2]) ∧ Below w.heap.size w w' := by
 have HR0 := aM hr0; have HC0 := aM hc0; clear hr0 hc0; have HR1 := aM hr1; have HC1 := aM hc1; clear hr1 hc1; have HB := aM (Below.refl w.heap.size w)
 unfold impl_AreAlike.f at h; have H := h; clear h
 have HC3 := aM H; clear H
 go_enter Try.func43, Try.ntmps43
 go_upto_region 1 with (fail)
 go_cut [13] (fun v13 wc => ∃ (kq : Nat) (x13_2 : Bool), v13 = .bool x13_2 ∧ Aside0 (impl_AreAlike.j0 kq l0 l1 x13_2 = some (r1, r2)) ∧ Aside0 (kq ≤ k) ∧ Aside0 (Below w.heap.size w wc))
 case first =>
  have H := HC3.out; clear HC3; replace H := bS H; obtain ⟨t441, A4, H⟩ := H
  by_cases c5 : t441 = true
  ·subst c5; replace H := iT H; replace H := bS H; obtain ⟨t442, A6, H⟩ := H; have H' := aM H; clear H
   go_wp2_with (first | ((with_reducible refine gC (f := 88) rfl ?_); refine goesL_ (some 7) rfl rfl Try.func88 kR rfl #[.slice A0 l0.length c0] rfl sQ ?_; (with_reducible refine (impl_IsPolygon.calls k _ _ l0 true _ ?side1 ?side2 A4.out).mono ?_); (case side1 => repeat (first | exact (Kd.C_below HR0.out HB.out) | (with_reducible refine cA ?_ _) | (with_reducible refine cN ?_ _) | (with_reducible refine cD ?_))); (case side2 => exact HC0.out); rintro e w7 ⟨rfl, hb⟩; refine ⟨_, rfl, ?_⟩; replace HB := tB HB hb; (try clear hb); (try clear hb2); (try clear hk); (try clear hi)) | (go_at_call 88; (with_reducible refine (impl_IsPolygon.calls k _ _ l1 t442 _ ?side1 ?side2 A6.out).mono ?_); (case side1 => repeat (first | exact (Kd.C_below HR1.out HB.out) | (with_reducible refine cA ?_ _) | (with_reducible refine cN ?_ _) | (with_reducible refine cD ?_))); (case side2 => exact HC1.out); rintro e w8 ⟨rfl, hb⟩; replace HB := tB HB hb; (try clear hb); (try clear hb2); (try clear hk); (try clear hi)))
   go_meet
   case rel => exact ⟨_, (!t442), eQ, H', ⟨by first | omega | exact Nat.le_refl _⟩, ⟨bQ⟩⟩
  ·replace c5 := Bool.eq_false_iff.mpr c5; subst c5; replace H := iF H; have H' := aM H; clear H
   go_wp2_with (first | ((with_reducible refine gC (f := 88) rfl ?_); refine goesL_ (some 7) rfl rfl Try.func88 kR rfl #[.slice A0 l0.length c0] rfl sQ ?_; (with_reducible refine (impl_IsPolygon.calls k _ _ l0 false _ ?side1 ?side2 A4.out).mono ?_); (case side1 => repeat (first | exact (Kd.C_below HR0.out HB.out) | (with_reducible refine cA ?_ _) | (with_reducible refine cN ?_ _) | (with_reducible refine cD ?_))); (case side2 => exact HC0.out); rintro e w9 ⟨rfl, hb⟩; refine ⟨_, rfl, ?_⟩; replace HB := tB HB hb; (try clear hb); (try clear hb2); (try clear hk); (try clear hi)))
   go_meet
   case rel => exact ⟨_, (true), eQ, H', ⟨by first | omega | exact Nat.le_refl _⟩, ⟨bQ⟩⟩
 case rest =>
  clear HC3; (try clear c1); obtain ⟨kq, x13_2, rfl, HA, HJ2, HB⟩ := hcut
  cases kq with
  | zero => exact absurd HA.out (by simp [impl_AreAlike.j0])
  | succ kj2 =>
   have H := HA.out; clear HA
   simp only [impl_AreAlike.j0] at H
   by_cases c10 : x13_2 = true
   ·subst c10; replace H := iT H
    simp only [Option.some.injEq, Prod.mk.injEq] at H
    obtain ⟨rfl, rfl⟩ := H; go_wp2
    go_ret2
    exact ⟨wQ, bQ⟩
   ·replace c10 := Bool.eq_false_iff.mpr c10; subst c10; replace H := iF H; replace H := bS H; obtain ⟨t443, A11, H⟩ := H; replace H := bS H; obtain ⟨t446, A12, H⟩ := H; replace H := bS H; obtain ⟨t449, A13, H⟩ := H
    simp only [Option.some.injEq, Prod.mk.injEq] at H
    obtain ⟨rfl, rfl⟩ := H
    go_wp2_with (first | ((with_reducible refine gC (f := 89) rfl ?_); refine goesL_ (some 15) rfl rfl Try.func89 kR rfl #[.slice A0 l0.length c0] rfl sQ ?_; (with_reducible refine (impl_firstFrame.calls kj2 _ _ l0 t443 _ ?side1 ?side2 A11.out).mono ?_); (case side1 => repeat (first | exact (Kd.C_below HR0.out HB.out) | (with_reducible refine cA ?_ _) | (with_reducible refine cN ?_ _) | (with_reducible refine cD ?_))); (case side2 => exact HC0.out); rintro e w14 ⟨v444, rfl, ho0, hb⟩; refine ⟨_, rfl, ?_⟩; have HO445 := aM (Kd.R_lower ho0 (pZ bQ)); replace HB := tB HB hb; (try clear hb); (try clear hb2); (try clear hk); (try clear hi); (try clear ho0)) | ((with_reducible refine gC (f := 89) rfl ?_); refine goesL_ (some 17) rfl rfl Try.func89 kR rfl #[.slice A1 l1.length c1] rfl sQ ?_; (with_reducible refine (impl_firstFrame.calls kj2 _ _ l1 t446 _ ?side1 ?side2 A12.out).mono ?_); (case side1 => repeat (first | exact (Kd.C_below HR1.out HB.out) | (with_reducible refine cA ?_ _) | (with_reducible refine cN ?_ _) | (with_reducible refine cD ?_))); (case side2 => exact HC1.out); rintro e w15 ⟨v447, rfl, ho0, hb⟩; refine ⟨_, rfl, ?_⟩; have HO448 := aM (Kd.R_lower (Kd.R_new' ho0 (Kd.R_lt (by (with_reducible repeat (first | apply rA | apply rN | apply rD)); exact HO445.out))) (pZ bQ)); replace HO445 := aM (Kd.R_elder' (by (with_reducible repeat (first | apply rA | apply rN | apply rD)); exact HO445.out) (Kd.R_base ho0) hb); replace HB := tB HB hb; (try clear hb); (try clear hb2); (try clear hk); (try clear hi); (try clear ho0); obtain ⟨Ao16, co16, eo16⟩ := Kd.R_slice HO445.out; subst eo16; obtain ⟨Ao17, co17, eo17⟩ := Kd.R_slice HO448.out; subst eo17) | ((with_reducible refine gC (f := 92) rfl ?_); refine goesL_ (some 18) rfl rfl Try.func92 kR rfl #[.slice Ao16 t443.length co16, .slice Ao17 t446.length co17] rfl sQ ?_; (with_reducible refine (slices_Equal_impl_Peg.calls kj2 _ _ t443 _ _ t446 t449 _ ?side1 ?side2 ?side3 ?side4 A13.out).mono ?_); (case side1 => repeat (first | exact (rR HO445.out).2.2 | (with_reducible refine cA ?_ _) | (with_reducible refine cN ?_ _) | (with_reducible refine cD ?_))); (case side2 => exact (rR HO445.out).2.1); (case side3 => repeat (first | exact (rR HO448.out).2.2 | (with_reducible refine cA ?_ _) | (with_reducible refine cN ?_ _) | (with_reducible refine cD ?_))); (case side4 => exact (rR HO448.out).2.1); rintro e w' ⟨rfl, ⟨nd, rfl⟩⟩; refine ⟨_, rfl, ?_⟩))
    go_ret2
    exact ⟨wQ, bQ⟩

end Go.Proofs.Ytfihohongkfibaa.X
