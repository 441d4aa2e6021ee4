-- thin
-- short
-- compact
import Derived.Test.YtklhakfmegbobaaXA
import Derived.Test.YtklhakfmegbobaaX0
import Derived.Test.YtklhakfmegbobaaX11
import Derived.Test.YtklhakfmegbobaaX18
import Derived.Test.YtklhakfmegbobaaX19
import Derived.Test.YtklhakfmegbobaaX20
namespace Go.Proofs.Ytklhakfmegbobaa.X
open Go.RowKit Go.Proofs.Ytklhakfmegbobaa.XW Go.Proofs.YtklhakfmegbobaaW.PrintWords Go.Proofs.YtklhakfmegbobaaW.PrintLast Go.Proofs.YtklhakfmegbobaaW.PrintMore
attribute [local go_sem] max2_int min2_int max_two min_two max_three min_three max_four min_four   -- for this text's walks alone
set_option linter.unusedVariables false
set_option linter.unusedSimpArgs false

def impl_DualNumbers.f (k : Nat) (l0 : List Int) : Option (List Int × Bool) := (impl_PolygonOfNumbers.f k l0).bind fun bt465 => (if bt465.2 = true then ((impl_dual.f k bt465.1).bind fun t469 => ((impl_pegsAround.f k t469).bind fun t472 => ((impl_ratios.f k t472).bind fun t475 => (some (t475, true))))) else (some (([] : List Int), false)))
theorem impl_DualNumbers.mono : ∀ a0 k, LeO (impl_DualNumbers.f k a0) (impl_DualNumbers.f (k + 1) a0) := by
 intro a0 k
 unfold impl_DualNumbers.f
 repeat' first | (with_reducible exact impl_PolygonOfNumbers.mono _ _) | (with_reducible exact impl_dual.mono _ _) | (with_reducible exact impl_pegsAround.mono _ _) | (with_reducible exact impl_ratios.mono _ _) | (with_reducible exact LeO.refl _) | (with_reducible exact LeO.none _) | (with_reducible refine LeO.ite ?_ ?_) | (with_reducible refine LeO.bind ?_ (fun _ => ?_)) | exact impl_PolygonOfNumbers.mono _ _ | exact impl_dual.mono _ _ | exact impl_pegsAround.mono _ _ | exact impl_ratios.mono _ _ | exact LeO.none _ | refine LeO.ite ?_ ?_ | refine LeO.bind ?_ (fun _ => ?_)
set_option maxHeartbeats 8000000 in
set_option maxRecDepth 100000 in
theorem impl_DualNumbers.calls (k : Nat) (A0 : Option Addr) (c0 : Nat) (l0 : List Int) (r1 : List Int) (r2 : Bool) (w : World) (hr0 : Kd.C (Kd.int .i64) w A0 l0.length l0) (hc0 : l0.length ≤ c0) (h : impl_DualNumbers.f k l0 = some (r1, r2)) :
  Calls Try.prog 51 #[.slice A0 l0.length c0] w fun e w' => ∃ v0_ : Value, e = .returned (.tuple #[v0_, .bool r2]) ∧ Kd.R (Kd.int .i64) 3 w' w.heap.size (fun _ => True) v0_ r1 ∧ Below w.heap.size w w' := by
 have HR0 := aM hr0; have HC0 := aM hc0; clear hr0 hc0; have HB := aM (Below.refl w.heap.size w)
 unfold impl_DualNumbers.f at h; have H := h; clear h
 replace H := bS H; obtain ⟨⟨t465, t466⟩, A2, H⟩ := H
 by_cases c3 : t466 = true
 ·subst c3; replace H := iT H; replace H := bS H; obtain ⟨t469, A4, H⟩ := H; replace H := bS H; obtain ⟨t472, A5, H⟩ := H; replace H := bS H; obtain ⟨t475, A6, H⟩ := H
  simp only [Option.some.injEq, Prod.mk.injEq] at H
  obtain ⟨rfl, rfl⟩ := H
  go_enter Try.func51, Try.ntmps51
  go_wp2_with (first | ((with_reducible refine gC (f := 30) rfl ?_); refine goesL_ (some 8) rfl rfl Try.func30 kR rfl #[.slice A0 l0.length c0] rfl sQ ?_; (with_reducible refine (impl_PolygonOfNumbers.calls k _ _ l0 t465 true _ ?side1 ?side2 A2.out).mono ?_); (case side1 => repeat (first | exact HR0.out | (with_reducible refine cA ?_ _) | (with_reducible refine cN ?_ _) | (with_reducible refine cD ?_))); (case side2 => exact HC0.out); rintro e w7 ⟨v467, rfl, ho0, hb⟩; refine ⟨_, rfl, ?_⟩; have HO468 := aM (Kd.R_lower ho0 (pZ bQ)); replace HB := tB HB hb; (try clear hb); (try clear hb2); (try clear hk); (try clear hi); (try clear ho0); obtain ⟨Ao8, co8, eo8⟩ := Kd.R_slice HO468.out; subst eo8) | ((with_reducible refine gC (f := 102) rfl ?_); refine goesL_ (some 14) rfl rfl Try.func102 kR rfl #[.slice Ao8 t465.length co8] rfl sQ ?_; (with_reducible refine (impl_dual.calls k _ _ t465 t469 _ ?side1 ?side2 A4.out).mono ?_); (case side1 => repeat (first | exact (rR HO468.out).2.2 | (with_reducible refine cA ?_ _) | (with_reducible refine cN ?_ _) | (with_reducible refine cD ?_))); (case side2 => exact (rR HO468.out).2.1); rintro e w9 ⟨v470, rfl, ho0, hb⟩; refine ⟨_, rfl, ?_⟩; have HO471 := aM (Kd.R_lower (Kd.R_new' ho0 (Kd.R_lt (by (with_reducible repeat (first | apply rA | apply rN | apply rD)); exact HO468.out))) (pZ bQ)); replace HO468 := aM (Kd.R_elder' (by (with_reducible repeat (first | apply rA | apply rN | apply rD)); exact HO468.out) (Kd.R_base ho0) hb); replace HB := tB HB hb; (try clear hb); (try clear hb2); (try clear hk); (try clear hi); (try clear ho0); obtain ⟨Ao10, co10, eo10⟩ := Kd.R_slice HO471.out; subst eo10) | ((with_reducible refine gC (f := 101) rfl ?_); refine goesL_ (some 15) rfl rfl Try.func101 kR rfl #[.slice Ao10 t469.length co10] rfl sQ ?_; (with_reducible refine (impl_pegsAround.calls k _ _ t469 t472 _ ?side1 ?side2 A5.out).mono ?_); (case side1 => repeat (first | exact (rR HO471.out).2.2 | (with_reducible refine cA ?_ _) | (with_reducible refine cN ?_ _) | (with_reducible refine cD ?_))); (case side2 => exact (rR HO471.out).2.1); rintro e w11 ⟨v473, rfl, ho0, hb⟩; refine ⟨_, rfl, ?_⟩; have HO474 := aM (Kd.R_lower (Kd.R_new' (Kd.R_new' ho0 (Kd.R_lt (by (with_reducible repeat (first | apply rA | apply rN | apply rD)); exact HO468.out))) (Kd.R_lt (by (with_reducible repeat (first | apply rA | apply rN | apply rD)); exact HO471.out))) (pZ bQ)); replace HO468 := aM (Kd.R_elder' (by (with_reducible repeat (first | apply rA | apply rN | apply rD)); exact HO468.out) (Kd.R_base ho0) hb); replace HO471 := aM (Kd.R_elder' (by (with_reducible repeat (first | apply rA | apply rN | apply rD)); exact HO471.out) (Kd.R_base ho0) hb); replace HB := tB HB hb; (try clear hb); (try clear hb2); (try clear hk); (try clear hi); (try clear ho0); obtain ⟨Ao12, co12, eo12⟩ := Kd.R_slice HO474.out; subst eo12) | ((with_reducible refine gC (f := 100) rfl ?_); refine goesL_ (some 16) rfl rfl Try.func100 kR rfl #[.slice Ao12 t472.length co12] rfl sQ ?_; (with_reducible refine (impl_ratios.calls k _ _ t472 t475 _ ?side1 ?side2 A6.out).mono ?_); (case side1 => repeat (first | exact (rR HO474.out).2.2 | (with_reducible refine cA ?_ _) | (with_reducible refine cN ?_ _) | (with_reducible refine cD ?_))); (case side2 => exact (rR HO474.out).2.1); rintro e w13 ⟨v476, rfl, ho0, hb⟩; refine ⟨_, rfl, ?_⟩; have HO477 := aM (Kd.R_lower ho0 (pZ bQ)); replace HO468 := aM (Kd.R_below (by (with_reducible repeat (first | apply rA | apply rN | apply rD)); exact HO468.out) hb); replace HO471 := aM (Kd.R_below (by (with_reducible repeat (first | apply rA | apply rN | apply rD)); exact HO471.out) hb); replace HO474 := aM (Kd.R_below (by (with_reducible repeat (first | apply rA | apply rN | apply rD)); exact HO474.out) hb); replace HB := tB HB hb; (try clear hb); (try clear hb2); (try clear hk); (try clear hi); (try clear ho0)))
  go_ret2
  exact ⟨_, by first | rfl | (simp [errW_none, errW_some] <;> rfl) | (simp [*, errW_none, errW_some] <;> rfl), by (with_reducible repeat (first | apply rA | apply rN | apply rD)); exact HO477.out, bQ⟩
 ·replace c3 := Bool.eq_false_iff.mpr c3; subst c3; replace H := iF H
  simp only [Option.some.injEq, Prod.mk.injEq] at H
  obtain ⟨rfl, rfl⟩ := H
  go_enter Try.func51, Try.ntmps51
  go_wp2_with (first | ((with_reducible refine gC (f := 30) rfl ?_); refine goesL_ (some 8) rfl rfl Try.func30 kR rfl #[.slice A0 l0.length c0] rfl sQ ?_; (with_reducible refine (impl_PolygonOfNumbers.calls k _ _ l0 t465 false _ ?side1 ?side2 A2.out).mono ?_); (case side1 => repeat (first | exact HR0.out | (with_reducible refine cA ?_ _) | (with_reducible refine cN ?_ _) | (with_reducible refine cD ?_))); (case side2 => exact HC0.out); rintro e w14 ⟨v467, rfl, ho0, hb⟩; refine ⟨_, rfl, ?_⟩; have HO468 := aM (Kd.R_lower ho0 (pZ bQ)); replace HB := tB HB hb; (try clear hb); (try clear hb2); (try clear hk); (try clear hi); (try clear ho0)))
  go_ret2
  exact ⟨_, by first | rfl | (simp [errW_none, errW_some] <;> rfl) | (simp [*, errW_none, errW_some] <;> rfl), by first | exact Kd.R_nil _ _ _ _ _ | exact Kd.N_nil _ _ _ _ _ | exact Kd.V_nil _ _ _ _ _ | exact Kd.Q_nil _ _ _ _ _ | exact Kd.S_nil _ _ _ _ _, bQ⟩

end Go.Proofs.Ytklhakfmegbobaa.X
