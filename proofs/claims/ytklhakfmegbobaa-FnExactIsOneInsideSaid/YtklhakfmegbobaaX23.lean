-- thin
-- short
-- compact
import Derived.Test.YtklhakfmegbobaaXA
import Derived.Test.YtklhakfmegbobaaX0
import Derived.Test.YtklhakfmegbobaaX2
import Derived.Test.YtklhakfmegbobaaX7
import Derived.Test.YtklhakfmegbobaaX13
import Derived.Test.YtklhakfmegbobaaX19
import Derived.Test.YtklhakfmegbobaaX22
namespace Go.Proofs.Ytklhakfmegbobaa.X
open Go.RowKit Go.Proofs.Ytklhakfmegbobaa.XW Go.Proofs.YtklhakfmegbobaaW.PrintWords Go.Proofs.YtklhakfmegbobaaW.PrintLast Go.Proofs.YtklhakfmegbobaaW.PrintMore
attribute [local go_sem] max2_int min2_int max_two min_two max_three min_three max_four min_four   -- for this text's walks alone
set_option linter.unusedVariables false
set_option linter.unusedSimpArgs false

def laws_FnExactIsOneInside.j0 : Nat → List (S_laws_Peg) → List (S_impl_Peg) → Bool → Option (Bool)
 | 0, _, _, _ => none
 | k + 1, x0, x6, x34 => if x34 = true then (some false) else ((laws_toPegS.f k x0).bind fun t461 => ((laws_eqPegS.f k x6 t461).bind fun t464 => (if t464 = true then (some true) else (some false))))
def laws_FnExactIsOneInside.f (k : Nat) (l0 : List (S_laws_Peg)) : Option (Bool) := (laws_szPegS.f l0 1048576).bind fun t450 => (if t450 < 0 then (some true) else ((laws_toPegS.f k l0).bind fun t451 => ((spec_IsOneInside.f k t451).bind fun bt454 => ((laws_toPegS.f k l0).bind fun t456 => ((impl_IsOneInside.f k t456).bind fun bt459 => (if (bt459.1 != bt454.1) = true then (laws_FnExactIsOneInside.j0 k l0 t456 true) else (laws_FnExactIsOneInside.j0 k l0 t456 (bt459.2 != bt454.2))))))))
theorem laws_FnExactIsOneInside.mono_l : ∀ k, (∀ y0 y1 y2, LeO (laws_FnExactIsOneInside.j0 k y0 y1 y2) (laws_FnExactIsOneInside.j0 (k + 1) y0 y1 y2))
 | 0 => fun _ _ _ r h => by simp [laws_FnExactIsOneInside.j0] at h
 | k + 1 => by
  have ih0 := laws_FnExactIsOneInside.mono_l k
  ·intro y0 y1 y2
   unfold laws_FnExactIsOneInside.j0
   repeat' first
   | (with_reducible exact ih0 _ _ _)
   | (with_reducible exact impl_IsOneInside.mono _ _)
   | (with_reducible exact laws_eqPegS.mono _ _ _)
   | (with_reducible exact laws_toPegS.mono _ _)
   | (with_reducible exact spec_IsOneInside.mono _ _)
   | (with_reducible exact LeO.refl _)
   | (with_reducible exact LeO.none _)
   | (with_reducible refine LeO.ite ?_ ?_)
   | (with_reducible refine LeO.bind ?_ (fun _ => ?_))
   | exact ih0 _ _ _
   | exact impl_IsOneInside.mono _ _
   | exact laws_eqPegS.mono _ _ _
   | exact laws_toPegS.mono _ _
   | exact spec_IsOneInside.mono _ _
   | exact LeO.none _
   | refine LeO.ite ?_ ?_
   | refine LeO.bind ?_ (fun _ => ?_)
theorem laws_FnExactIsOneInside.mono : ∀ a0 k, LeO (laws_FnExactIsOneInside.f k a0) (laws_FnExactIsOneInside.f (k + 1) a0) := by
 intro a0 k
 have ih0 := laws_FnExactIsOneInside.mono_l k
 unfold laws_FnExactIsOneInside.f
 repeat' first | (with_reducible exact ih0 _ _ _) | (with_reducible exact impl_IsOneInside.mono _ _) | (with_reducible exact laws_eqPegS.mono _ _ _) | (with_reducible exact laws_toPegS.mono _ _) | (with_reducible exact spec_IsOneInside.mono _ _) | (with_reducible exact LeO.refl _) | (with_reducible exact LeO.none _) | (with_reducible refine LeO.ite ?_ ?_) | (with_reducible refine LeO.bind ?_ (fun _ => ?_)) | exact ih0 _ _ _ | exact impl_IsOneInside.mono _ _ | exact laws_eqPegS.mono _ _ _ | exact laws_toPegS.mono _ _ | exact spec_IsOneInside.mono _ _ | exact LeO.none _ | refine LeO.ite ?_ ?_ | refine LeO.bind ?_ (fun _ => ?_)
set_option maxHeartbeats 8000000 in
set_option maxRecDepth 100000 in
theorem laws_FnExactIsOneInside.calls (k : Nat) (A0 : Option Addr) (c0 : Nat) (l0 : List (S_laws_Peg)) (r : Bool) (w : World) (hr0 : Kd.C kd_laws_Peg w A0 l0.length l0) (hc0 : l0.length ≤ c0) (h : laws_FnExactIsOneInside.f k l0 = some r) :
  Calls Try.prog 5 #[.slice A0 l0.length c0] w fun e w' => e = .returned (.bool r) ∧ Below w.heap.size w w' := by
 have HR0 := aM hr0; have HC0 := aM hc0; clear hr0 hc0; have HB := aM (Below.refl w.heap.size w)
 unfold laws_FnExactIsOneInside.f at h; have H := h; clear h
 replace H := bS H; obtain ⟨t450, A2, H⟩ := H
 by_cases c3 : t450 < 0
 ·rw [if_pos c3] at H; have c3b0 := dE c3; clear c3; obtain rfl := Option.some.inj H
  go_enter Try.func5, Try.ntmps5
  go_wp2_with (first | ((with_reducible refine gC (f := 15) rfl ?_); refine goesL_ (some 11) rfl rfl Try.func15 kR rfl #[.slice A0 l0.length c0, .int .i64 1048576] rfl sQ ?_; (with_reducible refine (laws_szPegS.calls _ _ l0 1048576 t450 _ ?side1 ?side2 A2.out).mono ?_); (case side1 => repeat (first | exact HR0.out | (with_reducible refine cA ?_ _) | (with_reducible refine cN ?_ _) | (with_reducible refine cD ?_))); (case side2 => exact HC0.out); rintro e w' ⟨rfl, ⟨nd, rfl⟩⟩; refine ⟨_, rfl, ?_⟩))
  go_ret
  exact ⟨wQ, bQ⟩
 ·rw [if_neg c3] at H; have c3b0 := decide_eq_false c3; clear c3; replace H := bS H; obtain ⟨t451, A4, H⟩ := H; replace H := bS H; obtain ⟨⟨t454, t455⟩, A5, H⟩ := H; replace H := bS H; obtain ⟨t456, A6, H⟩ := H; replace H := bS H; obtain ⟨⟨t459, t460⟩, A7, H⟩ := H; have HC8 := aM H; clear H
  go_enter Try.func5, Try.ntmps5
  go_upto_region 8 with (first | ((with_reducible refine gC (f := 15) rfl ?_); refine goesL_ (some 11) rfl rfl Try.func15 kR rfl #[.slice A0 l0.length c0, .int .i64 1048576] rfl sQ ?_; (with_reducible refine (laws_szPegS.calls _ _ l0 1048576 t450 _ ?side1 ?side2 A2.out).mono ?_); (case side1 => repeat (first | exact HR0.out | (with_reducible refine cA ?_ _) | (with_reducible refine cN ?_ _) | (with_reducible refine cD ?_))); (case side2 => exact HC0.out); rintro e w' ⟨rfl, ⟨nd, rfl⟩⟩; refine ⟨_, rfl, ?_⟩) | ((with_reducible refine gC (f := 17) rfl ?_); refine goesL_ (some 16) rfl rfl Try.func17 kR rfl #[.slice A0 l0.length c0] rfl sQ ?_; (with_reducible refine (laws_toPegS.calls k _ _ l0 t451 _ ?side1 ?side2 A4.out).mono ?_); (case side1 => repeat (first | exact HR0.out | (with_reducible refine cA ?_ _) | (with_reducible refine cN ?_ _) | (with_reducible refine cD ?_))); (case side2 => exact HC0.out); rintro e w9 ⟨v452, rfl, ho0, hb⟩; refine ⟨_, rfl, ?_⟩; have HO453 := aM (Kd.R_lower ho0 (pZ bQ)); replace HB := tB HB hb; (try clear hb); (try clear hb2); (try clear hk); (try clear hi); (try clear ho0); obtain ⟨Ao10, co10, eo10⟩ := Kd.R_slice HO453.out; subst eo10) | ((with_reducible refine gC (f := 27) rfl ?_); refine goesL_ (some 17) rfl rfl Try.func27 kR rfl #[.slice Ao10 t451.length co10] rfl sQ ?_; (with_reducible refine (spec_IsOneInside.calls k _ _ t451 t454 t455 _ ?side1 ?side2 A5.out).mono ?_); (case side1 => repeat (first | exact (rR HO453.out).2.2 | (with_reducible refine cA ?_ _) | (with_reducible refine cN ?_ _) | (with_reducible refine cD ?_))); (case side2 => exact (rR HO453.out).2.1); rintro e w11 ⟨rfl, hb⟩; refine ⟨_, rfl, ?_⟩; replace HO453 := aM (Kd.R_below (by (with_reducible repeat (first | apply rA | apply rN | apply rD)); exact HO453.out) hb); replace HB := tB HB hb; (try clear hb); (try clear hb2); (try clear hk); (try clear hi)) | ((with_reducible refine gC (f := 17) rfl ?_); refine goesL_ (some 21) rfl rfl Try.func17 kR rfl #[.slice A0 l0.length c0] rfl sQ ?_; (with_reducible refine (laws_toPegS.calls k _ _ l0 t456 _ ?side1 ?side2 A6.out).mono ?_); (case side1 => repeat (first | exact (Kd.C_below HR0.out HB.out) | (with_reducible refine cA ?_ _) | (with_reducible refine cN ?_ _) | (with_reducible refine cD ?_))); (case side2 => exact HC0.out); rintro e w12 ⟨v457, rfl, ho0, hb⟩; refine ⟨_, rfl, ?_⟩; have HO458 := aM (Kd.R_lower (Kd.R_new' ho0 (Kd.R_lt (by (with_reducible repeat (first | apply rA | apply rN | apply rD)); exact HO453.out))) (pZ bQ)); replace HO453 := aM (Kd.R_elder' (by (with_reducible repeat (first | apply rA | apply rN | apply rD)); exact HO453.out) (Kd.R_base ho0) hb); replace HB := tB HB hb; (try clear hb); (try clear hb2); (try clear hk); (try clear hi); (try clear ho0); obtain ⟨Ao13, co13, eo13⟩ := Kd.R_slice HO458.out; subst eo13) | ((with_reducible refine gC (f := 28) rfl ?_); refine goesL_ (some 24) rfl rfl Try.func28 kR rfl #[.slice Ao13 t456.length co13] rfl sQ ?_; (with_reducible refine (impl_IsOneInside.calls k _ _ t456 t459 t460 _ ?side1 ?side2 A7.out).mono ?_); (case side1 => repeat (first | exact (rR HO458.out).2.2 | (with_reducible refine cA ?_ _) | (with_reducible refine cN ?_ _) | (with_reducible refine cD ?_))); (case side2 => exact (rR HO458.out).2.1); rintro e w14 ⟨rfl, hb⟩; refine ⟨_, rfl, ?_⟩; replace HO453 := aM (Kd.R_below (by (with_reducible repeat (first | apply rA | apply rN | apply rD)); exact HO453.out) hb); replace HO458 := aM (Kd.R_below (by (with_reducible repeat (first | apply rA | apply rN | apply rD)); exact HO458.out) hb); replace HB := tB HB hb; (try clear hb); (try clear hb2); (try clear hk); (try clear hi)))
  (try simp only [Act.put, sI, sZ, sS])
  go_cut [34] (fun v34 wc => ∃ (kq : Nat) (x34_7 : Bool), v34 = .bool x34_7 ∧ Aside0 (laws_FnExactIsOneInside.j0 kq l0 t456 x34_7 = some r) ∧ Aside0 (kq ≤ k) ∧ Aside0 (Kd.R kd_impl_Peg 26 wc w.heap.size (fun _ => True) (.slice Ao13 t456.length co13) t456) ∧ Aside0 (Below w.heap.size w wc))
  case first =>
   have H := HC8.out; clear HC8
   by_cases c15 : (t459 != t454) = true
   ·rw [if_pos c15] at H; have c15b0 := c15
    (try (have c15b1 : decide (t459 = t454) = false := by simpa using c15))
    (try (have c15b2 : (t459 == t454) = false := by simpa using c15))
    (try (have c15b3 : ¬ (t459 = t454) := by simpa using c15))
    clear c15
    (first | rw [c15b0] | (simp only [i64_w, i32_w]; rw [c15b0]) | skip)
    have H' := aM H; clear H; go_wp2
    go_meet
    case rel => exact ⟨_, (true), eQ, H', ⟨by first | omega | exact Nat.le_refl _⟩, ⟨by (with_reducible repeat (first | apply rA | apply rN | apply rD)); exact Kd.R_mono HO458.out (fun _ hk => trivial)⟩, ⟨bQ⟩⟩
   ·rw [if_neg c15] at H; have c15b0 : (t459 != t454) = false := by simpa using c15
    (try (have c15b1 : decide (t459 = t454) = true := by simpa using c15))
    (try (have c15b2 : (t459 == t454) = true := by simpa using c15))
    clear c15
    (first | rw [c15b0] | (simp only [i64_w, i32_w]; rw [c15b0]) | skip)
    have H' := aM H; clear H; go_wp2
    go_meet
    case rel => exact ⟨_, ((t460 != t455)), eQ, H', ⟨by first | omega | exact Nat.le_refl _⟩, ⟨by (with_reducible repeat (first | apply rA | apply rN | apply rD)); exact Kd.R_mono HO458.out (fun _ hk => trivial)⟩, ⟨bQ⟩⟩
  case rest =>
   clear HC8; (try clear c3); (try clear c3b0); obtain ⟨kq, x34_7, rfl, HA, HJ7, HO_6, HB⟩ := hcut
   cases kq with
   | zero => exact absurd HA.out (by simp [laws_FnExactIsOneInside.j0])
   | succ kj7 =>
    have H := HA.out; clear HA
    simp only [laws_FnExactIsOneInside.j0] at H
    by_cases c16 : x34_7 = true
    ·subst c16; replace H := iT H; obtain rfl := Option.some.inj H; go_wp2
     go_ret
     exact ⟨wQ, bQ⟩
    ·replace c16 := Bool.eq_false_iff.mpr c16; subst c16; replace H := iF H; replace H := bS H; obtain ⟨t461, A17, H⟩ := H; replace H := bS H; obtain ⟨t464, A18, H⟩ := H
     by_cases c19 : t464 = true
     ·subst c19; replace H := iT H; obtain rfl := Option.some.inj H
      go_wp2_with (first | ((with_reducible refine gC (f := 17) rfl ?_); refine goesL_ (some 37) rfl rfl Try.func17 kR rfl #[.slice A0 l0.length c0] rfl sQ ?_; (with_reducible refine (laws_toPegS.calls kj7 _ _ l0 t461 _ ?side1 ?side2 A17.out).mono ?_); (case side1 => repeat (first | exact (Kd.C_below HR0.out HB.out) | (with_reducible refine cA ?_ _) | (with_reducible refine cN ?_ _) | (with_reducible refine cD ?_))); (case side2 => exact HC0.out); rintro e w20 ⟨v462, rfl, ho0, hb⟩; refine ⟨_, rfl, ?_⟩; have HO463 := aM (Kd.R_lower (Kd.R_new' ho0 (Kd.R_lt (by (with_reducible repeat (first | apply rA | apply rN | apply rD)); exact HO_6.out))) (pZ bQ)); replace HO_6 := aM (Kd.R_elder' (by (with_reducible repeat (first | apply rA | apply rN | apply rD)); exact HO_6.out) (Kd.R_base ho0) hb); replace HB := tB HB hb; (try clear hb); (try clear hb2); (try clear hk); (try clear hi); (try clear ho0); obtain ⟨Ao21, co21, eo21⟩ := Kd.R_slice HO463.out; subst eo21) | ((with_reducible refine gC (f := 21) rfl ?_); refine goesL_ (some 38) rfl rfl Try.func21 kR rfl #[.slice Ao13 t456.length co13, .slice Ao21 t461.length co21] rfl sQ ?_; (with_reducible refine (laws_eqPegS.calls kj7 _ _ t456 _ _ t461 true _ ?side1 ?side2 ?side3 ?side4 A18.out).mono ?_); (case side1 => repeat (first | exact (rR HO_6.out).2.2 | (with_reducible refine cA ?_ _) | (with_reducible refine cN ?_ _) | (with_reducible refine cD ?_))); (case side2 => exact (rR HO_6.out).2.1); (case side3 => repeat (first | exact (rR HO463.out).2.2 | (with_reducible refine cA ?_ _) | (with_reducible refine cN ?_ _) | (with_reducible refine cD ?_))); (case side4 => exact (rR HO463.out).2.1); rintro e w22 ⟨rfl, hb⟩; refine ⟨_, rfl, ?_⟩; replace HO_6 := aM (Kd.R_below (by (with_reducible repeat (first | apply rA | apply rN | apply rD)); exact HO_6.out) hb); replace HO463 := aM (Kd.R_below (by (with_reducible repeat (first | apply rA | apply rN | apply rD)); exact HO463.out) hb); replace HB := tB HB hb; (try clear hb); (try clear hb2); (try clear hk); (try clear hi)))
      go_ret
      exact ⟨wQ, bQ⟩
     ·replace c19 := Bool.eq_false_iff.mpr c19; subst c19; replace H := iF H; obtain rfl := Option.some.inj H
      go_wp2_with (first | ((with_reducible refine gC (f := 17) rfl ?_); refine goesL_ (some 37) rfl rfl Try.func17 kR rfl #[.slice A0 l0.length c0] rfl sQ ?_; (with_reducible refine (laws_toPegS.calls kj7 _ _ l0 t461 _ ?side1 ?side2 A17.out).mono ?_); (case side1 => repeat (first | exact (Kd.C_below HR0.out HB.out) | (with_reducible refine cA ?_ _) | (with_reducible refine cN ?_ _) | (with_reducible refine cD ?_))); (case side2 => exact HC0.out); rintro e w23 ⟨v462, rfl, ho0, hb⟩; refine ⟨_, rfl, ?_⟩; have HO463 := aM (Kd.R_lower (Kd.R_new' ho0 (Kd.R_lt (by (with_reducible repeat (first | apply rA | apply rN | apply rD)); exact HO_6.out))) (pZ bQ)); replace HO_6 := aM (Kd.R_elder' (by (with_reducible repeat (first | apply rA | apply rN | apply rD)); exact HO_6.out) (Kd.R_base ho0) hb); replace HB := tB HB hb; (try clear hb); (try clear hb2); (try clear hk); (try clear hi); (try clear ho0); obtain ⟨Ao24, co24, eo24⟩ := Kd.R_slice HO463.out; subst eo24) | ((with_reducible refine gC (f := 21) rfl ?_); refine goesL_ (some 38) rfl rfl Try.func21 kR rfl #[.slice Ao13 t456.length co13, .slice Ao24 t461.length co24] rfl sQ ?_; (with_reducible refine (laws_eqPegS.calls kj7 _ _ t456 _ _ t461 false _ ?side1 ?side2 ?side3 ?side4 A18.out).mono ?_); (case side1 => repeat (first | exact (rR HO_6.out).2.2 | (with_reducible refine cA ?_ _) | (with_reducible refine cN ?_ _) | (with_reducible refine cD ?_))); (case side2 => exact (rR HO_6.out).2.1); (case side3 => repeat (first | exact (rR HO463.out).2.2 | (with_reducible refine cA ?_ _) | (with_reducible refine cN ?_ _) | (with_reducible refine cD ?_))); (case side4 => exact (rR HO463.out).2.1); rintro e w25 ⟨rfl, hb⟩; refine ⟨_, rfl, ?_⟩; replace HO_6 := aM (Kd.R_below (by (with_reducible repeat (first | apply rA | apply rN | apply rD)); exact HO_6.out) hb); replace HO463 := aM (Kd.R_below (by (with_reducible repeat (first | apply rA | apply rN | apply rD)); exact HO463.out) hb); replace HB := tB HB hb; (try clear hb); (try clear hb2); (try clear hk); (try clear hi)))
      go_ret
      exact ⟨wQ, bQ⟩

def laws_FnExactIsOneInside.Pure : Prop := ∀ (l0 : List (S_laws_Peg)), OkL (fun y : S_laws_Peg => (okInt .i64) y.f0 ∧ (okInt .i64) y.f1) l0 → ∃ k, laws_FnExactIsOneInside.f k l0 = some true

end Go.Proofs.Ytklhakfmegbobaa.X
