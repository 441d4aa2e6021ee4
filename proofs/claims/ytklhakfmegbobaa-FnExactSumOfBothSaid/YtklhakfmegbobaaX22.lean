-- thin
-- short
-- compact
import Derived.Test.YtklhakfmegbobaaXA
import Derived.Test.YtklhakfmegbobaaX0
import Derived.Test.YtklhakfmegbobaaX2
import Derived.Test.YtklhakfmegbobaaX12
import Derived.Test.YtklhakfmegbobaaX21
namespace Go.Proofs.Ytklhakfmegbobaa.X
open Go.RowKit Go.Proofs.Ytklhakfmegbobaa.XW Go.Proofs.YtklhakfmegbobaaW.PrintWords Go.Proofs.YtklhakfmegbobaaW.PrintLast Go.Proofs.YtklhakfmegbobaaW.PrintMore
attribute [local go_sem] max2_int min2_int max_two min_two max_three min_three max_four min_four   -- for this text's walks alone
set_option linter.unusedVariables false
set_option linter.unusedSimpArgs false

def laws_FnExactSumOfBoth.j0 : Nat → List (S_laws_Peg) → List (S_impl_Peg) → Bool → Option (Bool)
 | 0, _, _, _ => none
 | k + 1, x0, x6, x34 => if x34 = true then (some false) else ((laws_toPegS.f k x0).bind fun t428 => ((laws_eqPegS.f k x6 t428).bind fun t431 => (if t431 = true then (some true) else (some false))))
def laws_FnExactSumOfBoth.f (k : Nat) (l0 : List (S_laws_Peg)) : Option (Bool) := (laws_szPegS.f l0 1048576).bind fun t417 => (if t417 < 0 then (some true) else ((laws_toPegS.f k l0).bind fun t418 => ((spec_SumOfBoth.f k t418).bind fun bt421 => ((laws_toPegS.f k l0).bind fun t423 => ((impl_SumOfBoth.f k t423).bind fun bt426 => (if bt426.1 = bt421.1 then (laws_FnExactSumOfBoth.j0 k l0 t423 (bt426.2 != bt421.2)) else (laws_FnExactSumOfBoth.j0 k l0 t423 true)))))))
theorem laws_FnExactSumOfBoth.mono_l : ∀ k, (∀ y0 y1 y2, LeO (laws_FnExactSumOfBoth.j0 k y0 y1 y2) (laws_FnExactSumOfBoth.j0 (k + 1) y0 y1 y2))
 | 0 => fun _ _ _ r h => by simp [laws_FnExactSumOfBoth.j0] at h
 | k + 1 => by
  have ih0 := laws_FnExactSumOfBoth.mono_l k
  ·intro y0 y1 y2
   unfold laws_FnExactSumOfBoth.j0
   repeat' first
   | (with_reducible exact ih0 _ _ _)
   | (with_reducible exact impl_SumOfBoth.mono _ _)
   | (with_reducible exact laws_eqPegS.mono _ _ _)
   | (with_reducible exact laws_toPegS.mono _ _)
   | (with_reducible exact spec_SumOfBoth.mono _ _)
   | (with_reducible exact LeO.refl _)
   | (with_reducible exact LeO.none _)
   | (with_reducible refine LeO.ite ?_ ?_)
   | (with_reducible refine LeO.bind ?_ (fun _ => ?_))
   | exact ih0 _ _ _
   | exact impl_SumOfBoth.mono _ _
   | exact laws_eqPegS.mono _ _ _
   | exact laws_toPegS.mono _ _
   | exact spec_SumOfBoth.mono _ _
   | exact LeO.none _
   | refine LeO.ite ?_ ?_
   | refine LeO.bind ?_ (fun _ => ?_)
theorem laws_FnExactSumOfBoth.mono : ∀ a0 k, LeO (laws_FnExactSumOfBoth.f k a0) (laws_FnExactSumOfBoth.f (k + 1) a0) := by
 intro a0 k
 have ih0 := laws_FnExactSumOfBoth.mono_l k
 unfold laws_FnExactSumOfBoth.f
 repeat' first | (with_reducible exact ih0 _ _ _) | (with_reducible exact impl_SumOfBoth.mono _ _) | (with_reducible exact laws_eqPegS.mono _ _ _) | (with_reducible exact laws_toPegS.mono _ _) | (with_reducible exact spec_SumOfBoth.mono _ _) | (with_reducible exact LeO.refl _) | (with_reducible exact LeO.none _) | (with_reducible refine LeO.ite ?_ ?_) | (with_reducible refine LeO.bind ?_ (fun _ => ?_)) | exact ih0 _ _ _ | exact impl_SumOfBoth.mono _ _ | exact laws_eqPegS.mono _ _ _ | exact laws_toPegS.mono _ _ | exact spec_SumOfBoth.mono _ _ | exact LeO.none _ | refine LeO.ite ?_ ?_ | refine LeO.bind ?_ (fun _ => ?_)
set_option maxHeartbeats 8000000 in
set_option maxRecDepth 100000 in
theorem laws_FnExactSumOfBoth.calls (k : Nat) (A0 : Option Addr) (c0 : Nat) (l0 : List (S_laws_Peg)) (r : Bool) (w : World) (hr0 : Kd.C kd_laws_Peg w A0 l0.length l0) (hc0 : l0.length ≤ c0) (h : laws_FnExactSumOfBoth.f k l0 = some r) :
  Calls Try.prog 14 #[.slice A0 l0.length c0] w fun e w' => e = .returned (.bool r) ∧ Below w.heap.size w w' := by
 have HR0 := aM hr0; have HC0 := aM hc0; clear hr0 hc0; have HB := aM (Below.refl w.heap.size w)
 unfold laws_FnExactSumOfBoth.f at h; have H := h; clear h
 replace H := bS H; obtain ⟨t417, A2, H⟩ := H
 by_cases c3 : t417 < 0
 ·rw [if_pos c3] at H; have c3b0 := dE c3; clear c3; obtain rfl := Option.some.inj H
  go_enter Try.func14, Try.ntmps14
  go_wp2_with (first | ((with_reducible refine gC (f := 15) rfl ?_); refine goesL_ (some 11) rfl rfl Try.func15 kR rfl #[.slice A0 l0.length c0, .int .i64 1048576] rfl sQ ?_; (with_reducible refine (laws_szPegS.calls _ _ l0 1048576 t417 _ ?side1 ?side2 A2.out).mono ?_); (case side1 => repeat (first | exact HR0.out | (with_reducible refine cA ?_ _) | (with_reducible refine cN ?_ _) | (with_reducible refine cD ?_))); (case side2 => exact HC0.out); rintro e w' ⟨rfl, ⟨nd, rfl⟩⟩; refine ⟨_, rfl, ?_⟩))
  go_ret
  exact ⟨wQ, bQ⟩
 ·rw [if_neg c3] at H; have c3b0 := decide_eq_false c3; clear c3; replace H := bS H; obtain ⟨t418, A4, H⟩ := H; replace H := bS H; obtain ⟨⟨t421, t422⟩, A5, H⟩ := H; replace H := bS H; obtain ⟨t423, A6, H⟩ := H; replace H := bS H; obtain ⟨⟨t426, t427⟩, A7, H⟩ := H; have HC8 := aM H; clear H
  go_enter Try.func14, Try.ntmps14
  go_upto_region 8 with (first | ((with_reducible refine gC (f := 15) rfl ?_); refine goesL_ (some 11) rfl rfl Try.func15 kR rfl #[.slice A0 l0.length c0, .int .i64 1048576] rfl sQ ?_; (with_reducible refine (laws_szPegS.calls _ _ l0 1048576 t417 _ ?side1 ?side2 A2.out).mono ?_); (case side1 => repeat (first | exact HR0.out | (with_reducible refine cA ?_ _) | (with_reducible refine cN ?_ _) | (with_reducible refine cD ?_))); (case side2 => exact HC0.out); rintro e w' ⟨rfl, ⟨nd, rfl⟩⟩; refine ⟨_, rfl, ?_⟩) | ((with_reducible refine gC (f := 17) rfl ?_); refine goesL_ (some 16) rfl rfl Try.func17 kR rfl #[.slice A0 l0.length c0] rfl sQ ?_; (with_reducible refine (laws_toPegS.calls k _ _ l0 t418 _ ?side1 ?side2 A4.out).mono ?_); (case side1 => repeat (first | exact HR0.out | (with_reducible refine cA ?_ _) | (with_reducible refine cN ?_ _) | (with_reducible refine cD ?_))); (case side2 => exact HC0.out); rintro e w9 ⟨v419, rfl, ho0, hb⟩; refine ⟨_, rfl, ?_⟩; have HO420 := aM (Kd.R_lower ho0 (pZ bQ)); replace HB := tB HB hb; (try clear hb); (try clear hb2); (try clear hk); (try clear hi); (try clear ho0); obtain ⟨Ao10, co10, eo10⟩ := Kd.R_slice HO420.out; subst eo10) | ((with_reducible refine gC (f := 52) rfl ?_); refine goesL_ (some 17) rfl rfl Try.func52 kR rfl #[.slice Ao10 t418.length co10] rfl sQ ?_; (with_reducible refine (spec_SumOfBoth.calls k (fun k_ => some k_ = (.slice Ao10 t418.length co10 : Value).ownBlock) (.slice Ao10 t418.length co10) t418 t421 t422 w _ ?side1 ?side2 A5.out).mono ?_); (case side1 => repeat (first | (with_reducible first | exact HB.out | apply pA | apply pN | apply pD) | exact HB.out)); (case side2 => exact Kd.R_tight rfl HO420.out); rintro e w11 ⟨rfl, hb, hkp⟩; refine ⟨_, rfl, ?_⟩; have n0_ := aM (hb); clear HB; clear HO420; have HB := n0_; clear n0_; (try clear hb); (try clear hkp)) | ((with_reducible refine gC (f := 17) rfl ?_); refine goesL_ (some 21) rfl rfl Try.func17 kR rfl #[.slice A0 l0.length c0] rfl sQ ?_; (with_reducible refine (laws_toPegS.calls k _ _ l0 t423 _ ?side1 ?side2 A6.out).mono ?_); (case side1 => repeat (first | exact (Kd.C_below HR0.out HB.out) | (with_reducible refine cA ?_ _) | (with_reducible refine cN ?_ _) | (with_reducible refine cD ?_))); (case side2 => exact HC0.out); rintro e w12 ⟨v424, rfl, ho0, hb⟩; refine ⟨_, rfl, ?_⟩; have HO425 := aM (Kd.R_lower ho0 (pZ bQ)); replace HB := tB HB hb; (try clear hb); (try clear hb2); (try clear hk); (try clear hi); (try clear ho0); obtain ⟨Ao13, co13, eo13⟩ := Kd.R_slice HO425.out; subst eo13) | ((with_reducible refine gC (f := 53) rfl ?_); refine goesL_ (some 24) rfl rfl Try.func53 kR rfl #[.slice Ao13 t423.length co13] rfl sQ ?_; (with_reducible refine (impl_SumOfBoth.calls k _ _ t423 t426 t427 _ ?side1 ?side2 A7.out).mono ?_); (case side1 => repeat (first | exact (rR HO425.out).2.2 | (with_reducible refine cA ?_ _) | (with_reducible refine cN ?_ _) | (with_reducible refine cD ?_))); (case side2 => exact (rR HO425.out).2.1); rintro e w14 ⟨rfl, hb⟩; refine ⟨_, rfl, ?_⟩; replace HO425 := aM (Kd.R_below (by (with_reducible repeat (first | apply rA | apply rN | apply rD)); exact HO425.out) hb); replace HB := tB HB hb; (try clear hb); (try clear hb2); (try clear hk); (try clear hi)))
  (try simp only [Act.put, sI, sZ, sS])
  go_cut [34] (fun v34 wc => ∃ (kq : Nat) (x34_7 : Bool), v34 = .bool x34_7 ∧ Aside0 (laws_FnExactSumOfBoth.j0 kq l0 t423 x34_7 = some r) ∧ Aside0 (kq ≤ k) ∧ Aside0 (Kd.R kd_impl_Peg 26 wc w.heap.size (fun _ => True) (.slice Ao13 t423.length co13) t423) ∧ Aside0 (Below w.heap.size w wc))
  case first =>
   have H := HC8.out; clear HC8
   by_cases c15 : t426 = t421
   ·rw [if_pos c15] at H; have c15b0 : (t426 == t421) = true := beq_iff_eq.mpr c15; have c15b1 : (t426 != t421) = false := bne_eq_false_iff_eq.mpr c15; clear c15
    (first | rw [c15b0] | (simp only [i64_w, i32_w]; rw [c15b0]) | skip)
    have H' := aM H; clear H; go_wp2
    go_meet
    case rel => exact ⟨_, ((t427 != t422)), eQ, H', ⟨by first | omega | exact Nat.le_refl _⟩, ⟨by (with_reducible repeat (first | apply rA | apply rN | apply rD)); exact HO425.out⟩, ⟨bQ⟩⟩
   ·rw [if_neg c15] at H; have c15b0 : (t426 == t421) = false := beq_eq_false_iff_ne.mpr c15; have c15b1 : (t426 != t421) = true := bne_iff_ne.mpr c15
    (first | rw [c15b0] | (simp only [i64_w, i32_w]; rw [c15b0]) | skip)
    have H' := aM H; clear H; go_wp2
    go_meet
    case rel => exact ⟨_, (true), eQ, H', ⟨by first | omega | exact Nat.le_refl _⟩, ⟨by (with_reducible repeat (first | apply rA | apply rN | apply rD)); exact HO425.out⟩, ⟨bQ⟩⟩
  case rest =>
   clear HC8; (try clear c3); (try clear c3b0); obtain ⟨kq, x34_7, rfl, HA, HJ7, HO_6, HB⟩ := hcut
   cases kq with
   | zero => exact absurd HA.out (by simp [laws_FnExactSumOfBoth.j0])
   | succ kj7 =>
    have H := HA.out; clear HA
    simp only [laws_FnExactSumOfBoth.j0] at H
    by_cases c16 : x34_7 = true
    ·subst c16; replace H := iT H; obtain rfl := Option.some.inj H; go_wp2
     go_ret
     exact ⟨wQ, bQ⟩
    ·replace c16 := Bool.eq_false_iff.mpr c16; subst c16; replace H := iF H; replace H := bS H; obtain ⟨t428, A17, H⟩ := H; replace H := bS H; obtain ⟨t431, A18, H⟩ := H
     by_cases c19 : t431 = true
     ·subst c19; replace H := iT H; obtain rfl := Option.some.inj H
      go_wp2_with (first | ((with_reducible refine gC (f := 17) rfl ?_); refine goesL_ (some 37) rfl rfl Try.func17 kR rfl #[.slice A0 l0.length c0] rfl sQ ?_; (with_reducible refine (laws_toPegS.calls kj7 _ _ l0 t428 _ ?side1 ?side2 A17.out).mono ?_); (case side1 => repeat (first | exact (Kd.C_below HR0.out HB.out) | (with_reducible refine cA ?_ _) | (with_reducible refine cN ?_ _) | (with_reducible refine cD ?_))); (case side2 => exact HC0.out); rintro e w20 ⟨v429, rfl, ho0, hb⟩; refine ⟨_, rfl, ?_⟩; have HO430 := aM (Kd.R_lower (Kd.R_new' ho0 (Kd.R_lt (by (with_reducible repeat (first | apply rA | apply rN | apply rD)); exact HO_6.out))) (pZ bQ)); replace HO_6 := aM (Kd.R_elder' (by (with_reducible repeat (first | apply rA | apply rN | apply rD)); exact HO_6.out) (Kd.R_base ho0) hb); replace HB := tB HB hb; (try clear hb); (try clear hb2); (try clear hk); (try clear hi); (try clear ho0); obtain ⟨Ao21, co21, eo21⟩ := Kd.R_slice HO430.out; subst eo21) | ((with_reducible refine gC (f := 21) rfl ?_); refine goesL_ (some 38) rfl rfl Try.func21 kR rfl #[.slice Ao13 t423.length co13, .slice Ao21 t428.length co21] rfl sQ ?_; (with_reducible refine (laws_eqPegS.calls kj7 _ _ t423 _ _ t428 true _ ?side1 ?side2 ?side3 ?side4 A18.out).mono ?_); (case side1 => repeat (first | exact (rR HO_6.out).2.2 | (with_reducible refine cA ?_ _) | (with_reducible refine cN ?_ _) | (with_reducible refine cD ?_))); (case side2 => exact (rR HO_6.out).2.1); (case side3 => repeat (first | exact (rR HO430.out).2.2 | (with_reducible refine cA ?_ _) | (with_reducible refine cN ?_ _) | (with_reducible refine cD ?_))); (case side4 => exact (rR HO430.out).2.1); rintro e w22 ⟨rfl, hb⟩; refine ⟨_, rfl, ?_⟩; replace HO_6 := aM (Kd.R_below (by (with_reducible repeat (first | apply rA | apply rN | apply rD)); exact HO_6.out) hb); replace HO430 := aM (Kd.R_below (by (with_reducible repeat (first | apply rA | apply rN | apply rD)); exact HO430.out) hb); replace HB := tB HB hb; (try clear hb); (try clear hb2); (try clear hk); (try clear hi)))
      go_ret
      exact ⟨wQ, bQ⟩
     ·replace c19 := Bool.eq_false_iff.mpr c19; subst c19; replace H := iF H; obtain rfl := Option.some.inj H
      go_wp2_with (first | ((with_reducible refine gC (f := 17) rfl ?_); refine goesL_ (some 37) rfl rfl Try.func17 kR rfl #[.slice A0 l0.length c0] rfl sQ ?_; (with_reducible refine (laws_toPegS.calls kj7 _ _ l0 t428 _ ?side1 ?side2 A17.out).mono ?_); (case side1 => repeat (first | exact (Kd.C_below HR0.out HB.out) | (with_reducible refine cA ?_ _) | (with_reducible refine cN ?_ _) | (with_reducible refine cD ?_))); (case side2 => exact HC0.out); rintro e w23 ⟨v429, rfl, ho0, hb⟩; refine ⟨_, rfl, ?_⟩; have HO430 := aM (Kd.R_lower (Kd.R_new' ho0 (Kd.R_lt (by (with_reducible repeat (first | apply rA | apply rN | apply rD)); exact HO_6.out))) (pZ bQ)); replace HO_6 := aM (Kd.R_elder' (by (with_reducible repeat (first | apply rA | apply rN | apply rD)); exact HO_6.out) (Kd.R_base ho0) hb); replace HB := tB HB hb; (try clear hb); (try clear hb2); (try clear hk); (try clear hi); (try clear ho0); obtain ⟨Ao24, co24, eo24⟩ := Kd.R_slice HO430.out; subst eo24) | ((with_reducible refine gC (f := 21) rfl ?_); refine goesL_ (some 38) rfl rfl Try.func21 kR rfl #[.slice Ao13 t423.length co13, .slice Ao24 t428.length co24] rfl sQ ?_; (with_reducible refine (laws_eqPegS.calls kj7 _ _ t423 _ _ t428 false _ ?side1 ?side2 ?side3 ?side4 A18.out).mono ?_); (case side1 => repeat (first | exact (rR HO_6.out).2.2 | (with_reducible refine cA ?_ _) | (with_reducible refine cN ?_ _) | (with_reducible refine cD ?_))); (case side2 => exact (rR HO_6.out).2.1); (case side3 => repeat (first | exact (rR HO430.out).2.2 | (with_reducible refine cA ?_ _) | (with_reducible refine cN ?_ _) | (with_reducible refine cD ?_))); (case side4 => exact (rR HO430.out).2.1); rintro e w25 ⟨rfl, hb⟩; refine ⟨_, rfl, ?_⟩; replace HO_6 := aM (Kd.R_below (by (with_reducible repeat (first | apply rA | apply rN | apply rD)); exact HO_6.out) hb); replace HO430 := aM (Kd.R_below (by (with_reducible repeat (first | apply rA | apply rN | apply rD)); exact HO430.out) hb); replace HB := tB HB hb; (try clear hb); (try clear hb2); (try clear hk); (try clear hi)))
      go_ret
      exact ⟨wQ, bQ⟩

def laws_FnExactSumOfBoth.Pure : Prop := ∀ (l0 : List (S_laws_Peg)), OkL (fun y : S_laws_Peg => (okInt .i64) y.f0 ∧ (okInt .i64) y.f1) l0 → ∃ k, laws_FnExactSumOfBoth.f k l0 = some true

end Go.Proofs.Ytklhakfmegbobaa.X
