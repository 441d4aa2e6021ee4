-- thin
-- short
-- compact
import Derived.Test.YtfihohongkfibaaXA
import Derived.Test.YtfihohongkfibaaX0
import Derived.Test.YtfihohongkfibaaX2
import Derived.Test.YtfihohongkfibaaX8
import Derived.Test.YtfihohongkfibaaX16
namespace Go.Proofs.Ytfihohongkfibaa.X
open Go.RowKit Go.Proofs.Ytfihohongkfibaa.XW Go.Proofs.YtfihohongkfibaaW.PrintWords Go.Proofs.YtfihohongkfibaaW.PrintLast Go.Proofs.YtfihohongkfibaaW.PrintMore
attribute [local go_sem] max2_int min2_int max_two min_two max_three min_three max_four min_four   -- for this text's walks alone
set_option linter.unusedVariables false
set_option linter.unusedSimpArgs false

def laws_FnExactMostOnLine.j0 : Nat → List (S_laws_Peg) → List (S_impl_Peg) → Bool → Option (Bool)
 | 0, _, _, _ => none
 | k + 1, x0, x10, x42 => if x42 = true then (some false) else ((laws_toPegS.f k x0).bind fun t335 => ((laws_eqPegS.f k x10 t335).bind fun t338 => (if t338 = true then (some true) else (some false))))
def laws_FnExactMostOnLine.f (k : Nat) (l0 : List (S_laws_Peg)) (a1 : Int) (a2 : Int) : Option (Bool) := (laws_szPegS.f l0 1048576).bind fun t324 => (if t324 < 0 then (some true) else ((laws_toPegS.f k l0).bind fun t325 => ((spec_MostOnLine.f k t325 a1 a2).bind fun bt328 => ((laws_toPegS.f k l0).bind fun t330 => ((impl_MostOnLine.f k t330 a1 a2).bind fun bt333 => (if bt333.1 = bt328.1 then (laws_FnExactMostOnLine.j0 k l0 t330 (bt333.2 != bt328.2)) else (laws_FnExactMostOnLine.j0 k l0 t330 true)))))))
theorem laws_FnExactMostOnLine.mono_l : ∀ k, (∀ y0 y1 y2, LeO (laws_FnExactMostOnLine.j0 k y0 y1 y2) (laws_FnExactMostOnLine.j0 (k + 1) y0 y1 y2))
 | 0 => fun _ _ _ r h => by simp [laws_FnExactMostOnLine.j0] at h
 | k + 1 => by
  have ih0 := laws_FnExactMostOnLine.mono_l k
  ·intro y0 y1 y2
   unfold laws_FnExactMostOnLine.j0
   repeat' first
   | (with_reducible exact ih0 _ _ _)
   | (with_reducible exact impl_MostOnLine.mono _ _ _ _)
   | (with_reducible exact laws_eqPegS.mono _ _ _)
   | (with_reducible exact laws_toPegS.mono _ _)
   | (with_reducible exact spec_MostOnLine.mono _ _ _ _)
   | (with_reducible exact LeO.refl _)
   | (with_reducible exact LeO.none _)
   | (with_reducible refine LeO.ite ?_ ?_)
   | (with_reducible refine LeO.bind ?_ (fun _ => ?_))
   | exact ih0 _ _ _
   | exact impl_MostOnLine.mono _ _ _ _
   | exact laws_eqPegS.mono _ _ _
   | exact laws_toPegS.mono _ _
   | exact spec_MostOnLine.mono _ _ _ _
   | exact LeO.none _
   | refine LeO.ite ?_ ?_
   | refine LeO.bind ?_ (fun _ => ?_)
theorem laws_FnExactMostOnLine.mono : ∀ a0 a1 a2 k, LeO (laws_FnExactMostOnLine.f k a0 a1 a2) (laws_FnExactMostOnLine.f (k + 1) a0 a1 a2) := by
 intro a0 a1 a2 k
 have ih0 := laws_FnExactMostOnLine.mono_l k
 unfold laws_FnExactMostOnLine.f
 repeat' first | (with_reducible exact ih0 _ _ _) | (with_reducible exact impl_MostOnLine.mono _ _ _ _) | (with_reducible exact laws_eqPegS.mono _ _ _) | (with_reducible exact laws_toPegS.mono _ _) | (with_reducible exact spec_MostOnLine.mono _ _ _ _) | (with_reducible exact LeO.refl _) | (with_reducible exact LeO.none _) | (with_reducible refine LeO.ite ?_ ?_) | (with_reducible refine LeO.bind ?_ (fun _ => ?_)) | exact ih0 _ _ _ | exact impl_MostOnLine.mono _ _ _ _ | exact laws_eqPegS.mono _ _ _ | exact laws_toPegS.mono _ _ | exact spec_MostOnLine.mono _ _ _ _ | exact LeO.none _ | refine LeO.ite ?_ ?_ | refine LeO.bind ?_ (fun _ => ?_)
set_option maxHeartbeats 8000000 in
set_option maxRecDepth 100000 in
theorem laws_FnExactMostOnLine.calls (k : Nat) (A0 : Option Addr) (c0 : Nat) (l0 : List (S_laws_Peg)) (a1 : Int) (a2 : Int) (r : Bool) (w : World) (hr0 : Kd.C kd_laws_Peg w A0 l0.length l0) (hc0 : l0.length ≤ c0) (h : laws_FnExactMostOnLine.f k l0 a1 a2 = some r) :
  Calls Try.prog 8 #[.slice A0 l0.length c0, .int .i64 a1, .int .i64 a2] w fun e w' => e = .returned (.bool r) ∧ Below w.heap.size w w' := by
 have HR0 := aM hr0; have HC0 := aM hc0; clear hr0 hc0; have HB := aM (Below.refl w.heap.size w)
 unfold laws_FnExactMostOnLine.f at h; have H := h; clear h
 replace H := bS H; obtain ⟨t324, A4, H⟩ := H
 by_cases c5 : t324 < 0
 ·rw [if_pos c5] at H; have c5b0 := dE c5; clear c5; obtain rfl := Option.some.inj H
  go_enter Try.func8, Try.ntmps8
  go_wp2_with (first | ((with_reducible refine gC (f := 15) rfl ?_); refine goesL_ (some 15) rfl rfl Try.func15 kR rfl #[.slice A0 l0.length c0, .int .i64 1048576] rfl sQ ?_; (with_reducible refine (laws_szPegS.calls _ _ l0 1048576 t324 _ ?side1 ?side2 A4.out).mono ?_); (case side1 => repeat (first | exact HR0.out | (with_reducible refine cA ?_ _) | (with_reducible refine cN ?_ _) | (with_reducible refine cD ?_))); (case side2 => exact HC0.out); rintro e w' ⟨rfl, ⟨nd, rfl⟩⟩; refine ⟨_, rfl, ?_⟩))
  go_ret
  exact ⟨wQ, bQ⟩
 ·rw [if_neg c5] at H; have c5b0 := decide_eq_false c5; clear c5; replace H := bS H; obtain ⟨t325, A6, H⟩ := H; replace H := bS H; obtain ⟨⟨t328, t329⟩, A7, H⟩ := H; replace H := bS H; obtain ⟨t330, A8, H⟩ := H; replace H := bS H; obtain ⟨⟨t333, t334⟩, A9, H⟩ := H; have HC10 := aM H; clear H
  go_enter Try.func8, Try.ntmps8
  go_upto_region 8 with (first | ((with_reducible refine gC (f := 15) rfl ?_); refine goesL_ (some 15) rfl rfl Try.func15 kR rfl #[.slice A0 l0.length c0, .int .i64 1048576] rfl sQ ?_; (with_reducible refine (laws_szPegS.calls _ _ l0 1048576 t324 _ ?side1 ?side2 A4.out).mono ?_); (case side1 => repeat (first | exact HR0.out | (with_reducible refine cA ?_ _) | (with_reducible refine cN ?_ _) | (with_reducible refine cD ?_))); (case side2 => exact HC0.out); rintro e w' ⟨rfl, ⟨nd, rfl⟩⟩; refine ⟨_, rfl, ?_⟩) | ((with_reducible refine gC (f := 17) rfl ?_); refine goesL_ (some 20) rfl rfl Try.func17 kR rfl #[.slice A0 l0.length c0] rfl sQ ?_; (with_reducible refine (laws_toPegS.calls k _ _ l0 t325 _ ?side1 ?side2 A6.out).mono ?_); (case side1 => repeat (first | exact HR0.out | (with_reducible refine cA ?_ _) | (with_reducible refine cN ?_ _) | (with_reducible refine cD ?_))); (case side2 => exact HC0.out); rintro e w11 ⟨v326, rfl, ho0, hb⟩; refine ⟨_, rfl, ?_⟩; have HO327 := aM (Kd.R_lower ho0 (pZ bQ)); replace HB := tB HB hb; (try clear hb); (try clear hb2); (try clear hk); (try clear hi); (try clear ho0); obtain ⟨Ao12, co12, eo12⟩ := Kd.R_slice HO327.out; subst eo12) | ((with_reducible refine gC (f := 38) rfl ?_); refine goesL_ (some 23) rfl rfl Try.func38 kR rfl #[.slice Ao12 t325.length co12, .int .i64 a1, .int .i64 a2] rfl sQ ?_; (with_reducible refine (spec_MostOnLine.calls k _ _ t325 a1 a2 t328 t329 _ ?side1 ?side2 A7.out).mono ?_); (case side1 => repeat (first | exact (rR HO327.out).2.2 | (with_reducible refine cA ?_ _) | (with_reducible refine cN ?_ _) | (with_reducible refine cD ?_))); (case side2 => exact (rR HO327.out).2.1); rintro e w13 ⟨rfl, hb⟩; refine ⟨_, rfl, ?_⟩; replace HO327 := aM (Kd.R_below (by (with_reducible repeat (first | apply rA | apply rN | apply rD)); exact HO327.out) hb); replace HB := tB HB hb; (try clear hb); (try clear hb2); (try clear hk); (try clear hi)) | ((with_reducible refine gC (f := 17) rfl ?_); refine goesL_ (some 27) rfl rfl Try.func17 kR rfl #[.slice A0 l0.length c0] rfl sQ ?_; (with_reducible refine (laws_toPegS.calls k _ _ l0 t330 _ ?side1 ?side2 A8.out).mono ?_); (case side1 => repeat (first | exact (Kd.C_below HR0.out HB.out) | (with_reducible refine cA ?_ _) | (with_reducible refine cN ?_ _) | (with_reducible refine cD ?_))); (case side2 => exact HC0.out); rintro e w14 ⟨v331, rfl, ho0, hb⟩; refine ⟨_, rfl, ?_⟩; have HO332 := aM (Kd.R_lower (Kd.R_new' ho0 (Kd.R_lt (by (with_reducible repeat (first | apply rA | apply rN | apply rD)); exact HO327.out))) (pZ bQ)); replace HO327 := aM (Kd.R_elder' (by (with_reducible repeat (first | apply rA | apply rN | apply rD)); exact HO327.out) (Kd.R_base ho0) hb); replace HB := tB HB hb; (try clear hb); (try clear hb2); (try clear hk); (try clear hi); (try clear ho0); obtain ⟨Ao15, co15, eo15⟩ := Kd.R_slice HO332.out; subst eo15) | ((with_reducible refine gC (f := 39) rfl ?_); refine goesL_ (some 32) rfl rfl Try.func39 kR rfl #[.slice Ao15 t330.length co15, .int .i64 a1, .int .i64 a2] rfl sQ ?_; (with_reducible refine (impl_MostOnLine.calls k _ _ t330 a1 a2 t333 t334 _ ?side1 ?side2 A9.out).mono ?_); (case side1 => repeat (first | exact (rR HO332.out).2.2 | (with_reducible refine cA ?_ _) | (with_reducible refine cN ?_ _) | (with_reducible refine cD ?_))); (case side2 => exact (rR HO332.out).2.1); rintro e w16 ⟨rfl, hb⟩; refine ⟨_, rfl, ?_⟩; replace HO327 := aM (Kd.R_below (by (with_reducible repeat (first | apply rA | apply rN | apply rD)); exact HO327.out) hb); replace HO332 := aM (Kd.R_below (by (with_reducible repeat (first | apply rA | apply rN | apply rD)); exact HO332.out) hb); replace HB := tB HB hb; (try clear hb); (try clear hb2); (try clear hk); (try clear hi)))
  (try simp only [Act.put, sI, sZ, sS])
  go_cut [42] (fun v42 wc => ∃ (kq : Nat) (x42_9 : Bool), v42 = .bool x42_9 ∧ Aside0 (laws_FnExactMostOnLine.j0 kq l0 t330 x42_9 = some r) ∧ Aside0 (kq ≤ k) ∧ Aside0 (Kd.R kd_impl_Peg 50 wc w.heap.size (fun _ => True) (.slice Ao15 t330.length co15) t330) ∧ Aside0 (Below w.heap.size w wc))
  case first =>
   have H := HC10.out; clear HC10
   by_cases c17 : t333 = t328
   ·rw [if_pos c17] at H; have c17b0 : (t333 == t328) = true := beq_iff_eq.mpr c17; have c17b1 : (t333 != t328) = false := bne_eq_false_iff_eq.mpr c17; clear c17
    (first | rw [c17b0] | (simp only [i64_w, i32_w]; rw [c17b0]) | skip)
    have H' := aM H; clear H; go_wp2
    go_meet
    case rel => exact ⟨_, ((t334 != t329)), eQ, H', ⟨by first | omega | exact Nat.le_refl _⟩, ⟨by (with_reducible repeat (first | apply rA | apply rN | apply rD)); exact Kd.R_mono HO332.out (fun _ hk => trivial)⟩, ⟨bQ⟩⟩
   ·rw [if_neg c17] at H; have c17b0 : (t333 == t328) = false := beq_eq_false_iff_ne.mpr c17; have c17b1 : (t333 != t328) = true := bne_iff_ne.mpr c17
    (first | rw [c17b0] | (simp only [i64_w, i32_w]; rw [c17b0]) | skip)
    have H' := aM H; clear H; go_wp2
    go_meet
    case rel => exact ⟨_, (true), eQ, H', ⟨by first | omega | exact Nat.le_refl _⟩, ⟨by (with_reducible repeat (first | apply rA | apply rN | apply rD)); exact Kd.R_mono HO332.out (fun _ hk => trivial)⟩, ⟨bQ⟩⟩
  case rest =>
   clear HC10; (try clear c5); (try clear c5b0); obtain ⟨kq, x42_9, rfl, HA, HJ9, HO_10, HB⟩ := hcut
   cases kq with
   | zero => exact absurd HA.out (by simp [laws_FnExactMostOnLine.j0])
   | succ kj9 =>
    have H := HA.out; clear HA
    simp only [laws_FnExactMostOnLine.j0] at H
    by_cases c18 : x42_9 = true
    ·subst c18; replace H := iT H; obtain rfl := Option.some.inj H; go_wp2
     go_ret
     exact ⟨wQ, bQ⟩
    ·replace c18 := Bool.eq_false_iff.mpr c18; subst c18; replace H := iF H; replace H := bS H; obtain ⟨t335, A19, H⟩ := H; replace H := bS H; obtain ⟨t338, A20, H⟩ := H
     by_cases c21 : t338 = true
     ·subst c21; replace H := iT H; obtain rfl := Option.some.inj H
      go_wp2_with (first | ((with_reducible refine gC (f := 17) rfl ?_); refine goesL_ (some 45) rfl rfl Try.func17 kR rfl #[.slice A0 l0.length c0] rfl sQ ?_; (with_reducible refine (laws_toPegS.calls kj9 _ _ l0 t335 _ ?side1 ?side2 A19.out).mono ?_); (case side1 => repeat (first | exact (Kd.C_below HR0.out HB.out) | (with_reducible refine cA ?_ _) | (with_reducible refine cN ?_ _) | (with_reducible refine cD ?_))); (case side2 => exact HC0.out); rintro e w22 ⟨v336, rfl, ho0, hb⟩; refine ⟨_, rfl, ?_⟩; have HO337 := aM (Kd.R_lower (Kd.R_new' ho0 (Kd.R_lt (by (with_reducible repeat (first | apply rA | apply rN | apply rD)); exact HO_10.out))) (pZ bQ)); replace HO_10 := aM (Kd.R_elder' (by (with_reducible repeat (first | apply rA | apply rN | apply rD)); exact HO_10.out) (Kd.R_base ho0) hb); replace HB := tB HB hb; (try clear hb); (try clear hb2); (try clear hk); (try clear hi); (try clear ho0); obtain ⟨Ao23, co23, eo23⟩ := Kd.R_slice HO337.out; subst eo23) | ((with_reducible refine gC (f := 19) rfl ?_); refine goesL_ (some 46) rfl rfl Try.func19 kR rfl #[.slice Ao15 t330.length co15, .slice Ao23 t335.length co23] rfl sQ ?_; (with_reducible refine (laws_eqPegS.calls kj9 _ _ t330 _ _ t335 true _ ?side1 ?side2 ?side3 ?side4 A20.out).mono ?_); (case side1 => repeat (first | exact (rR HO_10.out).2.2 | (with_reducible refine cA ?_ _) | (with_reducible refine cN ?_ _) | (with_reducible refine cD ?_))); (case side2 => exact (rR HO_10.out).2.1); (case side3 => repeat (first | exact (rR HO337.out).2.2 | (with_reducible refine cA ?_ _) | (with_reducible refine cN ?_ _) | (with_reducible refine cD ?_))); (case side4 => exact (rR HO337.out).2.1); rintro e w24 ⟨rfl, hb⟩; refine ⟨_, rfl, ?_⟩; replace HO_10 := aM (Kd.R_below (by (with_reducible repeat (first | apply rA | apply rN | apply rD)); exact HO_10.out) hb); replace HO337 := aM (Kd.R_below (by (with_reducible repeat (first | apply rA | apply rN | apply rD)); exact HO337.out) hb); replace HB := tB HB hb; (try clear hb); (try clear hb2); (try clear hk); (try clear hi)))
      go_ret
      exact ⟨wQ, bQ⟩
     ·replace c21 := Bool.eq_false_iff.mpr c21; subst c21; replace H := iF H; obtain rfl := Option.some.inj H
      go_wp2_with (first | ((with_reducible refine gC (f := 17) rfl ?_); refine goesL_ (some 45) rfl rfl Try.func17 kR rfl #[.slice A0 l0.length c0] rfl sQ ?_; (with_reducible refine (laws_toPegS.calls kj9 _ _ l0 t335 _ ?side1 ?side2 A19.out).mono ?_); (case side1 => repeat (first | exact (Kd.C_below HR0.out HB.out) | (with_reducible refine cA ?_ _) | (with_reducible refine cN ?_ _) | (with_reducible refine cD ?_))); (case side2 => exact HC0.out); rintro e w25 ⟨v336, rfl, ho0, hb⟩; refine ⟨_, rfl, ?_⟩; have HO337 := aM (Kd.R_lower (Kd.R_new' ho0 (Kd.R_lt (by (with_reducible repeat (first | apply rA | apply rN | apply rD)); exact HO_10.out))) (pZ bQ)); replace HO_10 := aM (Kd.R_elder' (by (with_reducible repeat (first | apply rA | apply rN | apply rD)); exact HO_10.out) (Kd.R_base ho0) hb); replace HB := tB HB hb; (try clear hb); (try clear hb2); (try clear hk); (try clear hi); (try clear ho0); obtain ⟨Ao26, co26, eo26⟩ := Kd.R_slice HO337.out; subst eo26) | ((with_reducible refine gC (f := 19) rfl ?_); refine goesL_ (some 46) rfl rfl Try.func19 kR rfl #[.slice Ao15 t330.length co15, .slice Ao26 t335.length co26] rfl sQ ?_; (with_reducible refine (laws_eqPegS.calls kj9 _ _ t330 _ _ t335 false _ ?side1 ?side2 ?side3 ?side4 A20.out).mono ?_); (case side1 => repeat (first | exact (rR HO_10.out).2.2 | (with_reducible refine cA ?_ _) | (with_reducible refine cN ?_ _) | (with_reducible refine cD ?_))); (case side2 => exact (rR HO_10.out).2.1); (case side3 => repeat (first | exact (rR HO337.out).2.2 | (with_reducible refine cA ?_ _) | (with_reducible refine cN ?_ _) | (with_reducible refine cD ?_))); (case side4 => exact (rR HO337.out).2.1); rintro e w27 ⟨rfl, hb⟩; refine ⟨_, rfl, ?_⟩; replace HO_10 := aM (Kd.R_below (by (with_reducible repeat (first | apply rA | apply rN | apply rD)); exact HO_10.out) hb); replace HO337 := aM (Kd.R_below (by (with_reducible repeat (first | apply rA | apply rN | apply rD)); exact HO337.out) hb); replace HB := tB HB hb; (try clear hb); (try clear hb2); (try clear hk); (try clear hi)))
      go_ret
      exact ⟨wQ, bQ⟩

def laws_FnExactMostOnLine.Pure : Prop := ∀ (l0 : List (S_laws_Peg)) (a1 : Int) (a2 : Int), OkL (fun y : S_laws_Peg => (okInt .i64) y.f0 ∧ (okInt .i64) y.f1) l0 → (Lit.int .i64 a1).wf = true → (Lit.int .i64 a2).wf = true → ∃ k, laws_FnExactMostOnLine.f k l0 a1 a2 = some true

end Go.Proofs.Ytfihohongkfibaa.X
