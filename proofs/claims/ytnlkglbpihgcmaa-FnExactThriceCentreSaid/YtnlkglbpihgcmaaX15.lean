-- thin
-- short
import Derived.Test.YtnlkglbpihgcmaaXA
import Derived.Test.YtnlkglbpihgcmaaX0
import Derived.Test.YtnlkglbpihgcmaaX2
import Derived.Test.YtnlkglbpihgcmaaX5
import Derived.Test.YtnlkglbpihgcmaaX8
import Derived.Test.YtnlkglbpihgcmaaX13
import Derived.Test.YtnlkglbpihgcmaaX14
namespace Go.Proofs.Ytnlkglbpihgcmaa.X
open Go.RowKit Go.Proofs.Ytnlkglbpihgcmaa.XW Go.Proofs.YtnlkglbpihgcmaaW.PrintWords Go.Proofs.YtnlkglbpihgcmaaW.PrintLast Go.Proofs.YtnlkglbpihgcmaaW.PrintMore
attribute [local go_sem] max2_int min2_int max_two min_two max_three min_three max_four min_four   -- for this text's walks alone
set_option linter.unusedVariables false
set_option linter.unusedSimpArgs false

def laws_FnExactThriceCentre.j0 : Nat → List (S_laws_Peg) → List (S_impl_Peg) → Bool → Option (Bool)
 | 0, _, _, _ => none
 | k + 1, x0, x7, x43 => if x43 = true then (some false) else ((laws_toPegS.f k x0).bind fun t339 => ((laws_eqPegS.f k x7 t339).bind fun t342 => (if t342 = true then (some true) else (some false))))
def laws_FnExactThriceCentre.f (k : Nat) (l0 : List (S_laws_Peg)) : Option (Bool) := (laws_szPegS.f l0 1048576).bind fun t326 => (if t326 < 0 then (some true) else ((laws_toPegS.f k l0).bind fun t327 => ((spec_ThriceCentre.f k t327).bind fun bt330 => ((laws_toPegS.f k l0).bind fun t333 => ((impl_ThriceCentre.f k t333).bind fun bt336 => (if bt336.1 = bt330.1 then (if bt336.2.1 = bt330.2.1 then (laws_FnExactThriceCentre.j0 k l0 t333 (bt336.2.2 != bt330.2.2)) else (laws_FnExactThriceCentre.j0 k l0 t333 true)) else (laws_FnExactThriceCentre.j0 k l0 t333 true)))))))
theorem laws_FnExactThriceCentre.mono_l : ∀ k, (∀ y0 y1 y2, LeO (laws_FnExactThriceCentre.j0 k y0 y1 y2) (laws_FnExactThriceCentre.j0 (k + 1) y0 y1 y2))
 | 0 => fun _ _ _ r h => by simp [laws_FnExactThriceCentre.j0] at h
 | k + 1 => by
  have ih0 := laws_FnExactThriceCentre.mono_l k
  ·intro y0 y1 y2
   unfold laws_FnExactThriceCentre.j0
   repeat' first
   | (with_reducible exact ih0 _ _ _)
   | (with_reducible exact impl_ThriceCentre.mono _ _)
   | (with_reducible exact laws_eqPegS.mono _ _ _)
   | (with_reducible exact laws_toPegS.mono _ _)
   | (with_reducible exact spec_ThriceCentre.mono _ _)
   | (with_reducible exact LeO.refl _)
   | (with_reducible exact LeO.none _)
   | (with_reducible refine LeO.ite ?_ ?_)
   | (with_reducible refine LeO.bind ?_ (fun _ => ?_))
   | exact ih0 _ _ _
   | exact impl_ThriceCentre.mono _ _
   | exact laws_eqPegS.mono _ _ _
   | exact laws_toPegS.mono _ _
   | exact spec_ThriceCentre.mono _ _
   | exact LeO.none _
   | refine LeO.ite ?_ ?_
   | refine LeO.bind ?_ (fun _ => ?_)
theorem laws_FnExactThriceCentre.mono : ∀ a0 k, LeO (laws_FnExactThriceCentre.f k a0) (laws_FnExactThriceCentre.f (k + 1) a0) := by
 intro a0 k
 have ih0 := laws_FnExactThriceCentre.mono_l k
 unfold laws_FnExactThriceCentre.f
 repeat' first
   | (with_reducible exact ih0 _ _ _)
   | (with_reducible exact impl_ThriceCentre.mono _ _)
   | (with_reducible exact laws_eqPegS.mono _ _ _)
   | (with_reducible exact laws_toPegS.mono _ _)
   | (with_reducible exact spec_ThriceCentre.mono _ _)
   | (with_reducible exact LeO.refl _)
   | (with_reducible exact LeO.none _)
   | (with_reducible refine LeO.ite ?_ ?_)
   | (with_reducible refine LeO.bind ?_ (fun _ => ?_))
   | exact ih0 _ _ _
   | exact impl_ThriceCentre.mono _ _
   | exact laws_eqPegS.mono _ _ _
   | exact laws_toPegS.mono _ _
   | exact spec_ThriceCentre.mono _ _
   | exact LeO.none _
   | refine LeO.ite ?_ ?_
   | refine LeO.bind ?_ (fun _ => ?_)
set_option maxHeartbeats 8000000 in
set_option maxRecDepth 100000 in
theorem laws_FnExactThriceCentre.calls (k : Nat) (A0 : Option Addr) (c0 : Nat) (l0 : List (S_laws_Peg)) (r : Bool) (w : World) (hr0 : Kd.C kd_laws_Peg w A0 l0.length l0) (hc0 : l0.length ≤ c0) (h : laws_FnExactThriceCentre.f k l0 = some r) :
  Calls Try.prog 5 #[.slice A0 l0.length c0] w fun e w' => e = .returned (.bool r) ∧ Below w.heap.size w w' := by
 have HR0 := aM hr0
 have HC0 := aM hc0
 clear hr0 hc0
 have HB := aM (Below.refl w.heap.size w)
 have H : ((laws_szPegS.f l0 1048576).bind fun t326 => (if t326 < 0 then (some true) else ((laws_toPegS.f k l0).bind fun t327 => ((spec_ThriceCentre.f k t327).bind fun bt330 => ((laws_toPegS.f k l0).bind fun t333 => ((impl_ThriceCentre.f k t333).bind fun bt336 => (if bt336.1 = bt330.1 then (if bt336.2.1 = bt330.2.1 then (laws_FnExactThriceCentre.j0 k l0 t333 (bt336.2.2 != bt330.2.2)) else (laws_FnExactThriceCentre.j0 k l0 t333 true)) else (laws_FnExactThriceCentre.j0 k l0 t333 true)))))))) = some r := h
 clear h
 replace H := oB.mp H
 obtain ⟨t326, A20, H⟩ := H
 replace H : (if t326 < 0 then (some true) else ((laws_toPegS.f k l0).bind fun t327 => ((spec_ThriceCentre.f k t327).bind fun bt330 => ((laws_toPegS.f k l0).bind fun t333 => ((impl_ThriceCentre.f k t333).bind fun bt336 => (if bt336.1 = bt330.1 then (if bt336.2.1 = bt330.2.1 then (laws_FnExactThriceCentre.j0 k l0 t333 (bt336.2.2 != bt330.2.2)) else (laws_FnExactThriceCentre.j0 k l0 t333 true)) else (laws_FnExactThriceCentre.j0 k l0 t333 true))))))) = some r := H
 have A2 := aM A20
 clear A20
 by_cases c3 : t326 < 0
 ·rw [if_pos c3] at H
  have c3b0 : decide (t326 < 0) = true := dE c3
  clear c3
  obtain rfl := Option.some.inj H
  go_enter Try.func5, Try.ntmps5
  go_wp2_with (first | ((with_reducible refine gC (f := 20) rfl ?_); refine goesL_ (some 13) rfl rfl Try.func20 (by kernel_rfl) rfl #[.slice A0 l0.length c0, .int .i64 1048576] rfl (by (try simp only [mA, mC, mN]); first | done | rfl | (simp only [lD, lT]; rfl)) ?_; (with_reducible refine (laws_szPegS.calls _ _ l0 1048576 t326 _ ?side1 ?side2 A2.out).mono ?_); (case side1 => repeat (first | exact HR0.out | (with_reducible refine cA ?_ _) | (with_reducible refine cN ?_ _) | (with_reducible refine cD ?_))); (case side2 => exact HC0.out); rintro e w' ⟨rfl, ⟨nd, rfl⟩⟩; refine ⟨_, rfl, ?_⟩))
  go_ret
  exact ⟨by first | rfl | (simp [errW_none, errW_some] <;> rfl) | (simp [*, errW_none, errW_some] <;> rfl), by repeat (first | (with_reducible first | exact HB.out | apply pA | apply pN | apply pD) | exact HB.out)⟩
 ·rw [if_neg c3] at H
  have c3b0 : decide (t326 < 0) = false := decide_eq_false c3
  clear c3
  replace H := oB.mp H
  obtain ⟨t327, A40, H⟩ := H
  replace H : ((spec_ThriceCentre.f k t327).bind fun bt330 => ((laws_toPegS.f k l0).bind fun t333 => ((impl_ThriceCentre.f k t333).bind fun bt336 => (if bt336.1 = bt330.1 then (if bt336.2.1 = bt330.2.1 then (laws_FnExactThriceCentre.j0 k l0 t333 (bt336.2.2 != bt330.2.2)) else (laws_FnExactThriceCentre.j0 k l0 t333 true)) else (laws_FnExactThriceCentre.j0 k l0 t333 true))))) = some r := H
  have A4 := aM A40
  clear A40
  replace H := oB.mp H
  obtain ⟨⟨t330, t331, t332⟩, A50, H⟩ := H
  replace H : ((laws_toPegS.f k l0).bind fun t333 => ((impl_ThriceCentre.f k t333).bind fun bt336 => (if bt336.1 = t330 then (if bt336.2.1 = t331 then (laws_FnExactThriceCentre.j0 k l0 t333 (bt336.2.2 != t332)) else (laws_FnExactThriceCentre.j0 k l0 t333 true)) else (laws_FnExactThriceCentre.j0 k l0 t333 true)))) = some r := H
  have A5 := aM A50
  clear A50
  replace H := oB.mp H
  obtain ⟨t333, A60, H⟩ := H
  replace H : ((impl_ThriceCentre.f k t333).bind fun bt336 => (if bt336.1 = t330 then (if bt336.2.1 = t331 then (laws_FnExactThriceCentre.j0 k l0 t333 (bt336.2.2 != t332)) else (laws_FnExactThriceCentre.j0 k l0 t333 true)) else (laws_FnExactThriceCentre.j0 k l0 t333 true))) = some r := H
  have A6 := aM A60
  clear A60
  replace H := oB.mp H
  obtain ⟨⟨t336, t337, t338⟩, A70, H⟩ := H
  replace H : (if t336 = t330 then (if t337 = t331 then (laws_FnExactThriceCentre.j0 k l0 t333 (t338 != t332)) else (laws_FnExactThriceCentre.j0 k l0 t333 true)) else (laws_FnExactThriceCentre.j0 k l0 t333 true)) = some r := H
  have A7 := aM A70
  clear A70
  have HC8 := aM H
  clear H
  go_enter Try.func5, Try.ntmps5
  go_upto_region 8 with (first | ((with_reducible refine gC (f := 20) rfl ?_); refine goesL_ (some 13) rfl rfl Try.func20 (by kernel_rfl) rfl #[.slice A0 l0.length c0, .int .i64 1048576] rfl (by (try simp only [mA, mC, mN]); first | done | rfl | (simp only [lD, lT]; rfl)) ?_; (with_reducible refine (laws_szPegS.calls _ _ l0 1048576 t326 _ ?side1 ?side2 A2.out).mono ?_); (case side1 => repeat (first | exact HR0.out | (with_reducible refine cA ?_ _) | (with_reducible refine cN ?_ _) | (with_reducible refine cD ?_))); (case side2 => exact HC0.out); rintro e w' ⟨rfl, ⟨nd, rfl⟩⟩; refine ⟨_, rfl, ?_⟩) | ((with_reducible refine gC (f := 22) rfl ?_); refine goesL_ (some 18) rfl rfl Try.func22 (by kernel_rfl) rfl #[.slice A0 l0.length c0] rfl (by (try simp only [mA, mC, mN]); first | done | rfl | (simp only [lD, lT]; rfl)) ?_; (with_reducible refine (laws_toPegS.calls k _ _ l0 t327 _ ?side1 ?side2 A4.out).mono ?_); (case side1 => repeat (first | exact HR0.out | (with_reducible refine cA ?_ _) | (with_reducible refine cN ?_ _) | (with_reducible refine cD ?_))); (case side2 => exact HC0.out); rintro e w9 ⟨v328, rfl, ho0, hb⟩; refine ⟨_, rfl, ?_⟩; have n0_ := aM (Kd.R_lower ho0 (pZ (by repeat (first | (with_reducible first | exact HB.out | apply pA | apply pN | apply pD) | exact HB.out)))); have n1_ := aM (pT (by repeat (first | (with_reducible first | exact HB.out | apply pA | apply pN | apply pD) | exact HB.out)) hb); clear HB; have HO329 := n0_; have HB := n1_; clear n0_ n1_; (try clear hb); (try clear hb2); (try clear hk); (try clear hi); (try clear ho0); obtain ⟨Ao10, co10, eo10⟩ := Kd.R_slice HO329.out; subst eo10) | ((with_reducible refine gC (f := 25) rfl ?_); refine goesL_ (some 19) rfl rfl Try.func25 (by kernel_rfl) rfl #[.slice Ao10 t327.length co10] rfl (by (try simp only [mA, mC, mN]); first | done | rfl | (simp only [lD, lT]; rfl)) ?_; (with_reducible refine (spec_ThriceCentre.calls k _ _ t327 t330 t331 t332 _ ?side1 ?side2 A5.out).mono ?_); (case side1 => repeat (first | exact (rR HO329.out).2.2 | (with_reducible refine cA ?_ _) | (with_reducible refine cN ?_ _) | (with_reducible refine cD ?_))); (case side2 => exact (rR HO329.out).2.1); rintro e w11 ⟨rfl, hb⟩; refine ⟨_, rfl, ?_⟩; have n0_ := aM (Kd.R_below (by (with_reducible repeat (first | apply rA | apply rN | apply rD)); exact HO329.out) hb); have n1_ := aM (pT (by repeat (first | (with_reducible first | exact HB.out | apply pA | apply pN | apply pD) | exact HB.out)) hb); clear HO329; clear HB; have HO329 := n0_; have HB := n1_; clear n0_ n1_; (try clear hb); (try clear hb2); (try clear hk); (try clear hi)) | ((with_reducible refine gC (f := 22) rfl ?_); refine goesL_ (some 24) rfl rfl Try.func22 (by kernel_rfl) rfl #[.slice A0 l0.length c0] rfl (by (try simp only [mA, mC, mN]); first | done | rfl | (simp only [lD, lT]; rfl)) ?_; (with_reducible refine (laws_toPegS.calls k _ _ l0 t333 _ ?side1 ?side2 A6.out).mono ?_); (case side1 => repeat (first | exact (Kd.C_below HR0.out HB.out) | (with_reducible refine cA ?_ _) | (with_reducible refine cN ?_ _) | (with_reducible refine cD ?_))); (case side2 => exact HC0.out); rintro e w12 ⟨v334, rfl, ho0, hb⟩; refine ⟨_, rfl, ?_⟩; have n0_ := aM (Kd.R_elder' (by (with_reducible repeat (first | apply rA | apply rN | apply rD)); exact HO329.out) (Kd.R_base ho0) hb); have n1_ := aM (Kd.R_lower (Kd.R_new' ho0 (Kd.R_lt (by (with_reducible repeat (first | apply rA | apply rN | apply rD)); exact HO329.out))) (pZ (by repeat (first | (with_reducible first | exact HB.out | apply pA | apply pN | apply pD) | exact HB.out)))); have n2_ := aM (pT (by repeat (first | (with_reducible first | exact HB.out | apply pA | apply pN | apply pD) | exact HB.out)) hb); clear HO329; clear HB; have HO329 := n0_; have HO335 := n1_; have HB := n2_; clear n0_ n1_ n2_; (try clear hb); (try clear hb2); (try clear hk); (try clear hi); (try clear ho0); obtain ⟨Ao13, co13, eo13⟩ := Kd.R_slice HO335.out; subst eo13) | ((with_reducible refine gC (f := 26) rfl ?_); refine goesL_ (some 27) rfl rfl Try.func26 (by kernel_rfl) rfl #[.slice Ao13 t333.length co13] rfl (by (try simp only [mA, mC, mN]); first | done | rfl | (simp only [lD, lT]; rfl)) ?_; (with_reducible refine (impl_ThriceCentre.calls k _ _ t333 t336 t337 t338 _ ?side1 ?side2 A7.out).mono ?_); (case side1 => repeat (first | exact (rR HO335.out).2.2 | (with_reducible refine cA ?_ _) | (with_reducible refine cN ?_ _) | (with_reducible refine cD ?_))); (case side2 => exact (rR HO335.out).2.1); rintro e w14 ⟨rfl, hb⟩; refine ⟨_, rfl, ?_⟩; have n0_ := aM (Kd.R_below (by (with_reducible repeat (first | apply rA | apply rN | apply rD)); exact HO329.out) hb); have n1_ := aM (Kd.R_below (by (with_reducible repeat (first | apply rA | apply rN | apply rD)); exact HO335.out) hb); have n2_ := aM (pT (by repeat (first | (with_reducible first | exact HB.out | apply pA | apply pN | apply pD) | exact HB.out)) hb); clear HO329; clear HO335; clear HB; have HO329 := n0_; have HO335 := n1_; have HB := n2_; clear n0_ n1_ n2_; (try clear hb); (try clear hb2); (try clear hk); (try clear hi)))
  (try simp only [Act.put, sI, sZ, sS])
  go_cut [43] (fun v43 wc => ∃ (kq : Nat) (x43_7 : Bool), v43 = .bool x43_7 ∧ Aside0 (laws_FnExactThriceCentre.j0 kq l0 t333 x43_7 = some r) ∧ Aside0 (kq ≤ k) ∧ Aside0 (Kd.R kd_impl_Peg 62 wc w.heap.size (fun _ => True) (.slice Ao13 t333.length co13) t333) ∧ Aside0 (Below w.heap.size w wc))
  case first =>
   have H := HC8.out
   clear HC8
   by_cases c15 : t336 = t330
   ·rw [if_pos c15] at H
    have c15b0 : (t336 == t330) = true := beq_iff_eq.mpr c15
    have c15b1 : (t336 != t330) = false := bne_eq_false_iff_eq.mpr c15
    clear c15
    (first | rw [c15b0] | (simp only [i64_w, i32_w]; rw [c15b0]) | skip)
    by_cases c16 : t337 = t331
    ·rw [if_pos c16] at H
     have c16b0 : (t337 == t331) = true := beq_iff_eq.mpr c16
     have c16b1 : (t337 != t331) = false := bne_eq_false_iff_eq.mpr c16
     clear c16
     have H' := aM H
     clear H
     go_wp2
     go_meet
     case rel => exact ⟨_, ((t338 != t332)), (by first | rfl | (simp; done) | (simp [*]; done)), H', ⟨by first | omega | exact Nat.le_refl _⟩, ⟨by (with_reducible repeat (first | apply rA | apply rN | apply rD)); exact Kd.R_mono HO335.out (fun _ hk => trivial)⟩, ⟨by repeat (first | (with_reducible first | exact HB.out | apply pA | apply pN | apply pD) | exact HB.out)⟩⟩
    ·rw [if_neg c16] at H
     have c16b0 : (t337 == t331) = false := beq_eq_false_iff_ne.mpr c16
     have c16b1 : (t337 != t331) = true := bne_iff_ne.mpr c16
     have H' := aM H
     clear H
     go_wp2
     go_meet
     case rel => exact ⟨_, (true), (by first | rfl | (simp; done) | (simp [*]; done)), H', ⟨by first | omega | exact Nat.le_refl _⟩, ⟨by (with_reducible repeat (first | apply rA | apply rN | apply rD)); exact Kd.R_mono HO335.out (fun _ hk => trivial)⟩, ⟨by repeat (first | (with_reducible first | exact HB.out | apply pA | apply pN | apply pD) | exact HB.out)⟩⟩
   ·rw [if_neg c15] at H
    have c15b0 : (t336 == t330) = false := beq_eq_false_iff_ne.mpr c15
    have c15b1 : (t336 != t330) = true := bne_iff_ne.mpr c15
    (first | rw [c15b0] | (simp only [i64_w, i32_w]; rw [c15b0]) | skip)
    have H' := aM H
    clear H
    go_wp2
    go_meet
    case rel => exact ⟨_, (true), (by first | rfl | (simp; done) | (simp [*]; done)), H', ⟨by first | omega | exact Nat.le_refl _⟩, ⟨by (with_reducible repeat (first | apply rA | apply rN | apply rD)); exact Kd.R_mono HO335.out (fun _ hk => trivial)⟩, ⟨by repeat (first | (with_reducible first | exact HB.out | apply pA | apply pN | apply pD) | exact HB.out)⟩⟩
  case rest =>
   clear HC8
   try clear c1
   try clear c2
   try clear p2
   try clear c3
   try clear c3b0
   try clear c5
   try clear c15
   try clear c15b0
   try clear c15b1
   try clear c16
   try clear c16b0
   try clear c16b1
   obtain ⟨kq, x43_7, rfl, HA, HJ7, HO_7, HB⟩ := hcut
   cases kq with
   | zero => exact absurd HA.out (by simp [laws_FnExactThriceCentre.j0])
   | succ kj7 =>
    have H := HA.out
    clear HA
    simp only [laws_FnExactThriceCentre.j0] at H
    by_cases c17 : x43_7 = true
    ·subst c17
     have H1 : (some false) = some r := by rw [if_pos rfl] at H; exact H
     clear H
     have H := H1
     clear H1
     obtain rfl := Option.some.inj H
     go_wp2
     go_ret
     exact ⟨by first | rfl | (simp [errW_none, errW_some] <;> rfl) | (simp [*, errW_none, errW_some] <;> rfl), by repeat (first | (with_reducible first | exact HB.out | apply pA | apply pN | apply pD) | exact HB.out)⟩
    ·replace c17 := Bool.eq_false_iff.mpr c17
     subst c17
     have H1 : ((laws_toPegS.f kj7 l0).bind fun t339 => ((laws_eqPegS.f kj7 t333 t339).bind fun t342 => (if t342 = true then (some true) else (some false)))) = some r := by rw [if_neg (show ¬ (false = true) by decide)] at H; exact H
     clear H
     have H := H1
     clear H1
     replace H := oB.mp H
     obtain ⟨t339, A180, H⟩ := H
     replace H : ((laws_eqPegS.f kj7 t333 t339).bind fun t342 => (if t342 = true then (some true) else (some false))) = some r := H
     have A18 := aM A180
     clear A180
     replace H := oB.mp H
     obtain ⟨t342, A190, H⟩ := H
     replace H : (if t342 = true then (some true) else (some false)) = some r := H
     have A19 := aM A190
     clear A190
     by_cases c20 : t342 = true
     ·subst c20
      have H1 : (some true) = some r := by rw [if_pos rfl] at H; exact H
      clear H
      have H := H1
      clear H1
      obtain rfl := Option.some.inj H
      go_wp2_with (first | ((with_reducible refine gC (f := 22) rfl ?_); refine goesL_ (some 46) rfl rfl Try.func22 (by kernel_rfl) rfl #[.slice A0 l0.length c0] rfl (by (try simp only [mA, mC, mN]); first | done | rfl | (simp only [lD, lT]; rfl)) ?_; (with_reducible refine (laws_toPegS.calls kj7 _ _ l0 t339 _ ?side1 ?side2 A18.out).mono ?_); (case side1 => repeat (first | exact (Kd.C_below HR0.out HB.out) | (with_reducible refine cA ?_ _) | (with_reducible refine cN ?_ _) | (with_reducible refine cD ?_))); (case side2 => exact HC0.out); rintro e w21 ⟨v340, rfl, ho0, hb⟩; refine ⟨_, rfl, ?_⟩; have n0_ := aM (Kd.R_elder' (by (with_reducible repeat (first | apply rA | apply rN | apply rD)); exact HO_7.out) (Kd.R_base ho0) hb); have n1_ := aM (Kd.R_lower (Kd.R_new' ho0 (Kd.R_lt (by (with_reducible repeat (first | apply rA | apply rN | apply rD)); exact HO_7.out))) (pZ (by repeat (first | (with_reducible first | exact HB.out | apply pA | apply pN | apply pD) | exact HB.out)))); have n2_ := aM (pT (by repeat (first | (with_reducible first | exact HB.out | apply pA | apply pN | apply pD) | exact HB.out)) hb); clear HO_7; clear HB; have HO_7 := n0_; have HO341 := n1_; have HB := n2_; clear n0_ n1_ n2_; (try clear hb); (try clear hb2); (try clear hk); (try clear hi); (try clear ho0); obtain ⟨Ao22, co22, eo22⟩ := Kd.R_slice HO341.out; subst eo22) | ((with_reducible refine gC (f := 24) rfl ?_); refine goesL_ (some 47) rfl rfl Try.func24 (by kernel_rfl) rfl #[.slice Ao13 t333.length co13, .slice Ao22 t339.length co22] rfl (by (try simp only [mA, mC, mN]); first | done | rfl | (simp only [lD, lT]; rfl)) ?_; (with_reducible refine (laws_eqPegS.calls kj7 _ _ t333 _ _ t339 true _ ?side1 ?side2 ?side3 ?side4 A19.out).mono ?_); (case side1 => repeat (first | exact (rR HO_7.out).2.2 | (with_reducible refine cA ?_ _) | (with_reducible refine cN ?_ _) | (with_reducible refine cD ?_))); (case side2 => exact (rR HO_7.out).2.1); (case side3 => repeat (first | exact (rR HO341.out).2.2 | (with_reducible refine cA ?_ _) | (with_reducible refine cN ?_ _) | (with_reducible refine cD ?_))); (case side4 => exact (rR HO341.out).2.1); rintro e w23 ⟨rfl, hb⟩; refine ⟨_, rfl, ?_⟩; have n0_ := aM (Kd.R_below (by (with_reducible repeat (first | apply rA | apply rN | apply rD)); exact HO_7.out) hb); have n1_ := aM (Kd.R_below (by (with_reducible repeat (first | apply rA | apply rN | apply rD)); exact HO341.out) hb); have n2_ := aM (pT (by repeat (first | (with_reducible first | exact HB.out | apply pA | apply pN | apply pD) | exact HB.out)) hb); clear HO_7; clear HO341; clear HB; have HO_7 := n0_; have HO341 := n1_; have HB := n2_; clear n0_ n1_ n2_; (try clear hb); (try clear hb2); (try clear hk); (try clear hi)))
      go_ret
      exact ⟨by first | rfl | (simp [errW_none, errW_some] <;> rfl) | (simp [*, errW_none, errW_some] <;> rfl), by repeat (first | (with_reducible first | exact HB.out | apply pA | apply pN | apply pD) | exact HB.out)⟩
     ·replace c20 := Bool.eq_false_iff.mpr c20
      subst c20
      have H1 : (some false) = some r := by rw [if_neg (show ¬ (false = true) by decide)] at H; exact H
      clear H
      have H := H1
      clear H1
      obtain rfl := Option.some.inj H
      go_wp2_with (first | ((with_reducible refine gC (f := 22) rfl ?_); refine goesL_ (some 46) rfl rfl Try.func22 (by kernel_rfl) rfl #[.slice A0 l0.length c0] rfl (by (try simp only [mA, mC, mN]); first | done | rfl | (simp only [lD, lT]; rfl)) ?_; (with_reducible refine (laws_toPegS.calls kj7 _ _ l0 t339 _ ?side1 ?side2 A18.out).mono ?_); (case side1 => repeat (first | exact (Kd.C_below HR0.out HB.out) | (with_reducible refine cA ?_ _) | (with_reducible refine cN ?_ _) | (with_reducible refine cD ?_))); (case side2 => exact HC0.out); rintro e w24 ⟨v340, rfl, ho0, hb⟩; refine ⟨_, rfl, ?_⟩; have n0_ := aM (Kd.R_elder' (by (with_reducible repeat (first | apply rA | apply rN | apply rD)); exact HO_7.out) (Kd.R_base ho0) hb); have n1_ := aM (Kd.R_lower (Kd.R_new' ho0 (Kd.R_lt (by (with_reducible repeat (first | apply rA | apply rN | apply rD)); exact HO_7.out))) (pZ (by repeat (first | (with_reducible first | exact HB.out | apply pA | apply pN | apply pD) | exact HB.out)))); have n2_ := aM (pT (by repeat (first | (with_reducible first | exact HB.out | apply pA | apply pN | apply pD) | exact HB.out)) hb); clear HO_7; clear HB; have HO_7 := n0_; have HO341 := n1_; have HB := n2_; clear n0_ n1_ n2_; (try clear hb); (try clear hb2); (try clear hk); (try clear hi); (try clear ho0); obtain ⟨Ao25, co25, eo25⟩ := Kd.R_slice HO341.out; subst eo25) | ((with_reducible refine gC (f := 24) rfl ?_); refine goesL_ (some 47) rfl rfl Try.func24 (by kernel_rfl) rfl #[.slice Ao13 t333.length co13, .slice Ao25 t339.length co25] rfl (by (try simp only [mA, mC, mN]); first | done | rfl | (simp only [lD, lT]; rfl)) ?_; (with_reducible refine (laws_eqPegS.calls kj7 _ _ t333 _ _ t339 false _ ?side1 ?side2 ?side3 ?side4 A19.out).mono ?_); (case side1 => repeat (first | exact (rR HO_7.out).2.2 | (with_reducible refine cA ?_ _) | (with_reducible refine cN ?_ _) | (with_reducible refine cD ?_))); (case side2 => exact (rR HO_7.out).2.1); (case side3 => repeat (first | exact (rR HO341.out).2.2 | (with_reducible refine cA ?_ _) | (with_reducible refine cN ?_ _) | (with_reducible refine cD ?_))); (case side4 => exact (rR HO341.out).2.1); rintro e w26 ⟨rfl, hb⟩; refine ⟨_, rfl, ?_⟩; have n0_ := aM (Kd.R_below (by (with_reducible repeat (first | apply rA | apply rN | apply rD)); exact HO_7.out) hb); have n1_ := aM (Kd.R_below (by (with_reducible repeat (first | apply rA | apply rN | apply rD)); exact HO341.out) hb); have n2_ := aM (pT (by repeat (first | (with_reducible first | exact HB.out | apply pA | apply pN | apply pD) | exact HB.out)) hb); clear HO_7; clear HO341; clear HB; have HO_7 := n0_; have HO341 := n1_; have HB := n2_; clear n0_ n1_ n2_; (try clear hb); (try clear hb2); (try clear hk); (try clear hi)))
      go_ret
      exact ⟨by first | rfl | (simp [errW_none, errW_some] <;> rfl) | (simp [*, errW_none, errW_some] <;> rfl), by repeat (first | (with_reducible first | exact HB.out | apply pA | apply pN | apply pD) | exact HB.out)⟩

def laws_FnExactThriceCentre.Pure : Prop := ∀ (l0 : List (S_laws_Peg)), OkL (fun y : S_laws_Peg => (okInt .i64) y.f0 ∧ (okInt .i64) y.f1) l0 → ∃ k, laws_FnExactThriceCentre.f k l0 = some true

end Go.Proofs.Ytnlkglbpihgcmaa.X
