-- thin
-- short
import Derived.Test.YtiacfkilmknldaaXA
import Derived.Test.YtiacfkilmknldaaX0
import Derived.Test.YtiacfkilmknldaaX2
import Derived.Test.YtiacfkilmknldaaX7
import Derived.Test.YtiacfkilmknldaaX13
import Derived.Test.YtiacfkilmknldaaX38
import Derived.Test.YtiacfkilmknldaaX39
namespace Go.Proofs.Ytiacfkilmknldaa.X
open Go.RowKit Go.Proofs.Ytiacfkilmknldaa.XW Go.Proofs.YtiacfkilmknldaaW.PrintWords Go.Proofs.YtiacfkilmknldaaW.PrintLast Go.Proofs.YtiacfkilmknldaaW.PrintMore
attribute [local go_sem] max2_int min2_int max_two min_two max_three min_three max_four min_four   -- for this text's walks alone
set_option linter.unusedVariables false
set_option linter.unusedSimpArgs false

def laws_FnExactCircleOfThree.j0 : Nat → List (S_laws_Peg) → List (S_impl_Peg) → Bool → Option (Bool)
 | 0, _, _, _ => none
 | k + 1, x0, x8, x52 => if x52 = true then (some false) else ((laws_toPegS.f k x0).bind fun t748 => ((laws_eqPegS.f k x8 t748).bind fun t751 => (if t751 = true then (some true) else (some false))))
def laws_FnExactCircleOfThree.f (k : Nat) (l0 : List (S_laws_Peg)) : Option (Bool) := (laws_szPegS.f l0 1048576).bind fun t733 => (if t733 < 0 then (some true) else ((laws_toPegS.f k l0).bind fun t734 => ((spec_CircleOfThree.f k t734).bind fun bt737 => ((laws_toPegS.f k l0).bind fun t741 => ((impl_CircleOfThree.f k t741).bind fun bt744 => (if bt744.1 = bt737.1 then (if bt744.2.1 = bt737.2.1 then (if bt744.2.2.1 = bt737.2.2.1 then (laws_FnExactCircleOfThree.j0 k l0 t741 (bt744.2.2.2 != bt737.2.2.2)) else (laws_FnExactCircleOfThree.j0 k l0 t741 true)) else (laws_FnExactCircleOfThree.j0 k l0 t741 true)) else (laws_FnExactCircleOfThree.j0 k l0 t741 true)))))))
theorem laws_FnExactCircleOfThree.mono_l : ∀ k, (∀ y0 y1 y2, LeO (laws_FnExactCircleOfThree.j0 k y0 y1 y2) (laws_FnExactCircleOfThree.j0 (k + 1) y0 y1 y2))
 | 0 => fun _ _ _ r h => by simp [laws_FnExactCircleOfThree.j0] at h
 | k + 1 => by
  have ih0 := laws_FnExactCircleOfThree.mono_l k
  ·intro y0 y1 y2
   unfold laws_FnExactCircleOfThree.j0
   repeat' first
   | (with_reducible exact ih0 _ _ _)
   | (with_reducible exact impl_CircleOfThree.mono _ _)
   | (with_reducible exact laws_eqPegS.mono _ _ _)
   | (with_reducible exact laws_toPegS.mono _ _)
   | (with_reducible exact spec_CircleOfThree.mono _ _)
   | (with_reducible exact LeO.refl _)
   | (with_reducible exact LeO.none _)
   | (with_reducible refine LeO.ite ?_ ?_)
   | (with_reducible refine LeO.bind ?_ (fun _ => ?_))
   | exact ih0 _ _ _
   | exact impl_CircleOfThree.mono _ _
   | exact laws_eqPegS.mono _ _ _
   | exact laws_toPegS.mono _ _
   | exact spec_CircleOfThree.mono _ _
   | exact LeO.none _
   | refine LeO.ite ?_ ?_
   | refine LeO.bind ?_ (fun _ => ?_)
theorem laws_FnExactCircleOfThree.mono : ∀ a0 k, LeO (laws_FnExactCircleOfThree.f k a0) (laws_FnExactCircleOfThree.f (k + 1) a0) := by
 intro a0 k
 have ih0 := laws_FnExactCircleOfThree.mono_l k
 unfold laws_FnExactCircleOfThree.f
 repeat' first
   | (with_reducible exact ih0 _ _ _)
   | (with_reducible exact impl_CircleOfThree.mono _ _)
   | (with_reducible exact laws_eqPegS.mono _ _ _)
   | (with_reducible exact laws_toPegS.mono _ _)
   | (with_reducible exact spec_CircleOfThree.mono _ _)
   | (with_reducible exact LeO.refl _)
   | (with_reducible exact LeO.none _)
   | (with_reducible refine LeO.ite ?_ ?_)
   | (with_reducible refine LeO.bind ?_ (fun _ => ?_))
   | exact ih0 _ _ _
   | exact impl_CircleOfThree.mono _ _
   | exact laws_eqPegS.mono _ _ _
   | exact laws_toPegS.mono _ _
   | exact spec_CircleOfThree.mono _ _
   | exact LeO.none _
   | refine LeO.ite ?_ ?_
   | refine LeO.bind ?_ (fun _ => ?_)
set_option maxHeartbeats 8000000 in
set_option maxRecDepth 100000 in
theorem laws_FnExactCircleOfThree.calls (k : Nat) (A0 : Option Addr) (c0 : Nat) (l0 : List (S_laws_Peg)) (r : Bool) (w : World) (hr0 : Kd.C kd_laws_Peg w A0 l0.length l0) (hc0 : l0.length ≤ c0) (h : laws_FnExactCircleOfThree.f k l0 = some r) :
  Calls Try.prog 13 #[.slice A0 l0.length c0] w fun e w' => e = .returned (.bool r) ∧ Below w.heap.size w w' := by
 have HR0 := aM hr0
 have HC0 := aM hc0
 clear hr0 hc0
 have HB := aM (Below.refl w.heap.size w)
 have H : ((laws_szPegS.f l0 1048576).bind fun t733 => (if t733 < 0 then (some true) else ((laws_toPegS.f k l0).bind fun t734 => ((spec_CircleOfThree.f k t734).bind fun bt737 => ((laws_toPegS.f k l0).bind fun t741 => ((impl_CircleOfThree.f k t741).bind fun bt744 => (if bt744.1 = bt737.1 then (if bt744.2.1 = bt737.2.1 then (if bt744.2.2.1 = bt737.2.2.1 then (laws_FnExactCircleOfThree.j0 k l0 t741 (bt744.2.2.2 != bt737.2.2.2)) else (laws_FnExactCircleOfThree.j0 k l0 t741 true)) else (laws_FnExactCircleOfThree.j0 k l0 t741 true)) else (laws_FnExactCircleOfThree.j0 k l0 t741 true)))))))) = some r := h
 clear h
 replace H := oB.mp H
 obtain ⟨t733, A20, H⟩ := H
 replace H : (if t733 < 0 then (some true) else ((laws_toPegS.f k l0).bind fun t734 => ((spec_CircleOfThree.f k t734).bind fun bt737 => ((laws_toPegS.f k l0).bind fun t741 => ((impl_CircleOfThree.f k t741).bind fun bt744 => (if bt744.1 = bt737.1 then (if bt744.2.1 = bt737.2.1 then (if bt744.2.2.1 = bt737.2.2.1 then (laws_FnExactCircleOfThree.j0 k l0 t741 (bt744.2.2.2 != bt737.2.2.2)) else (laws_FnExactCircleOfThree.j0 k l0 t741 true)) else (laws_FnExactCircleOfThree.j0 k l0 t741 true)) else (laws_FnExactCircleOfThree.j0 k l0 t741 true))))))) = some r := H
 have A2 := aM A20
 clear A20
 by_cases c3 : t733 < 0
 ·rw [if_pos c3] at H
  have c3b0 : decide (t733 < 0) = true := dE c3
  clear c3
  obtain rfl := Option.some.inj H
  go_enter Try.func13, Try.ntmps13
  go_wp2_with (first | ((with_reducible refine gC (f := 25) rfl ?_); refine goesL_ (some 15) rfl rfl Try.func25 kR rfl #[.slice A0 l0.length c0, .int .i64 1048576] rfl sQ ?_; (with_reducible refine (laws_szPegS.calls _ _ l0 1048576 t733 _ ?side1 ?side2 A2.out).mono ?_); (case side1 => repeat (first | exact HR0.out | (with_reducible refine cA ?_ _) | (with_reducible refine cN ?_ _) | (with_reducible refine cD ?_))); (case side2 => exact HC0.out); rintro e w' ⟨rfl, ⟨nd, rfl⟩⟩; refine ⟨_, rfl, ?_⟩))
  go_ret
  exact ⟨by first | rfl | (simp [errW_none, errW_some] <;> rfl) | (simp [*, errW_none, errW_some] <;> rfl), bQ⟩
 ·rw [if_neg c3] at H
  have c3b0 : decide (t733 < 0) = false := decide_eq_false c3
  clear c3
  replace H := oB.mp H
  obtain ⟨t734, A40, H⟩ := H
  replace H : ((spec_CircleOfThree.f k t734).bind fun bt737 => ((laws_toPegS.f k l0).bind fun t741 => ((impl_CircleOfThree.f k t741).bind fun bt744 => (if bt744.1 = bt737.1 then (if bt744.2.1 = bt737.2.1 then (if bt744.2.2.1 = bt737.2.2.1 then (laws_FnExactCircleOfThree.j0 k l0 t741 (bt744.2.2.2 != bt737.2.2.2)) else (laws_FnExactCircleOfThree.j0 k l0 t741 true)) else (laws_FnExactCircleOfThree.j0 k l0 t741 true)) else (laws_FnExactCircleOfThree.j0 k l0 t741 true))))) = some r := H
  have A4 := aM A40
  clear A40
  replace H := oB.mp H
  obtain ⟨⟨t737, t738, t739, t740⟩, A50, H⟩ := H
  replace H : ((laws_toPegS.f k l0).bind fun t741 => ((impl_CircleOfThree.f k t741).bind fun bt744 => (if bt744.1 = t737 then (if bt744.2.1 = t738 then (if bt744.2.2.1 = t739 then (laws_FnExactCircleOfThree.j0 k l0 t741 (bt744.2.2.2 != t740)) else (laws_FnExactCircleOfThree.j0 k l0 t741 true)) else (laws_FnExactCircleOfThree.j0 k l0 t741 true)) else (laws_FnExactCircleOfThree.j0 k l0 t741 true)))) = some r := H
  have A5 := aM A50
  clear A50
  replace H := oB.mp H
  obtain ⟨t741, A60, H⟩ := H
  replace H : ((impl_CircleOfThree.f k t741).bind fun bt744 => (if bt744.1 = t737 then (if bt744.2.1 = t738 then (if bt744.2.2.1 = t739 then (laws_FnExactCircleOfThree.j0 k l0 t741 (bt744.2.2.2 != t740)) else (laws_FnExactCircleOfThree.j0 k l0 t741 true)) else (laws_FnExactCircleOfThree.j0 k l0 t741 true)) else (laws_FnExactCircleOfThree.j0 k l0 t741 true))) = some r := H
  have A6 := aM A60
  clear A60
  replace H := oB.mp H
  obtain ⟨⟨t744, t745, t746, t747⟩, A70, H⟩ := H
  replace H : (if t744 = t737 then (if t745 = t738 then (if t746 = t739 then (laws_FnExactCircleOfThree.j0 k l0 t741 (t747 != t740)) else (laws_FnExactCircleOfThree.j0 k l0 t741 true)) else (laws_FnExactCircleOfThree.j0 k l0 t741 true)) else (laws_FnExactCircleOfThree.j0 k l0 t741 true)) = some r := H
  have A7 := aM A70
  clear A70
  have HC8 := aM H
  clear H
  go_enter Try.func13, Try.ntmps13
  go_upto_region 8 with (first | ((with_reducible refine gC (f := 25) rfl ?_); refine goesL_ (some 15) rfl rfl Try.func25 kR rfl #[.slice A0 l0.length c0, .int .i64 1048576] rfl sQ ?_; (with_reducible refine (laws_szPegS.calls _ _ l0 1048576 t733 _ ?side1 ?side2 A2.out).mono ?_); (case side1 => repeat (first | exact HR0.out | (with_reducible refine cA ?_ _) | (with_reducible refine cN ?_ _) | (with_reducible refine cD ?_))); (case side2 => exact HC0.out); rintro e w' ⟨rfl, ⟨nd, rfl⟩⟩; refine ⟨_, rfl, ?_⟩) | ((with_reducible refine gC (f := 27) rfl ?_); refine goesL_ (some 20) rfl rfl Try.func27 kR rfl #[.slice A0 l0.length c0] rfl sQ ?_; (with_reducible refine (laws_toPegS.calls k _ _ l0 t734 _ ?side1 ?side2 A4.out).mono ?_); (case side1 => repeat (first | exact HR0.out | (with_reducible refine cA ?_ _) | (with_reducible refine cN ?_ _) | (with_reducible refine cD ?_))); (case side2 => exact HC0.out); rintro e w9 ⟨v735, rfl, ho0, hb⟩; refine ⟨_, rfl, ?_⟩; have n0_ := aM (Kd.R_lower ho0 (pZ bQ)); have n1_ := aM (pT bQ hb); clear HB; have HO736 := n0_; have HB := n1_; clear n0_ n1_; (try clear hb); (try clear hb2); (try clear hk); (try clear hi); (try clear ho0); obtain ⟨Ao10, co10, eo10⟩ := Kd.R_slice HO736.out; subst eo10) | ((with_reducible refine gC (f := 54) rfl ?_); refine goesL_ (some 21) rfl rfl Try.func54 kR rfl #[.slice Ao10 t734.length co10] rfl sQ ?_; (with_reducible refine (spec_CircleOfThree.calls k _ _ t734 t737 t738 t739 t740 _ ?side1 ?side2 A5.out).mono ?_); (case side1 => repeat (first | exact (rR HO736.out).2.2 | (with_reducible refine cA ?_ _) | (with_reducible refine cN ?_ _) | (with_reducible refine cD ?_))); (case side2 => exact (rR HO736.out).2.1); rintro e w11 ⟨rfl, hb⟩; refine ⟨_, rfl, ?_⟩; have n0_ := aM (Kd.R_below (rQ HO736) hb); have n1_ := aM (pT bQ hb); clear HO736; clear HB; have HO736 := n0_; have HB := n1_; clear n0_ n1_; (try clear hb); (try clear hb2); (try clear hk); (try clear hi)) | ((with_reducible refine gC (f := 27) rfl ?_); refine goesL_ (some 27) rfl rfl Try.func27 kR rfl #[.slice A0 l0.length c0] rfl sQ ?_; (with_reducible refine (laws_toPegS.calls k _ _ l0 t741 _ ?side1 ?side2 A6.out).mono ?_); (case side1 => repeat (first | exact (Kd.C_below HR0.out HB.out) | (with_reducible refine cA ?_ _) | (with_reducible refine cN ?_ _) | (with_reducible refine cD ?_))); (case side2 => exact HC0.out); rintro e w12 ⟨v742, rfl, ho0, hb⟩; refine ⟨_, rfl, ?_⟩; have n0_ := aM (Kd.R_elder' (rQ HO736) (Kd.R_base ho0) hb); have n1_ := aM (Kd.R_lower (Kd.R_new' ho0 (Kd.R_lt (rQ HO736))) (pZ bQ)); have n2_ := aM (pT bQ hb); clear HO736; clear HB; have HO736 := n0_; have HO743 := n1_; have HB := n2_; clear n0_ n1_ n2_; (try clear hb); (try clear hb2); (try clear hk); (try clear hi); (try clear ho0); obtain ⟨Ao13, co13, eo13⟩ := Kd.R_slice HO743.out; subst eo13) | ((with_reducible refine gC (f := 55) rfl ?_); refine goesL_ (some 30) rfl rfl Try.func55 kR rfl #[.slice Ao13 t741.length co13] rfl sQ ?_; (with_reducible refine (impl_CircleOfThree.calls k _ _ t741 t744 t745 t746 t747 _ ?side1 ?side2 A7.out).mono ?_); (case side1 => repeat (first | exact (rR HO743.out).2.2 | (with_reducible refine cA ?_ _) | (with_reducible refine cN ?_ _) | (with_reducible refine cD ?_))); (case side2 => exact (rR HO743.out).2.1); rintro e w14 ⟨rfl, hb⟩; refine ⟨_, rfl, ?_⟩; have n0_ := aM (Kd.R_below (rQ HO736) hb); have n1_ := aM (Kd.R_below (rQ HO743) hb); have n2_ := aM (pT bQ hb); clear HO736; clear HO743; clear HB; have HO736 := n0_; have HO743 := n1_; have HB := n2_; clear n0_ n1_ n2_; (try clear hb); (try clear hb2); (try clear hk); (try clear hi)))
  (try simp only [Act.put, sI, sZ, sS])
  go_cut [52] (fun v52 wc => ∃ (kq : Nat) (x52_7 : Bool), v52 = .bool x52_7 ∧ Aside0 (laws_FnExactCircleOfThree.j0 kq l0 t741 x52_7 = some r) ∧ Aside0 (kq ≤ k) ∧ Aside0 (Kd.R kd_impl_Peg 34 wc w.heap.size (fun _ => True) (.slice Ao13 t741.length co13) t741) ∧ Aside0 (Below w.heap.size w wc))
  case first =>
   have H := HC8.out
   clear HC8
   by_cases c15 : t744 = t737
   ·rw [if_pos c15] at H
    have c15b0 : (t744 == t737) = true := beq_iff_eq.mpr c15
    have c15b1 : (t744 != t737) = false := bne_eq_false_iff_eq.mpr c15
    clear c15
    (first | rw [c15b0] | (simp only [i64_w, i32_w]; rw [c15b0]) | skip)
    by_cases c16 : t745 = t738
    ·rw [if_pos c16] at H
     have c16b0 : (t745 == t738) = true := beq_iff_eq.mpr c16
     have c16b1 : (t745 != t738) = false := bne_eq_false_iff_eq.mpr c16
     clear c16
     by_cases c17 : t746 = t739
     ·rw [if_pos c17] at H
      have c17b0 : (t746 == t739) = true := beq_iff_eq.mpr c17
      have c17b1 : (t746 != t739) = false := bne_eq_false_iff_eq.mpr c17
      clear c17
      have H' := aM H
      clear H
      go_wp2
      go_meet
      case rel => exact ⟨_, ((t747 != t740)), eQ, H', ⟨by first | omega | exact Nat.le_refl _⟩, ⟨by (with_reducible repeat (first | apply rA | apply rN | apply rD)); exact Kd.R_mono HO743.out (fun _ hk => trivial)⟩, ⟨bQ⟩⟩
     ·rw [if_neg c17] at H
      have c17b0 : (t746 == t739) = false := beq_eq_false_iff_ne.mpr c17
      have c17b1 : (t746 != t739) = true := bne_iff_ne.mpr c17
      have H' := aM H
      clear H
      go_wp2
      go_meet
      case rel => exact ⟨_, (true), eQ, H', ⟨by first | omega | exact Nat.le_refl _⟩, ⟨by (with_reducible repeat (first | apply rA | apply rN | apply rD)); exact Kd.R_mono HO743.out (fun _ hk => trivial)⟩, ⟨bQ⟩⟩
    ·rw [if_neg c16] at H
     have c16b0 : (t745 == t738) = false := beq_eq_false_iff_ne.mpr c16
     have c16b1 : (t745 != t738) = true := bne_iff_ne.mpr c16
     have H' := aM H
     clear H
     go_wp2
     go_meet
     case rel => exact ⟨_, (true), eQ, H', ⟨by first | omega | exact Nat.le_refl _⟩, ⟨by (with_reducible repeat (first | apply rA | apply rN | apply rD)); exact Kd.R_mono HO743.out (fun _ hk => trivial)⟩, ⟨bQ⟩⟩
   ·rw [if_neg c15] at H
    have c15b0 : (t744 == t737) = false := beq_eq_false_iff_ne.mpr c15
    have c15b1 : (t744 != t737) = true := bne_iff_ne.mpr c15
    (first | rw [c15b0] | (simp only [i64_w, i32_w]; rw [c15b0]) | skip)
    have H' := aM H
    clear H
    go_wp2
    go_meet
    case rel => exact ⟨_, (true), eQ, H', ⟨by first | omega | exact Nat.le_refl _⟩, ⟨by (with_reducible repeat (first | apply rA | apply rN | apply rD)); exact Kd.R_mono HO743.out (fun _ hk => trivial)⟩, ⟨bQ⟩⟩
  case rest =>
   clear HC8
   try clear c1
   try clear c2
   try clear p2
   try clear c3
   try clear c3b0
   try clear c5
   try clear c13
   try clear c15
   try clear c15b0
   try clear c15b1
   try clear c16
   try clear c16b0
   try clear c16b1
   try clear c17
   try clear c17b0
   try clear c17b1
   obtain ⟨kq, x52_7, rfl, HA, HJ7, HO_8, HB⟩ := hcut
   cases kq with
   | zero => exact absurd HA.out (by simp [laws_FnExactCircleOfThree.j0])
   | succ kj7 =>
    have H := HA.out
    clear HA
    simp only [laws_FnExactCircleOfThree.j0] at H
    by_cases c18 : x52_7 = true
    ·subst c18
     have H1 : (some false) = some r := by rw [if_pos rfl] at H; exact H
     clear H
     have H := H1
     clear H1
     obtain rfl := Option.some.inj H
     go_wp2
     go_ret
     exact ⟨by first | rfl | (simp [errW_none, errW_some] <;> rfl) | (simp [*, errW_none, errW_some] <;> rfl), bQ⟩
    ·replace c18 := Bool.eq_false_iff.mpr c18
     subst c18
     have H1 : ((laws_toPegS.f kj7 l0).bind fun t748 => ((laws_eqPegS.f kj7 t741 t748).bind fun t751 => (if t751 = true then (some true) else (some false)))) = some r := by rw [if_neg (show ¬ (false = true) by decide)] at H; exact H
     clear H
     have H := H1
     clear H1
     replace H := oB.mp H
     obtain ⟨t748, A190, H⟩ := H
     replace H : ((laws_eqPegS.f kj7 t741 t748).bind fun t751 => (if t751 = true then (some true) else (some false))) = some r := H
     have A19 := aM A190
     clear A190
     replace H := oB.mp H
     obtain ⟨t751, A200, H⟩ := H
     replace H : (if t751 = true then (some true) else (some false)) = some r := H
     have A20 := aM A200
     clear A200
     by_cases c21 : t751 = true
     ·subst c21
      have H1 : (some true) = some r := by rw [if_pos rfl] at H; exact H
      clear H
      have H := H1
      clear H1
      obtain rfl := Option.some.inj H
      go_wp2_with (first | ((with_reducible refine gC (f := 27) rfl ?_); refine goesL_ (some 55) rfl rfl Try.func27 kR rfl #[.slice A0 l0.length c0] rfl sQ ?_; (with_reducible refine (laws_toPegS.calls kj7 _ _ l0 t748 _ ?side1 ?side2 A19.out).mono ?_); (case side1 => repeat (first | exact (Kd.C_below HR0.out HB.out) | (with_reducible refine cA ?_ _) | (with_reducible refine cN ?_ _) | (with_reducible refine cD ?_))); (case side2 => exact HC0.out); rintro e w22 ⟨v749, rfl, ho0, hb⟩; refine ⟨_, rfl, ?_⟩; have n0_ := aM (Kd.R_elder' (rQ HO_8) (Kd.R_base ho0) hb); have n1_ := aM (Kd.R_lower (Kd.R_new' ho0 (Kd.R_lt (rQ HO_8))) (pZ bQ)); have n2_ := aM (pT bQ hb); clear HO_8; clear HB; have HO_8 := n0_; have HO750 := n1_; have HB := n2_; clear n0_ n1_ n2_; (try clear hb); (try clear hb2); (try clear hk); (try clear hi); (try clear ho0); obtain ⟨Ao23, co23, eo23⟩ := Kd.R_slice HO750.out; subst eo23) | ((with_reducible refine gC (f := 29) rfl ?_); refine goesL_ (some 56) rfl rfl Try.func29 kR rfl #[.slice Ao13 t741.length co13, .slice Ao23 t748.length co23] rfl sQ ?_; (with_reducible refine (laws_eqPegS.calls kj7 _ _ t741 _ _ t748 true _ ?side1 ?side2 ?side3 ?side4 A20.out).mono ?_); (case side1 => repeat (first | exact (rR HO_8.out).2.2 | (with_reducible refine cA ?_ _) | (with_reducible refine cN ?_ _) | (with_reducible refine cD ?_))); (case side2 => exact (rR HO_8.out).2.1); (case side3 => repeat (first | exact (rR HO750.out).2.2 | (with_reducible refine cA ?_ _) | (with_reducible refine cN ?_ _) | (with_reducible refine cD ?_))); (case side4 => exact (rR HO750.out).2.1); rintro e w24 ⟨rfl, hb⟩; refine ⟨_, rfl, ?_⟩; have n0_ := aM (Kd.R_below (rQ HO_8) hb); have n1_ := aM (Kd.R_below (rQ HO750) hb); have n2_ := aM (pT bQ hb); clear HO_8; clear HO750; clear HB; have HO_8 := n0_; have HO750 := n1_; have HB := n2_; clear n0_ n1_ n2_; (try clear hb); (try clear hb2); (try clear hk); (try clear hi)))
      go_ret
      exact ⟨by first | rfl | (simp [errW_none, errW_some] <;> rfl) | (simp [*, errW_none, errW_some] <;> rfl), bQ⟩
     ·replace c21 := Bool.eq_false_iff.mpr c21
      subst c21
      have H1 : (some false) = some r := by rw [if_neg (show ¬ (false = true) by decide)] at H; exact H
      clear H
      have H := H1
      clear H1
      obtain rfl := Option.some.inj H
      go_wp2_with (first | ((with_reducible refine gC (f := 27) rfl ?_); refine goesL_ (some 55) rfl rfl Try.func27 kR rfl #[.slice A0 l0.length c0] rfl sQ ?_; (with_reducible refine (laws_toPegS.calls kj7 _ _ l0 t748 _ ?side1 ?side2 A19.out).mono ?_); (case side1 => repeat (first | exact (Kd.C_below HR0.out HB.out) | (with_reducible refine cA ?_ _) | (with_reducible refine cN ?_ _) | (with_reducible refine cD ?_))); (case side2 => exact HC0.out); rintro e w25 ⟨v749, rfl, ho0, hb⟩; refine ⟨_, rfl, ?_⟩; have n0_ := aM (Kd.R_elder' (rQ HO_8) (Kd.R_base ho0) hb); have n1_ := aM (Kd.R_lower (Kd.R_new' ho0 (Kd.R_lt (rQ HO_8))) (pZ bQ)); have n2_ := aM (pT bQ hb); clear HO_8; clear HB; have HO_8 := n0_; have HO750 := n1_; have HB := n2_; clear n0_ n1_ n2_; (try clear hb); (try clear hb2); (try clear hk); (try clear hi); (try clear ho0); obtain ⟨Ao26, co26, eo26⟩ := Kd.R_slice HO750.out; subst eo26) | ((with_reducible refine gC (f := 29) rfl ?_); refine goesL_ (some 56) rfl rfl Try.func29 kR rfl #[.slice Ao13 t741.length co13, .slice Ao26 t748.length co26] rfl sQ ?_; (with_reducible refine (laws_eqPegS.calls kj7 _ _ t741 _ _ t748 false _ ?side1 ?side2 ?side3 ?side4 A20.out).mono ?_); (case side1 => repeat (first | exact (rR HO_8.out).2.2 | (with_reducible refine cA ?_ _) | (with_reducible refine cN ?_ _) | (with_reducible refine cD ?_))); (case side2 => exact (rR HO_8.out).2.1); (case side3 => repeat (first | exact (rR HO750.out).2.2 | (with_reducible refine cA ?_ _) | (with_reducible refine cN ?_ _) | (with_reducible refine cD ?_))); (case side4 => exact (rR HO750.out).2.1); rintro e w27 ⟨rfl, hb⟩; refine ⟨_, rfl, ?_⟩; have n0_ := aM (Kd.R_below (rQ HO_8) hb); have n1_ := aM (Kd.R_below (rQ HO750) hb); have n2_ := aM (pT bQ hb); clear HO_8; clear HO750; clear HB; have HO_8 := n0_; have HO750 := n1_; have HB := n2_; clear n0_ n1_ n2_; (try clear hb); (try clear hb2); (try clear hk); (try clear hi)))
      go_ret
      exact ⟨by first | rfl | (simp [errW_none, errW_some] <;> rfl) | (simp [*, errW_none, errW_some] <;> rfl), bQ⟩

def laws_FnExactCircleOfThree.Pure : Prop := ∀ (l0 : List (S_laws_Peg)), OkL (fun y : S_laws_Peg => (okInt .i64) y.f0 ∧ (okInt .i64) y.f1) l0 → ∃ k, laws_FnExactCircleOfThree.f k l0 = some true

end Go.Proofs.Ytiacfkilmknldaa.X
