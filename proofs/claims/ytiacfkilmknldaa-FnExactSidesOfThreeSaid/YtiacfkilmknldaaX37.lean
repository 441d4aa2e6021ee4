-- thin
-- short
import Derived.Test.YtiacfkilmknldaaXA
import Derived.Test.YtiacfkilmknldaaX0
import Derived.Test.YtiacfkilmknldaaX2
import Derived.Test.YtiacfkilmknldaaX7
import Derived.Test.YtiacfkilmknldaaX13
import Derived.Test.YtiacfkilmknldaaX23
import Derived.Test.YtiacfkilmknldaaX33
import Derived.Test.YtiacfkilmknldaaX35
import Derived.Test.YtiacfkilmknldaaX36
namespace Go.Proofs.Ytiacfkilmknldaa.X
open Go.RowKit Go.Proofs.Ytiacfkilmknldaa.XW Go.Proofs.YtiacfkilmknldaaW.PrintWords Go.Proofs.YtiacfkilmknldaaW.PrintLast Go.Proofs.YtiacfkilmknldaaW.PrintMore
attribute [local go_sem] max2_int min2_int max_two min_two max_three min_three max_four min_four   -- for this text's walks alone
set_option linter.unusedVariables false
set_option linter.unusedSimpArgs false

mutual
def laws_FnExactSidesOfThree.j0 : Nat → List (S_laws_Peg) → List Int → Bool → List (S_impl_Peg) → List Int → Bool → Bool → Option (Bool)
 | 0, _, _, _, _, _, _, _ => none
 | k + 1, x0, x4, x5, x6, x7, x8, x40 => if x40 = true then (some false) else ((laws_toPegS.f k x0).bind fun t689 => ((laws_eqPegS.f k x6 t689).bind fun t692 => (if t692 = true then ((laws_markPegS.f k x6 1).bind fun bt693 => (if bt693.1 < 0 then (laws_FnExactSidesOfThree.j1 k x0 x4 x5 x7 true) else ((laws_eqIntS.f k x7 x4).bind fun t695 => (if t695 = true then (laws_FnExactSidesOfThree.j1 k x0 x4 x5 x7 (x8 != x5)) else (laws_FnExactSidesOfThree.j1 k x0 x4 x5 x7 true))))) else (some false))))
def laws_FnExactSidesOfThree.j1 : Nat → List (S_laws_Peg) → List Int → Bool → List Int → Bool → Option (Bool)
 | 0, _, _, _, _, _ => none
 | k + 1, x0, x4, x5, x7, x61 => if x61 = true then (some false) else ((laws_markIntS.f k x7 1).bind fun bt696 => ((laws_heldIntS.f k bt696.2 1).bind fun t698 => (if t698 < 0 then (some false) else (if t698 = bt696.1 then ((laws_toPegS.f k x0).bind fun t699 => ((impl_SidesOfThree.f k t699).bind fun bt702 => ((laws_eqIntS.f k bt702.1 x4).bind fun t706 => (if t706 = true then (laws_FnExactSidesOfThree.j2 k bt696.2 bt696.1 (bt702.2 != x5)) else (laws_FnExactSidesOfThree.j2 k bt696.2 bt696.1 true))))) else (some false)))))
def laws_FnExactSidesOfThree.j2 : Nat → List Int → Int → Bool → Option (Bool)
 | 0, _, _, _ => none
 | k + 1, x7, x10, x87 => if x87 = true then (some false) else ((laws_heldIntS.f k x7 1).bind fun t707 => (if t707 < 0 then (some false) else (if t707 = x10 then (some true) else (some false))))
end
def laws_FnExactSidesOfThree.f (k : Nat) (l0 : List (S_laws_Peg)) : Option (Bool) := (laws_szPegS.f l0 1048576).bind fun t673 => (if t673 < 0 then (some true) else ((laws_toPegS.f k l0).bind fun t674 => ((spec_SidesOfThree.f k t674).bind fun bt677 => ((laws_toPegS.f k l0).bind fun t681 => ((impl_SidesOfThree.f k t681).bind fun bt684 => ((laws_eqIntS.f k bt684.1 bt677.1).bind fun t688 => (if t688 = true then (laws_FnExactSidesOfThree.j0 k l0 bt677.1 bt677.2 t681 bt684.1 bt684.2 (bt684.2 != bt677.2)) else (laws_FnExactSidesOfThree.j0 k l0 bt677.1 bt677.2 t681 bt684.1 bt684.2 true))))))))
theorem laws_FnExactSidesOfThree.mono_l : ∀ k, (∀ y0 y1 y2 y3 y4 y5 y6, LeO (laws_FnExactSidesOfThree.j0 k y0 y1 y2 y3 y4 y5 y6) (laws_FnExactSidesOfThree.j0 (k + 1) y0 y1 y2 y3 y4 y5 y6)) ∧ (∀ y0 y1 y2 y3 y4, LeO (laws_FnExactSidesOfThree.j1 k y0 y1 y2 y3 y4) (laws_FnExactSidesOfThree.j1 (k + 1) y0 y1 y2 y3 y4)) ∧ (∀ y0 y1 y2, LeO (laws_FnExactSidesOfThree.j2 k y0 y1 y2) (laws_FnExactSidesOfThree.j2 (k + 1) y0 y1 y2))
 | 0 => ⟨fun _ _ _ _ _ _ _ r h => by simp [laws_FnExactSidesOfThree.j0] at h, fun _ _ _ _ _ r h => by simp [laws_FnExactSidesOfThree.j1] at h, fun _ _ _ r h => by simp [laws_FnExactSidesOfThree.j2] at h⟩
 | k + 1 => by
  obtain ⟨ih0, ih1, ih2⟩ := laws_FnExactSidesOfThree.mono_l k
  refine ⟨?_, ?_, ?_⟩
  ·intro y0 y1 y2 y3 y4 y5 y6
   unfold laws_FnExactSidesOfThree.j0
   repeat' first
   | (with_reducible exact ih0 _ _ _ _ _ _ _)
   | (with_reducible exact ih1 _ _ _ _ _)
   | (with_reducible exact ih2 _ _ _)
   | (with_reducible exact impl_SidesOfThree.mono _ _)
   | (with_reducible exact laws_eqIntS.mono _ _ _)
   | (with_reducible exact laws_eqPegS.mono _ _ _)
   | (with_reducible exact laws_heldIntS.mono _ _ _)
   | (with_reducible exact laws_markIntS.mono _ _ _)
   | (with_reducible exact laws_markPegS.mono _ _ _)
   | (with_reducible exact laws_toPegS.mono _ _)
   | (with_reducible exact spec_SidesOfThree.mono _ _)
   | (with_reducible exact LeO.refl _)
   | (with_reducible exact LeO.none _)
   | (with_reducible refine LeO.ite ?_ ?_)
   | (with_reducible refine LeO.bind ?_ (fun _ => ?_))
   | exact ih0 _ _ _ _ _ _ _
   | exact ih1 _ _ _ _ _
   | exact ih2 _ _ _
   | exact impl_SidesOfThree.mono _ _
   | exact laws_eqIntS.mono _ _ _
   | exact laws_eqPegS.mono _ _ _
   | exact laws_heldIntS.mono _ _ _
   | exact laws_markIntS.mono _ _ _
   | exact laws_markPegS.mono _ _ _
   | exact laws_toPegS.mono _ _
   | exact spec_SidesOfThree.mono _ _
   | exact LeO.none _
   | refine LeO.ite ?_ ?_
   | refine LeO.bind ?_ (fun _ => ?_)
  ·intro y0 y1 y2 y3 y4
   unfold laws_FnExactSidesOfThree.j1
   repeat' first
   | (with_reducible exact ih0 _ _ _ _ _ _ _)
   | (with_reducible exact ih1 _ _ _ _ _)
   | (with_reducible exact ih2 _ _ _)
   | (with_reducible exact impl_SidesOfThree.mono _ _)
   | (with_reducible exact laws_eqIntS.mono _ _ _)
   | (with_reducible exact laws_eqPegS.mono _ _ _)
   | (with_reducible exact laws_heldIntS.mono _ _ _)
   | (with_reducible exact laws_markIntS.mono _ _ _)
   | (with_reducible exact laws_markPegS.mono _ _ _)
   | (with_reducible exact laws_toPegS.mono _ _)
   | (with_reducible exact spec_SidesOfThree.mono _ _)
   | (with_reducible exact LeO.refl _)
   | (with_reducible exact LeO.none _)
   | (with_reducible refine LeO.ite ?_ ?_)
   | (with_reducible refine LeO.bind ?_ (fun _ => ?_))
   | exact ih0 _ _ _ _ _ _ _
   | exact ih1 _ _ _ _ _
   | exact ih2 _ _ _
   | exact impl_SidesOfThree.mono _ _
   | exact laws_eqIntS.mono _ _ _
   | exact laws_eqPegS.mono _ _ _
   | exact laws_heldIntS.mono _ _ _
   | exact laws_markIntS.mono _ _ _
   | exact laws_markPegS.mono _ _ _
   | exact laws_toPegS.mono _ _
   | exact spec_SidesOfThree.mono _ _
   | exact LeO.none _
   | refine LeO.ite ?_ ?_
   | refine LeO.bind ?_ (fun _ => ?_)
  ·intro y0 y1 y2
   unfold laws_FnExactSidesOfThree.j2
   repeat' first
   | (with_reducible exact ih0 _ _ _ _ _ _ _)
   | (with_reducible exact ih1 _ _ _ _ _)
   | (with_reducible exact ih2 _ _ _)
   | (with_reducible exact impl_SidesOfThree.mono _ _)
   | (with_reducible exact laws_eqIntS.mono _ _ _)
   | (with_reducible exact laws_eqPegS.mono _ _ _)
   | (with_reducible exact laws_heldIntS.mono _ _ _)
   | (with_reducible exact laws_markIntS.mono _ _ _)
   | (with_reducible exact laws_markPegS.mono _ _ _)
   | (with_reducible exact laws_toPegS.mono _ _)
   | (with_reducible exact spec_SidesOfThree.mono _ _)
   | (with_reducible exact LeO.refl _)
   | (with_reducible exact LeO.none _)
   | (with_reducible refine LeO.ite ?_ ?_)
   | (with_reducible refine LeO.bind ?_ (fun _ => ?_))
   | exact ih0 _ _ _ _ _ _ _
   | exact ih1 _ _ _ _ _
   | exact ih2 _ _ _
   | exact impl_SidesOfThree.mono _ _
   | exact laws_eqIntS.mono _ _ _
   | exact laws_eqPegS.mono _ _ _
   | exact laws_heldIntS.mono _ _ _
   | exact laws_markIntS.mono _ _ _
   | exact laws_markPegS.mono _ _ _
   | exact laws_toPegS.mono _ _
   | exact spec_SidesOfThree.mono _ _
   | exact LeO.none _
   | refine LeO.ite ?_ ?_
   | refine LeO.bind ?_ (fun _ => ?_)
theorem laws_FnExactSidesOfThree.mono : ∀ a0 k, LeO (laws_FnExactSidesOfThree.f k a0) (laws_FnExactSidesOfThree.f (k + 1) a0) := by
 intro a0 k
 obtain ⟨ih0, ih1, ih2⟩ := laws_FnExactSidesOfThree.mono_l k
 unfold laws_FnExactSidesOfThree.f
 repeat' first
   | (with_reducible exact ih0 _ _ _ _ _ _ _)
   | (with_reducible exact ih1 _ _ _ _ _)
   | (with_reducible exact ih2 _ _ _)
   | (with_reducible exact impl_SidesOfThree.mono _ _)
   | (with_reducible exact laws_eqIntS.mono _ _ _)
   | (with_reducible exact laws_eqPegS.mono _ _ _)
   | (with_reducible exact laws_heldIntS.mono _ _ _)
   | (with_reducible exact laws_markIntS.mono _ _ _)
   | (with_reducible exact laws_markPegS.mono _ _ _)
   | (with_reducible exact laws_toPegS.mono _ _)
   | (with_reducible exact spec_SidesOfThree.mono _ _)
   | (with_reducible exact LeO.refl _)
   | (with_reducible exact LeO.none _)
   | (with_reducible refine LeO.ite ?_ ?_)
   | (with_reducible refine LeO.bind ?_ (fun _ => ?_))
   | exact ih0 _ _ _ _ _ _ _
   | exact ih1 _ _ _ _ _
   | exact ih2 _ _ _
   | exact impl_SidesOfThree.mono _ _
   | exact laws_eqIntS.mono _ _ _
   | exact laws_eqPegS.mono _ _ _
   | exact laws_heldIntS.mono _ _ _
   | exact laws_markIntS.mono _ _ _
   | exact laws_markPegS.mono _ _ _
   | exact laws_toPegS.mono _ _
   | exact spec_SidesOfThree.mono _ _
   | exact LeO.none _
   | refine LeO.ite ?_ ?_
   | refine LeO.bind ?_ (fun _ => ?_)
set_option maxHeartbeats 8000000 in
set_option maxRecDepth 100000 in
theorem laws_FnExactSidesOfThree.calls (k : Nat) (A0 : Option Addr) (c0 : Nat) (l0 : List (S_laws_Peg)) (r : Bool) (w : World) (hr0 : Kd.C kd_laws_Peg w A0 l0.length l0) (hc0 : l0.length ≤ c0) (h : laws_FnExactSidesOfThree.f k l0 = some r) :
  Calls Try.prog 11 #[.slice A0 l0.length c0] w fun e w' => e = .returned (.bool r) ∧ Below w.heap.size w w' := by
 have HR0 := aM hr0
 have HC0 := aM hc0
 clear hr0 hc0
 have HB := aM (Below.refl w.heap.size w)
 have H : ((laws_szPegS.f l0 1048576).bind fun t673 => (if t673 < 0 then (some true) else ((laws_toPegS.f k l0).bind fun t674 => ((spec_SidesOfThree.f k t674).bind fun bt677 => ((laws_toPegS.f k l0).bind fun t681 => ((impl_SidesOfThree.f k t681).bind fun bt684 => ((laws_eqIntS.f k bt684.1 bt677.1).bind fun t688 => (if t688 = true then (laws_FnExactSidesOfThree.j0 k l0 bt677.1 bt677.2 t681 bt684.1 bt684.2 (bt684.2 != bt677.2)) else (laws_FnExactSidesOfThree.j0 k l0 bt677.1 bt677.2 t681 bt684.1 bt684.2 true))))))))) = some r := h
 clear h
 replace H := oB.mp H
 obtain ⟨t673, A20, H⟩ := H
 replace H : (if t673 < 0 then (some true) else ((laws_toPegS.f k l0).bind fun t674 => ((spec_SidesOfThree.f k t674).bind fun bt677 => ((laws_toPegS.f k l0).bind fun t681 => ((impl_SidesOfThree.f k t681).bind fun bt684 => ((laws_eqIntS.f k bt684.1 bt677.1).bind fun t688 => (if t688 = true then (laws_FnExactSidesOfThree.j0 k l0 bt677.1 bt677.2 t681 bt684.1 bt684.2 (bt684.2 != bt677.2)) else (laws_FnExactSidesOfThree.j0 k l0 bt677.1 bt677.2 t681 bt684.1 bt684.2 true)))))))) = some r := H
 have A2 := aM A20
 clear A20
 by_cases c3 : t673 < 0
 ·rw [if_pos c3] at H
  have c3b0 : decide (t673 < 0) = true := dE c3
  clear c3
  obtain rfl := Option.some.inj H
  go_enter Try.func11, Try.ntmps11
  go_wp2_with (first | ((with_reducible refine gC (f := 25) rfl ?_); refine goesL_ (some 16) rfl rfl Try.func25 (by kernel_rfl) rfl #[.slice A0 l0.length c0, .int .i64 1048576] rfl (by (try simp only [mA, mC, mN]); first | done | rfl | (simp only [lD, lT]; rfl)) ?_; (with_reducible refine (laws_szPegS.calls _ _ l0 1048576 t673 _ ?side1 ?side2 A2.out).mono ?_); (case side1 => repeat (first | exact HR0.out | (with_reducible refine cA ?_ _) | (with_reducible refine cN ?_ _) | (with_reducible refine cD ?_))); (case side2 => exact HC0.out); rintro e w' ⟨rfl, ⟨nd, rfl⟩⟩; refine ⟨_, rfl, ?_⟩))
  go_ret
  exact ⟨by first | rfl | (simp [errW_none, errW_some] <;> rfl) | (simp [*, errW_none, errW_some] <;> rfl), by repeat (first | (with_reducible first | exact HB.out | apply pA | apply pN | apply pD) | exact HB.out)⟩
 ·rw [if_neg c3] at H
  have c3b0 : decide (t673 < 0) = false := decide_eq_false c3
  clear c3
  replace H := oB.mp H
  obtain ⟨t674, A40, H⟩ := H
  replace H : ((spec_SidesOfThree.f k t674).bind fun bt677 => ((laws_toPegS.f k l0).bind fun t681 => ((impl_SidesOfThree.f k t681).bind fun bt684 => ((laws_eqIntS.f k bt684.1 bt677.1).bind fun t688 => (if t688 = true then (laws_FnExactSidesOfThree.j0 k l0 bt677.1 bt677.2 t681 bt684.1 bt684.2 (bt684.2 != bt677.2)) else (laws_FnExactSidesOfThree.j0 k l0 bt677.1 bt677.2 t681 bt684.1 bt684.2 true)))))) = some r := H
  have A4 := aM A40
  clear A40
  replace H := oB.mp H
  obtain ⟨⟨t677, t678⟩, A50, H⟩ := H
  replace H : ((laws_toPegS.f k l0).bind fun t681 => ((impl_SidesOfThree.f k t681).bind fun bt684 => ((laws_eqIntS.f k bt684.1 t677).bind fun t688 => (if t688 = true then (laws_FnExactSidesOfThree.j0 k l0 t677 t678 t681 bt684.1 bt684.2 (bt684.2 != t678)) else (laws_FnExactSidesOfThree.j0 k l0 t677 t678 t681 bt684.1 bt684.2 true))))) = some r := H
  have A5 := aM A50
  clear A50
  replace H := oB.mp H
  obtain ⟨t681, A60, H⟩ := H
  replace H : ((impl_SidesOfThree.f k t681).bind fun bt684 => ((laws_eqIntS.f k bt684.1 t677).bind fun t688 => (if t688 = true then (laws_FnExactSidesOfThree.j0 k l0 t677 t678 t681 bt684.1 bt684.2 (bt684.2 != t678)) else (laws_FnExactSidesOfThree.j0 k l0 t677 t678 t681 bt684.1 bt684.2 true)))) = some r := H
  have A6 := aM A60
  clear A60
  replace H := oB.mp H
  obtain ⟨⟨t684, t685⟩, A70, H⟩ := H
  replace H : ((laws_eqIntS.f k t684 t677).bind fun t688 => (if t688 = true then (laws_FnExactSidesOfThree.j0 k l0 t677 t678 t681 t684 t685 (t685 != t678)) else (laws_FnExactSidesOfThree.j0 k l0 t677 t678 t681 t684 t685 true))) = some r := H
  have A7 := aM A70
  clear A70
  have HC8 := aM H
  clear H
  go_enter Try.func11, Try.ntmps11
  go_upto_region 8 with (first | ((with_reducible refine gC (f := 25) rfl ?_); refine goesL_ (some 16) rfl rfl Try.func25 (by kernel_rfl) rfl #[.slice A0 l0.length c0, .int .i64 1048576] rfl (by (try simp only [mA, mC, mN]); first | done | rfl | (simp only [lD, lT]; rfl)) ?_; (with_reducible refine (laws_szPegS.calls _ _ l0 1048576 t673 _ ?side1 ?side2 A2.out).mono ?_); (case side1 => repeat (first | exact HR0.out | (with_reducible refine cA ?_ _) | (with_reducible refine cN ?_ _) | (with_reducible refine cD ?_))); (case side2 => exact HC0.out); rintro e w' ⟨rfl, ⟨nd, rfl⟩⟩; refine ⟨_, rfl, ?_⟩) | ((with_reducible refine gC (f := 27) rfl ?_); refine goesL_ (some 21) rfl rfl Try.func27 (by kernel_rfl) rfl #[.slice A0 l0.length c0] rfl (by (try simp only [mA, mC, mN]); first | done | rfl | (simp only [lD, lT]; rfl)) ?_; (with_reducible refine (laws_toPegS.calls k _ _ l0 t674 _ ?side1 ?side2 A4.out).mono ?_); (case side1 => repeat (first | exact HR0.out | (with_reducible refine cA ?_ _) | (with_reducible refine cN ?_ _) | (with_reducible refine cD ?_))); (case side2 => exact HC0.out); rintro e w9 ⟨v675, rfl, ho0, hb⟩; refine ⟨_, rfl, ?_⟩; have n0_ := aM (Kd.R_lower ho0 (pZ (by repeat (first | (with_reducible first | exact HB.out | apply pA | apply pN | apply pD) | exact HB.out)))); have n1_ := aM (pT (by repeat (first | (with_reducible first | exact HB.out | apply pA | apply pN | apply pD) | exact HB.out)) hb); clear HB; have HO676 := n0_; have HB := n1_; clear n0_ n1_; (try clear hb); (try clear hb2); (try clear hk); (try clear hi); (try clear ho0); obtain ⟨Ao10, co10, eo10⟩ := Kd.R_slice HO676.out; subst eo10) | ((with_reducible refine gC (f := 50) rfl ?_); refine goesL_ (some 22) rfl rfl Try.func50 (by kernel_rfl) rfl #[.slice Ao10 t674.length co10] rfl (by (try simp only [mA, mC, mN]); first | done | rfl | (simp only [lD, lT]; rfl)) ?_; (with_reducible refine (spec_SidesOfThree.calls k _ _ t674 t677 t678 _ ?side1 ?side2 A5.out).mono ?_); (case side1 => repeat (first | exact (rR HO676.out).2.2 | (with_reducible refine cA ?_ _) | (with_reducible refine cN ?_ _) | (with_reducible refine cD ?_))); (case side2 => exact (rR HO676.out).2.1); rintro e w11 ⟨v679, rfl, ho0, hb⟩; refine ⟨_, rfl, ?_⟩; have n0_ := aM (Kd.R_below (by (with_reducible repeat (first | apply rA | apply rN | apply rD)); exact HO676.out) hb); have n1_ := aM (Kd.R_lower ho0 (pZ (by repeat (first | (with_reducible first | exact HB.out | apply pA | apply pN | apply pD) | exact HB.out)))); have n2_ := aM (pT (by repeat (first | (with_reducible first | exact HB.out | apply pA | apply pN | apply pD) | exact HB.out)) hb); clear HO676; clear HB; have HO676 := n0_; have HO680 := n1_; have HB := n2_; clear n0_ n1_ n2_; (try clear hb); (try clear hb2); (try clear hk); (try clear hi); (try clear ho0)) | ((with_reducible refine gC (f := 27) rfl ?_); refine goesL_ (some 26) rfl rfl Try.func27 (by kernel_rfl) rfl #[.slice A0 l0.length c0] rfl (by (try simp only [mA, mC, mN]); first | done | rfl | (simp only [lD, lT]; rfl)) ?_; (with_reducible refine (laws_toPegS.calls k _ _ l0 t681 _ ?side1 ?side2 A6.out).mono ?_); (case side1 => repeat (first | exact (Kd.C_below HR0.out HB.out) | (with_reducible refine cA ?_ _) | (with_reducible refine cN ?_ _) | (with_reducible refine cD ?_))); (case side2 => exact HC0.out); rintro e w12 ⟨v682, rfl, ho0, hb⟩; refine ⟨_, rfl, ?_⟩; have n0_ := aM (Kd.R_elder' (by (with_reducible repeat (first | apply rA | apply rN | apply rD)); exact HO676.out) (Kd.R_base ho0) hb); have n1_ := aM (Kd.R_below (by (with_reducible repeat (first | apply rA | apply rN | apply rD)); exact HO680.out) hb); have n2_ := aM (Kd.R_lower (Kd.R_new' ho0 (Kd.R_lt (by (with_reducible repeat (first | apply rA | apply rN | apply rD)); exact HO676.out))) (pZ (by repeat (first | (with_reducible first | exact HB.out | apply pA | apply pN | apply pD) | exact HB.out)))); have n3_ := aM (pT (by repeat (first | (with_reducible first | exact HB.out | apply pA | apply pN | apply pD) | exact HB.out)) hb); clear HO676; clear HO680; clear HB; have HO676 := n0_; have HO680 := n1_; have HO683 := n2_; have HB := n3_; clear n0_ n1_ n2_ n3_; (try clear hb); (try clear hb2); (try clear hk); (try clear hi); (try clear ho0); obtain ⟨Ao13, co13, eo13⟩ := Kd.R_slice HO683.out; subst eo13) | ((with_reducible refine gC (f := 51) rfl ?_); refine goesL_ (some 29) rfl rfl Try.func51 (by kernel_rfl) rfl #[.slice Ao13 t681.length co13] rfl (by (try simp only [mA, mC, mN]); first | done | rfl | (simp only [lD, lT]; rfl)) ?_; (with_reducible refine (impl_SidesOfThree.calls k _ _ t681 t684 t685 _ ?side1 ?side2 A7.out).mono ?_); (case side1 => repeat (first | exact (rR HO683.out).2.2 | (with_reducible refine cA ?_ _) | (with_reducible refine cN ?_ _) | (with_reducible refine cD ?_))); (case side2 => exact (rR HO683.out).2.1); rintro e w14 ⟨v686, rfl, ho0, hb⟩; refine ⟨_, rfl, ?_⟩; have n0_ := aM (Kd.R_below (by (with_reducible repeat (first | apply rA | apply rN | apply rD)); exact HO676.out) hb); have n1_ := aM (Kd.R_elder' (by (with_reducible repeat (first | apply rA | apply rN | apply rD)); exact HO680.out) (Kd.R_base ho0) hb); have n2_ := aM (Kd.R_below (by (with_reducible repeat (first | apply rA | apply rN | apply rD)); exact HO683.out) hb); have n3_ := aM (Kd.R_lower (Kd.R_new' ho0 (Kd.R_lt (by (with_reducible repeat (first | apply rA | apply rN | apply rD)); exact HO680.out))) (pZ (by repeat (first | (with_reducible first | exact HB.out | apply pA | apply pN | apply pD) | exact HB.out)))); have n4_ := aM (pT (by repeat (first | (with_reducible first | exact HB.out | apply pA | apply pN | apply pD) | exact HB.out)) hb); clear HO676; clear HO680; clear HO683; clear HB; have HO676 := n0_; have HO680 := n1_; have HO683 := n2_; have HO687 := n3_; have HB := n4_; clear n0_ n1_ n2_ n3_ n4_; (try clear hb); (try clear hb2); (try clear hk); (try clear hi); (try clear ho0)))
  (try simp only [Act.put, sI, sZ, sS])
  go_cut [40] (fun v40 wc => ∃ (kq : Nat) (x40_7 : Bool), v40 = .bool x40_7 ∧ Aside0 (laws_FnExactSidesOfThree.j0 kq l0 t677 t678 t681 t684 t685 x40_7 = some r) ∧ Aside0 (kq ≤ k) ∧ Aside0 (Kd.R (Kd.int .i64) 3 wc w.heap.size (fun k_ => some k_ ≠ (v686 : Value).ownBlock) v679 t677) ∧ Aside0 (Kd.R kd_impl_Peg 34 wc w.heap.size (fun _ => True) (.slice Ao13 t681.length co13) t681) ∧ Aside0 (Kd.R (Kd.int .i64) 3 wc w.heap.size (fun k_ => some k_ ≠ (v679 : Value).ownBlock) v686 t684) ∧ Aside0 (Below w.heap.size w wc))
  case first =>
   have H := HC8.out
   clear HC8
   replace H := oB.mp H
   obtain ⟨t688, A150, H⟩ := H
   replace H : (if t688 = true then (laws_FnExactSidesOfThree.j0 k l0 t677 t678 t681 t684 t685 (t685 != t678)) else (laws_FnExactSidesOfThree.j0 k l0 t677 t678 t681 t684 t685 true)) = some r := H
   have A15 := aM A150
   clear A150
   by_cases c16 : t688 = true
   ·subst c16
    have H1 : (laws_FnExactSidesOfThree.j0 k l0 t677 t678 t681 t684 t685 (t685 != t678)) = some r := by rw [if_pos rfl] at H; exact H
    clear H
    have H := H1
    clear H1
    have H' := aM H
    clear H
    obtain ⟨Ao17, co17, eo17⟩ := Kd.R_slice HO687.out
    subst eo17
    obtain ⟨Ao18, co18, eo18⟩ := Kd.R_slice HO680.out
    subst eo18
    go_wp2_with (first | ((with_reducible refine gC (f := 47) rfl ?_); refine goesL_ (some 34) rfl rfl Try.func47 (by kernel_rfl) rfl #[.slice Ao17 t684.length co17, .slice Ao18 t677.length co18] rfl (by (try simp only [mA, mC, mN]); first | done | rfl | (simp only [lD, lT]; rfl)) ?_; (with_reducible refine (laws_eqIntS.calls k _ _ t684 _ _ t677 true _ ?side1 ?side2 ?side3 ?side4 A15.out).mono ?_); (case side1 => repeat (first | exact (rR HO687.out).2.2 | (with_reducible refine cA ?_ _) | (with_reducible refine cN ?_ _) | (with_reducible refine cD ?_))); (case side2 => exact (rR HO687.out).2.1); (case side3 => repeat (first | exact (rR HO680.out).2.2 | (with_reducible refine cA ?_ _) | (with_reducible refine cN ?_ _) | (with_reducible refine cD ?_))); (case side4 => exact (rR HO680.out).2.1); rintro e w' ⟨rfl, ⟨nd, rfl⟩⟩; refine ⟨_, rfl, ?_⟩))
    go_meet
    case rel => exact ⟨_, ((t685 != t678)), (by first | rfl | (simp; done) | (simp [*]; done)), H', ⟨by first | omega | exact Nat.le_refl _⟩, ⟨by (with_reducible repeat (first | apply rA | apply rN | apply rD)); exact Kd.R_mono HO680.out (fun _ hk => hk.2)⟩, ⟨by (with_reducible repeat (first | apply rA | apply rN | apply rD)); exact Kd.R_mono HO683.out (fun _ hk => trivial)⟩, ⟨by (with_reducible repeat (first | apply rA | apply rN | apply rD)); exact Kd.R_mono HO687.out (fun _ hk => hk.2)⟩, ⟨by repeat (first | (with_reducible first | exact HB.out | apply pA | apply pN | apply pD) | exact HB.out)⟩⟩
   ·replace c16 := Bool.eq_false_iff.mpr c16
    subst c16
    have H1 : (laws_FnExactSidesOfThree.j0 k l0 t677 t678 t681 t684 t685 true) = some r := by rw [if_neg (show ¬ (false = true) by decide)] at H; exact H
    clear H
    have H := H1
    clear H1
    have H' := aM H
    clear H
    obtain ⟨Ao19, co19, eo19⟩ := Kd.R_slice HO687.out
    subst eo19
    obtain ⟨Ao20, co20, eo20⟩ := Kd.R_slice HO680.out
    subst eo20
    go_wp2_with (first | ((with_reducible refine gC (f := 47) rfl ?_); refine goesL_ (some 34) rfl rfl Try.func47 (by kernel_rfl) rfl #[.slice Ao19 t684.length co19, .slice Ao20 t677.length co20] rfl (by (try simp only [mA, mC, mN]); first | done | rfl | (simp only [lD, lT]; rfl)) ?_; (with_reducible refine (laws_eqIntS.calls k _ _ t684 _ _ t677 false _ ?side1 ?side2 ?side3 ?side4 A15.out).mono ?_); (case side1 => repeat (first | exact (rR HO687.out).2.2 | (with_reducible refine cA ?_ _) | (with_reducible refine cN ?_ _) | (with_reducible refine cD ?_))); (case side2 => exact (rR HO687.out).2.1); (case side3 => repeat (first | exact (rR HO680.out).2.2 | (with_reducible refine cA ?_ _) | (with_reducible refine cN ?_ _) | (with_reducible refine cD ?_))); (case side4 => exact (rR HO680.out).2.1); rintro e w' ⟨rfl, ⟨nd, rfl⟩⟩; refine ⟨_, rfl, ?_⟩))
    go_meet
    case rel => exact ⟨_, (true), (by first | rfl | (simp; done) | (simp [*]; done)), H', ⟨by first | omega | exact Nat.le_refl _⟩, ⟨by (with_reducible repeat (first | apply rA | apply rN | apply rD)); exact Kd.R_mono HO680.out (fun _ hk => hk.2)⟩, ⟨by (with_reducible repeat (first | apply rA | apply rN | apply rD)); exact Kd.R_mono HO683.out (fun _ hk => trivial)⟩, ⟨by (with_reducible repeat (first | apply rA | apply rN | apply rD)); exact Kd.R_mono HO687.out (fun _ hk => hk.2)⟩, ⟨by repeat (first | (with_reducible first | exact HB.out | apply pA | apply pN | apply pD) | exact HB.out)⟩⟩
  case rest =>
   clear HC8
   try clear c1
   try clear c2
   try clear p2
   try clear c3
   try clear c3b0
   try clear c4
   try clear c5
   try clear c11
   try clear c16
   obtain ⟨kq, x40_7, rfl, HA, HJ7, HO_4, HO_6, HO_7, HB⟩ := hcut
   cases kq with
   | zero => exact absurd HA.out (by simp [laws_FnExactSidesOfThree.j0])
   | succ kj7 =>
    have H := HA.out
    clear HA
    simp only [laws_FnExactSidesOfThree.j0] at H
    by_cases c21 : x40_7 = true
    ·subst c21
     have H1 : (some false) = some r := by rw [if_pos rfl] at H; exact H
     clear H
     have H := H1
     clear H1
     obtain rfl := Option.some.inj H
     go_wp2
     go_ret
     exact ⟨by first | rfl | (simp [errW_none, errW_some] <;> rfl) | (simp [*, errW_none, errW_some] <;> rfl), by repeat (first | (with_reducible first | exact HB.out | apply pA | apply pN | apply pD) | exact HB.out)⟩
    ·replace c21 := Bool.eq_false_iff.mpr c21
     subst c21
     have H1 : ((laws_toPegS.f kj7 l0).bind fun t689 => ((laws_eqPegS.f kj7 t681 t689).bind fun t692 => (if t692 = true then ((laws_markPegS.f kj7 t681 1).bind fun bt693 => (if bt693.1 < 0 then (laws_FnExactSidesOfThree.j1 kj7 l0 t677 t678 t684 true) else ((laws_eqIntS.f kj7 t684 t677).bind fun t695 => (if t695 = true then (laws_FnExactSidesOfThree.j1 kj7 l0 t677 t678 t684 (t685 != t678)) else (laws_FnExactSidesOfThree.j1 kj7 l0 t677 t678 t684 true))))) else (some false)))) = some r := by rw [if_neg (show ¬ (false = true) by decide)] at H; exact H
     clear H
     have H := H1
     clear H1
     replace H := oB.mp H
     obtain ⟨t689, A220, H⟩ := H
     replace H : ((laws_eqPegS.f kj7 t681 t689).bind fun t692 => (if t692 = true then ((laws_markPegS.f kj7 t681 1).bind fun bt693 => (if bt693.1 < 0 then (laws_FnExactSidesOfThree.j1 kj7 l0 t677 t678 t684 true) else ((laws_eqIntS.f kj7 t684 t677).bind fun t695 => (if t695 = true then (laws_FnExactSidesOfThree.j1 kj7 l0 t677 t678 t684 (t685 != t678)) else (laws_FnExactSidesOfThree.j1 kj7 l0 t677 t678 t684 true))))) else (some false))) = some r := H
     have A22 := aM A220
     clear A220
     replace H := oB.mp H
     obtain ⟨t692, A230, H⟩ := H
     replace H : (if t692 = true then ((laws_markPegS.f kj7 t681 1).bind fun bt693 => (if bt693.1 < 0 then (laws_FnExactSidesOfThree.j1 kj7 l0 t677 t678 t684 true) else ((laws_eqIntS.f kj7 t684 t677).bind fun t695 => (if t695 = true then (laws_FnExactSidesOfThree.j1 kj7 l0 t677 t678 t684 (t685 != t678)) else (laws_FnExactSidesOfThree.j1 kj7 l0 t677 t678 t684 true))))) else (some false)) = some r := H
     have A23 := aM A230
     clear A230
     by_cases c24 : t692 = true
     ·subst c24
      have H1 : ((laws_markPegS.f kj7 t681 1).bind fun bt693 => (if bt693.1 < 0 then (laws_FnExactSidesOfThree.j1 kj7 l0 t677 t678 t684 true) else ((laws_eqIntS.f kj7 t684 t677).bind fun t695 => (if t695 = true then (laws_FnExactSidesOfThree.j1 kj7 l0 t677 t678 t684 (t685 != t678)) else (laws_FnExactSidesOfThree.j1 kj7 l0 t677 t678 t684 true))))) = some r := by rw [if_pos rfl] at H; exact H
      clear H
      have H := H1
      clear H1
      replace H := oB.mp H
      obtain ⟨⟨t693, t694⟩, A250, H⟩ := H
      replace H : (if t693 < 0 then (laws_FnExactSidesOfThree.j1 kj7 l0 t677 t678 t684 true) else ((laws_eqIntS.f kj7 t684 t677).bind fun t695 => (if t695 = true then (laws_FnExactSidesOfThree.j1 kj7 l0 t677 t678 t684 (t685 != t678)) else (laws_FnExactSidesOfThree.j1 kj7 l0 t677 t678 t684 true)))) = some r := H
      have A25 := aM A250
      clear A250
      have HC26 := aM H
      clear H
      go_upto_region 14 with (first | ((with_reducible refine gC (f := 27) rfl ?_); refine goesL_ (some 43) rfl rfl Try.func27 (by kernel_rfl) rfl #[.slice A0 l0.length c0] rfl (by (try simp only [mA, mC, mN]); first | done | rfl | (simp only [lD, lT]; rfl)) ?_; (with_reducible refine (laws_toPegS.calls kj7 _ _ l0 t689 _ ?side1 ?side2 A22.out).mono ?_); (case side1 => repeat (first | exact (Kd.C_below HR0.out HB.out) | (with_reducible refine cA ?_ _) | (with_reducible refine cN ?_ _) | (with_reducible refine cD ?_))); (case side2 => exact HC0.out); rintro e w27 ⟨v690, rfl, ho0, hb⟩; refine ⟨_, rfl, ?_⟩; have n0_ := aM (Kd.R_below (by (with_reducible repeat (first | apply rA | apply rN | apply rD)); exact HO_4.out) hb); have n1_ := aM (Kd.R_elder' (by (with_reducible repeat (first | apply rA | apply rN | apply rD)); exact HO_6.out) (Kd.R_base ho0) hb); have n2_ := aM (Kd.R_below (by (with_reducible repeat (first | apply rA | apply rN | apply rD)); exact HO_7.out) hb); have n3_ := aM (Kd.R_lower (Kd.R_new' ho0 (Kd.R_lt (by (with_reducible repeat (first | apply rA | apply rN | apply rD)); exact HO_6.out))) (pZ (by repeat (first | (with_reducible first | exact HB.out | apply pA | apply pN | apply pD) | exact HB.out)))); have n4_ := aM (pT (by repeat (first | (with_reducible first | exact HB.out | apply pA | apply pN | apply pD) | exact HB.out)) hb); clear HO_4; clear HO_6; clear HO_7; clear HB; have HO_4 := n0_; have HO_6 := n1_; have HO_7 := n2_; have HO691 := n3_; have HB := n4_; clear n0_ n1_ n2_ n3_ n4_; (try clear hb); (try clear hb2); (try clear hk); (try clear hi); (try clear ho0); obtain ⟨Ao28, co28, eo28⟩ := Kd.R_slice HO691.out; subst eo28) | ((with_reducible refine gC (f := 29) rfl ?_); refine goesL_ (some 44) rfl rfl Try.func29 (by kernel_rfl) rfl #[.slice Ao13 t681.length co13, .slice Ao28 t689.length co28] rfl (by (try simp only [mA, mC, mN]); first | done | rfl | (simp only [lD, lT]; rfl)) ?_; (with_reducible refine (laws_eqPegS.calls kj7 _ _ t681 _ _ t689 true _ ?side1 ?side2 ?side3 ?side4 A23.out).mono ?_); (case side1 => repeat (first | exact (rR HO_6.out).2.2 | (with_reducible refine cA ?_ _) | (with_reducible refine cN ?_ _) | (with_reducible refine cD ?_))); (case side2 => exact (rR HO_6.out).2.1); (case side3 => repeat (first | exact (rR HO691.out).2.2 | (with_reducible refine cA ?_ _) | (with_reducible refine cN ?_ _) | (with_reducible refine cD ?_))); (case side4 => exact (rR HO691.out).2.1); rintro e w29 ⟨rfl, hb⟩; refine ⟨_, rfl, ?_⟩; have n0_ := aM (Kd.R_below (by (with_reducible repeat (first | apply rA | apply rN | apply rD)); exact HO_4.out) hb); have n1_ := aM (Kd.R_below (by (with_reducible repeat (first | apply rA | apply rN | apply rD)); exact HO_6.out) hb); have n2_ := aM (Kd.R_below (by (with_reducible repeat (first | apply rA | apply rN | apply rD)); exact HO_7.out) hb); have n3_ := aM (Kd.R_below (by (with_reducible repeat (first | apply rA | apply rN | apply rD)); exact HO691.out) hb); have n4_ := aM (pT (by repeat (first | (with_reducible first | exact HB.out | apply pA | apply pN | apply pD) | exact HB.out)) hb); clear HO_4; clear HO_6; clear HO_7; clear HO691; clear HB; have HO_4 := n0_; have HO_6 := n1_; have HO_7 := n2_; have HO691 := n3_; have HB := n4_; clear n0_ n1_ n2_ n3_ n4_; (try clear hb); (try clear hb2); (try clear hk); (try clear hi)) | ((with_reducible refine gC (f := 35) rfl ?_); refine goesL_ (some 48) rfl rfl Try.func35 (by kernel_rfl) rfl #[.slice Ao13 t681.length co13, .int .i64 1] rfl (by (try simp only [mA, mC, mN]); first | done | rfl | (simp only [lD, lT]; rfl)) ?_; (with_reducible refine (laws_markPegS.calls kj7 (fun k_ => some k_ = (.slice Ao13 t681.length co13 : Value).ownBlock) (.slice Ao13 t681.length co13) t681 1 t693 t694 w _ ?side1 ?side2 A25.out).mono ?_); (case side1 => repeat (first | (with_reducible first | exact HB.out | apply pA | apply pN | apply pD) | exact HB.out)); (case side2 => exact Kd.R_tight rfl HO_6.out); rintro e w30 ⟨rfl, hy0, hb, hkp⟩; refine ⟨_, rfl, ?_⟩; have n0_ := aM (Kd.R_mono (ok' := fun k_ => some k_ ≠ (v686 : Value).ownBlock) (Kd.R_keptB ((Kd.R_apart' HO_4.out (Kd.R_typed HO_6.out) (by decide))) hkp (fun k_ hk_ hs_ => (hk_.2) hs_)) (fun k_ hk_ => hk_.1.1)); have n1_ := aM (Kd.R_reok rfl hy0 (fun k_ e_ => HO_6.out.1 k_ e_)); have n2_ := aM (Kd.R_mono (ok' := fun k_ => some k_ ≠ (v679 : Value).ownBlock) (Kd.R_keptB ((Kd.R_apart' HO_7.out (Kd.R_typed HO_6.out) (by decide))) hkp (fun k_ hk_ hs_ => (hk_.2) hs_)) (fun k_ hk_ => hk_.1.1)); have n3_ := aM (Kd.R_mono (ok' := fun k_ => some k_ ≠ (.slice Ao13 t681.length co13 : Value).ownBlock) (Kd.R_keptB (HO691.out) hkp (fun k_ hk_ hs_ => (hk_.2) hs_)) (fun k_ hk_ => hk_.1.2)); have n4_ := aM (hb); clear HO_4; clear HO_6; clear HO_7; clear HO691; clear HB; have HO_4 := n0_; have HO_6 := n1_; have HO_7 := n2_; have HO691 := n3_; have HB := n4_; clear n0_ n1_ n2_ n3_ n4_; (try clear hb); (try clear hkp); (try clear hy0)))
      (try simp only [Act.put, sI, sZ, sS])
      go_cut [61] (fun v61 wc => ∃ (kq : Nat) (x61_25 : Bool), v61 = .bool x61_25 ∧ Aside0 (laws_FnExactSidesOfThree.j1 kq l0 t677 t678 t684 x61_25 = some r) ∧ Aside0 (kq ≤ kj7) ∧ Aside0 (Kd.R (Kd.int .i64) 3 wc w.heap.size (fun k_ => some k_ ≠ (v686 : Value).ownBlock) v679 t677) ∧ Aside0 (Kd.R (Kd.int .i64) 3 wc w.heap.size (fun k_ => some k_ ≠ (v679 : Value).ownBlock) v686 t684) ∧ Aside0 (Below w.heap.size w wc))
      case first =>
       have H := HC26.out
       clear HC26
       by_cases c31 : t693 < 0
       ·rw [if_pos c31] at H
        have c31b0 : decide (t693 < 0) = true := dE c31
        clear c31
        (first | rw [c31b0] | (simp only [i64_w, i32_w]; rw [c31b0]) | skip)
        have H' := aM H
        clear H
        go_wp2
        go_meet
        case rel => exact ⟨_, (true), (by first | rfl | (simp; done) | (simp [*]; done)), H', ⟨by have := HJ7.out; first | omega | exact Nat.le_refl _⟩, ⟨by (with_reducible repeat (first | apply rA | apply rN | apply rD)); exact HO_4.out⟩, ⟨by (with_reducible repeat (first | apply rA | apply rN | apply rD)); exact HO_7.out⟩, ⟨by repeat (first | (with_reducible first | exact HB.out | apply pA | apply pN | apply pD) | exact HB.out)⟩⟩
       ·rw [if_neg c31] at H
        have c31b0 : decide (t693 < 0) = false := decide_eq_false c31
        clear c31
        (first | rw [c31b0] | (simp only [i64_w, i32_w]; rw [c31b0]) | skip)
        replace H := oB.mp H
        obtain ⟨t695, A320, H⟩ := H
        replace H : (if t695 = true then (laws_FnExactSidesOfThree.j1 kj7 l0 t677 t678 t684 (t685 != t678)) else (laws_FnExactSidesOfThree.j1 kj7 l0 t677 t678 t684 true)) = some r := H
        have A32 := aM A320
        clear A320
        by_cases c33 : t695 = true
        ·subst c33
         have H1 : (laws_FnExactSidesOfThree.j1 kj7 l0 t677 t678 t684 (t685 != t678)) = some r := by rw [if_pos rfl] at H; exact H
         clear H
         have H := H1
         clear H1
         have H' := aM H
         clear H
         obtain ⟨Ao34, co34, eo34⟩ := Kd.R_slice HO_7.out
         subst eo34
         obtain ⟨Ao35, co35, eo35⟩ := Kd.R_slice HO_4.out
         subst eo35
         go_wp2_with (first | (go_at_call 47; (with_reducible refine (laws_eqIntS.calls kj7 _ _ t684 _ _ t677 true _ ?side1 ?side2 ?side3 ?side4 A32.out).mono ?_); (case side1 => repeat (first | exact (rR HO_7.out).2.2 | (with_reducible refine cA ?_ _) | (with_reducible refine cN ?_ _) | (with_reducible refine cD ?_))); (case side2 => exact (rR HO_7.out).2.1); (case side3 => repeat (first | exact (rR HO_4.out).2.2 | (with_reducible refine cA ?_ _) | (with_reducible refine cN ?_ _) | (with_reducible refine cD ?_))); (case side4 => exact (rR HO_4.out).2.1); rintro e w' ⟨rfl, ⟨nd, rfl⟩⟩))
         go_meet
         case rel => exact ⟨_, ((t685 != t678)), (by first | rfl | (simp; done) | (simp [*]; done)), H', ⟨by have := HJ7.out; first | omega | exact Nat.le_refl _⟩, ⟨by (with_reducible repeat (first | apply rA | apply rN | apply rD)); exact HO_4.out⟩, ⟨by (with_reducible repeat (first | apply rA | apply rN | apply rD)); exact HO_7.out⟩, ⟨by repeat (first | (with_reducible first | exact HB.out | apply pA | apply pN | apply pD) | exact HB.out)⟩⟩
        ·replace c33 := Bool.eq_false_iff.mpr c33
         subst c33
         have H1 : (laws_FnExactSidesOfThree.j1 kj7 l0 t677 t678 t684 true) = some r := by rw [if_neg (show ¬ (false = true) by decide)] at H; exact H
         clear H
         have H := H1
         clear H1
         have H' := aM H
         clear H
         obtain ⟨Ao36, co36, eo36⟩ := Kd.R_slice HO_7.out
         subst eo36
         obtain ⟨Ao37, co37, eo37⟩ := Kd.R_slice HO_4.out
         subst eo37
         go_wp2_with (first | (go_at_call 47; (with_reducible refine (laws_eqIntS.calls kj7 _ _ t684 _ _ t677 false _ ?side1 ?side2 ?side3 ?side4 A32.out).mono ?_); (case side1 => repeat (first | exact (rR HO_7.out).2.2 | (with_reducible refine cA ?_ _) | (with_reducible refine cN ?_ _) | (with_reducible refine cD ?_))); (case side2 => exact (rR HO_7.out).2.1); (case side3 => repeat (first | exact (rR HO_4.out).2.2 | (with_reducible refine cA ?_ _) | (with_reducible refine cN ?_ _) | (with_reducible refine cD ?_))); (case side4 => exact (rR HO_4.out).2.1); rintro e w' ⟨rfl, ⟨nd, rfl⟩⟩))
         go_meet
         case rel => exact ⟨_, (true), (by first | rfl | (simp; done) | (simp [*]; done)), H', ⟨by have := HJ7.out; first | omega | exact Nat.le_refl _⟩, ⟨by (with_reducible repeat (first | apply rA | apply rN | apply rD)); exact HO_4.out⟩, ⟨by (with_reducible repeat (first | apply rA | apply rN | apply rD)); exact HO_7.out⟩, ⟨by repeat (first | (with_reducible first | exact HB.out | apply pA | apply pN | apply pD) | exact HB.out)⟩⟩
      case rest =>
       clear HC26
       try clear c1
       try clear c2
       try clear p2
       try clear c3
       try clear c3b0
       try clear c4
       try clear c5
       try clear c11
       try clear c16
       try clear c21
       try clear c24
       try clear c25
       try clear c27
       try clear c29
       try clear c31
       try clear c31b0
       try clear c33
       try clear c35
       try clear p2
       obtain ⟨kq, x61_25, rfl, HA, HJ25, HO_4, HO_7, HB⟩ := hcut
       cases kq with
       | zero => exact absurd HA.out (by simp [laws_FnExactSidesOfThree.j1])
       | succ kj25 =>
        have H := HA.out
        clear HA
        simp only [laws_FnExactSidesOfThree.j1] at H
        by_cases c38 : x61_25 = true
        ·subst c38
         have H1 : (some false) = some r := by rw [if_pos rfl] at H; exact H
         clear H
         have H := H1
         clear H1
         obtain rfl := Option.some.inj H
         go_wp2
         go_ret
         exact ⟨by first | rfl | (simp [errW_none, errW_some] <;> rfl) | (simp [*, errW_none, errW_some] <;> rfl), by repeat (first | (with_reducible first | exact HB.out | apply pA | apply pN | apply pD) | exact HB.out)⟩
        ·replace c38 := Bool.eq_false_iff.mpr c38
         subst c38
         have H1 : ((laws_markIntS.f kj25 t684 1).bind fun bt696 => ((laws_heldIntS.f kj25 bt696.2 1).bind fun t698 => (if t698 < 0 then (some false) else (if t698 = bt696.1 then ((laws_toPegS.f kj25 l0).bind fun t699 => ((impl_SidesOfThree.f kj25 t699).bind fun bt702 => ((laws_eqIntS.f kj25 bt702.1 t677).bind fun t706 => (if t706 = true then (laws_FnExactSidesOfThree.j2 kj25 bt696.2 bt696.1 (bt702.2 != t678)) else (laws_FnExactSidesOfThree.j2 kj25 bt696.2 bt696.1 true))))) else (some false))))) = some r := by rw [if_neg (show ¬ (false = true) by decide)] at H; exact H
         clear H
         have H := H1
         clear H1
         replace H := oB.mp H
         obtain ⟨⟨t696, t697⟩, A390, H⟩ := H
         replace H : ((laws_heldIntS.f kj25 t697 1).bind fun t698 => (if t698 < 0 then (some false) else (if t698 = t696 then ((laws_toPegS.f kj25 l0).bind fun t699 => ((impl_SidesOfThree.f kj25 t699).bind fun bt702 => ((laws_eqIntS.f kj25 bt702.1 t677).bind fun t706 => (if t706 = true then (laws_FnExactSidesOfThree.j2 kj25 t697 t696 (bt702.2 != t678)) else (laws_FnExactSidesOfThree.j2 kj25 t697 t696 true))))) else (some false)))) = some r := H
         have A39 := aM A390
         clear A390
         replace H := oB.mp H
         obtain ⟨t698, A400, H⟩ := H
         replace H : (if t698 < 0 then (some false) else (if t698 = t696 then ((laws_toPegS.f kj25 l0).bind fun t699 => ((impl_SidesOfThree.f kj25 t699).bind fun bt702 => ((laws_eqIntS.f kj25 bt702.1 t677).bind fun t706 => (if t706 = true then (laws_FnExactSidesOfThree.j2 kj25 t697 t696 (bt702.2 != t678)) else (laws_FnExactSidesOfThree.j2 kj25 t697 t696 true))))) else (some false))) = some r := H
         have A40 := aM A400
         clear A400
         by_cases c41 : t698 < 0
         ·rw [if_pos c41] at H
          have c41b0 : decide (t698 < 0) = true := dE c41
          clear c41
          obtain rfl := Option.some.inj H
          obtain ⟨Ao42, co42, eo42⟩ := Kd.R_slice HO_7.out
          subst eo42
          go_wp2_with (first | ((with_reducible refine gC (f := 48) rfl ?_); refine goesL_ (some 64) rfl rfl Try.func48 (by kernel_rfl) rfl #[.slice Ao42 t684.length co42, .int .i64 1] rfl (by (try simp only [mA, mC, mN]); first | done | rfl | (simp only [lD, lT]; rfl)) ?_; (with_reducible refine (laws_markIntS.calls kj25 (fun k_ => some k_ = (.slice Ao42 t684.length co42 : Value).ownBlock) (.slice Ao42 t684.length co42) t684 1 t696 t697 w _ ?side1 ?side2 A39.out).mono ?_); (case side1 => repeat (first | (with_reducible first | exact HB.out | apply pA | apply pN | apply pD) | exact HB.out)); (case side2 => exact Kd.R_tight rfl HO_7.out); rintro e w43 ⟨rfl, hy0, hb, hkp⟩; refine ⟨_, rfl, ?_⟩; have n0_ := aM (Kd.R_mono (ok' := fun k_ => some k_ ≠ (.slice Ao42 t684.length co42 : Value).ownBlock) (Kd.R_keptB (HO_4.out) hkp (fun k_ hk_ hs_ => (hk_) hs_)) (fun k_ hk_ => hk_.1)); have n1_ := aM (Kd.R_reok rfl hy0 (fun k_ e_ => HO_7.out.1 k_ e_)); have n2_ := aM (hb); clear HO_4; clear HO_7; clear HB; have HO_4 := n0_; have HO_7 := n1_; have HB := n2_; clear n0_ n1_ n2_; (try clear hb); (try clear hkp); (try clear hy0)) | ((with_reducible refine gC (f := 49) rfl ?_); refine goesL_ (some 67) rfl rfl Try.func49 (by kernel_rfl) rfl #[.slice Ao42 t697.length co42, .int .i64 1] rfl (by (try simp only [mA, mC, mN]); first | done | (rw [show t697.length = t684.length from (rR HO_7.out).1.symm] <;> rfl) | rfl | (simp only [lD, lT]; rfl)) ?_; (with_reducible refine (laws_heldIntS.calls kj25 _ _ t697 1 t698 _ ?side1 ?side2 A40.out).mono ?_); (case side1 => repeat (first | exact (rR HO_7.out).2.2 | (with_reducible refine cA ?_ _) | (with_reducible refine cN ?_ _) | (with_reducible refine cD ?_))); (case side2 => rw [show t697.length = t684.length from (rR HO_7.out).1.symm]; exact (rR HO_7.out).2.1); rintro e w' ⟨rfl, ⟨nd, rfl⟩⟩; refine ⟨_, rfl, ?_⟩))
          go_ret
          exact ⟨by first | rfl | (simp [errW_none, errW_some] <;> rfl) | (simp [*, errW_none, errW_some] <;> rfl), by repeat (first | (with_reducible first | exact HB.out | apply pA | apply pN | apply pD) | exact HB.out)⟩
         ·rw [if_neg c41] at H
          have c41b0 : decide (t698 < 0) = false := decide_eq_false c41
          clear c41
          by_cases c44 : t698 = t696
          ·rw [if_pos c44] at H
           have c44b0 : (t698 == t696) = true := beq_iff_eq.mpr c44
           have c44b1 : (t698 != t696) = false := bne_eq_false_iff_eq.mpr c44
           clear c44
           replace H := oB.mp H
           obtain ⟨t699, A450, H⟩ := H
           replace H : ((impl_SidesOfThree.f kj25 t699).bind fun bt702 => ((laws_eqIntS.f kj25 bt702.1 t677).bind fun t706 => (if t706 = true then (laws_FnExactSidesOfThree.j2 kj25 t697 t696 (bt702.2 != t678)) else (laws_FnExactSidesOfThree.j2 kj25 t697 t696 true)))) = some r := H
           have A45 := aM A450
           clear A450
           replace H := oB.mp H
           obtain ⟨⟨t702, t703⟩, A460, H⟩ := H
           replace H : ((laws_eqIntS.f kj25 t702 t677).bind fun t706 => (if t706 = true then (laws_FnExactSidesOfThree.j2 kj25 t697 t696 (t703 != t678)) else (laws_FnExactSidesOfThree.j2 kj25 t697 t696 true))) = some r := H
           have A46 := aM A460
           clear A460
           have HC47 := aM H
           clear H
           obtain ⟨Ao48, co48, eo48⟩ := Kd.R_slice HO_7.out
           subst eo48
           go_upto_region 25 with (first | ((with_reducible refine gC (f := 48) rfl ?_); refine goesL_ (some 64) rfl rfl Try.func48 (by kernel_rfl) rfl #[.slice Ao48 t684.length co48, .int .i64 1] rfl (by (try simp only [mA, mC, mN]); first | done | rfl | (simp only [lD, lT]; rfl)) ?_; (with_reducible refine (laws_markIntS.calls kj25 (fun k_ => some k_ = (.slice Ao48 t684.length co48 : Value).ownBlock) (.slice Ao48 t684.length co48) t684 1 t696 t697 w _ ?side1 ?side2 A39.out).mono ?_); (case side1 => repeat (first | (with_reducible first | exact HB.out | apply pA | apply pN | apply pD) | exact HB.out)); (case side2 => exact Kd.R_tight rfl HO_7.out); rintro e w49 ⟨rfl, hy0, hb, hkp⟩; refine ⟨_, rfl, ?_⟩; have n0_ := aM (Kd.R_mono (ok' := fun k_ => some k_ ≠ (.slice Ao48 t684.length co48 : Value).ownBlock) (Kd.R_keptB (HO_4.out) hkp (fun k_ hk_ hs_ => (hk_) hs_)) (fun k_ hk_ => hk_.1)); have n1_ := aM (Kd.R_reok rfl hy0 (fun k_ e_ => HO_7.out.1 k_ e_)); have n2_ := aM (hb); clear HO_4; clear HO_7; clear HB; have HO_4 := n0_; have HO_7 := n1_; have HB := n2_; clear n0_ n1_ n2_; (try clear hb); (try clear hkp); (try clear hy0)) | ((with_reducible refine gC (f := 49) rfl ?_); refine goesL_ (some 67) rfl rfl Try.func49 (by kernel_rfl) rfl #[.slice Ao48 t697.length co48, .int .i64 1] rfl (by (try simp only [mA, mC, mN]); first | done | (rw [show t697.length = t684.length from (rR HO_7.out).1.symm] <;> rfl) | rfl | (simp only [lD, lT]; rfl)) ?_; (with_reducible refine (laws_heldIntS.calls kj25 _ _ t697 1 t698 _ ?side1 ?side2 A40.out).mono ?_); (case side1 => repeat (first | exact (rR HO_7.out).2.2 | (with_reducible refine cA ?_ _) | (with_reducible refine cN ?_ _) | (with_reducible refine cD ?_))); (case side2 => rw [show t697.length = t684.length from (rR HO_7.out).1.symm]; exact (rR HO_7.out).2.1); rintro e w' ⟨rfl, ⟨nd, rfl⟩⟩; refine ⟨_, rfl, ?_⟩) | ((with_reducible refine gC (f := 27) rfl ?_); refine goesL_ (some 75) rfl rfl Try.func27 (by kernel_rfl) rfl #[.slice A0 l0.length c0] rfl (by (try simp only [mA, mC, mN]); first | done | rfl | (simp only [lD, lT]; rfl)) ?_; (with_reducible refine (laws_toPegS.calls kj25 _ _ l0 t699 _ ?side1 ?side2 A45.out).mono ?_); (case side1 => repeat (first | exact (Kd.C_below HR0.out (by repeat (first | (with_reducible first | exact HB.out | apply pA | apply pN | apply pD) | exact HB.out))) | (with_reducible refine cA ?_ _) | (with_reducible refine cN ?_ _) | (with_reducible refine cD ?_))); (case side2 => exact HC0.out); rintro e w50 ⟨v700, rfl, ho0, hb⟩; refine ⟨_, rfl, ?_⟩; have n0_ := aM (Kd.R_below (by (with_reducible repeat (first | apply rA | apply rN | apply rD)); exact HO_4.out) hb); have n1_ := aM (Kd.R_below (by (with_reducible repeat (first | apply rA | apply rN | apply rD)); exact HO_7.out) hb); have n2_ := aM (Kd.R_lower ho0 (pZ (by repeat (first | (with_reducible first | exact HB.out | apply pA | apply pN | apply pD) | exact HB.out)))); have n3_ := aM (pT (by repeat (first | (with_reducible first | exact HB.out | apply pA | apply pN | apply pD) | exact HB.out)) hb); clear HO_4; clear HO_7; clear HB; have HO_4 := n0_; have HO_7 := n1_; have HO701 := n2_; have HB := n3_; clear n0_ n1_ n2_ n3_; (try clear hb); (try clear hb2); (try clear hk); (try clear hi); (try clear ho0); obtain ⟨Ao51, co51, eo51⟩ := Kd.R_slice HO701.out; subst eo51) | ((with_reducible refine gC (f := 51) rfl ?_); refine goesL_ (some 76) rfl rfl Try.func51 (by kernel_rfl) rfl #[.slice Ao51 t699.length co51] rfl (by (try simp only [mA, mC, mN]); first | done | rfl | (simp only [lD, lT]; rfl)) ?_; (with_reducible refine (impl_SidesOfThree.calls kj25 _ _ t699 t702 t703 _ ?side1 ?side2 A46.out).mono ?_); (case side1 => repeat (first | exact (rR HO701.out).2.2 | (with_reducible refine cA ?_ _) | (with_reducible refine cN ?_ _) | (with_reducible refine cD ?_))); (case side2 => exact (rR HO701.out).2.1); rintro e w52 ⟨v704, rfl, ho0, hb⟩; refine ⟨_, rfl, ?_⟩; have n0_ := aM (Kd.R_elder' (by (with_reducible repeat (first | apply rA | apply rN | apply rD)); exact HO_4.out) (Kd.R_base ho0) hb); have n1_ := aM (Kd.R_elder' (by (with_reducible repeat (first | apply rA | apply rN | apply rD)); exact HO_7.out) (Kd.R_base ho0) hb); have n2_ := aM (Kd.R_below (by (with_reducible repeat (first | apply rA | apply rN | apply rD)); exact HO701.out) hb); have n3_ := aM (Kd.R_lower (Kd.R_new' (Kd.R_new' ho0 (Kd.R_lt (by (with_reducible repeat (first | apply rA | apply rN | apply rD)); exact HO_4.out))) (Kd.R_lt (by (with_reducible repeat (first | apply rA | apply rN | apply rD)); exact HO_7.out))) (pZ (by repeat (first | (with_reducible first | exact HB.out | apply pA | apply pN | apply pD) | exact HB.out)))); have n4_ := aM (pT (by repeat (first | (with_reducible first | exact HB.out | apply pA | apply pN | apply pD) | exact HB.out)) hb); clear HO_4; clear HO_7; clear HO701; clear HB; have HO_4 := n0_; have HO_7 := n1_; have HO701 := n2_; have HO705 := n3_; have HB := n4_; clear n0_ n1_ n2_ n3_ n4_; (try clear hb); (try clear hb2); (try clear hk); (try clear hi); (try clear ho0)))
           (try simp only [Act.put, sI, sZ, sS])
           go_cut [87] (fun v87 wc => ∃ (kq : Nat) (x87_46 : Bool), v87 = .bool x87_46 ∧ Aside0 (laws_FnExactSidesOfThree.j2 kq t697 t696 x87_46 = some r) ∧ Aside0 (kq ≤ kj25) ∧ Aside0 (Kd.R (Kd.int .i64) 3 wc w.heap.size (fun _ => True) (.slice Ao48 t684.length co48) t697) ∧ Aside0 (Below w.heap.size w wc))
           case first =>
            have H := HC47.out
            clear HC47
            replace H := oB.mp H
            obtain ⟨t706, A530, H⟩ := H
            replace H : (if t706 = true then (laws_FnExactSidesOfThree.j2 kj25 t697 t696 (t703 != t678)) else (laws_FnExactSidesOfThree.j2 kj25 t697 t696 true)) = some r := H
            have A53 := aM A530
            clear A530
            by_cases c54 : t706 = true
            ·subst c54
             have H1 : (laws_FnExactSidesOfThree.j2 kj25 t697 t696 (t703 != t678)) = some r := by rw [if_pos rfl] at H; exact H
             clear H
             have H := H1
             clear H1
             have H' := aM H
             clear H
             obtain ⟨Ao55, co55, eo55⟩ := Kd.R_slice HO705.out
             subst eo55
             obtain ⟨Ao56, co56, eo56⟩ := Kd.R_slice HO_4.out
             subst eo56
             go_wp2_with (first | ((with_reducible refine gC (f := 47) rfl ?_); refine goesL_ (some 81) rfl rfl Try.func47 (by kernel_rfl) rfl #[.slice Ao55 t702.length co55, .slice Ao56 t677.length co56] rfl (by (try simp only [mA, mC, mN]); first | done | rfl | (simp only [lD, lT]; rfl)) ?_; (with_reducible refine (laws_eqIntS.calls kj25 _ _ t702 _ _ t677 true _ ?side1 ?side2 ?side3 ?side4 A53.out).mono ?_); (case side1 => repeat (first | exact (rR HO705.out).2.2 | (with_reducible refine cA ?_ _) | (with_reducible refine cN ?_ _) | (with_reducible refine cD ?_))); (case side2 => exact (rR HO705.out).2.1); (case side3 => repeat (first | exact (rR HO_4.out).2.2 | (with_reducible refine cA ?_ _) | (with_reducible refine cN ?_ _) | (with_reducible refine cD ?_))); (case side4 => exact (rR HO_4.out).2.1); rintro e w' ⟨rfl, ⟨nd, rfl⟩⟩; refine ⟨_, rfl, ?_⟩))
             go_meet
             case rel => exact ⟨_, ((t703 != t678)), (by first | rfl | (simp; done) | (simp [*]; done)), H', ⟨by have := HJ7.out; have := HJ25.out; first | omega | exact Nat.le_refl _⟩, ⟨by (with_reducible repeat (first | apply rA | apply rN | apply rD)); exact Kd.R_mono HO_7.out (fun _ hk => trivial)⟩, ⟨by repeat (first | (with_reducible first | exact HB.out | apply pA | apply pN | apply pD) | exact HB.out)⟩⟩
            ·replace c54 := Bool.eq_false_iff.mpr c54
             subst c54
             have H1 : (laws_FnExactSidesOfThree.j2 kj25 t697 t696 true) = some r := by rw [if_neg (show ¬ (false = true) by decide)] at H; exact H
             clear H
             have H := H1
             clear H1
             have H' := aM H
             clear H
             obtain ⟨Ao57, co57, eo57⟩ := Kd.R_slice HO705.out
             subst eo57
             obtain ⟨Ao58, co58, eo58⟩ := Kd.R_slice HO_4.out
             subst eo58
             go_wp2_with (first | ((with_reducible refine gC (f := 47) rfl ?_); refine goesL_ (some 81) rfl rfl Try.func47 (by kernel_rfl) rfl #[.slice Ao57 t702.length co57, .slice Ao58 t677.length co58] rfl (by (try simp only [mA, mC, mN]); first | done | rfl | (simp only [lD, lT]; rfl)) ?_; (with_reducible refine (laws_eqIntS.calls kj25 _ _ t702 _ _ t677 false _ ?side1 ?side2 ?side3 ?side4 A53.out).mono ?_); (case side1 => repeat (first | exact (rR HO705.out).2.2 | (with_reducible refine cA ?_ _) | (with_reducible refine cN ?_ _) | (with_reducible refine cD ?_))); (case side2 => exact (rR HO705.out).2.1); (case side3 => repeat (first | exact (rR HO_4.out).2.2 | (with_reducible refine cA ?_ _) | (with_reducible refine cN ?_ _) | (with_reducible refine cD ?_))); (case side4 => exact (rR HO_4.out).2.1); rintro e w' ⟨rfl, ⟨nd, rfl⟩⟩; refine ⟨_, rfl, ?_⟩))
             go_meet
             case rel => exact ⟨_, (true), (by first | rfl | (simp; done) | (simp [*]; done)), H', ⟨by have := HJ7.out; have := HJ25.out; first | omega | exact Nat.le_refl _⟩, ⟨by (with_reducible repeat (first | apply rA | apply rN | apply rD)); exact Kd.R_mono HO_7.out (fun _ hk => trivial)⟩, ⟨by repeat (first | (with_reducible first | exact HB.out | apply pA | apply pN | apply pD) | exact HB.out)⟩⟩
           case rest =>
            clear HC47
            try clear c1
            try clear c2
            try clear p2
            try clear c3
            try clear c3b0
            try clear c4
            try clear c5
            try clear c11
            try clear c16
            try clear c21
            try clear c24
            try clear c25
            try clear c27
            try clear c29
            try clear c31
            try clear c31b0
            try clear c33
            try clear c35
            try clear c38
            try clear c41
            try clear c41b0
            try clear c44
            try clear c44b0
            try clear c44b1
            try clear c47
            try clear c48
            try clear c49
            try clear c50
            try clear c51
            try clear c54
            try clear p2
            obtain ⟨kq, x87_46, rfl, HA, HJ46, HO_7, HB⟩ := hcut
            have hl7_46 := (rR HO_7.out).1
            rw [hl7_46] at HO_7
            (try simp only [hl7_46])
            cases kq with
            | zero => exact absurd HA.out (by simp [laws_FnExactSidesOfThree.j2])
            | succ kj46 =>
             have H := HA.out
             clear HA
             simp only [laws_FnExactSidesOfThree.j2] at H
             by_cases c59 : x87_46 = true
             ·subst c59
              have H1 : (some false) = some r := by rw [if_pos rfl] at H; exact H
              clear H
              have H := H1
              clear H1
              obtain rfl := Option.some.inj H
              go_wp2
              go_ret
              exact ⟨by first | rfl | (simp [errW_none, errW_some] <;> rfl) | (simp [*, errW_none, errW_some] <;> rfl), by repeat (first | (with_reducible first | exact HB.out | apply pA | apply pN | apply pD) | exact HB.out)⟩
             ·replace c59 := Bool.eq_false_iff.mpr c59
              subst c59
              have H1 : ((laws_heldIntS.f kj46 t697 1).bind fun t707 => (if t707 < 0 then (some false) else (if t707 = t696 then (some true) else (some false)))) = some r := by rw [if_neg (show ¬ (false = true) by decide)] at H; exact H
              clear H
              have H := H1
              clear H1
              replace H := oB.mp H
              obtain ⟨t707, A600, H⟩ := H
              replace H : (if t707 < 0 then (some false) else (if t707 = t696 then (some true) else (some false))) = some r := H
              have A60 := aM A600
              clear A600
              by_cases c61 : t707 < 0
              ·rw [if_pos c61] at H
               have c61b0 : decide (t707 < 0) = true := dE c61
               clear c61
               obtain rfl := Option.some.inj H
               go_wp2_with (first | ((with_reducible refine gC (f := 49) rfl ?_); refine goesL_ (some 90) rfl rfl Try.func49 (by kernel_rfl) rfl #[.slice Ao48 t697.length co48, .int .i64 1] rfl (by (try simp only [mA, mC, mN]); first | done | rfl | (simp only [lD, lT]; rfl)) ?_; (with_reducible refine (laws_heldIntS.calls kj46 _ _ t697 1 t707 _ ?side1 ?side2 A60.out).mono ?_); (case side1 => repeat (first | exact (rR HO_7.out).2.2 | (with_reducible refine cA ?_ _) | (with_reducible refine cN ?_ _) | (with_reducible refine cD ?_))); (case side2 => exact (rR HO_7.out).2.1); rintro e w' ⟨rfl, ⟨nd, rfl⟩⟩; refine ⟨_, rfl, ?_⟩))
               go_ret
               exact ⟨by first | rfl | (simp [errW_none, errW_some] <;> rfl) | (simp [*, errW_none, errW_some] <;> rfl), by repeat (first | (with_reducible first | exact HB.out | apply pA | apply pN | apply pD) | exact HB.out)⟩
              ·rw [if_neg c61] at H
               have c61b0 : decide (t707 < 0) = false := decide_eq_false c61
               clear c61
               by_cases c62 : t707 = t696
               ·rw [if_pos c62] at H
                have c62b0 : (t707 == t696) = true := beq_iff_eq.mpr c62
                have c62b1 : (t707 != t696) = false := bne_eq_false_iff_eq.mpr c62
                clear c62
                obtain rfl := Option.some.inj H
                go_wp2_with (first | ((with_reducible refine gC (f := 49) rfl ?_); refine goesL_ (some 90) rfl rfl Try.func49 (by kernel_rfl) rfl #[.slice Ao48 t697.length co48, .int .i64 1] rfl (by (try simp only [mA, mC, mN]); first | done | rfl | (simp only [lD, lT]; rfl)) ?_; (with_reducible refine (laws_heldIntS.calls kj46 _ _ t697 1 t707 _ ?side1 ?side2 A60.out).mono ?_); (case side1 => repeat (first | exact (rR HO_7.out).2.2 | (with_reducible refine cA ?_ _) | (with_reducible refine cN ?_ _) | (with_reducible refine cD ?_))); (case side2 => exact (rR HO_7.out).2.1); rintro e w' ⟨rfl, ⟨nd, rfl⟩⟩; refine ⟨_, rfl, ?_⟩))
                go_ret
                exact ⟨by first | rfl | (simp [errW_none, errW_some] <;> rfl) | (simp [*, errW_none, errW_some] <;> rfl), by repeat (first | (with_reducible first | exact HB.out | apply pA | apply pN | apply pD) | exact HB.out)⟩
               ·rw [if_neg c62] at H
                have c62b0 : (t707 == t696) = false := beq_eq_false_iff_ne.mpr c62
                have c62b1 : (t707 != t696) = true := bne_iff_ne.mpr c62
                obtain rfl := Option.some.inj H
                go_wp2_with (first | ((with_reducible refine gC (f := 49) rfl ?_); refine goesL_ (some 90) rfl rfl Try.func49 (by kernel_rfl) rfl #[.slice Ao48 t697.length co48, .int .i64 1] rfl (by (try simp only [mA, mC, mN]); first | done | rfl | (simp only [lD, lT]; rfl)) ?_; (with_reducible refine (laws_heldIntS.calls kj46 _ _ t697 1 t707 _ ?side1 ?side2 A60.out).mono ?_); (case side1 => repeat (first | exact (rR HO_7.out).2.2 | (with_reducible refine cA ?_ _) | (with_reducible refine cN ?_ _) | (with_reducible refine cD ?_))); (case side2 => exact (rR HO_7.out).2.1); rintro e w' ⟨rfl, ⟨nd, rfl⟩⟩; refine ⟨_, rfl, ?_⟩))
                go_ret
                exact ⟨by first | rfl | (simp [errW_none, errW_some] <;> rfl) | (simp [*, errW_none, errW_some] <;> rfl), by repeat (first | (with_reducible first | exact HB.out | apply pA | apply pN | apply pD) | exact HB.out)⟩
          ·rw [if_neg c44] at H
           have c44b0 : (t698 == t696) = false := beq_eq_false_iff_ne.mpr c44
           have c44b1 : (t698 != t696) = true := bne_iff_ne.mpr c44
           obtain rfl := Option.some.inj H
           obtain ⟨Ao63, co63, eo63⟩ := Kd.R_slice HO_7.out
           subst eo63
           go_wp2_with (first | ((with_reducible refine gC (f := 48) rfl ?_); refine goesL_ (some 64) rfl rfl Try.func48 (by kernel_rfl) rfl #[.slice Ao63 t684.length co63, .int .i64 1] rfl (by (try simp only [mA, mC, mN]); first | done | rfl | (simp only [lD, lT]; rfl)) ?_; (with_reducible refine (laws_markIntS.calls kj25 (fun k_ => some k_ = (.slice Ao63 t684.length co63 : Value).ownBlock) (.slice Ao63 t684.length co63) t684 1 t696 t697 w _ ?side1 ?side2 A39.out).mono ?_); (case side1 => repeat (first | (with_reducible first | exact HB.out | apply pA | apply pN | apply pD) | exact HB.out)); (case side2 => exact Kd.R_tight rfl HO_7.out); rintro e w64 ⟨rfl, hy0, hb, hkp⟩; refine ⟨_, rfl, ?_⟩; have n0_ := aM (Kd.R_mono (ok' := fun k_ => some k_ ≠ (.slice Ao63 t684.length co63 : Value).ownBlock) (Kd.R_keptB (HO_4.out) hkp (fun k_ hk_ hs_ => (hk_) hs_)) (fun k_ hk_ => hk_.1)); have n1_ := aM (Kd.R_reok rfl hy0 (fun k_ e_ => HO_7.out.1 k_ e_)); have n2_ := aM (hb); clear HO_4; clear HO_7; clear HB; have HO_4 := n0_; have HO_7 := n1_; have HB := n2_; clear n0_ n1_ n2_; (try clear hb); (try clear hkp); (try clear hy0)) | ((with_reducible refine gC (f := 49) rfl ?_); refine goesL_ (some 67) rfl rfl Try.func49 (by kernel_rfl) rfl #[.slice Ao63 t697.length co63, .int .i64 1] rfl (by (try simp only [mA, mC, mN]); first | done | (rw [show t697.length = t684.length from (rR HO_7.out).1.symm] <;> rfl) | rfl | (simp only [lD, lT]; rfl)) ?_; (with_reducible refine (laws_heldIntS.calls kj25 _ _ t697 1 t698 _ ?side1 ?side2 A40.out).mono ?_); (case side1 => repeat (first | exact (rR HO_7.out).2.2 | (with_reducible refine cA ?_ _) | (with_reducible refine cN ?_ _) | (with_reducible refine cD ?_))); (case side2 => rw [show t697.length = t684.length from (rR HO_7.out).1.symm]; exact (rR HO_7.out).2.1); rintro e w' ⟨rfl, ⟨nd, rfl⟩⟩; refine ⟨_, rfl, ?_⟩))
           go_ret
           exact ⟨by first | rfl | (simp [errW_none, errW_some] <;> rfl) | (simp [*, errW_none, errW_some] <;> rfl), by repeat (first | (with_reducible first | exact HB.out | apply pA | apply pN | apply pD) | exact HB.out)⟩
     ·replace c24 := Bool.eq_false_iff.mpr c24
      subst c24
      have H1 : (some false) = some r := by rw [if_neg (show ¬ (false = true) by decide)] at H; exact H
      clear H
      have H := H1
      clear H1
      obtain rfl := Option.some.inj H
      go_wp2_with (first | ((with_reducible refine gC (f := 27) rfl ?_); refine goesL_ (some 43) rfl rfl Try.func27 (by kernel_rfl) rfl #[.slice A0 l0.length c0] rfl (by (try simp only [mA, mC, mN]); first | done | rfl | (simp only [lD, lT]; rfl)) ?_; (with_reducible refine (laws_toPegS.calls kj7 _ _ l0 t689 _ ?side1 ?side2 A22.out).mono ?_); (case side1 => repeat (first | exact (Kd.C_below HR0.out HB.out) | (with_reducible refine cA ?_ _) | (with_reducible refine cN ?_ _) | (with_reducible refine cD ?_))); (case side2 => exact HC0.out); rintro e w65 ⟨v690, rfl, ho0, hb⟩; refine ⟨_, rfl, ?_⟩; have n0_ := aM (Kd.R_below (by (with_reducible repeat (first | apply rA | apply rN | apply rD)); exact HO_4.out) hb); have n1_ := aM (Kd.R_elder' (by (with_reducible repeat (first | apply rA | apply rN | apply rD)); exact HO_6.out) (Kd.R_base ho0) hb); have n2_ := aM (Kd.R_below (by (with_reducible repeat (first | apply rA | apply rN | apply rD)); exact HO_7.out) hb); have n3_ := aM (Kd.R_lower (Kd.R_new' ho0 (Kd.R_lt (by (with_reducible repeat (first | apply rA | apply rN | apply rD)); exact HO_6.out))) (pZ (by repeat (first | (with_reducible first | exact HB.out | apply pA | apply pN | apply pD) | exact HB.out)))); have n4_ := aM (pT (by repeat (first | (with_reducible first | exact HB.out | apply pA | apply pN | apply pD) | exact HB.out)) hb); clear HO_4; clear HO_6; clear HO_7; clear HB; have HO_4 := n0_; have HO_6 := n1_; have HO_7 := n2_; have HO691 := n3_; have HB := n4_; clear n0_ n1_ n2_ n3_ n4_; (try clear hb); (try clear hb2); (try clear hk); (try clear hi); (try clear ho0); obtain ⟨Ao66, co66, eo66⟩ := Kd.R_slice HO691.out; subst eo66) | ((with_reducible refine gC (f := 29) rfl ?_); refine goesL_ (some 44) rfl rfl Try.func29 (by kernel_rfl) rfl #[.slice Ao13 t681.length co13, .slice Ao66 t689.length co66] rfl (by (try simp only [mA, mC, mN]); first | done | rfl | (simp only [lD, lT]; rfl)) ?_; (with_reducible refine (laws_eqPegS.calls kj7 _ _ t681 _ _ t689 false _ ?side1 ?side2 ?side3 ?side4 A23.out).mono ?_); (case side1 => repeat (first | exact (rR HO_6.out).2.2 | (with_reducible refine cA ?_ _) | (with_reducible refine cN ?_ _) | (with_reducible refine cD ?_))); (case side2 => exact (rR HO_6.out).2.1); (case side3 => repeat (first | exact (rR HO691.out).2.2 | (with_reducible refine cA ?_ _) | (with_reducible refine cN ?_ _) | (with_reducible refine cD ?_))); (case side4 => exact (rR HO691.out).2.1); rintro e w67 ⟨rfl, hb⟩; refine ⟨_, rfl, ?_⟩; have n0_ := aM (Kd.R_below (by (with_reducible repeat (first | apply rA | apply rN | apply rD)); exact HO_4.out) hb); have n1_ := aM (Kd.R_below (by (with_reducible repeat (first | apply rA | apply rN | apply rD)); exact HO_6.out) hb); have n2_ := aM (Kd.R_below (by (with_reducible repeat (first | apply rA | apply rN | apply rD)); exact HO_7.out) hb); have n3_ := aM (Kd.R_below (by (with_reducible repeat (first | apply rA | apply rN | apply rD)); exact HO691.out) hb); have n4_ := aM (pT (by repeat (first | (with_reducible first | exact HB.out | apply pA | apply pN | apply pD) | exact HB.out)) hb); clear HO_4; clear HO_6; clear HO_7; clear HO691; clear HB; have HO_4 := n0_; have HO_6 := n1_; have HO_7 := n2_; have HO691 := n3_; have HB := n4_; clear n0_ n1_ n2_ n3_ n4_; (try clear hb); (try clear hb2); (try clear hk); (try clear hi)))
      go_ret
      exact ⟨by first | rfl | (simp [errW_none, errW_some] <;> rfl) | (simp [*, errW_none, errW_some] <;> rfl), by repeat (first | (with_reducible first | exact HB.out | apply pA | apply pN | apply pD) | exact HB.out)⟩

def laws_FnExactSidesOfThree.Pure : Prop := ∀ (l0 : List (S_laws_Peg)), OkL (fun y : S_laws_Peg => (okInt .i64) y.f0 ∧ (okInt .i64) y.f1) l0 → ∃ k, laws_FnExactSidesOfThree.f k l0 = some true

end Go.Proofs.Ytiacfkilmknldaa.X
