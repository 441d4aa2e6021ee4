-- thin
-- short
import Derived.Test.YtiacfkilmknldaaXA
import Derived.Test.YtiacfkilmknldaaX0
import Derived.Test.YtiacfkilmknldaaX2
import Derived.Test.YtiacfkilmknldaaX7
import Derived.Test.YtiacfkilmknldaaX13
import Derived.Test.YtiacfkilmknldaaX23
import Derived.Test.YtiacfkilmknldaaX27
namespace Go.Proofs.Ytiacfkilmknldaa.X
open Go.RowKit Go.Proofs.Ytiacfkilmknldaa.XW Go.Proofs.YtiacfkilmknldaaW.PrintWords Go.Proofs.YtiacfkilmknldaaW.PrintLast Go.Proofs.YtiacfkilmknldaaW.PrintMore
attribute [local go_sem] max2_int min2_int max_two min_two max_three min_three max_four min_four   -- for this text's walks alone
set_option linter.unusedVariables false
set_option linter.unusedSimpArgs false

mutual
def laws_FnExactMirrorPolygon.j0 : Nat → List (S_laws_Peg) → List (S_impl_Peg) → Bool → List (S_impl_Peg) → List (S_impl_Peg) → Bool → Bool → Option (Bool)
 | 0, _, _, _, _, _, _, _ => none
 | k + 1, x0, x4, x5, x6, x7, x8, x40 => if x40 = true then (some false) else ((laws_toPegS.f k x0).bind fun t471 => ((laws_eqPegS.f k x6 t471).bind fun t474 => (if t474 = true then ((laws_markPegS.f k x6 1).bind fun bt475 => (if bt475.1 < 0 then (laws_FnExactMirrorPolygon.j1 k x0 x4 x5 x7 true) else ((laws_eqPegS.f k x7 x4).bind fun t477 => (if t477 = true then (laws_FnExactMirrorPolygon.j1 k x0 x4 x5 x7 (x8 != x5)) else (laws_FnExactMirrorPolygon.j1 k x0 x4 x5 x7 true))))) else (some false))))
def laws_FnExactMirrorPolygon.j1 : Nat → List (S_laws_Peg) → List (S_impl_Peg) → Bool → List (S_impl_Peg) → Bool → Option (Bool)
 | 0, _, _, _, _, _ => none
 | k + 1, x0, x4, x5, x7, x61 => if x61 = true then (some false) else ((laws_markPegS.f k x7 1).bind fun bt478 => ((laws_heldPegS.f k bt478.2 1).bind fun t480 => (if t480 < 0 then (some false) else (if t480 = bt478.1 then ((laws_toPegS.f k x0).bind fun t481 => ((impl_MirrorPolygon.f k t481).bind fun bt484 => ((laws_eqPegS.f k bt484.1 x4).bind fun t488 => (if t488 = true then (laws_FnExactMirrorPolygon.j2 k bt478.2 bt478.1 (bt484.2 != x5)) else (laws_FnExactMirrorPolygon.j2 k bt478.2 bt478.1 true))))) else (some false)))))
def laws_FnExactMirrorPolygon.j2 : Nat → List (S_impl_Peg) → Int → Bool → Option (Bool)
 | 0, _, _, _ => none
 | k + 1, x7, x10, x87 => if x87 = true then (some false) else ((laws_heldPegS.f k x7 1).bind fun t489 => (if t489 < 0 then (some false) else (if t489 = x10 then (some true) else (some false))))
end
def laws_FnExactMirrorPolygon.f (k : Nat) (l0 : List (S_laws_Peg)) : Option (Bool) := (laws_szPegS.f l0 1048576).bind fun t455 => (if t455 < 0 then (some true) else ((laws_toPegS.f k l0).bind fun t456 => ((spec_MirrorPolygon.f k t456).bind fun bt459 => ((laws_toPegS.f k l0).bind fun t463 => ((impl_MirrorPolygon.f k t463).bind fun bt466 => ((laws_eqPegS.f k bt466.1 bt459.1).bind fun t470 => (if t470 = true then (laws_FnExactMirrorPolygon.j0 k l0 bt459.1 bt459.2 t463 bt466.1 bt466.2 (bt466.2 != bt459.2)) else (laws_FnExactMirrorPolygon.j0 k l0 bt459.1 bt459.2 t463 bt466.1 bt466.2 true))))))))
theorem laws_FnExactMirrorPolygon.mono_l : ∀ k, (∀ y0 y1 y2 y3 y4 y5 y6, LeO (laws_FnExactMirrorPolygon.j0 k y0 y1 y2 y3 y4 y5 y6) (laws_FnExactMirrorPolygon.j0 (k + 1) y0 y1 y2 y3 y4 y5 y6)) ∧ (∀ y0 y1 y2 y3 y4, LeO (laws_FnExactMirrorPolygon.j1 k y0 y1 y2 y3 y4) (laws_FnExactMirrorPolygon.j1 (k + 1) y0 y1 y2 y3 y4)) ∧ (∀ y0 y1 y2, LeO (laws_FnExactMirrorPolygon.j2 k y0 y1 y2) (laws_FnExactMirrorPolygon.j2 (k + 1) y0 y1 y2))
 | 0 => ⟨fun _ _ _ _ _ _ _ r h => by simp [laws_FnExactMirrorPolygon.j0] at h, fun _ _ _ _ _ r h => by simp [laws_FnExactMirrorPolygon.j1] at h, fun _ _ _ r h => by simp [laws_FnExactMirrorPolygon.j2] at h⟩
 | k + 1 => by
  obtain ⟨ih0, ih1, ih2⟩ := laws_FnExactMirrorPolygon.mono_l k
  refine ⟨?_, ?_, ?_⟩
  ·intro y0 y1 y2 y3 y4 y5 y6
   unfold laws_FnExactMirrorPolygon.j0
   repeat' first
   | (with_reducible exact ih0 _ _ _ _ _ _ _)
   | (with_reducible exact ih1 _ _ _ _ _)
   | (with_reducible exact ih2 _ _ _)
   | (with_reducible exact impl_MirrorPolygon.mono _ _)
   | (with_reducible exact laws_eqPegS.mono _ _ _)
   | (with_reducible exact laws_heldPegS.mono _ _ _)
   | (with_reducible exact laws_markPegS.mono _ _ _)
   | (with_reducible exact laws_toPegS.mono _ _)
   | (with_reducible exact spec_MirrorPolygon.mono _ _)
   | (with_reducible exact LeO.refl _)
   | (with_reducible exact LeO.none _)
   | (with_reducible refine LeO.ite ?_ ?_)
   | (with_reducible refine LeO.bind ?_ (fun _ => ?_))
   | exact ih0 _ _ _ _ _ _ _
   | exact ih1 _ _ _ _ _
   | exact ih2 _ _ _
   | exact impl_MirrorPolygon.mono _ _
   | exact laws_eqPegS.mono _ _ _
   | exact laws_heldPegS.mono _ _ _
   | exact laws_markPegS.mono _ _ _
   | exact laws_toPegS.mono _ _
   | exact spec_MirrorPolygon.mono _ _
   | exact LeO.none _
   | refine LeO.ite ?_ ?_
   | refine LeO.bind ?_ (fun _ => ?_)
  ·intro y0 y1 y2 y3 y4
   unfold laws_FnExactMirrorPolygon.j1
   repeat' first
   | (with_reducible exact ih0 _ _ _ _ _ _ _)
   | (with_reducible exact ih1 _ _ _ _ _)
   | (with_reducible exact ih2 _ _ _)
   | (with_reducible exact impl_MirrorPolygon.mono _ _)
   | (with_reducible exact laws_eqPegS.mono _ _ _)
   | (with_reducible exact laws_heldPegS.mono _ _ _)
   | (with_reducible exact laws_markPegS.mono _ _ _)
   | (with_reducible exact laws_toPegS.mono _ _)
   | (with_reducible exact spec_MirrorPolygon.mono _ _)
   | (with_reducible exact LeO.refl _)
   | (with_reducible exact LeO.none _)
   | (with_reducible refine LeO.ite ?_ ?_)
   | (with_reducible refine LeO.bind ?_ (fun _ => ?_))
   | exact ih0 _ _ _ _ _ _ _
   | exact ih1 _ _ _ _ _
   | exact ih2 _ _ _
   | exact impl_MirrorPolygon.mono _ _
   | exact laws_eqPegS.mono _ _ _
   | exact laws_heldPegS.mono _ _ _
   | exact laws_markPegS.mono _ _ _
   | exact laws_toPegS.mono _ _
   | exact spec_MirrorPolygon.mono _ _
   | exact LeO.none _
   | refine LeO.ite ?_ ?_
   | refine LeO.bind ?_ (fun _ => ?_)
  ·intro y0 y1 y2
   unfold laws_FnExactMirrorPolygon.j2
   repeat' first
   | (with_reducible exact ih0 _ _ _ _ _ _ _)
   | (with_reducible exact ih1 _ _ _ _ _)
   | (with_reducible exact ih2 _ _ _)
   | (with_reducible exact impl_MirrorPolygon.mono _ _)
   | (with_reducible exact laws_eqPegS.mono _ _ _)
   | (with_reducible exact laws_heldPegS.mono _ _ _)
   | (with_reducible exact laws_markPegS.mono _ _ _)
   | (with_reducible exact laws_toPegS.mono _ _)
   | (with_reducible exact spec_MirrorPolygon.mono _ _)
   | (with_reducible exact LeO.refl _)
   | (with_reducible exact LeO.none _)
   | (with_reducible refine LeO.ite ?_ ?_)
   | (with_reducible refine LeO.bind ?_ (fun _ => ?_))
   | exact ih0 _ _ _ _ _ _ _
   | exact ih1 _ _ _ _ _
   | exact ih2 _ _ _
   | exact impl_MirrorPolygon.mono _ _
   | exact laws_eqPegS.mono _ _ _
   | exact laws_heldPegS.mono _ _ _
   | exact laws_markPegS.mono _ _ _
   | exact laws_toPegS.mono _ _
   | exact spec_MirrorPolygon.mono _ _
   | exact LeO.none _
   | refine LeO.ite ?_ ?_
   | refine LeO.bind ?_ (fun _ => ?_)
theorem laws_FnExactMirrorPolygon.mono : ∀ a0 k, LeO (laws_FnExactMirrorPolygon.f k a0) (laws_FnExactMirrorPolygon.f (k + 1) a0) := by
 intro a0 k
 obtain ⟨ih0, ih1, ih2⟩ := laws_FnExactMirrorPolygon.mono_l k
 unfold laws_FnExactMirrorPolygon.f
 repeat' first
   | (with_reducible exact ih0 _ _ _ _ _ _ _)
   | (with_reducible exact ih1 _ _ _ _ _)
   | (with_reducible exact ih2 _ _ _)
   | (with_reducible exact impl_MirrorPolygon.mono _ _)
   | (with_reducible exact laws_eqPegS.mono _ _ _)
   | (with_reducible exact laws_heldPegS.mono _ _ _)
   | (with_reducible exact laws_markPegS.mono _ _ _)
   | (with_reducible exact laws_toPegS.mono _ _)
   | (with_reducible exact spec_MirrorPolygon.mono _ _)
   | (with_reducible exact LeO.refl _)
   | (with_reducible exact LeO.none _)
   | (with_reducible refine LeO.ite ?_ ?_)
   | (with_reducible refine LeO.bind ?_ (fun _ => ?_))
   | exact ih0 _ _ _ _ _ _ _
   | exact ih1 _ _ _ _ _
   | exact ih2 _ _ _
   | exact impl_MirrorPolygon.mono _ _
   | exact laws_eqPegS.mono _ _ _
   | exact laws_heldPegS.mono _ _ _
   | exact laws_markPegS.mono _ _ _
   | exact laws_toPegS.mono _ _
   | exact spec_MirrorPolygon.mono _ _
   | exact LeO.none _
   | refine LeO.ite ?_ ?_
   | refine LeO.bind ?_ (fun _ => ?_)
set_option maxHeartbeats 8000000 in
set_option maxRecDepth 100000 in
theorem laws_FnExactMirrorPolygon.calls (k : Nat) (A0 : Option Addr) (c0 : Nat) (l0 : List (S_laws_Peg)) (r : Bool) (w : World) (hr0 : Kd.C kd_laws_Peg w A0 l0.length l0) (hc0 : l0.length ≤ c0) (h : laws_FnExactMirrorPolygon.f k l0 = some r) :
  Calls Try.prog 8 #[.slice A0 l0.length c0] w fun e w' => e = .returned (.bool r) ∧ Below w.heap.size w w' := by
 have HR0 := aM hr0
 have HC0 := aM hc0
 clear hr0 hc0
 have HB := aM (Below.refl w.heap.size w)
 have H : ((laws_szPegS.f l0 1048576).bind fun t455 => (if t455 < 0 then (some true) else ((laws_toPegS.f k l0).bind fun t456 => ((spec_MirrorPolygon.f k t456).bind fun bt459 => ((laws_toPegS.f k l0).bind fun t463 => ((impl_MirrorPolygon.f k t463).bind fun bt466 => ((laws_eqPegS.f k bt466.1 bt459.1).bind fun t470 => (if t470 = true then (laws_FnExactMirrorPolygon.j0 k l0 bt459.1 bt459.2 t463 bt466.1 bt466.2 (bt466.2 != bt459.2)) else (laws_FnExactMirrorPolygon.j0 k l0 bt459.1 bt459.2 t463 bt466.1 bt466.2 true))))))))) = some r := h
 clear h
 replace H := oB.mp H
 obtain ⟨t455, A20, H⟩ := H
 replace H : (if t455 < 0 then (some true) else ((laws_toPegS.f k l0).bind fun t456 => ((spec_MirrorPolygon.f k t456).bind fun bt459 => ((laws_toPegS.f k l0).bind fun t463 => ((impl_MirrorPolygon.f k t463).bind fun bt466 => ((laws_eqPegS.f k bt466.1 bt459.1).bind fun t470 => (if t470 = true then (laws_FnExactMirrorPolygon.j0 k l0 bt459.1 bt459.2 t463 bt466.1 bt466.2 (bt466.2 != bt459.2)) else (laws_FnExactMirrorPolygon.j0 k l0 bt459.1 bt459.2 t463 bt466.1 bt466.2 true)))))))) = some r := H
 have A2 := aM A20
 clear A20
 by_cases c3 : t455 < 0
 ·rw [if_pos c3] at H
  have c3b0 : decide (t455 < 0) = true := dE c3
  clear c3
  obtain rfl := Option.some.inj H
  go_enter Try.func8, Try.ntmps8
  go_wp2_with (first | ((with_reducible refine gC (f := 25) rfl ?_); refine goesL_ (some 16) rfl rfl Try.func25 (by kernel_rfl) rfl #[.slice A0 l0.length c0, .int .i64 1048576] rfl (by (try simp only [mA, mC, mN]); first | done | rfl | (simp only [lD, lT]; rfl)) ?_; (with_reducible refine (laws_szPegS.calls _ _ l0 1048576 t455 _ ?side1 ?side2 A2.out).mono ?_); (case side1 => repeat (first | exact HR0.out | (with_reducible refine cA ?_ _) | (with_reducible refine cN ?_ _) | (with_reducible refine cD ?_))); (case side2 => exact HC0.out); rintro e w' ⟨rfl, ⟨nd, rfl⟩⟩; refine ⟨_, rfl, ?_⟩))
  go_ret
  exact ⟨by first | rfl | (simp [errW_none, errW_some] <;> rfl) | (simp [*, errW_none, errW_some] <;> rfl), by repeat (first | (with_reducible first | exact HB.out | apply pA | apply pN | apply pD) | exact HB.out)⟩
 ·rw [if_neg c3] at H
  have c3b0 : decide (t455 < 0) = false := decide_eq_false c3
  clear c3
  replace H := oB.mp H
  obtain ⟨t456, A40, H⟩ := H
  replace H : ((spec_MirrorPolygon.f k t456).bind fun bt459 => ((laws_toPegS.f k l0).bind fun t463 => ((impl_MirrorPolygon.f k t463).bind fun bt466 => ((laws_eqPegS.f k bt466.1 bt459.1).bind fun t470 => (if t470 = true then (laws_FnExactMirrorPolygon.j0 k l0 bt459.1 bt459.2 t463 bt466.1 bt466.2 (bt466.2 != bt459.2)) else (laws_FnExactMirrorPolygon.j0 k l0 bt459.1 bt459.2 t463 bt466.1 bt466.2 true)))))) = some r := H
  have A4 := aM A40
  clear A40
  replace H := oB.mp H
  obtain ⟨⟨t459, t460⟩, A50, H⟩ := H
  replace H : ((laws_toPegS.f k l0).bind fun t463 => ((impl_MirrorPolygon.f k t463).bind fun bt466 => ((laws_eqPegS.f k bt466.1 t459).bind fun t470 => (if t470 = true then (laws_FnExactMirrorPolygon.j0 k l0 t459 t460 t463 bt466.1 bt466.2 (bt466.2 != t460)) else (laws_FnExactMirrorPolygon.j0 k l0 t459 t460 t463 bt466.1 bt466.2 true))))) = some r := H
  have A5 := aM A50
  clear A50
  replace H := oB.mp H
  obtain ⟨t463, A60, H⟩ := H
  replace H : ((impl_MirrorPolygon.f k t463).bind fun bt466 => ((laws_eqPegS.f k bt466.1 t459).bind fun t470 => (if t470 = true then (laws_FnExactMirrorPolygon.j0 k l0 t459 t460 t463 bt466.1 bt466.2 (bt466.2 != t460)) else (laws_FnExactMirrorPolygon.j0 k l0 t459 t460 t463 bt466.1 bt466.2 true)))) = some r := H
  have A6 := aM A60
  clear A60
  replace H := oB.mp H
  obtain ⟨⟨t466, t467⟩, A70, H⟩ := H
  replace H : ((laws_eqPegS.f k t466 t459).bind fun t470 => (if t470 = true then (laws_FnExactMirrorPolygon.j0 k l0 t459 t460 t463 t466 t467 (t467 != t460)) else (laws_FnExactMirrorPolygon.j0 k l0 t459 t460 t463 t466 t467 true))) = some r := H
  have A7 := aM A70
  clear A70
  have HC8 := aM H
  clear H
  go_enter Try.func8, Try.ntmps8
  go_upto_region 8 with (first | ((with_reducible refine gC (f := 25) rfl ?_); refine goesL_ (some 16) rfl rfl Try.func25 (by kernel_rfl) rfl #[.slice A0 l0.length c0, .int .i64 1048576] rfl (by (try simp only [mA, mC, mN]); first | done | rfl | (simp only [lD, lT]; rfl)) ?_; (with_reducible refine (laws_szPegS.calls _ _ l0 1048576 t455 _ ?side1 ?side2 A2.out).mono ?_); (case side1 => repeat (first | exact HR0.out | (with_reducible refine cA ?_ _) | (with_reducible refine cN ?_ _) | (with_reducible refine cD ?_))); (case side2 => exact HC0.out); rintro e w' ⟨rfl, ⟨nd, rfl⟩⟩; refine ⟨_, rfl, ?_⟩) | ((with_reducible refine gC (f := 27) rfl ?_); refine goesL_ (some 21) rfl rfl Try.func27 (by kernel_rfl) rfl #[.slice A0 l0.length c0] rfl (by (try simp only [mA, mC, mN]); first | done | rfl | (simp only [lD, lT]; rfl)) ?_; (with_reducible refine (laws_toPegS.calls k _ _ l0 t456 _ ?side1 ?side2 A4.out).mono ?_); (case side1 => repeat (first | exact HR0.out | (with_reducible refine cA ?_ _) | (with_reducible refine cN ?_ _) | (with_reducible refine cD ?_))); (case side2 => exact HC0.out); rintro e w9 ⟨v457, rfl, ho0, hb⟩; refine ⟨_, rfl, ?_⟩; have n0_ := aM (Kd.R_lower ho0 (pZ (by repeat (first | (with_reducible first | exact HB.out | apply pA | apply pN | apply pD) | exact HB.out)))); have n1_ := aM (pT (by repeat (first | (with_reducible first | exact HB.out | apply pA | apply pN | apply pD) | exact HB.out)) hb); clear HB; have HO458 := n0_; have HB := n1_; clear n0_ n1_; (try clear hb); (try clear hb2); (try clear hk); (try clear hi); (try clear ho0); obtain ⟨Ao10, co10, eo10⟩ := Kd.R_slice HO458.out; subst eo10) | ((with_reducible refine gC (f := 41) rfl ?_); refine goesL_ (some 22) rfl rfl Try.func41 (by kernel_rfl) rfl #[.slice Ao10 t456.length co10] rfl (by (try simp only [mA, mC, mN]); first | done | rfl | (simp only [lD, lT]; rfl)) ?_; (with_reducible refine (spec_MirrorPolygon.calls k _ _ t456 t459 t460 _ ?side1 ?side2 A5.out).mono ?_); (case side1 => repeat (first | exact (rR HO458.out).2.2 | (with_reducible refine cA ?_ _) | (with_reducible refine cN ?_ _) | (with_reducible refine cD ?_))); (case side2 => exact (rR HO458.out).2.1); rintro e w11 ⟨v461, rfl, ho0, hb⟩; refine ⟨_, rfl, ?_⟩; have n0_ := aM (Kd.R_elder' (by (with_reducible repeat (first | apply rA | apply rN | apply rD)); exact HO458.out) (Kd.R_base ho0) hb); have n1_ := aM (Kd.R_lower (Kd.R_new' ho0 (Kd.R_lt (by (with_reducible repeat (first | apply rA | apply rN | apply rD)); exact HO458.out))) (pZ (by repeat (first | (with_reducible first | exact HB.out | apply pA | apply pN | apply pD) | exact HB.out)))); have n2_ := aM (pT (by repeat (first | (with_reducible first | exact HB.out | apply pA | apply pN | apply pD) | exact HB.out)) hb); clear HO458; clear HB; have HO458 := n0_; have HO462 := n1_; have HB := n2_; clear n0_ n1_ n2_; (try clear hb); (try clear hb2); (try clear hk); (try clear hi); (try clear ho0)) | ((with_reducible refine gC (f := 27) rfl ?_); refine goesL_ (some 26) rfl rfl Try.func27 (by kernel_rfl) rfl #[.slice A0 l0.length c0] rfl (by (try simp only [mA, mC, mN]); first | done | rfl | (simp only [lD, lT]; rfl)) ?_; (with_reducible refine (laws_toPegS.calls k _ _ l0 t463 _ ?side1 ?side2 A6.out).mono ?_); (case side1 => repeat (first | exact (Kd.C_below HR0.out HB.out) | (with_reducible refine cA ?_ _) | (with_reducible refine cN ?_ _) | (with_reducible refine cD ?_))); (case side2 => exact HC0.out); rintro e w12 ⟨v464, rfl, ho0, hb⟩; refine ⟨_, rfl, ?_⟩; have n0_ := aM (Kd.R_elder' (by (with_reducible repeat (first | apply rA | apply rN | apply rD)); exact HO458.out) (Kd.R_base ho0) hb); have n1_ := aM (Kd.R_elder' (by (with_reducible repeat (first | apply rA | apply rN | apply rD)); exact HO462.out) (Kd.R_base ho0) hb); have n2_ := aM (Kd.R_lower (Kd.R_new' (Kd.R_new' ho0 (Kd.R_lt (by (with_reducible repeat (first | apply rA | apply rN | apply rD)); exact HO458.out))) (Kd.R_lt (by (with_reducible repeat (first | apply rA | apply rN | apply rD)); exact HO462.out))) (pZ (by repeat (first | (with_reducible first | exact HB.out | apply pA | apply pN | apply pD) | exact HB.out)))); have n3_ := aM (pT (by repeat (first | (with_reducible first | exact HB.out | apply pA | apply pN | apply pD) | exact HB.out)) hb); clear HO458; clear HO462; clear HB; have HO458 := n0_; have HO462 := n1_; have HO465 := n2_; have HB := n3_; clear n0_ n1_ n2_ n3_; (try clear hb); (try clear hb2); (try clear hk); (try clear hi); (try clear ho0); obtain ⟨Ao13, co13, eo13⟩ := Kd.R_slice HO465.out; subst eo13) | ((with_reducible refine gC (f := 42) rfl ?_); refine goesL_ (some 29) rfl rfl Try.func42 (by kernel_rfl) rfl #[.slice Ao13 t463.length co13] rfl (by (try simp only [mA, mC, mN]); first | done | rfl | (simp only [lD, lT]; rfl)) ?_; (with_reducible refine (impl_MirrorPolygon.calls k _ _ t463 t466 t467 _ ?side1 ?side2 A7.out).mono ?_); (case side1 => repeat (first | exact (rR HO465.out).2.2 | (with_reducible refine cA ?_ _) | (with_reducible refine cN ?_ _) | (with_reducible refine cD ?_))); (case side2 => exact (rR HO465.out).2.1); rintro e w14 ⟨v468, rfl, ho0, hb⟩; refine ⟨_, rfl, ?_⟩; have n0_ := aM (Kd.R_elder' (by (with_reducible repeat (first | apply rA | apply rN | apply rD)); exact HO458.out) (Kd.R_base ho0) hb); have n1_ := aM (Kd.R_elder' (by (with_reducible repeat (first | apply rA | apply rN | apply rD)); exact HO462.out) (Kd.R_base ho0) hb); have n2_ := aM (Kd.R_elder' (by (with_reducible repeat (first | apply rA | apply rN | apply rD)); exact HO465.out) (Kd.R_base ho0) hb); have n3_ := aM (Kd.R_lower (Kd.R_new' (Kd.R_new' (Kd.R_new' ho0 (Kd.R_lt (by (with_reducible repeat (first | apply rA | apply rN | apply rD)); exact HO458.out))) (Kd.R_lt (by (with_reducible repeat (first | apply rA | apply rN | apply rD)); exact HO462.out))) (Kd.R_lt (by (with_reducible repeat (first | apply rA | apply rN | apply rD)); exact HO465.out))) (pZ (by repeat (first | (with_reducible first | exact HB.out | apply pA | apply pN | apply pD) | exact HB.out)))); have n4_ := aM (pT (by repeat (first | (with_reducible first | exact HB.out | apply pA | apply pN | apply pD) | exact HB.out)) hb); clear HO458; clear HO462; clear HO465; clear HB; have HO458 := n0_; have HO462 := n1_; have HO465 := n2_; have HO469 := n3_; have HB := n4_; clear n0_ n1_ n2_ n3_ n4_; (try clear hb); (try clear hb2); (try clear hk); (try clear hi); (try clear ho0)))
  (try simp only [Act.put, sI, sZ, sS])
  go_cut [40] (fun v40 wc => ∃ (kq : Nat) (x40_7 : Bool), v40 = .bool x40_7 ∧ Aside0 (laws_FnExactMirrorPolygon.j0 kq l0 t459 t460 t463 t466 t467 x40_7 = some r) ∧ Aside0 (kq ≤ k) ∧ Aside0 (Kd.R kd_impl_Peg 34 wc w.heap.size (fun k_ => some k_ ≠ ((.slice Ao13 t463.length co13) : Value).ownBlock ∧ some k_ ≠ (v468 : Value).ownBlock) v461 t459) ∧ Aside0 (Kd.R kd_impl_Peg 34 wc w.heap.size (fun k_ => some k_ ≠ (v461 : Value).ownBlock ∧ some k_ ≠ (v468 : Value).ownBlock) (.slice Ao13 t463.length co13) t463) ∧ Aside0 (Kd.R kd_impl_Peg 34 wc w.heap.size (fun k_ => some k_ ≠ (v461 : Value).ownBlock ∧ some k_ ≠ ((.slice Ao13 t463.length co13) : Value).ownBlock) v468 t466) ∧ Aside0 (Below w.heap.size w wc))
  case first =>
   have H := HC8.out
   clear HC8
   replace H := oB.mp H
   obtain ⟨t470, A150, H⟩ := H
   replace H : (if t470 = true then (laws_FnExactMirrorPolygon.j0 k l0 t459 t460 t463 t466 t467 (t467 != t460)) else (laws_FnExactMirrorPolygon.j0 k l0 t459 t460 t463 t466 t467 true)) = some r := H
   have A15 := aM A150
   clear A150
   by_cases c16 : t470 = true
   ·subst c16
    have H1 : (laws_FnExactMirrorPolygon.j0 k l0 t459 t460 t463 t466 t467 (t467 != t460)) = some r := by rw [if_pos rfl] at H; exact H
    clear H
    have H := H1
    clear H1
    have H' := aM H
    clear H
    obtain ⟨Ao17, co17, eo17⟩ := Kd.R_slice HO469.out
    subst eo17
    obtain ⟨Ao18, co18, eo18⟩ := Kd.R_slice HO462.out
    subst eo18
    go_wp2_with (first | ((with_reducible refine gC (f := 29) rfl ?_); refine goesL_ (some 34) rfl rfl Try.func29 (by kernel_rfl) rfl #[.slice Ao17 t466.length co17, .slice Ao18 t459.length co18] rfl (by (try simp only [mA, mC, mN]); first | done | rfl | (simp only [lD, lT]; rfl)) ?_; (with_reducible refine (laws_eqPegS.calls k _ _ t466 _ _ t459 true _ ?side1 ?side2 ?side3 ?side4 A15.out).mono ?_); (case side1 => repeat (first | exact (rR HO469.out).2.2 | (with_reducible refine cA ?_ _) | (with_reducible refine cN ?_ _) | (with_reducible refine cD ?_))); (case side2 => exact (rR HO469.out).2.1); (case side3 => repeat (first | exact (rR HO462.out).2.2 | (with_reducible refine cA ?_ _) | (with_reducible refine cN ?_ _) | (with_reducible refine cD ?_))); (case side4 => exact (rR HO462.out).2.1); rintro e w19 ⟨rfl, hb⟩; refine ⟨_, rfl, ?_⟩; have n0_ := aM (Kd.R_below (by (with_reducible repeat (first | apply rA | apply rN | apply rD)); exact HO458.out) hb); have n1_ := aM (Kd.R_below (by (with_reducible repeat (first | apply rA | apply rN | apply rD)); exact HO462.out) hb); have n2_ := aM (Kd.R_below (by (with_reducible repeat (first | apply rA | apply rN | apply rD)); exact HO465.out) hb); have n3_ := aM (Kd.R_below (by (with_reducible repeat (first | apply rA | apply rN | apply rD)); exact HO469.out) hb); have n4_ := aM (pT (by repeat (first | (with_reducible first | exact HB.out | apply pA | apply pN | apply pD) | exact HB.out)) hb); clear HO458; clear HO462; clear HO465; clear HO469; clear HB; have HO458 := n0_; have HO462 := n1_; have HO465 := n2_; have HO469 := n3_; have HB := n4_; clear n0_ n1_ n2_ n3_ n4_; (try clear hb); (try clear hb2); (try clear hk); (try clear hi)))
    go_meet
    case rel => exact ⟨_, ((t467 != t460)), (by first | rfl | (simp; done) | (simp [*]; done)), H', ⟨by first | omega | exact Nat.le_refl _⟩, ⟨by (with_reducible repeat (first | apply rA | apply rN | apply rD)); exact Kd.R_mono HO462.out (fun _ hk => ⟨hk.1.2, hk.2⟩)⟩, ⟨by (with_reducible repeat (first | apply rA | apply rN | apply rD)); exact Kd.R_mono HO465.out (fun _ hk => ⟨hk.1.2, hk.2⟩)⟩, ⟨by (with_reducible repeat (first | apply rA | apply rN | apply rD)); exact Kd.R_mono HO469.out (fun _ hk => ⟨hk.1.2, hk.2⟩)⟩, ⟨by repeat (first | (with_reducible first | exact HB.out | apply pA | apply pN | apply pD) | exact HB.out)⟩⟩
   ·replace c16 := Bool.eq_false_iff.mpr c16
    subst c16
    have H1 : (laws_FnExactMirrorPolygon.j0 k l0 t459 t460 t463 t466 t467 true) = some r := by rw [if_neg (show ¬ (false = true) by decide)] at H; exact H
    clear H
    have H := H1
    clear H1
    have H' := aM H
    clear H
    obtain ⟨Ao20, co20, eo20⟩ := Kd.R_slice HO469.out
    subst eo20
    obtain ⟨Ao21, co21, eo21⟩ := Kd.R_slice HO462.out
    subst eo21
    go_wp2_with (first | ((with_reducible refine gC (f := 29) rfl ?_); refine goesL_ (some 34) rfl rfl Try.func29 (by kernel_rfl) rfl #[.slice Ao20 t466.length co20, .slice Ao21 t459.length co21] rfl (by (try simp only [mA, mC, mN]); first | done | rfl | (simp only [lD, lT]; rfl)) ?_; (with_reducible refine (laws_eqPegS.calls k _ _ t466 _ _ t459 false _ ?side1 ?side2 ?side3 ?side4 A15.out).mono ?_); (case side1 => repeat (first | exact (rR HO469.out).2.2 | (with_reducible refine cA ?_ _) | (with_reducible refine cN ?_ _) | (with_reducible refine cD ?_))); (case side2 => exact (rR HO469.out).2.1); (case side3 => repeat (first | exact (rR HO462.out).2.2 | (with_reducible refine cA ?_ _) | (with_reducible refine cN ?_ _) | (with_reducible refine cD ?_))); (case side4 => exact (rR HO462.out).2.1); rintro e w22 ⟨rfl, hb⟩; refine ⟨_, rfl, ?_⟩; have n0_ := aM (Kd.R_below (by (with_reducible repeat (first | apply rA | apply rN | apply rD)); exact HO458.out) hb); have n1_ := aM (Kd.R_below (by (with_reducible repeat (first | apply rA | apply rN | apply rD)); exact HO462.out) hb); have n2_ := aM (Kd.R_below (by (with_reducible repeat (first | apply rA | apply rN | apply rD)); exact HO465.out) hb); have n3_ := aM (Kd.R_below (by (with_reducible repeat (first | apply rA | apply rN | apply rD)); exact HO469.out) hb); have n4_ := aM (pT (by repeat (first | (with_reducible first | exact HB.out | apply pA | apply pN | apply pD) | exact HB.out)) hb); clear HO458; clear HO462; clear HO465; clear HO469; clear HB; have HO458 := n0_; have HO462 := n1_; have HO465 := n2_; have HO469 := n3_; have HB := n4_; clear n0_ n1_ n2_ n3_ n4_; (try clear hb); (try clear hb2); (try clear hk); (try clear hi)))
    go_meet
    case rel => exact ⟨_, (true), (by first | rfl | (simp; done) | (simp [*]; done)), H', ⟨by first | omega | exact Nat.le_refl _⟩, ⟨by (with_reducible repeat (first | apply rA | apply rN | apply rD)); exact Kd.R_mono HO462.out (fun _ hk => ⟨hk.1.2, hk.2⟩)⟩, ⟨by (with_reducible repeat (first | apply rA | apply rN | apply rD)); exact Kd.R_mono HO465.out (fun _ hk => ⟨hk.1.2, hk.2⟩)⟩, ⟨by (with_reducible repeat (first | apply rA | apply rN | apply rD)); exact Kd.R_mono HO469.out (fun _ hk => ⟨hk.1.2, hk.2⟩)⟩, ⟨by repeat (first | (with_reducible first | exact HB.out | apply pA | apply pN | apply pD) | exact HB.out)⟩⟩
  case rest =>
   clear HC8
   try clear c1
   try clear c2
   try clear p2
   try clear c3
   try clear c3b0
   try clear c4
   try clear c8
   try clear c16
   obtain ⟨kq, x40_7, rfl, HA, HJ7, HO_4, HO_6, HO_7, HB⟩ := hcut
   cases kq with
   | zero => exact absurd HA.out (by simp [laws_FnExactMirrorPolygon.j0])
   | succ kj7 =>
    have H := HA.out
    clear HA
    simp only [laws_FnExactMirrorPolygon.j0] at H
    by_cases c23 : x40_7 = true
    ·subst c23
     have H1 : (some false) = some r := by rw [if_pos rfl] at H; exact H
     clear H
     have H := H1
     clear H1
     obtain rfl := Option.some.inj H
     go_wp2
     go_ret
     exact ⟨by first | rfl | (simp [errW_none, errW_some] <;> rfl) | (simp [*, errW_none, errW_some] <;> rfl), by repeat (first | (with_reducible first | exact HB.out | apply pA | apply pN | apply pD) | exact HB.out)⟩
    ·replace c23 := Bool.eq_false_iff.mpr c23
     subst c23
     have H1 : ((laws_toPegS.f kj7 l0).bind fun t471 => ((laws_eqPegS.f kj7 t463 t471).bind fun t474 => (if t474 = true then ((laws_markPegS.f kj7 t463 1).bind fun bt475 => (if bt475.1 < 0 then (laws_FnExactMirrorPolygon.j1 kj7 l0 t459 t460 t466 true) else ((laws_eqPegS.f kj7 t466 t459).bind fun t477 => (if t477 = true then (laws_FnExactMirrorPolygon.j1 kj7 l0 t459 t460 t466 (t467 != t460)) else (laws_FnExactMirrorPolygon.j1 kj7 l0 t459 t460 t466 true))))) else (some false)))) = some r := by rw [if_neg (show ¬ (false = true) by decide)] at H; exact H
     clear H
     have H := H1
     clear H1
     replace H := oB.mp H
     obtain ⟨t471, A240, H⟩ := H
     replace H : ((laws_eqPegS.f kj7 t463 t471).bind fun t474 => (if t474 = true then ((laws_markPegS.f kj7 t463 1).bind fun bt475 => (if bt475.1 < 0 then (laws_FnExactMirrorPolygon.j1 kj7 l0 t459 t460 t466 true) else ((laws_eqPegS.f kj7 t466 t459).bind fun t477 => (if t477 = true then (laws_FnExactMirrorPolygon.j1 kj7 l0 t459 t460 t466 (t467 != t460)) else (laws_FnExactMirrorPolygon.j1 kj7 l0 t459 t460 t466 true))))) else (some false))) = some r := H
     have A24 := aM A240
     clear A240
     replace H := oB.mp H
     obtain ⟨t474, A250, H⟩ := H
     replace H : (if t474 = true then ((laws_markPegS.f kj7 t463 1).bind fun bt475 => (if bt475.1 < 0 then (laws_FnExactMirrorPolygon.j1 kj7 l0 t459 t460 t466 true) else ((laws_eqPegS.f kj7 t466 t459).bind fun t477 => (if t477 = true then (laws_FnExactMirrorPolygon.j1 kj7 l0 t459 t460 t466 (t467 != t460)) else (laws_FnExactMirrorPolygon.j1 kj7 l0 t459 t460 t466 true))))) else (some false)) = some r := H
     have A25 := aM A250
     clear A250
     by_cases c26 : t474 = true
     ·subst c26
      have H1 : ((laws_markPegS.f kj7 t463 1).bind fun bt475 => (if bt475.1 < 0 then (laws_FnExactMirrorPolygon.j1 kj7 l0 t459 t460 t466 true) else ((laws_eqPegS.f kj7 t466 t459).bind fun t477 => (if t477 = true then (laws_FnExactMirrorPolygon.j1 kj7 l0 t459 t460 t466 (t467 != t460)) else (laws_FnExactMirrorPolygon.j1 kj7 l0 t459 t460 t466 true))))) = some r := by rw [if_pos rfl] at H; exact H
      clear H
      have H := H1
      clear H1
      replace H := oB.mp H
      obtain ⟨⟨t475, t476⟩, A270, H⟩ := H
      replace H : (if t475 < 0 then (laws_FnExactMirrorPolygon.j1 kj7 l0 t459 t460 t466 true) else ((laws_eqPegS.f kj7 t466 t459).bind fun t477 => (if t477 = true then (laws_FnExactMirrorPolygon.j1 kj7 l0 t459 t460 t466 (t467 != t460)) else (laws_FnExactMirrorPolygon.j1 kj7 l0 t459 t460 t466 true)))) = some r := H
      have A27 := aM A270
      clear A270
      have HC28 := aM H
      clear H
      go_upto_region 14 with (first | ((with_reducible refine gC (f := 27) rfl ?_); refine goesL_ (some 43) rfl rfl Try.func27 (by kernel_rfl) rfl #[.slice A0 l0.length c0] rfl (by (try simp only [mA, mC, mN]); first | done | rfl | (simp only [lD, lT]; rfl)) ?_; (with_reducible refine (laws_toPegS.calls kj7 _ _ l0 t471 _ ?side1 ?side2 A24.out).mono ?_); (case side1 => repeat (first | exact (Kd.C_below HR0.out HB.out) | (with_reducible refine cA ?_ _) | (with_reducible refine cN ?_ _) | (with_reducible refine cD ?_))); (case side2 => exact HC0.out); rintro e w29 ⟨v472, rfl, ho0, hb⟩; refine ⟨_, rfl, ?_⟩; have n0_ := aM (Kd.R_elder' (by (with_reducible repeat (first | apply rA | apply rN | apply rD)); exact HO_4.out) (Kd.R_base ho0) hb); have n1_ := aM (Kd.R_elder' (by (with_reducible repeat (first | apply rA | apply rN | apply rD)); exact HO_6.out) (Kd.R_base ho0) hb); have n2_ := aM (Kd.R_elder' (by (with_reducible repeat (first | apply rA | apply rN | apply rD)); exact HO_7.out) (Kd.R_base ho0) hb); have n3_ := aM (Kd.R_lower (Kd.R_new' (Kd.R_new' (Kd.R_new' ho0 (Kd.R_lt (by (with_reducible repeat (first | apply rA | apply rN | apply rD)); exact HO_4.out))) (Kd.R_lt (by (with_reducible repeat (first | apply rA | apply rN | apply rD)); exact HO_6.out))) (Kd.R_lt (by (with_reducible repeat (first | apply rA | apply rN | apply rD)); exact HO_7.out))) (pZ (by repeat (first | (with_reducible first | exact HB.out | apply pA | apply pN | apply pD) | exact HB.out)))); have n4_ := aM (pT (by repeat (first | (with_reducible first | exact HB.out | apply pA | apply pN | apply pD) | exact HB.out)) hb); clear HO_4; clear HO_6; clear HO_7; clear HB; have HO_4 := n0_; have HO_6 := n1_; have HO_7 := n2_; have HO473 := n3_; have HB := n4_; clear n0_ n1_ n2_ n3_ n4_; (try clear hb); (try clear hb2); (try clear hk); (try clear hi); (try clear ho0); obtain ⟨Ao30, co30, eo30⟩ := Kd.R_slice HO473.out; subst eo30) | ((with_reducible refine gC (f := 29) rfl ?_); refine goesL_ (some 44) rfl rfl Try.func29 (by kernel_rfl) rfl #[.slice Ao13 t463.length co13, .slice Ao30 t471.length co30] rfl (by (try simp only [mA, mC, mN]); first | done | rfl | (simp only [lD, lT]; rfl)) ?_; (with_reducible refine (laws_eqPegS.calls kj7 _ _ t463 _ _ t471 true _ ?side1 ?side2 ?side3 ?side4 A25.out).mono ?_); (case side1 => repeat (first | exact (rR HO_6.out).2.2 | (with_reducible refine cA ?_ _) | (with_reducible refine cN ?_ _) | (with_reducible refine cD ?_))); (case side2 => exact (rR HO_6.out).2.1); (case side3 => repeat (first | exact (rR HO473.out).2.2 | (with_reducible refine cA ?_ _) | (with_reducible refine cN ?_ _) | (with_reducible refine cD ?_))); (case side4 => exact (rR HO473.out).2.1); rintro e w31 ⟨rfl, hb⟩; refine ⟨_, rfl, ?_⟩; have n0_ := aM (Kd.R_below (by (with_reducible repeat (first | apply rA | apply rN | apply rD)); exact HO_4.out) hb); have n1_ := aM (Kd.R_below (by (with_reducible repeat (first | apply rA | apply rN | apply rD)); exact HO_6.out) hb); have n2_ := aM (Kd.R_below (by (with_reducible repeat (first | apply rA | apply rN | apply rD)); exact HO_7.out) hb); have n3_ := aM (Kd.R_below (by (with_reducible repeat (first | apply rA | apply rN | apply rD)); exact HO473.out) hb); have n4_ := aM (pT (by repeat (first | (with_reducible first | exact HB.out | apply pA | apply pN | apply pD) | exact HB.out)) hb); clear HO_4; clear HO_6; clear HO_7; clear HO473; clear HB; have HO_4 := n0_; have HO_6 := n1_; have HO_7 := n2_; have HO473 := n3_; have HB := n4_; clear n0_ n1_ n2_ n3_ n4_; (try clear hb); (try clear hb2); (try clear hk); (try clear hi)) | ((with_reducible refine gC (f := 35) rfl ?_); refine goesL_ (some 48) rfl rfl Try.func35 (by kernel_rfl) rfl #[.slice Ao13 t463.length co13, .int .i64 1] rfl (by (try simp only [mA, mC, mN]); first | done | rfl | (simp only [lD, lT]; rfl)) ?_; (with_reducible refine (laws_markPegS.calls kj7 (fun k_ => some k_ = (.slice Ao13 t463.length co13 : Value).ownBlock) (.slice Ao13 t463.length co13) t463 1 t475 t476 w _ ?side1 ?side2 A27.out).mono ?_); (case side1 => repeat (first | (with_reducible first | exact HB.out | apply pA | apply pN | apply pD) | exact HB.out)); (case side2 => exact Kd.R_tight rfl HO_6.out); rintro e w32 ⟨rfl, hy0, hb, hkp⟩; refine ⟨_, rfl, ?_⟩; have n0_ := aM (Kd.R_mono (ok' := fun k_ => some k_ ≠ (.slice Ao13 t463.length co13 : Value).ownBlock ∧ some k_ ≠ (v468 : Value).ownBlock ∧ some k_ ≠ (.slice Ao30 t471.length co30 : Value).ownBlock) (Kd.R_keptB (HO_4.out) hkp (fun k_ hk_ hs_ => (hk_.1.1) hs_)) (fun k_ hk_ => ⟨hk_.1.1.1, hk_.1.1.2, hk_.1.2⟩)); have n1_ := aM (Kd.R_reok rfl hy0 (fun k_ e_ => HO_6.out.1 k_ e_)); have n2_ := aM (Kd.R_mono (ok' := fun k_ => some k_ ≠ (v461 : Value).ownBlock ∧ some k_ ≠ (.slice Ao13 t463.length co13 : Value).ownBlock ∧ some k_ ≠ (.slice Ao30 t471.length co30 : Value).ownBlock) (Kd.R_keptB (HO_7.out) hkp (fun k_ hk_ hs_ => (hk_.1.2) hs_)) (fun k_ hk_ => ⟨hk_.1.1.1, hk_.1.1.2, hk_.1.2⟩)); have n3_ := aM (Kd.R_mono (ok' := fun k_ => some k_ ≠ (v461 : Value).ownBlock ∧ some k_ ≠ (.slice Ao13 t463.length co13 : Value).ownBlock ∧ some k_ ≠ (v468 : Value).ownBlock) (Kd.R_keptB (HO473.out) hkp (fun k_ hk_ hs_ => (hk_.1.2) hs_)) (fun k_ hk_ => ⟨hk_.1.1.1.2, hk_.1.1.2, hk_.1.2⟩)); have n4_ := aM (hb); clear HO_4; clear HO_6; clear HO_7; clear HO473; clear HB; have HO_4 := n0_; have HO_6 := n1_; have HO_7 := n2_; have HO473 := n3_; have HB := n4_; clear n0_ n1_ n2_ n3_ n4_; (try clear hb); (try clear hkp); (try clear hy0)))
      (try simp only [Act.put, sI, sZ, sS])
      go_cut [61] (fun v61 wc => ∃ (kq : Nat) (x61_27 : Bool), v61 = .bool x61_27 ∧ Aside0 (laws_FnExactMirrorPolygon.j1 kq l0 t459 t460 t466 x61_27 = some r) ∧ Aside0 (kq ≤ kj7) ∧ Aside0 (Kd.R kd_impl_Peg 34 wc w.heap.size (fun k_ => some k_ ≠ (v468 : Value).ownBlock) v461 t459) ∧ Aside0 (Kd.R kd_impl_Peg 34 wc w.heap.size (fun k_ => some k_ ≠ (v461 : Value).ownBlock) v468 t466) ∧ Aside0 (Below w.heap.size w wc))
      case first =>
       have H := HC28.out
       clear HC28
       by_cases c33 : t475 < 0
       ·rw [if_pos c33] at H
        have c33b0 : decide (t475 < 0) = true := dE c33
        clear c33
        (first | rw [c33b0] | (simp only [i64_w, i32_w]; rw [c33b0]) | skip)
        have H' := aM H
        clear H
        go_wp2
        go_meet
        case rel => exact ⟨_, (true), (by first | rfl | (simp; done) | (simp [*]; done)), H', ⟨by have := HJ7.out; first | omega | exact Nat.le_refl _⟩, ⟨by (with_reducible repeat (first | apply rA | apply rN | apply rD)); exact Kd.R_mono HO_4.out (fun _ hk => hk.2.1)⟩, ⟨by (with_reducible repeat (first | apply rA | apply rN | apply rD)); exact Kd.R_mono HO_7.out (fun _ hk => hk.1)⟩, ⟨by repeat (first | (with_reducible first | exact HB.out | apply pA | apply pN | apply pD) | exact HB.out)⟩⟩
       ·rw [if_neg c33] at H
        have c33b0 : decide (t475 < 0) = false := decide_eq_false c33
        clear c33
        (first | rw [c33b0] | (simp only [i64_w, i32_w]; rw [c33b0]) | skip)
        replace H := oB.mp H
        obtain ⟨t477, A340, H⟩ := H
        replace H : (if t477 = true then (laws_FnExactMirrorPolygon.j1 kj7 l0 t459 t460 t466 (t467 != t460)) else (laws_FnExactMirrorPolygon.j1 kj7 l0 t459 t460 t466 true)) = some r := H
        have A34 := aM A340
        clear A340
        by_cases c35 : t477 = true
        ·subst c35
         have H1 : (laws_FnExactMirrorPolygon.j1 kj7 l0 t459 t460 t466 (t467 != t460)) = some r := by rw [if_pos rfl] at H; exact H
         clear H
         have H := H1
         clear H1
         have H' := aM H
         clear H
         obtain ⟨Ao36, co36, eo36⟩ := Kd.R_slice HO_7.out
         subst eo36
         obtain ⟨Ao37, co37, eo37⟩ := Kd.R_slice HO_4.out
         subst eo37
         go_wp2_with (first | (go_at_call 29; (with_reducible refine (laws_eqPegS.calls kj7 _ _ t466 _ _ t459 true _ ?side1 ?side2 ?side3 ?side4 A34.out).mono ?_); (case side1 => repeat (first | exact (rR HO_7.out).2.2 | (with_reducible refine cA ?_ _) | (with_reducible refine cN ?_ _) | (with_reducible refine cD ?_))); (case side2 => exact (rR HO_7.out).2.1); (case side3 => repeat (first | exact (rR HO_4.out).2.2 | (with_reducible refine cA ?_ _) | (with_reducible refine cN ?_ _) | (with_reducible refine cD ?_))); (case side4 => exact (rR HO_4.out).2.1); rintro e w38 ⟨rfl, hb⟩; have n0_ := aM (Kd.R_below (by (with_reducible repeat (first | apply rA | apply rN | apply rD)); exact HO_4.out) hb); have n1_ := aM (Kd.R_below (by (with_reducible repeat (first | apply rA | apply rN | apply rD)); exact HO_6.out) hb); have n2_ := aM (Kd.R_below (by (with_reducible repeat (first | apply rA | apply rN | apply rD)); exact HO_7.out) hb); have n3_ := aM (Kd.R_below (by (with_reducible repeat (first | apply rA | apply rN | apply rD)); exact HO473.out) hb); have n4_ := aM (pT (by repeat (first | (with_reducible first | exact HB.out | apply pA | apply pN | apply pD) | exact HB.out)) hb); clear HO_4; clear HO_6; clear HO_7; clear HO473; clear HB; have HO_4 := n0_; have HO_6 := n1_; have HO_7 := n2_; have HO473 := n3_; have HB := n4_; clear n0_ n1_ n2_ n3_ n4_; (try clear hb); (try clear hb2); (try clear hk); (try clear hi)))
         go_meet
         case rel => exact ⟨_, ((t467 != t460)), (by first | rfl | (simp; done) | (simp [*]; done)), H', ⟨by have := HJ7.out; first | omega | exact Nat.le_refl _⟩, ⟨by (with_reducible repeat (first | apply rA | apply rN | apply rD)); exact Kd.R_mono HO_4.out (fun _ hk => hk.2.1)⟩, ⟨by (with_reducible repeat (first | apply rA | apply rN | apply rD)); exact Kd.R_mono HO_7.out (fun _ hk => hk.1)⟩, ⟨by repeat (first | (with_reducible first | exact HB.out | apply pA | apply pN | apply pD) | exact HB.out)⟩⟩
        ·replace c35 := Bool.eq_false_iff.mpr c35
         subst c35
         have H1 : (laws_FnExactMirrorPolygon.j1 kj7 l0 t459 t460 t466 true) = some r := by rw [if_neg (show ¬ (false = true) by decide)] at H; exact H
         clear H
         have H := H1
         clear H1
         have H' := aM H
         clear H
         obtain ⟨Ao39, co39, eo39⟩ := Kd.R_slice HO_7.out
         subst eo39
         obtain ⟨Ao40, co40, eo40⟩ := Kd.R_slice HO_4.out
         subst eo40
         go_wp2_with (first | (go_at_call 29; (with_reducible refine (laws_eqPegS.calls kj7 _ _ t466 _ _ t459 false _ ?side1 ?side2 ?side3 ?side4 A34.out).mono ?_); (case side1 => repeat (first | exact (rR HO_7.out).2.2 | (with_reducible refine cA ?_ _) | (with_reducible refine cN ?_ _) | (with_reducible refine cD ?_))); (case side2 => exact (rR HO_7.out).2.1); (case side3 => repeat (first | exact (rR HO_4.out).2.2 | (with_reducible refine cA ?_ _) | (with_reducible refine cN ?_ _) | (with_reducible refine cD ?_))); (case side4 => exact (rR HO_4.out).2.1); rintro e w41 ⟨rfl, hb⟩; have n0_ := aM (Kd.R_below (by (with_reducible repeat (first | apply rA | apply rN | apply rD)); exact HO_4.out) hb); have n1_ := aM (Kd.R_below (by (with_reducible repeat (first | apply rA | apply rN | apply rD)); exact HO_6.out) hb); have n2_ := aM (Kd.R_below (by (with_reducible repeat (first | apply rA | apply rN | apply rD)); exact HO_7.out) hb); have n3_ := aM (Kd.R_below (by (with_reducible repeat (first | apply rA | apply rN | apply rD)); exact HO473.out) hb); have n4_ := aM (pT (by repeat (first | (with_reducible first | exact HB.out | apply pA | apply pN | apply pD) | exact HB.out)) hb); clear HO_4; clear HO_6; clear HO_7; clear HO473; clear HB; have HO_4 := n0_; have HO_6 := n1_; have HO_7 := n2_; have HO473 := n3_; have HB := n4_; clear n0_ n1_ n2_ n3_ n4_; (try clear hb); (try clear hb2); (try clear hk); (try clear hi)))
         go_meet
         case rel => exact ⟨_, (true), (by first | rfl | (simp; done) | (simp [*]; done)), H', ⟨by have := HJ7.out; first | omega | exact Nat.le_refl _⟩, ⟨by (with_reducible repeat (first | apply rA | apply rN | apply rD)); exact Kd.R_mono HO_4.out (fun _ hk => hk.2.1)⟩, ⟨by (with_reducible repeat (first | apply rA | apply rN | apply rD)); exact Kd.R_mono HO_7.out (fun _ hk => hk.1)⟩, ⟨by repeat (first | (with_reducible first | exact HB.out | apply pA | apply pN | apply pD) | exact HB.out)⟩⟩
      case rest =>
       clear HC28
       try clear c1
       try clear c2
       try clear p2
       try clear c3
       try clear c3b0
       try clear c4
       try clear c8
       try clear c16
       try clear c23
       try clear c25
       try clear c26
       try clear c27
       try clear c29
       try clear c33
       try clear c33b0
       try clear c35
       try clear c41
       try clear p2
       obtain ⟨kq, x61_27, rfl, HA, HJ27, HO_4, HO_7, HB⟩ := hcut
       cases kq with
       | zero => exact absurd HA.out (by simp [laws_FnExactMirrorPolygon.j1])
       | succ kj27 =>
        have H := HA.out
        clear HA
        simp only [laws_FnExactMirrorPolygon.j1] at H
        by_cases c42 : x61_27 = true
        ·subst c42
         have H1 : (some false) = some r := by rw [if_pos rfl] at H; exact H
         clear H
         have H := H1
         clear H1
         obtain rfl := Option.some.inj H
         go_wp2
         go_ret
         exact ⟨by first | rfl | (simp [errW_none, errW_some] <;> rfl) | (simp [*, errW_none, errW_some] <;> rfl), by repeat (first | (with_reducible first | exact HB.out | apply pA | apply pN | apply pD) | exact HB.out)⟩
        ·replace c42 := Bool.eq_false_iff.mpr c42
         subst c42
         have H1 : ((laws_markPegS.f kj27 t466 1).bind fun bt478 => ((laws_heldPegS.f kj27 bt478.2 1).bind fun t480 => (if t480 < 0 then (some false) else (if t480 = bt478.1 then ((laws_toPegS.f kj27 l0).bind fun t481 => ((impl_MirrorPolygon.f kj27 t481).bind fun bt484 => ((laws_eqPegS.f kj27 bt484.1 t459).bind fun t488 => (if t488 = true then (laws_FnExactMirrorPolygon.j2 kj27 bt478.2 bt478.1 (bt484.2 != t460)) else (laws_FnExactMirrorPolygon.j2 kj27 bt478.2 bt478.1 true))))) else (some false))))) = some r := by rw [if_neg (show ¬ (false = true) by decide)] at H; exact H
         clear H
         have H := H1
         clear H1
         replace H := oB.mp H
         obtain ⟨⟨t478, t479⟩, A430, H⟩ := H
         replace H : ((laws_heldPegS.f kj27 t479 1).bind fun t480 => (if t480 < 0 then (some false) else (if t480 = t478 then ((laws_toPegS.f kj27 l0).bind fun t481 => ((impl_MirrorPolygon.f kj27 t481).bind fun bt484 => ((laws_eqPegS.f kj27 bt484.1 t459).bind fun t488 => (if t488 = true then (laws_FnExactMirrorPolygon.j2 kj27 t479 t478 (bt484.2 != t460)) else (laws_FnExactMirrorPolygon.j2 kj27 t479 t478 true))))) else (some false)))) = some r := H
         have A43 := aM A430
         clear A430
         replace H := oB.mp H
         obtain ⟨t480, A440, H⟩ := H
         replace H : (if t480 < 0 then (some false) else (if t480 = t478 then ((laws_toPegS.f kj27 l0).bind fun t481 => ((impl_MirrorPolygon.f kj27 t481).bind fun bt484 => ((laws_eqPegS.f kj27 bt484.1 t459).bind fun t488 => (if t488 = true then (laws_FnExactMirrorPolygon.j2 kj27 t479 t478 (bt484.2 != t460)) else (laws_FnExactMirrorPolygon.j2 kj27 t479 t478 true))))) else (some false))) = some r := H
         have A44 := aM A440
         clear A440
         by_cases c45 : t480 < 0
         ·rw [if_pos c45] at H
          have c45b0 : decide (t480 < 0) = true := dE c45
          clear c45
          obtain rfl := Option.some.inj H
          obtain ⟨Ao46, co46, eo46⟩ := Kd.R_slice HO_7.out
          subst eo46
          go_wp2_with (first | ((with_reducible refine gC (f := 35) rfl ?_); refine goesL_ (some 64) rfl rfl Try.func35 (by kernel_rfl) rfl #[.slice Ao46 t466.length co46, .int .i64 1] rfl (by (try simp only [mA, mC, mN]); first | done | rfl | (simp only [lD, lT]; rfl)) ?_; (with_reducible refine (laws_markPegS.calls kj27 (fun k_ => some k_ = (.slice Ao46 t466.length co46 : Value).ownBlock) (.slice Ao46 t466.length co46) t466 1 t478 t479 w _ ?side1 ?side2 A43.out).mono ?_); (case side1 => repeat (first | (with_reducible first | exact HB.out | apply pA | apply pN | apply pD) | exact HB.out)); (case side2 => exact Kd.R_tight rfl HO_7.out); rintro e w47 ⟨rfl, hy0, hb, hkp⟩; refine ⟨_, rfl, ?_⟩; have n0_ := aM (Kd.R_mono (ok' := fun k_ => some k_ ≠ (.slice Ao46 t466.length co46 : Value).ownBlock) (Kd.R_keptB (HO_4.out) hkp (fun k_ hk_ hs_ => (hk_) hs_)) (fun k_ hk_ => hk_.1)); have n1_ := aM (Kd.R_reok rfl hy0 (fun k_ e_ => HO_7.out.1 k_ e_)); have n2_ := aM (hb); clear HO_4; clear HO_7; clear HB; have HO_4 := n0_; have HO_7 := n1_; have HB := n2_; clear n0_ n1_ n2_; (try clear hb); (try clear hkp); (try clear hy0)) | ((with_reducible refine gC (f := 36) rfl ?_); refine goesL_ (some 67) rfl rfl Try.func36 (by kernel_rfl) rfl #[.slice Ao46 t479.length co46, .int .i64 1] rfl (by (try simp only [mA, mC, mN]); first | done | (rw [show t479.length = t466.length from (rR HO_7.out).1.symm] <;> rfl) | rfl | (simp only [lD, lT]; rfl)) ?_; (with_reducible refine (laws_heldPegS.calls kj27 _ _ t479 1 t480 _ ?side1 ?side2 A44.out).mono ?_); (case side1 => repeat (first | exact (rR HO_7.out).2.2 | (with_reducible refine cA ?_ _) | (with_reducible refine cN ?_ _) | (with_reducible refine cD ?_))); (case side2 => rw [show t479.length = t466.length from (rR HO_7.out).1.symm]; exact (rR HO_7.out).2.1); rintro e w' ⟨rfl, ⟨nd, rfl⟩⟩; refine ⟨_, rfl, ?_⟩))
          go_ret
          exact ⟨by first | rfl | (simp [errW_none, errW_some] <;> rfl) | (simp [*, errW_none, errW_some] <;> rfl), by repeat (first | (with_reducible first | exact HB.out | apply pA | apply pN | apply pD) | exact HB.out)⟩
         ·rw [if_neg c45] at H
          have c45b0 : decide (t480 < 0) = false := decide_eq_false c45
          clear c45
          by_cases c48 : t480 = t478
          ·rw [if_pos c48] at H
           have c48b0 : (t480 == t478) = true := beq_iff_eq.mpr c48
           have c48b1 : (t480 != t478) = false := bne_eq_false_iff_eq.mpr c48
           clear c48
           replace H := oB.mp H
           obtain ⟨t481, A490, H⟩ := H
           replace H : ((impl_MirrorPolygon.f kj27 t481).bind fun bt484 => ((laws_eqPegS.f kj27 bt484.1 t459).bind fun t488 => (if t488 = true then (laws_FnExactMirrorPolygon.j2 kj27 t479 t478 (bt484.2 != t460)) else (laws_FnExactMirrorPolygon.j2 kj27 t479 t478 true)))) = some r := H
           have A49 := aM A490
           clear A490
           replace H := oB.mp H
           obtain ⟨⟨t484, t485⟩, A500, H⟩ := H
           replace H : ((laws_eqPegS.f kj27 t484 t459).bind fun t488 => (if t488 = true then (laws_FnExactMirrorPolygon.j2 kj27 t479 t478 (t485 != t460)) else (laws_FnExactMirrorPolygon.j2 kj27 t479 t478 true))) = some r := H
           have A50 := aM A500
           clear A500
           have HC51 := aM H
           clear H
           obtain ⟨Ao52, co52, eo52⟩ := Kd.R_slice HO_7.out
           subst eo52
           go_upto_region 25 with (first | ((with_reducible refine gC (f := 35) rfl ?_); refine goesL_ (some 64) rfl rfl Try.func35 (by kernel_rfl) rfl #[.slice Ao52 t466.length co52, .int .i64 1] rfl (by (try simp only [mA, mC, mN]); first | done | rfl | (simp only [lD, lT]; rfl)) ?_; (with_reducible refine (laws_markPegS.calls kj27 (fun k_ => some k_ = (.slice Ao52 t466.length co52 : Value).ownBlock) (.slice Ao52 t466.length co52) t466 1 t478 t479 w _ ?side1 ?side2 A43.out).mono ?_); (case side1 => repeat (first | (with_reducible first | exact HB.out | apply pA | apply pN | apply pD) | exact HB.out)); (case side2 => exact Kd.R_tight rfl HO_7.out); rintro e w53 ⟨rfl, hy0, hb, hkp⟩; refine ⟨_, rfl, ?_⟩; have n0_ := aM (Kd.R_mono (ok' := fun k_ => some k_ ≠ (.slice Ao52 t466.length co52 : Value).ownBlock) (Kd.R_keptB (HO_4.out) hkp (fun k_ hk_ hs_ => (hk_) hs_)) (fun k_ hk_ => hk_.1)); have n1_ := aM (Kd.R_reok rfl hy0 (fun k_ e_ => HO_7.out.1 k_ e_)); have n2_ := aM (hb); clear HO_4; clear HO_7; clear HB; have HO_4 := n0_; have HO_7 := n1_; have HB := n2_; clear n0_ n1_ n2_; (try clear hb); (try clear hkp); (try clear hy0)) | ((with_reducible refine gC (f := 36) rfl ?_); refine goesL_ (some 67) rfl rfl Try.func36 (by kernel_rfl) rfl #[.slice Ao52 t479.length co52, .int .i64 1] rfl (by (try simp only [mA, mC, mN]); first | done | (rw [show t479.length = t466.length from (rR HO_7.out).1.symm] <;> rfl) | rfl | (simp only [lD, lT]; rfl)) ?_; (with_reducible refine (laws_heldPegS.calls kj27 _ _ t479 1 t480 _ ?side1 ?side2 A44.out).mono ?_); (case side1 => repeat (first | exact (rR HO_7.out).2.2 | (with_reducible refine cA ?_ _) | (with_reducible refine cN ?_ _) | (with_reducible refine cD ?_))); (case side2 => rw [show t479.length = t466.length from (rR HO_7.out).1.symm]; exact (rR HO_7.out).2.1); rintro e w' ⟨rfl, ⟨nd, rfl⟩⟩; refine ⟨_, rfl, ?_⟩) | ((with_reducible refine gC (f := 27) rfl ?_); refine goesL_ (some 75) rfl rfl Try.func27 (by kernel_rfl) rfl #[.slice A0 l0.length c0] rfl (by (try simp only [mA, mC, mN]); first | done | rfl | (simp only [lD, lT]; rfl)) ?_; (with_reducible refine (laws_toPegS.calls kj27 _ _ l0 t481 _ ?side1 ?side2 A49.out).mono ?_); (case side1 => repeat (first | exact (Kd.C_below HR0.out (by repeat (first | (with_reducible first | exact HB.out | apply pA | apply pN | apply pD) | exact HB.out))) | (with_reducible refine cA ?_ _) | (with_reducible refine cN ?_ _) | (with_reducible refine cD ?_))); (case side2 => exact HC0.out); rintro e w54 ⟨v482, rfl, ho0, hb⟩; refine ⟨_, rfl, ?_⟩; have n0_ := aM (Kd.R_elder' (by (with_reducible repeat (first | apply rA | apply rN | apply rD)); exact HO_4.out) (Kd.R_base ho0) hb); have n1_ := aM (Kd.R_elder' (by (with_reducible repeat (first | apply rA | apply rN | apply rD)); exact HO_7.out) (Kd.R_base ho0) hb); have n2_ := aM (Kd.R_lower (Kd.R_new' (Kd.R_new' ho0 (Kd.R_lt (by (with_reducible repeat (first | apply rA | apply rN | apply rD)); exact HO_4.out))) (Kd.R_lt (by (with_reducible repeat (first | apply rA | apply rN | apply rD)); exact HO_7.out))) (pZ (by repeat (first | (with_reducible first | exact HB.out | apply pA | apply pN | apply pD) | exact HB.out)))); have n3_ := aM (pT (by repeat (first | (with_reducible first | exact HB.out | apply pA | apply pN | apply pD) | exact HB.out)) hb); clear HO_4; clear HO_7; clear HB; have HO_4 := n0_; have HO_7 := n1_; have HO483 := n2_; have HB := n3_; clear n0_ n1_ n2_ n3_; (try clear hb); (try clear hb2); (try clear hk); (try clear hi); (try clear ho0); obtain ⟨Ao55, co55, eo55⟩ := Kd.R_slice HO483.out; subst eo55) | ((with_reducible refine gC (f := 42) rfl ?_); refine goesL_ (some 76) rfl rfl Try.func42 (by kernel_rfl) rfl #[.slice Ao55 t481.length co55] rfl (by (try simp only [mA, mC, mN]); first | done | rfl | (simp only [lD, lT]; rfl)) ?_; (with_reducible refine (impl_MirrorPolygon.calls kj27 _ _ t481 t484 t485 _ ?side1 ?side2 A50.out).mono ?_); (case side1 => repeat (first | exact (rR HO483.out).2.2 | (with_reducible refine cA ?_ _) | (with_reducible refine cN ?_ _) | (with_reducible refine cD ?_))); (case side2 => exact (rR HO483.out).2.1); rintro e w56 ⟨v486, rfl, ho0, hb⟩; refine ⟨_, rfl, ?_⟩; have n0_ := aM (Kd.R_elder' (by (with_reducible repeat (first | apply rA | apply rN | apply rD)); exact HO_4.out) (Kd.R_base ho0) hb); have n1_ := aM (Kd.R_elder' (by (with_reducible repeat (first | apply rA | apply rN | apply rD)); exact HO_7.out) (Kd.R_base ho0) hb); have n2_ := aM (Kd.R_elder' (by (with_reducible repeat (first | apply rA | apply rN | apply rD)); exact HO483.out) (Kd.R_base ho0) hb); have n3_ := aM (Kd.R_lower (Kd.R_new' (Kd.R_new' (Kd.R_new' ho0 (Kd.R_lt (by (with_reducible repeat (first | apply rA | apply rN | apply rD)); exact HO_4.out))) (Kd.R_lt (by (with_reducible repeat (first | apply rA | apply rN | apply rD)); exact HO_7.out))) (Kd.R_lt (by (with_reducible repeat (first | apply rA | apply rN | apply rD)); exact HO483.out))) (pZ (by repeat (first | (with_reducible first | exact HB.out | apply pA | apply pN | apply pD) | exact HB.out)))); have n4_ := aM (pT (by repeat (first | (with_reducible first | exact HB.out | apply pA | apply pN | apply pD) | exact HB.out)) hb); clear HO_4; clear HO_7; clear HO483; clear HB; have HO_4 := n0_; have HO_7 := n1_; have HO483 := n2_; have HO487 := n3_; have HB := n4_; clear n0_ n1_ n2_ n3_ n4_; (try clear hb); (try clear hb2); (try clear hk); (try clear hi); (try clear ho0)))
           (try simp only [Act.put, sI, sZ, sS])
           go_cut [87] (fun v87 wc => ∃ (kq : Nat) (x87_50 : Bool), v87 = .bool x87_50 ∧ Aside0 (laws_FnExactMirrorPolygon.j2 kq t479 t478 x87_50 = some r) ∧ Aside0 (kq ≤ kj27) ∧ Aside0 (Kd.R kd_impl_Peg 34 wc w.heap.size (fun _ => True) (.slice Ao52 t466.length co52) t479) ∧ Aside0 (Below w.heap.size w wc))
           case first =>
            have H := HC51.out
            clear HC51
            replace H := oB.mp H
            obtain ⟨t488, A570, H⟩ := H
            replace H : (if t488 = true then (laws_FnExactMirrorPolygon.j2 kj27 t479 t478 (t485 != t460)) else (laws_FnExactMirrorPolygon.j2 kj27 t479 t478 true)) = some r := H
            have A57 := aM A570
            clear A570
            by_cases c58 : t488 = true
            ·subst c58
             have H1 : (laws_FnExactMirrorPolygon.j2 kj27 t479 t478 (t485 != t460)) = some r := by rw [if_pos rfl] at H; exact H
             clear H
             have H := H1
             clear H1
             have H' := aM H
             clear H
             obtain ⟨Ao59, co59, eo59⟩ := Kd.R_slice HO487.out
             subst eo59
             obtain ⟨Ao60, co60, eo60⟩ := Kd.R_slice HO_4.out
             subst eo60
             go_wp2_with (first | ((with_reducible refine gC (f := 29) rfl ?_); refine goesL_ (some 81) rfl rfl Try.func29 (by kernel_rfl) rfl #[.slice Ao59 t484.length co59, .slice Ao60 t459.length co60] rfl (by (try simp only [mA, mC, mN]); first | done | rfl | (simp only [lD, lT]; rfl)) ?_; (with_reducible refine (laws_eqPegS.calls kj27 _ _ t484 _ _ t459 true _ ?side1 ?side2 ?side3 ?side4 A57.out).mono ?_); (case side1 => repeat (first | exact (rR HO487.out).2.2 | (with_reducible refine cA ?_ _) | (with_reducible refine cN ?_ _) | (with_reducible refine cD ?_))); (case side2 => exact (rR HO487.out).2.1); (case side3 => repeat (first | exact (rR HO_4.out).2.2 | (with_reducible refine cA ?_ _) | (with_reducible refine cN ?_ _) | (with_reducible refine cD ?_))); (case side4 => exact (rR HO_4.out).2.1); rintro e w61 ⟨rfl, hb⟩; refine ⟨_, rfl, ?_⟩; have n0_ := aM (Kd.R_below (by (with_reducible repeat (first | apply rA | apply rN | apply rD)); exact HO_4.out) hb); have n1_ := aM (Kd.R_below (by (with_reducible repeat (first | apply rA | apply rN | apply rD)); exact HO_7.out) hb); have n2_ := aM (Kd.R_below (by (with_reducible repeat (first | apply rA | apply rN | apply rD)); exact HO483.out) hb); have n3_ := aM (Kd.R_below (by (with_reducible repeat (first | apply rA | apply rN | apply rD)); exact HO487.out) hb); have n4_ := aM (pT (by repeat (first | (with_reducible first | exact HB.out | apply pA | apply pN | apply pD) | exact HB.out)) hb); clear HO_4; clear HO_7; clear HO483; clear HO487; clear HB; have HO_4 := n0_; have HO_7 := n1_; have HO483 := n2_; have HO487 := n3_; have HB := n4_; clear n0_ n1_ n2_ n3_ n4_; (try clear hb); (try clear hb2); (try clear hk); (try clear hi)))
             go_meet
             case rel => exact ⟨_, ((t485 != t460)), (by first | rfl | (simp; done) | (simp [*]; done)), H', ⟨by have := HJ7.out; have := HJ27.out; first | omega | exact Nat.le_refl _⟩, ⟨by (with_reducible repeat (first | apply rA | apply rN | apply rD)); exact Kd.R_mono HO_7.out (fun _ hk => trivial)⟩, ⟨by repeat (first | (with_reducible first | exact HB.out | apply pA | apply pN | apply pD) | exact HB.out)⟩⟩
            ·replace c58 := Bool.eq_false_iff.mpr c58
             subst c58
             have H1 : (laws_FnExactMirrorPolygon.j2 kj27 t479 t478 true) = some r := by rw [if_neg (show ¬ (false = true) by decide)] at H; exact H
             clear H
             have H := H1
             clear H1
             have H' := aM H
             clear H
             obtain ⟨Ao62, co62, eo62⟩ := Kd.R_slice HO487.out
             subst eo62
             obtain ⟨Ao63, co63, eo63⟩ := Kd.R_slice HO_4.out
             subst eo63
             go_wp2_with (first | ((with_reducible refine gC (f := 29) rfl ?_); refine goesL_ (some 81) rfl rfl Try.func29 (by kernel_rfl) rfl #[.slice Ao62 t484.length co62, .slice Ao63 t459.length co63] rfl (by (try simp only [mA, mC, mN]); first | done | rfl | (simp only [lD, lT]; rfl)) ?_; (with_reducible refine (laws_eqPegS.calls kj27 _ _ t484 _ _ t459 false _ ?side1 ?side2 ?side3 ?side4 A57.out).mono ?_); (case side1 => repeat (first | exact (rR HO487.out).2.2 | (with_reducible refine cA ?_ _) | (with_reducible refine cN ?_ _) | (with_reducible refine cD ?_))); (case side2 => exact (rR HO487.out).2.1); (case side3 => repeat (first | exact (rR HO_4.out).2.2 | (with_reducible refine cA ?_ _) | (with_reducible refine cN ?_ _) | (with_reducible refine cD ?_))); (case side4 => exact (rR HO_4.out).2.1); rintro e w64 ⟨rfl, hb⟩; refine ⟨_, rfl, ?_⟩; have n0_ := aM (Kd.R_below (by (with_reducible repeat (first | apply rA | apply rN | apply rD)); exact HO_4.out) hb); have n1_ := aM (Kd.R_below (by (with_reducible repeat (first | apply rA | apply rN | apply rD)); exact HO_7.out) hb); have n2_ := aM (Kd.R_below (by (with_reducible repeat (first | apply rA | apply rN | apply rD)); exact HO483.out) hb); have n3_ := aM (Kd.R_below (by (with_reducible repeat (first | apply rA | apply rN | apply rD)); exact HO487.out) hb); have n4_ := aM (pT (by repeat (first | (with_reducible first | exact HB.out | apply pA | apply pN | apply pD) | exact HB.out)) hb); clear HO_4; clear HO_7; clear HO483; clear HO487; clear HB; have HO_4 := n0_; have HO_7 := n1_; have HO483 := n2_; have HO487 := n3_; have HB := n4_; clear n0_ n1_ n2_ n3_ n4_; (try clear hb); (try clear hb2); (try clear hk); (try clear hi)))
             go_meet
             case rel => exact ⟨_, (true), (by first | rfl | (simp; done) | (simp [*]; done)), H', ⟨by have := HJ7.out; have := HJ27.out; first | omega | exact Nat.le_refl _⟩, ⟨by (with_reducible repeat (first | apply rA | apply rN | apply rD)); exact Kd.R_mono HO_7.out (fun _ hk => trivial)⟩, ⟨by repeat (first | (with_reducible first | exact HB.out | apply pA | apply pN | apply pD) | exact HB.out)⟩⟩
           case rest =>
            clear HC51
            try clear c1
            try clear c2
            try clear p2
            try clear c3
            try clear c3b0
            try clear c4
            try clear c5
            try clear c8
            try clear c16
            try clear c23
            try clear c25
            try clear c26
            try clear c27
            try clear c29
            try clear c33
            try clear c33b0
            try clear c35
            try clear c36
            try clear c41
            try clear c42
            try clear c45
            try clear c45b0
            try clear c48
            try clear c48b0
            try clear c48b1
            try clear c58
            try clear p2
            obtain ⟨kq, x87_50, rfl, HA, HJ50, HO_7, HB⟩ := hcut
            have hl7_50 := (rR HO_7.out).1
            rw [hl7_50] at HO_7
            (try simp only [hl7_50])
            cases kq with
            | zero => exact absurd HA.out (by simp [laws_FnExactMirrorPolygon.j2])
            | succ kj50 =>
             have H := HA.out
             clear HA
             simp only [laws_FnExactMirrorPolygon.j2] at H
             by_cases c65 : x87_50 = true
             ·subst c65
              have H1 : (some false) = some r := by rw [if_pos rfl] at H; exact H
              clear H
              have H := H1
              clear H1
              obtain rfl := Option.some.inj H
              go_wp2
              go_ret
              exact ⟨by first | rfl | (simp [errW_none, errW_some] <;> rfl) | (simp [*, errW_none, errW_some] <;> rfl), by repeat (first | (with_reducible first | exact HB.out | apply pA | apply pN | apply pD) | exact HB.out)⟩
             ·replace c65 := Bool.eq_false_iff.mpr c65
              subst c65
              have H1 : ((laws_heldPegS.f kj50 t479 1).bind fun t489 => (if t489 < 0 then (some false) else (if t489 = t478 then (some true) else (some false)))) = some r := by rw [if_neg (show ¬ (false = true) by decide)] at H; exact H
              clear H
              have H := H1
              clear H1
              replace H := oB.mp H
              obtain ⟨t489, A660, H⟩ := H
              replace H : (if t489 < 0 then (some false) else (if t489 = t478 then (some true) else (some false))) = some r := H
              have A66 := aM A660
              clear A660
              by_cases c67 : t489 < 0
              ·rw [if_pos c67] at H
               have c67b0 : decide (t489 < 0) = true := dE c67
               clear c67
               obtain rfl := Option.some.inj H
               go_wp2_with (first | ((with_reducible refine gC (f := 36) rfl ?_); refine goesL_ (some 90) rfl rfl Try.func36 (by kernel_rfl) rfl #[.slice Ao52 t479.length co52, .int .i64 1] rfl (by (try simp only [mA, mC, mN]); first | done | rfl | (simp only [lD, lT]; rfl)) ?_; (with_reducible refine (laws_heldPegS.calls kj50 _ _ t479 1 t489 _ ?side1 ?side2 A66.out).mono ?_); (case side1 => repeat (first | exact (rR HO_7.out).2.2 | (with_reducible refine cA ?_ _) | (with_reducible refine cN ?_ _) | (with_reducible refine cD ?_))); (case side2 => exact (rR HO_7.out).2.1); rintro e w' ⟨rfl, ⟨nd, rfl⟩⟩; refine ⟨_, rfl, ?_⟩))
               go_ret
               exact ⟨by first | rfl | (simp [errW_none, errW_some] <;> rfl) | (simp [*, errW_none, errW_some] <;> rfl), by repeat (first | (with_reducible first | exact HB.out | apply pA | apply pN | apply pD) | exact HB.out)⟩
              ·rw [if_neg c67] at H
               have c67b0 : decide (t489 < 0) = false := decide_eq_false c67
               clear c67
               by_cases c68 : t489 = t478
               ·rw [if_pos c68] at H
                have c68b0 : (t489 == t478) = true := beq_iff_eq.mpr c68
                have c68b1 : (t489 != t478) = false := bne_eq_false_iff_eq.mpr c68
                clear c68
                obtain rfl := Option.some.inj H
                go_wp2_with (first | ((with_reducible refine gC (f := 36) rfl ?_); refine goesL_ (some 90) rfl rfl Try.func36 (by kernel_rfl) rfl #[.slice Ao52 t479.length co52, .int .i64 1] rfl (by (try simp only [mA, mC, mN]); first | done | rfl | (simp only [lD, lT]; rfl)) ?_; (with_reducible refine (laws_heldPegS.calls kj50 _ _ t479 1 t489 _ ?side1 ?side2 A66.out).mono ?_); (case side1 => repeat (first | exact (rR HO_7.out).2.2 | (with_reducible refine cA ?_ _) | (with_reducible refine cN ?_ _) | (with_reducible refine cD ?_))); (case side2 => exact (rR HO_7.out).2.1); rintro e w' ⟨rfl, ⟨nd, rfl⟩⟩; refine ⟨_, rfl, ?_⟩))
                go_ret
                exact ⟨by first | rfl | (simp [errW_none, errW_some] <;> rfl) | (simp [*, errW_none, errW_some] <;> rfl), by repeat (first | (with_reducible first | exact HB.out | apply pA | apply pN | apply pD) | exact HB.out)⟩
               ·rw [if_neg c68] at H
                have c68b0 : (t489 == t478) = false := beq_eq_false_iff_ne.mpr c68
                have c68b1 : (t489 != t478) = true := bne_iff_ne.mpr c68
                obtain rfl := Option.some.inj H
                go_wp2_with (first | ((with_reducible refine gC (f := 36) rfl ?_); refine goesL_ (some 90) rfl rfl Try.func36 (by kernel_rfl) rfl #[.slice Ao52 t479.length co52, .int .i64 1] rfl (by (try simp only [mA, mC, mN]); first | done | rfl | (simp only [lD, lT]; rfl)) ?_; (with_reducible refine (laws_heldPegS.calls kj50 _ _ t479 1 t489 _ ?side1 ?side2 A66.out).mono ?_); (case side1 => repeat (first | exact (rR HO_7.out).2.2 | (with_reducible refine cA ?_ _) | (with_reducible refine cN ?_ _) | (with_reducible refine cD ?_))); (case side2 => exact (rR HO_7.out).2.1); rintro e w' ⟨rfl, ⟨nd, rfl⟩⟩; refine ⟨_, rfl, ?_⟩))
                go_ret
                exact ⟨by first | rfl | (simp [errW_none, errW_some] <;> rfl) | (simp [*, errW_none, errW_some] <;> rfl), by repeat (first | (with_reducible first | exact HB.out | apply pA | apply pN | apply pD) | exact HB.out)⟩
          ·rw [if_neg c48] at H
           have c48b0 : (t480 == t478) = false := beq_eq_false_iff_ne.mpr c48
           have c48b1 : (t480 != t478) = true := bne_iff_ne.mpr c48
           obtain rfl := Option.some.inj H
           obtain ⟨Ao69, co69, eo69⟩ := Kd.R_slice HO_7.out
           subst eo69
           go_wp2_with (first | ((with_reducible refine gC (f := 35) rfl ?_); refine goesL_ (some 64) rfl rfl Try.func35 (by kernel_rfl) rfl #[.slice Ao69 t466.length co69, .int .i64 1] rfl (by (try simp only [mA, mC, mN]); first | done | rfl | (simp only [lD, lT]; rfl)) ?_; (with_reducible refine (laws_markPegS.calls kj27 (fun k_ => some k_ = (.slice Ao69 t466.length co69 : Value).ownBlock) (.slice Ao69 t466.length co69) t466 1 t478 t479 w _ ?side1 ?side2 A43.out).mono ?_); (case side1 => repeat (first | (with_reducible first | exact HB.out | apply pA | apply pN | apply pD) | exact HB.out)); (case side2 => exact Kd.R_tight rfl HO_7.out); rintro e w70 ⟨rfl, hy0, hb, hkp⟩; refine ⟨_, rfl, ?_⟩; have n0_ := aM (Kd.R_mono (ok' := fun k_ => some k_ ≠ (.slice Ao69 t466.length co69 : Value).ownBlock) (Kd.R_keptB (HO_4.out) hkp (fun k_ hk_ hs_ => (hk_) hs_)) (fun k_ hk_ => hk_.1)); have n1_ := aM (Kd.R_reok rfl hy0 (fun k_ e_ => HO_7.out.1 k_ e_)); have n2_ := aM (hb); clear HO_4; clear HO_7; clear HB; have HO_4 := n0_; have HO_7 := n1_; have HB := n2_; clear n0_ n1_ n2_; (try clear hb); (try clear hkp); (try clear hy0)) | ((with_reducible refine gC (f := 36) rfl ?_); refine goesL_ (some 67) rfl rfl Try.func36 (by kernel_rfl) rfl #[.slice Ao69 t479.length co69, .int .i64 1] rfl (by (try simp only [mA, mC, mN]); first | done | (rw [show t479.length = t466.length from (rR HO_7.out).1.symm] <;> rfl) | rfl | (simp only [lD, lT]; rfl)) ?_; (with_reducible refine (laws_heldPegS.calls kj27 _ _ t479 1 t480 _ ?side1 ?side2 A44.out).mono ?_); (case side1 => repeat (first | exact (rR HO_7.out).2.2 | (with_reducible refine cA ?_ _) | (with_reducible refine cN ?_ _) | (with_reducible refine cD ?_))); (case side2 => rw [show t479.length = t466.length from (rR HO_7.out).1.symm]; exact (rR HO_7.out).2.1); rintro e w' ⟨rfl, ⟨nd, rfl⟩⟩; refine ⟨_, rfl, ?_⟩))
           go_ret
           exact ⟨by first | rfl | (simp [errW_none, errW_some] <;> rfl) | (simp [*, errW_none, errW_some] <;> rfl), by repeat (first | (with_reducible first | exact HB.out | apply pA | apply pN | apply pD) | exact HB.out)⟩
     ·replace c26 := Bool.eq_false_iff.mpr c26
      subst c26
      have H1 : (some false) = some r := by rw [if_neg (show ¬ (false = true) by decide)] at H; exact H
      clear H
      have H := H1
      clear H1
      obtain rfl := Option.some.inj H
      go_wp2_with (first | ((with_reducible refine gC (f := 27) rfl ?_); refine goesL_ (some 43) rfl rfl Try.func27 (by kernel_rfl) rfl #[.slice A0 l0.length c0] rfl (by (try simp only [mA, mC, mN]); first | done | rfl | (simp only [lD, lT]; rfl)) ?_; (with_reducible refine (laws_toPegS.calls kj7 _ _ l0 t471 _ ?side1 ?side2 A24.out).mono ?_); (case side1 => repeat (first | exact (Kd.C_below HR0.out HB.out) | (with_reducible refine cA ?_ _) | (with_reducible refine cN ?_ _) | (with_reducible refine cD ?_))); (case side2 => exact HC0.out); rintro e w71 ⟨v472, rfl, ho0, hb⟩; refine ⟨_, rfl, ?_⟩; have n0_ := aM (Kd.R_elder' (by (with_reducible repeat (first | apply rA | apply rN | apply rD)); exact HO_4.out) (Kd.R_base ho0) hb); have n1_ := aM (Kd.R_elder' (by (with_reducible repeat (first | apply rA | apply rN | apply rD)); exact HO_6.out) (Kd.R_base ho0) hb); have n2_ := aM (Kd.R_elder' (by (with_reducible repeat (first | apply rA | apply rN | apply rD)); exact HO_7.out) (Kd.R_base ho0) hb); have n3_ := aM (Kd.R_lower (Kd.R_new' (Kd.R_new' (Kd.R_new' ho0 (Kd.R_lt (by (with_reducible repeat (first | apply rA | apply rN | apply rD)); exact HO_4.out))) (Kd.R_lt (by (with_reducible repeat (first | apply rA | apply rN | apply rD)); exact HO_6.out))) (Kd.R_lt (by (with_reducible repeat (first | apply rA | apply rN | apply rD)); exact HO_7.out))) (pZ (by repeat (first | (with_reducible first | exact HB.out | apply pA | apply pN | apply pD) | exact HB.out)))); have n4_ := aM (pT (by repeat (first | (with_reducible first | exact HB.out | apply pA | apply pN | apply pD) | exact HB.out)) hb); clear HO_4; clear HO_6; clear HO_7; clear HB; have HO_4 := n0_; have HO_6 := n1_; have HO_7 := n2_; have HO473 := n3_; have HB := n4_; clear n0_ n1_ n2_ n3_ n4_; (try clear hb); (try clear hb2); (try clear hk); (try clear hi); (try clear ho0); obtain ⟨Ao72, co72, eo72⟩ := Kd.R_slice HO473.out; subst eo72) | ((with_reducible refine gC (f := 29) rfl ?_); refine goesL_ (some 44) rfl rfl Try.func29 (by kernel_rfl) rfl #[.slice Ao13 t463.length co13, .slice Ao72 t471.length co72] rfl (by (try simp only [mA, mC, mN]); first | done | rfl | (simp only [lD, lT]; rfl)) ?_; (with_reducible refine (laws_eqPegS.calls kj7 _ _ t463 _ _ t471 false _ ?side1 ?side2 ?side3 ?side4 A25.out).mono ?_); (case side1 => repeat (first | exact (rR HO_6.out).2.2 | (with_reducible refine cA ?_ _) | (with_reducible refine cN ?_ _) | (with_reducible refine cD ?_))); (case side2 => exact (rR HO_6.out).2.1); (case side3 => repeat (first | exact (rR HO473.out).2.2 | (with_reducible refine cA ?_ _) | (with_reducible refine cN ?_ _) | (with_reducible refine cD ?_))); (case side4 => exact (rR HO473.out).2.1); rintro e w73 ⟨rfl, hb⟩; refine ⟨_, rfl, ?_⟩; have n0_ := aM (Kd.R_below (by (with_reducible repeat (first | apply rA | apply rN | apply rD)); exact HO_4.out) hb); have n1_ := aM (Kd.R_below (by (with_reducible repeat (first | apply rA | apply rN | apply rD)); exact HO_6.out) hb); have n2_ := aM (Kd.R_below (by (with_reducible repeat (first | apply rA | apply rN | apply rD)); exact HO_7.out) hb); have n3_ := aM (Kd.R_below (by (with_reducible repeat (first | apply rA | apply rN | apply rD)); exact HO473.out) hb); have n4_ := aM (pT (by repeat (first | (with_reducible first | exact HB.out | apply pA | apply pN | apply pD) | exact HB.out)) hb); clear HO_4; clear HO_6; clear HO_7; clear HO473; clear HB; have HO_4 := n0_; have HO_6 := n1_; have HO_7 := n2_; have HO473 := n3_; have HB := n4_; clear n0_ n1_ n2_ n3_ n4_; (try clear hb); (try clear hb2); (try clear hk); (try clear hi)))
      go_ret
      exact ⟨by first | rfl | (simp [errW_none, errW_some] <;> rfl) | (simp [*, errW_none, errW_some] <;> rfl), by repeat (first | (with_reducible first | exact HB.out | apply pA | apply pN | apply pD) | exact HB.out)⟩

def laws_FnExactMirrorPolygon.Pure : Prop := ∀ (l0 : List (S_laws_Peg)), OkL (fun y : S_laws_Peg => (okInt .i64) y.f0 ∧ (okInt .i64) y.f1) l0 → ∃ k, laws_FnExactMirrorPolygon.f k l0 = some true

end Go.Proofs.Ytiacfkilmknldaa.X
