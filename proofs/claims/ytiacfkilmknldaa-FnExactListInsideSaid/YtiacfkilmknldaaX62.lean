-- thin
-- short
import Derived.Test.YtiacfkilmknldaaXA
import Derived.Test.YtiacfkilmknldaaX0
import Derived.Test.YtiacfkilmknldaaX2
import Derived.Test.YtiacfkilmknldaaX7
import Derived.Test.YtiacfkilmknldaaX13
import Derived.Test.YtiacfkilmknldaaX23
import Derived.Test.YtiacfkilmknldaaX59
import Derived.Test.YtiacfkilmknldaaX61
namespace Go.Proofs.Ytiacfkilmknldaa.X
open Go.RowKit Go.Proofs.Ytiacfkilmknldaa.XW Go.Proofs.YtiacfkilmknldaaW.PrintWords Go.Proofs.YtiacfkilmknldaaW.PrintLast Go.Proofs.YtiacfkilmknldaaW.PrintMore
attribute [local go_sem] max2_int min2_int max_two min_two max_three min_three max_four min_four   -- for this text's walks alone
set_option linter.unusedVariables false
set_option linter.unusedSimpArgs false

mutual
def laws_FnExactListInside.j0 : Nat → List (S_laws_Peg) → List (S_impl_Peg) → Bool → List (S_impl_Peg) → List (S_impl_Peg) → Bool → Bool → Option (Bool)
 | 0, _, _, _, _, _, _, _ => none
 | k + 1, x0, x4, x5, x6, x7, x8, x40 => if x40 = true then (some false) else ((laws_toPegS.f k x0).bind fun t1038 => ((laws_eqPegS.f k x6 t1038).bind fun t1041 => (if t1041 = true then ((laws_markPegS.f k x6 1).bind fun bt1042 => (if bt1042.1 < 0 then (laws_FnExactListInside.j1 k x0 x4 x5 x7 true) else ((laws_eqPegS.f k x7 x4).bind fun t1044 => (if t1044 = true then (laws_FnExactListInside.j1 k x0 x4 x5 x7 (x8 != x5)) else (laws_FnExactListInside.j1 k x0 x4 x5 x7 true))))) else (some false))))
def laws_FnExactListInside.j1 : Nat → List (S_laws_Peg) → List (S_impl_Peg) → Bool → List (S_impl_Peg) → Bool → Option (Bool)
 | 0, _, _, _, _, _ => none
 | k + 1, x0, x4, x5, x7, x61 => if x61 = true then (some false) else ((laws_markPegS.f k x7 1).bind fun bt1045 => ((laws_heldPegS.f k bt1045.2 1).bind fun t1047 => (if t1047 < 0 then (some false) else (if t1047 = bt1045.1 then ((laws_toPegS.f k x0).bind fun t1048 => ((impl_ListInside.f k t1048).bind fun bt1051 => ((laws_eqPegS.f k bt1051.1 x4).bind fun t1055 => (if t1055 = true then (laws_FnExactListInside.j2 k bt1045.2 bt1045.1 (bt1051.2 != x5)) else (laws_FnExactListInside.j2 k bt1045.2 bt1045.1 true))))) else (some false)))))
def laws_FnExactListInside.j2 : Nat → List (S_impl_Peg) → Int → Bool → Option (Bool)
 | 0, _, _, _ => none
 | k + 1, x7, x10, x87 => if x87 = true then (some false) else ((laws_heldPegS.f k x7 1).bind fun t1056 => (if t1056 < 0 then (some false) else (if t1056 = x10 then (some true) else (some false))))
end
def laws_FnExactListInside.f (k : Nat) (l0 : List (S_laws_Peg)) : Option (Bool) := (laws_szPegS.f l0 1048576).bind fun t1022 => (if t1022 < 0 then (some true) else ((laws_toPegS.f k l0).bind fun t1023 => ((spec_ListInside.f k t1023).bind fun bt1026 => ((laws_toPegS.f k l0).bind fun t1030 => ((impl_ListInside.f k t1030).bind fun bt1033 => ((laws_eqPegS.f k bt1033.1 bt1026.1).bind fun t1037 => (if t1037 = true then (laws_FnExactListInside.j0 k l0 bt1026.1 bt1026.2 t1030 bt1033.1 bt1033.2 (bt1033.2 != bt1026.2)) else (laws_FnExactListInside.j0 k l0 bt1026.1 bt1026.2 t1030 bt1033.1 bt1033.2 true))))))))
theorem laws_FnExactListInside.mono_l : ∀ k, (∀ y0 y1 y2 y3 y4 y5 y6, LeO (laws_FnExactListInside.j0 k y0 y1 y2 y3 y4 y5 y6) (laws_FnExactListInside.j0 (k + 1) y0 y1 y2 y3 y4 y5 y6)) ∧ (∀ y0 y1 y2 y3 y4, LeO (laws_FnExactListInside.j1 k y0 y1 y2 y3 y4) (laws_FnExactListInside.j1 (k + 1) y0 y1 y2 y3 y4)) ∧ (∀ y0 y1 y2, LeO (laws_FnExactListInside.j2 k y0 y1 y2) (laws_FnExactListInside.j2 (k + 1) y0 y1 y2))
 | 0 => ⟨fun _ _ _ _ _ _ _ r h => by simp [laws_FnExactListInside.j0] at h, fun _ _ _ _ _ r h => by simp [laws_FnExactListInside.j1] at h, fun _ _ _ r h => by simp [laws_FnExactListInside.j2] at h⟩
 | k + 1 => by
  obtain ⟨ih0, ih1, ih2⟩ := laws_FnExactListInside.mono_l k
  refine ⟨?_, ?_, ?_⟩
  ·intro y0 y1 y2 y3 y4 y5 y6
   unfold laws_FnExactListInside.j0
   repeat' first
   | (with_reducible exact ih0 _ _ _ _ _ _ _)
   | (with_reducible exact ih1 _ _ _ _ _)
   | (with_reducible exact ih2 _ _ _)
   | (with_reducible exact impl_ListInside.mono _ _)
   | (with_reducible exact laws_eqPegS.mono _ _ _)
   | (with_reducible exact laws_heldPegS.mono _ _ _)
   | (with_reducible exact laws_markPegS.mono _ _ _)
   | (with_reducible exact laws_toPegS.mono _ _)
   | (with_reducible exact spec_ListInside.mono _ _)
   | (with_reducible exact LeO.refl _)
   | (with_reducible exact LeO.none _)
   | (with_reducible refine LeO.ite ?_ ?_)
   | (with_reducible refine LeO.bind ?_ (fun _ => ?_))
   | exact ih0 _ _ _ _ _ _ _
   | exact ih1 _ _ _ _ _
   | exact ih2 _ _ _
   | exact impl_ListInside.mono _ _
   | exact laws_eqPegS.mono _ _ _
   | exact laws_heldPegS.mono _ _ _
   | exact laws_markPegS.mono _ _ _
   | exact laws_toPegS.mono _ _
   | exact spec_ListInside.mono _ _
   | exact LeO.none _
   | refine LeO.ite ?_ ?_
   | refine LeO.bind ?_ (fun _ => ?_)
  ·intro y0 y1 y2 y3 y4
   unfold laws_FnExactListInside.j1
   repeat' first
   | (with_reducible exact ih0 _ _ _ _ _ _ _)
   | (with_reducible exact ih1 _ _ _ _ _)
   | (with_reducible exact ih2 _ _ _)
   | (with_reducible exact impl_ListInside.mono _ _)
   | (with_reducible exact laws_eqPegS.mono _ _ _)
   | (with_reducible exact laws_heldPegS.mono _ _ _)
   | (with_reducible exact laws_markPegS.mono _ _ _)
   | (with_reducible exact laws_toPegS.mono _ _)
   | (with_reducible exact spec_ListInside.mono _ _)
   | (with_reducible exact LeO.refl _)
   | (with_reducible exact LeO.none _)
   | (with_reducible refine LeO.ite ?_ ?_)
   | (with_reducible refine LeO.bind ?_ (fun _ => ?_))
   | exact ih0 _ _ _ _ _ _ _
   | exact ih1 _ _ _ _ _
   | exact ih2 _ _ _
   | exact impl_ListInside.mono _ _
   | exact laws_eqPegS.mono _ _ _
   | exact laws_heldPegS.mono _ _ _
   | exact laws_markPegS.mono _ _ _
   | exact laws_toPegS.mono _ _
   | exact spec_ListInside.mono _ _
   | exact LeO.none _
   | refine LeO.ite ?_ ?_
   | refine LeO.bind ?_ (fun _ => ?_)
  ·intro y0 y1 y2
   unfold laws_FnExactListInside.j2
   repeat' first
   | (with_reducible exact ih0 _ _ _ _ _ _ _)
   | (with_reducible exact ih1 _ _ _ _ _)
   | (with_reducible exact ih2 _ _ _)
   | (with_reducible exact impl_ListInside.mono _ _)
   | (with_reducible exact laws_eqPegS.mono _ _ _)
   | (with_reducible exact laws_heldPegS.mono _ _ _)
   | (with_reducible exact laws_markPegS.mono _ _ _)
   | (with_reducible exact laws_toPegS.mono _ _)
   | (with_reducible exact spec_ListInside.mono _ _)
   | (with_reducible exact LeO.refl _)
   | (with_reducible exact LeO.none _)
   | (with_reducible refine LeO.ite ?_ ?_)
   | (with_reducible refine LeO.bind ?_ (fun _ => ?_))
   | exact ih0 _ _ _ _ _ _ _
   | exact ih1 _ _ _ _ _
   | exact ih2 _ _ _
   | exact impl_ListInside.mono _ _
   | exact laws_eqPegS.mono _ _ _
   | exact laws_heldPegS.mono _ _ _
   | exact laws_markPegS.mono _ _ _
   | exact laws_toPegS.mono _ _
   | exact spec_ListInside.mono _ _
   | exact LeO.none _
   | refine LeO.ite ?_ ?_
   | refine LeO.bind ?_ (fun _ => ?_)
theorem laws_FnExactListInside.mono : ∀ a0 k, LeO (laws_FnExactListInside.f k a0) (laws_FnExactListInside.f (k + 1) a0) := by
 intro a0 k
 obtain ⟨ih0, ih1, ih2⟩ := laws_FnExactListInside.mono_l k
 unfold laws_FnExactListInside.f
 repeat' first
   | (with_reducible exact ih0 _ _ _ _ _ _ _)
   | (with_reducible exact ih1 _ _ _ _ _)
   | (with_reducible exact ih2 _ _ _)
   | (with_reducible exact impl_ListInside.mono _ _)
   | (with_reducible exact laws_eqPegS.mono _ _ _)
   | (with_reducible exact laws_heldPegS.mono _ _ _)
   | (with_reducible exact laws_markPegS.mono _ _ _)
   | (with_reducible exact laws_toPegS.mono _ _)
   | (with_reducible exact spec_ListInside.mono _ _)
   | (with_reducible exact LeO.refl _)
   | (with_reducible exact LeO.none _)
   | (with_reducible refine LeO.ite ?_ ?_)
   | (with_reducible refine LeO.bind ?_ (fun _ => ?_))
   | exact ih0 _ _ _ _ _ _ _
   | exact ih1 _ _ _ _ _
   | exact ih2 _ _ _
   | exact impl_ListInside.mono _ _
   | exact laws_eqPegS.mono _ _ _
   | exact laws_heldPegS.mono _ _ _
   | exact laws_markPegS.mono _ _ _
   | exact laws_toPegS.mono _ _
   | exact spec_ListInside.mono _ _
   | exact LeO.none _
   | refine LeO.ite ?_ ?_
   | refine LeO.bind ?_ (fun _ => ?_)
set_option maxHeartbeats 8000000 in
set_option maxRecDepth 100000 in
theorem laws_FnExactListInside.calls (k : Nat) (A0 : Option Addr) (c0 : Nat) (l0 : List (S_laws_Peg)) (r : Bool) (w : World) (hr0 : Kd.C kd_laws_Peg w A0 l0.length l0) (hc0 : l0.length ≤ c0) (h : laws_FnExactListInside.f k l0 = some r) :
  Calls Try.prog 23 #[.slice A0 l0.length c0] w fun e w' => e = .returned (.bool r) ∧ Below w.heap.size w w' := by
 have HR0 := aM hr0
 have HC0 := aM hc0
 clear hr0 hc0
 have HB := aM (Below.refl w.heap.size w)
 have H : ((laws_szPegS.f l0 1048576).bind fun t1022 => (if t1022 < 0 then (some true) else ((laws_toPegS.f k l0).bind fun t1023 => ((spec_ListInside.f k t1023).bind fun bt1026 => ((laws_toPegS.f k l0).bind fun t1030 => ((impl_ListInside.f k t1030).bind fun bt1033 => ((laws_eqPegS.f k bt1033.1 bt1026.1).bind fun t1037 => (if t1037 = true then (laws_FnExactListInside.j0 k l0 bt1026.1 bt1026.2 t1030 bt1033.1 bt1033.2 (bt1033.2 != bt1026.2)) else (laws_FnExactListInside.j0 k l0 bt1026.1 bt1026.2 t1030 bt1033.1 bt1033.2 true))))))))) = some r := h
 clear h
 replace H := oB.mp H
 obtain ⟨t1022, A20, H⟩ := H
 replace H : (if t1022 < 0 then (some true) else ((laws_toPegS.f k l0).bind fun t1023 => ((spec_ListInside.f k t1023).bind fun bt1026 => ((laws_toPegS.f k l0).bind fun t1030 => ((impl_ListInside.f k t1030).bind fun bt1033 => ((laws_eqPegS.f k bt1033.1 bt1026.1).bind fun t1037 => (if t1037 = true then (laws_FnExactListInside.j0 k l0 bt1026.1 bt1026.2 t1030 bt1033.1 bt1033.2 (bt1033.2 != bt1026.2)) else (laws_FnExactListInside.j0 k l0 bt1026.1 bt1026.2 t1030 bt1033.1 bt1033.2 true)))))))) = some r := H
 have A2 := aM A20
 clear A20
 by_cases c3 : t1022 < 0
 ·rw [if_pos c3] at H
  have c3b0 : decide (t1022 < 0) = true := dE c3
  clear c3
  obtain rfl := Option.some.inj H
  go_enter Try.func23, Try.ntmps23
  go_wp2_with (first | ((with_reducible refine gC (f := 25) rfl ?_); refine goesL_ (some 16) rfl rfl Try.func25 kR rfl #[.slice A0 l0.length c0, .int .i64 1048576] rfl sQ ?_; (with_reducible refine (laws_szPegS.calls _ _ l0 1048576 t1022 _ ?side1 ?side2 A2.out).mono ?_); (case side1 => repeat (first | exact HR0.out | (with_reducible refine cA ?_ _) | (with_reducible refine cN ?_ _) | (with_reducible refine cD ?_))); (case side2 => exact HC0.out); rintro e w' ⟨rfl, ⟨nd, rfl⟩⟩; refine ⟨_, rfl, ?_⟩))
  go_ret
  exact ⟨by first | rfl | (simp [errW_none, errW_some] <;> rfl) | (simp [*, errW_none, errW_some] <;> rfl), bQ⟩
 ·rw [if_neg c3] at H
  have c3b0 : decide (t1022 < 0) = false := decide_eq_false c3
  clear c3
  replace H := oB.mp H
  obtain ⟨t1023, A40, H⟩ := H
  replace H : ((spec_ListInside.f k t1023).bind fun bt1026 => ((laws_toPegS.f k l0).bind fun t1030 => ((impl_ListInside.f k t1030).bind fun bt1033 => ((laws_eqPegS.f k bt1033.1 bt1026.1).bind fun t1037 => (if t1037 = true then (laws_FnExactListInside.j0 k l0 bt1026.1 bt1026.2 t1030 bt1033.1 bt1033.2 (bt1033.2 != bt1026.2)) else (laws_FnExactListInside.j0 k l0 bt1026.1 bt1026.2 t1030 bt1033.1 bt1033.2 true)))))) = some r := H
  have A4 := aM A40
  clear A40
  replace H := oB.mp H
  obtain ⟨⟨t1026, t1027⟩, A50, H⟩ := H
  replace H : ((laws_toPegS.f k l0).bind fun t1030 => ((impl_ListInside.f k t1030).bind fun bt1033 => ((laws_eqPegS.f k bt1033.1 t1026).bind fun t1037 => (if t1037 = true then (laws_FnExactListInside.j0 k l0 t1026 t1027 t1030 bt1033.1 bt1033.2 (bt1033.2 != t1027)) else (laws_FnExactListInside.j0 k l0 t1026 t1027 t1030 bt1033.1 bt1033.2 true))))) = some r := H
  have A5 := aM A50
  clear A50
  replace H := oB.mp H
  obtain ⟨t1030, A60, H⟩ := H
  replace H : ((impl_ListInside.f k t1030).bind fun bt1033 => ((laws_eqPegS.f k bt1033.1 t1026).bind fun t1037 => (if t1037 = true then (laws_FnExactListInside.j0 k l0 t1026 t1027 t1030 bt1033.1 bt1033.2 (bt1033.2 != t1027)) else (laws_FnExactListInside.j0 k l0 t1026 t1027 t1030 bt1033.1 bt1033.2 true)))) = some r := H
  have A6 := aM A60
  clear A60
  replace H := oB.mp H
  obtain ⟨⟨t1033, t1034⟩, A70, H⟩ := H
  replace H : ((laws_eqPegS.f k t1033 t1026).bind fun t1037 => (if t1037 = true then (laws_FnExactListInside.j0 k l0 t1026 t1027 t1030 t1033 t1034 (t1034 != t1027)) else (laws_FnExactListInside.j0 k l0 t1026 t1027 t1030 t1033 t1034 true))) = some r := H
  have A7 := aM A70
  clear A70
  have HC8 := aM H
  clear H
  go_enter Try.func23, Try.ntmps23
  go_upto_region 8 with (first | ((with_reducible refine gC (f := 25) rfl ?_); refine goesL_ (some 16) rfl rfl Try.func25 kR rfl #[.slice A0 l0.length c0, .int .i64 1048576] rfl sQ ?_; (with_reducible refine (laws_szPegS.calls _ _ l0 1048576 t1022 _ ?side1 ?side2 A2.out).mono ?_); (case side1 => repeat (first | exact HR0.out | (with_reducible refine cA ?_ _) | (with_reducible refine cN ?_ _) | (with_reducible refine cD ?_))); (case side2 => exact HC0.out); rintro e w' ⟨rfl, ⟨nd, rfl⟩⟩; refine ⟨_, rfl, ?_⟩) | ((with_reducible refine gC (f := 27) rfl ?_); refine goesL_ (some 21) rfl rfl Try.func27 kR rfl #[.slice A0 l0.length c0] rfl sQ ?_; (with_reducible refine (laws_toPegS.calls k _ _ l0 t1023 _ ?side1 ?side2 A4.out).mono ?_); (case side1 => repeat (first | exact HR0.out | (with_reducible refine cA ?_ _) | (with_reducible refine cN ?_ _) | (with_reducible refine cD ?_))); (case side2 => exact HC0.out); rintro e w9 ⟨v1024, rfl, ho0, hb⟩; refine ⟨_, rfl, ?_⟩; have n0_ := aM (Kd.R_lower ho0 (pZ bQ)); have n1_ := aM (pT bQ hb); clear HB; have HO1025 := n0_; have HB := n1_; clear n0_ n1_; (try clear hb); (try clear hb2); (try clear hk); (try clear hi); (try clear ho0); obtain ⟨Ao10, co10, eo10⟩ := Kd.R_slice HO1025.out; subst eo10) | ((with_reducible refine gC (f := 76) rfl ?_); refine goesL_ (some 22) rfl rfl Try.func76 kR rfl #[.slice Ao10 t1023.length co10] rfl sQ ?_; (with_reducible refine (spec_ListInside.calls k _ _ t1023 t1026 t1027 _ ?side1 ?side2 A5.out).mono ?_); (case side1 => repeat (first | exact (rR HO1025.out).2.2 | (with_reducible refine cA ?_ _) | (with_reducible refine cN ?_ _) | (with_reducible refine cD ?_))); (case side2 => exact (rR HO1025.out).2.1); rintro e w11 ⟨v1028, rfl, ho0, hb⟩; refine ⟨_, rfl, ?_⟩; have n0_ := aM (Kd.R_elder' (by (with_reducible repeat (first | apply rA | apply rN | apply rD)); exact HO1025.out) (Kd.R_base ho0) hb); have n1_ := aM (Kd.R_lower (Kd.R_new' ho0 (Kd.R_lt (by (with_reducible repeat (first | apply rA | apply rN | apply rD)); exact HO1025.out))) (pZ bQ)); have n2_ := aM (pT bQ hb); clear HO1025; clear HB; have HO1025 := n0_; have HO1029 := n1_; have HB := n2_; clear n0_ n1_ n2_; (try clear hb); (try clear hb2); (try clear hk); (try clear hi); (try clear ho0)) | ((with_reducible refine gC (f := 27) rfl ?_); refine goesL_ (some 26) rfl rfl Try.func27 kR rfl #[.slice A0 l0.length c0] rfl sQ ?_; (with_reducible refine (laws_toPegS.calls k _ _ l0 t1030 _ ?side1 ?side2 A6.out).mono ?_); (case side1 => repeat (first | exact (Kd.C_below HR0.out HB.out) | (with_reducible refine cA ?_ _) | (with_reducible refine cN ?_ _) | (with_reducible refine cD ?_))); (case side2 => exact HC0.out); rintro e w12 ⟨v1031, rfl, ho0, hb⟩; refine ⟨_, rfl, ?_⟩; have n0_ := aM (Kd.R_elder' (by (with_reducible repeat (first | apply rA | apply rN | apply rD)); exact HO1025.out) (Kd.R_base ho0) hb); have n1_ := aM (Kd.R_elder' (by (with_reducible repeat (first | apply rA | apply rN | apply rD)); exact HO1029.out) (Kd.R_base ho0) hb); have n2_ := aM (Kd.R_lower (Kd.R_new' (Kd.R_new' ho0 (Kd.R_lt (by (with_reducible repeat (first | apply rA | apply rN | apply rD)); exact HO1025.out))) (Kd.R_lt (by (with_reducible repeat (first | apply rA | apply rN | apply rD)); exact HO1029.out))) (pZ bQ)); have n3_ := aM (pT bQ hb); clear HO1025; clear HO1029; clear HB; have HO1025 := n0_; have HO1029 := n1_; have HO1032 := n2_; have HB := n3_; clear n0_ n1_ n2_ n3_; (try clear hb); (try clear hb2); (try clear hk); (try clear hi); (try clear ho0); obtain ⟨Ao13, co13, eo13⟩ := Kd.R_slice HO1032.out; subst eo13) | ((with_reducible refine gC (f := 77) rfl ?_); refine goesL_ (some 29) rfl rfl Try.func77 kR rfl #[.slice Ao13 t1030.length co13] rfl sQ ?_; (with_reducible refine (impl_ListInside.calls k _ _ t1030 t1033 t1034 _ ?side1 ?side2 A7.out).mono ?_); (case side1 => repeat (first | exact (rR HO1032.out).2.2 | (with_reducible refine cA ?_ _) | (with_reducible refine cN ?_ _) | (with_reducible refine cD ?_))); (case side2 => exact (rR HO1032.out).2.1); rintro e w14 ⟨v1035, rfl, ho0, hb⟩; refine ⟨_, rfl, ?_⟩; have n0_ := aM (Kd.R_elder' (by (with_reducible repeat (first | apply rA | apply rN | apply rD)); exact HO1025.out) (Kd.R_base ho0) hb); have n1_ := aM (Kd.R_elder' (by (with_reducible repeat (first | apply rA | apply rN | apply rD)); exact HO1029.out) (Kd.R_base ho0) hb); have n2_ := aM (Kd.R_elder' (by (with_reducible repeat (first | apply rA | apply rN | apply rD)); exact HO1032.out) (Kd.R_base ho0) hb); have n3_ := aM (Kd.R_lower (Kd.R_new' (Kd.R_new' (Kd.R_new' ho0 (Kd.R_lt (by (with_reducible repeat (first | apply rA | apply rN | apply rD)); exact HO1025.out))) (Kd.R_lt (by (with_reducible repeat (first | apply rA | apply rN | apply rD)); exact HO1029.out))) (Kd.R_lt (by (with_reducible repeat (first | apply rA | apply rN | apply rD)); exact HO1032.out))) (pZ bQ)); have n4_ := aM (pT bQ hb); clear HO1025; clear HO1029; clear HO1032; clear HB; have HO1025 := n0_; have HO1029 := n1_; have HO1032 := n2_; have HO1036 := n3_; have HB := n4_; clear n0_ n1_ n2_ n3_ n4_; (try clear hb); (try clear hb2); (try clear hk); (try clear hi); (try clear ho0)))
  (try simp only [Act.put, sI, sZ, sS])
  go_cut [40] (fun v40 wc => ∃ (kq : Nat) (x40_7 : Bool), v40 = .bool x40_7 ∧ Aside0 (laws_FnExactListInside.j0 kq l0 t1026 t1027 t1030 t1033 t1034 x40_7 = some r) ∧ Aside0 (kq ≤ k) ∧ Aside0 (Kd.R kd_impl_Peg 34 wc w.heap.size (fun k_ => some k_ ≠ ((.slice Ao13 t1030.length co13) : Value).ownBlock ∧ some k_ ≠ (v1035 : Value).ownBlock) v1028 t1026) ∧ Aside0 (Kd.R kd_impl_Peg 34 wc w.heap.size (fun k_ => some k_ ≠ (v1028 : Value).ownBlock ∧ some k_ ≠ (v1035 : Value).ownBlock) (.slice Ao13 t1030.length co13) t1030) ∧ Aside0 (Kd.R kd_impl_Peg 34 wc w.heap.size (fun k_ => some k_ ≠ (v1028 : Value).ownBlock ∧ some k_ ≠ ((.slice Ao13 t1030.length co13) : Value).ownBlock) v1035 t1033) ∧ Aside0 (Below w.heap.size w wc))
  case first =>
   have H := HC8.out
   clear HC8
   replace H := oB.mp H
   obtain ⟨t1037, A150, H⟩ := H
   replace H : (if t1037 = true then (laws_FnExactListInside.j0 k l0 t1026 t1027 t1030 t1033 t1034 (t1034 != t1027)) else (laws_FnExactListInside.j0 k l0 t1026 t1027 t1030 t1033 t1034 true)) = some r := H
   have A15 := aM A150
   clear A150
   by_cases c16 : t1037 = true
   ·subst c16
    have H1 : (laws_FnExactListInside.j0 k l0 t1026 t1027 t1030 t1033 t1034 (t1034 != t1027)) = some r := by rw [if_pos rfl] at H; exact H
    clear H
    have H := H1
    clear H1
    have H' := aM H
    clear H
    obtain ⟨Ao17, co17, eo17⟩ := Kd.R_slice HO1036.out
    subst eo17
    obtain ⟨Ao18, co18, eo18⟩ := Kd.R_slice HO1029.out
    subst eo18
    go_wp2_with (first | ((with_reducible refine gC (f := 29) rfl ?_); refine goesL_ (some 34) rfl rfl Try.func29 kR rfl #[.slice Ao17 t1033.length co17, .slice Ao18 t1026.length co18] rfl sQ ?_; (with_reducible refine (laws_eqPegS.calls k _ _ t1033 _ _ t1026 true _ ?side1 ?side2 ?side3 ?side4 A15.out).mono ?_); (case side1 => repeat (first | exact (rR HO1036.out).2.2 | (with_reducible refine cA ?_ _) | (with_reducible refine cN ?_ _) | (with_reducible refine cD ?_))); (case side2 => exact (rR HO1036.out).2.1); (case side3 => repeat (first | exact (rR HO1029.out).2.2 | (with_reducible refine cA ?_ _) | (with_reducible refine cN ?_ _) | (with_reducible refine cD ?_))); (case side4 => exact (rR HO1029.out).2.1); rintro e w19 ⟨rfl, hb⟩; refine ⟨_, rfl, ?_⟩; have n0_ := aM (Kd.R_below (by (with_reducible repeat (first | apply rA | apply rN | apply rD)); exact HO1025.out) hb); have n1_ := aM (Kd.R_below (by (with_reducible repeat (first | apply rA | apply rN | apply rD)); exact HO1029.out) hb); have n2_ := aM (Kd.R_below (by (with_reducible repeat (first | apply rA | apply rN | apply rD)); exact HO1032.out) hb); have n3_ := aM (Kd.R_below (by (with_reducible repeat (first | apply rA | apply rN | apply rD)); exact HO1036.out) hb); have n4_ := aM (pT bQ hb); clear HO1025; clear HO1029; clear HO1032; clear HO1036; clear HB; have HO1025 := n0_; have HO1029 := n1_; have HO1032 := n2_; have HO1036 := n3_; have HB := n4_; clear n0_ n1_ n2_ n3_ n4_; (try clear hb); (try clear hb2); (try clear hk); (try clear hi)))
    go_meet
    case rel => exact ⟨_, ((t1034 != t1027)), eQ, H', ⟨by first | omega | exact Nat.le_refl _⟩, ⟨by (with_reducible repeat (first | apply rA | apply rN | apply rD)); exact Kd.R_mono HO1029.out (fun _ hk => ⟨hk.1.2, hk.2⟩)⟩, ⟨by (with_reducible repeat (first | apply rA | apply rN | apply rD)); exact Kd.R_mono HO1032.out (fun _ hk => ⟨hk.1.2, hk.2⟩)⟩, ⟨by (with_reducible repeat (first | apply rA | apply rN | apply rD)); exact Kd.R_mono HO1036.out (fun _ hk => ⟨hk.1.2, hk.2⟩)⟩, ⟨bQ⟩⟩
   ·replace c16 := Bool.eq_false_iff.mpr c16
    subst c16
    have H1 : (laws_FnExactListInside.j0 k l0 t1026 t1027 t1030 t1033 t1034 true) = some r := by rw [if_neg (show ¬ (false = true) by decide)] at H; exact H
    clear H
    have H := H1
    clear H1
    have H' := aM H
    clear H
    obtain ⟨Ao20, co20, eo20⟩ := Kd.R_slice HO1036.out
    subst eo20
    obtain ⟨Ao21, co21, eo21⟩ := Kd.R_slice HO1029.out
    subst eo21
    go_wp2_with (first | ((with_reducible refine gC (f := 29) rfl ?_); refine goesL_ (some 34) rfl rfl Try.func29 kR rfl #[.slice Ao20 t1033.length co20, .slice Ao21 t1026.length co21] rfl sQ ?_; (with_reducible refine (laws_eqPegS.calls k _ _ t1033 _ _ t1026 false _ ?side1 ?side2 ?side3 ?side4 A15.out).mono ?_); (case side1 => repeat (first | exact (rR HO1036.out).2.2 | (with_reducible refine cA ?_ _) | (with_reducible refine cN ?_ _) | (with_reducible refine cD ?_))); (case side2 => exact (rR HO1036.out).2.1); (case side3 => repeat (first | exact (rR HO1029.out).2.2 | (with_reducible refine cA ?_ _) | (with_reducible refine cN ?_ _) | (with_reducible refine cD ?_))); (case side4 => exact (rR HO1029.out).2.1); rintro e w22 ⟨rfl, hb⟩; refine ⟨_, rfl, ?_⟩; have n0_ := aM (Kd.R_below (by (with_reducible repeat (first | apply rA | apply rN | apply rD)); exact HO1025.out) hb); have n1_ := aM (Kd.R_below (by (with_reducible repeat (first | apply rA | apply rN | apply rD)); exact HO1029.out) hb); have n2_ := aM (Kd.R_below (by (with_reducible repeat (first | apply rA | apply rN | apply rD)); exact HO1032.out) hb); have n3_ := aM (Kd.R_below (by (with_reducible repeat (first | apply rA | apply rN | apply rD)); exact HO1036.out) hb); have n4_ := aM (pT bQ hb); clear HO1025; clear HO1029; clear HO1032; clear HO1036; clear HB; have HO1025 := n0_; have HO1029 := n1_; have HO1032 := n2_; have HO1036 := n3_; have HB := n4_; clear n0_ n1_ n2_ n3_ n4_; (try clear hb); (try clear hb2); (try clear hk); (try clear hi)))
    go_meet
    case rel => exact ⟨_, (true), eQ, H', ⟨by first | omega | exact Nat.le_refl _⟩, ⟨by (with_reducible repeat (first | apply rA | apply rN | apply rD)); exact Kd.R_mono HO1029.out (fun _ hk => ⟨hk.1.2, hk.2⟩)⟩, ⟨by (with_reducible repeat (first | apply rA | apply rN | apply rD)); exact Kd.R_mono HO1032.out (fun _ hk => ⟨hk.1.2, hk.2⟩)⟩, ⟨by (with_reducible repeat (first | apply rA | apply rN | apply rD)); exact Kd.R_mono HO1036.out (fun _ hk => ⟨hk.1.2, hk.2⟩)⟩, ⟨bQ⟩⟩
  case rest =>
   clear HC8
   try clear c1
   try clear c2
   try clear p2
   try clear c3
   try clear c3b0
   try clear c7
   try clear c16
   obtain ⟨kq, x40_7, rfl, HA, HJ7, HO_4, HO_6, HO_7, HB⟩ := hcut
   cases kq with
   | zero => exact absurd HA.out (by simp [laws_FnExactListInside.j0])
   | succ kj7 =>
    have H := HA.out
    clear HA
    simp only [laws_FnExactListInside.j0] at H
    by_cases c23 : x40_7 = true
    ·subst c23
     have H1 : (some false) = some r := by rw [if_pos rfl] at H; exact H
     clear H
     have H := H1
     clear H1
     obtain rfl := Option.some.inj H
     go_wp2
     go_ret
     exact ⟨by first | rfl | (simp [errW_none, errW_some] <;> rfl) | (simp [*, errW_none, errW_some] <;> rfl), bQ⟩
    ·replace c23 := Bool.eq_false_iff.mpr c23
     subst c23
     have H1 : ((laws_toPegS.f kj7 l0).bind fun t1038 => ((laws_eqPegS.f kj7 t1030 t1038).bind fun t1041 => (if t1041 = true then ((laws_markPegS.f kj7 t1030 1).bind fun bt1042 => (if bt1042.1 < 0 then (laws_FnExactListInside.j1 kj7 l0 t1026 t1027 t1033 true) else ((laws_eqPegS.f kj7 t1033 t1026).bind fun t1044 => (if t1044 = true then (laws_FnExactListInside.j1 kj7 l0 t1026 t1027 t1033 (t1034 != t1027)) else (laws_FnExactListInside.j1 kj7 l0 t1026 t1027 t1033 true))))) else (some false)))) = some r := by rw [if_neg (show ¬ (false = true) by decide)] at H; exact H
     clear H
     have H := H1
     clear H1
     replace H := oB.mp H
     obtain ⟨t1038, A240, H⟩ := H
     replace H : ((laws_eqPegS.f kj7 t1030 t1038).bind fun t1041 => (if t1041 = true then ((laws_markPegS.f kj7 t1030 1).bind fun bt1042 => (if bt1042.1 < 0 then (laws_FnExactListInside.j1 kj7 l0 t1026 t1027 t1033 true) else ((laws_eqPegS.f kj7 t1033 t1026).bind fun t1044 => (if t1044 = true then (laws_FnExactListInside.j1 kj7 l0 t1026 t1027 t1033 (t1034 != t1027)) else (laws_FnExactListInside.j1 kj7 l0 t1026 t1027 t1033 true))))) else (some false))) = some r := H
     have A24 := aM A240
     clear A240
     replace H := oB.mp H
     obtain ⟨t1041, A250, H⟩ := H
     replace H : (if t1041 = true then ((laws_markPegS.f kj7 t1030 1).bind fun bt1042 => (if bt1042.1 < 0 then (laws_FnExactListInside.j1 kj7 l0 t1026 t1027 t1033 true) else ((laws_eqPegS.f kj7 t1033 t1026).bind fun t1044 => (if t1044 = true then (laws_FnExactListInside.j1 kj7 l0 t1026 t1027 t1033 (t1034 != t1027)) else (laws_FnExactListInside.j1 kj7 l0 t1026 t1027 t1033 true))))) else (some false)) = some r := H
     have A25 := aM A250
     clear A250
     by_cases c26 : t1041 = true
     ·subst c26
      have H1 : ((laws_markPegS.f kj7 t1030 1).bind fun bt1042 => (if bt1042.1 < 0 then (laws_FnExactListInside.j1 kj7 l0 t1026 t1027 t1033 true) else ((laws_eqPegS.f kj7 t1033 t1026).bind fun t1044 => (if t1044 = true then (laws_FnExactListInside.j1 kj7 l0 t1026 t1027 t1033 (t1034 != t1027)) else (laws_FnExactListInside.j1 kj7 l0 t1026 t1027 t1033 true))))) = some r := by rw [if_pos rfl] at H; exact H
      clear H
      have H := H1
      clear H1
      replace H := oB.mp H
      obtain ⟨⟨t1042, t1043⟩, A270, H⟩ := H
      replace H : (if t1042 < 0 then (laws_FnExactListInside.j1 kj7 l0 t1026 t1027 t1033 true) else ((laws_eqPegS.f kj7 t1033 t1026).bind fun t1044 => (if t1044 = true then (laws_FnExactListInside.j1 kj7 l0 t1026 t1027 t1033 (t1034 != t1027)) else (laws_FnExactListInside.j1 kj7 l0 t1026 t1027 t1033 true)))) = some r := H
      have A27 := aM A270
      clear A270
      have HC28 := aM H
      clear H
      go_upto_region 14 with (first | ((with_reducible refine gC (f := 27) rfl ?_); refine goesL_ (some 43) rfl rfl Try.func27 kR rfl #[.slice A0 l0.length c0] rfl sQ ?_; (with_reducible refine (laws_toPegS.calls kj7 _ _ l0 t1038 _ ?side1 ?side2 A24.out).mono ?_); (case side1 => repeat (first | exact (Kd.C_below HR0.out HB.out) | (with_reducible refine cA ?_ _) | (with_reducible refine cN ?_ _) | (with_reducible refine cD ?_))); (case side2 => exact HC0.out); rintro e w29 ⟨v1039, rfl, ho0, hb⟩; refine ⟨_, rfl, ?_⟩; have n0_ := aM (Kd.R_elder' (by (with_reducible repeat (first | apply rA | apply rN | apply rD)); exact HO_4.out) (Kd.R_base ho0) hb); have n1_ := aM (Kd.R_elder' (by (with_reducible repeat (first | apply rA | apply rN | apply rD)); exact HO_6.out) (Kd.R_base ho0) hb); have n2_ := aM (Kd.R_elder' (by (with_reducible repeat (first | apply rA | apply rN | apply rD)); exact HO_7.out) (Kd.R_base ho0) hb); have n3_ := aM (Kd.R_lower (Kd.R_new' (Kd.R_new' (Kd.R_new' ho0 (Kd.R_lt (by (with_reducible repeat (first | apply rA | apply rN | apply rD)); exact HO_4.out))) (Kd.R_lt (by (with_reducible repeat (first | apply rA | apply rN | apply rD)); exact HO_6.out))) (Kd.R_lt (by (with_reducible repeat (first | apply rA | apply rN | apply rD)); exact HO_7.out))) (pZ bQ)); have n4_ := aM (pT bQ hb); clear HO_4; clear HO_6; clear HO_7; clear HB; have HO_4 := n0_; have HO_6 := n1_; have HO_7 := n2_; have HO1040 := n3_; have HB := n4_; clear n0_ n1_ n2_ n3_ n4_; (try clear hb); (try clear hb2); (try clear hk); (try clear hi); (try clear ho0); obtain ⟨Ao30, co30, eo30⟩ := Kd.R_slice HO1040.out; subst eo30) | ((with_reducible refine gC (f := 29) rfl ?_); refine goesL_ (some 44) rfl rfl Try.func29 kR rfl #[.slice Ao13 t1030.length co13, .slice Ao30 t1038.length co30] rfl sQ ?_; (with_reducible refine (laws_eqPegS.calls kj7 _ _ t1030 _ _ t1038 true _ ?side1 ?side2 ?side3 ?side4 A25.out).mono ?_); (case side1 => repeat (first | exact (rR HO_6.out).2.2 | (with_reducible refine cA ?_ _) | (with_reducible refine cN ?_ _) | (with_reducible refine cD ?_))); (case side2 => exact (rR HO_6.out).2.1); (case side3 => repeat (first | exact (rR HO1040.out).2.2 | (with_reducible refine cA ?_ _) | (with_reducible refine cN ?_ _) | (with_reducible refine cD ?_))); (case side4 => exact (rR HO1040.out).2.1); rintro e w31 ⟨rfl, hb⟩; refine ⟨_, rfl, ?_⟩; have n0_ := aM (Kd.R_below (by (with_reducible repeat (first | apply rA | apply rN | apply rD)); exact HO_4.out) hb); have n1_ := aM (Kd.R_below (by (with_reducible repeat (first | apply rA | apply rN | apply rD)); exact HO_6.out) hb); have n2_ := aM (Kd.R_below (by (with_reducible repeat (first | apply rA | apply rN | apply rD)); exact HO_7.out) hb); have n3_ := aM (Kd.R_below (by (with_reducible repeat (first | apply rA | apply rN | apply rD)); exact HO1040.out) hb); have n4_ := aM (pT bQ hb); clear HO_4; clear HO_6; clear HO_7; clear HO1040; clear HB; have HO_4 := n0_; have HO_6 := n1_; have HO_7 := n2_; have HO1040 := n3_; have HB := n4_; clear n0_ n1_ n2_ n3_ n4_; (try clear hb); (try clear hb2); (try clear hk); (try clear hi)) | ((with_reducible refine gC (f := 35) rfl ?_); refine goesL_ (some 48) rfl rfl Try.func35 kR rfl #[.slice Ao13 t1030.length co13, .int .i64 1] rfl sQ ?_; (with_reducible refine (laws_markPegS.calls kj7 (fun k_ => some k_ = (.slice Ao13 t1030.length co13 : Value).ownBlock) (.slice Ao13 t1030.length co13) t1030 1 t1042 t1043 w _ ?side1 ?side2 A27.out).mono ?_); (case side1 => repeat (first | (with_reducible first | exact HB.out | apply pA | apply pN | apply pD) | exact HB.out)); (case side2 => exact Kd.R_tight rfl HO_6.out); rintro e w32 ⟨rfl, hy0, hb, hkp⟩; refine ⟨_, rfl, ?_⟩; have n0_ := aM (Kd.R_mono (ok' := fun k_ => some k_ ≠ (.slice Ao13 t1030.length co13 : Value).ownBlock ∧ some k_ ≠ (v1035 : Value).ownBlock ∧ some k_ ≠ (.slice Ao30 t1038.length co30 : Value).ownBlock) (Kd.R_keptB (HO_4.out) hkp (fun k_ hk_ hs_ => (hk_.1.1) hs_)) (fun k_ hk_ => ⟨hk_.1.1.1, hk_.1.1.2, hk_.1.2⟩)); have n1_ := aM (Kd.R_reok rfl hy0 (fun k_ e_ => HO_6.out.1 k_ e_)); have n2_ := aM (Kd.R_mono (ok' := fun k_ => some k_ ≠ (v1028 : Value).ownBlock ∧ some k_ ≠ (.slice Ao13 t1030.length co13 : Value).ownBlock ∧ some k_ ≠ (.slice Ao30 t1038.length co30 : Value).ownBlock) (Kd.R_keptB (HO_7.out) hkp (fun k_ hk_ hs_ => (hk_.1.2) hs_)) (fun k_ hk_ => ⟨hk_.1.1.1, hk_.1.1.2, hk_.1.2⟩)); have n3_ := aM (Kd.R_mono (ok' := fun k_ => some k_ ≠ (v1028 : Value).ownBlock ∧ some k_ ≠ (.slice Ao13 t1030.length co13 : Value).ownBlock ∧ some k_ ≠ (v1035 : Value).ownBlock) (Kd.R_keptB (HO1040.out) hkp (fun k_ hk_ hs_ => (hk_.1.2) hs_)) (fun k_ hk_ => ⟨hk_.1.1.1.2, hk_.1.1.2, hk_.1.2⟩)); have n4_ := aM (hb); clear HO_4; clear HO_6; clear HO_7; clear HO1040; clear HB; have HO_4 := n0_; have HO_6 := n1_; have HO_7 := n2_; have HO1040 := n3_; have HB := n4_; clear n0_ n1_ n2_ n3_ n4_; (try clear hb); (try clear hkp); (try clear hy0)))
      (try simp only [Act.put, sI, sZ, sS])
      go_cut [61] (fun v61 wc => ∃ (kq : Nat) (x61_27 : Bool), v61 = .bool x61_27 ∧ Aside0 (laws_FnExactListInside.j1 kq l0 t1026 t1027 t1033 x61_27 = some r) ∧ Aside0 (kq ≤ kj7) ∧ Aside0 (Kd.R kd_impl_Peg 34 wc w.heap.size (fun k_ => some k_ ≠ (v1035 : Value).ownBlock) v1028 t1026) ∧ Aside0 (Kd.R kd_impl_Peg 34 wc w.heap.size (fun k_ => some k_ ≠ (v1028 : Value).ownBlock) v1035 t1033) ∧ Aside0 (Below w.heap.size w wc))
      case first =>
       have H := HC28.out
       clear HC28
       by_cases c33 : t1042 < 0
       ·rw [if_pos c33] at H
        have c33b0 : decide (t1042 < 0) = true := dE c33
        clear c33
        (first | rw [c33b0] | (simp only [i64_w, i32_w]; rw [c33b0]) | skip)
        have H' := aM H
        clear H
        go_wp2
        go_meet
        case rel => exact ⟨_, (true), eQ, H', ⟨by have := HJ7.out; first | omega | exact Nat.le_refl _⟩, ⟨by (with_reducible repeat (first | apply rA | apply rN | apply rD)); exact Kd.R_mono HO_4.out (fun _ hk => hk.2.1)⟩, ⟨by (with_reducible repeat (first | apply rA | apply rN | apply rD)); exact Kd.R_mono HO_7.out (fun _ hk => hk.1)⟩, ⟨bQ⟩⟩
       ·rw [if_neg c33] at H
        have c33b0 : decide (t1042 < 0) = false := decide_eq_false c33
        clear c33
        (first | rw [c33b0] | (simp only [i64_w, i32_w]; rw [c33b0]) | skip)
        replace H := oB.mp H
        obtain ⟨t1044, A340, H⟩ := H
        replace H : (if t1044 = true then (laws_FnExactListInside.j1 kj7 l0 t1026 t1027 t1033 (t1034 != t1027)) else (laws_FnExactListInside.j1 kj7 l0 t1026 t1027 t1033 true)) = some r := H
        have A34 := aM A340
        clear A340
        by_cases c35 : t1044 = true
        ·subst c35
         have H1 : (laws_FnExactListInside.j1 kj7 l0 t1026 t1027 t1033 (t1034 != t1027)) = some r := by rw [if_pos rfl] at H; exact H
         clear H
         have H := H1
         clear H1
         have H' := aM H
         clear H
         obtain ⟨Ao36, co36, eo36⟩ := Kd.R_slice HO_7.out
         subst eo36
         obtain ⟨Ao37, co37, eo37⟩ := Kd.R_slice HO_4.out
         subst eo37
         go_wp2_with (first | (go_at_call 29; (with_reducible refine (laws_eqPegS.calls kj7 _ _ t1033 _ _ t1026 true _ ?side1 ?side2 ?side3 ?side4 A34.out).mono ?_); (case side1 => repeat (first | exact (rR HO_7.out).2.2 | (with_reducible refine cA ?_ _) | (with_reducible refine cN ?_ _) | (with_reducible refine cD ?_))); (case side2 => exact (rR HO_7.out).2.1); (case side3 => repeat (first | exact (rR HO_4.out).2.2 | (with_reducible refine cA ?_ _) | (with_reducible refine cN ?_ _) | (with_reducible refine cD ?_))); (case side4 => exact (rR HO_4.out).2.1); rintro e w38 ⟨rfl, hb⟩; have n0_ := aM (Kd.R_below (by (with_reducible repeat (first | apply rA | apply rN | apply rD)); exact HO_4.out) hb); have n1_ := aM (Kd.R_below (by (with_reducible repeat (first | apply rA | apply rN | apply rD)); exact HO_6.out) hb); have n2_ := aM (Kd.R_below (by (with_reducible repeat (first | apply rA | apply rN | apply rD)); exact HO_7.out) hb); have n3_ := aM (Kd.R_below (by (with_reducible repeat (first | apply rA | apply rN | apply rD)); exact HO1040.out) hb); have n4_ := aM (pT bQ hb); clear HO_4; clear HO_6; clear HO_7; clear HO1040; clear HB; have HO_4 := n0_; have HO_6 := n1_; have HO_7 := n2_; have HO1040 := n3_; have HB := n4_; clear n0_ n1_ n2_ n3_ n4_; (try clear hb); (try clear hb2); (try clear hk); (try clear hi)))
         go_meet
         case rel => exact ⟨_, ((t1034 != t1027)), eQ, H', ⟨by have := HJ7.out; first | omega | exact Nat.le_refl _⟩, ⟨by (with_reducible repeat (first | apply rA | apply rN | apply rD)); exact Kd.R_mono HO_4.out (fun _ hk => hk.2.1)⟩, ⟨by (with_reducible repeat (first | apply rA | apply rN | apply rD)); exact Kd.R_mono HO_7.out (fun _ hk => hk.1)⟩, ⟨bQ⟩⟩
        ·replace c35 := Bool.eq_false_iff.mpr c35
         subst c35
         have H1 : (laws_FnExactListInside.j1 kj7 l0 t1026 t1027 t1033 true) = some r := by rw [if_neg (show ¬ (false = true) by decide)] at H; exact H
         clear H
         have H := H1
         clear H1
         have H' := aM H
         clear H
         obtain ⟨Ao39, co39, eo39⟩ := Kd.R_slice HO_7.out
         subst eo39
         obtain ⟨Ao40, co40, eo40⟩ := Kd.R_slice HO_4.out
         subst eo40
         go_wp2_with (first | (go_at_call 29; (with_reducible refine (laws_eqPegS.calls kj7 _ _ t1033 _ _ t1026 false _ ?side1 ?side2 ?side3 ?side4 A34.out).mono ?_); (case side1 => repeat (first | exact (rR HO_7.out).2.2 | (with_reducible refine cA ?_ _) | (with_reducible refine cN ?_ _) | (with_reducible refine cD ?_))); (case side2 => exact (rR HO_7.out).2.1); (case side3 => repeat (first | exact (rR HO_4.out).2.2 | (with_reducible refine cA ?_ _) | (with_reducible refine cN ?_ _) | (with_reducible refine cD ?_))); (case side4 => exact (rR HO_4.out).2.1); rintro e w41 ⟨rfl, hb⟩; have n0_ := aM (Kd.R_below (by (with_reducible repeat (first | apply rA | apply rN | apply rD)); exact HO_4.out) hb); have n1_ := aM (Kd.R_below (by (with_reducible repeat (first | apply rA | apply rN | apply rD)); exact HO_6.out) hb); have n2_ := aM (Kd.R_below (by (with_reducible repeat (first | apply rA | apply rN | apply rD)); exact HO_7.out) hb); have n3_ := aM (Kd.R_below (by (with_reducible repeat (first | apply rA | apply rN | apply rD)); exact HO1040.out) hb); have n4_ := aM (pT bQ hb); clear HO_4; clear HO_6; clear HO_7; clear HO1040; clear HB; have HO_4 := n0_; have HO_6 := n1_; have HO_7 := n2_; have HO1040 := n3_; have HB := n4_; clear n0_ n1_ n2_ n3_ n4_; (try clear hb); (try clear hb2); (try clear hk); (try clear hi)))
         go_meet
         case rel => exact ⟨_, (true), eQ, H', ⟨by have := HJ7.out; first | omega | exact Nat.le_refl _⟩, ⟨by (with_reducible repeat (first | apply rA | apply rN | apply rD)); exact Kd.R_mono HO_4.out (fun _ hk => hk.2.1)⟩, ⟨by (with_reducible repeat (first | apply rA | apply rN | apply rD)); exact Kd.R_mono HO_7.out (fun _ hk => hk.1)⟩, ⟨bQ⟩⟩
      case rest =>
       clear HC28
       try clear c1
       try clear c2
       try clear p2
       try clear c3
       try clear c3b0
       try clear c7
       try clear c16
       try clear c23
       try clear c25
       try clear c26
       try clear c27
       try clear c29
       try clear c33
       try clear c33b0
       try clear c35
       try clear p2
       obtain ⟨kq, x61_27, rfl, HA, HJ27, HO_4, HO_7, HB⟩ := hcut
       cases kq with
       | zero => exact absurd HA.out (by simp [laws_FnExactListInside.j1])
       | succ kj27 =>
        have H := HA.out
        clear HA
        simp only [laws_FnExactListInside.j1] at H
        by_cases c42 : x61_27 = true
        ·subst c42
         have H1 : (some false) = some r := by rw [if_pos rfl] at H; exact H
         clear H
         have H := H1
         clear H1
         obtain rfl := Option.some.inj H
         go_wp2
         go_ret
         exact ⟨by first | rfl | (simp [errW_none, errW_some] <;> rfl) | (simp [*, errW_none, errW_some] <;> rfl), bQ⟩
        ·replace c42 := Bool.eq_false_iff.mpr c42
         subst c42
         have H1 : ((laws_markPegS.f kj27 t1033 1).bind fun bt1045 => ((laws_heldPegS.f kj27 bt1045.2 1).bind fun t1047 => (if t1047 < 0 then (some false) else (if t1047 = bt1045.1 then ((laws_toPegS.f kj27 l0).bind fun t1048 => ((impl_ListInside.f kj27 t1048).bind fun bt1051 => ((laws_eqPegS.f kj27 bt1051.1 t1026).bind fun t1055 => (if t1055 = true then (laws_FnExactListInside.j2 kj27 bt1045.2 bt1045.1 (bt1051.2 != t1027)) else (laws_FnExactListInside.j2 kj27 bt1045.2 bt1045.1 true))))) else (some false))))) = some r := by rw [if_neg (show ¬ (false = true) by decide)] at H; exact H
         clear H
         have H := H1
         clear H1
         replace H := oB.mp H
         obtain ⟨⟨t1045, t1046⟩, A430, H⟩ := H
         replace H : ((laws_heldPegS.f kj27 t1046 1).bind fun t1047 => (if t1047 < 0 then (some false) else (if t1047 = t1045 then ((laws_toPegS.f kj27 l0).bind fun t1048 => ((impl_ListInside.f kj27 t1048).bind fun bt1051 => ((laws_eqPegS.f kj27 bt1051.1 t1026).bind fun t1055 => (if t1055 = true then (laws_FnExactListInside.j2 kj27 t1046 t1045 (bt1051.2 != t1027)) else (laws_FnExactListInside.j2 kj27 t1046 t1045 true))))) else (some false)))) = some r := H
         have A43 := aM A430
         clear A430
         replace H := oB.mp H
         obtain ⟨t1047, A440, H⟩ := H
         replace H : (if t1047 < 0 then (some false) else (if t1047 = t1045 then ((laws_toPegS.f kj27 l0).bind fun t1048 => ((impl_ListInside.f kj27 t1048).bind fun bt1051 => ((laws_eqPegS.f kj27 bt1051.1 t1026).bind fun t1055 => (if t1055 = true then (laws_FnExactListInside.j2 kj27 t1046 t1045 (bt1051.2 != t1027)) else (laws_FnExactListInside.j2 kj27 t1046 t1045 true))))) else (some false))) = some r := H
         have A44 := aM A440
         clear A440
         by_cases c45 : t1047 < 0
         ·rw [if_pos c45] at H
          have c45b0 : decide (t1047 < 0) = true := dE c45
          clear c45
          obtain rfl := Option.some.inj H
          obtain ⟨Ao46, co46, eo46⟩ := Kd.R_slice HO_7.out
          subst eo46
          go_wp2_with (first | ((with_reducible refine gC (f := 35) rfl ?_); refine goesL_ (some 64) rfl rfl Try.func35 kR rfl #[.slice Ao46 t1033.length co46, .int .i64 1] rfl sQ ?_; (with_reducible refine (laws_markPegS.calls kj27 (fun k_ => some k_ = (.slice Ao46 t1033.length co46 : Value).ownBlock) (.slice Ao46 t1033.length co46) t1033 1 t1045 t1046 w _ ?side1 ?side2 A43.out).mono ?_); (case side1 => repeat (first | (with_reducible first | exact HB.out | apply pA | apply pN | apply pD) | exact HB.out)); (case side2 => exact Kd.R_tight rfl HO_7.out); rintro e w47 ⟨rfl, hy0, hb, hkp⟩; refine ⟨_, rfl, ?_⟩; have n0_ := aM (Kd.R_mono (ok' := fun k_ => some k_ ≠ (.slice Ao46 t1033.length co46 : Value).ownBlock) (Kd.R_keptB (HO_4.out) hkp (fun k_ hk_ hs_ => (hk_) hs_)) (fun k_ hk_ => hk_.1)); have n1_ := aM (Kd.R_reok rfl hy0 (fun k_ e_ => HO_7.out.1 k_ e_)); have n2_ := aM (hb); clear HO_4; clear HO_7; clear HB; have HO_4 := n0_; have HO_7 := n1_; have HB := n2_; clear n0_ n1_ n2_; (try clear hb); (try clear hkp); (try clear hy0)) | ((with_reducible refine gC (f := 36) rfl ?_); refine goesL_ (some 67) rfl rfl Try.func36 kR rfl #[.slice Ao46 t1046.length co46, .int .i64 1] rfl (by (try simp only [mA, mC, mN]); first | done | (rw [show t1046.length = t1033.length from (rR HO_7.out).1.symm] <;> rfl) | rfl | (simp only [lD, lT]; rfl)) ?_; (with_reducible refine (laws_heldPegS.calls kj27 _ _ t1046 1 t1047 _ ?side1 ?side2 A44.out).mono ?_); (case side1 => repeat (first | exact (rR HO_7.out).2.2 | (with_reducible refine cA ?_ _) | (with_reducible refine cN ?_ _) | (with_reducible refine cD ?_))); (case side2 => rw [show t1046.length = t1033.length from (rR HO_7.out).1.symm]; exact (rR HO_7.out).2.1); rintro e w' ⟨rfl, ⟨nd, rfl⟩⟩; refine ⟨_, rfl, ?_⟩))
          go_ret
          exact ⟨by first | rfl | (simp [errW_none, errW_some] <;> rfl) | (simp [*, errW_none, errW_some] <;> rfl), bQ⟩
         ·rw [if_neg c45] at H
          have c45b0 : decide (t1047 < 0) = false := decide_eq_false c45
          clear c45
          by_cases c48 : t1047 = t1045
          ·rw [if_pos c48] at H
           have c48b0 : (t1047 == t1045) = true := beq_iff_eq.mpr c48
           have c48b1 : (t1047 != t1045) = false := bne_eq_false_iff_eq.mpr c48
           clear c48
           replace H := oB.mp H
           obtain ⟨t1048, A490, H⟩ := H
           replace H : ((impl_ListInside.f kj27 t1048).bind fun bt1051 => ((laws_eqPegS.f kj27 bt1051.1 t1026).bind fun t1055 => (if t1055 = true then (laws_FnExactListInside.j2 kj27 t1046 t1045 (bt1051.2 != t1027)) else (laws_FnExactListInside.j2 kj27 t1046 t1045 true)))) = some r := H
           have A49 := aM A490
           clear A490
           replace H := oB.mp H
           obtain ⟨⟨t1051, t1052⟩, A500, H⟩ := H
           replace H : ((laws_eqPegS.f kj27 t1051 t1026).bind fun t1055 => (if t1055 = true then (laws_FnExactListInside.j2 kj27 t1046 t1045 (t1052 != t1027)) else (laws_FnExactListInside.j2 kj27 t1046 t1045 true))) = some r := H
           have A50 := aM A500
           clear A500
           have HC51 := aM H
           clear H
           obtain ⟨Ao52, co52, eo52⟩ := Kd.R_slice HO_7.out
           subst eo52
           go_upto_region 25 with (first | ((with_reducible refine gC (f := 35) rfl ?_); refine goesL_ (some 64) rfl rfl Try.func35 kR rfl #[.slice Ao52 t1033.length co52, .int .i64 1] rfl sQ ?_; (with_reducible refine (laws_markPegS.calls kj27 (fun k_ => some k_ = (.slice Ao52 t1033.length co52 : Value).ownBlock) (.slice Ao52 t1033.length co52) t1033 1 t1045 t1046 w _ ?side1 ?side2 A43.out).mono ?_); (case side1 => repeat (first | (with_reducible first | exact HB.out | apply pA | apply pN | apply pD) | exact HB.out)); (case side2 => exact Kd.R_tight rfl HO_7.out); rintro e w53 ⟨rfl, hy0, hb, hkp⟩; refine ⟨_, rfl, ?_⟩; have n0_ := aM (Kd.R_mono (ok' := fun k_ => some k_ ≠ (.slice Ao52 t1033.length co52 : Value).ownBlock) (Kd.R_keptB (HO_4.out) hkp (fun k_ hk_ hs_ => (hk_) hs_)) (fun k_ hk_ => hk_.1)); have n1_ := aM (Kd.R_reok rfl hy0 (fun k_ e_ => HO_7.out.1 k_ e_)); have n2_ := aM (hb); clear HO_4; clear HO_7; clear HB; have HO_4 := n0_; have HO_7 := n1_; have HB := n2_; clear n0_ n1_ n2_; (try clear hb); (try clear hkp); (try clear hy0)) | ((with_reducible refine gC (f := 36) rfl ?_); refine goesL_ (some 67) rfl rfl Try.func36 kR rfl #[.slice Ao52 t1046.length co52, .int .i64 1] rfl (by (try simp only [mA, mC, mN]); first | done | (rw [show t1046.length = t1033.length from (rR HO_7.out).1.symm] <;> rfl) | rfl | (simp only [lD, lT]; rfl)) ?_; (with_reducible refine (laws_heldPegS.calls kj27 _ _ t1046 1 t1047 _ ?side1 ?side2 A44.out).mono ?_); (case side1 => repeat (first | exact (rR HO_7.out).2.2 | (with_reducible refine cA ?_ _) | (with_reducible refine cN ?_ _) | (with_reducible refine cD ?_))); (case side2 => rw [show t1046.length = t1033.length from (rR HO_7.out).1.symm]; exact (rR HO_7.out).2.1); rintro e w' ⟨rfl, ⟨nd, rfl⟩⟩; refine ⟨_, rfl, ?_⟩) | ((with_reducible refine gC (f := 27) rfl ?_); refine goesL_ (some 75) rfl rfl Try.func27 kR rfl #[.slice A0 l0.length c0] rfl sQ ?_; (with_reducible refine (laws_toPegS.calls kj27 _ _ l0 t1048 _ ?side1 ?side2 A49.out).mono ?_); (case side1 => repeat (first | exact (Kd.C_below HR0.out bQ) | (with_reducible refine cA ?_ _) | (with_reducible refine cN ?_ _) | (with_reducible refine cD ?_))); (case side2 => exact HC0.out); rintro e w54 ⟨v1049, rfl, ho0, hb⟩; refine ⟨_, rfl, ?_⟩; have n0_ := aM (Kd.R_elder' (by (with_reducible repeat (first | apply rA | apply rN | apply rD)); exact HO_4.out) (Kd.R_base ho0) hb); have n1_ := aM (Kd.R_elder' (by (with_reducible repeat (first | apply rA | apply rN | apply rD)); exact HO_7.out) (Kd.R_base ho0) hb); have n2_ := aM (Kd.R_lower (Kd.R_new' (Kd.R_new' ho0 (Kd.R_lt (by (with_reducible repeat (first | apply rA | apply rN | apply rD)); exact HO_4.out))) (Kd.R_lt (by (with_reducible repeat (first | apply rA | apply rN | apply rD)); exact HO_7.out))) (pZ bQ)); have n3_ := aM (pT bQ hb); clear HO_4; clear HO_7; clear HB; have HO_4 := n0_; have HO_7 := n1_; have HO1050 := n2_; have HB := n3_; clear n0_ n1_ n2_ n3_; (try clear hb); (try clear hb2); (try clear hk); (try clear hi); (try clear ho0); obtain ⟨Ao55, co55, eo55⟩ := Kd.R_slice HO1050.out; subst eo55) | ((with_reducible refine gC (f := 77) rfl ?_); refine goesL_ (some 76) rfl rfl Try.func77 kR rfl #[.slice Ao55 t1048.length co55] rfl sQ ?_; (with_reducible refine (impl_ListInside.calls kj27 _ _ t1048 t1051 t1052 _ ?side1 ?side2 A50.out).mono ?_); (case side1 => repeat (first | exact (rR HO1050.out).2.2 | (with_reducible refine cA ?_ _) | (with_reducible refine cN ?_ _) | (with_reducible refine cD ?_))); (case side2 => exact (rR HO1050.out).2.1); rintro e w56 ⟨v1053, rfl, ho0, hb⟩; refine ⟨_, rfl, ?_⟩; have n0_ := aM (Kd.R_elder' (by (with_reducible repeat (first | apply rA | apply rN | apply rD)); exact HO_4.out) (Kd.R_base ho0) hb); have n1_ := aM (Kd.R_elder' (by (with_reducible repeat (first | apply rA | apply rN | apply rD)); exact HO_7.out) (Kd.R_base ho0) hb); have n2_ := aM (Kd.R_elder' (by (with_reducible repeat (first | apply rA | apply rN | apply rD)); exact HO1050.out) (Kd.R_base ho0) hb); have n3_ := aM (Kd.R_lower (Kd.R_new' (Kd.R_new' (Kd.R_new' ho0 (Kd.R_lt (by (with_reducible repeat (first | apply rA | apply rN | apply rD)); exact HO_4.out))) (Kd.R_lt (by (with_reducible repeat (first | apply rA | apply rN | apply rD)); exact HO_7.out))) (Kd.R_lt (by (with_reducible repeat (first | apply rA | apply rN | apply rD)); exact HO1050.out))) (pZ bQ)); have n4_ := aM (pT bQ hb); clear HO_4; clear HO_7; clear HO1050; clear HB; have HO_4 := n0_; have HO_7 := n1_; have HO1050 := n2_; have HO1054 := n3_; have HB := n4_; clear n0_ n1_ n2_ n3_ n4_; (try clear hb); (try clear hb2); (try clear hk); (try clear hi); (try clear ho0)))
           (try simp only [Act.put, sI, sZ, sS])
           go_cut [87] (fun v87 wc => ∃ (kq : Nat) (x87_50 : Bool), v87 = .bool x87_50 ∧ Aside0 (laws_FnExactListInside.j2 kq t1046 t1045 x87_50 = some r) ∧ Aside0 (kq ≤ kj27) ∧ Aside0 (Kd.R kd_impl_Peg 34 wc w.heap.size (fun _ => True) (.slice Ao52 t1033.length co52) t1046) ∧ Aside0 (Below w.heap.size w wc))
           case first =>
            have H := HC51.out
            clear HC51
            replace H := oB.mp H
            obtain ⟨t1055, A570, H⟩ := H
            replace H : (if t1055 = true then (laws_FnExactListInside.j2 kj27 t1046 t1045 (t1052 != t1027)) else (laws_FnExactListInside.j2 kj27 t1046 t1045 true)) = some r := H
            have A57 := aM A570
            clear A570
            by_cases c58 : t1055 = true
            ·subst c58
             have H1 : (laws_FnExactListInside.j2 kj27 t1046 t1045 (t1052 != t1027)) = some r := by rw [if_pos rfl] at H; exact H
             clear H
             have H := H1
             clear H1
             have H' := aM H
             clear H
             obtain ⟨Ao59, co59, eo59⟩ := Kd.R_slice HO1054.out
             subst eo59
             obtain ⟨Ao60, co60, eo60⟩ := Kd.R_slice HO_4.out
             subst eo60
             go_wp2_with (first | ((with_reducible refine gC (f := 29) rfl ?_); refine goesL_ (some 81) rfl rfl Try.func29 kR rfl #[.slice Ao59 t1051.length co59, .slice Ao60 t1026.length co60] rfl sQ ?_; (with_reducible refine (laws_eqPegS.calls kj27 _ _ t1051 _ _ t1026 true _ ?side1 ?side2 ?side3 ?side4 A57.out).mono ?_); (case side1 => repeat (first | exact (rR HO1054.out).2.2 | (with_reducible refine cA ?_ _) | (with_reducible refine cN ?_ _) | (with_reducible refine cD ?_))); (case side2 => exact (rR HO1054.out).2.1); (case side3 => repeat (first | exact (rR HO_4.out).2.2 | (with_reducible refine cA ?_ _) | (with_reducible refine cN ?_ _) | (with_reducible refine cD ?_))); (case side4 => exact (rR HO_4.out).2.1); rintro e w61 ⟨rfl, hb⟩; refine ⟨_, rfl, ?_⟩; have n0_ := aM (Kd.R_below (by (with_reducible repeat (first | apply rA | apply rN | apply rD)); exact HO_4.out) hb); have n1_ := aM (Kd.R_below (by (with_reducible repeat (first | apply rA | apply rN | apply rD)); exact HO_7.out) hb); have n2_ := aM (Kd.R_below (by (with_reducible repeat (first | apply rA | apply rN | apply rD)); exact HO1050.out) hb); have n3_ := aM (Kd.R_below (by (with_reducible repeat (first | apply rA | apply rN | apply rD)); exact HO1054.out) hb); have n4_ := aM (pT bQ hb); clear HO_4; clear HO_7; clear HO1050; clear HO1054; clear HB; have HO_4 := n0_; have HO_7 := n1_; have HO1050 := n2_; have HO1054 := n3_; have HB := n4_; clear n0_ n1_ n2_ n3_ n4_; (try clear hb); (try clear hb2); (try clear hk); (try clear hi)))
             go_meet
             case rel => exact ⟨_, ((t1052 != t1027)), eQ, H', ⟨by have := HJ7.out; have := HJ27.out; first | omega | exact Nat.le_refl _⟩, ⟨by (with_reducible repeat (first | apply rA | apply rN | apply rD)); exact Kd.R_mono HO_7.out (fun _ hk => trivial)⟩, ⟨bQ⟩⟩
            ·replace c58 := Bool.eq_false_iff.mpr c58
             subst c58
             have H1 : (laws_FnExactListInside.j2 kj27 t1046 t1045 true) = some r := by rw [if_neg (show ¬ (false = true) by decide)] at H; exact H
             clear H
             have H := H1
             clear H1
             have H' := aM H
             clear H
             obtain ⟨Ao62, co62, eo62⟩ := Kd.R_slice HO1054.out
             subst eo62
             obtain ⟨Ao63, co63, eo63⟩ := Kd.R_slice HO_4.out
             subst eo63
             go_wp2_with (first | ((with_reducible refine gC (f := 29) rfl ?_); refine goesL_ (some 81) rfl rfl Try.func29 kR rfl #[.slice Ao62 t1051.length co62, .slice Ao63 t1026.length co63] rfl sQ ?_; (with_reducible refine (laws_eqPegS.calls kj27 _ _ t1051 _ _ t1026 false _ ?side1 ?side2 ?side3 ?side4 A57.out).mono ?_); (case side1 => repeat (first | exact (rR HO1054.out).2.2 | (with_reducible refine cA ?_ _) | (with_reducible refine cN ?_ _) | (with_reducible refine cD ?_))); (case side2 => exact (rR HO1054.out).2.1); (case side3 => repeat (first | exact (rR HO_4.out).2.2 | (with_reducible refine cA ?_ _) | (with_reducible refine cN ?_ _) | (with_reducible refine cD ?_))); (case side4 => exact (rR HO_4.out).2.1); rintro e w64 ⟨rfl, hb⟩; refine ⟨_, rfl, ?_⟩; have n0_ := aM (Kd.R_below (by (with_reducible repeat (first | apply rA | apply rN | apply rD)); exact HO_4.out) hb); have n1_ := aM (Kd.R_below (by (with_reducible repeat (first | apply rA | apply rN | apply rD)); exact HO_7.out) hb); have n2_ := aM (Kd.R_below (by (with_reducible repeat (first | apply rA | apply rN | apply rD)); exact HO1050.out) hb); have n3_ := aM (Kd.R_below (by (with_reducible repeat (first | apply rA | apply rN | apply rD)); exact HO1054.out) hb); have n4_ := aM (pT bQ hb); clear HO_4; clear HO_7; clear HO1050; clear HO1054; clear HB; have HO_4 := n0_; have HO_7 := n1_; have HO1050 := n2_; have HO1054 := n3_; have HB := n4_; clear n0_ n1_ n2_ n3_ n4_; (try clear hb); (try clear hb2); (try clear hk); (try clear hi)))
             go_meet
             case rel => exact ⟨_, (true), eQ, H', ⟨by have := HJ7.out; have := HJ27.out; first | omega | exact Nat.le_refl _⟩, ⟨by (with_reducible repeat (first | apply rA | apply rN | apply rD)); exact Kd.R_mono HO_7.out (fun _ hk => trivial)⟩, ⟨bQ⟩⟩
           case rest =>
            clear HC51
            try clear c1
            try clear c2
            try clear p2
            try clear c3
            try clear c3b0
            try clear c4
            try clear c5
            try clear c7
            try clear c16
            try clear c23
            try clear c25
            try clear c26
            try clear c27
            try clear c29
            try clear c33
            try clear c33b0
            try clear c35
            try clear c36
            try clear c42
            try clear c45
            try clear c45b0
            try clear c48
            try clear c48b0
            try clear c48b1
            try clear c58
            try clear p2
            obtain ⟨kq, x87_50, rfl, HA, HJ50, HO_7, HB⟩ := hcut
            have hl7_50 := (rR HO_7.out).1
            rw [hl7_50] at HO_7
            (try simp only [hl7_50])
            cases kq with
            | zero => exact absurd HA.out (by simp [laws_FnExactListInside.j2])
            | succ kj50 =>
             have H := HA.out
             clear HA
             simp only [laws_FnExactListInside.j2] at H
             by_cases c65 : x87_50 = true
             ·subst c65
              have H1 : (some false) = some r := by rw [if_pos rfl] at H; exact H
              clear H
              have H := H1
              clear H1
              obtain rfl := Option.some.inj H
              go_wp2
              go_ret
              exact ⟨by first | rfl | (simp [errW_none, errW_some] <;> rfl) | (simp [*, errW_none, errW_some] <;> rfl), bQ⟩
             ·replace c65 := Bool.eq_false_iff.mpr c65
              subst c65
              have H1 : ((laws_heldPegS.f kj50 t1046 1).bind fun t1056 => (if t1056 < 0 then (some false) else (if t1056 = t1045 then (some true) else (some false)))) = some r := by rw [if_neg (show ¬ (false = true) by decide)] at H; exact H
              clear H
              have H := H1
              clear H1
              replace H := oB.mp H
              obtain ⟨t1056, A660, H⟩ := H
              replace H : (if t1056 < 0 then (some false) else (if t1056 = t1045 then (some true) else (some false))) = some r := H
              have A66 := aM A660
              clear A660
              by_cases c67 : t1056 < 0
              ·rw [if_pos c67] at H
               have c67b0 : decide (t1056 < 0) = true := dE c67
               clear c67
               obtain rfl := Option.some.inj H
               go_wp2_with (first | ((with_reducible refine gC (f := 36) rfl ?_); refine goesL_ (some 90) rfl rfl Try.func36 kR rfl #[.slice Ao52 t1046.length co52, .int .i64 1] rfl sQ ?_; (with_reducible refine (laws_heldPegS.calls kj50 _ _ t1046 1 t1056 _ ?side1 ?side2 A66.out).mono ?_); (case side1 => repeat (first | exact (rR HO_7.out).2.2 | (with_reducible refine cA ?_ _) | (with_reducible refine cN ?_ _) | (with_reducible refine cD ?_))); (case side2 => exact (rR HO_7.out).2.1); rintro e w' ⟨rfl, ⟨nd, rfl⟩⟩; refine ⟨_, rfl, ?_⟩))
               go_ret
               exact ⟨by first | rfl | (simp [errW_none, errW_some] <;> rfl) | (simp [*, errW_none, errW_some] <;> rfl), bQ⟩
              ·rw [if_neg c67] at H
               have c67b0 : decide (t1056 < 0) = false := decide_eq_false c67
               clear c67
               by_cases c68 : t1056 = t1045
               ·rw [if_pos c68] at H
                have c68b0 : (t1056 == t1045) = true := beq_iff_eq.mpr c68
                have c68b1 : (t1056 != t1045) = false := bne_eq_false_iff_eq.mpr c68
                clear c68
                obtain rfl := Option.some.inj H
                go_wp2_with (first | ((with_reducible refine gC (f := 36) rfl ?_); refine goesL_ (some 90) rfl rfl Try.func36 kR rfl #[.slice Ao52 t1046.length co52, .int .i64 1] rfl sQ ?_; (with_reducible refine (laws_heldPegS.calls kj50 _ _ t1046 1 t1056 _ ?side1 ?side2 A66.out).mono ?_); (case side1 => repeat (first | exact (rR HO_7.out).2.2 | (with_reducible refine cA ?_ _) | (with_reducible refine cN ?_ _) | (with_reducible refine cD ?_))); (case side2 => exact (rR HO_7.out).2.1); rintro e w' ⟨rfl, ⟨nd, rfl⟩⟩; refine ⟨_, rfl, ?_⟩))
                go_ret
                exact ⟨by first | rfl | (simp [errW_none, errW_some] <;> rfl) | (simp [*, errW_none, errW_some] <;> rfl), bQ⟩
               ·rw [if_neg c68] at H
                have c68b0 : (t1056 == t1045) = false := beq_eq_false_iff_ne.mpr c68
                have c68b1 : (t1056 != t1045) = true := bne_iff_ne.mpr c68
                obtain rfl := Option.some.inj H
                go_wp2_with (first | ((with_reducible refine gC (f := 36) rfl ?_); refine goesL_ (some 90) rfl rfl Try.func36 kR rfl #[.slice Ao52 t1046.length co52, .int .i64 1] rfl sQ ?_; (with_reducible refine (laws_heldPegS.calls kj50 _ _ t1046 1 t1056 _ ?side1 ?side2 A66.out).mono ?_); (case side1 => repeat (first | exact (rR HO_7.out).2.2 | (with_reducible refine cA ?_ _) | (with_reducible refine cN ?_ _) | (with_reducible refine cD ?_))); (case side2 => exact (rR HO_7.out).2.1); rintro e w' ⟨rfl, ⟨nd, rfl⟩⟩; refine ⟨_, rfl, ?_⟩))
                go_ret
                exact ⟨by first | rfl | (simp [errW_none, errW_some] <;> rfl) | (simp [*, errW_none, errW_some] <;> rfl), bQ⟩
          ·rw [if_neg c48] at H
           have c48b0 : (t1047 == t1045) = false := beq_eq_false_iff_ne.mpr c48
           have c48b1 : (t1047 != t1045) = true := bne_iff_ne.mpr c48
           obtain rfl := Option.some.inj H
           obtain ⟨Ao69, co69, eo69⟩ := Kd.R_slice HO_7.out
           subst eo69
           go_wp2_with (first | ((with_reducible refine gC (f := 35) rfl ?_); refine goesL_ (some 64) rfl rfl Try.func35 kR rfl #[.slice Ao69 t1033.length co69, .int .i64 1] rfl sQ ?_; (with_reducible refine (laws_markPegS.calls kj27 (fun k_ => some k_ = (.slice Ao69 t1033.length co69 : Value).ownBlock) (.slice Ao69 t1033.length co69) t1033 1 t1045 t1046 w _ ?side1 ?side2 A43.out).mono ?_); (case side1 => repeat (first | (with_reducible first | exact HB.out | apply pA | apply pN | apply pD) | exact HB.out)); (case side2 => exact Kd.R_tight rfl HO_7.out); rintro e w70 ⟨rfl, hy0, hb, hkp⟩; refine ⟨_, rfl, ?_⟩; have n0_ := aM (Kd.R_mono (ok' := fun k_ => some k_ ≠ (.slice Ao69 t1033.length co69 : Value).ownBlock) (Kd.R_keptB (HO_4.out) hkp (fun k_ hk_ hs_ => (hk_) hs_)) (fun k_ hk_ => hk_.1)); have n1_ := aM (Kd.R_reok rfl hy0 (fun k_ e_ => HO_7.out.1 k_ e_)); have n2_ := aM (hb); clear HO_4; clear HO_7; clear HB; have HO_4 := n0_; have HO_7 := n1_; have HB := n2_; clear n0_ n1_ n2_; (try clear hb); (try clear hkp); (try clear hy0)) | ((with_reducible refine gC (f := 36) rfl ?_); refine goesL_ (some 67) rfl rfl Try.func36 kR rfl #[.slice Ao69 t1046.length co69, .int .i64 1] rfl (by (try simp only [mA, mC, mN]); first | done | (rw [show t1046.length = t1033.length from (rR HO_7.out).1.symm] <;> rfl) | rfl | (simp only [lD, lT]; rfl)) ?_; (with_reducible refine (laws_heldPegS.calls kj27 _ _ t1046 1 t1047 _ ?side1 ?side2 A44.out).mono ?_); (case side1 => repeat (first | exact (rR HO_7.out).2.2 | (with_reducible refine cA ?_ _) | (with_reducible refine cN ?_ _) | (with_reducible refine cD ?_))); (case side2 => rw [show t1046.length = t1033.length from (rR HO_7.out).1.symm]; exact (rR HO_7.out).2.1); rintro e w' ⟨rfl, ⟨nd, rfl⟩⟩; refine ⟨_, rfl, ?_⟩))
           go_ret
           exact ⟨by first | rfl | (simp [errW_none, errW_some] <;> rfl) | (simp [*, errW_none, errW_some] <;> rfl), bQ⟩
     ·replace c26 := Bool.eq_false_iff.mpr c26
      subst c26
      have H1 : (some false) = some r := by rw [if_neg (show ¬ (false = true) by decide)] at H; exact H
      clear H
      have H := H1
      clear H1
      obtain rfl := Option.some.inj H
      go_wp2_with (first | ((with_reducible refine gC (f := 27) rfl ?_); refine goesL_ (some 43) rfl rfl Try.func27 kR rfl #[.slice A0 l0.length c0] rfl sQ ?_; (with_reducible refine (laws_toPegS.calls kj7 _ _ l0 t1038 _ ?side1 ?side2 A24.out).mono ?_); (case side1 => repeat (first | exact (Kd.C_below HR0.out HB.out) | (with_reducible refine cA ?_ _) | (with_reducible refine cN ?_ _) | (with_reducible refine cD ?_))); (case side2 => exact HC0.out); rintro e w71 ⟨v1039, rfl, ho0, hb⟩; refine ⟨_, rfl, ?_⟩; have n0_ := aM (Kd.R_elder' (by (with_reducible repeat (first | apply rA | apply rN | apply rD)); exact HO_4.out) (Kd.R_base ho0) hb); have n1_ := aM (Kd.R_elder' (by (with_reducible repeat (first | apply rA | apply rN | apply rD)); exact HO_6.out) (Kd.R_base ho0) hb); have n2_ := aM (Kd.R_elder' (by (with_reducible repeat (first | apply rA | apply rN | apply rD)); exact HO_7.out) (Kd.R_base ho0) hb); have n3_ := aM (Kd.R_lower (Kd.R_new' (Kd.R_new' (Kd.R_new' ho0 (Kd.R_lt (by (with_reducible repeat (first | apply rA | apply rN | apply rD)); exact HO_4.out))) (Kd.R_lt (by (with_reducible repeat (first | apply rA | apply rN | apply rD)); exact HO_6.out))) (Kd.R_lt (by (with_reducible repeat (first | apply rA | apply rN | apply rD)); exact HO_7.out))) (pZ bQ)); have n4_ := aM (pT bQ hb); clear HO_4; clear HO_6; clear HO_7; clear HB; have HO_4 := n0_; have HO_6 := n1_; have HO_7 := n2_; have HO1040 := n3_; have HB := n4_; clear n0_ n1_ n2_ n3_ n4_; (try clear hb); (try clear hb2); (try clear hk); (try clear hi); (try clear ho0); obtain ⟨Ao72, co72, eo72⟩ := Kd.R_slice HO1040.out; subst eo72) | ((with_reducible refine gC (f := 29) rfl ?_); refine goesL_ (some 44) rfl rfl Try.func29 kR rfl #[.slice Ao13 t1030.length co13, .slice Ao72 t1038.length co72] rfl sQ ?_; (with_reducible refine (laws_eqPegS.calls kj7 _ _ t1030 _ _ t1038 false _ ?side1 ?side2 ?side3 ?side4 A25.out).mono ?_); (case side1 => repeat (first | exact (rR HO_6.out).2.2 | (with_reducible refine cA ?_ _) | (with_reducible refine cN ?_ _) | (with_reducible refine cD ?_))); (case side2 => exact (rR HO_6.out).2.1); (case side3 => repeat (first | exact (rR HO1040.out).2.2 | (with_reducible refine cA ?_ _) | (with_reducible refine cN ?_ _) | (with_reducible refine cD ?_))); (case side4 => exact (rR HO1040.out).2.1); rintro e w73 ⟨rfl, hb⟩; refine ⟨_, rfl, ?_⟩; have n0_ := aM (Kd.R_below (by (with_reducible repeat (first | apply rA | apply rN | apply rD)); exact HO_4.out) hb); have n1_ := aM (Kd.R_below (by (with_reducible repeat (first | apply rA | apply rN | apply rD)); exact HO_6.out) hb); have n2_ := aM (Kd.R_below (by (with_reducible repeat (first | apply rA | apply rN | apply rD)); exact HO_7.out) hb); have n3_ := aM (Kd.R_below (by (with_reducible repeat (first | apply rA | apply rN | apply rD)); exact HO1040.out) hb); have n4_ := aM (pT bQ hb); clear HO_4; clear HO_6; clear HO_7; clear HO1040; clear HB; have HO_4 := n0_; have HO_6 := n1_; have HO_7 := n2_; have HO1040 := n3_; have HB := n4_; clear n0_ n1_ n2_ n3_ n4_; (try clear hb); (try clear hb2); (try clear hk); (try clear hi)))
      go_ret
      exact ⟨by first | rfl | (simp [errW_none, errW_some] <;> rfl) | (simp [*, errW_none, errW_some] <;> rfl), bQ⟩

def laws_FnExactListInside.Pure : Prop := ∀ (l0 : List (S_laws_Peg)), OkL (fun y : S_laws_Peg => (okInt .i64) y.f0 ∧ (okInt .i64) y.f1) l0 → ∃ k, laws_FnExactListInside.f k l0 = some true

end Go.Proofs.Ytiacfkilmknldaa.X
