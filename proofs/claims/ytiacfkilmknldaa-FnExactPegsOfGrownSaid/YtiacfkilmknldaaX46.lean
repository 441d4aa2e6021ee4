-- thin
-- short
import Derived.Test.YtiacfkilmknldaaXA
import Derived.Test.YtiacfkilmknldaaX0
import Derived.Test.YtiacfkilmknldaaX2
import Derived.Test.YtiacfkilmknldaaX7
import Derived.Test.YtiacfkilmknldaaX13
import Derived.Test.YtiacfkilmknldaaX45
namespace Go.Proofs.Ytiacfkilmknldaa.X
open Go.RowKit Go.Proofs.Ytiacfkilmknldaa.XW Go.Proofs.YtiacfkilmknldaaW.PrintWords Go.Proofs.YtiacfkilmknldaaW.PrintLast Go.Proofs.YtiacfkilmknldaaW.PrintMore
attribute [local go_sem] max2_int min2_int max_two min_two max_three min_three max_four min_four   -- for this text's walks alone
set_option linter.unusedVariables false
set_option linter.unusedSimpArgs false

def laws_FnExactPegsOfGrown.j0 : Nat → List (S_laws_Peg) → List (S_impl_Peg) → Bool → Option (Bool)
 | 0, _, _, _ => none
 | k + 1, x0, x8, x38 => if x38 = true then (some false) else ((laws_toPegS.f k x0).bind fun t819 => ((laws_eqPegS.f k x8 t819).bind fun t822 => (if t822 = true then (some true) else (some false))))
def laws_FnExactPegsOfGrown.f (k : Nat) (l0 : List (S_laws_Peg)) (a1 : Int) : Option (Bool) := (laws_szPegS.f l0 1048576).bind fun t808 => (if t808 < 0 then (some true) else ((laws_toPegS.f k l0).bind fun t809 => ((spec_PegsOfGrown.f k t809 a1).bind fun bt812 => ((laws_toPegS.f k l0).bind fun t814 => ((impl_PegsOfGrown.f k t814 a1).bind fun bt817 => (if bt817.1 = bt812.1 then (laws_FnExactPegsOfGrown.j0 k l0 t814 (bt817.2 != bt812.2)) else (laws_FnExactPegsOfGrown.j0 k l0 t814 true)))))))
theorem laws_FnExactPegsOfGrown.mono_l : ∀ k, (∀ y0 y1 y2, LeO (laws_FnExactPegsOfGrown.j0 k y0 y1 y2) (laws_FnExactPegsOfGrown.j0 (k + 1) y0 y1 y2))
 | 0 => fun _ _ _ r h => by simp [laws_FnExactPegsOfGrown.j0] at h
 | k + 1 => by
  have ih0 := laws_FnExactPegsOfGrown.mono_l k
  ·intro y0 y1 y2
   unfold laws_FnExactPegsOfGrown.j0
   repeat' first
   | (with_reducible exact ih0 _ _ _)
   | (with_reducible exact impl_PegsOfGrown.mono _ _ _)
   | (with_reducible exact laws_eqPegS.mono _ _ _)
   | (with_reducible exact laws_toPegS.mono _ _)
   | (with_reducible exact spec_PegsOfGrown.mono _ _ _)
   | (with_reducible exact LeO.refl _)
   | (with_reducible exact LeO.none _)
   | (with_reducible refine LeO.ite ?_ ?_)
   | (with_reducible refine LeO.bind ?_ (fun _ => ?_))
   | exact ih0 _ _ _
   | exact impl_PegsOfGrown.mono _ _ _
   | exact laws_eqPegS.mono _ _ _
   | exact laws_toPegS.mono _ _
   | exact spec_PegsOfGrown.mono _ _ _
   | exact LeO.none _
   | refine LeO.ite ?_ ?_
   | refine LeO.bind ?_ (fun _ => ?_)
theorem laws_FnExactPegsOfGrown.mono : ∀ a0 a1 k, LeO (laws_FnExactPegsOfGrown.f k a0 a1) (laws_FnExactPegsOfGrown.f (k + 1) a0 a1) := by
 intro a0 a1 k
 have ih0 := laws_FnExactPegsOfGrown.mono_l k
 unfold laws_FnExactPegsOfGrown.f
 repeat' first
   | (with_reducible exact ih0 _ _ _)
   | (with_reducible exact impl_PegsOfGrown.mono _ _ _)
   | (with_reducible exact laws_eqPegS.mono _ _ _)
   | (with_reducible exact laws_toPegS.mono _ _)
   | (with_reducible exact spec_PegsOfGrown.mono _ _ _)
   | (with_reducible exact LeO.refl _)
   | (with_reducible exact LeO.none _)
   | (with_reducible refine LeO.ite ?_ ?_)
   | (with_reducible refine LeO.bind ?_ (fun _ => ?_))
   | exact ih0 _ _ _
   | exact impl_PegsOfGrown.mono _ _ _
   | exact laws_eqPegS.mono _ _ _
   | exact laws_toPegS.mono _ _
   | exact spec_PegsOfGrown.mono _ _ _
   | exact LeO.none _
   | refine LeO.ite ?_ ?_
   | refine LeO.bind ?_ (fun _ => ?_)
set_option maxHeartbeats 8000000 in
set_option maxRecDepth 100000 in
theorem laws_FnExactPegsOfGrown.calls (k : Nat) (A0 : Option Addr) (c0 : Nat) (l0 : List (S_laws_Peg)) (a1 : Int) (r : Bool) (w : World) (hr0 : Kd.C kd_laws_Peg w A0 l0.length l0) (hc0 : l0.length ≤ c0) (h : laws_FnExactPegsOfGrown.f k l0 a1 = some r) :
  Calls Try.prog 18 #[.slice A0 l0.length c0, .int .i64 a1] w fun e w' => e = .returned (.bool r) ∧ Below w.heap.size w w' := by
 have HR0 := aM hr0
 have HC0 := aM hc0
 clear hr0 hc0
 have HB := aM (Below.refl w.heap.size w)
 have H : ((laws_szPegS.f l0 1048576).bind fun t808 => (if t808 < 0 then (some true) else ((laws_toPegS.f k l0).bind fun t809 => ((spec_PegsOfGrown.f k t809 a1).bind fun bt812 => ((laws_toPegS.f k l0).bind fun t814 => ((impl_PegsOfGrown.f k t814 a1).bind fun bt817 => (if bt817.1 = bt812.1 then (laws_FnExactPegsOfGrown.j0 k l0 t814 (bt817.2 != bt812.2)) else (laws_FnExactPegsOfGrown.j0 k l0 t814 true)))))))) = some r := h
 clear h
 replace H := oB.mp H
 obtain ⟨t808, A30, H⟩ := H
 replace H : (if t808 < 0 then (some true) else ((laws_toPegS.f k l0).bind fun t809 => ((spec_PegsOfGrown.f k t809 a1).bind fun bt812 => ((laws_toPegS.f k l0).bind fun t814 => ((impl_PegsOfGrown.f k t814 a1).bind fun bt817 => (if bt817.1 = bt812.1 then (laws_FnExactPegsOfGrown.j0 k l0 t814 (bt817.2 != bt812.2)) else (laws_FnExactPegsOfGrown.j0 k l0 t814 true))))))) = some r := H
 have A3 := aM A30
 clear A30
 by_cases c4 : t808 < 0
 ·rw [if_pos c4] at H
  have c4b0 : decide (t808 < 0) = true := dE c4
  clear c4
  obtain rfl := Option.some.inj H
  go_enter Try.func18, Try.ntmps18
  go_wp2_with (first | ((with_reducible refine gC (f := 25) rfl ?_); refine goesL_ (some 13) rfl rfl Try.func25 (by kernel_rfl) rfl #[.slice A0 l0.length c0, .int .i64 1048576] rfl (by (try simp only [mA, mC, mN]); first | done | rfl | (simp only [lD, lT]; rfl)) ?_; (with_reducible refine (laws_szPegS.calls _ _ l0 1048576 t808 _ ?side1 ?side2 A3.out).mono ?_); (case side1 => repeat (first | exact HR0.out | (with_reducible refine cA ?_ _) | (with_reducible refine cN ?_ _) | (with_reducible refine cD ?_))); (case side2 => exact HC0.out); rintro e w' ⟨rfl, ⟨nd, rfl⟩⟩; refine ⟨_, rfl, ?_⟩))
  go_ret
  exact ⟨by first | rfl | (simp [errW_none, errW_some] <;> rfl) | (simp [*, errW_none, errW_some] <;> rfl), by repeat (first | (with_reducible first | exact HB.out | apply pA | apply pN | apply pD) | exact HB.out)⟩
 ·rw [if_neg c4] at H
  have c4b0 : decide (t808 < 0) = false := decide_eq_false c4
  clear c4
  replace H := oB.mp H
  obtain ⟨t809, A50, H⟩ := H
  replace H : ((spec_PegsOfGrown.f k t809 a1).bind fun bt812 => ((laws_toPegS.f k l0).bind fun t814 => ((impl_PegsOfGrown.f k t814 a1).bind fun bt817 => (if bt817.1 = bt812.1 then (laws_FnExactPegsOfGrown.j0 k l0 t814 (bt817.2 != bt812.2)) else (laws_FnExactPegsOfGrown.j0 k l0 t814 true))))) = some r := H
  have A5 := aM A50
  clear A50
  replace H := oB.mp H
  obtain ⟨⟨t812, t813⟩, A60, H⟩ := H
  replace H : ((laws_toPegS.f k l0).bind fun t814 => ((impl_PegsOfGrown.f k t814 a1).bind fun bt817 => (if bt817.1 = t812 then (laws_FnExactPegsOfGrown.j0 k l0 t814 (bt817.2 != t813)) else (laws_FnExactPegsOfGrown.j0 k l0 t814 true)))) = some r := H
  have A6 := aM A60
  clear A60
  replace H := oB.mp H
  obtain ⟨t814, A70, H⟩ := H
  replace H : ((impl_PegsOfGrown.f k t814 a1).bind fun bt817 => (if bt817.1 = t812 then (laws_FnExactPegsOfGrown.j0 k l0 t814 (bt817.2 != t813)) else (laws_FnExactPegsOfGrown.j0 k l0 t814 true))) = some r := H
  have A7 := aM A70
  clear A70
  replace H := oB.mp H
  obtain ⟨⟨t817, t818⟩, A80, H⟩ := H
  replace H : (if t817 = t812 then (laws_FnExactPegsOfGrown.j0 k l0 t814 (t818 != t813)) else (laws_FnExactPegsOfGrown.j0 k l0 t814 true)) = some r := H
  have A8 := aM A80
  clear A80
  have HC9 := aM H
  clear H
  go_enter Try.func18, Try.ntmps18
  go_upto_region 8 with (first | ((with_reducible refine gC (f := 25) rfl ?_); refine goesL_ (some 13) rfl rfl Try.func25 (by kernel_rfl) rfl #[.slice A0 l0.length c0, .int .i64 1048576] rfl (by (try simp only [mA, mC, mN]); first | done | rfl | (simp only [lD, lT]; rfl)) ?_; (with_reducible refine (laws_szPegS.calls _ _ l0 1048576 t808 _ ?side1 ?side2 A3.out).mono ?_); (case side1 => repeat (first | exact HR0.out | (with_reducible refine cA ?_ _) | (with_reducible refine cN ?_ _) | (with_reducible refine cD ?_))); (case side2 => exact HC0.out); rintro e w' ⟨rfl, ⟨nd, rfl⟩⟩; refine ⟨_, rfl, ?_⟩) | ((with_reducible refine gC (f := 27) rfl ?_); refine goesL_ (some 18) rfl rfl Try.func27 (by kernel_rfl) rfl #[.slice A0 l0.length c0] rfl (by (try simp only [mA, mC, mN]); first | done | rfl | (simp only [lD, lT]; rfl)) ?_; (with_reducible refine (laws_toPegS.calls k _ _ l0 t809 _ ?side1 ?side2 A5.out).mono ?_); (case side1 => repeat (first | exact HR0.out | (with_reducible refine cA ?_ _) | (with_reducible refine cN ?_ _) | (with_reducible refine cD ?_))); (case side2 => exact HC0.out); rintro e w10 ⟨v810, rfl, ho0, hb⟩; refine ⟨_, rfl, ?_⟩; have n0_ := aM (Kd.R_lower ho0 (pZ (by repeat (first | (with_reducible first | exact HB.out | apply pA | apply pN | apply pD) | exact HB.out)))); have n1_ := aM (pT (by repeat (first | (with_reducible first | exact HB.out | apply pA | apply pN | apply pD) | exact HB.out)) hb); clear HB; have HO811 := n0_; have HB := n1_; clear n0_ n1_; (try clear hb); (try clear hb2); (try clear hk); (try clear hi); (try clear ho0); obtain ⟨Ao11, co11, eo11⟩ := Kd.R_slice HO811.out; subst eo11) | ((with_reducible refine gC (f := 64) rfl ?_); refine goesL_ (some 20) rfl rfl Try.func64 (by kernel_rfl) rfl #[.slice Ao11 t809.length co11, .int .i64 a1] rfl (by (try simp only [mA, mC, mN]); first | done | rfl | (simp only [lD, lT]; rfl)) ?_; (with_reducible refine (spec_PegsOfGrown.calls k _ _ t809 a1 t812 t813 _ ?side1 ?side2 A6.out).mono ?_); (case side1 => repeat (first | exact (rR HO811.out).2.2 | (with_reducible refine cA ?_ _) | (with_reducible refine cN ?_ _) | (with_reducible refine cD ?_))); (case side2 => exact (rR HO811.out).2.1); rintro e w12 ⟨rfl, hb⟩; refine ⟨_, rfl, ?_⟩; have n0_ := aM (Kd.R_below (by (with_reducible repeat (first | apply rA | apply rN | apply rD)); exact HO811.out) hb); have n1_ := aM (pT (by repeat (first | (with_reducible first | exact HB.out | apply pA | apply pN | apply pD) | exact HB.out)) hb); clear HO811; clear HB; have HO811 := n0_; have HB := n1_; clear n0_ n1_; (try clear hb); (try clear hb2); (try clear hk); (try clear hi)) | ((with_reducible refine gC (f := 27) rfl ?_); refine goesL_ (some 24) rfl rfl Try.func27 (by kernel_rfl) rfl #[.slice A0 l0.length c0] rfl (by (try simp only [mA, mC, mN]); first | done | rfl | (simp only [lD, lT]; rfl)) ?_; (with_reducible refine (laws_toPegS.calls k _ _ l0 t814 _ ?side1 ?side2 A7.out).mono ?_); (case side1 => repeat (first | exact (Kd.C_below HR0.out HB.out) | (with_reducible refine cA ?_ _) | (with_reducible refine cN ?_ _) | (with_reducible refine cD ?_))); (case side2 => exact HC0.out); rintro e w13 ⟨v815, rfl, ho0, hb⟩; refine ⟨_, rfl, ?_⟩; have n0_ := aM (Kd.R_elder' (by (with_reducible repeat (first | apply rA | apply rN | apply rD)); exact HO811.out) (Kd.R_base ho0) hb); have n1_ := aM (Kd.R_lower (Kd.R_new' ho0 (Kd.R_lt (by (with_reducible repeat (first | apply rA | apply rN | apply rD)); exact HO811.out))) (pZ (by repeat (first | (with_reducible first | exact HB.out | apply pA | apply pN | apply pD) | exact HB.out)))); have n2_ := aM (pT (by repeat (first | (with_reducible first | exact HB.out | apply pA | apply pN | apply pD) | exact HB.out)) hb); clear HO811; clear HB; have HO811 := n0_; have HO816 := n1_; have HB := n2_; clear n0_ n1_ n2_; (try clear hb); (try clear hb2); (try clear hk); (try clear hi); (try clear ho0); obtain ⟨Ao14, co14, eo14⟩ := Kd.R_slice HO816.out; subst eo14) | ((with_reducible refine gC (f := 65) rfl ?_); refine goesL_ (some 28) rfl rfl Try.func65 (by kernel_rfl) rfl #[.slice Ao14 t814.length co14, .int .i64 a1] rfl (by (try simp only [mA, mC, mN]); first | done | rfl | (simp only [lD, lT]; rfl)) ?_; (with_reducible refine (impl_PegsOfGrown.calls k _ _ t814 a1 t817 t818 _ ?side1 ?side2 A8.out).mono ?_); (case side1 => repeat (first | exact (rR HO816.out).2.2 | (with_reducible refine cA ?_ _) | (with_reducible refine cN ?_ _) | (with_reducible refine cD ?_))); (case side2 => exact (rR HO816.out).2.1); rintro e w15 ⟨rfl, hb⟩; refine ⟨_, rfl, ?_⟩; have n0_ := aM (Kd.R_below (by (with_reducible repeat (first | apply rA | apply rN | apply rD)); exact HO811.out) hb); have n1_ := aM (Kd.R_below (by (with_reducible repeat (first | apply rA | apply rN | apply rD)); exact HO816.out) hb); have n2_ := aM (pT (by repeat (first | (with_reducible first | exact HB.out | apply pA | apply pN | apply pD) | exact HB.out)) hb); clear HO811; clear HO816; clear HB; have HO811 := n0_; have HO816 := n1_; have HB := n2_; clear n0_ n1_ n2_; (try clear hb); (try clear hb2); (try clear hk); (try clear hi)))
  (try simp only [Act.put, sI, sZ, sS])
  go_cut [38] (fun v38 wc => ∃ (kq : Nat) (x38_8 : Bool), v38 = .bool x38_8 ∧ Aside0 (laws_FnExactPegsOfGrown.j0 kq l0 t814 x38_8 = some r) ∧ Aside0 (kq ≤ k) ∧ Aside0 (Kd.R kd_impl_Peg 34 wc w.heap.size (fun _ => True) (.slice Ao14 t814.length co14) t814) ∧ Aside0 (Below w.heap.size w wc))
  case first =>
   have H := HC9.out
   clear HC9
   by_cases c16 : t817 = t812
   ·rw [if_pos c16] at H
    have c16b0 : (t817 == t812) = true := beq_iff_eq.mpr c16
    have c16b1 : (t817 != t812) = false := bne_eq_false_iff_eq.mpr c16
    clear c16
    (first | rw [c16b0] | (simp only [i64_w, i32_w]; rw [c16b0]) | skip)
    have H' := aM H
    clear H
    go_wp2
    go_meet
    case rel => exact ⟨_, ((t818 != t813)), (by first | rfl | (simp; done) | (simp [*]; done)), H', ⟨by first | omega | exact Nat.le_refl _⟩, ⟨by (with_reducible repeat (first | apply rA | apply rN | apply rD)); exact Kd.R_mono HO816.out (fun _ hk => trivial)⟩, ⟨by repeat (first | (with_reducible first | exact HB.out | apply pA | apply pN | apply pD) | exact HB.out)⟩⟩
   ·rw [if_neg c16] at H
    have c16b0 : (t817 == t812) = false := beq_eq_false_iff_ne.mpr c16
    have c16b1 : (t817 != t812) = true := bne_iff_ne.mpr c16
    (first | rw [c16b0] | (simp only [i64_w, i32_w]; rw [c16b0]) | skip)
    have H' := aM H
    clear H
    go_wp2
    go_meet
    case rel => exact ⟨_, (true), (by first | rfl | (simp; done) | (simp [*]; done)), H', ⟨by first | omega | exact Nat.le_refl _⟩, ⟨by (with_reducible repeat (first | apply rA | apply rN | apply rD)); exact Kd.R_mono HO816.out (fun _ hk => trivial)⟩, ⟨by repeat (first | (with_reducible first | exact HB.out | apply pA | apply pN | apply pD) | exact HB.out)⟩⟩
  case rest =>
   clear HC9
   try clear c1
   try clear c2
   try clear p2
   try clear c4
   try clear c4b0
   try clear c6
   try clear c16
   try clear c16b0
   try clear c16b1
   obtain ⟨kq, x38_8, rfl, HA, HJ8, HO_8, HB⟩ := hcut
   cases kq with
   | zero => exact absurd HA.out (by simp [laws_FnExactPegsOfGrown.j0])
   | succ kj8 =>
    have H := HA.out
    clear HA
    simp only [laws_FnExactPegsOfGrown.j0] at H
    by_cases c17 : x38_8 = true
    ·subst c17
     have H1 : (some false) = some r := by rw [if_pos rfl] at H; exact H
     clear H
     have H := H1
     clear H1
     obtain rfl := Option.some.inj H
     go_wp2
     go_ret
     exact ⟨by first | rfl | (simp [errW_none, errW_some] <;> rfl) | (simp [*, errW_none, errW_some] <;> rfl), by repeat (first | (with_reducible first | exact HB.out | apply pA | apply pN | apply pD) | exact HB.out)⟩
    ·replace c17 := Bool.eq_false_iff.mpr c17
     subst c17
     have H1 : ((laws_toPegS.f kj8 l0).bind fun t819 => ((laws_eqPegS.f kj8 t814 t819).bind fun t822 => (if t822 = true then (some true) else (some false)))) = some r := by rw [if_neg (show ¬ (false = true) by decide)] at H; exact H
     clear H
     have H := H1
     clear H1
     replace H := oB.mp H
     obtain ⟨t819, A180, H⟩ := H
     replace H : ((laws_eqPegS.f kj8 t814 t819).bind fun t822 => (if t822 = true then (some true) else (some false))) = some r := H
     have A18 := aM A180
     clear A180
     replace H := oB.mp H
     obtain ⟨t822, A190, H⟩ := H
     replace H : (if t822 = true then (some true) else (some false)) = some r := H
     have A19 := aM A190
     clear A190
     by_cases c20 : t822 = true
     ·subst c20
      have H1 : (some true) = some r := by rw [if_pos rfl] at H; exact H
      clear H
      have H := H1
      clear H1
      obtain rfl := Option.some.inj H
      go_wp2_with (first | ((with_reducible refine gC (f := 27) rfl ?_); refine goesL_ (some 41) rfl rfl Try.func27 (by kernel_rfl) rfl #[.slice A0 l0.length c0] rfl (by (try simp only [mA, mC, mN]); first | done | rfl | (simp only [lD, lT]; rfl)) ?_; (with_reducible refine (laws_toPegS.calls kj8 _ _ l0 t819 _ ?side1 ?side2 A18.out).mono ?_); (case side1 => repeat (first | exact (Kd.C_below HR0.out HB.out) | (with_reducible refine cA ?_ _) | (with_reducible refine cN ?_ _) | (with_reducible refine cD ?_))); (case side2 => exact HC0.out); rintro e w21 ⟨v820, rfl, ho0, hb⟩; refine ⟨_, rfl, ?_⟩; have n0_ := aM (Kd.R_elder' (by (with_reducible repeat (first | apply rA | apply rN | apply rD)); exact HO_8.out) (Kd.R_base ho0) hb); have n1_ := aM (Kd.R_lower (Kd.R_new' ho0 (Kd.R_lt (by (with_reducible repeat (first | apply rA | apply rN | apply rD)); exact HO_8.out))) (pZ (by repeat (first | (with_reducible first | exact HB.out | apply pA | apply pN | apply pD) | exact HB.out)))); have n2_ := aM (pT (by repeat (first | (with_reducible first | exact HB.out | apply pA | apply pN | apply pD) | exact HB.out)) hb); clear HO_8; clear HB; have HO_8 := n0_; have HO821 := n1_; have HB := n2_; clear n0_ n1_ n2_; (try clear hb); (try clear hb2); (try clear hk); (try clear hi); (try clear ho0); obtain ⟨Ao22, co22, eo22⟩ := Kd.R_slice HO821.out; subst eo22) | ((with_reducible refine gC (f := 29) rfl ?_); refine goesL_ (some 42) rfl rfl Try.func29 (by kernel_rfl) rfl #[.slice Ao14 t814.length co14, .slice Ao22 t819.length co22] rfl (by (try simp only [mA, mC, mN]); first | done | rfl | (simp only [lD, lT]; rfl)) ?_; (with_reducible refine (laws_eqPegS.calls kj8 _ _ t814 _ _ t819 true _ ?side1 ?side2 ?side3 ?side4 A19.out).mono ?_); (case side1 => repeat (first | exact (rR HO_8.out).2.2 | (with_reducible refine cA ?_ _) | (with_reducible refine cN ?_ _) | (with_reducible refine cD ?_))); (case side2 => exact (rR HO_8.out).2.1); (case side3 => repeat (first | exact (rR HO821.out).2.2 | (with_reducible refine cA ?_ _) | (with_reducible refine cN ?_ _) | (with_reducible refine cD ?_))); (case side4 => exact (rR HO821.out).2.1); rintro e w23 ⟨rfl, hb⟩; refine ⟨_, rfl, ?_⟩; have n0_ := aM (Kd.R_below (by (with_reducible repeat (first | apply rA | apply rN | apply rD)); exact HO_8.out) hb); have n1_ := aM (Kd.R_below (by (with_reducible repeat (first | apply rA | apply rN | apply rD)); exact HO821.out) hb); have n2_ := aM (pT (by repeat (first | (with_reducible first | exact HB.out | apply pA | apply pN | apply pD) | exact HB.out)) hb); clear HO_8; clear HO821; clear HB; have HO_8 := n0_; have HO821 := n1_; have HB := n2_; clear n0_ n1_ n2_; (try clear hb); (try clear hb2); (try clear hk); (try clear hi)))
      go_ret
      exact ⟨by first | rfl | (simp [errW_none, errW_some] <;> rfl) | (simp [*, errW_none, errW_some] <;> rfl), by repeat (first | (with_reducible first | exact HB.out | apply pA | apply pN | apply pD) | exact HB.out)⟩
     ·replace c20 := Bool.eq_false_iff.mpr c20
      subst c20
      have H1 : (some false) = some r := by rw [if_neg (show ¬ (false = true) by decide)] at H; exact H
      clear H
      have H := H1
      clear H1
      obtain rfl := Option.some.inj H
      go_wp2_with (first | ((with_reducible refine gC (f := 27) rfl ?_); refine goesL_ (some 41) rfl rfl Try.func27 (by kernel_rfl) rfl #[.slice A0 l0.length c0] rfl (by (try simp only [mA, mC, mN]); first | done | rfl | (simp only [lD, lT]; rfl)) ?_; (with_reducible refine (laws_toPegS.calls kj8 _ _ l0 t819 _ ?side1 ?side2 A18.out).mono ?_); (case side1 => repeat (first | exact (Kd.C_below HR0.out HB.out) | (with_reducible refine cA ?_ _) | (with_reducible refine cN ?_ _) | (with_reducible refine cD ?_))); (case side2 => exact HC0.out); rintro e w24 ⟨v820, rfl, ho0, hb⟩; refine ⟨_, rfl, ?_⟩; have n0_ := aM (Kd.R_elder' (by (with_reducible repeat (first | apply rA | apply rN | apply rD)); exact HO_8.out) (Kd.R_base ho0) hb); have n1_ := aM (Kd.R_lower (Kd.R_new' ho0 (Kd.R_lt (by (with_reducible repeat (first | apply rA | apply rN | apply rD)); exact HO_8.out))) (pZ (by repeat (first | (with_reducible first | exact HB.out | apply pA | apply pN | apply pD) | exact HB.out)))); have n2_ := aM (pT (by repeat (first | (with_reducible first | exact HB.out | apply pA | apply pN | apply pD) | exact HB.out)) hb); clear HO_8; clear HB; have HO_8 := n0_; have HO821 := n1_; have HB := n2_; clear n0_ n1_ n2_; (try clear hb); (try clear hb2); (try clear hk); (try clear hi); (try clear ho0); obtain ⟨Ao25, co25, eo25⟩ := Kd.R_slice HO821.out; subst eo25) | ((with_reducible refine gC (f := 29) rfl ?_); refine goesL_ (some 42) rfl rfl Try.func29 (by kernel_rfl) rfl #[.slice Ao14 t814.length co14, .slice Ao25 t819.length co25] rfl (by (try simp only [mA, mC, mN]); first | done | rfl | (simp only [lD, lT]; rfl)) ?_; (with_reducible refine (laws_eqPegS.calls kj8 _ _ t814 _ _ t819 false _ ?side1 ?side2 ?side3 ?side4 A19.out).mono ?_); (case side1 => repeat (first | exact (rR HO_8.out).2.2 | (with_reducible refine cA ?_ _) | (with_reducible refine cN ?_ _) | (with_reducible refine cD ?_))); (case side2 => exact (rR HO_8.out).2.1); (case side3 => repeat (first | exact (rR HO821.out).2.2 | (with_reducible refine cA ?_ _) | (with_reducible refine cN ?_ _) | (with_reducible refine cD ?_))); (case side4 => exact (rR HO821.out).2.1); rintro e w26 ⟨rfl, hb⟩; refine ⟨_, rfl, ?_⟩; have n0_ := aM (Kd.R_below (by (with_reducible repeat (first | apply rA | apply rN | apply rD)); exact HO_8.out) hb); have n1_ := aM (Kd.R_below (by (with_reducible repeat (first | apply rA | apply rN | apply rD)); exact HO821.out) hb); have n2_ := aM (pT (by repeat (first | (with_reducible first | exact HB.out | apply pA | apply pN | apply pD) | exact HB.out)) hb); clear HO_8; clear HO821; clear HB; have HO_8 := n0_; have HO821 := n1_; have HB := n2_; clear n0_ n1_ n2_; (try clear hb); (try clear hb2); (try clear hk); (try clear hi)))
      go_ret
      exact ⟨by first | rfl | (simp [errW_none, errW_some] <;> rfl) | (simp [*, errW_none, errW_some] <;> rfl), by repeat (first | (with_reducible first | exact HB.out | apply pA | apply pN | apply pD) | exact HB.out)⟩

def laws_FnExactPegsOfGrown.Pure : Prop := ∀ (l0 : List (S_laws_Peg)) (a1 : Int), OkL (fun y : S_laws_Peg => (okInt .i64) y.f0 ∧ (okInt .i64) y.f1) l0 → (Lit.int .i64 a1).wf = true → ∃ k, laws_FnExactPegsOfGrown.f k l0 a1 = some true

end Go.Proofs.Ytiacfkilmknldaa.X
