-- thin
-- short
import Derived.Test.YtnlkglbpihgcmaaXA
import Derived.Test.YtnlkglbpihgcmaaX0
import Derived.Test.YtnlkglbpihgcmaaX2
import Derived.Test.YtnlkglbpihgcmaaX5
import Derived.Test.YtnlkglbpihgcmaaX8
import Derived.Test.YtnlkglbpihgcmaaX29
import Derived.Test.YtnlkglbpihgcmaaX31
namespace Go.Proofs.Ytnlkglbpihgcmaa.X
open Go.RowKit Go.Proofs.Ytnlkglbpihgcmaa.XW Go.Proofs.YtnlkglbpihgcmaaW.PrintWords Go.Proofs.YtnlkglbpihgcmaaW.PrintLast Go.Proofs.YtnlkglbpihgcmaaW.PrintMore
attribute [local go_sem] max2_int min2_int max_two min_two max_three min_three max_four min_four   -- for this text's walks alone
set_option linter.unusedVariables false
set_option linter.unusedSimpArgs false

def laws_FnExactBoxOfThree.j0 : Nat → List (S_laws_Peg) → List (S_impl_Peg) → Bool → Option (Bool)
 | 0, _, _, _ => none
 | k + 1, x0, x7, x45 => if x45 = true then (some false) else ((laws_toPegS.f k x0).bind fun t583 => ((laws_eqPegS.f k x7 t583).bind fun t586 => (if t586 = true then (some true) else (some false))))
def laws_FnExactBoxOfThree.f (k : Nat) (l0 : List (S_laws_Peg)) : Option (Bool) := (laws_szPegS.f l0 1048576).bind fun t560 => (if t560 < 0 then (some true) else ((laws_toPegS.f k l0).bind fun t561 => ((spec_BoxOfThree.f k t561).bind fun bt564 => ((laws_toPegS.f k l0).bind fun t571 => ((impl_BoxOfThree.f k t571).bind fun bt574 => ((laws_eqPeg.f bt574.1 bt574.2.1 bt564.1 bt564.2.1).bind fun t581 => (if t581 = true then ((laws_eqPeg.f bt574.2.2.1 bt574.2.2.2.1 bt564.2.2.1 bt564.2.2.2.1).bind fun t582 => (if t582 = true then (laws_FnExactBoxOfThree.j0 k l0 t571 (bt574.2.2.2.2 != bt564.2.2.2.2)) else (laws_FnExactBoxOfThree.j0 k l0 t571 true))) else (laws_FnExactBoxOfThree.j0 k l0 t571 true))))))))
theorem laws_FnExactBoxOfThree.mono_l : ∀ k, (∀ y0 y1 y2, LeO (laws_FnExactBoxOfThree.j0 k y0 y1 y2) (laws_FnExactBoxOfThree.j0 (k + 1) y0 y1 y2))
 | 0 => fun _ _ _ r h => by simp [laws_FnExactBoxOfThree.j0] at h
 | k + 1 => by
  have ih0 := laws_FnExactBoxOfThree.mono_l k
  ·intro y0 y1 y2
   unfold laws_FnExactBoxOfThree.j0
   repeat' first
   | (with_reducible exact ih0 _ _ _)
   | (with_reducible exact impl_BoxOfThree.mono _ _)
   | (with_reducible exact laws_eqPegS.mono _ _ _)
   | (with_reducible exact laws_toPegS.mono _ _)
   | (with_reducible exact spec_BoxOfThree.mono _ _)
   | (with_reducible exact LeO.refl _)
   | (with_reducible exact LeO.none _)
   | (with_reducible refine LeO.ite ?_ ?_)
   | (with_reducible refine LeO.bind ?_ (fun _ => ?_))
   | exact ih0 _ _ _
   | exact impl_BoxOfThree.mono _ _
   | exact laws_eqPegS.mono _ _ _
   | exact laws_toPegS.mono _ _
   | exact spec_BoxOfThree.mono _ _
   | exact LeO.none _
   | refine LeO.ite ?_ ?_
   | refine LeO.bind ?_ (fun _ => ?_)
theorem laws_FnExactBoxOfThree.mono : ∀ a0 k, LeO (laws_FnExactBoxOfThree.f k a0) (laws_FnExactBoxOfThree.f (k + 1) a0) := by
 intro a0 k
 have ih0 := laws_FnExactBoxOfThree.mono_l k
 unfold laws_FnExactBoxOfThree.f
 repeat' first
   | (with_reducible exact ih0 _ _ _)
   | (with_reducible exact impl_BoxOfThree.mono _ _)
   | (with_reducible exact laws_eqPegS.mono _ _ _)
   | (with_reducible exact laws_toPegS.mono _ _)
   | (with_reducible exact spec_BoxOfThree.mono _ _)
   | (with_reducible exact LeO.refl _)
   | (with_reducible exact LeO.none _)
   | (with_reducible refine LeO.ite ?_ ?_)
   | (with_reducible refine LeO.bind ?_ (fun _ => ?_))
   | exact ih0 _ _ _
   | exact impl_BoxOfThree.mono _ _
   | exact laws_eqPegS.mono _ _ _
   | exact laws_toPegS.mono _ _
   | exact spec_BoxOfThree.mono _ _
   | exact LeO.none _
   | refine LeO.ite ?_ ?_
   | refine LeO.bind ?_ (fun _ => ?_)
set_option maxHeartbeats 8000000 in
set_option maxRecDepth 100000 in
theorem laws_FnExactBoxOfThree.calls (k : Nat) (A0 : Option Addr) (c0 : Nat) (l0 : List (S_laws_Peg)) (r : Bool) (w : World) (hr0 : Kd.C kd_laws_Peg w A0 l0.length l0) (hc0 : l0.length ≤ c0) (h : laws_FnExactBoxOfThree.f k l0 = some r) :
  Calls Try.prog 12 #[.slice A0 l0.length c0] w fun e w' => e = .returned (.bool r) ∧ Below w.heap.size w w' := by
 have hu62 := Try.underlying62
 have HR0 := aM hr0
 have HC0 := aM hc0
 clear hr0 hc0
 have HB := aM (Below.refl w.heap.size w)
 have H : ((laws_szPegS.f l0 1048576).bind fun t560 => (if t560 < 0 then (some true) else ((laws_toPegS.f k l0).bind fun t561 => ((spec_BoxOfThree.f k t561).bind fun bt564 => ((laws_toPegS.f k l0).bind fun t571 => ((impl_BoxOfThree.f k t571).bind fun bt574 => ((laws_eqPeg.f bt574.1 bt574.2.1 bt564.1 bt564.2.1).bind fun t581 => (if t581 = true then ((laws_eqPeg.f bt574.2.2.1 bt574.2.2.2.1 bt564.2.2.1 bt564.2.2.2.1).bind fun t582 => (if t582 = true then (laws_FnExactBoxOfThree.j0 k l0 t571 (bt574.2.2.2.2 != bt564.2.2.2.2)) else (laws_FnExactBoxOfThree.j0 k l0 t571 true))) else (laws_FnExactBoxOfThree.j0 k l0 t571 true))))))))) = some r := h
 clear h
 replace H := oB.mp H
 obtain ⟨t560, A20, H⟩ := H
 replace H : (if t560 < 0 then (some true) else ((laws_toPegS.f k l0).bind fun t561 => ((spec_BoxOfThree.f k t561).bind fun bt564 => ((laws_toPegS.f k l0).bind fun t571 => ((impl_BoxOfThree.f k t571).bind fun bt574 => ((laws_eqPeg.f bt574.1 bt574.2.1 bt564.1 bt564.2.1).bind fun t581 => (if t581 = true then ((laws_eqPeg.f bt574.2.2.1 bt574.2.2.2.1 bt564.2.2.1 bt564.2.2.2.1).bind fun t582 => (if t582 = true then (laws_FnExactBoxOfThree.j0 k l0 t571 (bt574.2.2.2.2 != bt564.2.2.2.2)) else (laws_FnExactBoxOfThree.j0 k l0 t571 true))) else (laws_FnExactBoxOfThree.j0 k l0 t571 true)))))))) = some r := H
 have A2 := aM A20
 clear A20
 by_cases c3 : t560 < 0
 ·rw [if_pos c3] at H
  have c3b0 : decide (t560 < 0) = true := dE c3
  clear c3
  obtain rfl := Option.some.inj H
  go_enter Try.func12, Try.ntmps12
  go_wp2_with (first | ((with_reducible refine gC (f := 20) rfl ?_); refine goesL_ (some 13) rfl rfl Try.func20 (by kernel_rfl) rfl #[.slice A0 l0.length c0, .int .i64 1048576] rfl (by (try simp only [mA, mC, mN]); first | done | rfl | (simp only [lD, lT]; rfl)) ?_; (with_reducible refine (laws_szPegS.calls _ _ l0 1048576 t560 _ ?side1 ?side2 A2.out).mono ?_); (case side1 => repeat (first | exact HR0.out | (with_reducible refine cA ?_ _) | (with_reducible refine cN ?_ _) | (with_reducible refine cD ?_))); (case side2 => exact HC0.out); rintro e w' ⟨rfl, ⟨nd, rfl⟩⟩; refine ⟨_, rfl, ?_⟩))
  go_ret
  exact ⟨by first | rfl | (simp [errW_none, errW_some] <;> rfl) | (simp [*, errW_none, errW_some] <;> rfl), by repeat (first | (with_reducible first | exact HB.out | apply pA | apply pN | apply pD) | exact HB.out)⟩
 ·rw [if_neg c3] at H
  have c3b0 : decide (t560 < 0) = false := decide_eq_false c3
  clear c3
  replace H := oB.mp H
  obtain ⟨t561, A40, H⟩ := H
  replace H : ((spec_BoxOfThree.f k t561).bind fun bt564 => ((laws_toPegS.f k l0).bind fun t571 => ((impl_BoxOfThree.f k t571).bind fun bt574 => ((laws_eqPeg.f bt574.1 bt574.2.1 bt564.1 bt564.2.1).bind fun t581 => (if t581 = true then ((laws_eqPeg.f bt574.2.2.1 bt574.2.2.2.1 bt564.2.2.1 bt564.2.2.2.1).bind fun t582 => (if t582 = true then (laws_FnExactBoxOfThree.j0 k l0 t571 (bt574.2.2.2.2 != bt564.2.2.2.2)) else (laws_FnExactBoxOfThree.j0 k l0 t571 true))) else (laws_FnExactBoxOfThree.j0 k l0 t571 true)))))) = some r := H
  have A4 := aM A40
  clear A40
  replace H := oB.mp H
  obtain ⟨⟨t564, t565, t566, t567, t568⟩, A50, H⟩ := H
  replace H : ((laws_toPegS.f k l0).bind fun t571 => ((impl_BoxOfThree.f k t571).bind fun bt574 => ((laws_eqPeg.f bt574.1 bt574.2.1 t564 t565).bind fun t581 => (if t581 = true then ((laws_eqPeg.f bt574.2.2.1 bt574.2.2.2.1 t566 t567).bind fun t582 => (if t582 = true then (laws_FnExactBoxOfThree.j0 k l0 t571 (bt574.2.2.2.2 != t568)) else (laws_FnExactBoxOfThree.j0 k l0 t571 true))) else (laws_FnExactBoxOfThree.j0 k l0 t571 true))))) = some r := H
  have A5 := aM A50
  clear A50
  replace H := oB.mp H
  obtain ⟨t571, A60, H⟩ := H
  replace H : ((impl_BoxOfThree.f k t571).bind fun bt574 => ((laws_eqPeg.f bt574.1 bt574.2.1 t564 t565).bind fun t581 => (if t581 = true then ((laws_eqPeg.f bt574.2.2.1 bt574.2.2.2.1 t566 t567).bind fun t582 => (if t582 = true then (laws_FnExactBoxOfThree.j0 k l0 t571 (bt574.2.2.2.2 != t568)) else (laws_FnExactBoxOfThree.j0 k l0 t571 true))) else (laws_FnExactBoxOfThree.j0 k l0 t571 true)))) = some r := H
  have A6 := aM A60
  clear A60
  replace H := oB.mp H
  obtain ⟨⟨t574, t575, t576, t577, t578⟩, A70, H⟩ := H
  replace H : ((laws_eqPeg.f t574 t575 t564 t565).bind fun t581 => (if t581 = true then ((laws_eqPeg.f t576 t577 t566 t567).bind fun t582 => (if t582 = true then (laws_FnExactBoxOfThree.j0 k l0 t571 (t578 != t568)) else (laws_FnExactBoxOfThree.j0 k l0 t571 true))) else (laws_FnExactBoxOfThree.j0 k l0 t571 true))) = some r := H
  have A7 := aM A70
  clear A70
  have HC8 := aM H
  clear H
  go_enter Try.func12, Try.ntmps12
  go_upto_region 8 with (first | ((with_reducible refine gC (f := 20) rfl ?_); refine goesL_ (some 13) rfl rfl Try.func20 (by kernel_rfl) rfl #[.slice A0 l0.length c0, .int .i64 1048576] rfl (by (try simp only [mA, mC, mN]); first | done | rfl | (simp only [lD, lT]; rfl)) ?_; (with_reducible refine (laws_szPegS.calls _ _ l0 1048576 t560 _ ?side1 ?side2 A2.out).mono ?_); (case side1 => repeat (first | exact HR0.out | (with_reducible refine cA ?_ _) | (with_reducible refine cN ?_ _) | (with_reducible refine cD ?_))); (case side2 => exact HC0.out); rintro e w' ⟨rfl, ⟨nd, rfl⟩⟩; refine ⟨_, rfl, ?_⟩) | ((with_reducible refine gC (f := 22) rfl ?_); refine goesL_ (some 18) rfl rfl Try.func22 (by kernel_rfl) rfl #[.slice A0 l0.length c0] rfl (by (try simp only [mA, mC, mN]); first | done | rfl | (simp only [lD, lT]; rfl)) ?_; (with_reducible refine (laws_toPegS.calls k _ _ l0 t561 _ ?side1 ?side2 A4.out).mono ?_); (case side1 => repeat (first | exact HR0.out | (with_reducible refine cA ?_ _) | (with_reducible refine cN ?_ _) | (with_reducible refine cD ?_))); (case side2 => exact HC0.out); rintro e w9 ⟨v562, rfl, ho0, hb⟩; refine ⟨_, rfl, ?_⟩; have n0_ := aM (Kd.R_lower ho0 (pZ (by repeat (first | (with_reducible first | exact HB.out | apply pA | apply pN | apply pD) | exact HB.out)))); have n1_ := aM (pT (by repeat (first | (with_reducible first | exact HB.out | apply pA | apply pN | apply pD) | exact HB.out)) hb); clear HB; have HO563 := n0_; have HB := n1_; clear n0_ n1_; (try clear hb); (try clear hb2); (try clear hk); (try clear hi); (try clear ho0); obtain ⟨Ao10, co10, eo10⟩ := Kd.R_slice HO563.out; subst eo10) | ((with_reducible refine gC (f := 47) rfl ?_); refine goesL_ (some 19) rfl rfl Try.func47 (by kernel_rfl) rfl #[.slice Ao10 t561.length co10] rfl (by (try simp only [mA, mC, mN]); first | done | rfl | (simp only [lD, lT]; rfl)) ?_; (with_reducible refine (spec_BoxOfThree.calls k _ _ t561 t564 t565 t566 t567 t568 _ ?side1 ?side2 A5.out).mono ?_); (case side1 => repeat (first | exact (rR HO563.out).2.2 | (with_reducible refine cA ?_ _) | (with_reducible refine cN ?_ _) | (with_reducible refine cD ?_))); (case side2 => exact (rR HO563.out).2.1); rintro e w11 ⟨rfl, hb⟩; refine ⟨_, rfl, ?_⟩; have n0_ := aM (Kd.R_below (by (with_reducible repeat (first | apply rA | apply rN | apply rD)); exact HO563.out) hb); have n1_ := aM (pT (by repeat (first | (with_reducible first | exact HB.out | apply pA | apply pN | apply pD) | exact HB.out)) hb); clear HO563; clear HB; have HO563 := n0_; have HB := n1_; clear n0_ n1_; (try clear hb); (try clear hb2); (try clear hk); (try clear hi)) | ((with_reducible refine gate_dst (N := 4) rfl ?_); refine box_event ?hg (N := 4) ?hd (cs := #[.int .i64 0, .int .i64 0]) (t := 62) ?hr ?_; (case hd => rfl); (case hg => rfl); (case hr => first | (go_simp; done) | (go_simp; rfl)); intro gb569 hg w12 hbox hb; have n0_ := aM (Kd.R_below (Kd.R_elderB (by (with_reducible repeat (first | apply rA | apply rN | apply rD)); exact HO563.out) gb569 (Nat.le_of_eq hg.symm)) hb); have n1_ := aM (pT (by repeat (first | (with_reducible first | exact HB.out | apply pA | apply pN | apply pD) | exact HB.out)) hb); have n2_ := aM (hbox); have n3_ := aM ((by rw [hg]; exact (pZ (by repeat (first | (with_reducible first | exact HB.out | apply pA | apply pN | apply pD) | exact HB.out))) : w.heap.size ≤ gb569)); have n4_ := aM ((by rw [hg]; exact (pZ (by repeat (first | (with_reducible first | exact HB.out | apply pA | apply pN | apply pD) | exact HB.out))) : w.heap.size ≤ gb569)); clear HO563; clear HB; have HO563 := n0_; have HB := n1_; have BK569 := n2_; have GW569 := n3_; have GE569 := n4_; clear n0_ n1_ n2_ n3_ n4_; clear hb hbox hg) | ((with_reducible refine gate_dst (N := 5) rfl ?_); refine box_event ?hg (N := 5) ?hd (cs := #[.int .i64 0, .int .i64 0]) (t := 62) ?hr ?_; (case hd => rfl); (case hg => rfl); (case hr => first | (go_simp; done) | (go_simp; rfl)); intro gb570 hg w13 hbox hb; have n0_ := aM (Kd.R_below (Kd.R_elderB (by (with_reducible repeat (first | apply rA | apply rN | apply rD)); exact HO563.out) gb570 (Nat.le_of_eq hg.symm)) hb); have n1_ := aM (blk_below (g := gb569) (o := .cells #[.int .i64 0, .int .i64 0] 62 (0, 0)) (by (with_reducible repeat (first | refine kN ?_ _ | refine kD ?_ | refine kA ?_ _)); exact BK569.out) hb); have n2_ := aM (pT (by repeat (first | (with_reducible first | exact HB.out | apply pA | apply pN | apply pD | refine pS ?_ GE569.out) | exact HB.out)) hb); have n3_ := aM (hbox); have n4_ := aM ((by rw [hg]; exact (pZ (by repeat (first | (with_reducible first | exact HB.out | apply pA | apply pN | apply pD | refine pS ?_ GE569.out) | exact HB.out))) : w.heap.size ≤ gb570)); have n5_ := aM ((by rw [hg]; exact (pZ (by repeat (first | (with_reducible first | exact HB.out | apply pA | apply pN | apply pD | refine pS ?_ GE569.out) | exact HB.out))) : w.heap.size ≤ gb570)); have n6_ := aM ((by rw [hg]; exact nN (blk_lt (g := gb569) (o := .cells #[.int .i64 0, .int .i64 0] 62 (0, 0)) (by (with_reducible repeat (first | refine kN ?_ _ | refine kD ?_ | refine kA ?_ _)); exact BK569.out)) : gb569 ≠ gb570)); have n7_ := aM ((by rw [hg]; exact Nat.ne_of_gt (blk_lt (g := gb569) (o := .cells #[.int .i64 0, .int .i64 0] 62 (0, 0)) (by (with_reducible repeat (first | refine kN ?_ _ | refine kD ?_ | refine kA ?_ _)); exact BK569.out)) : gb570 ≠ gb569)); clear HO563; clear BK569; clear HB; have HO563 := n0_; have BK569 := n1_; have HB := n2_; have BK570 := n3_; have GW570 := n4_; have GE570 := n5_; have NB569_570 := n6_; have NB570_569 := n7_; clear n0_ n1_ n2_ n3_ n4_ n5_ n6_ n7_; clear hb hbox hg; have hnb14 := NB569_570.out; have hnc14 := NB570_569.out; have hcz15_0 : w13.cell? ⟨gb569, 0, none⟩ = some (.int .i64 0) := (kC BK569.out 0).trans rfl; have hcz15_1 : w13.cell? ⟨gb569, 1, none⟩ = some (.int .i64 0) := (kC BK569.out 1).trans rfl; have hfz15_0 := kF BK569.out 0; have hfz15_1 := kF BK569.out 1; have hcz16_0 : w13.cell? ⟨gb570, 0, none⟩ = some (.int .i64 0) := (kC BK570.out 0).trans rfl; have hcz16_1 : w13.cell? ⟨gb570, 1, none⟩ = some (.int .i64 0) := (kC BK570.out 1).trans rfl; have hfz16_0 := kF BK570.out 0; have hfz16_1 := kF BK570.out 1) | ((with_reducible refine gC (f := 22) rfl ?_); refine goesL_ (some 24) rfl rfl Try.func22 (by kernel_rfl) rfl #[.slice A0 l0.length c0] rfl (by (try simp only [mA, mC, mN]); first | done | rfl | (simp only [lD, lT]; rfl)) ?_; (with_reducible refine (laws_toPegS.calls k _ _ l0 t571 _ ?side1 ?side2 A6.out).mono ?_); (case side1 => exact Kd.C_below HR0.out (by repeat (first | (with_reducible first | exact HB.out | apply pA | apply pN | apply pD | refine pS ?_ GE569.out | refine pS ?_ GE570.out) | exact HB.out))); (case side2 => exact HC0.out); rintro e w17 ⟨v572, rfl, ho0, hb⟩; refine ⟨_, rfl, ?_⟩; have n0_ := aM (Kd.R_elder' (by (with_reducible repeat (first | apply rA | apply rN | apply rD)); exact (Kd.R_mono (Kd.R_mono (Kd.R_far (p := ⟨gb570, 1, none⟩) (Kd.R_far (p := ⟨gb570, 0, none⟩) (Kd.R_far (p := ⟨gb569, 1, none⟩) (Kd.R_far (p := ⟨gb569, 0, none⟩) (Kd.R_mono (Kd.R_mono HO563.out (fun k_ hk => (⟨hk, hk.1.2⟩ : _ ∧ k_ ≠ gb569))) (fun k_ hk => (⟨hk, hk.1.2⟩ : _ ∧ k_ ≠ gb570))) (fun _ hk => hk.1.2) (.int .i64 t564)) (fun _ hk => hk.1.2) (.int .i64 t565)) (fun _ hk => hk.2) (.int .i64 t566)) (fun _ hk => hk.2) (.int .i64 t567)) (fun _ h_ => h_.1)) (fun _ h_ => h_.1))) (Kd.R_base ho0) hb); have n1_ := aM (Kd.R_lower (Kd.R_newB (Kd.R_newB (Kd.R_new' ho0 (Kd.R_lt (by (with_reducible repeat (first | apply rA | apply rN | apply rD)); exact (Kd.R_mono (Kd.R_mono (Kd.R_far (p := ⟨gb570, 1, none⟩) (Kd.R_far (p := ⟨gb570, 0, none⟩) (Kd.R_far (p := ⟨gb569, 1, none⟩) (Kd.R_far (p := ⟨gb569, 0, none⟩) (Kd.R_mono (Kd.R_mono HO563.out (fun k_ hk => (⟨hk, hk.1.2⟩ : _ ∧ k_ ≠ gb569))) (fun k_ hk => (⟨hk, hk.1.2⟩ : _ ∧ k_ ≠ gb570))) (fun _ hk => hk.1.2) (.int .i64 t564)) (fun _ hk => hk.1.2) (.int .i64 t565)) (fun _ hk => hk.2) (.int .i64 t566)) (fun _ hk => hk.2) (.int .i64 t567)) (fun _ h_ => h_.1)) (fun _ h_ => h_.1))))) (g := gb569) (o := .cells #[.int .i64 t564, .int .i64 t565] 62 (0, 0)) (by (with_reducible repeat (first | refine kN ?_ _ | refine kD ?_ | refine kA ?_ _)); refine blk_far ?_ NB569_570.out _; (with_reducible repeat (first | refine kN ?_ _ | refine kD ?_ | refine kA ?_ _)); refine blk_far ?_ NB569_570.out _; (with_reducible repeat (first | refine kN ?_ _ | refine kD ?_ | refine kA ?_ _)); refine blk_put (cs := #[.int .i64 t564, .int .i64 0]) ?_ 1 _ rfl; (with_reducible repeat (first | refine kN ?_ _ | refine kD ?_ | refine kA ?_ _)); refine blk_put (cs := #[.int .i64 0, .int .i64 0]) ?_ 0 _ rfl; (with_reducible repeat (first | refine kN ?_ _ | refine kD ?_ | refine kA ?_ _)); exact BK569.out)) (g := gb570) (o := .cells #[.int .i64 t566, .int .i64 t567] 62 (0, 0)) (by (with_reducible repeat (first | refine kN ?_ _ | refine kD ?_ | refine kA ?_ _)); refine blk_put (cs := #[.int .i64 t566, .int .i64 0]) ?_ 1 _ rfl; (with_reducible repeat (first | refine kN ?_ _ | refine kD ?_ | refine kA ?_ _)); refine blk_put (cs := #[.int .i64 0, .int .i64 0]) ?_ 0 _ rfl; (with_reducible repeat (first | refine kN ?_ _ | refine kD ?_ | refine kA ?_ _)); refine blk_far ?_ NB570_569.out _; (with_reducible repeat (first | refine kN ?_ _ | refine kD ?_ | refine kA ?_ _)); refine blk_far ?_ NB570_569.out _; (with_reducible repeat (first | refine kN ?_ _ | refine kD ?_ | refine kA ?_ _)); exact BK570.out)) (pZ (by repeat (first | (with_reducible first | exact HB.out | apply pA | apply pN | apply pD | refine pS ?_ GE569.out | refine pS ?_ GE570.out) | exact HB.out)))); have n2_ := aM (blk_below (g := gb569) (o := .cells #[.int .i64 t564, .int .i64 t565] 62 (0, 0)) (by (with_reducible repeat (first | refine kN ?_ _ | refine kD ?_ | refine kA ?_ _)); refine blk_far ?_ NB569_570.out _; (with_reducible repeat (first | refine kN ?_ _ | refine kD ?_ | refine kA ?_ _)); refine blk_far ?_ NB569_570.out _; (with_reducible repeat (first | refine kN ?_ _ | refine kD ?_ | refine kA ?_ _)); refine blk_put (cs := #[.int .i64 t564, .int .i64 0]) ?_ 1 _ rfl; (with_reducible repeat (first | refine kN ?_ _ | refine kD ?_ | refine kA ?_ _)); refine blk_put (cs := #[.int .i64 0, .int .i64 0]) ?_ 0 _ rfl; (with_reducible repeat (first | refine kN ?_ _ | refine kD ?_ | refine kA ?_ _)); exact BK569.out) hb); have n3_ := aM (blk_below (g := gb570) (o := .cells #[.int .i64 t566, .int .i64 t567] 62 (0, 0)) (by (with_reducible repeat (first | refine kN ?_ _ | refine kD ?_ | refine kA ?_ _)); refine blk_put (cs := #[.int .i64 t566, .int .i64 0]) ?_ 1 _ rfl; (with_reducible repeat (first | refine kN ?_ _ | refine kD ?_ | refine kA ?_ _)); refine blk_put (cs := #[.int .i64 0, .int .i64 0]) ?_ 0 _ rfl; (with_reducible repeat (first | refine kN ?_ _ | refine kD ?_ | refine kA ?_ _)); refine blk_far ?_ NB570_569.out _; (with_reducible repeat (first | refine kN ?_ _ | refine kD ?_ | refine kA ?_ _)); refine blk_far ?_ NB570_569.out _; (with_reducible repeat (first | refine kN ?_ _ | refine kD ?_ | refine kA ?_ _)); exact BK570.out) hb); have n4_ := aM (pT (by repeat (first | (with_reducible first | exact HB.out | apply pA | apply pN | apply pD | refine pS ?_ GE569.out | refine pS ?_ GE570.out) | exact HB.out)) hb); clear HO563; clear BK569; clear BK570; clear HB; have HO563 := n0_; have HO573 := n1_; have BK569 := n2_; have BK570 := n3_; have HB := n4_; clear n0_ n1_ n2_ n3_ n4_; (try clear hb); (try clear hb2); (try clear hk); (try clear hi); (try clear ho0); obtain ⟨Ao18, co18, eo18⟩ := Kd.R_slice HO573.out; subst eo18) | ((with_reducible refine gC (f := 48) rfl ?_); refine goesL_ (some 27) rfl rfl Try.func48 (by kernel_rfl) rfl #[.slice Ao18 t571.length co18] rfl (by (try simp only [mA, mC, mN]); first | done | rfl | (simp only [lD, lT]; rfl)) ?_; (with_reducible refine (impl_BoxOfThree.calls k _ _ t571 t574 t575 t576 t577 t578 _ ?side1 ?side2 A7.out).mono ?_); (case side1 => repeat (first | exact (rR HO573.out).2.2 | (with_reducible refine cA ?_ _) | (with_reducible refine cN ?_ _) | (with_reducible refine cD ?_))); (case side2 => exact (rR HO573.out).2.1); rintro e w19 ⟨rfl, hb⟩; refine ⟨_, rfl, ?_⟩; have n0_ := aM (Kd.R_below (by (with_reducible repeat (first | apply rA | apply rN | apply rD)); exact HO563.out) hb); have n1_ := aM (Kd.R_below (by (with_reducible repeat (first | apply rA | apply rN | apply rD)); exact HO573.out) hb); have n2_ := aM (blk_below (g := gb569) (o := .cells #[.int .i64 t564, .int .i64 t565] 62 (0, 0)) (by (with_reducible repeat (first | refine kN ?_ _ | refine kD ?_ | refine kA ?_ _)); exact BK569.out) hb); have n3_ := aM (blk_below (g := gb570) (o := .cells #[.int .i64 t566, .int .i64 t567] 62 (0, 0)) (by (with_reducible repeat (first | refine kN ?_ _ | refine kD ?_ | refine kA ?_ _)); exact BK570.out) hb); have n4_ := aM (pT (by repeat (first | (with_reducible first | exact HB.out | apply pA | apply pN | apply pD | refine pS ?_ GE569.out | refine pS ?_ GE570.out) | exact HB.out)) hb); clear HO563; clear HO573; clear BK569; clear BK570; clear HB; have HO563 := n0_; have HO573 := n1_; have BK569 := n2_; have BK570 := n3_; have HB := n4_; clear n0_ n1_ n2_ n3_ n4_; (try clear hb); (try clear hb2); (try clear hk); (try clear hi)) | ((with_reducible refine gate_dst (N := 8) rfl ?_); refine box_event ?hg (N := 8) ?hd (cs := #[.int .i64 0, .int .i64 0]) (t := 62) ?hr ?_; (case hd => rfl); (case hg => rfl); (case hr => first | (go_simp; done) | (go_simp; rfl)); intro gb579 hg w20 hbox hb; have n0_ := aM (Kd.R_below (Kd.R_elderB (by (with_reducible repeat (first | apply rA | apply rN | apply rD)); exact HO563.out) gb579 (Nat.le_of_eq hg.symm)) hb); have n1_ := aM (Kd.R_below (Kd.R_elderB (by (with_reducible repeat (first | apply rA | apply rN | apply rD)); exact HO573.out) gb579 (Nat.le_of_eq hg.symm)) hb); have n2_ := aM (blk_below (g := gb569) (o := .cells #[.int .i64 t564, .int .i64 t565] 62 (0, 0)) (by (with_reducible repeat (first | refine kN ?_ _ | refine kD ?_ | refine kA ?_ _)); exact BK569.out) hb); have n3_ := aM (blk_below (g := gb570) (o := .cells #[.int .i64 t566, .int .i64 t567] 62 (0, 0)) (by (with_reducible repeat (first | refine kN ?_ _ | refine kD ?_ | refine kA ?_ _)); exact BK570.out) hb); have n4_ := aM (pT (by repeat (first | (with_reducible first | exact HB.out | apply pA | apply pN | apply pD | refine pS ?_ GE569.out | refine pS ?_ GE570.out) | exact HB.out)) hb); have n5_ := aM (hbox); have n6_ := aM ((by rw [hg]; exact (pZ (by repeat (first | (with_reducible first | exact HB.out | apply pA | apply pN | apply pD | refine pS ?_ GE569.out | refine pS ?_ GE570.out) | exact HB.out))) : w.heap.size ≤ gb579)); have n7_ := aM ((by rw [hg]; exact (pZ (by repeat (first | (with_reducible first | exact HB.out | apply pA | apply pN | apply pD | refine pS ?_ GE569.out | refine pS ?_ GE570.out) | exact HB.out))) : w.heap.size ≤ gb579)); have n8_ := aM ((by rw [hg]; exact nN (blk_lt (g := gb569) (o := .cells #[.int .i64 t564, .int .i64 t565] 62 (0, 0)) (by (with_reducible repeat (first | refine kN ?_ _ | refine kD ?_ | refine kA ?_ _)); exact BK569.out)) : gb569 ≠ gb579)); have n9_ := aM ((by rw [hg]; exact Nat.ne_of_gt (blk_lt (g := gb569) (o := .cells #[.int .i64 t564, .int .i64 t565] 62 (0, 0)) (by (with_reducible repeat (first | refine kN ?_ _ | refine kD ?_ | refine kA ?_ _)); exact BK569.out)) : gb579 ≠ gb569)); have n10_ := aM ((by rw [hg]; exact nN (blk_lt (g := gb570) (o := .cells #[.int .i64 t566, .int .i64 t567] 62 (0, 0)) (by (with_reducible repeat (first | refine kN ?_ _ | refine kD ?_ | refine kA ?_ _)); exact BK570.out)) : gb570 ≠ gb579)); have n11_ := aM ((by rw [hg]; exact Nat.ne_of_gt (blk_lt (g := gb570) (o := .cells #[.int .i64 t566, .int .i64 t567] 62 (0, 0)) (by (with_reducible repeat (first | refine kN ?_ _ | refine kD ?_ | refine kA ?_ _)); exact BK570.out)) : gb579 ≠ gb570)); clear HO563; clear HO573; clear BK569; clear BK570; clear HB; have HO563 := n0_; have HO573 := n1_; have BK569 := n2_; have BK570 := n3_; have HB := n4_; have BK579 := n5_; have GW579 := n6_; have GE579 := n7_; have NB569_579 := n8_; have NB579_569 := n9_; have NB570_579 := n10_; have NB579_570 := n11_; clear n0_ n1_ n2_ n3_ n4_ n5_ n6_ n7_ n8_ n9_ n10_ n11_; clear hb hbox hg) | ((with_reducible refine gate_dst (N := 9) rfl ?_); refine box_event ?hg (N := 9) ?hd (cs := #[.int .i64 0, .int .i64 0]) (t := 62) ?hr ?_; (case hd => rfl); (case hg => rfl); (case hr => first | (go_simp; done) | (go_simp; rfl)); intro gb580 hg w21 hbox hb; have n0_ := aM (Kd.R_below (Kd.R_elderB (by (with_reducible repeat (first | apply rA | apply rN | apply rD)); exact HO563.out) gb580 (Nat.le_of_eq hg.symm)) hb); have n1_ := aM (Kd.R_below (Kd.R_elderB (by (with_reducible repeat (first | apply rA | apply rN | apply rD)); exact HO573.out) gb580 (Nat.le_of_eq hg.symm)) hb); have n2_ := aM (blk_below (g := gb569) (o := .cells #[.int .i64 t564, .int .i64 t565] 62 (0, 0)) (by (with_reducible repeat (first | refine kN ?_ _ | refine kD ?_ | refine kA ?_ _)); exact BK569.out) hb); have n3_ := aM (blk_below (g := gb570) (o := .cells #[.int .i64 t566, .int .i64 t567] 62 (0, 0)) (by (with_reducible repeat (first | refine kN ?_ _ | refine kD ?_ | refine kA ?_ _)); exact BK570.out) hb); have n4_ := aM (blk_below (g := gb579) (o := .cells #[.int .i64 0, .int .i64 0] 62 (0, 0)) (by (with_reducible repeat (first | refine kN ?_ _ | refine kD ?_ | refine kA ?_ _)); exact BK579.out) hb); have n5_ := aM (pT (by repeat (first | (with_reducible first | exact HB.out | apply pA | apply pN | apply pD | refine pS ?_ GE569.out | refine pS ?_ GE570.out | refine pS ?_ GE579.out) | exact HB.out)) hb); have n6_ := aM (hbox); have n7_ := aM ((by rw [hg]; exact (pZ (by repeat (first | (with_reducible first | exact HB.out | apply pA | apply pN | apply pD | refine pS ?_ GE569.out | refine pS ?_ GE570.out | refine pS ?_ GE579.out) | exact HB.out))) : w.heap.size ≤ gb580)); have n8_ := aM ((by rw [hg]; exact (pZ (by repeat (first | (with_reducible first | exact HB.out | apply pA | apply pN | apply pD | refine pS ?_ GE569.out | refine pS ?_ GE570.out | refine pS ?_ GE579.out) | exact HB.out))) : w.heap.size ≤ gb580)); have n9_ := aM ((by rw [hg]; exact nN (blk_lt (g := gb569) (o := .cells #[.int .i64 t564, .int .i64 t565] 62 (0, 0)) (by (with_reducible repeat (first | refine kN ?_ _ | refine kD ?_ | refine kA ?_ _)); exact BK569.out)) : gb569 ≠ gb580)); have n10_ := aM ((by rw [hg]; exact Nat.ne_of_gt (blk_lt (g := gb569) (o := .cells #[.int .i64 t564, .int .i64 t565] 62 (0, 0)) (by (with_reducible repeat (first | refine kN ?_ _ | refine kD ?_ | refine kA ?_ _)); exact BK569.out)) : gb580 ≠ gb569)); have n11_ := aM ((by rw [hg]; exact nN (blk_lt (g := gb570) (o := .cells #[.int .i64 t566, .int .i64 t567] 62 (0, 0)) (by (with_reducible repeat (first | refine kN ?_ _ | refine kD ?_ | refine kA ?_ _)); exact BK570.out)) : gb570 ≠ gb580)); have n12_ := aM ((by rw [hg]; exact Nat.ne_of_gt (blk_lt (g := gb570) (o := .cells #[.int .i64 t566, .int .i64 t567] 62 (0, 0)) (by (with_reducible repeat (first | refine kN ?_ _ | refine kD ?_ | refine kA ?_ _)); exact BK570.out)) : gb580 ≠ gb570)); have n13_ := aM ((by rw [hg]; exact nN (blk_lt (g := gb579) (o := .cells #[.int .i64 0, .int .i64 0] 62 (0, 0)) (by (with_reducible repeat (first | refine kN ?_ _ | refine kD ?_ | refine kA ?_ _)); exact BK579.out)) : gb579 ≠ gb580)); have n14_ := aM ((by rw [hg]; exact Nat.ne_of_gt (blk_lt (g := gb579) (o := .cells #[.int .i64 0, .int .i64 0] 62 (0, 0)) (by (with_reducible repeat (first | refine kN ?_ _ | refine kD ?_ | refine kA ?_ _)); exact BK579.out)) : gb580 ≠ gb579)); clear HO563; clear HO573; clear BK569; clear BK570; clear BK579; clear HB; have HO563 := n0_; have HO573 := n1_; have BK569 := n2_; have BK570 := n3_; have BK579 := n4_; have HB := n5_; have BK580 := n6_; have GW580 := n7_; have GE580 := n8_; have NB569_580 := n9_; have NB580_569 := n10_; have NB570_580 := n11_; have NB580_570 := n12_; have NB579_580 := n13_; have NB580_579 := n14_; clear n0_ n1_ n2_ n3_ n4_ n5_ n6_ n7_ n8_ n9_ n10_ n11_ n12_ n13_ n14_; clear hb hbox hg; have hnb22 := NB579_569.out; have hnc22 := NB569_579.out; have hnb23 := NB579_570.out; have hnc23 := NB570_579.out; have hnb24 := NB579_580.out; have hnc24 := NB580_579.out; have hcz25_0 : w21.cell? ⟨gb579, 0, none⟩ = some (.int .i64 0) := (kC BK579.out 0).trans rfl; have hcz25_1 : w21.cell? ⟨gb579, 1, none⟩ = some (.int .i64 0) := (kC BK579.out 1).trans rfl; have hfz25_0 := kF BK579.out 0; have hfz25_1 := kF BK579.out 1; have hnb26 := NB580_569.out; have hnc26 := NB569_580.out; have hnb27 := NB580_570.out; have hnc27 := NB570_580.out; have hcz28_0 : w21.cell? ⟨gb580, 0, none⟩ = some (.int .i64 0) := (kC BK580.out 0).trans rfl; have hcz28_1 : w21.cell? ⟨gb580, 1, none⟩ = some (.int .i64 0) := (kC BK580.out 1).trans rfl; have hfz28_0 := kF BK580.out 0; have hfz28_1 := kF BK580.out 1))
  (try simp only [Act.put, sI, sZ, sS])
  go_cut [45] (fun v45 wc => ∃ (kq : Nat) (x45_7 : Bool), v45 = .bool x45_7 ∧ Aside0 (laws_FnExactBoxOfThree.j0 kq l0 t571 x45_7 = some r) ∧ Aside0 (kq ≤ k) ∧ Aside0 (Kd.R kd_impl_Peg 62 wc w.heap.size (fun k_ => k_ ≠ gb569 ∧ k_ ≠ gb570 ∧ k_ ≠ gb579 ∧ k_ ≠ gb580) (.slice Ao18 t571.length co18) t571) ∧ Aside0 (wc.heap[gb569]? = some (.cells #[.int .i64 t564, .int .i64 t565] 62 (0, 0))) ∧ Aside0 (wc.heap[gb570]? = some (.cells #[.int .i64 t566, .int .i64 t567] 62 (0, 0))) ∧ Aside0 (wc.heap[gb579]? = some (.cells #[.int .i64 t574, .int .i64 t575] 62 (0, 0))) ∧ Aside0 (wc.heap[gb580]? = some (.cells #[.int .i64 t576, .int .i64 t577] 62 (0, 0))) ∧ Aside0 (Below w.heap.size w wc))
  case first =>
   have H := HC8.out
   clear HC8
   replace H := oB.mp H
   obtain ⟨t581, A290, H⟩ := H
   replace H : (if t581 = true then ((laws_eqPeg.f t576 t577 t566 t567).bind fun t582 => (if t582 = true then (laws_FnExactBoxOfThree.j0 k l0 t571 (t578 != t568)) else (laws_FnExactBoxOfThree.j0 k l0 t571 true))) else (laws_FnExactBoxOfThree.j0 k l0 t571 true)) = some r := H
   have A29 := aM A290
   clear A290
   by_cases c30 : t581 = true
   ·subst c30
    have H1 : ((laws_eqPeg.f t576 t577 t566 t567).bind fun t582 => (if t582 = true then (laws_FnExactBoxOfThree.j0 k l0 t571 (t578 != t568)) else (laws_FnExactBoxOfThree.j0 k l0 t571 true))) = some r := by rw [if_pos rfl] at H; exact H
    clear H
    have H := H1
    clear H1
    replace H := oB.mp H
    obtain ⟨t582, A310, H⟩ := H
    replace H : (if t582 = true then (laws_FnExactBoxOfThree.j0 k l0 t571 (t578 != t568)) else (laws_FnExactBoxOfThree.j0 k l0 t571 true)) = some r := H
    have A31 := aM A310
    clear A310
    by_cases c32 : t582 = true
    ·subst c32
     have H1 : (laws_FnExactBoxOfThree.j0 k l0 t571 (t578 != t568)) = some r := by rw [if_pos rfl] at H; exact H
     clear H
     have H := H1
     clear H1
     have H' := aM H
     clear H
     have hnb33 := NB579_569.out
     have hnc33 := NB569_579.out
     have hnb34 := NB579_570.out
     have hnc34 := NB570_579.out
     have hnb35 := NB579_580.out
     have hnc35 := NB580_579.out
     have hcz36_0 : w21.cell? ⟨gb579, 0, none⟩ = some (.int .i64 0) := (kC BK579.out 0).trans rfl
     have hcz36_1 : w21.cell? ⟨gb579, 1, none⟩ = some (.int .i64 0) := (kC BK579.out 1).trans rfl
     have hfz36_0 := kF BK579.out 0
     have hfz36_1 := kF BK579.out 1
     have hnb37 := NB569_570.out
     have hnc37 := NB570_569.out
     have hnb38 := NB569_580.out
     have hnc38 := NB580_569.out
     have hcz39_0 : w21.cell? ⟨gb569, 0, none⟩ = some (.int .i64 t564) := (kC BK569.out 0).trans rfl
     have hcz39_1 : w21.cell? ⟨gb569, 1, none⟩ = some (.int .i64 t565) := (kC BK569.out 1).trans rfl
     have hfz39_0 := kF BK569.out 0
     have hfz39_1 := kF BK569.out 1
     go_wp2_with (first | ((with_reducible refine gC (f := 49) rfl ?_); refine goesL_ (some 33) rfl rfl Try.func49 (by kernel_rfl) rfl #[.agg #[.int .i64 t574, .int .i64 t575], .agg #[.int .i64 t564, .int .i64 t565]] rfl (by (try simp only [mA, mC, mN]); first | done | rfl | (simp only [lD, lT]; rfl)) ?_; (with_reducible refine (laws_eqPeg.calls t574 t575 t564 t565 true _ A29.out).mono ?_); rintro e w40 ⟨rfl, hb⟩; refine ⟨_, rfl, ?_⟩; have n0_ := aM (Kd.R_below (by (with_reducible repeat (first | apply rA | apply rN | apply rD)); exact (Kd.R_mono (Kd.R_mono (Kd.R_far (p := ⟨gb580, 1, none⟩) (Kd.R_far (p := ⟨gb580, 0, none⟩) (Kd.R_far (p := ⟨gb579, 1, none⟩) (Kd.R_far (p := ⟨gb579, 0, none⟩) (Kd.R_mono (Kd.R_mono HO563.out (fun k_ hk => (⟨hk, hk.1.2⟩ : _ ∧ k_ ≠ gb579))) (fun k_ hk => (⟨hk, hk.1.2⟩ : _ ∧ k_ ≠ gb580))) (fun _ hk => hk.1.2) (.int .i64 t574)) (fun _ hk => hk.1.2) (.int .i64 t575)) (fun _ hk => hk.2) (.int .i64 t576)) (fun _ hk => hk.2) (.int .i64 t577)) (fun _ h_ => h_.1)) (fun _ h_ => h_.1))) hb); have n1_ := aM (Kd.R_below (by (with_reducible repeat (first | apply rA | apply rN | apply rD)); exact (Kd.R_mono (Kd.R_mono (Kd.R_far (p := ⟨gb580, 1, none⟩) (Kd.R_far (p := ⟨gb580, 0, none⟩) (Kd.R_far (p := ⟨gb579, 1, none⟩) (Kd.R_far (p := ⟨gb579, 0, none⟩) (Kd.R_mono (Kd.R_mono HO573.out (fun k_ hk => (⟨hk, hk.1.2⟩ : _ ∧ k_ ≠ gb579))) (fun k_ hk => (⟨hk, hk.1.2⟩ : _ ∧ k_ ≠ gb580))) (fun _ hk => hk.1.2) (.int .i64 t574)) (fun _ hk => hk.1.2) (.int .i64 t575)) (fun _ hk => hk.2) (.int .i64 t576)) (fun _ hk => hk.2) (.int .i64 t577)) (fun _ h_ => h_.1)) (fun _ h_ => h_.1))) hb); have n2_ := aM (blk_below (g := gb569) (o := .cells #[.int .i64 t564, .int .i64 t565] 62 (0, 0)) (by (with_reducible repeat (first | refine kN ?_ _ | refine kD ?_ | refine kA ?_ _)); refine blk_far ?_ NB569_580.out _; (with_reducible repeat (first | refine kN ?_ _ | refine kD ?_ | refine kA ?_ _)); refine blk_far ?_ NB569_580.out _; (with_reducible repeat (first | refine kN ?_ _ | refine kD ?_ | refine kA ?_ _)); refine blk_far ?_ NB569_579.out _; (with_reducible repeat (first | refine kN ?_ _ | refine kD ?_ | refine kA ?_ _)); refine blk_far ?_ NB569_579.out _; (with_reducible repeat (first | refine kN ?_ _ | refine kD ?_ | refine kA ?_ _)); exact BK569.out) hb); have n3_ := aM (blk_below (g := gb570) (o := .cells #[.int .i64 t566, .int .i64 t567] 62 (0, 0)) (by (with_reducible repeat (first | refine kN ?_ _ | refine kD ?_ | refine kA ?_ _)); refine blk_far ?_ NB570_580.out _; (with_reducible repeat (first | refine kN ?_ _ | refine kD ?_ | refine kA ?_ _)); refine blk_far ?_ NB570_580.out _; (with_reducible repeat (first | refine kN ?_ _ | refine kD ?_ | refine kA ?_ _)); refine blk_far ?_ NB570_579.out _; (with_reducible repeat (first | refine kN ?_ _ | refine kD ?_ | refine kA ?_ _)); refine blk_far ?_ NB570_579.out _; (with_reducible repeat (first | refine kN ?_ _ | refine kD ?_ | refine kA ?_ _)); exact BK570.out) hb); have n4_ := aM (blk_below (g := gb579) (o := .cells #[.int .i64 t574, .int .i64 t575] 62 (0, 0)) (by (with_reducible repeat (first | refine kN ?_ _ | refine kD ?_ | refine kA ?_ _)); refine blk_far ?_ NB579_580.out _; (with_reducible repeat (first | refine kN ?_ _ | refine kD ?_ | refine kA ?_ _)); refine blk_far ?_ NB579_580.out _; (with_reducible repeat (first | refine kN ?_ _ | refine kD ?_ | refine kA ?_ _)); refine blk_put (cs := #[.int .i64 t574, .int .i64 0]) ?_ 1 _ rfl; (with_reducible repeat (first | refine kN ?_ _ | refine kD ?_ | refine kA ?_ _)); refine blk_put (cs := #[.int .i64 0, .int .i64 0]) ?_ 0 _ rfl; (with_reducible repeat (first | refine kN ?_ _ | refine kD ?_ | refine kA ?_ _)); exact BK579.out) hb); have n5_ := aM (blk_below (g := gb580) (o := .cells #[.int .i64 t576, .int .i64 t577] 62 (0, 0)) (by (with_reducible repeat (first | refine kN ?_ _ | refine kD ?_ | refine kA ?_ _)); refine blk_put (cs := #[.int .i64 t576, .int .i64 0]) ?_ 1 _ rfl; (with_reducible repeat (first | refine kN ?_ _ | refine kD ?_ | refine kA ?_ _)); refine blk_put (cs := #[.int .i64 0, .int .i64 0]) ?_ 0 _ rfl; (with_reducible repeat (first | refine kN ?_ _ | refine kD ?_ | refine kA ?_ _)); refine blk_far ?_ NB580_579.out _; (with_reducible repeat (first | refine kN ?_ _ | refine kD ?_ | refine kA ?_ _)); refine blk_far ?_ NB580_579.out _; (with_reducible repeat (first | refine kN ?_ _ | refine kD ?_ | refine kA ?_ _)); exact BK580.out) hb); have n6_ := aM (pT (by repeat (first | (with_reducible first | exact HB.out | apply pA | apply pN | apply pD | refine pS ?_ GE569.out | refine pS ?_ GE570.out | refine pS ?_ GE579.out | refine pS ?_ GE580.out) | exact HB.out)) hb); clear HO563; clear HO573; clear BK569; clear BK570; clear BK579; clear BK580; clear HB; have HO563 := n0_; have HO573 := n1_; have BK569 := n2_; have BK570 := n3_; have BK579 := n4_; have BK580 := n5_; have HB := n6_; clear n0_ n1_ n2_ n3_ n4_ n5_ n6_; (try clear hb); (try clear hb2); (try clear hk); (try clear hi); have hnb41 := NB580_570.out; have hnc41 := NB570_580.out; have hcz42_0 : w40.cell? ⟨gb580, 0, none⟩ = some (.int .i64 t576) := (kC BK580.out 0).trans rfl; have hcz42_1 : w40.cell? ⟨gb580, 1, none⟩ = some (.int .i64 t577) := (kC BK580.out 1).trans rfl; have hfz42_0 := kF BK580.out 0; have hfz42_1 := kF BK580.out 1; have hcz43_0 : w40.cell? ⟨gb570, 0, none⟩ = some (.int .i64 t566) := (kC BK570.out 0).trans rfl; have hcz43_1 : w40.cell? ⟨gb570, 1, none⟩ = some (.int .i64 t567) := (kC BK570.out 1).trans rfl; have hfz43_0 := kF BK570.out 0; have hfz43_1 := kF BK570.out 1) | (go_at_call 49; (with_reducible refine (laws_eqPeg.calls t576 t577 t566 t567 true _ A31.out).mono ?_); rintro e w44 ⟨rfl, hb⟩; have n0_ := aM (Kd.R_below (by (with_reducible repeat (first | apply rA | apply rN | apply rD)); exact HO563.out) hb); have n1_ := aM (Kd.R_below (by (with_reducible repeat (first | apply rA | apply rN | apply rD)); exact HO573.out) hb); have n2_ := aM (blk_below (g := gb569) (o := .cells #[.int .i64 t564, .int .i64 t565] 62 (0, 0)) (by (with_reducible repeat (first | refine kN ?_ _ | refine kD ?_ | refine kA ?_ _)); exact BK569.out) hb); have n3_ := aM (blk_below (g := gb570) (o := .cells #[.int .i64 t566, .int .i64 t567] 62 (0, 0)) (by (with_reducible repeat (first | refine kN ?_ _ | refine kD ?_ | refine kA ?_ _)); exact BK570.out) hb); have n4_ := aM (blk_below (g := gb579) (o := .cells #[.int .i64 t574, .int .i64 t575] 62 (0, 0)) (by (with_reducible repeat (first | refine kN ?_ _ | refine kD ?_ | refine kA ?_ _)); exact BK579.out) hb); have n5_ := aM (blk_below (g := gb580) (o := .cells #[.int .i64 t576, .int .i64 t577] 62 (0, 0)) (by (with_reducible repeat (first | refine kN ?_ _ | refine kD ?_ | refine kA ?_ _)); exact BK580.out) hb); have n6_ := aM (pT (by repeat (first | (with_reducible first | exact HB.out | apply pA | apply pN | apply pD | refine pS ?_ GE569.out | refine pS ?_ GE570.out | refine pS ?_ GE579.out | refine pS ?_ GE580.out) | exact HB.out)) hb); clear HO563; clear HO573; clear BK569; clear BK570; clear BK579; clear BK580; clear HB; have HO563 := n0_; have HO573 := n1_; have BK569 := n2_; have BK570 := n3_; have BK579 := n4_; have BK580 := n5_; have HB := n6_; clear n0_ n1_ n2_ n3_ n4_ n5_ n6_; (try clear hb); (try clear hb2); (try clear hk); (try clear hi)))
     go_meet
     case rel => exact ⟨_, ((t578 != t568)), (by first | rfl | (simp; done) | (simp [*]; done)), H', ⟨by first | omega | exact Nat.le_refl _⟩, ⟨by (with_reducible repeat (first | apply rA | apply rN | apply rD)); exact Kd.R_mono HO573.out (fun _ hk => ⟨hk.1.1.1.2, ⟨hk.1.1.2, ⟨hk.1.2, hk.2⟩⟩⟩)⟩, ⟨by (with_reducible repeat (first | refine kN ?_ _ | refine kD ?_ | refine kA ?_ _)); exact BK569.out⟩, ⟨by (with_reducible repeat (first | refine kN ?_ _ | refine kD ?_ | refine kA ?_ _)); exact BK570.out⟩, ⟨by (with_reducible repeat (first | refine kN ?_ _ | refine kD ?_ | refine kA ?_ _)); exact BK579.out⟩, ⟨by (with_reducible repeat (first | refine kN ?_ _ | refine kD ?_ | refine kA ?_ _)); exact BK580.out⟩, ⟨by repeat (first | (with_reducible first | exact HB.out | apply pA | apply pN | apply pD | refine pS ?_ GE569.out | refine pS ?_ GE570.out | refine pS ?_ GE579.out | refine pS ?_ GE580.out) | exact HB.out)⟩⟩
    ·replace c32 := Bool.eq_false_iff.mpr c32
     subst c32
     have H1 : (laws_FnExactBoxOfThree.j0 k l0 t571 true) = some r := by rw [if_neg (show ¬ (false = true) by decide)] at H; exact H
     clear H
     have H := H1
     clear H1
     have H' := aM H
     clear H
     have hnb45 := NB579_569.out
     have hnc45 := NB569_579.out
     have hnb46 := NB579_570.out
     have hnc46 := NB570_579.out
     have hnb47 := NB579_580.out
     have hnc47 := NB580_579.out
     have hcz48_0 : w21.cell? ⟨gb579, 0, none⟩ = some (.int .i64 0) := (kC BK579.out 0).trans rfl
     have hcz48_1 : w21.cell? ⟨gb579, 1, none⟩ = some (.int .i64 0) := (kC BK579.out 1).trans rfl
     have hfz48_0 := kF BK579.out 0
     have hfz48_1 := kF BK579.out 1
     have hnb49 := NB569_570.out
     have hnc49 := NB570_569.out
     have hnb50 := NB569_580.out
     have hnc50 := NB580_569.out
     have hcz51_0 : w21.cell? ⟨gb569, 0, none⟩ = some (.int .i64 t564) := (kC BK569.out 0).trans rfl
     have hcz51_1 : w21.cell? ⟨gb569, 1, none⟩ = some (.int .i64 t565) := (kC BK569.out 1).trans rfl
     have hfz51_0 := kF BK569.out 0
     have hfz51_1 := kF BK569.out 1
     go_wp2_with (first | ((with_reducible refine gC (f := 49) rfl ?_); refine goesL_ (some 33) rfl rfl Try.func49 (by kernel_rfl) rfl #[.agg #[.int .i64 t574, .int .i64 t575], .agg #[.int .i64 t564, .int .i64 t565]] rfl (by (try simp only [mA, mC, mN]); first | done | rfl | (simp only [lD, lT]; rfl)) ?_; (with_reducible refine (laws_eqPeg.calls t574 t575 t564 t565 true _ A29.out).mono ?_); rintro e w52 ⟨rfl, hb⟩; refine ⟨_, rfl, ?_⟩; have n0_ := aM (Kd.R_below (by (with_reducible repeat (first | apply rA | apply rN | apply rD)); exact (Kd.R_mono (Kd.R_mono (Kd.R_far (p := ⟨gb580, 1, none⟩) (Kd.R_far (p := ⟨gb580, 0, none⟩) (Kd.R_far (p := ⟨gb579, 1, none⟩) (Kd.R_far (p := ⟨gb579, 0, none⟩) (Kd.R_mono (Kd.R_mono HO563.out (fun k_ hk => (⟨hk, hk.1.2⟩ : _ ∧ k_ ≠ gb579))) (fun k_ hk => (⟨hk, hk.1.2⟩ : _ ∧ k_ ≠ gb580))) (fun _ hk => hk.1.2) (.int .i64 t574)) (fun _ hk => hk.1.2) (.int .i64 t575)) (fun _ hk => hk.2) (.int .i64 t576)) (fun _ hk => hk.2) (.int .i64 t577)) (fun _ h_ => h_.1)) (fun _ h_ => h_.1))) hb); have n1_ := aM (Kd.R_below (by (with_reducible repeat (first | apply rA | apply rN | apply rD)); exact (Kd.R_mono (Kd.R_mono (Kd.R_far (p := ⟨gb580, 1, none⟩) (Kd.R_far (p := ⟨gb580, 0, none⟩) (Kd.R_far (p := ⟨gb579, 1, none⟩) (Kd.R_far (p := ⟨gb579, 0, none⟩) (Kd.R_mono (Kd.R_mono HO573.out (fun k_ hk => (⟨hk, hk.1.2⟩ : _ ∧ k_ ≠ gb579))) (fun k_ hk => (⟨hk, hk.1.2⟩ : _ ∧ k_ ≠ gb580))) (fun _ hk => hk.1.2) (.int .i64 t574)) (fun _ hk => hk.1.2) (.int .i64 t575)) (fun _ hk => hk.2) (.int .i64 t576)) (fun _ hk => hk.2) (.int .i64 t577)) (fun _ h_ => h_.1)) (fun _ h_ => h_.1))) hb); have n2_ := aM (blk_below (g := gb569) (o := .cells #[.int .i64 t564, .int .i64 t565] 62 (0, 0)) (by (with_reducible repeat (first | refine kN ?_ _ | refine kD ?_ | refine kA ?_ _)); refine blk_far ?_ NB569_580.out _; (with_reducible repeat (first | refine kN ?_ _ | refine kD ?_ | refine kA ?_ _)); refine blk_far ?_ NB569_580.out _; (with_reducible repeat (first | refine kN ?_ _ | refine kD ?_ | refine kA ?_ _)); refine blk_far ?_ NB569_579.out _; (with_reducible repeat (first | refine kN ?_ _ | refine kD ?_ | refine kA ?_ _)); refine blk_far ?_ NB569_579.out _; (with_reducible repeat (first | refine kN ?_ _ | refine kD ?_ | refine kA ?_ _)); exact BK569.out) hb); have n3_ := aM (blk_below (g := gb570) (o := .cells #[.int .i64 t566, .int .i64 t567] 62 (0, 0)) (by (with_reducible repeat (first | refine kN ?_ _ | refine kD ?_ | refine kA ?_ _)); refine blk_far ?_ NB570_580.out _; (with_reducible repeat (first | refine kN ?_ _ | refine kD ?_ | refine kA ?_ _)); refine blk_far ?_ NB570_580.out _; (with_reducible repeat (first | refine kN ?_ _ | refine kD ?_ | refine kA ?_ _)); refine blk_far ?_ NB570_579.out _; (with_reducible repeat (first | refine kN ?_ _ | refine kD ?_ | refine kA ?_ _)); refine blk_far ?_ NB570_579.out _; (with_reducible repeat (first | refine kN ?_ _ | refine kD ?_ | refine kA ?_ _)); exact BK570.out) hb); have n4_ := aM (blk_below (g := gb579) (o := .cells #[.int .i64 t574, .int .i64 t575] 62 (0, 0)) (by (with_reducible repeat (first | refine kN ?_ _ | refine kD ?_ | refine kA ?_ _)); refine blk_far ?_ NB579_580.out _; (with_reducible repeat (first | refine kN ?_ _ | refine kD ?_ | refine kA ?_ _)); refine blk_far ?_ NB579_580.out _; (with_reducible repeat (first | refine kN ?_ _ | refine kD ?_ | refine kA ?_ _)); refine blk_put (cs := #[.int .i64 t574, .int .i64 0]) ?_ 1 _ rfl; (with_reducible repeat (first | refine kN ?_ _ | refine kD ?_ | refine kA ?_ _)); refine blk_put (cs := #[.int .i64 0, .int .i64 0]) ?_ 0 _ rfl; (with_reducible repeat (first | refine kN ?_ _ | refine kD ?_ | refine kA ?_ _)); exact BK579.out) hb); have n5_ := aM (blk_below (g := gb580) (o := .cells #[.int .i64 t576, .int .i64 t577] 62 (0, 0)) (by (with_reducible repeat (first | refine kN ?_ _ | refine kD ?_ | refine kA ?_ _)); refine blk_put (cs := #[.int .i64 t576, .int .i64 0]) ?_ 1 _ rfl; (with_reducible repeat (first | refine kN ?_ _ | refine kD ?_ | refine kA ?_ _)); refine blk_put (cs := #[.int .i64 0, .int .i64 0]) ?_ 0 _ rfl; (with_reducible repeat (first | refine kN ?_ _ | refine kD ?_ | refine kA ?_ _)); refine blk_far ?_ NB580_579.out _; (with_reducible repeat (first | refine kN ?_ _ | refine kD ?_ | refine kA ?_ _)); refine blk_far ?_ NB580_579.out _; (with_reducible repeat (first | refine kN ?_ _ | refine kD ?_ | refine kA ?_ _)); exact BK580.out) hb); have n6_ := aM (pT (by repeat (first | (with_reducible first | exact HB.out | apply pA | apply pN | apply pD | refine pS ?_ GE569.out | refine pS ?_ GE570.out | refine pS ?_ GE579.out | refine pS ?_ GE580.out) | exact HB.out)) hb); clear HO563; clear HO573; clear BK569; clear BK570; clear BK579; clear BK580; clear HB; have HO563 := n0_; have HO573 := n1_; have BK569 := n2_; have BK570 := n3_; have BK579 := n4_; have BK580 := n5_; have HB := n6_; clear n0_ n1_ n2_ n3_ n4_ n5_ n6_; (try clear hb); (try clear hb2); (try clear hk); (try clear hi); have hnb53 := NB580_570.out; have hnc53 := NB570_580.out; have hcz54_0 : w52.cell? ⟨gb580, 0, none⟩ = some (.int .i64 t576) := (kC BK580.out 0).trans rfl; have hcz54_1 : w52.cell? ⟨gb580, 1, none⟩ = some (.int .i64 t577) := (kC BK580.out 1).trans rfl; have hfz54_0 := kF BK580.out 0; have hfz54_1 := kF BK580.out 1; have hcz55_0 : w52.cell? ⟨gb570, 0, none⟩ = some (.int .i64 t566) := (kC BK570.out 0).trans rfl; have hcz55_1 : w52.cell? ⟨gb570, 1, none⟩ = some (.int .i64 t567) := (kC BK570.out 1).trans rfl; have hfz55_0 := kF BK570.out 0; have hfz55_1 := kF BK570.out 1) | (go_at_call 49; (with_reducible refine (laws_eqPeg.calls t576 t577 t566 t567 false _ A31.out).mono ?_); rintro e w56 ⟨rfl, hb⟩; have n0_ := aM (Kd.R_below (by (with_reducible repeat (first | apply rA | apply rN | apply rD)); exact HO563.out) hb); have n1_ := aM (Kd.R_below (by (with_reducible repeat (first | apply rA | apply rN | apply rD)); exact HO573.out) hb); have n2_ := aM (blk_below (g := gb569) (o := .cells #[.int .i64 t564, .int .i64 t565] 62 (0, 0)) (by (with_reducible repeat (first | refine kN ?_ _ | refine kD ?_ | refine kA ?_ _)); exact BK569.out) hb); have n3_ := aM (blk_below (g := gb570) (o := .cells #[.int .i64 t566, .int .i64 t567] 62 (0, 0)) (by (with_reducible repeat (first | refine kN ?_ _ | refine kD ?_ | refine kA ?_ _)); exact BK570.out) hb); have n4_ := aM (blk_below (g := gb579) (o := .cells #[.int .i64 t574, .int .i64 t575] 62 (0, 0)) (by (with_reducible repeat (first | refine kN ?_ _ | refine kD ?_ | refine kA ?_ _)); exact BK579.out) hb); have n5_ := aM (blk_below (g := gb580) (o := .cells #[.int .i64 t576, .int .i64 t577] 62 (0, 0)) (by (with_reducible repeat (first | refine kN ?_ _ | refine kD ?_ | refine kA ?_ _)); exact BK580.out) hb); have n6_ := aM (pT (by repeat (first | (with_reducible first | exact HB.out | apply pA | apply pN | apply pD | refine pS ?_ GE569.out | refine pS ?_ GE570.out | refine pS ?_ GE579.out | refine pS ?_ GE580.out) | exact HB.out)) hb); clear HO563; clear HO573; clear BK569; clear BK570; clear BK579; clear BK580; clear HB; have HO563 := n0_; have HO573 := n1_; have BK569 := n2_; have BK570 := n3_; have BK579 := n4_; have BK580 := n5_; have HB := n6_; clear n0_ n1_ n2_ n3_ n4_ n5_ n6_; (try clear hb); (try clear hb2); (try clear hk); (try clear hi)))
     go_meet
     case rel => exact ⟨_, (true), (by first | rfl | (simp; done) | (simp [*]; done)), H', ⟨by first | omega | exact Nat.le_refl _⟩, ⟨by (with_reducible repeat (first | apply rA | apply rN | apply rD)); exact Kd.R_mono HO573.out (fun _ hk => ⟨hk.1.1.1.2, ⟨hk.1.1.2, ⟨hk.1.2, hk.2⟩⟩⟩)⟩, ⟨by (with_reducible repeat (first | refine kN ?_ _ | refine kD ?_ | refine kA ?_ _)); exact BK569.out⟩, ⟨by (with_reducible repeat (first | refine kN ?_ _ | refine kD ?_ | refine kA ?_ _)); exact BK570.out⟩, ⟨by (with_reducible repeat (first | refine kN ?_ _ | refine kD ?_ | refine kA ?_ _)); exact BK579.out⟩, ⟨by (with_reducible repeat (first | refine kN ?_ _ | refine kD ?_ | refine kA ?_ _)); exact BK580.out⟩, ⟨by repeat (first | (with_reducible first | exact HB.out | apply pA | apply pN | apply pD | refine pS ?_ GE569.out | refine pS ?_ GE570.out | refine pS ?_ GE579.out | refine pS ?_ GE580.out) | exact HB.out)⟩⟩
   ·replace c30 := Bool.eq_false_iff.mpr c30
    subst c30
    have H1 : (laws_FnExactBoxOfThree.j0 k l0 t571 true) = some r := by rw [if_neg (show ¬ (false = true) by decide)] at H; exact H
    clear H
    have H := H1
    clear H1
    have H' := aM H
    clear H
    have hnb57 := NB579_569.out
    have hnc57 := NB569_579.out
    have hnb58 := NB579_570.out
    have hnc58 := NB570_579.out
    have hnb59 := NB579_580.out
    have hnc59 := NB580_579.out
    have hcz60_0 : w21.cell? ⟨gb579, 0, none⟩ = some (.int .i64 0) := (kC BK579.out 0).trans rfl
    have hcz60_1 : w21.cell? ⟨gb579, 1, none⟩ = some (.int .i64 0) := (kC BK579.out 1).trans rfl
    have hfz60_0 := kF BK579.out 0
    have hfz60_1 := kF BK579.out 1
    have hnb61 := NB569_570.out
    have hnc61 := NB570_569.out
    have hnb62 := NB569_580.out
    have hnc62 := NB580_569.out
    have hcz63_0 : w21.cell? ⟨gb569, 0, none⟩ = some (.int .i64 t564) := (kC BK569.out 0).trans rfl
    have hcz63_1 : w21.cell? ⟨gb569, 1, none⟩ = some (.int .i64 t565) := (kC BK569.out 1).trans rfl
    have hfz63_0 := kF BK569.out 0
    have hfz63_1 := kF BK569.out 1
    go_wp2_with (first | ((with_reducible refine gC (f := 49) rfl ?_); refine goesL_ (some 33) rfl rfl Try.func49 (by kernel_rfl) rfl #[.agg #[.int .i64 t574, .int .i64 t575], .agg #[.int .i64 t564, .int .i64 t565]] rfl (by (try simp only [mA, mC, mN]); first | done | rfl | (simp only [lD, lT]; rfl)) ?_; (with_reducible refine (laws_eqPeg.calls t574 t575 t564 t565 false _ A29.out).mono ?_); rintro e w64 ⟨rfl, hb⟩; refine ⟨_, rfl, ?_⟩; have n0_ := aM (Kd.R_below (by (with_reducible repeat (first | apply rA | apply rN | apply rD)); exact (Kd.R_mono (Kd.R_mono (Kd.R_far (p := ⟨gb580, 1, none⟩) (Kd.R_far (p := ⟨gb580, 0, none⟩) (Kd.R_far (p := ⟨gb579, 1, none⟩) (Kd.R_far (p := ⟨gb579, 0, none⟩) (Kd.R_mono (Kd.R_mono HO563.out (fun k_ hk => (⟨hk, hk.1.2⟩ : _ ∧ k_ ≠ gb579))) (fun k_ hk => (⟨hk, hk.1.2⟩ : _ ∧ k_ ≠ gb580))) (fun _ hk => hk.1.2) (.int .i64 t574)) (fun _ hk => hk.1.2) (.int .i64 t575)) (fun _ hk => hk.2) (.int .i64 t576)) (fun _ hk => hk.2) (.int .i64 t577)) (fun _ h_ => h_.1)) (fun _ h_ => h_.1))) hb); have n1_ := aM (Kd.R_below (by (with_reducible repeat (first | apply rA | apply rN | apply rD)); exact (Kd.R_mono (Kd.R_mono (Kd.R_far (p := ⟨gb580, 1, none⟩) (Kd.R_far (p := ⟨gb580, 0, none⟩) (Kd.R_far (p := ⟨gb579, 1, none⟩) (Kd.R_far (p := ⟨gb579, 0, none⟩) (Kd.R_mono (Kd.R_mono HO573.out (fun k_ hk => (⟨hk, hk.1.2⟩ : _ ∧ k_ ≠ gb579))) (fun k_ hk => (⟨hk, hk.1.2⟩ : _ ∧ k_ ≠ gb580))) (fun _ hk => hk.1.2) (.int .i64 t574)) (fun _ hk => hk.1.2) (.int .i64 t575)) (fun _ hk => hk.2) (.int .i64 t576)) (fun _ hk => hk.2) (.int .i64 t577)) (fun _ h_ => h_.1)) (fun _ h_ => h_.1))) hb); have n2_ := aM (blk_below (g := gb569) (o := .cells #[.int .i64 t564, .int .i64 t565] 62 (0, 0)) (by (with_reducible repeat (first | refine kN ?_ _ | refine kD ?_ | refine kA ?_ _)); refine blk_far ?_ NB569_580.out _; (with_reducible repeat (first | refine kN ?_ _ | refine kD ?_ | refine kA ?_ _)); refine blk_far ?_ NB569_580.out _; (with_reducible repeat (first | refine kN ?_ _ | refine kD ?_ | refine kA ?_ _)); refine blk_far ?_ NB569_579.out _; (with_reducible repeat (first | refine kN ?_ _ | refine kD ?_ | refine kA ?_ _)); refine blk_far ?_ NB569_579.out _; (with_reducible repeat (first | refine kN ?_ _ | refine kD ?_ | refine kA ?_ _)); exact BK569.out) hb); have n3_ := aM (blk_below (g := gb570) (o := .cells #[.int .i64 t566, .int .i64 t567] 62 (0, 0)) (by (with_reducible repeat (first | refine kN ?_ _ | refine kD ?_ | refine kA ?_ _)); refine blk_far ?_ NB570_580.out _; (with_reducible repeat (first | refine kN ?_ _ | refine kD ?_ | refine kA ?_ _)); refine blk_far ?_ NB570_580.out _; (with_reducible repeat (first | refine kN ?_ _ | refine kD ?_ | refine kA ?_ _)); refine blk_far ?_ NB570_579.out _; (with_reducible repeat (first | refine kN ?_ _ | refine kD ?_ | refine kA ?_ _)); refine blk_far ?_ NB570_579.out _; (with_reducible repeat (first | refine kN ?_ _ | refine kD ?_ | refine kA ?_ _)); exact BK570.out) hb); have n4_ := aM (blk_below (g := gb579) (o := .cells #[.int .i64 t574, .int .i64 t575] 62 (0, 0)) (by (with_reducible repeat (first | refine kN ?_ _ | refine kD ?_ | refine kA ?_ _)); refine blk_far ?_ NB579_580.out _; (with_reducible repeat (first | refine kN ?_ _ | refine kD ?_ | refine kA ?_ _)); refine blk_far ?_ NB579_580.out _; (with_reducible repeat (first | refine kN ?_ _ | refine kD ?_ | refine kA ?_ _)); refine blk_put (cs := #[.int .i64 t574, .int .i64 0]) ?_ 1 _ rfl; (with_reducible repeat (first | refine kN ?_ _ | refine kD ?_ | refine kA ?_ _)); refine blk_put (cs := #[.int .i64 0, .int .i64 0]) ?_ 0 _ rfl; (with_reducible repeat (first | refine kN ?_ _ | refine kD ?_ | refine kA ?_ _)); exact BK579.out) hb); have n5_ := aM (blk_below (g := gb580) (o := .cells #[.int .i64 t576, .int .i64 t577] 62 (0, 0)) (by (with_reducible repeat (first | refine kN ?_ _ | refine kD ?_ | refine kA ?_ _)); refine blk_put (cs := #[.int .i64 t576, .int .i64 0]) ?_ 1 _ rfl; (with_reducible repeat (first | refine kN ?_ _ | refine kD ?_ | refine kA ?_ _)); refine blk_put (cs := #[.int .i64 0, .int .i64 0]) ?_ 0 _ rfl; (with_reducible repeat (first | refine kN ?_ _ | refine kD ?_ | refine kA ?_ _)); refine blk_far ?_ NB580_579.out _; (with_reducible repeat (first | refine kN ?_ _ | refine kD ?_ | refine kA ?_ _)); refine blk_far ?_ NB580_579.out _; (with_reducible repeat (first | refine kN ?_ _ | refine kD ?_ | refine kA ?_ _)); exact BK580.out) hb); have n6_ := aM (pT (by repeat (first | (with_reducible first | exact HB.out | apply pA | apply pN | apply pD | refine pS ?_ GE569.out | refine pS ?_ GE570.out | refine pS ?_ GE579.out | refine pS ?_ GE580.out) | exact HB.out)) hb); clear HO563; clear HO573; clear BK569; clear BK570; clear BK579; clear BK580; clear HB; have HO563 := n0_; have HO573 := n1_; have BK569 := n2_; have BK570 := n3_; have BK579 := n4_; have BK580 := n5_; have HB := n6_; clear n0_ n1_ n2_ n3_ n4_ n5_ n6_; (try clear hb); (try clear hb2); (try clear hk); (try clear hi)))
    go_meet
    case rel => exact ⟨_, (true), (by first | rfl | (simp; done) | (simp [*]; done)), H', ⟨by first | omega | exact Nat.le_refl _⟩, ⟨by (with_reducible repeat (first | apply rA | apply rN | apply rD)); exact Kd.R_mono HO573.out (fun _ hk => ⟨hk.1.1.1.2, ⟨hk.1.1.2, ⟨hk.1.2, hk.2⟩⟩⟩)⟩, ⟨by (with_reducible repeat (first | refine kN ?_ _ | refine kD ?_ | refine kA ?_ _)); exact BK569.out⟩, ⟨by (with_reducible repeat (first | refine kN ?_ _ | refine kD ?_ | refine kA ?_ _)); exact BK570.out⟩, ⟨by (with_reducible repeat (first | refine kN ?_ _ | refine kD ?_ | refine kA ?_ _)); exact BK579.out⟩, ⟨by (with_reducible repeat (first | refine kN ?_ _ | refine kD ?_ | refine kA ?_ _)); exact BK580.out⟩, ⟨by repeat (first | (with_reducible first | exact HB.out | apply pA | apply pN | apply pD | refine pS ?_ GE569.out | refine pS ?_ GE570.out | refine pS ?_ GE579.out | refine pS ?_ GE580.out) | exact HB.out)⟩⟩
  case rest =>
   clear HC8
   try clear c1
   try clear c2
   try clear p2
   try clear c3
   try clear c3b0
   try clear c4
   try clear c5
   try clear c6
   try clear c12
   try clear c14
   try clear c20
   try clear c22
   try clear c23
   try clear c24
   try clear c26
   try clear c27
   try clear c30
   try clear c32
   try clear c33
   try clear c34
   try clear c35
   try clear c37
   try clear c38
   try clear c41
   try clear c45
   try clear c46
   try clear c47
   try clear c48
   try clear c49
   try clear c50
   try clear c53
   try clear c57
   try clear c58
   try clear c59
   try clear c61
   try clear c62
   try clear hcz15_0
   try clear hcz15_1
   try clear hcz16_0
   try clear hcz16_1
   try clear hcz25_0
   try clear hcz25_1
   try clear hcz28_0
   try clear hcz28_1
   try clear hcz36_0
   try clear hcz36_1
   try clear hcz39_0
   try clear hcz39_1
   try clear hcz42_0
   try clear hcz42_1
   try clear hcz43_0
   try clear hcz43_1
   try clear hcz48_0
   try clear hcz48_1
   try clear hcz51_0
   try clear hcz51_1
   try clear hcz54_0
   try clear hcz54_1
   try clear hcz55_0
   try clear hcz55_1
   try clear hcz60_0
   try clear hcz60_1
   try clear hcz63_0
   try clear hcz63_1
   try clear hfz15_0
   try clear hfz15_1
   try clear hfz16_0
   try clear hfz16_1
   try clear hfz25_0
   try clear hfz25_1
   try clear hfz28_0
   try clear hfz28_1
   try clear hfz36_0
   try clear hfz36_1
   try clear hfz39_0
   try clear hfz39_1
   try clear hfz42_0
   try clear hfz42_1
   try clear hfz43_0
   try clear hfz43_1
   try clear hfz48_0
   try clear hfz48_1
   try clear hfz51_0
   try clear hfz51_1
   try clear hfz54_0
   try clear hfz54_1
   try clear hfz55_0
   try clear hfz55_1
   try clear hfz60_0
   try clear hfz60_1
   try clear hfz63_0
   try clear hfz63_1
   obtain ⟨kq, x45_7, rfl, HA, HJ7, HO_7, BK569, BK570, BK579, BK580, HB⟩ := hcut
   cases kq with
   | zero => exact absurd HA.out (by simp [laws_FnExactBoxOfThree.j0])
   | succ kj7 =>
    have H := HA.out
    clear HA
    simp only [laws_FnExactBoxOfThree.j0] at H
    by_cases c65 : x45_7 = true
    ·subst c65
     have H1 : (some false) = some r := by rw [if_pos rfl] at H; exact H
     clear H
     have H := H1
     clear H1
     obtain rfl := Option.some.inj H
     go_wp2
     go_ret
     exact ⟨by first | rfl | (simp [errW_none, errW_some] <;> rfl) | (simp [*, errW_none, errW_some] <;> rfl), by repeat (first | (with_reducible first | exact HB.out | apply pA | apply pN | apply pD | refine pS ?_ GE569.out | refine pS ?_ GE570.out | refine pS ?_ GE579.out | refine pS ?_ GE580.out) | exact HB.out)⟩
    ·replace c65 := Bool.eq_false_iff.mpr c65
     subst c65
     have H1 : ((laws_toPegS.f kj7 l0).bind fun t583 => ((laws_eqPegS.f kj7 t571 t583).bind fun t586 => (if t586 = true then (some true) else (some false)))) = some r := by rw [if_neg (show ¬ (false = true) by decide)] at H; exact H
     clear H
     have H := H1
     clear H1
     replace H := oB.mp H
     obtain ⟨t583, A660, H⟩ := H
     replace H : ((laws_eqPegS.f kj7 t571 t583).bind fun t586 => (if t586 = true then (some true) else (some false))) = some r := H
     have A66 := aM A660
     clear A660
     replace H := oB.mp H
     obtain ⟨t586, A670, H⟩ := H
     replace H : (if t586 = true then (some true) else (some false)) = some r := H
     have A67 := aM A670
     clear A670
     by_cases c68 : t586 = true
     ·subst c68
      have H1 : (some true) = some r := by rw [if_pos rfl] at H; exact H
      clear H
      have H := H1
      clear H1
      obtain rfl := Option.some.inj H
      go_wp2_with (first | ((with_reducible refine gC (f := 22) rfl ?_); refine goesL_ (some 48) rfl rfl Try.func22 (by kernel_rfl) rfl #[.slice A0 l0.length c0] rfl (by (try simp only [mA, mC, mN]); first | done | rfl | (simp only [lD, lT]; rfl)) ?_; (with_reducible refine (laws_toPegS.calls kj7 _ _ l0 t583 _ ?side1 ?side2 A66.out).mono ?_); (case side1 => repeat (first | exact (Kd.C_below HR0.out HB.out) | (with_reducible refine cA ?_ _) | (with_reducible refine cN ?_ _) | (with_reducible refine cD ?_))); (case side2 => exact HC0.out); rintro e w69 ⟨v584, rfl, ho0, hb⟩; refine ⟨_, rfl, ?_⟩; have n0_ := aM (Kd.R_elder' (by (with_reducible repeat (first | apply rA | apply rN | apply rD)); exact HO_7.out) (Kd.R_base ho0) hb); have n1_ := aM (Kd.R_lower (Kd.R_newB (Kd.R_newB (Kd.R_newB (Kd.R_newB (Kd.R_new' ho0 (Kd.R_lt (by (with_reducible repeat (first | apply rA | apply rN | apply rD)); exact HO_7.out))) (g := gb569) (o := .cells #[.int .i64 t564, .int .i64 t565] 62 (0, 0)) (by (with_reducible repeat (first | refine kN ?_ _ | refine kD ?_ | refine kA ?_ _)); exact BK569.out)) (g := gb570) (o := .cells #[.int .i64 t566, .int .i64 t567] 62 (0, 0)) (by (with_reducible repeat (first | refine kN ?_ _ | refine kD ?_ | refine kA ?_ _)); exact BK570.out)) (g := gb579) (o := .cells #[.int .i64 t574, .int .i64 t575] 62 (0, 0)) (by (with_reducible repeat (first | refine kN ?_ _ | refine kD ?_ | refine kA ?_ _)); exact BK579.out)) (g := gb580) (o := .cells #[.int .i64 t576, .int .i64 t577] 62 (0, 0)) (by (with_reducible repeat (first | refine kN ?_ _ | refine kD ?_ | refine kA ?_ _)); exact BK580.out)) (pZ (by repeat (first | (with_reducible first | exact HB.out | apply pA | apply pN | apply pD | refine pS ?_ GE569.out | refine pS ?_ GE570.out | refine pS ?_ GE579.out | refine pS ?_ GE580.out) | exact HB.out)))); have n2_ := aM (blk_below (g := gb569) (o := .cells #[.int .i64 t564, .int .i64 t565] 62 (0, 0)) (by (with_reducible repeat (first | refine kN ?_ _ | refine kD ?_ | refine kA ?_ _)); exact BK569.out) hb); have n3_ := aM (blk_below (g := gb570) (o := .cells #[.int .i64 t566, .int .i64 t567] 62 (0, 0)) (by (with_reducible repeat (first | refine kN ?_ _ | refine kD ?_ | refine kA ?_ _)); exact BK570.out) hb); have n4_ := aM (blk_below (g := gb579) (o := .cells #[.int .i64 t574, .int .i64 t575] 62 (0, 0)) (by (with_reducible repeat (first | refine kN ?_ _ | refine kD ?_ | refine kA ?_ _)); exact BK579.out) hb); have n5_ := aM (blk_below (g := gb580) (o := .cells #[.int .i64 t576, .int .i64 t577] 62 (0, 0)) (by (with_reducible repeat (first | refine kN ?_ _ | refine kD ?_ | refine kA ?_ _)); exact BK580.out) hb); have n6_ := aM (pT (by repeat (first | (with_reducible first | exact HB.out | apply pA | apply pN | apply pD | refine pS ?_ GE569.out | refine pS ?_ GE570.out | refine pS ?_ GE579.out | refine pS ?_ GE580.out) | exact HB.out)) hb); clear HO_7; clear BK569; clear BK570; clear BK579; clear BK580; clear HB; have HO_7 := n0_; have HO585 := n1_; have BK569 := n2_; have BK570 := n3_; have BK579 := n4_; have BK580 := n5_; have HB := n6_; clear n0_ n1_ n2_ n3_ n4_ n5_ n6_; (try clear hb); (try clear hb2); (try clear hk); (try clear hi); (try clear ho0); obtain ⟨Ao70, co70, eo70⟩ := Kd.R_slice HO585.out; subst eo70) | ((with_reducible refine gC (f := 24) rfl ?_); refine goesL_ (some 49) rfl rfl Try.func24 (by kernel_rfl) rfl #[.slice Ao18 t571.length co18, .slice Ao70 t583.length co70] rfl (by (try simp only [mA, mC, mN]); first | done | rfl | (simp only [lD, lT]; rfl)) ?_; (with_reducible refine (laws_eqPegS.calls kj7 _ _ t571 _ _ t583 true _ ?side1 ?side2 ?side3 ?side4 A67.out).mono ?_); (case side1 => repeat (first | exact (rR HO_7.out).2.2 | (with_reducible refine cA ?_ _) | (with_reducible refine cN ?_ _) | (with_reducible refine cD ?_))); (case side2 => exact (rR HO_7.out).2.1); (case side3 => repeat (first | exact (rR HO585.out).2.2 | (with_reducible refine cA ?_ _) | (with_reducible refine cN ?_ _) | (with_reducible refine cD ?_))); (case side4 => exact (rR HO585.out).2.1); rintro e w71 ⟨rfl, hb⟩; refine ⟨_, rfl, ?_⟩; have n0_ := aM (Kd.R_below (by (with_reducible repeat (first | apply rA | apply rN | apply rD)); exact HO_7.out) hb); have n1_ := aM (Kd.R_below (by (with_reducible repeat (first | apply rA | apply rN | apply rD)); exact HO585.out) hb); have n2_ := aM (blk_below (g := gb569) (o := .cells #[.int .i64 t564, .int .i64 t565] 62 (0, 0)) (by (with_reducible repeat (first | refine kN ?_ _ | refine kD ?_ | refine kA ?_ _)); exact BK569.out) hb); have n3_ := aM (blk_below (g := gb570) (o := .cells #[.int .i64 t566, .int .i64 t567] 62 (0, 0)) (by (with_reducible repeat (first | refine kN ?_ _ | refine kD ?_ | refine kA ?_ _)); exact BK570.out) hb); have n4_ := aM (blk_below (g := gb579) (o := .cells #[.int .i64 t574, .int .i64 t575] 62 (0, 0)) (by (with_reducible repeat (first | refine kN ?_ _ | refine kD ?_ | refine kA ?_ _)); exact BK579.out) hb); have n5_ := aM (blk_below (g := gb580) (o := .cells #[.int .i64 t576, .int .i64 t577] 62 (0, 0)) (by (with_reducible repeat (first | refine kN ?_ _ | refine kD ?_ | refine kA ?_ _)); exact BK580.out) hb); have n6_ := aM (pT (by repeat (first | (with_reducible first | exact HB.out | apply pA | apply pN | apply pD | refine pS ?_ GE569.out | refine pS ?_ GE570.out | refine pS ?_ GE579.out | refine pS ?_ GE580.out) | exact HB.out)) hb); clear HO_7; clear HO585; clear BK569; clear BK570; clear BK579; clear BK580; clear HB; have HO_7 := n0_; have HO585 := n1_; have BK569 := n2_; have BK570 := n3_; have BK579 := n4_; have BK580 := n5_; have HB := n6_; clear n0_ n1_ n2_ n3_ n4_ n5_ n6_; (try clear hb); (try clear hb2); (try clear hk); (try clear hi)))
      go_ret
      exact ⟨by first | rfl | (simp [errW_none, errW_some] <;> rfl) | (simp [*, errW_none, errW_some] <;> rfl), by repeat (first | (with_reducible first | exact HB.out | apply pA | apply pN | apply pD | refine pS ?_ GE569.out | refine pS ?_ GE570.out | refine pS ?_ GE579.out | refine pS ?_ GE580.out) | exact HB.out)⟩
     ·replace c68 := Bool.eq_false_iff.mpr c68
      subst c68
      have H1 : (some false) = some r := by rw [if_neg (show ¬ (false = true) by decide)] at H; exact H
      clear H
      have H := H1
      clear H1
      obtain rfl := Option.some.inj H
      go_wp2_with (first | ((with_reducible refine gC (f := 22) rfl ?_); refine goesL_ (some 48) rfl rfl Try.func22 (by kernel_rfl) rfl #[.slice A0 l0.length c0] rfl (by (try simp only [mA, mC, mN]); first | done | rfl | (simp only [lD, lT]; rfl)) ?_; (with_reducible refine (laws_toPegS.calls kj7 _ _ l0 t583 _ ?side1 ?side2 A66.out).mono ?_); (case side1 => repeat (first | exact (Kd.C_below HR0.out HB.out) | (with_reducible refine cA ?_ _) | (with_reducible refine cN ?_ _) | (with_reducible refine cD ?_))); (case side2 => exact HC0.out); rintro e w72 ⟨v584, rfl, ho0, hb⟩; refine ⟨_, rfl, ?_⟩; have n0_ := aM (Kd.R_elder' (by (with_reducible repeat (first | apply rA | apply rN | apply rD)); exact HO_7.out) (Kd.R_base ho0) hb); have n1_ := aM (Kd.R_lower (Kd.R_newB (Kd.R_newB (Kd.R_newB (Kd.R_newB (Kd.R_new' ho0 (Kd.R_lt (by (with_reducible repeat (first | apply rA | apply rN | apply rD)); exact HO_7.out))) (g := gb569) (o := .cells #[.int .i64 t564, .int .i64 t565] 62 (0, 0)) (by (with_reducible repeat (first | refine kN ?_ _ | refine kD ?_ | refine kA ?_ _)); exact BK569.out)) (g := gb570) (o := .cells #[.int .i64 t566, .int .i64 t567] 62 (0, 0)) (by (with_reducible repeat (first | refine kN ?_ _ | refine kD ?_ | refine kA ?_ _)); exact BK570.out)) (g := gb579) (o := .cells #[.int .i64 t574, .int .i64 t575] 62 (0, 0)) (by (with_reducible repeat (first | refine kN ?_ _ | refine kD ?_ | refine kA ?_ _)); exact BK579.out)) (g := gb580) (o := .cells #[.int .i64 t576, .int .i64 t577] 62 (0, 0)) (by (with_reducible repeat (first | refine kN ?_ _ | refine kD ?_ | refine kA ?_ _)); exact BK580.out)) (pZ (by repeat (first | (with_reducible first | exact HB.out | apply pA | apply pN | apply pD | refine pS ?_ GE569.out | refine pS ?_ GE570.out | refine pS ?_ GE579.out | refine pS ?_ GE580.out) | exact HB.out)))); have n2_ := aM (blk_below (g := gb569) (o := .cells #[.int .i64 t564, .int .i64 t565] 62 (0, 0)) (by (with_reducible repeat (first | refine kN ?_ _ | refine kD ?_ | refine kA ?_ _)); exact BK569.out) hb); have n3_ := aM (blk_below (g := gb570) (o := .cells #[.int .i64 t566, .int .i64 t567] 62 (0, 0)) (by (with_reducible repeat (first | refine kN ?_ _ | refine kD ?_ | refine kA ?_ _)); exact BK570.out) hb); have n4_ := aM (blk_below (g := gb579) (o := .cells #[.int .i64 t574, .int .i64 t575] 62 (0, 0)) (by (with_reducible repeat (first | refine kN ?_ _ | refine kD ?_ | refine kA ?_ _)); exact BK579.out) hb); have n5_ := aM (blk_below (g := gb580) (o := .cells #[.int .i64 t576, .int .i64 t577] 62 (0, 0)) (by (with_reducible repeat (first | refine kN ?_ _ | refine kD ?_ | refine kA ?_ _)); exact BK580.out) hb); have n6_ := aM (pT (by repeat (first | (with_reducible first | exact HB.out | apply pA | apply pN | apply pD | refine pS ?_ GE569.out | refine pS ?_ GE570.out | refine pS ?_ GE579.out | refine pS ?_ GE580.out) | exact HB.out)) hb); clear HO_7; clear BK569; clear BK570; clear BK579; clear BK580; clear HB; have HO_7 := n0_; have HO585 := n1_; have BK569 := n2_; have BK570 := n3_; have BK579 := n4_; have BK580 := n5_; have HB := n6_; clear n0_ n1_ n2_ n3_ n4_ n5_ n6_; (try clear hb); (try clear hb2); (try clear hk); (try clear hi); (try clear ho0); obtain ⟨Ao73, co73, eo73⟩ := Kd.R_slice HO585.out; subst eo73) | ((with_reducible refine gC (f := 24) rfl ?_); refine goesL_ (some 49) rfl rfl Try.func24 (by kernel_rfl) rfl #[.slice Ao18 t571.length co18, .slice Ao73 t583.length co73] rfl (by (try simp only [mA, mC, mN]); first | done | rfl | (simp only [lD, lT]; rfl)) ?_; (with_reducible refine (laws_eqPegS.calls kj7 _ _ t571 _ _ t583 false _ ?side1 ?side2 ?side3 ?side4 A67.out).mono ?_); (case side1 => repeat (first | exact (rR HO_7.out).2.2 | (with_reducible refine cA ?_ _) | (with_reducible refine cN ?_ _) | (with_reducible refine cD ?_))); (case side2 => exact (rR HO_7.out).2.1); (case side3 => repeat (first | exact (rR HO585.out).2.2 | (with_reducible refine cA ?_ _) | (with_reducible refine cN ?_ _) | (with_reducible refine cD ?_))); (case side4 => exact (rR HO585.out).2.1); rintro e w74 ⟨rfl, hb⟩; refine ⟨_, rfl, ?_⟩; have n0_ := aM (Kd.R_below (by (with_reducible repeat (first | apply rA | apply rN | apply rD)); exact HO_7.out) hb); have n1_ := aM (Kd.R_below (by (with_reducible repeat (first | apply rA | apply rN | apply rD)); exact HO585.out) hb); have n2_ := aM (blk_below (g := gb569) (o := .cells #[.int .i64 t564, .int .i64 t565] 62 (0, 0)) (by (with_reducible repeat (first | refine kN ?_ _ | refine kD ?_ | refine kA ?_ _)); exact BK569.out) hb); have n3_ := aM (blk_below (g := gb570) (o := .cells #[.int .i64 t566, .int .i64 t567] 62 (0, 0)) (by (with_reducible repeat (first | refine kN ?_ _ | refine kD ?_ | refine kA ?_ _)); exact BK570.out) hb); have n4_ := aM (blk_below (g := gb579) (o := .cells #[.int .i64 t574, .int .i64 t575] 62 (0, 0)) (by (with_reducible repeat (first | refine kN ?_ _ | refine kD ?_ | refine kA ?_ _)); exact BK579.out) hb); have n5_ := aM (blk_below (g := gb580) (o := .cells #[.int .i64 t576, .int .i64 t577] 62 (0, 0)) (by (with_reducible repeat (first | refine kN ?_ _ | refine kD ?_ | refine kA ?_ _)); exact BK580.out) hb); have n6_ := aM (pT (by repeat (first | (with_reducible first | exact HB.out | apply pA | apply pN | apply pD | refine pS ?_ GE569.out | refine pS ?_ GE570.out | refine pS ?_ GE579.out | refine pS ?_ GE580.out) | exact HB.out)) hb); clear HO_7; clear HO585; clear BK569; clear BK570; clear BK579; clear BK580; clear HB; have HO_7 := n0_; have HO585 := n1_; have BK569 := n2_; have BK570 := n3_; have BK579 := n4_; have BK580 := n5_; have HB := n6_; clear n0_ n1_ n2_ n3_ n4_ n5_ n6_; (try clear hb); (try clear hb2); (try clear hk); (try clear hi)))
      go_ret
      exact ⟨by first | rfl | (simp [errW_none, errW_some] <;> rfl) | (simp [*, errW_none, errW_some] <;> rfl), by repeat (first | (with_reducible first | exact HB.out | apply pA | apply pN | apply pD | refine pS ?_ GE569.out | refine pS ?_ GE570.out | refine pS ?_ GE579.out | refine pS ?_ GE580.out) | exact HB.out)⟩

def laws_FnExactBoxOfThree.Pure : Prop := ∀ (l0 : List (S_laws_Peg)), OkL (fun y : S_laws_Peg => (okInt .i64) y.f0 ∧ (okInt .i64) y.f1) l0 → ∃ k, laws_FnExactBoxOfThree.f k l0 = some true

end Go.Proofs.Ytnlkglbpihgcmaa.X
