-- thin
-- short
-- compact
import Derived.Test.YtoeclfihlhmnpaaXA
import Derived.Test.YtoeclfihlhmnpaaX0
import Derived.Test.YtoeclfihlhmnpaaX11
import Derived.Test.YtoeclfihlhmnpaaX17
import Derived.Test.YtoeclfihlhmnpaaX18
import Derived.Test.YtoeclfihlhmnpaaX19
namespace Go.Proofs.Ytoeclfihlhmnpaa.X
open Go.RowKit Go.Proofs.Ytoeclfihlhmnpaa.XW Go.Proofs.YtoeclfihlhmnpaaW.PrintWords Go.Proofs.YtoeclfihlhmnpaaW.PrintLast Go.Proofs.YtoeclfihlhmnpaaW.PrintMore
attribute [local go_sem] max2_int min2_int max_two min_two max_three min_three max_four min_four   -- for this text's walks alone
set_option linter.unusedVariables false
set_option linter.unusedSimpArgs false

def impl_band.f (k : Nat) (l0 : List (S_impl_Peg)) : Option ((List (S_impl_Peg))) := (impl_sorted.f k l0).bind fun t441 => (if (t441.length : Int) = 1 then (some t441) else ((impl_chain.f k t441).bind fun t444 => ((slices_Reverse_impl_Peg.f k t441).bind fun t447 => ((impl_chain.f k t447).bind fun t448 => (if 0 ≤ (wrap64 ((t444.length : Int) - 1)) then (if (wrap64 ((t444.length : Int) - 1)) ≤ (t444.length : Int) then (if 0 ≤ (wrap64 ((t448.length : Int) - 1)) then (if (wrap64 ((t448.length : Int) - 1)) ≤ (t448.length : Int) then ((slices_Concat_impl_Peg.f k (([(t444.take ((wrap64 ((t444.length : Int) - 1)) : Int).toNat), (t448.take ((wrap64 ((t448.length : Int) - 1)) : Int).toNat)] : List (List (S_impl_Peg))))).bind fun t464 => (some t464)) else (none)) else (none)) else (none)) else (none))))))
theorem impl_band.mono : ∀ a0 k, LeO (impl_band.f k a0) (impl_band.f (k + 1) a0) := by
 intro a0 k
 unfold impl_band.f
 repeat' first | (with_reducible exact impl_chain.mono _ _) | (with_reducible exact impl_sorted.mono _ _) | (with_reducible exact slices_Concat_impl_Peg.mono _ _) | (with_reducible exact slices_Reverse_impl_Peg.mono _ _) | (with_reducible exact LeO.refl _) | (with_reducible exact LeO.none _) | (with_reducible refine LeO.ite ?_ ?_) | (with_reducible refine LeO.bind ?_ (fun _ => ?_)) | exact impl_chain.mono _ _ | exact impl_sorted.mono _ _ | exact slices_Concat_impl_Peg.mono _ _ | exact slices_Reverse_impl_Peg.mono _ _ | exact LeO.none _ | refine LeO.ite ?_ ?_ | refine LeO.bind ?_ (fun _ => ?_)
def impl_band.T7 : Bool × List (List Nat × List Nat) := (true, [([], []), ([], []), ([1], [1]), ([2], [2]), ([0, 3], [0, 3]), ([], []), ([], []), ([6], [6]), ([7], [7]), ([5, 8], [5, 8]), ([4, 9], [4, 9]), ([10], [10]), ([11, 11, 0, 1, 2, 3, 4, 5, 6, 7, 8, 9, 10, 11], [11])])
def impl_band.B7 : List Nat := [0, 0, 2, 6, 15, 0, 0, 64, 192, 480, 1023, 2047, 4095]
theorem impl_band.tab7 : rtab .any (opsOf Try.f45 7) = impl_band.T7 := by kernel_rfl
theorem impl_band.bits7 : waitsOk impl_band.T7.2 impl_band.B7 = true := by kernel_rfl
set_option maxHeartbeats 8000000 in
set_option maxRecDepth 100000 in
theorem impl_band.calls (k : Nat) (A0 : Option Addr) (c0 : Nat) (l0 : List (S_impl_Peg)) (r : List (S_impl_Peg)) (w : World) (hr0 : Kd.C kd_impl_Peg w A0 l0.length l0) (hc0 : l0.length ≤ c0) (h : impl_band.f k l0 = some r) :
  Calls Try.prog 45 #[.slice A0 l0.length c0] w fun e w' => ∃ v0_ : Value, e = .returned (v0_) ∧ Kd.R kd_impl_Peg 41 w' w.heap.size (fun _ => True) v0_ r ∧ Below w.heap.size w w' := by
 have HR0 := aM hr0; have HC0 := aM hc0; clear hr0 hc0; have HB := aM (Below.refl w.heap.size w)
 unfold impl_band.f at h; have H := h; clear h
 replace H := bS H; obtain ⟨t441, A2, H⟩ := H
 by_cases c3 : (t441.length : Int) = 1
 ·rw [if_pos c3] at H; have c3b0 : ((t441.length : Int) == 1) = true := beq_iff_eq.mpr c3; have c3b1 : ((t441.length : Int) != 1) = false := bne_eq_false_iff_eq.mpr c3; clear c3; obtain rfl := Option.some.inj H
  go_enter Try.func45, Try.ntmps45
  go_wp2_with (first | ((with_reducible refine gC (f := 82) rfl ?_); refine goesL_ (some 7) rfl rfl Try.func82 kR rfl #[.slice A0 l0.length c0] rfl sQ ?_; (with_reducible refine (impl_sorted.calls k _ _ l0 t441 _ ?side1 ?side2 A2.out).mono ?_); (case side1 => repeat (first | exact HR0.out | (with_reducible refine cA ?_ _) | (with_reducible refine cN ?_ _) | (with_reducible refine cD ?_))); (case side2 => exact HC0.out); rintro e w4 ⟨v442, rfl, ho0, hb⟩; refine ⟨_, rfl, ?_⟩; have HO443 := aM (Kd.R_lower ho0 (pZ bQ)); replace HB := tB HB hb; (try clear hb); (try clear hb2); (try clear hk); (try clear hi); (try clear ho0); obtain ⟨Ao5, co5, eo5⟩ := Kd.R_slice HO443.out; subst eo5))
  go_ret
  exact ⟨_, by first | rfl | (simp [errW_none, errW_some] <;> rfl) | (simp [*, errW_none, errW_some] <;> rfl), by (with_reducible repeat (first | apply rA | apply rN | apply rD)); exact HO443.out, bQ⟩
 ·rw [if_neg c3] at H; have c3b0 : ((t441.length : Int) == 1) = false := beq_eq_false_iff_ne.mpr c3; have c3b1 : ((t441.length : Int) != 1) = true := bne_iff_ne.mpr c3; replace H := bS H; obtain ⟨t444, A6, H⟩ := H; replace H := bS H; obtain ⟨t447, A7, H⟩ := H; replace H := bS H; obtain ⟨t448, A8, H⟩ := H; obtain ⟨ji9, hji9⟩ : ∃ j_ : Int, (wrap64 ((t444.length : Int) - 1)) = j_ := ⟨_, rfl⟩
  (first | rw [hji9] at H | simp only [hji9] at H)
  (try rw [hji9] at A2)
  (try rw [hji9] at A6)
  (try rw [hji9] at A7)
  (try rw [hji9] at A8)
  have hji9w : (IntKind.i64.wrap ((t444.length : Int) - 1)) = ji9 := (i64_w _).trans hji9; replace H := iN H; obtain ⟨c10, H⟩ := H; have c10b0 := eq_true c10; have c10b1 := dE c10; clear c10; replace H := iN H; obtain ⟨c11, H⟩ := H; have c11b0 := eq_true c11; have c11b1 := dE c11; clear c11; obtain ⟨y451, hy451⟩ : ∃ y_ : List (S_impl_Peg), y_ = (t444.take ((ji9) : Int).toNat) := ⟨_, rfl⟩; rw [← hy451] at H; have Ny451 := aM hy451; clear hy451; obtain ⟨ji12, hji12⟩ : ∃ j_ : Int, (wrap64 ((t448.length : Int) - 1)) = j_ := ⟨_, rfl⟩
  (first | rw [hji12] at H | simp only [hji12] at H)
  (try rw [hji12] at A2)
  (try rw [hji12] at A6)
  (try rw [hji12] at A7)
  (try rw [hji12] at A8)
  have hji12w : (IntKind.i64.wrap ((t448.length : Int) - 1)) = ji12 := (i64_w _).trans hji12; replace H := iN H; obtain ⟨c13, H⟩ := H; have c13b0 := eq_true c13; have c13b1 := dE c13; clear c13; replace H := iN H; obtain ⟨c14, H⟩ := H; have c14b0 := eq_true c14; have c14b1 := dE c14; clear c14; obtain ⟨y456, hy456⟩ : ∃ y_ : List (S_impl_Peg), y_ = (t448.take ((ji12) : Int).toNat) := ⟨_, rfl⟩; rw [← hy456] at H; have Ny456 := aM hy456; clear hy456; obtain ⟨y461, hy461⟩ : ∃ y_ : List (List (S_impl_Peg)), y_ = (([y451, y456] : List (List (S_impl_Peg)))) := ⟨_, rfl⟩; rw [← hy461] at H; have Ny461 := aM hy461; clear hy461; replace H := bS H; obtain ⟨t464, A15, H⟩ := H; obtain rfl := Option.some.inj H
  go_enter Try.func45, Try.ntmps45
  try go_wp2_with (first | ((with_reducible refine gC (f := 82) rfl ?_); refine goesL_ (some 7) rfl rfl Try.func82 kR rfl #[.slice A0 l0.length c0] rfl sQ ?_; (with_reducible refine (impl_sorted.calls k _ _ l0 t441 _ ?side1 ?side2 A2.out).mono ?_); (case side1 => repeat (first | exact HR0.out | (with_reducible refine cA ?_ _) | (with_reducible refine cN ?_ _) | (with_reducible refine cD ?_))); (case side2 => exact HC0.out); rintro e w16 ⟨v442, rfl, ho0, hb⟩; refine ⟨_, rfl, ?_⟩; have HO443 := aM (Kd.R_lower ho0 (pZ bQ)); replace HB := tB HB hb; (try clear hb); (try clear hb2); (try clear hk); (try clear hi); (try clear ho0); obtain ⟨Ao17, co17, eo17⟩ := Kd.R_slice HO443.out; subst eo17) | ((with_reducible refine gC (f := 83) rfl ?_); refine goesL_ (some 13) rfl rfl Try.func83 kR rfl #[.slice Ao17 t441.length co17] rfl sQ ?_; (with_reducible refine (impl_chain.calls k _ _ t441 t444 _ ?side1 ?side2 A6.out).mono ?_); (case side1 => repeat (first | exact (rR HO443.out).2.2 | (with_reducible refine cA ?_ _) | (with_reducible refine cN ?_ _) | (with_reducible refine cD ?_))); (case side2 => exact (rR HO443.out).2.1); rintro e w18 ⟨v445, rfl, ho0, hb⟩; refine ⟨_, rfl, ?_⟩; have HO446 := aM (Kd.R_lower (Kd.R_new' ho0 (Kd.R_lt (by (with_reducible repeat (first | apply rA | apply rN | apply rD)); exact HO443.out))) (pZ bQ)); replace HO443 := aM (Kd.R_elder' (by (with_reducible repeat (first | apply rA | apply rN | apply rD)); exact HO443.out) (Kd.R_base ho0) hb); replace HB := tB HB hb; (try clear hb); (try clear hb2); (try clear hk); (try clear hi); (try clear ho0)) | ((with_reducible refine gC (f := 84) rfl ?_); refine goesL_ (some 15) rfl rfl Try.func84 kR rfl #[.slice Ao17 t441.length co17] rfl sQ ?_; (with_reducible refine (slices_Reverse_impl_Peg.calls k (fun k_ => some k_ = (.slice Ao17 t441.length co17 : Value).ownBlock) (.slice Ao17 t441.length co17) t441 t447 w _ ?side1 ?side2 A7.out).mono ?_); (case side1 => repeat (first | (with_reducible first | exact HB.out | apply pA | apply pN | apply pD) | exact HB.out)); (case side2 => exact Kd.R_tight rfl HO443.out); rintro e w19 ⟨rfl, hy0, hb, hkp⟩; refine ⟨_, rfl, ?_⟩; replace HO443 := aM (Kd.R_reok rfl hy0 (fun k_ e_ => HO443.out.1 k_ e_)); replace HO446 := aM (Kd.R_mono (ok' := fun k_ => some k_ ≠ (.slice Ao17 t441.length co17 : Value).ownBlock) (Kd.R_keptB (HO446.out) hkp (fun k_ hk_ hs_ => (hk_.2) hs_)) (fun k_ hk_ => hk_.1.2)); replace HB := aM (hb); (try clear hb); (try clear hkp); (try clear hy0)) | ((with_reducible refine gC (f := 83) rfl ?_); refine goesL_ (some 17) rfl rfl Try.func83 kR rfl #[.slice Ao17 t447.length co17] rfl (by (try simp only [mA, mC, mN]); first | done | (rw [show t447.length = t441.length from (rR HO443.out).1.symm] <;> rfl) | rfl | (simp only [lD, lT]; rfl)) ?_; (with_reducible refine (impl_chain.calls k _ _ t447 t448 _ ?side1 ?side2 A8.out).mono ?_); (case side1 => repeat (first | exact (rR HO443.out).2.2 | (with_reducible refine cA ?_ _) | (with_reducible refine cN ?_ _) | (with_reducible refine cD ?_))); (case side2 => rw [show t447.length = t441.length from (rR HO443.out).1.symm]; exact (rR HO443.out).2.1); rintro e w20 ⟨v449, rfl, ho0, hb⟩; refine ⟨_, rfl, ?_⟩; have HO450 := aM (Kd.R_lower (Kd.R_new' (Kd.R_new' ho0 (Kd.R_lt (by (with_reducible repeat (first | apply rA | apply rN | apply rD)); exact HO443.out))) (Kd.R_lt (by (with_reducible repeat (first | apply rA | apply rN | apply rD)); exact HO446.out))) (pZ bQ)); replace HO443 := aM (Kd.R_elder' (by (with_reducible repeat (first | apply rA | apply rN | apply rD)); exact HO443.out) (Kd.R_base ho0) hb); replace HO446 := aM (Kd.R_elder' (by (with_reducible repeat (first | apply rA | apply rN | apply rD)); exact HO446.out) (Kd.R_base ho0) hb); replace HB := tB HB hb; (try clear hb); (try clear hb2); (try clear hk); (try clear hi); (try clear ho0)))
  replace HO443 := aM (rD HO443.out); replace HO446 := aM (rD HO446.out); replace HO450 := aM (rD HO450.out); replace HB := aM (pD HB.out); obtain ⟨Ao22, co22, eo22⟩ := Kd.R_slice HO446.out
  (first | subst eo22 | (injection eo22 with f1_ f2_ f3_; have f4_ := f1_.symm; have f5_ := f3_.symm; clear f1_ f2_ f3_; subst f4_; subst f5_))
  have q23 : ((ji9) : Int) ≤ ((t444.length : Int) : Int) := dT aQ; obtain ⟨i023, hi023, _, hsz23, _⟩ := info_parts info41; have hroom23 : t444.length ≤ co22 := (rR HO446.out).2.1; have hC23 : Kd.F kd_impl_Peg _ _ Ao22 t444.length t444 := (Kd.V_at (base := w.heap.size) (Kd.R_V HO446.out)).2.2; have hcut23 := cut_to (P := Try.prog) 26 41 .i64 Try.underlying26 hi023 Ao22 t444.length co22 (ji9) (dT aQ) q23 hroom23; have hr23 := Kd.F_take (m := ((ji9) : Int).toNat) hC23 (by omega)
  have hy23 : y451.length = ((ji9) : Int).toNat := (by rw [Ny451.out, lT]; omega)
  rw [← Ny451.out] at hr23; rw [← hy23] at hcut23; have HO455 := aM (show Kd.V kd_impl_Peg 41 _ w.heap.size _ (.slice Ao22 y451.length co22) y451 from Kd.V_mk (by omega) hr23)
  have HC455 := aM (show y451.length ≤ co22 from by omega)
  clear hr23 hC23 hroom23 hi023 hsz23; have KY23 := aM hy23; clear hy23; replace q23 := eq_true q23; obtain ⟨Ao24, co24, eo24⟩ := Kd.R_slice HO450.out
  (first | subst eo24 | (injection eo24 with f1_ f2_ f3_; have f4_ := f1_.symm; have f5_ := f3_.symm; clear f1_ f2_ f3_; subst f4_; subst f5_))
  have q25 : ((ji12) : Int) ≤ ((t448.length : Int) : Int) := dT aQ; obtain ⟨i025, hi025, _, hsz25, _⟩ := info_parts info41; have hroom25 : t448.length ≤ co24 := (rR HO450.out).2.1; have hC25 : Kd.F kd_impl_Peg _ _ Ao24 t448.length t448 := (Kd.V_at (base := w.heap.size) (Kd.R_V HO450.out)).2.2; have hcut25 := cut_to (P := Try.prog) 26 41 .i64 Try.underlying26 hi025 Ao24 t448.length co24 (ji12) (dT aQ) q25 hroom25; have hr25 := Kd.F_take (m := ((ji12) : Int).toNat) hC25 (by omega)
  have hy25 : y456.length = ((ji12) : Int).toNat := (by rw [Ny456.out, lT]; omega)
  rw [← Ny456.out] at hr25; rw [← hy25] at hcut25; have HO460 := aM (show Kd.V kd_impl_Peg 41 _ w.heap.size _ (.slice Ao24 y456.length co24) y456 from Kd.V_mk (by omega) hr25)
  have HC460 := aM (show y456.length ≤ co24 from by omega)
  clear hr25 hC25 hroom25 hi025 hsz25; have KY25 := aM hy25; clear hy25; replace q25 := eq_true q25
  refine start_ (n := 13) (S := fun w' => True) (ds := []) (bA 13 0) kR rfl kR trivial (fun hHeld => ?_); refine with_tabW impl_band.tab7 impl_band.bits7 (fun HT_ HW_ => ?_)
  generalize w20.drew = w21 at HO443 HO446 HO450 HB HO455 HO460 hHeld ⊢
  refine pU 0 18 (bA 13 1) HT_ ?_; refine pU 1 19 (bA 13 3) HT_ ?_; refine pU 2 20 (bA 13 7) HT_ ?_; refine pU 3 21 (bA 13 15) HT_ ?_; refine pU 4 22 (bA 13 31) HT_ ?_; refine pU 5 23 (bA 13 63) HT_ ?_; refine pU 6 24 (bA 13 127) HT_ ?_; refine pU 7 25 (bA 13 255) HT_ ?_; refine pU 8 26 (bA 13 511) HT_ ?_; refine pU 9 27 (bA 13 1023) HT_ ?_
  refine oU 10 28 (bA 13 2047) HT_ (fun K hK => ?_)
  refine Kd.N_lit_step (Kd.slice 41 kd_impl_Peg) _ 26 ?hg (N' := 28) ?hd (xs := ([y451, y456] : List (List (S_impl_Peg)))) (inner := [.slice Ao22 y451.length co22, .slice Ao24 y456.length co24]) (ok := (fun k_ => some k_ ≠ (.slice Ao17 t441.length co17 : Value).ownBlock)) (okp := (fun k_ => some k_ ≠ (.slice Ao17 t441.length co17 : Value).ownBlock)) ?hr ?hp (fun _ hk => hk) ((show ∀ k_, w21.heap.size ≤ k_ → (fun k_ => some k_ ≠ (.slice Ao17 t441.length co17 : Value).ownBlock) k_ from fun k_ hk => Kd.fresh' (Kd.R_lt (by (with_reducible repeat (first | apply rA | apply rN | apply rD)); exact HO443.out)) k_ hk) _ (Nat.le_refl _)) (Below.refl _ _) (Nat.le_refl _) (by simp) ?_; (case hd => rfl); (case hg => rfl); (case hr => first | (go_simp; done) | (go_simp; rfl)); (case hp => exact (Reps.one (show Kd.FK (Kd.slice 41 kd_impl_Peg) _ _ y451 [.slice Ao22 y451.length co22] from (Kd.FK_slice_mk (Kd.V_reads' (Kd.V_mono (ok' := (fun k_ => some k_ ≠ (.slice Ao17 t441.length co17 : Value).ownBlock)) (HO455.out) (fun k_ hk => hk.1))).2.1 (Kd.V_F (Kd.V_mono (ok' := (fun k_ => some k_ ≠ (.slice Ao17 t441.length co17 : Value).ownBlock)) (HO455.out) (fun k_ hk => hk.1))))) (Reps.one (show Kd.FK (Kd.slice 41 kd_impl_Peg) _ _ y456 [.slice Ao24 y456.length co24] from (Kd.FK_slice_mk (Kd.V_reads' (Kd.V_mono (ok' := (fun k_ => some k_ ≠ (.slice Ao17 t441.length co17 : Value).ownBlock)) (HO460.out) (fun k_ hk => hk.1.2))).2.1 (Kd.V_F (Kd.V_mono (ok' := (fun k_ => some k_ ≠ (.slice Ao17 t441.length co17 : Value).ownBlock)) (HO460.out) (fun k_ hk => hk.1.2))))) (Reps.none _ _))))
  intro v462 w26 ho27 hb hg_ hnew_
  clear hg_ hnew_
  (first | rw [← Ny461.out] at ho27 | (simp only [Int.reduceToNat] at ho27; rw [← Ny461.out] at ho27))
  have HO463 := aM (Kd.N_lower ho27 (pZ bQ)); replace HO443 := aM (Kd.R_below (by (with_reducible repeat (first | apply rA | apply rN | apply rD)); exact HO443.out) hb); replace HO446 := aM (Kd.R_below (by (with_reducible repeat (first | apply rA | apply rN | apply rD)); exact HO446.out) hb); replace HO450 := aM (Kd.R_below (by (with_reducible repeat (first | apply rA | apply rN | apply rD)); exact HO450.out) hb); replace HO455 := aM (Kd.V_elder' (by (with_reducible repeat (first | apply Kd.V_alloc | apply Kd.V_drewN | apply Kd.V_drew)); exact HO455.out) (Kd.N_base ho27) hb); replace HO460 := aM (Kd.V_elder' (by (with_reducible repeat (first | apply Kd.V_alloc | apply Kd.V_drewN | apply Kd.V_drew)); exact HO460.out) (Kd.N_base ho27) hb); replace HB := tB HB hb
  clear hb ho27; obtain ⟨Ao28, co28, eo28⟩ := Kd.N_slice HO463.out
  (first | subst eo28 | (injection eo28 with f1_ f2_ f3_; have f4_ := f1_.symm; have f5_ := f3_.symm; clear f1_ f2_ f3_; subst f4_; subst f5_))
  refine hK.out _ _ trivial (fun hHeld => ?_)
  clear hK K
  refine nU ?_
  refine oU 11 29 (bA 13 4095) HT_ (fun K hK => ?_)
  refine goes_ Try.func85 kR rfl #[.slice Ao28 y461.length co28] (by rfl) rfl rfl sQ ?_
  with_reducible refine (slices_Concat_impl_Peg.calls k _ _ y461 t464 _ ?side1 ?side2 A15.out).mono ?_
  (case side1 => repeat (first | exact (Kd.N_reads' HO463.out).2.2 | (with_reducible refine cA ?_ _) | (with_reducible refine cN ?_ _) | (with_reducible refine cD ?_)))
  (case side2 => exact (Kd.N_reads' HO463.out).2.1)
  rintro e w29 ⟨v465, rfl, ho0, hb⟩; refine ⟨_, rfl, ?_⟩; have HO466 := aM (Kd.R_lower (Kd.R_new' (Kd.R_new' (Kd.R_new' ho0 (Kd.R_lt (by (with_reducible repeat (first | apply rA | apply rN | apply rD)); exact HO443.out))) (Kd.R_lt (by (with_reducible repeat (first | apply rA | apply rN | apply rD)); exact HO446.out))) (Kd.R_lt (by (with_reducible repeat (first | apply rA | apply rN | apply rD)); exact HO450.out))) (pZ bQ)); replace HO443 := aM (Kd.R_elder' (by (with_reducible repeat (first | apply rA | apply rN | apply rD)); exact HO443.out) (Kd.R_base ho0) hb); replace HO446 := aM (Kd.R_elder' (by (with_reducible repeat (first | apply rA | apply rN | apply rD)); exact HO446.out) (Kd.R_base ho0) hb); replace HO450 := aM (Kd.R_elder' (by (with_reducible repeat (first | apply rA | apply rN | apply rD)); exact HO450.out) (Kd.R_base ho0) hb); replace HO455 := aM (Kd.V_elder' (by (with_reducible repeat (first | apply Kd.V_alloc | apply Kd.V_drewN | apply Kd.V_drew)); exact HO455.out) (Kd.R_base ho0) hb); replace HO460 := aM (Kd.V_elder' (by (with_reducible repeat (first | apply Kd.V_alloc | apply Kd.V_drewN | apply Kd.V_drew)); exact HO460.out) (Kd.R_base ho0) hb); replace HO463 := aM (Kd.N_elder' (by (with_reducible repeat (first | apply Kd.N_alloc | apply Kd.N_drewN | apply Kd.N_drew)); exact HO463.out) (Kd.R_base ho0) hb); replace HB := tB HB hb
  (try clear hb); (try clear hb2); (try clear hk); (try clear hi); (try clear ho0)
  refine hK.out _ _ trivial (fun hHeld => ?_)
  clear hK K
  refine nU ?_
  refine pU 12 2 (bA 13 8191) HT_ ?_
  refine done_ (done_of HT_.out kR) ?_
  try go_wp2
  go_ret
  exact ⟨_, by first | rfl | (simp [errW_none, errW_some] <;> rfl) | (simp only [← hji9, ← hji12]; first | rfl | (simp [errW_none, errW_some] <;> rfl)) | (simp [*, errW_none, errW_some] <;> rfl), by (with_reducible repeat (first | apply rA | apply rN | apply rD)); exact Kd.R_mono HO466.out (fun _ hk => trivial), bQ⟩
def impl_BandOfSolutions.f (k : Nat) (a0_0 : Int) (l0_1 : List (S_impl_Clue)) : Option ((List (S_impl_Peg)) × Bool) := (impl_Solutions.f k a0_0 l0_1).bind fun bt468 => (if bt468.2 = true then (if (bt468.1.length : Int) = 0 then (some (([] : List (S_impl_Peg)), false)) else ((impl_band.f k bt468.1).bind fun t472 => (some (t472, true)))) else (some (([] : List (S_impl_Peg)), false)))
theorem impl_BandOfSolutions.mono : ∀ a0 a1 k, LeO (impl_BandOfSolutions.f k a0 a1) (impl_BandOfSolutions.f (k + 1) a0 a1) := by
 intro a0 a1 k
 unfold impl_BandOfSolutions.f
 repeat' first | (with_reducible exact impl_Solutions.mono _ _ _) | (with_reducible exact impl_band.mono _ _) | (with_reducible exact LeO.refl _) | (with_reducible exact LeO.none _) | (with_reducible refine LeO.ite ?_ ?_) | (with_reducible refine LeO.bind ?_ (fun _ => ?_)) | exact impl_Solutions.mono _ _ _ | exact impl_band.mono _ _ | exact LeO.none _ | refine LeO.ite ?_ ?_ | refine LeO.bind ?_ (fun _ => ?_)
set_option maxHeartbeats 8000000 in
set_option maxRecDepth 100000 in
theorem impl_BandOfSolutions.calls (k : Nat) (a0_0 : Int) (A0_1 : Option Addr) (c0_1 : Nat) (l0_1 : List (S_impl_Clue)) (r1 : List (S_impl_Peg)) (r2 : Bool) (w : World) (hr0_1 : Kd.C kd_impl_Clue w A0_1 l0_1.length l0_1) (hc0_1 : l0_1.length ≤ c0_1) (h : impl_BandOfSolutions.f k a0_0 l0_1 = some (r1, r2)) :
  Calls Try.prog 8 #[.agg #[.int .i64 a0_0, .slice A0_1 l0_1.length c0_1]] w fun e w' => ∃ v0_ : Value, e = .returned (.tuple #[v0_, .bool r2]) ∧ Kd.R kd_impl_Peg 41 w' w.heap.size (fun _ => True) v0_ r1 ∧ Below w.heap.size w w' := by
 have hu31 := Try.underlying31; have HR0_1 := aM hr0_1; have HC0_1 := aM hc0_1; clear hr0_1 hc0_1; have HB := aM (Below.refl w.heap.size w)
 unfold impl_BandOfSolutions.f at h; have H := h; clear h
 replace H := bS H; obtain ⟨⟨t468, t471⟩, A2, H⟩ := H
 by_cases c3 : t471 = true
 ·subst c3; replace H := iT H
  by_cases c4 : (t468.length : Int) = 0
  ·rw [if_pos c4] at H; have c4b0 : ((t468.length : Int) == 0) = true := beq_iff_eq.mpr c4; have c4b1 : ((t468.length : Int) != 0) = false := bne_eq_false_iff_eq.mpr c4; clear c4
   simp only [Option.some.injEq, Prod.mk.injEq] at H
   obtain ⟨rfl, rfl⟩ := H
   go_enter Try.func8, Try.ntmps8
   go_wp2_with (first | ((with_reducible refine gate_dst (N := 1) rfl ?_); (try (refine gate_guard (by rfl) ?_; dsimp only)); refine bV 1 (cs := #[.int .i64 a0_0, .slice A0_1 l0_1.length c0_1]) (t := 31) rfl rfl (by first | (go_simp; done) | (go_simp; rfl)) ?_; intro gb467 hg w5 hbox hb; have BK467 := hbox; have GW467 := gZ HB hg; have GE467 := gZ HB hg; replace HB := tB HB hb; clear hb hbox hg; have hcz6_0 := vZ0 BK467; have hcz6_1 := vZ1 BK467; have hfz6_0 := kF BK467.out 0; have hfz6_1 := kF BK467.out 1) | ((with_reducible refine gC (f := 25) rfl ?_); refine goesL_ (some 8) rfl rfl Try.func25 kR rfl #[.agg #[.int .i64 a0_0, .slice A0_1 l0_1.length c0_1]] rfl sQ ?_; (with_reducible refine (impl_Solutions.calls k a0_0 _ _ l0_1 t468 true _ ?side1 ?side2 A2.out).mono ?_); (case side1 => repeat (first | exact (Kd.C_below HR0_1.out HB.out) | (with_reducible refine cA ?_ _) | (with_reducible refine cN ?_ _) | (with_reducible refine cD ?_))); (case side2 => exact HC0_1.out); rintro e w7 ⟨v469, rfl, ho0, hb⟩; refine ⟨_, rfl, ?_⟩; have HO470 := aM (Kd.R_lower ho0 (pZ bE)); replace BK467 := bB BK467 hb; replace HB := tB HB hb; (try clear hb); (try clear hb2); (try clear hk); (try clear hi); (try clear ho0); obtain ⟨Ao8, co8, eo8⟩ := Kd.R_slice HO470.out; subst eo8))
   go_ret2
   exact ⟨_, by first | rfl | (simp [errW_none, errW_some] <;> rfl) | (simp [*, errW_none, errW_some] <;> rfl), by first | exact Kd.R_nil _ _ _ _ _ | exact Kd.N_nil _ _ _ _ _ | exact Kd.V_nil _ _ _ _ _ | exact Kd.Q_nil _ _ _ _ _ | exact Kd.S_nil _ _ _ _ _, bE⟩
  ·rw [if_neg c4] at H; have c4b0 : ((t468.length : Int) == 0) = false := beq_eq_false_iff_ne.mpr c4; have c4b1 : ((t468.length : Int) != 0) = true := bne_iff_ne.mpr c4; have c4b2 : ¬ (t468 = []) := fun h_ => c4 (by rw [h_]; rfl)
   replace H := bS H; obtain ⟨t472, A9, H⟩ := H
   simp only [Option.some.injEq, Prod.mk.injEq] at H
   obtain ⟨rfl, rfl⟩ := H
   go_enter Try.func8, Try.ntmps8
   go_wp2_with (first | ((with_reducible refine gate_dst (N := 1) rfl ?_); (try (refine gate_guard (by rfl) ?_; dsimp only)); refine bV 1 (cs := #[.int .i64 a0_0, .slice A0_1 l0_1.length c0_1]) (t := 31) rfl rfl (by first | (go_simp; done) | (go_simp; rfl)) ?_; intro gb467 hg w10 hbox hb; have BK467 := hbox; have GW467 := gZ HB hg; have GE467 := gZ HB hg; replace HB := tB HB hb; clear hb hbox hg; have hcz11_0 := vZ0 BK467; have hcz11_1 := vZ1 BK467; have hfz11_0 := kF BK467.out 0; have hfz11_1 := kF BK467.out 1) | ((with_reducible refine gC (f := 25) rfl ?_); refine goesL_ (some 8) rfl rfl Try.func25 kR rfl #[.agg #[.int .i64 a0_0, .slice A0_1 l0_1.length c0_1]] rfl sQ ?_; (with_reducible refine (impl_Solutions.calls k a0_0 _ _ l0_1 t468 true _ ?side1 ?side2 A2.out).mono ?_); (case side1 => repeat (first | exact (Kd.C_below HR0_1.out HB.out) | (with_reducible refine cA ?_ _) | (with_reducible refine cN ?_ _) | (with_reducible refine cD ?_))); (case side2 => exact HC0_1.out); rintro e w12 ⟨v469, rfl, ho0, hb⟩; refine ⟨_, rfl, ?_⟩; have HO470 := aM (Kd.R_lower ho0 (pZ bE)); replace BK467 := bB BK467 hb; replace HB := tB HB hb; (try clear hb); (try clear hb2); (try clear hk); (try clear hi); (try clear ho0); obtain ⟨Ao13, co13, eo13⟩ := Kd.R_slice HO470.out; subst eo13) | ((with_reducible refine gC (f := 45) rfl ?_); refine goesL_ (some 19) rfl rfl Try.func45 kR rfl #[.slice Ao13 t468.length co13] rfl sQ ?_; (with_reducible refine (impl_band.calls k _ _ t468 t472 _ ?side1 ?side2 A9.out).mono ?_); (case side1 => repeat (first | exact (rR HO470.out).2.2 | (with_reducible refine cA ?_ _) | (with_reducible refine cN ?_ _) | (with_reducible refine cD ?_))); (case side2 => exact (rR HO470.out).2.1); rintro e w14 ⟨v473, rfl, ho0, hb⟩; refine ⟨_, rfl, ?_⟩; have HO474 := aM (Kd.R_lower (Kd.R_new' ho0 (Kd.R_lt (by (with_reducible repeat (first | apply rA | apply rN | apply rD)); exact HO470.out))) (pZ bE)); replace HO470 := aM (Kd.R_elder' (by (with_reducible repeat (first | apply rA | apply rN | apply rD)); exact HO470.out) (Kd.R_base ho0) hb); replace BK467 := bB BK467 hb; replace HB := tB HB hb; (try clear hb); (try clear hb2); (try clear hk); (try clear hi); (try clear ho0)))
   go_ret2
   exact ⟨_, by first | rfl | (simp [errW_none, errW_some] <;> rfl) | (simp [*, errW_none, errW_some] <;> rfl), by (with_reducible repeat (first | apply rA | apply rN | apply rD)); exact Kd.R_mono HO474.out (fun _ hk => trivial), bE⟩
 ·replace c3 := Bool.eq_false_iff.mpr c3; subst c3; replace H := iF H
  simp only [Option.some.injEq, Prod.mk.injEq] at H
  obtain ⟨rfl, rfl⟩ := H
  go_enter Try.func8, Try.ntmps8
  go_wp2_with (first | ((with_reducible refine gate_dst (N := 1) rfl ?_); (try (refine gate_guard (by rfl) ?_; dsimp only)); refine bV 1 (cs := #[.int .i64 a0_0, .slice A0_1 l0_1.length c0_1]) (t := 31) rfl rfl (by first | (go_simp; done) | (go_simp; rfl)) ?_; intro gb467 hg w15 hbox hb; have BK467 := hbox; have GW467 := gZ HB hg; have GE467 := gZ HB hg; replace HB := tB HB hb; clear hb hbox hg; have hcz16_0 := vZ0 BK467; have hcz16_1 := vZ1 BK467; have hfz16_0 := kF BK467.out 0; have hfz16_1 := kF BK467.out 1) | ((with_reducible refine gC (f := 25) rfl ?_); refine goesL_ (some 8) rfl rfl Try.func25 kR rfl #[.agg #[.int .i64 a0_0, .slice A0_1 l0_1.length c0_1]] rfl sQ ?_; (with_reducible refine (impl_Solutions.calls k a0_0 _ _ l0_1 t468 false _ ?side1 ?side2 A2.out).mono ?_); (case side1 => repeat (first | exact (Kd.C_below HR0_1.out HB.out) | (with_reducible refine cA ?_ _) | (with_reducible refine cN ?_ _) | (with_reducible refine cD ?_))); (case side2 => exact HC0_1.out); rintro e w17 ⟨v469, rfl, ho0, hb⟩; refine ⟨_, rfl, ?_⟩; have HO470 := aM (Kd.R_lower ho0 (pZ bE)); replace BK467 := bB BK467 hb; replace HB := tB HB hb; (try clear hb); (try clear hb2); (try clear hk); (try clear hi); (try clear ho0)))
  go_ret2
  exact ⟨_, by first | rfl | (simp [errW_none, errW_some] <;> rfl) | (simp [*, errW_none, errW_some] <;> rfl), by first | exact Kd.R_nil _ _ _ _ _ | exact Kd.N_nil _ _ _ _ _ | exact Kd.V_nil _ _ _ _ _ | exact Kd.Q_nil _ _ _ _ _ | exact Kd.S_nil _ _ _ _ _, bE⟩

def laws_eqPeg.f (a0_0 : Int) (a0_1 : Int) (a1_0 : Int) (a1_1 : Int) : Option (Bool) := if a0_0 = a1_0 then (if a0_1 = a1_1 then (some true) else (some false)) else (some false)
set_option maxHeartbeats 8000000 in
set_option maxRecDepth 100000 in
theorem laws_eqPeg.calls (a0_0 : Int) (a0_1 : Int) (a1_0 : Int) (a1_1 : Int) (r : Bool) (w : World) (h : laws_eqPeg.f a0_0 a0_1 a1_0 a1_1 = some r) :
  Calls Try.prog 46 #[.agg #[.int .i64 a0_0, .int .i64 a0_1], .agg #[.int .i64 a1_0, .int .i64 a1_1]] w fun e w' => e = .returned (.bool r) ∧ Below w.heap.size w w' := by
 have hu41 := Try.underlying41; have HB := aM (Below.refl w.heap.size w)
 unfold laws_eqPeg.f at h; have H := h; clear h
 by_cases c3 : a0_0 = a1_0
 ·rw [if_pos c3] at H; have c3b0 : (a0_0 == a1_0) = true := beq_iff_eq.mpr c3; have c3b1 : (a0_0 != a1_0) = false := bne_eq_false_iff_eq.mpr c3; clear c3
  by_cases c4 : a0_1 = a1_1
  ·rw [if_pos c4] at H; have c4b0 : (a0_1 == a1_1) = true := beq_iff_eq.mpr c4; have c4b1 : (a0_1 != a1_1) = false := bne_eq_false_iff_eq.mpr c4; clear c4; obtain rfl := Option.some.inj H
   go_enter Try.func46, Try.ntmps46
   go_wp2_with (first | ((with_reducible refine gate_dst (N := 2) rfl ?_); refine bV 2 (cs := #[.int .i64 a0_0, .int .i64 a0_1]) (t := 41) rfl rfl (by first | (go_simp; done) | (go_simp; rfl)) ?_; intro gb475 hg w5 hbox hb; have BK475 := hbox; have GW475 := gZ HB hg; have GE475 := gZ HB hg; replace HB := tB HB hb; clear hb hbox hg) | ((with_reducible refine gate_dst (N := 3) rfl ?_); refine bV 3 (cs := #[.int .i64 a1_0, .int .i64 a1_1]) (t := 41) rfl rfl (by first | (go_simp; done) | (go_simp; rfl)) ?_; intro gb476 hg w6 hbox hb; have BK476 := hbox; have GW476 := gZ HB hg; have GE476 := gZ HB hg; have NB475_476 := nG BK475 hg; have NB476_475 := nH BK475 hg; replace BK475 := bB BK475 hb; replace HB := tB HB hb; clear hb hbox hg; have hnb7 := NB475_476.out; have hnc7 := NB476_475.out; have hcz8_0 := vZ0 BK475; have hcz8_1 := vZ1 BK475; have hfz8_0 := kF BK475.out 0; have hfz8_1 := kF BK475.out 1; have hcz9_0 := vZ0 BK476; have hcz9_1 := vZ1 BK476; have hfz9_0 := kF BK476.out 0; have hfz9_1 := kF BK476.out 1))
   go_ret
   exact ⟨wQ, bE⟩
  ·rw [if_neg c4] at H; have c4b0 : (a0_1 == a1_1) = false := beq_eq_false_iff_ne.mpr c4; have c4b1 : (a0_1 != a1_1) = true := bne_iff_ne.mpr c4; obtain rfl := Option.some.inj H
   go_enter Try.func46, Try.ntmps46
   go_wp2_with (first | ((with_reducible refine gate_dst (N := 2) rfl ?_); refine bV 2 (cs := #[.int .i64 a0_0, .int .i64 a0_1]) (t := 41) rfl rfl (by first | (go_simp; done) | (go_simp; rfl)) ?_; intro gb475 hg w10 hbox hb; have BK475 := hbox; have GW475 := gZ HB hg; have GE475 := gZ HB hg; replace HB := tB HB hb; clear hb hbox hg) | ((with_reducible refine gate_dst (N := 3) rfl ?_); refine bV 3 (cs := #[.int .i64 a1_0, .int .i64 a1_1]) (t := 41) rfl rfl (by first | (go_simp; done) | (go_simp; rfl)) ?_; intro gb476 hg w11 hbox hb; have BK476 := hbox; have GW476 := gZ HB hg; have GE476 := gZ HB hg; have NB475_476 := nG BK475 hg; have NB476_475 := nH BK475 hg; replace BK475 := bB BK475 hb; replace HB := tB HB hb; clear hb hbox hg; have hnb12 := NB475_476.out; have hnc12 := NB476_475.out; have hcz13_0 := vZ0 BK475; have hcz13_1 := vZ1 BK475; have hfz13_0 := kF BK475.out 0; have hfz13_1 := kF BK475.out 1; have hcz14_0 := vZ0 BK476; have hcz14_1 := vZ1 BK476; have hfz14_0 := kF BK476.out 0; have hfz14_1 := kF BK476.out 1))
   go_ret
   exact ⟨wQ, bE⟩
 ·rw [if_neg c3] at H; have c3b0 : (a0_0 == a1_0) = false := beq_eq_false_iff_ne.mpr c3; have c3b1 : (a0_0 != a1_0) = true := bne_iff_ne.mpr c3; obtain rfl := Option.some.inj H
  go_enter Try.func46, Try.ntmps46
  go_wp2_with (first | ((with_reducible refine gate_dst (N := 2) rfl ?_); refine bV 2 (cs := #[.int .i64 a0_0, .int .i64 a0_1]) (t := 41) rfl rfl (by first | (go_simp; done) | (go_simp; rfl)) ?_; intro gb475 hg w15 hbox hb; have BK475 := hbox; have GW475 := gZ HB hg; have GE475 := gZ HB hg; replace HB := tB HB hb; clear hb hbox hg) | ((with_reducible refine gate_dst (N := 3) rfl ?_); refine bV 3 (cs := #[.int .i64 a1_0, .int .i64 a1_1]) (t := 41) rfl rfl (by first | (go_simp; done) | (go_simp; rfl)) ?_; intro gb476 hg w16 hbox hb; have BK476 := hbox; have GW476 := gZ HB hg; have GE476 := gZ HB hg; have NB475_476 := nG BK475 hg; have NB476_475 := nH BK475 hg; replace BK475 := bB BK475 hb; replace HB := tB HB hb; clear hb hbox hg; have hnb17 := NB475_476.out; have hnc17 := NB476_475.out; have hcz18_0 := vZ0 BK475; have hcz18_1 := vZ1 BK475; have hfz18_0 := kF BK475.out 0; have hfz18_1 := kF BK475.out 1; have hcz19_0 := vZ0 BK476; have hcz19_1 := vZ1 BK476; have hfz19_0 := kF BK476.out 0; have hfz19_1 := kF BK476.out 1))
  go_ret
  exact ⟨wQ, bE⟩

end Go.Proofs.Ytoeclfihlhmnpaa.X
