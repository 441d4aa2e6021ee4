-- thin
-- short
-- compact
import Derived.Test.YtoeclfihlhmnpaaXA
import Derived.Test.YtoeclfihlhmnpaaX0
import Derived.Test.YtoeclfihlhmnpaaX7
import Derived.Test.YtoeclfihlhmnpaaX8
import Derived.Test.YtoeclfihlhmnpaaXW3
namespace Go.Proofs.Ytoeclfihlhmnpaa.X
open Go.RowKit Go.Proofs.Ytoeclfihlhmnpaa.XW Go.Proofs.YtoeclfihlhmnpaaW.PrintWords Go.Proofs.YtoeclfihlhmnpaaW.PrintLast Go.Proofs.YtoeclfihlhmnpaaW.PrintMore
attribute [local go_sem] max2_int min2_int max_two min_two max_three min_three max_four min_four   -- for this text's walks alone
set_option linter.unusedVariables false
set_option linter.unusedSimpArgs false

def slices_Delete_impl_Clue.f (l0 : List (S_impl_Clue)) (a1 : Int) (a2 : Int) : Option ((List (S_impl_Clue))) := if a2 = wrap64 (a1 + 1) then (if a1 = (wrap64 (a1 + 1)) then (some l0) else (if 0 ≤ a1 then (if a1 ≤ (l0.length : Int) then (if 0 ≤ (wrap64 (a1 + 1)) then (if (wrap64 (a1 + 1)) ≤ (l0.length : Int) then (some (l0.eraseIdx (a1 : Int).toNat)) else (none)) else (none)) else (none)) else (none))) else (none)
def slices_Delete_impl_Clue.T5 : Bool × List (List Nat × List Nat) := (true, [([], []), ([], []), ([0, 1], [0, 1]), ([], []), ([], []), ([3, 4], [3, 4]), ([2, 5], [2, 5]), ([6, 6, 0, 1, 2, 3, 4, 5, 6], [0, 3, 6])])
def slices_Delete_impl_Clue.B5 : List Nat := [0, 0, 3, 0, 0, 24, 63, 127]
theorem slices_Delete_impl_Clue.tab5 : rtab .any (opsOf Try.f97 5) = slices_Delete_impl_Clue.T5 := by kernel_rfl
theorem slices_Delete_impl_Clue.bits5 : waitsOk slices_Delete_impl_Clue.T5.2 slices_Delete_impl_Clue.B5 = true := by kernel_rfl
set_option maxHeartbeats 8000000 in
set_option maxRecDepth 100000 in
theorem slices_Delete_impl_Clue.calls (P0_ : Nat → Prop) (u9000_ : Value) (l0 : List (S_impl_Clue)) (a1 : Int) (a2 : Int) (r : List (S_impl_Clue)) (w0 w : World) (hB : Below w0.heap.size w0 w) (ho0 : Kd.R kd_impl_Clue 48 w w0.heap.size P0_ u9000_ l0) (h : slices_Delete_impl_Clue.f l0 a1 a2 = some r) :
  Calls Try.prog 97 #[u9000_, .int .i64 a1, .int .i64 a2] w fun e w' => ∃ v0_ : Value, e = .returned (v0_) ∧ Kd.R kd_impl_Clue 48 w' w0.heap.size (fun k_ => (P0_ k_ ∨ w.heap.size ≤ k_)) v0_ r ∧ Below w0.heap.size w0 w' ∧ Kept w w' (fun k_ => P0_ k_) := by
 have HO0 := aM (show Kd.R kd_impl_Clue 48 w w0.heap.size (fun k_ => (P0_ k_ ∨ w.heap.size ≤ k_)) u9000_ l0 from Kd.R_mono ho0 (fun k_ hk => (.inl hk))); have HK := aM (Kept.refl w (fun k_ => P0_ k_)); have HW0 := aM hB.size; have HB := aM hB; clear hB
 unfold slices_Delete_impl_Clue.f at h; have H := h; clear h
 replace H := iN H; obtain ⟨c4, H⟩ := H; subst c4
 skip
 skip
 by_cases c5 : a1 = (wrap64 (a1 + 1))
 ·exact absurd c5 (by unfold wrap64; omega)
 ·rw [if_neg c5] at H; have c5b0 : (a1 == (wrap64 (a1 + 1))) = false := beq_eq_false_iff_ne.mpr c5; have c5b1 : (a1 != (wrap64 (a1 + 1))) = true := bne_iff_ne.mpr c5; replace H := iN H; obtain ⟨c7, H⟩ := H; have c7b0 := eq_true c7; have c7b1 := dE c7; clear c7; replace H := iN H; obtain ⟨c8, H⟩ := H; have c8b0 := eq_true c8; have c8b1 := dE c8; clear c8; obtain ⟨y226, hy226⟩ : ∃ y_ : List (S_impl_Clue), y_ = (l0.take (a1 : Int).toNat) := ⟨_, rfl⟩; have Ny226 := aM hy226; clear hy226; obtain ⟨ji9, hji9⟩ : ∃ j_ : Int, (wrap64 (a1 + 1)) = j_ := ⟨_, rfl⟩; rw [hji9]; replace H : (if 0 ≤ (ji9) then (if (ji9) ≤ (l0.length : Int) then (some (l0.eraseIdx (a1 : Int).toNat)) else (none)) else (none)) = some r := by first | (rw [hji9] at H; exact H) | (simp only [hji9] at H ⊢; exact H)
  (try rw [hji9] at c4b0)
  (try rw [hji9] at c4b1)
  (try rw [hji9] at c5b0)
  (try rw [hji9] at c5b1)
  have hji9w : (IntKind.i64.wrap (a1 + 1)) = ji9 := (i64_w _).trans hji9; replace H := iN H; obtain ⟨c10, H⟩ := H; have c10b0 := eq_true c10; have c10b1 := dE c10; clear c10; replace H := iN H; obtain ⟨c11, H⟩ := H; have c11b0 := eq_true c11; have c11b1 := dE c11; clear c11; obtain ⟨y230, hy230⟩ : ∃ y_ : List (S_impl_Clue), y_ = (l0.drop ((ji9) : Int).toNat) := ⟨_, rfl⟩; have Ny230 := aM hy230; clear hy230; obtain ⟨y234, hy234⟩ : ∃ y_ : List (S_impl_Clue), y_ = (l0.eraseIdx (a1 : Int).toNat) := ⟨_, rfl⟩; rw [← hy234] at H; have Ny234 := aM hy234; clear hy234; obtain rfl := Option.some.inj H; obtain ⟨Ao12, co12, eo12⟩ := Kd.R_slice HO0.out; subst eo12; have hlc_ := aM (rR HO0.out).2.1; obtain ⟨i0c_, hi0c_, _, hszc_, _⟩ := info_parts info48; have h1_ : (0 : Int) ≤ a1 := (dT aQ); have h2_ : (ji9 : Int) ≤ (l0.length : Int) := (dT aQ); have h4_ : a1 ≤ (l0.length : Int) := (dT aQ); have h5_ := (rR HO0.out).2.2.2.1; have h6_ : (0 : Int) ≤ ji9 := (dT aQ); have h3_ : a1 ≤ ji9 := (by have h00_ := hji9; unfold wrap64 at h00_; omega)
  obtain ⟨vm_, hvm_⟩ := cut_max (P := Try.prog) 29 48 .i64 .i64 .i64 Try.underlying29 hi0c_ Ao12 l0.length co12 a1 ji9 (l0.length : Int) h1_ h3_ h2_ (by have := hlc_.out; omega)
  clear h1_ h2_ h3_ h4_ h5_ h6_
  go_enter Try.func97, Try.ntmps97
  try go_wp2
  replace HO0 := aM (rD HO0.out); replace HK := aM (Kept.drew HK.out); replace HB := aM (pD HB.out); have q14 : (a1 : Int) ≤ ((l0.length : Int) : Int) := dT aQ; obtain ⟨i014, hi014, _, hsz14, _⟩ := info_parts info48; have hroom14 : l0.length ≤ co12 := (rR HO0.out).2.1; have hC14 : Kd.C kd_impl_Clue _ Ao12 l0.length l0 := (rR HO0.out).2.2; have hcut14 := cut_to (P := Try.prog) 29 48 .i64 Try.underlying29 hi014 Ao12 l0.length co12 a1 (dT aQ) q14 hroom14; have hr14 := Kd.C_take (m := (a1 : Int).toNat) hC14 (by omega)
  have hy14 : y226.length = (a1 : Int).toNat := (by rw [Ny226.out, lT]; omega)
  rw [← Ny226.out] at hr14; rw [← hy14] at hcut14; have HR229 := aM hr14; have HC229 := aM (show y226.length ≤ co12 from by omega)
  clear hr14 hC14 hroom14 hi014 hsz14; have KY14 := aM hy14; clear hy14; have KL14 := aM (show (a1 : Int).toNat ≤ l0.length from by omega)
  replace q14 := eq_true q14; have q15 : ((ji9) : Int) ≤ ((l0.length : Int) : Int) := dT aQ; obtain ⟨i015, hi015, _, hsz15, _⟩ := info_parts info48; have hroom15 : l0.length ≤ co12 := (rR HO0.out).2.1; have hC15 : Kd.C kd_impl_Clue _ Ao12 l0.length l0 := (rR HO0.out).2.2; have q015 : (0 : Int) ≤ ((ji9) : Int) := dT aQ; have hcut15 := cut_from (P := Try.prog) 29 48 .i64 Try.underlying29 hi015 4 hsz15 Ao12 l0.length co12 (ji9) q015 q15; have hr15 := Kd.C_drop (m := ((ji9) : Int).toNat) (c := co12) hC15 (by omega) hroom15
  obtain ⟨A15, hA15⟩ : ∃ A1, A1 = (if co12 = ((ji9) : Int).toNat then Ao12 else (Ao12 : Option Addr).map (·.add (((ji9) : Int).toNat * 4))) := ⟨_, rfl⟩; obtain ⟨c15, hc15⟩ : ∃ c1, c1 = co12 - ((ji9) : Int).toNat := ⟨_, rfl⟩; have hy15 : y230.length = l0.length - ((ji9) : Int).toNat := (by rw [Ny230.out, lD] <;> omega)
  rw [show (l0).drop ((ji9) : Int).toNat = y230 from Ny230.out.symm] at hr15; replace hr15 : Kd.C kd_impl_Clue _ A15 y230.length y230 := (by rw [hA15]; exact hr15)
  rw [← hy15, ← hA15, ← hc15] at hcut15; have HR233 := aM hr15; have HC233 := aM (show y230.length ≤ c15 from by rw [hy15, hc15]; exact Nat.sub_le_sub_right hroom15 _)
  clear hr15 hC15 hroom15 hi015 hsz15 hc15; have KY15 := aM hy15; have KA15 := aM hA15; clear hy15 hA15; have KL15 := aM (show ((ji9) : Int).toNat ≤ l0.length from by omega)
  replace q15 := eq_true q15; obtain ⟨go17, co17, eo17, gb17, gl17, cl17, HG17⟩ := Kd.R_form HO0.out (by have hj_ : 0 ≤ (a1 : Int) := dT aQ; have hl_ : (ji9 : Int) ≤ (l0.length : Int) := dT aQ; have hh_ : (a1 : Int) ≤ (l0.length : Int) := dT aQ; rw [← hji9] at hl_; unfold wrap64 at hl_; omega)
  (first | cases eo17 | (injection eo17 with ea_ en_ ec_; (first | subst ea_ | (injection ea_ with ea_; subst ea_)); subst ec_; clear en_))
  have GB17 := aM gb17; have GG17 := aM HG17; clear gb17 gl17 HG17; have HMgo17 := aM (show (P0_ go17 ∨ w.heap.size ≤ go17) from (HO0.out.1 _ rfl))
  refine start_ (n := 8) (S := fun w' => True) (ds := []) (bA 8 0) kR rfl kR trivial (fun hHeld => ?_); refine with_tabW slices_Delete_impl_Clue.tab5 slices_Delete_impl_Clue.bits5 (fun HT_ HW_ => ?_)
  generalize w.drew = w13 at HO0 HK HB GG17 HR229 HR233 hHeld ⊢
  refine pU 0 20 (bA 8 1) HT_ ?_; refine pU 1 21 (bA 8 3) HT_ ?_; refine pU 2 22 (bA 8 7) HT_ ?_; refine pU 3 23 (bA 8 15) HT_ ?_; refine pU 4 24 (bA 8 31) HT_ ?_; refine pU 5 25 (bA 8 63) HT_ ?_
  refine oU 6 26 (bA 8 127) HT_ (fun K hK => ?_)
  have hj_ : 0 ≤ (a1 : Int) := dT aQ; have hl_ : (ji9 : Int) ≤ (l0.length : Int) := dT aQ; have hh_ : (a1 : Int) ≤ (l0.length : Int) := dT aQ; have hb_ := (rR HO0.out).2.2.2.1; have h0_ : (0 : Int) ≤ (ji9 : Int) := dT aQ; have hy1_ := KY14.out; have hk_ : (ji9 : Int).toNat = y226.length + 1 := (by have hw_ : (ji9 : Int) = a1 + 1 := (by have h00_ := h0_; rw [← hji9] at h00_ ⊢; unfold wrap64 at h00_ ⊢; omega); rw [hw_]; omega)
  refine Kd.R_delete_step kd_impl_Clue (w0 := w0) w0.heap.size (by rfl) (.tmp 22) (.tmp 25) 29 48 rfl Try.underlying29 kR (g := go17) (n := l0.length) (c := co12) (k := y226.length) rfl rfl ?hA ?hm (by (with_reducible repeat (first | apply rA | apply rN | apply rD)); exact HO0.out) ?hk bQ (pZ bQ) ?_
  (case hA => have ha_ := KA15.out; rw [hk_] at ha_; exact ha_)
  (case hm => have ha_ := KY15.out; omega)
  (case hk => omega)
  intro w16 ho hb hg
  clear hj_ hl_ hh_ hb_ hk_ h0_; rw [hy1_, ← Ny234.out] at ho; clear hy1_; have hn_ : l0.length - 1 = y234.length := (by have := (rR ho).1; omega)
  rw [hn_] at ho ⊢; clear hn_; replace HB := aM (hb); replace HK := aM (Kept.of_grown (S := (fun k_ => P0_ k_)) hg (by repeat (first | (with_reducible first | exact HK.out | apply Kept.alloc | apply Kept.drewN | apply Kept.drew) | exact HK.out)) (fun k_ e_ => (HO0.out.1 k_ e_))); replace HO0 := aM (ho)
  clear ho hb hg
  refine hK.out _ _ trivial (fun hHeld => ?_)
  clear hK K
  refine nU ?_
  refine pU 7 0 (bA 8 255) HT_ ?_
  refine done_ (done_of HT_.out kR) ?_
  have hq_ : y234.length ≤ l0.length := by rw [Ny234.out, List.length_eraseIdx]; split <;> omega
  have hlk_ := hlc_.out; have hcf_ := cut_room (P := Try.prog) 29 48 .i64 .i64 Try.underlying29 hi0c_ 4 hszc_ (some ⟨go17, 0, none⟩) y234.length co12 (y234.length : Int) (l0.length : Int) (by omega) (by omega) (by omega)
  obtain ⟨A_c, hA_c⟩ : ∃ A1, A1 = (if co12 = (y234.length : Int).toNat then some ⟨go17, 0, none⟩ else (some (⟨go17, 0, none⟩ : Addr) : Option Addr).map (·.add ((y234.length : Int).toNat * 4))) := ⟨_, rfl⟩; obtain ⟨k_c, hk_c⟩ : ∃ k1, k1 = (l0.length : Int).toNat - (y234.length : Int).toNat := ⟨_, rfl⟩; obtain ⟨c_c, hc_c⟩ : ∃ c1, c1 = co12 - (y234.length : Int).toNat := ⟨_, rfl⟩; rw [← hA_c, ← hk_c, ← hc_c] at hcf_; have KA_ := aM hA_c; have KK_ := aM hk_c; have KL_ := hlc_; have KQ_ := aM hq_; have KY_ := aM (show y234.length = ((y234.length : Nat) : Int).toNat from (Int.toNat_natCast _).symm); clear hA_c hk_c hc_c hlk_ hq_
  go_wp2_with (first | ((with_reducible refine gate_builtin (b := .clear) (xs := #[.tmp 31]) rfl ?_); refine Kd.R_clear_tail kd_impl_Clue (w0 := w0) w0.heap.size rfl (.tmp 31) 29 48 rfl Try.underlying29 (.agg #[(.int .i64 0), (.int .i64 0), (.int .i64 0), (.int .i64 0)]) kR rfl ?h1 (m := y234.length) (m' := (y234.length : Int).toNat) (k := k_c) rfl KA_.out rfl ?hm ?hk (by (with_reducible repeat (first | apply rA | apply rN | apply rD)); exact HO0.out) bQ (pZ bQ) ?_; (case h1 => intro u_ hu_; simp [Value.cells] at hu_; (first | (rcases hu_ with rfl | rfl | rfl | rfl <;> rfl) | (rcases hu_ with rfl | rfl <;> rfl) | (subst hu_; rfl))); (case hm => exact KY_.out); (case hk => have h1_ := KK_.out; have h2_ := KY_.out; have h3_ := KL_.out; have h4_ := KQ_.out; omega); intro wk_ ho hb hg; have n0_ := aM ho; have n1_ := aM hb; have n2_ := aM (Kept.of_grown (S := (fun k_ => P0_ k_)) hg (by repeat (first | (with_reducible first | exact HK.out | apply Kept.alloc | apply Kept.drewN | apply Kept.drew | refine Kept.setCell ?_ (.inr GW1.out) _) | exact HK.out)) (fun k_ e_ => (HO0.out.1 k_ e_))); clear HO0 HB HK; have HO0 := n0_; have HB := n1_; have HK := n2_; clear n0_ n1_ n2_ ho hb hg))
  go_ret
  exact ⟨_, by first | rfl | (simp [errW_none, errW_some] <;> rfl) | (simp only [← hji9]; first | rfl | (simp [errW_none, errW_some] <;> rfl)) | (simp [*, errW_none, errW_some] <;> rfl), by (with_reducible repeat (first | apply rA | apply rN | apply rD)); exact HO0.out, by repeat (first | (with_reducible first | exact HB.out | apply pA | apply pN | apply pD) | exact HB.out), by repeat (first | (with_reducible first | exact HK.out | apply Kept.alloc | apply Kept.drewN | apply Kept.drew) | exact HK.out)⟩
def impl_dropped.f (l0 : List (S_impl_Clue)) (a1 : Int) : Option ((List (S_impl_Clue))) := (slices_Clone_impl_Clue.f l0).bind fun t237 => ((slices_Delete_impl_Clue.f t237 a1 (wrap64 (a1 + 1))).bind fun t240 => (some t240))
set_option maxHeartbeats 8000000 in
set_option maxRecDepth 100000 in
theorem impl_dropped.calls (A0 : Option Addr) (c0 : Nat) (l0 : List (S_impl_Clue)) (a1 : Int) (r : List (S_impl_Clue)) (w : World) (hr0 : Kd.C kd_impl_Clue w A0 l0.length l0) (hc0 : l0.length ≤ c0) (h : impl_dropped.f l0 a1 = some r) :
  Calls Try.prog 69 #[.slice A0 l0.length c0, .int .i64 a1] w fun e w' => ∃ v0_ : Value, e = .returned (v0_) ∧ Kd.R kd_impl_Clue 48 w' w.heap.size (fun _ => True) v0_ r ∧ Below w.heap.size w w' := by
 have HR0 := aM hr0; have HC0 := aM hc0; clear hr0 hc0; have HB := aM (Below.refl w.heap.size w)
 unfold impl_dropped.f at h; have H := h; clear h
 replace H := bS H; obtain ⟨t237, A3, H⟩ := H; replace H := bS H; obtain ⟨t240, A4, H⟩ := H; obtain rfl := Option.some.inj H
 go_enter Try.func69, Try.ntmps69
 go_wp2_with (first | ((with_reducible refine gC (f := 68) rfl ?_); refine goesL_ (some 6) rfl rfl Try.func68 kR rfl #[.slice A0 l0.length c0] rfl sQ ?_; (with_reducible refine (slices_Clone_impl_Clue.calls _ _ l0 t237 _ ?side1 ?side2 A3.out).mono ?_); (case side1 => repeat (first | exact HR0.out | (with_reducible refine cA ?_ _) | (with_reducible refine cN ?_ _) | (with_reducible refine cD ?_))); (case side2 => exact HC0.out); rintro e w5 ⟨v238, rfl, ho0, hb⟩; refine ⟨_, rfl, ?_⟩; have HO239 := aM (Kd.R_lower ho0 (pZ bQ)); replace HB := tB HB hb; (try clear hb); (try clear hb2); (try clear hk); (try clear hi); (try clear ho0); obtain ⟨Ao6, co6, eo6⟩ := Kd.R_slice HO239.out; subst eo6) | ((with_reducible refine gC (f := 97) rfl ?_); refine goesL_ (some 10) rfl rfl Try.func97 kR rfl #[.slice Ao6 t237.length co6, .int .i64 a1, .int .i64 (wrap64 (a1 + 1))] rfl sQ ?_; (with_reducible refine (slices_Delete_impl_Clue.calls (fun k_ => some k_ = (.slice Ao6 t237.length co6 : Value).ownBlock) (.slice Ao6 t237.length co6) t237 a1 (wrap64 (a1 + 1)) t240 w _ ?side1 ?side2 A4.out).mono ?_); (case side1 => repeat (first | (with_reducible first | exact HB.out | apply pA | apply pN | apply pD) | exact HB.out)); (case side2 => exact Kd.R_tight rfl HO239.out); rintro e w7 ⟨v241, rfl, ho0, hb, hkp⟩; refine ⟨_, rfl, ?_⟩; have n0_ := aM (Kd.R_mono (ok' := fun k_ => True) ho0 (fun k_ hk_ => trivial)); have n1_ := aM (hb); clear HB; clear HO239; have HO242 := n0_; have HB := n1_; clear n0_ n1_; (try clear hb); (try clear hkp); (try clear ho0)))
 go_ret
 exact ⟨_, by first | rfl | (simp [errW_none, errW_some] <;> rfl) | (simp [*, errW_none, errW_some] <;> rfl), by (with_reducible repeat (first | apply rA | apply rN | apply rD)); exact HO242.out, bQ⟩

mutual
def impl_HarderPuzzle.j0 : Nat → Bool → Int → List (S_impl_Clue) → Option (Int × (List (S_impl_Clue)) × Bool)
 | 0, _, _, _ => none
 | k + 1, x16, x244000, x244001 => if x16 = true then (some (0, ([] : List (S_impl_Clue)), false)) else ((slices_Clone_impl_Clue.f x244001).bind fun t247 => (impl_HarderPuzzle.l0 k t247 0 x244000 x244001))
def impl_HarderPuzzle.l0 : Nat → List (S_impl_Clue) → Int → Int → List (S_impl_Clue) → Option (Int × (List (S_impl_Clue)) × Bool)
 | 0, _, _, _, _ => none
 | k + 1, x4, x5, x244000, x244001 => if x5 < (x4.length : Int) then ((impl_dropped.f x4 x5).bind fun t250 => ((impl_Puzzle_isSolved.f k x244000 x244001 t250).bind fun t253 => (if t253 = true then (impl_HarderPuzzle.l0 k t250 x5 x244000 x244001) else (impl_HarderPuzzle.l0 k x4 (wrap64 (x5 + 1)) x244000 x244001)))) else (some (x244000, x4, true))
end
def impl_HarderPuzzle.f (k : Nat) (a0_0 : Int) (l0_1 : List (S_impl_Clue)) : Option (Int × (List (S_impl_Clue)) × Bool) := (impl_IsPuzzle.f k a0_0 l0_1).bind fun t245 => (if t245 = true then ((impl_Puzzle_isSolved.f k a0_0 l0_1 l0_1).bind fun t246 => (impl_HarderPuzzle.j0 k (!t246) a0_0 l0_1)) else (impl_HarderPuzzle.j0 k true a0_0 l0_1))
theorem impl_HarderPuzzle.mono_l : ∀ k, (∀ y0 y1 y2, LeO (impl_HarderPuzzle.j0 k y0 y1 y2) (impl_HarderPuzzle.j0 (k + 1) y0 y1 y2)) ∧ (∀ y0 y1 y2 y3, LeO (impl_HarderPuzzle.l0 k y0 y1 y2 y3) (impl_HarderPuzzle.l0 (k + 1) y0 y1 y2 y3))
 | 0 => ⟨fun _ _ _ r h => by simp [impl_HarderPuzzle.j0] at h, fun _ _ _ _ r h => by simp [impl_HarderPuzzle.l0] at h⟩
 | k + 1 => by
  obtain ⟨ih0, ih1⟩ := impl_HarderPuzzle.mono_l k
  refine ⟨?_, ?_⟩ <;> intros <;> (first | unfold impl_HarderPuzzle.j0 | unfold impl_HarderPuzzle.l0) <;> repeat' first | (with_reducible exact ih0 _ _ _) | (with_reducible exact ih1 _ _ _ _) | (with_reducible exact impl_IsPuzzle.mono _ _ _) | (with_reducible exact impl_Puzzle_isSolved.mono _ _ _ _) | (with_reducible exact LeO.refl _) | (with_reducible exact LeO.none _) | (with_reducible refine LeO.ite ?_ ?_) | (with_reducible refine LeO.bind ?_ (fun _ => ?_)) | exact ih0 _ _ _ | exact ih1 _ _ _ _ | exact impl_IsPuzzle.mono _ _ _ | exact impl_Puzzle_isSolved.mono _ _ _ _ | exact LeO.none _ | refine LeO.ite ?_ ?_ | refine LeO.bind ?_ (fun _ => ?_)
theorem impl_HarderPuzzle.mono : ∀ a0 a1 k, LeO (impl_HarderPuzzle.f k a0 a1) (impl_HarderPuzzle.f (k + 1) a0 a1) := by
 intro a0 a1 k
 obtain ⟨ih0, ih1⟩ := impl_HarderPuzzle.mono_l k
 unfold impl_HarderPuzzle.f
 repeat' first | (with_reducible exact ih0 _ _ _) | (with_reducible exact ih1 _ _ _ _) | (with_reducible exact impl_IsPuzzle.mono _ _ _) | (with_reducible exact impl_Puzzle_isSolved.mono _ _ _ _) | (with_reducible exact LeO.refl _) | (with_reducible exact LeO.none _) | (with_reducible refine LeO.ite ?_ ?_) | (with_reducible refine LeO.bind ?_ (fun _ => ?_)) | exact ih0 _ _ _ | exact ih1 _ _ _ _ | exact impl_IsPuzzle.mono _ _ _ | exact impl_Puzzle_isSolved.mono _ _ _ _ | exact LeO.none _ | refine LeO.ite ?_ ?_ | refine LeO.bind ?_ (fun _ => ?_)
set_option maxHeartbeats 8000000 in
set_option maxRecDepth 100000 in
theorem impl_HarderPuzzle.calls (k : Nat) (a0_0 : Int) (A0_1 : Option Addr) (c0_1 : Nat) (l0_1 : List (S_impl_Clue)) (r1 : Int) (r2 : List (S_impl_Clue)) (r3 : Bool) (w : World) (hr0_1 : Kd.C kd_impl_Clue w A0_1 l0_1.length l0_1) (hc0_1 : l0_1.length ≤ c0_1) (h : impl_HarderPuzzle.f k a0_0 l0_1 = some (r1, r2, r3)) :
  Calls Try.prog 22 #[.agg #[.int .i64 a0_0, .slice A0_1 l0_1.length c0_1]] w fun e w' => ∃ v1_ : Value, e = .returned (.tuple #[.agg #[.int .i64 r1, v1_], .bool r3]) ∧ Kd.R kd_impl_Clue 48 w' w.heap.size (fun _ => True) v1_ r2 ∧ Below w.heap.size w w' := by
 have hu31 := Try.underlying31; have HR0_1 := aM hr0_1; have HC0_1 := aM hc0_1; clear hr0_1 hc0_1; have HB := aM (Below.refl w.heap.size w)
 unfold impl_HarderPuzzle.f at h; have H := h; clear h
 have HC2 := aM H; clear H
 go_enter Try.func22, Try.ntmps22
 go_upto_region 1 with (first | ((with_reducible refine gate_dst (N := 1) rfl ?_); refine bV 1 (cs := #[.int .i64 a0_0, .slice A0_1 l0_1.length c0_1]) (t := 31) rfl rfl (by first | (go_simp; done) | (go_simp; rfl)) ?_; intro gb243 hg w3 hbox hb; have BK243 := hbox; have GW243 := gZ HB hg; have GE243 := gZ HB hg; replace HB := tB HB hb; clear hb hbox hg) | ((with_reducible refine gate_dst (N := 2) rfl ?_); refine bV 2 (cs := #[.int .i64 0, .slice none 0 0]) (t := 31) rfl rfl (by first | (go_simp; done) | (go_simp; rfl)) ?_; intro gb244 hg w4 hbox hb; have BK244 := hbox; have GW244 := gZ HB hg; have GE244 := gZ HB hg; have NB243_244 := nG BK243 hg; have NB244_243 := nH BK243 hg; replace BK243 := bB BK243 hb; replace HB := tB HB hb; clear hb hbox hg))
 (try simp only [Act.put, sI, sZ, sS])
 go_cut [16] (fun v16 wc => ∃ (kq : Nat) (x16_1 : Bool), v16 = .bool x16_1 ∧ Aside0 (impl_HarderPuzzle.j0 kq x16_1 a0_0 l0_1 = some (r1, r2, r3)) ∧ Aside0 (kq ≤ k) ∧ Aside0 (wc.heap[gb243]? = some (.cells #[.int .i64 a0_0, (.slice A0_1 l0_1.length c0_1)] 31 (0, 0))) ∧ Aside0 (wc.heap[gb244]? = some (.cells #[.int .i64 0, (.slice none 0 0)] 31 (0, 0))) ∧ Aside0 (Below w.heap.size w wc))
 case first =>
  have H := HC2.out; clear HC2; replace H := bS H; obtain ⟨t245, A5, H⟩ := H
  by_cases c6 : t245 = true
  ·subst c6; replace H := iT H; replace H := bS H; obtain ⟨t246, A7, H⟩ := H; have H' := aM H; clear H; have hnb8 := NB243_244.out; have hnc8 := NB244_243.out; have hcz9_0 := vZ0 BK243; have hcz9_1 := vZ1 BK243; have hfz9_0 := kF BK243.out 0; have hfz9_1 := kF BK243.out 1
   go_wp2_with (first | ((with_reducible refine gC (f := 19) rfl ?_); refine goesL_ (some 8) rfl rfl Try.func19 kR rfl #[.agg #[.int .i64 a0_0, .slice A0_1 l0_1.length c0_1]] rfl sQ ?_; (with_reducible refine (impl_IsPuzzle.calls k a0_0 _ _ l0_1 true _ ?side1 ?side2 A5.out).mono ?_); (case side1 => repeat (first | exact (Kd.C_below HR0_1.out HB.out) | (with_reducible refine cA ?_ _) | (with_reducible refine cN ?_ _) | (with_reducible refine cD ?_))); (case side2 => exact HC0_1.out); rintro e w10 ⟨rfl, hb⟩; refine ⟨_, rfl, ?_⟩; replace BK243 := bB BK243 hb; replace BK244 := bB BK244 hb; replace HB := tB HB hb; (try clear hb); (try clear hb2); (try clear hk); (try clear hi); have hcz11_0 := vZ0 BK243; have hcz11_1 := vZ1 BK243; have hfz11_0 := kF BK243.out 0; have hfz11_1 := kF BK243.out 1) | (go_at_call 67; (with_reducible refine (impl_Puzzle_isSolved.calls k a0_0 _ _ l0_1 _ _ l0_1 t246 _ ?side1 ?side2 ?side3 ?side4 A7.out).mono ?_); (case side1 => repeat (first | exact (Kd.C_below HR0_1.out HB.out) | (with_reducible refine cA ?_ _) | (with_reducible refine cN ?_ _) | (with_reducible refine cD ?_))); (case side2 => exact HC0_1.out); (case side3 => repeat (first | exact (Kd.C_below HR0_1.out HB.out) | (with_reducible refine cA ?_ _) | (with_reducible refine cN ?_ _) | (with_reducible refine cD ?_))); (case side4 => exact HC0_1.out); rintro e w12 ⟨rfl, hb⟩; replace BK243 := bB BK243 hb; replace BK244 := bB BK244 hb; replace HB := tB HB hb; (try clear hb); (try clear hb2); (try clear hk); (try clear hi)))
   go_meet
   case rel => exact ⟨_, (!t246), eQ, H', ⟨by first | omega | exact Nat.le_refl _⟩, ⟨gQ BK243⟩, ⟨gQ BK244⟩, ⟨bE⟩⟩
  ·replace c6 := Bool.eq_false_iff.mpr c6; subst c6; replace H := iF H; have H' := aM H; clear H; have hnb13 := NB243_244.out; have hnc13 := NB244_243.out; have hcz14_0 := vZ0 BK243; have hcz14_1 := vZ1 BK243; have hfz14_0 := kF BK243.out 0; have hfz14_1 := kF BK243.out 1
   go_wp2_with (first | ((with_reducible refine gC (f := 19) rfl ?_); refine goesL_ (some 8) rfl rfl Try.func19 kR rfl #[.agg #[.int .i64 a0_0, .slice A0_1 l0_1.length c0_1]] rfl sQ ?_; (with_reducible refine (impl_IsPuzzle.calls k a0_0 _ _ l0_1 false _ ?side1 ?side2 A5.out).mono ?_); (case side1 => repeat (first | exact (Kd.C_below HR0_1.out HB.out) | (with_reducible refine cA ?_ _) | (with_reducible refine cN ?_ _) | (with_reducible refine cD ?_))); (case side2 => exact HC0_1.out); rintro e w15 ⟨rfl, hb⟩; refine ⟨_, rfl, ?_⟩; replace BK243 := bB BK243 hb; replace BK244 := bB BK244 hb; replace HB := tB HB hb; (try clear hb); (try clear hb2); (try clear hk); (try clear hi)))
   go_meet
   case rel => exact ⟨_, (true), eQ, H', ⟨by first | omega | exact Nat.le_refl _⟩, ⟨gQ BK243⟩, ⟨gQ BK244⟩, ⟨bE⟩⟩
 case rest =>
  clear HC2; obtain ⟨kq, x16_1, rfl, HA, HJ1, BK243, BK244, HB⟩ := hcut
  cases kq with
  | zero => exact absurd HA.out (by simp [impl_HarderPuzzle.j0])
  | succ kj1 =>
   have H := HA.out; clear HA
   simp only [impl_HarderPuzzle.j0] at H
   by_cases c16 : x16_1 = true
   ·subst c16; replace H := iT H
    simp only [Option.some.injEq, Prod.mk.injEq] at H
    obtain ⟨rfl, rfl, rfl⟩ := H; have hnb17 := NB244_243.out; have hnc17 := NB243_244.out; have hcz18_0 : wc.cell? ⟨gb244, 0, none⟩ = some (.int .i64 0) := vZ0 BK244; have hcz18_1 : wc.cell? ⟨gb244, 1, none⟩ = some (.slice none 0 0) := vZ1 BK244; have hfz18_0 := kF BK244.out 0; have hfz18_1 := kF BK244.out 1; go_wp2
    refine bodyPost_ret (results_ct rfl _ _ gb244 31 #[.int .i64 0, .slice none 0 0] (0, 0) _ rfl (fQ BK244) Try.underlying31 rfl kR) rfl ?_
    exact ⟨_, by first | rfl | (simp [errW_none, errW_some] <;> rfl) | (simp [*, errW_none, errW_some] <;> rfl), by first | exact Kd.R_nil _ _ _ _ _ | exact Kd.N_nil _ _ _ _ _ | exact Kd.V_nil _ _ _ _ _ | exact Kd.Q_nil _ _ _ _ _ | exact Kd.S_nil _ _ _ _ _, bE⟩
   ·replace c16 := Bool.eq_false_iff.mpr c16; subst c16; replace H := iF H; replace H := bS H; obtain ⟨t247, A19, H⟩ := H; have H' := aM H; clear H; have hnb20 := NB243_244.out; have hnc20 := NB244_243.out; have hcz21_0 : wc.cell? ⟨gb243, 0, none⟩ = some (.int .i64 a0_0) := vZ0 BK243; have hcz21_1 : wc.cell? ⟨gb243, 1, none⟩ = some (.slice A0_1 l0_1.length c0_1) := vZ1 BK243; have hfz21_0 := kF BK243.out 0; have hfz21_1 := kF BK243.out 1
    go_wp2_with (first | ((with_reducible refine gC (f := 68) rfl ?_); refine goesL_ (some 20) rfl rfl Try.func68 kR rfl #[.slice A0_1 l0_1.length c0_1] rfl sQ ?_; (with_reducible refine (slices_Clone_impl_Clue.calls _ _ l0_1 t247 _ ?side1 ?side2 A19.out).mono ?_); (case side1 => repeat (first | exact (Kd.C_below HR0_1.out HB.out) | (with_reducible refine cA ?_ _) | (with_reducible refine cN ?_ _) | (with_reducible refine cD ?_))); (case side2 => exact HC0_1.out); rintro e w22 ⟨v248, rfl, ho0, hb⟩; refine ⟨_, rfl, ?_⟩; have HO249 := aM (Kd.R_lower ho0 (pZ bE)); replace BK243 := bB BK243 hb; replace BK244 := bB BK244 hb; replace HB := tB HB hb; (try clear hb); (try clear hb2); (try clear hk); (try clear hi); (try clear ho0)))
    go_loopg [4, 5] kj1 (fun kq v4 v5 w' => ∃ (x4_2 : List (S_impl_Clue)) (x5_2 : Int), v5 = .int .i64 x5_2 ∧ Aside0 (impl_HarderPuzzle.l0 kq x4_2 x5_2 a0_0 l0_1 = some (r1, r2, r3)) ∧ Aside0 (kq ≤ kj1) ∧ Aside0 (Kd.R kd_impl_Clue 48 w' w.heap.size (fun _ => True) v4 x4_2) ∧ Aside0 (w'.heap[gb243]? = some (.cells #[.int .i64 a0_0, (.slice A0_1 l0_1.length c0_1)] 31 (0, 0))) ∧ Aside0 (w'.heap[gb244]? = some (.cells #[.int .i64 0, (.slice none 0 0)] 31 (0, 0))) ∧ Aside0 (Below w.heap.size w w'))
    case atStart => exact ⟨(t247), (0), eQ, H', ⟨Nat.le_refl _⟩, ⟨by (with_reducible repeat (first | apply rA | apply rN | apply rD)); exact HO249.out⟩, ⟨gQ BK243⟩, ⟨gQ BK244⟩, ⟨bE⟩⟩
    case round =>
     clear H'; (try clear c16); (try clear hcz18_0); (try clear hcz18_1); (try clear hcz21_0); (try clear hcz21_1); (try clear hfz18_0); (try clear hfz18_1); (try clear hfz21_0); (try clear hfz21_1); obtain ⟨x4_2, x5_2, rfl, HA, HK2, HO_4, BK243, BK244, HB⟩ := hrel
     cases gk with
     | zero => exact absurd HA.out (by simp [impl_HarderPuzzle.l0])
     | succ k2 =>
      have H := HA.out; clear HA
      simp only [impl_HarderPuzzle.l0] at H
      by_cases c23 : x5_2 < (x4_2.length : Int)
      ·rw [if_pos c23] at H; have c23b0 := dE c23; clear c23; replace H := bS H; obtain ⟨t250, A24, H⟩ := H; replace H := bS H; obtain ⟨t253, A25, H⟩ := H
       by_cases c26 : t253 = true
       ·subst c26; replace H := iT H; have H' := aM H; clear H; obtain ⟨Ao27, co27, eo27⟩ := Kd.R_slice HO_4.out; subst eo27
        go_wp2_with (first | ((with_reducible refine gC (f := 69) rfl ?_); refine goesL_ (some 27) rfl rfl Try.func69 kR rfl #[.slice Ao27 x4_2.length co27, .int .i64 x5_2] rfl sQ ?_; (with_reducible refine (impl_dropped.calls _ _ x4_2 x5_2 t250 _ ?side1 ?side2 A24.out).mono ?_); (case side1 => repeat (first | exact (rR HO_4.out).2.2 | (with_reducible refine cA ?_ _) | (with_reducible refine cN ?_ _) | (with_reducible refine cD ?_))); (case side2 => exact (rR HO_4.out).2.1); rintro e w28 ⟨v251, rfl, ho0, hb⟩; refine ⟨_, rfl, ?_⟩; have HO252 := aM (Kd.R_lower (Kd.R_new' ho0 (Kd.R_lt (by (with_reducible repeat (first | apply rA | apply rN | apply rD)); exact HO_4.out))) (pZ bE)); replace HO_4 := aM (Kd.R_elder' (by (with_reducible repeat (first | apply rA | apply rN | apply rD)); exact HO_4.out) (Kd.R_base ho0) hb); replace BK243 := bB BK243 hb; replace BK244 := bB BK244 hb; replace HB := tB HB hb; (try clear hb); (try clear hb2); (try clear hk); (try clear hi); (try clear ho0); have hnb29 := NB243_244.out; have hnc29 := NB244_243.out; have hcz30_0 := vZ0 BK243; have hcz30_1 := vZ1 BK243; have hfz30_0 := kF BK243.out 0; have hfz30_1 := kF BK243.out 1; obtain ⟨Ao31, co31, eo31⟩ := Kd.R_slice HO252.out; subst eo31) | ((with_reducible refine gC (f := 67) rfl ?_); refine goesL_ (some 30) rfl rfl Try.func67 kR rfl #[.agg #[.int .i64 a0_0, .slice A0_1 l0_1.length c0_1], .slice Ao31 t250.length co31] rfl sQ ?_; (with_reducible refine (impl_Puzzle_isSolved.calls k2 a0_0 _ _ l0_1 _ _ t250 true _ ?side1 ?side2 ?side3 ?side4 A25.out).mono ?_); (case side1 => repeat (first | exact (Kd.C_below HR0_1.out HB.out) | (with_reducible refine cA ?_ _) | (with_reducible refine cN ?_ _) | (with_reducible refine cD ?_))); (case side2 => exact HC0_1.out); (case side3 => repeat (first | exact (rR HO252.out).2.2 | (with_reducible refine cA ?_ _) | (with_reducible refine cN ?_ _) | (with_reducible refine cD ?_))); (case side4 => exact (rR HO252.out).2.1); rintro e w32 ⟨rfl, hb⟩; refine ⟨_, rfl, ?_⟩; replace HO_4 := aM (Kd.R_below (by (with_reducible repeat (first | apply rA | apply rN | apply rD)); exact HO_4.out) hb); replace HO252 := aM (Kd.R_below (by (with_reducible repeat (first | apply rA | apply rN | apply rD)); exact HO252.out) hb); replace BK243 := bB BK243 hb; replace BK244 := bB BK244 hb; replace HB := tB HB hb; (try clear hb); (try clear hb2); (try clear hk); (try clear hi)))
        go_roundg k2
        case measure => have := HJ1.out; have := HK2.out; omega
        case rel => exact ⟨(t250), (x5_2), eQ, H', ⟨by have := HJ1.out; have := HK2.out; omega⟩, ⟨by (with_reducible repeat (first | apply rA | apply rN | apply rD)); exact Kd.R_mono HO252.out (fun _ hk => trivial)⟩, ⟨gQ BK243⟩, ⟨gQ BK244⟩, ⟨bE⟩⟩
       ·replace c26 := Bool.eq_false_iff.mpr c26; subst c26; replace H := iF H; have H' := aM H; clear H; obtain ⟨Ao33, co33, eo33⟩ := Kd.R_slice HO_4.out; subst eo33
        go_wp2_with (first | ((with_reducible refine gC (f := 69) rfl ?_); refine goesL_ (some 27) rfl rfl Try.func69 kR rfl #[.slice Ao33 x4_2.length co33, .int .i64 x5_2] rfl sQ ?_; (with_reducible refine (impl_dropped.calls _ _ x4_2 x5_2 t250 _ ?side1 ?side2 A24.out).mono ?_); (case side1 => repeat (first | exact (rR HO_4.out).2.2 | (with_reducible refine cA ?_ _) | (with_reducible refine cN ?_ _) | (with_reducible refine cD ?_))); (case side2 => exact (rR HO_4.out).2.1); rintro e w34 ⟨v251, rfl, ho0, hb⟩; refine ⟨_, rfl, ?_⟩; have HO252 := aM (Kd.R_lower (Kd.R_new' ho0 (Kd.R_lt (by (with_reducible repeat (first | apply rA | apply rN | apply rD)); exact HO_4.out))) (pZ bE)); replace HO_4 := aM (Kd.R_elder' (by (with_reducible repeat (first | apply rA | apply rN | apply rD)); exact HO_4.out) (Kd.R_base ho0) hb); replace BK243 := bB BK243 hb; replace BK244 := bB BK244 hb; replace HB := tB HB hb; (try clear hb); (try clear hb2); (try clear hk); (try clear hi); (try clear ho0); have hnb35 := NB243_244.out; have hnc35 := NB244_243.out; have hcz36_0 := vZ0 BK243; have hcz36_1 := vZ1 BK243; have hfz36_0 := kF BK243.out 0; have hfz36_1 := kF BK243.out 1; obtain ⟨Ao37, co37, eo37⟩ := Kd.R_slice HO252.out; subst eo37) | ((with_reducible refine gC (f := 67) rfl ?_); refine goesL_ (some 30) rfl rfl Try.func67 kR rfl #[.agg #[.int .i64 a0_0, .slice A0_1 l0_1.length c0_1], .slice Ao37 t250.length co37] rfl sQ ?_; (with_reducible refine (impl_Puzzle_isSolved.calls k2 a0_0 _ _ l0_1 _ _ t250 false _ ?side1 ?side2 ?side3 ?side4 A25.out).mono ?_); (case side1 => repeat (first | exact (Kd.C_below HR0_1.out HB.out) | (with_reducible refine cA ?_ _) | (with_reducible refine cN ?_ _) | (with_reducible refine cD ?_))); (case side2 => exact HC0_1.out); (case side3 => repeat (first | exact (rR HO252.out).2.2 | (with_reducible refine cA ?_ _) | (with_reducible refine cN ?_ _) | (with_reducible refine cD ?_))); (case side4 => exact (rR HO252.out).2.1); rintro e w38 ⟨rfl, hb⟩; refine ⟨_, rfl, ?_⟩; replace HO_4 := aM (Kd.R_below (by (with_reducible repeat (first | apply rA | apply rN | apply rD)); exact HO_4.out) hb); replace HO252 := aM (Kd.R_below (by (with_reducible repeat (first | apply rA | apply rN | apply rD)); exact HO252.out) hb); replace BK243 := bB BK243 hb; replace BK244 := bB BK244 hb; replace HB := tB HB hb; (try clear hb); (try clear hb2); (try clear hk); (try clear hi)))
        go_roundg k2
        case measure => have := HJ1.out; have := HK2.out; omega
        case rel => exact ⟨(x4_2), (wrap64 (x5_2 + 1)), eQ, H', ⟨by have := HJ1.out; have := HK2.out; omega⟩, ⟨by (with_reducible repeat (first | apply rA | apply rN | apply rD)); exact Kd.R_mono HO_4.out (fun _ hk => trivial)⟩, ⟨gQ BK243⟩, ⟨gQ BK244⟩, ⟨bE⟩⟩
      ·rw [if_neg c23] at H; have c23b0 := decide_eq_false c23; clear c23
       simp only [Option.some.injEq, Prod.mk.injEq] at H
       obtain ⟨rfl, rfl, rfl⟩ := H; obtain ⟨Ao39, co39, eo39⟩ := Kd.R_slice HO_4.out; subst eo39; have hnb40 := NB243_244.out; have hnc40 := NB244_243.out; have hcz41_0 : wr.cell? ⟨gb243, 0, none⟩ = some (.int .i64 a0_0) := vZ0 BK243; have hcz41_1 : wr.cell? ⟨gb243, 1, none⟩ = some (.slice A0_1 l0_1.length c0_1) := vZ1 BK243; have hfz41_0 := kF BK243.out 0; have hfz41_1 := kF BK243.out 1; have hcz42_0 : wr.cell? ⟨gb244, 0, none⟩ = some (.int .i64 0) := vZ0 BK244; have hcz42_1 : wr.cell? ⟨gb244, 1, none⟩ = some (.slice none 0 0) := vZ1 BK244; have hfz42_0 := kF BK244.out 0; have hfz42_1 := kF BK244.out 1; go_wp2
       refine bodyPost_ret (results_ct rfl _ _ gb244 31 #[.int .i64 a0_0, .slice Ao39 x4_2.length co39] (0, 0) _ rfl (fQ BK244) Try.underlying31 rfl kR) rfl ?_
       exact ⟨_, by first | rfl | (simp [errW_none, errW_some] <;> rfl) | (simp [*, errW_none, errW_some] <;> rfl), by (with_reducible repeat (first | apply rA | apply rN | apply rD)); exact Kd.R_mono (Kd.R_far (p := ⟨gb244, 1, none⟩) (Kd.R_far (p := ⟨gb244, 0, none⟩) (Kd.R_types HO_4.out BK244.out (by decide)) (fun _ hk => hk.2) (.int .i64 a0_0)) (fun _ hk => hk.2) (.slice Ao39 x4_2.length co39)) (fun _ hk => trivial), bE⟩

end Go.Proofs.Ytoeclfihlhmnpaa.X
