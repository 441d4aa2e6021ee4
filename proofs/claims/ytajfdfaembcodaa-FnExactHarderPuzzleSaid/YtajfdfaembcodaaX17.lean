-- thin
-- short
-- compact
import Derived.Test.YtajfdfaembcodaaXA
import Derived.Test.YtajfdfaembcodaaX0
import Derived.Test.YtajfdfaembcodaaX16
import Derived.Test.YtajfdfaembcodaaXW3
namespace Go.Proofs.Ytajfdfaembcodaa.X
open Go.RowKit Go.Proofs.Ytajfdfaembcodaa.XW Go.Proofs.YtajfdfaembcodaaW.PrintWords Go.Proofs.YtajfdfaembcodaaW.PrintLast Go.Proofs.YtajfdfaembcodaaW.PrintMore
attribute [local go_sem] max2_int min2_int max_two min_two max_three min_three max_four min_four   -- for this text's walks alone
set_option linter.unusedVariables false
set_option linter.unusedSimpArgs false

def slices_Delete_impl_Clue.f (l0 : List (S_impl_Clue)) (a1 : Int) (a2 : Int) : Option ((List (S_impl_Clue))) := if a2 = wrap64 (a1 + 1) then (if a1 = (wrap64 (a1 + 1)) then (some l0) else (if 0 ≤ a1 then (if a1 ≤ (l0.length : Int) then (if 0 ≤ (wrap64 (a1 + 1)) then (if (wrap64 (a1 + 1)) ≤ (l0.length : Int) then (some (l0.eraseIdx (a1 : Int).toNat)) else (none)) else (none)) else (none)) else (none))) else (none)
def slices_Delete_impl_Clue.T5 : Bool × List (List Nat × List Nat) := (true, [([], []), ([], []), ([0, 1], [0, 1]), ([], []), ([], []), ([3, 4], [3, 4]), ([2, 5], [2, 5]), ([6, 6, 0, 1, 2, 3, 4, 5, 6], [0, 3, 6])])
def slices_Delete_impl_Clue.B5 : List Nat := [0, 0, 3, 0, 0, 24, 63, 127]
theorem slices_Delete_impl_Clue.tab5 : rtab .any (opsOf Try.f56 5) = slices_Delete_impl_Clue.T5 := by kernel_rfl
theorem slices_Delete_impl_Clue.bits5 : waitsOk slices_Delete_impl_Clue.T5.2 slices_Delete_impl_Clue.B5 = true := by kernel_rfl
set_option maxHeartbeats 8000000 in
set_option maxRecDepth 100000 in
theorem slices_Delete_impl_Clue.calls (P0_ : Nat → Prop) (u9000_ : Value) (l0 : List (S_impl_Clue)) (a1 : Int) (a2 : Int) (r : List (S_impl_Clue)) (w0 w : World) (hB : Below w0.heap.size w0 w) (ho0 : Kd.R kd_impl_Clue 61 w w0.heap.size P0_ u9000_ l0) (h : slices_Delete_impl_Clue.f l0 a1 a2 = some r) :
  Calls Try.prog 56 #[u9000_, .int .i64 a1, .int .i64 a2] w fun e w' => ∃ v0_ : Value, e = .returned (v0_) ∧ Kd.R kd_impl_Clue 61 w' w0.heap.size (fun k_ => (P0_ k_ ∨ w.heap.size ≤ k_)) v0_ r ∧ Below w0.heap.size w0 w' ∧ Kept w w' (fun k_ => P0_ k_) := by
 have HO0 := aM (show Kd.R kd_impl_Clue 61 w w0.heap.size (fun k_ => (P0_ k_ ∨ w.heap.size ≤ k_)) u9000_ l0 from Kd.R_mono ho0 (fun k_ hk => (.inl hk))); have HK := aM (Kept.refl w (fun k_ => P0_ k_)); have HW0 := aM hB.size; have HB := aM hB; clear hB
 unfold slices_Delete_impl_Clue.f at h; have H := h; clear h
 replace H := iN H; obtain ⟨c4, H⟩ := H; subst c4
 skip
 skip
 by_cases c5 : a1 = (wrap64 (a1 + 1))
 ·exact absurd c5 (by unfold wrap64; omega)
 ·rw [if_neg c5] at H; have c5b0 : (a1 == (wrap64 (a1 + 1))) = false := beq_eq_false_iff_ne.mpr c5; have c5b1 : (a1 != (wrap64 (a1 + 1))) = true := bne_iff_ne.mpr c5; replace H := iN H; obtain ⟨c7, H⟩ := H; have c7b0 := eq_true c7; have c7b1 := dE c7; clear c7; replace H := iN H; obtain ⟨c8, H⟩ := H; have c8b0 := eq_true c8; have c8b1 := dE c8; clear c8; obtain ⟨y432, hy432⟩ : ∃ y_ : List (S_impl_Clue), y_ = (l0.take (a1 : Int).toNat) := ⟨_, rfl⟩; have Ny432 := aM hy432; clear hy432; obtain ⟨ji9, hji9⟩ : ∃ j_ : Int, (wrap64 (a1 + 1)) = j_ := ⟨_, rfl⟩; rw [hji9]; replace H : (if 0 ≤ (ji9) then (if (ji9) ≤ (l0.length : Int) then (some (l0.eraseIdx (a1 : Int).toNat)) else (none)) else (none)) = some r := by first | (rw [hji9] at H; exact H) | (simp only [hji9] at H ⊢; exact H)
  (try rw [hji9] at c4b0)
  (try rw [hji9] at c4b1)
  (try rw [hji9] at c5b0)
  (try rw [hji9] at c5b1)
  have hji9w : (IntKind.i64.wrap (a1 + 1)) = ji9 := (i64_w _).trans hji9; replace H := iN H; obtain ⟨c10, H⟩ := H; have c10b0 := eq_true c10; have c10b1 := dE c10; clear c10; replace H := iN H; obtain ⟨c11, H⟩ := H; have c11b0 := eq_true c11; have c11b1 := dE c11; clear c11; obtain ⟨y436, hy436⟩ : ∃ y_ : List (S_impl_Clue), y_ = (l0.drop ((ji9) : Int).toNat) := ⟨_, rfl⟩; have Ny436 := aM hy436; clear hy436; obtain ⟨y440, hy440⟩ : ∃ y_ : List (S_impl_Clue), y_ = (l0.eraseIdx (a1 : Int).toNat) := ⟨_, rfl⟩; rw [← hy440] at H; have Ny440 := aM hy440; clear hy440; obtain rfl := Option.some.inj H; obtain ⟨Ao12, co12, eo12⟩ := Kd.R_slice HO0.out; subst eo12; have hlc_ := aM (rR HO0.out).2.1; obtain ⟨i0c_, hi0c_, _, hszc_, _⟩ := info_parts info61; have h1_ : (0 : Int) ≤ a1 := (dT aQ); have h2_ : (ji9 : Int) ≤ (l0.length : Int) := (dT aQ); have h4_ : a1 ≤ (l0.length : Int) := (dT aQ); have h5_ := (rR HO0.out).2.2.2.1; have h6_ : (0 : Int) ≤ ji9 := (dT aQ); have h3_ : a1 ≤ ji9 := (by have h00_ := hji9; unfold wrap64 at h00_; omega)
  obtain ⟨vm_, hvm_⟩ := cut_max (P := Try.prog) 29 61 .i64 .i64 .i64 Try.underlying29 hi0c_ Ao12 l0.length co12 a1 ji9 (l0.length : Int) h1_ h3_ h2_ (by have := hlc_.out; omega)
  clear h1_ h2_ h3_ h4_ h5_ h6_
  go_enter Try.func56, Try.ntmps56
  try go_wp2
  replace HO0 := aM (rD HO0.out); replace HK := aM (Kept.drew HK.out); replace HB := aM (pD HB.out); have q14 : (a1 : Int) ≤ ((l0.length : Int) : Int) := dT aQ; obtain ⟨i014, hi014, _, hsz14, _⟩ := info_parts info61; have hroom14 : l0.length ≤ co12 := (rR HO0.out).2.1; have hC14 : Kd.C kd_impl_Clue _ Ao12 l0.length l0 := (rR HO0.out).2.2; have hcut14 := cut_to (P := Try.prog) 29 61 .i64 Try.underlying29 hi014 Ao12 l0.length co12 a1 (dT aQ) q14 hroom14; have hr14 := Kd.C_take (m := (a1 : Int).toNat) hC14 (by omega)
  have hy14 : y432.length = (a1 : Int).toNat := (by rw [Ny432.out, lT]; omega)
  rw [← Ny432.out] at hr14; rw [← hy14] at hcut14; have HR435 := aM hr14; have HC435 := aM (show y432.length ≤ co12 from by omega)
  clear hr14 hC14 hroom14 hi014 hsz14; have KY14 := aM hy14; clear hy14; have KL14 := aM (show (a1 : Int).toNat ≤ l0.length from by omega)
  replace q14 := eq_true q14; have q15 : ((ji9) : Int) ≤ ((l0.length : Int) : Int) := dT aQ; obtain ⟨i015, hi015, _, hsz15, _⟩ := info_parts info61; have hroom15 : l0.length ≤ co12 := (rR HO0.out).2.1; have hC15 : Kd.C kd_impl_Clue _ Ao12 l0.length l0 := (rR HO0.out).2.2; have q015 : (0 : Int) ≤ ((ji9) : Int) := dT aQ; have hcut15 := cut_from (P := Try.prog) 29 61 .i64 Try.underlying29 hi015 4 hsz15 Ao12 l0.length co12 (ji9) q015 q15; have hr15 := Kd.C_drop (m := ((ji9) : Int).toNat) (c := co12) hC15 (by omega) hroom15
  obtain ⟨A15, hA15⟩ : ∃ A1, A1 = (if co12 = ((ji9) : Int).toNat then Ao12 else (Ao12 : Option Addr).map (·.add (((ji9) : Int).toNat * 4))) := ⟨_, rfl⟩; obtain ⟨c15, hc15⟩ : ∃ c1, c1 = co12 - ((ji9) : Int).toNat := ⟨_, rfl⟩; have hy15 : y436.length = l0.length - ((ji9) : Int).toNat := (by rw [Ny436.out, lD] <;> omega)
  rw [show (l0).drop ((ji9) : Int).toNat = y436 from Ny436.out.symm] at hr15; replace hr15 : Kd.C kd_impl_Clue _ A15 y436.length y436 := (by rw [hA15]; exact hr15)
  rw [← hy15, ← hA15, ← hc15] at hcut15; have HR439 := aM hr15; have HC439 := aM (show y436.length ≤ c15 from by rw [hy15, hc15]; exact Nat.sub_le_sub_right hroom15 _)
  clear hr15 hC15 hroom15 hi015 hsz15 hc15; have KY15 := aM hy15; have KA15 := aM hA15; clear hy15 hA15; have KL15 := aM (show ((ji9) : Int).toNat ≤ l0.length from by omega)
  replace q15 := eq_true q15; obtain ⟨go17, co17, eo17, gb17, gl17, cl17, HG17⟩ := Kd.R_form HO0.out (by have hj_ : 0 ≤ (a1 : Int) := dT aQ; have hl_ : (ji9 : Int) ≤ (l0.length : Int) := dT aQ; have hh_ : (a1 : Int) ≤ (l0.length : Int) := dT aQ; rw [← hji9] at hl_; unfold wrap64 at hl_; omega)
  (first | cases eo17 | (injection eo17 with ea_ en_ ec_; (first | subst ea_ | (injection ea_ with ea_; subst ea_)); subst ec_; clear en_))
  have GB17 := aM gb17; have GG17 := aM HG17; clear gb17 gl17 HG17; have HMgo17 := aM (show (P0_ go17 ∨ w.heap.size ≤ go17) from (HO0.out.1 _ rfl))
  refine start_ (n := 8) (S := fun w' => True) (ds := []) (bA 8 0) kR rfl kR trivial (fun hHeld => ?_); refine with_tabW slices_Delete_impl_Clue.tab5 slices_Delete_impl_Clue.bits5 (fun HT_ HW_ => ?_)
  generalize w.drew = w13 at HO0 HK HB GG17 HR435 HR439 hHeld ⊢
  refine pU 0 20 (bA 8 1) HT_ ?_; refine pU 1 21 (bA 8 3) HT_ ?_; refine pU 2 22 (bA 8 7) HT_ ?_; refine pU 3 23 (bA 8 15) HT_ ?_; refine pU 4 24 (bA 8 31) HT_ ?_; refine pU 5 25 (bA 8 63) HT_ ?_
  refine oU 6 26 (bA 8 127) HT_ (fun K hK => ?_)
  have hj_ : 0 ≤ (a1 : Int) := dT aQ; have hl_ : (ji9 : Int) ≤ (l0.length : Int) := dT aQ; have hh_ : (a1 : Int) ≤ (l0.length : Int) := dT aQ; have hb_ := (rR HO0.out).2.2.2.1; have h0_ : (0 : Int) ≤ (ji9 : Int) := dT aQ; have hy1_ := KY14.out; have hk_ : (ji9 : Int).toNat = y432.length + 1 := (by have hw_ : (ji9 : Int) = a1 + 1 := (by have h00_ := h0_; rw [← hji9] at h00_ ⊢; unfold wrap64 at h00_ ⊢; omega); rw [hw_]; omega)
  refine Kd.R_delete_step kd_impl_Clue (w0 := w0) w0.heap.size (by rfl) (.tmp 22) (.tmp 25) 29 61 rfl Try.underlying29 kR (g := go17) (n := l0.length) (c := co12) (k := y432.length) rfl rfl ?hA ?hm (by (with_reducible repeat (first | apply rA | apply rN | apply rD)); exact HO0.out) ?hk bQ (pZ bQ) ?_
  (case hA => have ha_ := KA15.out; rw [hk_] at ha_; exact ha_)
  (case hm => have ha_ := KY15.out; omega)
  (case hk => omega)
  intro w16 ho hb hg
  clear hj_ hl_ hh_ hb_ hk_ h0_; rw [hy1_, ← Ny440.out] at ho; clear hy1_; have hn_ : l0.length - 1 = y440.length := (by have := (rR ho).1; omega)
  rw [hn_] at ho ⊢; clear hn_; replace HB := aM (hb); replace HK := aM (Kept.of_grown (S := (fun k_ => P0_ k_)) hg (by repeat (first | (with_reducible first | exact HK.out | apply Kept.alloc | apply Kept.drewN | apply Kept.drew) | exact HK.out)) (fun k_ e_ => (HO0.out.1 k_ e_))); replace HO0 := aM (ho)
  clear ho hb hg
  refine hK.out _ _ trivial (fun hHeld => ?_)
  clear hK K
  refine nU ?_
  refine pU 7 0 (bA 8 255) HT_ ?_
  refine done_ (done_of HT_.out kR) ?_
  have hq_ : y440.length ≤ l0.length := by rw [Ny440.out, List.length_eraseIdx]; split <;> omega
  have hlk_ := hlc_.out; have hcf_ := cut_room (P := Try.prog) 29 61 .i64 .i64 Try.underlying29 hi0c_ 4 hszc_ (some ⟨go17, 0, none⟩) y440.length co12 (y440.length : Int) (l0.length : Int) (by omega) (by omega) (by omega)
  obtain ⟨A_c, hA_c⟩ : ∃ A1, A1 = (if co12 = (y440.length : Int).toNat then some ⟨go17, 0, none⟩ else (some (⟨go17, 0, none⟩ : Addr) : Option Addr).map (·.add ((y440.length : Int).toNat * 4))) := ⟨_, rfl⟩; obtain ⟨k_c, hk_c⟩ : ∃ k1, k1 = (l0.length : Int).toNat - (y440.length : Int).toNat := ⟨_, rfl⟩; obtain ⟨c_c, hc_c⟩ : ∃ c1, c1 = co12 - (y440.length : Int).toNat := ⟨_, rfl⟩; rw [← hA_c, ← hk_c, ← hc_c] at hcf_; have KA_ := aM hA_c; have KK_ := aM hk_c; have KL_ := hlc_; have KQ_ := aM hq_; have KY_ := aM (show y440.length = ((y440.length : Nat) : Int).toNat from (Int.toNat_natCast _).symm); clear hA_c hk_c hc_c hlk_ hq_
  go_wp2_with (first | ((with_reducible refine gate_builtin (b := .clear) (xs := #[.tmp 31]) rfl ?_); refine Kd.R_clear_tail kd_impl_Clue (w0 := w0) w0.heap.size rfl (.tmp 31) 29 61 rfl Try.underlying29 (.agg #[(.int .i64 0), (.int .i64 0), (.int .i64 0), (.int .i64 0)]) kR rfl ?h1 (m := y440.length) (m' := (y440.length : Int).toNat) (k := k_c) rfl KA_.out rfl ?hm ?hk (by (with_reducible repeat (first | apply rA | apply rN | apply rD)); exact HO0.out) bQ (pZ bQ) ?_; (case h1 => intro u_ hu_; simp [Value.cells] at hu_; (first | (rcases hu_ with rfl | rfl | rfl | rfl <;> rfl) | (rcases hu_ with rfl | rfl <;> rfl) | (subst hu_; rfl))); (case hm => exact KY_.out); (case hk => have h1_ := KK_.out; have h2_ := KY_.out; have h3_ := KL_.out; have h4_ := KQ_.out; omega); intro wk_ ho hb hg; have n0_ := aM ho; have n1_ := aM hb; have n2_ := aM (Kept.of_grown (S := (fun k_ => P0_ k_)) hg (by repeat (first | (with_reducible first | exact HK.out | apply Kept.alloc | apply Kept.drewN | apply Kept.drew | refine Kept.setCell ?_ (.inr GW1.out) _) | exact HK.out)) (fun k_ e_ => (HO0.out.1 k_ e_))); clear HO0 HB HK; have HO0 := n0_; have HB := n1_; have HK := n2_; clear n0_ n1_ n2_ ho hb hg))
  go_ret
  exact ⟨_, by first | rfl | (simp [errW_none, errW_some] <;> rfl) | (simp only [← hji9]; first | rfl | (simp [errW_none, errW_some] <;> rfl)) | (simp [*, errW_none, errW_some] <;> rfl), by (with_reducible repeat (first | apply rA | apply rN | apply rD)); exact HO0.out, by repeat (first | (with_reducible first | exact HB.out | apply pA | apply pN | apply pD) | exact HB.out), by repeat (first | (with_reducible first | exact HK.out | apply Kept.alloc | apply Kept.drewN | apply Kept.drew) | exact HK.out)⟩
def impl_dropped.f (l0 : List (S_impl_Clue)) (a1 : Int) : Option ((List (S_impl_Clue))) := (slices_Clone_impl_Clue.f l0).bind fun t443 => ((slices_Delete_impl_Clue.f t443 a1 (wrap64 (a1 + 1))).bind fun t446 => (some t446))
set_option maxHeartbeats 8000000 in
set_option maxRecDepth 100000 in
theorem impl_dropped.calls (A0 : Option Addr) (c0 : Nat) (l0 : List (S_impl_Clue)) (a1 : Int) (r : List (S_impl_Clue)) (w : World) (hr0 : Kd.C kd_impl_Clue w A0 l0.length l0) (hc0 : l0.length ≤ c0) (h : impl_dropped.f l0 a1 = some r) :
  Calls Try.prog 37 #[.slice A0 l0.length c0, .int .i64 a1] w fun e w' => ∃ v0_ : Value, e = .returned (v0_) ∧ Kd.R kd_impl_Clue 61 w' w.heap.size (fun _ => True) v0_ r ∧ Below w.heap.size w w' := by
 have HR0 := aM hr0; have HC0 := aM hc0; clear hr0 hc0; have HB := aM (Below.refl w.heap.size w)
 unfold impl_dropped.f at h; have H := h; clear h
 replace H := bS H; obtain ⟨t443, A3, H⟩ := H; replace H := bS H; obtain ⟨t446, A4, H⟩ := H; obtain rfl := Option.some.inj H
 go_enter Try.func37, Try.ntmps37
 go_wp2_with (first | ((with_reducible refine gC (f := 40) rfl ?_); refine goesL_ (some 6) rfl rfl Try.func40 kR rfl #[.slice A0 l0.length c0] rfl sQ ?_; (with_reducible refine (slices_Clone_impl_Clue.calls _ _ l0 t443 _ ?side1 ?side2 A3.out).mono ?_); (case side1 => repeat (first | exact HR0.out | (with_reducible refine cA ?_ _) | (with_reducible refine cN ?_ _) | (with_reducible refine cD ?_))); (case side2 => exact HC0.out); rintro e w5 ⟨v444, rfl, ho0, hb⟩; refine ⟨_, rfl, ?_⟩; have HO445 := aM (Kd.R_lower ho0 (pZ bQ)); replace HB := tB HB hb; (try clear hb); (try clear hb2); (try clear hk); (try clear hi); (try clear ho0); obtain ⟨Ao6, co6, eo6⟩ := Kd.R_slice HO445.out; subst eo6) | ((with_reducible refine gC (f := 56) rfl ?_); refine goesL_ (some 10) rfl rfl Try.func56 kR rfl #[.slice Ao6 t443.length co6, .int .i64 a1, .int .i64 (wrap64 (a1 + 1))] rfl sQ ?_; (with_reducible refine (slices_Delete_impl_Clue.calls (fun k_ => some k_ = (.slice Ao6 t443.length co6 : Value).ownBlock) (.slice Ao6 t443.length co6) t443 a1 (wrap64 (a1 + 1)) t446 w _ ?side1 ?side2 A4.out).mono ?_); (case side1 => repeat (first | (with_reducible first | exact HB.out | apply pA | apply pN | apply pD) | exact HB.out)); (case side2 => exact Kd.R_tight rfl HO445.out); rintro e w7 ⟨v447, rfl, ho0, hb, hkp⟩; refine ⟨_, rfl, ?_⟩; have n0_ := aM (Kd.R_mono (ok' := fun k_ => True) ho0 (fun k_ hk_ => trivial)); have n1_ := aM (hb); clear HB; clear HO445; have HO448 := n0_; have HB := n1_; clear n0_ n1_; (try clear hb); (try clear hkp); (try clear ho0)))
 go_ret
 exact ⟨_, by first | rfl | (simp [errW_none, errW_some] <;> rfl) | (simp [*, errW_none, errW_some] <;> rfl), by (with_reducible repeat (first | apply rA | apply rN | apply rD)); exact HO448.out, bQ⟩

end Go.Proofs.Ytajfdfaembcodaa.X
