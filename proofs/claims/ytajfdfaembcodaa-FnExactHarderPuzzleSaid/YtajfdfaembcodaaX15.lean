-- thin
-- short
-- compact
import Derived.Test.YtajfdfaembcodaaXA
import Derived.Test.YtajfdfaembcodaaX0
namespace Go.Proofs.Ytajfdfaembcodaa.X
open Go.RowKit Go.Proofs.Ytajfdfaembcodaa.XW Go.Proofs.YtajfdfaembcodaaW.PrintWords Go.Proofs.YtajfdfaembcodaaW.PrintLast Go.Proofs.YtajfdfaembcodaaW.PrintMore
attribute [local go_sem] max2_int min2_int max_two min_two max_three min_three max_four min_four   -- for this text's walks alone
set_option linter.unusedVariables false
set_option linter.unusedSimpArgs false

def spec_pzWithout.f (l0 : List (S_impl_Clue)) (a1 : Int) : Option ((List (S_impl_Clue))) := (some (([] : List (S_impl_Clue)) : List (S_impl_Clue))).bind fun y395 => (if 0 ≤ a1 then (if a1 ≤ (l0.length : Int) then ((some (l0.take (a1 : Int).toNat : List (S_impl_Clue))).bind fun y398 => (if y395.length + y398.length < 4398046511104 then ((some (y395 ++ y398 : List (S_impl_Clue))).bind fun y402 => (if 0 ≤ (wrap64 (a1 + 1)) then (if (wrap64 (a1 + 1)) ≤ (l0.length : Int) then ((some (l0.drop ((wrap64 (a1 + 1)) : Int).toNat : List (S_impl_Clue))).bind fun y405 => (if y402.length + y405.length < 4398046511104 then (some (y402 ++ y405)) else (none))) else (none)) else (none))) else (none))) else (none)) else (none))
def spec_pzWithout.T1 : Bool × List (List Nat × List Nat) := (true, [([], []), ([], []), ([], []), ([1, 2], [1, 2]), ([0, 3], [0, 3]), ([], []), ([], []), ([6], [6]), ([5, 7], [5, 7]), ([4, 8, 4], [4, 8]), ([9, 9, 0, 1, 2, 3, 4, 5, 6, 7, 8, 9], [9])])
def spec_pzWithout.B1 : List Nat := [0, 0, 0, 6, 15, 0, 0, 64, 224, 511, 1023]
theorem spec_pzWithout.tab1 : rtab .any (opsOf Try.f36 1) = spec_pzWithout.T1 := by kernel_rfl
theorem spec_pzWithout.bits1 : waitsOk spec_pzWithout.T1.2 spec_pzWithout.B1 = true := by kernel_rfl
set_option maxHeartbeats 8000000 in
set_option maxRecDepth 100000 in
theorem spec_pzWithout.calls (A0 : Option Addr) (c0 : Nat) (l0 : List (S_impl_Clue)) (a1 : Int) (r : List (S_impl_Clue)) (w : World) (hr0 : Kd.C kd_impl_Clue w A0 l0.length l0) (hc0 : l0.length ≤ c0) (h : spec_pzWithout.f l0 a1 = some r) :
  Calls Try.prog 36 #[.slice A0 l0.length c0, .int .i64 a1] w fun e w' => ∃ v0_ : Value, e = .returned (v0_) ∧ Kd.R kd_impl_Clue 61 w' w.heap.size (fun _ => True) v0_ r ∧ Below w.heap.size w w' := by
 have HR0 := aM hr0; have HC0 := aM hc0; clear hr0 hc0; have HB := aM (Below.refl w.heap.size w)
 unfold spec_pzWithout.f at h; have H := h; clear h
 replace H := lS H; obtain ⟨y395, Ny395, H⟩ := H; replace H := iN H; obtain ⟨c3, H⟩ := H; have c3b0 := eq_true c3; have c3b1 := dE c3; clear c3; replace H := iN H; obtain ⟨c4, H⟩ := H; have c4b0 := eq_true c4; have c4b1 := dE c4; clear c4; replace H := lS H; obtain ⟨y398, Ny398, H⟩ := H; replace H := iN H; obtain ⟨c5, H⟩ := H; have LMc5 := aM c5; clear c5; replace H := lS H; obtain ⟨y402, Ny402, H⟩ := H; obtain ⟨ji6, hji6⟩ : ∃ j_ : Int, (wrap64 (a1 + 1)) = j_ := ⟨_, rfl⟩
 (first | rw [hji6] at H | simp only [hji6] at H)
 have hji6w : (IntKind.i64.wrap (a1 + 1)) = ji6 := (i64_w _).trans hji6; replace H := iN H; obtain ⟨c7, H⟩ := H; have c7b0 := eq_true c7; have c7b1 := dE c7; clear c7; replace H := iN H; obtain ⟨c8, H⟩ := H; have c8b0 := eq_true c8; have c8b1 := dE c8; clear c8; replace H := lS H; obtain ⟨y405, Ny405, H⟩ := H; replace H := iN H; obtain ⟨c9, H⟩ := H; have LMc9 := aM c9; clear c9; obtain ⟨y409, hy409⟩ : ∃ y_ : List (S_impl_Clue), y_ = (y402 ++ y405) := ⟨_, rfl⟩; rw [← hy409] at H; have Ny409 := aM hy409; clear hy409; obtain rfl := Option.some.inj H
 go_enter Try.func36, Try.ntmps36
 try go_wp2
 replace HB := aM (pD HB.out); have q11 : (a1 : Int) ≤ ((l0.length : Int) : Int) := dT aQ; obtain ⟨i011, hi011, _, hsz11, _⟩ := info_parts info61; have hroom11 : l0.length ≤ c0 := HC0.out; have hC11 : Kd.C kd_impl_Clue _ A0 l0.length l0 := HR0.out; have hcut11 := cut_to (P := Try.prog) 29 61 .i64 Try.underlying29 hi011 A0 l0.length c0 a1 (dT aQ) q11 hroom11; have hr11 := Kd.C_take (m := (a1 : Int).toNat) hC11 (by omega)
 have hy11 : y398.length = (a1 : Int).toNat := (by rw [Ny398.out, lT]; omega)
 rw [← Ny398.out] at hr11; rw [← hy11] at hcut11; have HR401 := aM hr11; have HC401 := aM (show y398.length ≤ c0 from by omega)
 clear hr11 hC11 hroom11 hi011 hsz11; have KY11 := aM hy11; clear hy11; replace q11 := eq_true q11; have q12 : ((ji6) : Int) ≤ ((l0.length : Int) : Int) := dT aQ; obtain ⟨i012, hi012, _, hsz12, _⟩ := info_parts info61; have hroom12 : l0.length ≤ c0 := HC0.out; have hC12 : Kd.C kd_impl_Clue _ A0 l0.length l0 := HR0.out; have q012 : (0 : Int) ≤ ((ji6) : Int) := dT aQ; have hcut12 := cut_from (P := Try.prog) 29 61 .i64 Try.underlying29 hi012 4 hsz12 A0 l0.length c0 (ji6) q012 q12; have hr12 := Kd.C_drop (m := ((ji6) : Int).toNat) (c := c0) hC12 (by omega) hroom12
 obtain ⟨A12, hA12⟩ : ∃ A1, A1 = (if c0 = ((ji6) : Int).toNat then A0 else (A0 : Option Addr).map (·.add (((ji6) : Int).toNat * 4))) := ⟨_, rfl⟩; obtain ⟨c12, hc12⟩ : ∃ c1, c1 = c0 - ((ji6) : Int).toNat := ⟨_, rfl⟩; have hy12 : y405.length = l0.length - ((ji6) : Int).toNat := (by rw [Ny405.out, lD] <;> omega)
 rw [show (l0).drop ((ji6) : Int).toNat = y405 from Ny405.out.symm] at hr12; replace hr12 : Kd.C kd_impl_Clue _ A12 y405.length y405 := (by rw [hA12]; exact hr12)
 rw [← hy12, ← hA12, ← hc12] at hcut12; have HR408 := aM hr12; have HC408 := aM (show y405.length ≤ c12 from by rw [hy12, hc12]; exact Nat.sub_le_sub_right hroom12 _)
 clear hr12 hC12 hroom12 hi012 hsz12 hc12; have KY12 := aM hy12; have KA12 := aM hA12; clear hy12 hA12; replace q12 := eq_true q12
 refine start_ (n := 11) (S := fun w' => True) (ds := []) (bA 11 0) kR rfl kR trivial (fun hHeld => ?_); refine with_tabW spec_pzWithout.tab1 spec_pzWithout.bits1 (fun HT_ HW_ => ?_)
 generalize w.drew = w10 at HB HR401 HR408 hHeld ⊢
 refine pU 1 6 (bA 11 2) HT_ ?_; refine pU 2 7 (bA 11 6) HT_ ?_; refine pU 3 8 (bA 11 14) HT_ ?_; refine pU 5 10 (bA 11 46) HT_ ?_; refine pU 6 11 (bA 11 110) HT_ ?_; refine pU 7 12 (bA 11 238) HT_ ?_; refine pU 8 13 (bA 11 494) HT_ ?_
 refine oU 0 5 (bA 11 495) HT_ (fun K hK => ?_)
 refine Kd.R_lit_step kd_impl_Clue _ 61 ?hg (N := 5) ?hd (xs := ([] : List (S_impl_Clue))) (inner := []) (ok := fun _ => True) (okp := fun _ => True) ?hr ?hp (fun _ hk => hk) trivial (Below.refl _ _) (Nat.le_refl _) (by simp) ?_; (case hd => rfl); (case hg => rfl); (case hr => first | (go_simp; done) | (go_simp; rfl)); (case hp => exact (Reps.none _ _))
 intro v396 w13 ho14 hb hg_ hnew_
 clear hg_ hnew_
 (first | rw [← Ny395.out] at ho14 | (simp only [Int.reduceToNat] at ho14; rw [← Ny395.out] at ho14))
 have HO397 := aM (Kd.R_lower ho14 (pZ bQ)); replace HB := tB HB hb; clear hb ho14
 refine hK.out _ _ trivial (fun hHeld => ?_)
 clear hK K
 refine nU ?_
 refine oU 4 9 (bA 11 511) HT_ (fun K hK => ?_)
 refine Kd.R_append_rows_step kd_impl_Clue (w0 := w) w.heap.size (by rfl) (.tmp 5) (.tmp 8) 29 61 (.agg #[(.int .i64 0), (.int .i64 0), (.int .i64 0), (.int .i64 0)]) 32 rfl Try.underlying29 info61 rfl (by decide) (by omega) v396 y395 y398 _ _ _ (fun _ => True) (fun _ => False) rfl rfl ?aO ?aR (fun _ _ h => h) (fun _ h => h.elim) ?aF ?aB ?aS ?aL ?_
 (case aR => repeat (first | exact (Kd.C_below HR401.out HB.out) | (with_reducible refine cA ?_ _) | (with_reducible refine cN ?_ _) | (with_reducible refine cD ?_)))
 (case aB => exact bQ)
 (case aF => exact (fun _ _ => trivial))
 (case aO => exact (by (with_reducible repeat (first | apply rA | apply rN | apply rD)); exact HO397.out))
 (case aS => exact (pZ bQ))
 (case aL => have := LMc5.out; omega)
 intro v403 w15 ho hb hg hat
 rw [← Ny402.out] at ho; have n0_ := aM (hb); have n1_ := aM (ho); clear HB; clear HO397; have HB := n0_; have HO404 := n1_; clear n0_ n1_; clear ho hb hg hat
 refine hK.out _ _ trivial (fun hHeld => ?_)
 clear hK K
 refine nU ?_
 refine oU 9 14 (bA 11 1023) HT_ (fun K hK => ?_)
 refine Kd.R_append_rows_step kd_impl_Clue (w0 := w) w.heap.size (by rfl) (.tmp 9) (.tmp 13) 29 61 (.agg #[(.int .i64 0), (.int .i64 0), (.int .i64 0), (.int .i64 0)]) 32 rfl Try.underlying29 info61 rfl (by decide) (by omega) v403 y402 y405 _ _ _ (fun _ => True) (fun _ => False) rfl rfl ?aO ?aR (fun _ _ h => h) (fun _ h => h.elim) ?aF ?aB ?aS ?aL ?_
 (case aR => repeat (first | exact (Kd.C_below HR408.out HB.out) | (with_reducible refine cA ?_ _) | (with_reducible refine cN ?_ _) | (with_reducible refine cD ?_)))
 (case aB => exact bQ)
 (case aF => exact (fun _ _ => trivial))
 (case aO => exact (by (with_reducible repeat (first | apply rA | apply rN | apply rD)); exact HO404.out))
 (case aS => exact (pZ bQ))
 (case aL => have := LMc9.out; omega)
 intro v410 w16 ho hb hg hat
 rw [← Ny409.out] at ho; have n0_ := aM (hb); have n1_ := aM (ho); clear HB; clear HO404; have HB := n0_; have HO411 := n1_; clear n0_ n1_; clear ho hb hg hat
 refine hK.out _ _ trivial (fun hHeld => ?_)
 clear hK K
 refine nU ?_
 refine pU 10 4 (bA 11 2047) HT_ ?_
 refine done_ (done_of HT_.out kR) ?_
 try go_wp2
 go_ret
 exact ⟨_, by first | rfl | (simp [errW_none, errW_some] <;> rfl) | (simp only [← hji6]; first | rfl | (simp [errW_none, errW_some] <;> rfl)) | (simp [*, errW_none, errW_some] <;> rfl), by (with_reducible repeat (first | apply rA | apply rN | apply rD)); exact HO411.out, bQ⟩
end Go.Proofs.Ytajfdfaembcodaa.X
