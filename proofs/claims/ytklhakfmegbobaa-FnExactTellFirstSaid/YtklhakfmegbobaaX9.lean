-- thin
-- short
-- compact
import Derived.Test.YtklhakfmegbobaaXA
import Derived.Test.YtklhakfmegbobaaX0
import Derived.Test.YtklhakfmegbobaaX8
namespace Go.Proofs.Ytklhakfmegbobaa.X
open Go.RowKit Go.Proofs.Ytklhakfmegbobaa.XW Go.Proofs.YtklhakfmegbobaaW.PrintWords Go.Proofs.YtklhakfmegbobaaW.PrintLast Go.Proofs.YtklhakfmegbobaaW.PrintMore
attribute [local go_sem] max2_int min2_int max_two min_two max_three min_three max_four min_four   -- for this text's walks alone
set_option linter.unusedVariables false
set_option linter.unusedSimpArgs false

def impl_turn.f (a0_0 : Int) (a0_1 : Int) (a1_0 : Int) (a1_1 : Int) (a2_0 : Int) (a2_1 : Int) : Option (Int) := (impl_Peg_less.f a1_0 a1_1 a0_0 a0_1).bind fun bt231 => ((impl_Peg_less.f a2_0 a2_1 a0_0 a0_1).bind fun bt233 => ((impl_cross.f bt231.1 bt231.2 bt233.1 bt233.2).bind fun t235 => (some t235)))
def impl_turn.T1 : Bool × List (List Nat × List Nat) := (true, [([], []), ([], []), ([0, 1], [0, 1]), ([], []), ([], []), ([3, 4, 2], [3, 4]), ([2, 5, 5], [2, 5]), ([6, 6, 0, 1, 2, 3, 4, 5, 6], [6])])
def impl_turn.B1 : List Nat := [0, 0, 3, 0, 0, 31, 63, 127]
theorem impl_turn.tab1 : rtab .any (opsOf Try.f111 1) = impl_turn.T1 := by kernel_rfl
theorem impl_turn.bits1 : waitsOk impl_turn.T1.2 impl_turn.B1 = true := by kernel_rfl
set_option maxHeartbeats 8000000 in
set_option maxRecDepth 100000 in
theorem impl_turn.calls (a0_0 : Int) (a0_1 : Int) (a1_0 : Int) (a1_1 : Int) (a2_0 : Int) (a2_1 : Int) (r : Int) (w : World) (h : impl_turn.f a0_0 a0_1 a1_0 a1_1 a2_0 a2_1 = some r) :
  Calls Try.prog 111 #[.agg #[.int .i64 a0_0, .int .i64 a0_1], .agg #[.int .i64 a1_0, .int .i64 a1_1], .agg #[.int .i64 a2_0, .int .i64 a2_1]] w fun e w' => e = .returned (.int .i64 r) ∧ Below w.heap.size w w' := by
 have hu26 := Try.underlying26; have HB := aM (Below.refl w.heap.size w)
 unfold impl_turn.f at h; have H := h; clear h
 replace H := bS H; obtain ⟨⟨t231, t232⟩, A4, H⟩ := H; replace H := bS H; obtain ⟨⟨t233, t234⟩, A5, H⟩ := H; replace H := bS H; obtain ⟨t235, A6, H⟩ := H; obtain rfl := Option.some.inj H
 go_enter Try.func111, Try.ntmps111
 try go_wp2_with (first | ((with_reducible refine gate_dst (N := 3) rfl ?_); refine bV 3 (cs := #[.int .i64 a0_0, .int .i64 a0_1]) (t := 26) rfl rfl (by first | (go_simp; done) | (go_simp; rfl)) ?_; intro gb228 hg w7 hbox hb; have BK228 := hbox; have GW228 := gZ HB hg; have GE228 := gZ HB hg; replace HB := tB HB hb; clear hb hbox hg) | ((with_reducible refine gate_dst (N := 4) rfl ?_); refine bV 4 (cs := #[.int .i64 a1_0, .int .i64 a1_1]) (t := 26) rfl rfl (by first | (go_simp; done) | (go_simp; rfl)) ?_; intro gb229 hg w8 hbox hb; have BK229 := hbox; have GW229 := gZ HB hg; have GE229 := gZ HB hg; have NB228_229 := nG BK228 hg; have NB229_228 := nH BK228 hg; replace BK228 := bB BK228 hb; replace HB := tB HB hb; clear hb hbox hg) | ((with_reducible refine gate_dst (N := 5) rfl ?_); refine bV 5 (cs := #[.int .i64 a2_0, .int .i64 a2_1]) (t := 26) rfl rfl (by first | (go_simp; done) | (go_simp; rfl)) ?_; intro gb230 hg w9 hbox hb; have BK230 := hbox; have GW230 := gZ HB hg; have GE230 := gZ HB hg; have NB228_230 := nG BK228 hg; have NB230_228 := nH BK228 hg; have NB229_230 := nG BK229 hg; have NB230_229 := nH BK229 hg; replace BK228 := bB BK228 hb; replace BK229 := bB BK229 hb; replace HB := tB HB hb; clear hb hbox hg))
 replace BK228 := aM (kD BK228.out); replace BK229 := aM (kD BK229.out); replace BK230 := aM (kD BK230.out); replace HB := aM (pD HB.out)
 refine start_ (n := 8) (S := fun w' => w'.cell? ⟨gb229, 0, none⟩ = some (.int .i64 a1_0) ∧ w'.cell? ⟨gb229, 1, none⟩ = some (.int .i64 a1_1) ∧ w'.cell? ⟨gb228, 0, none⟩ = some (.int .i64 a0_0) ∧ w'.cell? ⟨gb228, 1, none⟩ = some (.int .i64 a0_1) ∧ w'.cell? ⟨gb230, 0, none⟩ = some (.int .i64 a2_0) ∧ w'.cell? ⟨gb230, 1, none⟩ = some (.int .i64 a2_1)) (ds := []) (bA 8 0) kR rfl kR ⟨vZ0 BK229, vZ1 BK229, vZ0 BK228, vZ1 BK228, vZ0 BK230, vZ1 BK230⟩ (fun hHeld => ?_); refine with_tabW impl_turn.tab1 impl_turn.bits1 (fun HT_ HW_ => ?_)
 generalize w9.drew = w10 at BK228 BK229 BK230 HB hHeld ⊢
 refine tU 0 7 (bA 8 1) HT_ HW_ hHeld ?_ (hy := Or.inl ⟨by rfl, by rintro w' ⟨s0, s1, s2, s3, s4, s5⟩; go_simp; with_reducible rfl⟩)
 refine tU 1 8 (bA 8 3) HT_ HW_ hHeld ?_ (hy := Or.inl ⟨by rfl, by rintro w' ⟨s0, s1, s2, s3, s4, s5⟩; go_simp; with_reducible rfl⟩)
 refine tU 3 10 (bA 8 11) HT_ HW_ hHeld ?_ (hy := Or.inl ⟨by rfl, by rintro w' ⟨s0, s1, s2, s3, s4, s5⟩; go_simp; with_reducible rfl⟩)
 refine tU 4 11 (bA 8 27) HT_ HW_ hHeld ?_ (hy := Or.inl ⟨by rfl, by rintro w' ⟨s0, s1, s2, s3, s4, s5⟩; go_simp; with_reducible rfl⟩)
 refine oU 2 9 (bA 8 31) HT_ (fun K hK => ?_)
 refine goes_ Try.func85 kR rfl #[.agg #[.int .i64 a1_0, .int .i64 a1_1], .agg #[.int .i64 a0_0, .int .i64 a0_1]] (by rfl) rfl rfl sQ ?_
 with_reducible refine (impl_Peg_less.calls a1_0 a1_1 a0_0 a0_1 t231 t232 _ A4.out).mono ?_
 rintro e w11 ⟨rfl, hb⟩; refine ⟨_, rfl, ?_⟩; replace BK228 := bB BK228 hb; replace BK229 := bB BK229 hb; replace BK230 := bB BK230 hb; replace HB := tB HB hb; (try clear hb); (try clear hb2); (try clear hk); (try clear hi)
 refine hK.out _ _ ⟨vZ0 BK229, vZ1 BK229, vZ0 BK228, vZ1 BK228, vZ0 BK230, vZ1 BK230⟩ (fun hHeld => ?_)
 clear hK K
 refine nU ?_
 refine oU 5 12 (bA 8 63) HT_ (fun K hK => ?_)
 refine goes_ Try.func85 kR rfl #[.agg #[.int .i64 a2_0, .int .i64 a2_1], .agg #[.int .i64 a0_0, .int .i64 a0_1]] (by rfl) rfl rfl sQ ?_
 with_reducible refine (impl_Peg_less.calls a2_0 a2_1 a0_0 a0_1 t233 t234 _ A5.out).mono ?_
 rintro e w12 ⟨rfl, hb⟩; refine ⟨_, rfl, ?_⟩; replace BK228 := bB BK228 hb; replace BK229 := bB BK229 hb; replace BK230 := bB BK230 hb; replace HB := tB HB hb; (try clear hb); (try clear hb2); (try clear hk); (try clear hi)
 refine hK.out _ _ ⟨vZ0 BK229, vZ1 BK229, vZ0 BK228, vZ1 BK228, vZ0 BK230, vZ1 BK230⟩ (fun hHeld => ?_)
 clear hK K
 refine nU ?_
 refine oU 6 13 (bA 8 127) HT_ (fun K hK => ?_)
 refine goes_ Try.func107 kR rfl #[.agg #[.int .i64 t231, .int .i64 t232], .agg #[.int .i64 t233, .int .i64 t234]] (by rfl) rfl rfl sQ ?_
 with_reducible refine (impl_cross.calls t231 t232 t233 t234 t235 _ A6.out).mono ?_
 rintro e w13 ⟨rfl, hb⟩; refine ⟨_, rfl, ?_⟩; replace BK228 := bB BK228 hb; replace BK229 := bB BK229 hb; replace BK230 := bB BK230 hb; replace HB := tB HB hb; (try clear hb); (try clear hb2); (try clear hk); (try clear hi)
 refine hK.out _ _ ⟨vZ0 BK229, vZ1 BK229, vZ0 BK228, vZ1 BK228, vZ0 BK230, vZ1 BK230⟩ (fun hHeld => ?_)
 clear hK K
 refine nU ?_
 refine pU 7 6 (bA 8 255) HT_ ?_
 refine done_ (done_of HT_.out kR) ?_
 try go_wp2
 go_ret
 exact ⟨wQ, bE⟩

def impl_sign.f (a0 : Int) : Option (Int) := some (mn 1 (mx (-1) a0))
set_option maxHeartbeats 8000000 in
set_option maxRecDepth 100000 in
theorem impl_sign.calls (a0 : Int) (r : Int) (w : World) (h : impl_sign.f a0 = some r) :
  Calls Try.prog 125 #[.int .i64 a0] w fun e w' => e = .returned (.int .i64 r) ∧ Below w.heap.size w w' := by
 have HB := aM (Below.refl w.heap.size w)
 unfold impl_sign.f at h; have H := h; clear h
 obtain ⟨ji2, hji2⟩ : ∃ j_ : Int, (mx (-1) a0) = j_ := ⟨_, rfl⟩
 (first | rw [hji2] at H | simp only [hji2] at H)
 have hji2_ : (if (-1) < a0 then a0 else (-1)) = ji2 := hji2; obtain ⟨ji3, hji3⟩ : ∃ j_ : Int, (mn 1 (ji2)) = j_ := ⟨_, rfl⟩
 (first | rw [hji3] at H | simp only [hji3] at H)
 have hji3_ : (if (ji2) < 1 then (ji2) else 1) = ji3 := hji3; obtain rfl := Option.some.inj H
 go_enter Try.func125, Try.ntmps125
 go_wp2
 go_ret
 exact ⟨by first | rfl | (simp [errW_none, errW_some] <;> rfl) | (simp only [← hji2, ← hji3]; first | rfl | (simp [errW_none, errW_some] <;> rfl)) | (simp [*, errW_none, errW_some] <;> rfl), bQ⟩

def impl_isOn.f (a0_0 : Int) (a0_1 : Int) (a1_0 : Int) (a1_1 : Int) (a2_0 : Int) (a2_1 : Int) : Option (Bool) := (impl_turn.f a0_0 a0_1 a1_0 a1_1 a2_0 a2_1).bind fun t239 => (if t239 = 0 then ((impl_within.f a2_0 (mn a0_0 a1_0) (mx a0_0 a1_0)).bind fun t240 => (if t240 = true then ((impl_within.f a2_1 (mn a0_1 a1_1) (mx a0_1 a1_1)).bind fun t241 => (some t241)) else (some false))) else (some false))
set_option maxHeartbeats 8000000 in
set_option maxRecDepth 100000 in
theorem impl_isOn.calls (a0_0 : Int) (a0_1 : Int) (a1_0 : Int) (a1_1 : Int) (a2_0 : Int) (a2_1 : Int) (r : Bool) (w : World) (h : impl_isOn.f a0_0 a0_1 a1_0 a1_1 a2_0 a2_1 = some r) :
  Calls Try.prog 132 #[.agg #[.int .i64 a0_0, .int .i64 a0_1], .agg #[.int .i64 a1_0, .int .i64 a1_1], .agg #[.int .i64 a2_0, .int .i64 a2_1]] w fun e w' => e = .returned (.bool r) ∧ Below w.heap.size w w' := by
 have hu26 := Try.underlying26; have HB := aM (Below.refl w.heap.size w)
 unfold impl_isOn.f at h; have H := h; clear h
 replace H := bS H; obtain ⟨t239, A4, H⟩ := H
 by_cases c5 : t239 = 0
 ·rw [if_pos c5] at H; have c5b0 : (t239 == 0) = true := beq_iff_eq.mpr c5; have c5b1 : (t239 != 0) = false := bne_eq_false_iff_eq.mpr c5; clear c5; obtain ⟨ji6, hji6⟩ : ∃ j_ : Int, (mn a0_0 a1_0) = j_ := ⟨_, rfl⟩
  (first | rw [hji6] at H | simp only [hji6] at H)
  (try rw [hji6] at A4)
  have hji6_ : (if a1_0 < a0_0 then a1_0 else a0_0) = ji6 := hji6; obtain ⟨ji7, hji7⟩ : ∃ j_ : Int, (mx a0_0 a1_0) = j_ := ⟨_, rfl⟩
  (first | rw [hji7] at H | simp only [hji7] at H)
  (try rw [hji7] at A4)
  have hji7_ : (if a0_0 < a1_0 then a1_0 else a0_0) = ji7 := hji7; replace H := bS H; obtain ⟨t240, A8, H⟩ := H
  by_cases c9 : t240 = true
  ·subst c9; replace H := iT H; obtain ⟨ji10, hji10⟩ : ∃ j_ : Int, (mn a0_1 a1_1) = j_ := ⟨_, rfl⟩
   (first | rw [hji10] at H | simp only [hji10] at H)
   (try rw [hji10] at A4)
   (try rw [hji10] at A8)
   have hji10_ : (if a1_1 < a0_1 then a1_1 else a0_1) = ji10 := hji10; obtain ⟨ji11, hji11⟩ : ∃ j_ : Int, (mx a0_1 a1_1) = j_ := ⟨_, rfl⟩
   (first | rw [hji11] at H | simp only [hji11] at H)
   (try rw [hji11] at A4)
   (try rw [hji11] at A8)
   have hji11_ : (if a0_1 < a1_1 then a1_1 else a0_1) = ji11 := hji11; replace H := bS H; obtain ⟨t241, A12, H⟩ := H; obtain rfl := Option.some.inj H
   go_enter Try.func132, Try.ntmps132
   go_wp2_with (first | ((with_reducible refine gate_dst (N := 3) rfl ?_); (try (refine gate_guard (by rfl) ?_; dsimp only)); refine bV 3 (cs := #[.int .i64 a0_0, .int .i64 a0_1]) (t := 26) rfl rfl (by first | (go_simp; done) | (go_simp; rfl)) ?_; intro gb236 hg w13 hbox hb; have BK236 := hbox; have GW236 := gZ HB hg; have GE236 := gZ HB hg; replace HB := tB HB hb; clear hb hbox hg) | ((with_reducible refine gate_dst (N := 4) rfl ?_); (try (refine gate_guard (by rfl) ?_; dsimp only)); refine bV 4 (cs := #[.int .i64 a1_0, .int .i64 a1_1]) (t := 26) rfl rfl (by first | (go_simp; done) | (go_simp; rfl)) ?_; intro gb237 hg w14 hbox hb; have BK237 := hbox; have GW237 := gZ HB hg; have GE237 := gZ HB hg; have NB236_237 := nG BK236 hg; have NB237_236 := nH BK236 hg; replace BK236 := bB BK236 hb; replace HB := tB HB hb; clear hb hbox hg) | ((with_reducible refine gate_dst (N := 5) rfl ?_); (try (refine gate_guard (by rfl) ?_; dsimp only)); refine bV 5 (cs := #[.int .i64 a2_0, .int .i64 a2_1]) (t := 26) rfl rfl (by first | (go_simp; done) | (go_simp; rfl)) ?_; intro gb238 hg w15 hbox hb; have BK238 := hbox; have GW238 := gZ HB hg; have GE238 := gZ HB hg; have NB236_238 := nG BK236 hg; have NB238_236 := nH BK236 hg; have NB237_238 := nG BK237 hg; have NB238_237 := nH BK237 hg; replace BK236 := bB BK236 hb; replace BK237 := bB BK237 hb; replace HB := tB HB hb; clear hb hbox hg; have hnb16 := NB236_237.out; have hnc16 := NB237_236.out; have hnb17 := NB236_238.out; have hnc17 := NB238_236.out; have hcz18_0 := vZ0 BK236; have hcz18_1 := vZ1 BK236; have hfz18_0 := kF BK236.out 0; have hfz18_1 := kF BK236.out 1; have hnb19 := NB237_238.out; have hnc19 := NB238_237.out; have hcz20_0 := vZ0 BK237; have hcz20_1 := vZ1 BK237; have hfz20_0 := kF BK237.out 0; have hfz20_1 := kF BK237.out 1; have hcz21_0 := vZ0 BK238; have hcz21_1 := vZ1 BK238; have hfz21_0 := kF BK238.out 0; have hfz21_1 := kF BK238.out 1) | ((with_reducible refine gC (f := 111) rfl ?_); refine goesL_ (some 10) rfl rfl Try.func111 kR rfl #[.agg #[.int .i64 a0_0, .int .i64 a0_1], .agg #[.int .i64 a1_0, .int .i64 a1_1], .agg #[.int .i64 a2_0, .int .i64 a2_1]] rfl sQ ?_; (with_reducible refine (impl_turn.calls a0_0 a0_1 a1_0 a1_1 a2_0 a2_1 t239 _ A4.out).mono ?_); rintro e w22 ⟨rfl, hb⟩; refine ⟨_, rfl, ?_⟩; replace BK236 := bB BK236 hb; replace BK237 := bB BK237 hb; replace BK238 := bB BK238 hb; replace HB := tB HB hb; (try clear hb); (try clear hb2); (try clear hk); (try clear hi); have hcz23_0 := vZ0 BK238; have hcz23_1 := vZ1 BK238; have hfz23_0 := kF BK238.out 0; have hfz23_1 := kF BK238.out 1; have hcz24_0 := vZ0 BK236; have hcz24_1 := vZ1 BK236; have hfz24_0 := kF BK236.out 0; have hfz24_1 := kF BK236.out 1; have hcz25_0 := vZ0 BK237; have hcz25_1 := vZ1 BK237; have hfz25_0 := kF BK237.out 0; have hfz25_1 := kF BK237.out 1) | (go_at_call 59; (with_reducible refine (impl_within.calls a2_0 ji6 ji7 true _ A8.out).mono ?_); rintro e w' ⟨rfl, ⟨nd, rfl⟩⟩) | (go_at_call 59; (with_reducible refine (impl_within.calls a2_1 ji10 ji11 t241 _ A12.out).mono ?_); rintro e w' ⟨rfl, ⟨nd, rfl⟩⟩))
   go_ret
   exact ⟨by first | rfl | (simp [errW_none, errW_some] <;> rfl) | (simp only [← hji6, ← hji7, ← hji10, ← hji11]; first | rfl | (simp [errW_none, errW_some] <;> rfl)) | (simp [*, errW_none, errW_some] <;> rfl), bE⟩
  ·replace c9 := Bool.eq_false_iff.mpr c9; subst c9; replace H := iF H; obtain rfl := Option.some.inj H
   go_enter Try.func132, Try.ntmps132
   go_wp2_with (first | ((with_reducible refine gate_dst (N := 3) rfl ?_); (try (refine gate_guard (by rfl) ?_; dsimp only)); refine bV 3 (cs := #[.int .i64 a0_0, .int .i64 a0_1]) (t := 26) rfl rfl (by first | (go_simp; done) | (go_simp; rfl)) ?_; intro gb236 hg w26 hbox hb; have BK236 := hbox; have GW236 := gZ HB hg; have GE236 := gZ HB hg; replace HB := tB HB hb; clear hb hbox hg) | ((with_reducible refine gate_dst (N := 4) rfl ?_); (try (refine gate_guard (by rfl) ?_; dsimp only)); refine bV 4 (cs := #[.int .i64 a1_0, .int .i64 a1_1]) (t := 26) rfl rfl (by first | (go_simp; done) | (go_simp; rfl)) ?_; intro gb237 hg w27 hbox hb; have BK237 := hbox; have GW237 := gZ HB hg; have GE237 := gZ HB hg; have NB236_237 := nG BK236 hg; have NB237_236 := nH BK236 hg; replace BK236 := bB BK236 hb; replace HB := tB HB hb; clear hb hbox hg) | ((with_reducible refine gate_dst (N := 5) rfl ?_); (try (refine gate_guard (by rfl) ?_; dsimp only)); refine bV 5 (cs := #[.int .i64 a2_0, .int .i64 a2_1]) (t := 26) rfl rfl (by first | (go_simp; done) | (go_simp; rfl)) ?_; intro gb238 hg w28 hbox hb; have BK238 := hbox; have GW238 := gZ HB hg; have GE238 := gZ HB hg; have NB236_238 := nG BK236 hg; have NB238_236 := nH BK236 hg; have NB237_238 := nG BK237 hg; have NB238_237 := nH BK237 hg; replace BK236 := bB BK236 hb; replace BK237 := bB BK237 hb; replace HB := tB HB hb; clear hb hbox hg; have hnb29 := NB236_237.out; have hnc29 := NB237_236.out; have hnb30 := NB236_238.out; have hnc30 := NB238_236.out; have hcz31_0 := vZ0 BK236; have hcz31_1 := vZ1 BK236; have hfz31_0 := kF BK236.out 0; have hfz31_1 := kF BK236.out 1; have hnb32 := NB237_238.out; have hnc32 := NB238_237.out; have hcz33_0 := vZ0 BK237; have hcz33_1 := vZ1 BK237; have hfz33_0 := kF BK237.out 0; have hfz33_1 := kF BK237.out 1; have hcz34_0 := vZ0 BK238; have hcz34_1 := vZ1 BK238; have hfz34_0 := kF BK238.out 0; have hfz34_1 := kF BK238.out 1) | ((with_reducible refine gC (f := 111) rfl ?_); refine goesL_ (some 10) rfl rfl Try.func111 kR rfl #[.agg #[.int .i64 a0_0, .int .i64 a0_1], .agg #[.int .i64 a1_0, .int .i64 a1_1], .agg #[.int .i64 a2_0, .int .i64 a2_1]] rfl sQ ?_; (with_reducible refine (impl_turn.calls a0_0 a0_1 a1_0 a1_1 a2_0 a2_1 t239 _ A4.out).mono ?_); rintro e w35 ⟨rfl, hb⟩; refine ⟨_, rfl, ?_⟩; replace BK236 := bB BK236 hb; replace BK237 := bB BK237 hb; replace BK238 := bB BK238 hb; replace HB := tB HB hb; (try clear hb); (try clear hb2); (try clear hk); (try clear hi); have hcz36_0 := vZ0 BK238; have hcz36_1 := vZ1 BK238; have hfz36_0 := kF BK238.out 0; have hfz36_1 := kF BK238.out 1; have hcz37_0 := vZ0 BK236; have hcz37_1 := vZ1 BK236; have hfz37_0 := kF BK236.out 0; have hfz37_1 := kF BK236.out 1; have hcz38_0 := vZ0 BK237; have hcz38_1 := vZ1 BK237; have hfz38_0 := kF BK237.out 0; have hfz38_1 := kF BK237.out 1) | (go_at_call 59; (with_reducible refine (impl_within.calls a2_0 ji6 ji7 false _ A8.out).mono ?_); rintro e w' ⟨rfl, ⟨nd, rfl⟩⟩))
   go_ret
   exact ⟨by first | rfl | (simp [errW_none, errW_some] <;> rfl) | (simp only [← hji6, ← hji7]; first | rfl | (simp [errW_none, errW_some] <;> rfl)) | (simp [*, errW_none, errW_some] <;> rfl), bE⟩
 ·rw [if_neg c5] at H; have c5b0 : (t239 == 0) = false := beq_eq_false_iff_ne.mpr c5; have c5b1 : (t239 != 0) = true := bne_iff_ne.mpr c5; obtain rfl := Option.some.inj H
  go_enter Try.func132, Try.ntmps132
  go_wp2_with (first | ((with_reducible refine gate_dst (N := 3) rfl ?_); (try (refine gate_guard (by rfl) ?_; dsimp only)); refine bV 3 (cs := #[.int .i64 a0_0, .int .i64 a0_1]) (t := 26) rfl rfl (by first | (go_simp; done) | (go_simp; rfl)) ?_; intro gb236 hg w39 hbox hb; have BK236 := hbox; have GW236 := gZ HB hg; have GE236 := gZ HB hg; replace HB := tB HB hb; clear hb hbox hg) | ((with_reducible refine gate_dst (N := 4) rfl ?_); (try (refine gate_guard (by rfl) ?_; dsimp only)); refine bV 4 (cs := #[.int .i64 a1_0, .int .i64 a1_1]) (t := 26) rfl rfl (by first | (go_simp; done) | (go_simp; rfl)) ?_; intro gb237 hg w40 hbox hb; have BK237 := hbox; have GW237 := gZ HB hg; have GE237 := gZ HB hg; have NB236_237 := nG BK236 hg; have NB237_236 := nH BK236 hg; replace BK236 := bB BK236 hb; replace HB := tB HB hb; clear hb hbox hg) | ((with_reducible refine gate_dst (N := 5) rfl ?_); (try (refine gate_guard (by rfl) ?_; dsimp only)); refine bV 5 (cs := #[.int .i64 a2_0, .int .i64 a2_1]) (t := 26) rfl rfl (by first | (go_simp; done) | (go_simp; rfl)) ?_; intro gb238 hg w41 hbox hb; have BK238 := hbox; have GW238 := gZ HB hg; have GE238 := gZ HB hg; have NB236_238 := nG BK236 hg; have NB238_236 := nH BK236 hg; have NB237_238 := nG BK237 hg; have NB238_237 := nH BK237 hg; replace BK236 := bB BK236 hb; replace BK237 := bB BK237 hb; replace HB := tB HB hb; clear hb hbox hg; have hnb42 := NB236_237.out; have hnc42 := NB237_236.out; have hnb43 := NB236_238.out; have hnc43 := NB238_236.out; have hcz44_0 := vZ0 BK236; have hcz44_1 := vZ1 BK236; have hfz44_0 := kF BK236.out 0; have hfz44_1 := kF BK236.out 1; have hnb45 := NB237_238.out; have hnc45 := NB238_237.out; have hcz46_0 := vZ0 BK237; have hcz46_1 := vZ1 BK237; have hfz46_0 := kF BK237.out 0; have hfz46_1 := kF BK237.out 1; have hcz47_0 := vZ0 BK238; have hcz47_1 := vZ1 BK238; have hfz47_0 := kF BK238.out 0; have hfz47_1 := kF BK238.out 1) | ((with_reducible refine gC (f := 111) rfl ?_); refine goesL_ (some 10) rfl rfl Try.func111 kR rfl #[.agg #[.int .i64 a0_0, .int .i64 a0_1], .agg #[.int .i64 a1_0, .int .i64 a1_1], .agg #[.int .i64 a2_0, .int .i64 a2_1]] rfl sQ ?_; (with_reducible refine (impl_turn.calls a0_0 a0_1 a1_0 a1_1 a2_0 a2_1 t239 _ A4.out).mono ?_); rintro e w48 ⟨rfl, hb⟩; refine ⟨_, rfl, ?_⟩; replace BK236 := bB BK236 hb; replace BK237 := bB BK237 hb; replace BK238 := bB BK238 hb; replace HB := tB HB hb; (try clear hb); (try clear hb2); (try clear hk); (try clear hi)))
  go_ret
  exact ⟨wQ, bE⟩

end Go.Proofs.Ytklhakfmegbobaa.X
