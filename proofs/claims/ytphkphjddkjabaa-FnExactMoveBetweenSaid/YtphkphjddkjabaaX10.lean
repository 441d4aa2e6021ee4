-- thin
-- short
-- compact
import Derived.Test.YtphkphjddkjabaaXA
import Derived.Test.YtphkphjddkjabaaX0
import Derived.Test.YtphkphjddkjabaaX9
namespace Go.Proofs.Ytphkphjddkjabaa.X
open Go.RowKit Go.Proofs.Ytphkphjddkjabaa.XW Go.Proofs.YtphkphjddkjabaaW.PrintWords Go.Proofs.YtphkphjddkjabaaW.PrintLast Go.Proofs.YtphkphjddkjabaaW.PrintMore
attribute [local go_sem] max2_int min2_int max_two min_two max_three min_three max_four min_four   -- for this text's walks alone
set_option linter.unusedVariables false
set_option linter.unusedSimpArgs false

def impl_turn.f (a0_0 : Int) (a0_1 : Int) (a1_0 : Int) (a1_1 : Int) (a2_0 : Int) (a2_1 : Int) : Option (Int) := (impl_Peg_less.f a1_0 a1_1 a0_0 a0_1).bind fun bt289 => ((impl_Peg_less.f a2_0 a2_1 a0_0 a0_1).bind fun bt291 => ((impl_cross.f bt289.1 bt289.2 bt291.1 bt291.2).bind fun t293 => (some t293)))
def impl_turn.T1 : Bool × List (List Nat × List Nat) := (true, [([], []), ([], []), ([0, 1], [0, 1]), ([], []), ([], []), ([3, 4, 2], [3, 4]), ([2, 5, 5], [2, 5]), ([6, 6, 0, 1, 2, 3, 4, 5, 6], [6])])
def impl_turn.B1 : List Nat := [0, 0, 3, 0, 0, 31, 63, 127]
theorem impl_turn.tab1 : rtab .any (opsOf Try.f32 1) = impl_turn.T1 := by kernel_rfl
theorem impl_turn.bits1 : waitsOk impl_turn.T1.2 impl_turn.B1 = true := by kernel_rfl
set_option maxHeartbeats 8000000 in
set_option maxRecDepth 100000 in
theorem impl_turn.calls (a0_0 : Int) (a0_1 : Int) (a1_0 : Int) (a1_1 : Int) (a2_0 : Int) (a2_1 : Int) (r : Int) (w : World) (h : impl_turn.f a0_0 a0_1 a1_0 a1_1 a2_0 a2_1 = some r) :
  Calls Try.prog 32 #[.agg #[.int .i64 a0_0, .int .i64 a0_1], .agg #[.int .i64 a1_0, .int .i64 a1_1], .agg #[.int .i64 a2_0, .int .i64 a2_1]] w fun e w' => e = .returned (.int .i64 r) ∧ Below w.heap.size w w' := by
 have hu38 := Try.underlying38; have HB := aM (Below.refl w.heap.size w)
 unfold impl_turn.f at h; have H := h; clear h
 replace H := bS H; obtain ⟨⟨t289, t290⟩, A4, H⟩ := H; replace H := bS H; obtain ⟨⟨t291, t292⟩, A5, H⟩ := H; replace H := bS H; obtain ⟨t293, A6, H⟩ := H; obtain rfl := Option.some.inj H
 go_enter Try.func32, Try.ntmps32
 try go_wp2_with (first | ((with_reducible refine gate_dst (N := 3) rfl ?_); refine bV 3 (cs := #[.int .i64 a0_0, .int .i64 a0_1]) (t := 38) rfl rfl (by first | (go_simp; done) | (go_simp; rfl)) ?_; intro gb286 hg w7 hbox hb; have BK286 := hbox; have GW286 := gZ HB hg; have GE286 := gZ HB hg; replace HB := tB HB hb; clear hb hbox hg) | ((with_reducible refine gate_dst (N := 4) rfl ?_); refine bV 4 (cs := #[.int .i64 a1_0, .int .i64 a1_1]) (t := 38) rfl rfl (by first | (go_simp; done) | (go_simp; rfl)) ?_; intro gb287 hg w8 hbox hb; have BK287 := hbox; have GW287 := gZ HB hg; have GE287 := gZ HB hg; have NB286_287 := nG BK286 hg; have NB287_286 := nH BK286 hg; replace BK286 := bB BK286 hb; replace HB := tB HB hb; clear hb hbox hg) | ((with_reducible refine gate_dst (N := 5) rfl ?_); refine bV 5 (cs := #[.int .i64 a2_0, .int .i64 a2_1]) (t := 38) rfl rfl (by first | (go_simp; done) | (go_simp; rfl)) ?_; intro gb288 hg w9 hbox hb; have BK288 := hbox; have GW288 := gZ HB hg; have GE288 := gZ HB hg; have NB286_288 := nG BK286 hg; have NB288_286 := nH BK286 hg; have NB287_288 := nG BK287 hg; have NB288_287 := nH BK287 hg; replace BK286 := bB BK286 hb; replace BK287 := bB BK287 hb; replace HB := tB HB hb; clear hb hbox hg))
 replace BK286 := aM (kD BK286.out); replace BK287 := aM (kD BK287.out); replace BK288 := aM (kD BK288.out); replace HB := aM (pD HB.out)
 refine start_ (n := 8) (S := fun w' => w'.cell? ⟨gb287, 0, none⟩ = some (.int .i64 a1_0) ∧ w'.cell? ⟨gb287, 1, none⟩ = some (.int .i64 a1_1) ∧ w'.cell? ⟨gb286, 0, none⟩ = some (.int .i64 a0_0) ∧ w'.cell? ⟨gb286, 1, none⟩ = some (.int .i64 a0_1) ∧ w'.cell? ⟨gb288, 0, none⟩ = some (.int .i64 a2_0) ∧ w'.cell? ⟨gb288, 1, none⟩ = some (.int .i64 a2_1)) (ds := []) (bA 8 0) kR rfl kR ⟨vZ0 BK287, vZ1 BK287, vZ0 BK286, vZ1 BK286, vZ0 BK288, vZ1 BK288⟩ (fun hHeld => ?_); refine with_tabW impl_turn.tab1 impl_turn.bits1 (fun HT_ HW_ => ?_)
 generalize w9.drew = w10 at BK286 BK287 BK288 HB hHeld ⊢
 refine tU 0 7 (bA 8 1) HT_ HW_ hHeld ?_ (hy := Or.inl ⟨by rfl, by rintro w' ⟨s0, s1, s2, s3, s4, s5⟩; go_simp; with_reducible rfl⟩)
 refine tU 1 8 (bA 8 3) HT_ HW_ hHeld ?_ (hy := Or.inl ⟨by rfl, by rintro w' ⟨s0, s1, s2, s3, s4, s5⟩; go_simp; with_reducible rfl⟩)
 refine tU 3 10 (bA 8 11) HT_ HW_ hHeld ?_ (hy := Or.inl ⟨by rfl, by rintro w' ⟨s0, s1, s2, s3, s4, s5⟩; go_simp; with_reducible rfl⟩)
 refine tU 4 11 (bA 8 27) HT_ HW_ hHeld ?_ (hy := Or.inl ⟨by rfl, by rintro w' ⟨s0, s1, s2, s3, s4, s5⟩; go_simp; with_reducible rfl⟩)
 refine oU 2 9 (bA 8 31) HT_ (fun K hK => ?_)
 refine goes_ Try.func35 kR rfl #[.agg #[.int .i64 a1_0, .int .i64 a1_1], .agg #[.int .i64 a0_0, .int .i64 a0_1]] (by rfl) rfl rfl sQ ?_
 with_reducible refine (impl_Peg_less.calls a1_0 a1_1 a0_0 a0_1 t289 t290 _ A4.out).mono ?_
 rintro e w11 ⟨rfl, hb⟩; refine ⟨_, rfl, ?_⟩; replace BK286 := bB BK286 hb; replace BK287 := bB BK287 hb; replace BK288 := bB BK288 hb; replace HB := tB HB hb; (try clear hb); (try clear hb2); (try clear hk); (try clear hi)
 refine hK.out _ _ ⟨vZ0 BK287, vZ1 BK287, vZ0 BK286, vZ1 BK286, vZ0 BK288, vZ1 BK288⟩ (fun hHeld => ?_)
 clear hK K
 refine nU ?_
 refine oU 5 12 (bA 8 63) HT_ (fun K hK => ?_)
 refine goes_ Try.func35 kR rfl #[.agg #[.int .i64 a2_0, .int .i64 a2_1], .agg #[.int .i64 a0_0, .int .i64 a0_1]] (by rfl) rfl rfl sQ ?_
 with_reducible refine (impl_Peg_less.calls a2_0 a2_1 a0_0 a0_1 t291 t292 _ A5.out).mono ?_
 rintro e w12 ⟨rfl, hb⟩; refine ⟨_, rfl, ?_⟩; replace BK286 := bB BK286 hb; replace BK287 := bB BK287 hb; replace BK288 := bB BK288 hb; replace HB := tB HB hb; (try clear hb); (try clear hb2); (try clear hk); (try clear hi)
 refine hK.out _ _ ⟨vZ0 BK287, vZ1 BK287, vZ0 BK286, vZ1 BK286, vZ0 BK288, vZ1 BK288⟩ (fun hHeld => ?_)
 clear hK K
 refine nU ?_
 refine oU 6 13 (bA 8 127) HT_ (fun K hK => ?_)
 refine goes_ Try.func39 kR rfl #[.agg #[.int .i64 t289, .int .i64 t290], .agg #[.int .i64 t291, .int .i64 t292]] (by rfl) rfl rfl sQ ?_
 with_reducible refine (impl_cross.calls t289 t290 t291 t292 t293 _ A6.out).mono ?_
 rintro e w13 ⟨rfl, hb⟩; refine ⟨_, rfl, ?_⟩; replace BK286 := bB BK286 hb; replace BK287 := bB BK287 hb; replace BK288 := bB BK288 hb; replace HB := tB HB hb; (try clear hb); (try clear hb2); (try clear hk); (try clear hi)
 refine hK.out _ _ ⟨vZ0 BK287, vZ1 BK287, vZ0 BK286, vZ1 BK286, vZ0 BK288, vZ1 BK288⟩ (fun hHeld => ?_)
 clear hK K
 refine nU ?_
 refine pU 7 6 (bA 8 255) HT_ ?_
 refine done_ (done_of HT_.out kR) ?_
 try go_wp2
 go_ret
 exact ⟨wQ, bE⟩

def impl_at.f (l0 : List (S_impl_Peg)) (a1 : Int) : Option (Int × Int) := if (l0.length : Int) = 0 then (none) else (if 0 ≤ (Int.tmod (wrap64 ((Int.tmod a1 (l0.length : Int)) + (l0.length : Int))) (l0.length : Int)) then (if (Int.tmod (wrap64 ((Int.tmod a1 (l0.length : Int)) + (l0.length : Int))) (l0.length : Int)) < (l0.length : Int) then (some ((rd_impl_Peg l0 (Int.tmod (wrap64 ((Int.tmod a1 (l0.length : Int)) + (l0.length : Int))) (l0.length : Int))).f0, (rd_impl_Peg l0 (Int.tmod (wrap64 ((Int.tmod a1 (l0.length : Int)) + (l0.length : Int))) (l0.length : Int))).f1)) else (none)) else (none))
set_option maxHeartbeats 8000000 in
set_option maxRecDepth 100000 in
theorem impl_at.calls (A0 : Option Addr) (c0 : Nat) (l0 : List (S_impl_Peg)) (a1 : Int) (r1 : Int) (r2 : Int) (w : World) (hr0 : Kd.C kd_impl_Peg w A0 l0.length l0) (hc0 : l0.length ≤ c0) (h : impl_at.f l0 a1 = some (r1, r2)) :
  Calls Try.prog 33 #[.slice A0 l0.length c0, .int .i64 a1] w fun e w' => e = .returned (.agg #[.int .i64 r1, .int .i64 r2]) ∧ Below w.heap.size w w' := by
 have hu38 := Try.underlying38; have HR0 := aM hr0; have HC0 := aM hc0; clear hr0 hc0; have HB := aM (Below.refl w.heap.size w)
 unfold impl_at.f at h; have H := h; clear h
 replace H := iM H; obtain ⟨c3, H⟩ := H; have c3b0 : ((l0.length : Int) == 0) = false := beq_eq_false_iff_ne.mpr c3; have c3b1 : ((l0.length : Int) != 0) = true := bne_iff_ne.mpr c3; have c3b2 : ¬ (l0 = []) := fun h_ => c3 (by rw [h_]; rfl)
 obtain ⟨ji4, hji4⟩ : ∃ j_ : Int, (Int.tmod (wrap64 ((Int.tmod a1 (l0.length : Int)) + (l0.length : Int))) (l0.length : Int)) = j_ := ⟨_, rfl⟩
 (first | rw [hji4] at H | simp only [hji4] at H)
 replace H := iD H; obtain ⟨c5b0, H⟩ := H; replace H := iD H; obtain ⟨c6b0, H⟩ := H
 simp only [Option.some.injEq, Prod.mk.injEq] at H
 obtain ⟨rfl, rfl⟩ := H
 go_enter Try.func33, Try.ntmps33
 go_wp2_with (first | ((with_reducible refine gate_dst (N := 4) rfl ?_); refine bV 4 (cs := #[.int .i64 0, .int .i64 0]) (t := 38) rfl rfl (by first | (go_simp; done) | (go_simp; rfl)) ?_; intro gb294 hg w7 hbox hb; have BK294 := hbox; have GW294 := gZ HB hg; have GE294 := gZ HB hg; replace HB := tB HB hb; clear hb hbox hg; have p295 : 0 ≤ ((ji4) : Int) := dT aQ; have q295 : (ji4) < (l0.length : Int) := dT aQ; obtain ⟨ad295, e295, hx295_0, hx295_1⟩ := at_impl_Peg HR0.out (ji4) p295 q295; cases e295; replace hx295_0 := hC HB hx295_0; replace hx295_1 := hC HB hx295_1; replace p295 := eq_true p295; replace q295 := eq_true q295; have hcz8_0 := vZ0 BK294; have hcz8_1 := vZ1 BK294; have hfz8_0 := kF BK294.out 0; have hfz8_1 := kF BK294.out 1))
 refine bodyPost_ret (results_cell_row rfl _ _ gb294 38 #[.int .i64 ((rd_impl_Peg l0 (ji4)).f0), .int .i64 ((rd_impl_Peg l0 (ji4)).f1)] (0, 0) _ rfl (fQ BK294) Try.underlying38 rfl kR) rfl ?_
 exact ⟨by first | rfl | (simp [errW_none, errW_some] <;> rfl) | (simp only [← hji4]; first | rfl | (simp [errW_none, errW_some] <;> rfl)) | (simp [*, errW_none, errW_some] <;> rfl), bE⟩
def impl_sign.f (a0 : Int) : Option (Int) := some (mn 1 (mx (-1) a0))
set_option maxHeartbeats 8000000 in
set_option maxRecDepth 100000 in
theorem impl_sign.calls (a0 : Int) (r : Int) (w : World) (h : impl_sign.f a0 = some r) :
  Calls Try.prog 48 #[.int .i64 a0] w fun e w' => e = .returned (.int .i64 r) ∧ Below w.heap.size w w' := by
 have HB := aM (Below.refl w.heap.size w)
 unfold impl_sign.f at h; have H := h; clear h
 obtain ⟨ji2, hji2⟩ : ∃ j_ : Int, (mx (-1) a0) = j_ := ⟨_, rfl⟩
 (first | rw [hji2] at H | simp only [hji2] at H)
 have hji2_ : (if (-1) < a0 then a0 else (-1)) = ji2 := hji2; obtain ⟨ji3, hji3⟩ : ∃ j_ : Int, (mn 1 (ji2)) = j_ := ⟨_, rfl⟩
 (first | rw [hji3] at H | simp only [hji3] at H)
 have hji3_ : (if (ji2) < 1 then (ji2) else 1) = ji3 := hji3; obtain rfl := Option.some.inj H
 go_enter Try.func48, Try.ntmps48
 go_wp2
 go_ret
 exact ⟨by first | rfl | (simp [errW_none, errW_some] <;> rfl) | (simp only [← hji2, ← hji3]; first | rfl | (simp [errW_none, errW_some] <;> rfl)) | (simp [*, errW_none, errW_some] <;> rfl), bQ⟩

def impl_isOn.f (a0_0 : Int) (a0_1 : Int) (a1_0 : Int) (a1_1 : Int) (a2_0 : Int) (a2_1 : Int) : Option (Bool) := (impl_turn.f a0_0 a0_1 a1_0 a1_1 a2_0 a2_1).bind fun t299 => (if t299 = 0 then ((impl_within.f a2_0 (mn a0_0 a1_0) (mx a0_0 a1_0)).bind fun t300 => (if t300 = true then ((impl_within.f a2_1 (mn a0_1 a1_1) (mx a0_1 a1_1)).bind fun t301 => (some t301)) else (some false))) else (some false))
set_option maxHeartbeats 8000000 in
set_option maxRecDepth 100000 in
theorem impl_isOn.calls (a0_0 : Int) (a0_1 : Int) (a1_0 : Int) (a1_1 : Int) (a2_0 : Int) (a2_1 : Int) (r : Bool) (w : World) (h : impl_isOn.f a0_0 a0_1 a1_0 a1_1 a2_0 a2_1 = some r) :
  Calls Try.prog 49 #[.agg #[.int .i64 a0_0, .int .i64 a0_1], .agg #[.int .i64 a1_0, .int .i64 a1_1], .agg #[.int .i64 a2_0, .int .i64 a2_1]] w fun e w' => e = .returned (.bool r) ∧ Below w.heap.size w w' := by
 have hu38 := Try.underlying38; have HB := aM (Below.refl w.heap.size w)
 unfold impl_isOn.f at h; have H := h; clear h
 replace H := bS H; obtain ⟨t299, A4, H⟩ := H
 by_cases c5 : t299 = 0
 ·rw [if_pos c5] at H; have c5b0 : (t299 == 0) = true := beq_iff_eq.mpr c5; have c5b1 : (t299 != 0) = false := bne_eq_false_iff_eq.mpr c5; clear c5; obtain ⟨ji6, hji6⟩ : ∃ j_ : Int, (mn a0_0 a1_0) = j_ := ⟨_, rfl⟩
  (first | rw [hji6] at H | simp only [hji6] at H)
  (try rw [hji6] at A4)
  have hji6_ : (if a1_0 < a0_0 then a1_0 else a0_0) = ji6 := hji6; obtain ⟨ji7, hji7⟩ : ∃ j_ : Int, (mx a0_0 a1_0) = j_ := ⟨_, rfl⟩
  (first | rw [hji7] at H | simp only [hji7] at H)
  (try rw [hji7] at A4)
  have hji7_ : (if a0_0 < a1_0 then a1_0 else a0_0) = ji7 := hji7; replace H := bS H; obtain ⟨t300, A8, H⟩ := H
  by_cases c9 : t300 = true
  ·subst c9; replace H := iT H; obtain ⟨ji10, hji10⟩ : ∃ j_ : Int, (mn a0_1 a1_1) = j_ := ⟨_, rfl⟩
   (first | rw [hji10] at H | simp only [hji10] at H)
   (try rw [hji10] at A4)
   (try rw [hji10] at A8)
   have hji10_ : (if a1_1 < a0_1 then a1_1 else a0_1) = ji10 := hji10; obtain ⟨ji11, hji11⟩ : ∃ j_ : Int, (mx a0_1 a1_1) = j_ := ⟨_, rfl⟩
   (first | rw [hji11] at H | simp only [hji11] at H)
   (try rw [hji11] at A4)
   (try rw [hji11] at A8)
   have hji11_ : (if a0_1 < a1_1 then a1_1 else a0_1) = ji11 := hji11; replace H := bS H; obtain ⟨t301, A12, H⟩ := H; obtain rfl := Option.some.inj H
   go_enter Try.func49, Try.ntmps49
   go_wp2_with (first | ((with_reducible refine gate_dst (N := 3) rfl ?_); (try (refine gate_guard (by rfl) ?_; dsimp only)); refine bV 3 (cs := #[.int .i64 a0_0, .int .i64 a0_1]) (t := 38) rfl rfl (by first | (go_simp; done) | (go_simp; rfl)) ?_; intro gb296 hg w13 hbox hb; have BK296 := hbox; have GW296 := gZ HB hg; have GE296 := gZ HB hg; replace HB := tB HB hb; clear hb hbox hg) | ((with_reducible refine gate_dst (N := 4) rfl ?_); (try (refine gate_guard (by rfl) ?_; dsimp only)); refine bV 4 (cs := #[.int .i64 a1_0, .int .i64 a1_1]) (t := 38) rfl rfl (by first | (go_simp; done) | (go_simp; rfl)) ?_; intro gb297 hg w14 hbox hb; have BK297 := hbox; have GW297 := gZ HB hg; have GE297 := gZ HB hg; have NB296_297 := nG BK296 hg; have NB297_296 := nH BK296 hg; replace BK296 := bB BK296 hb; replace HB := tB HB hb; clear hb hbox hg) | ((with_reducible refine gate_dst (N := 5) rfl ?_); (try (refine gate_guard (by rfl) ?_; dsimp only)); refine bV 5 (cs := #[.int .i64 a2_0, .int .i64 a2_1]) (t := 38) rfl rfl (by first | (go_simp; done) | (go_simp; rfl)) ?_; intro gb298 hg w15 hbox hb; have BK298 := hbox; have GW298 := gZ HB hg; have GE298 := gZ HB hg; have NB296_298 := nG BK296 hg; have NB298_296 := nH BK296 hg; have NB297_298 := nG BK297 hg; have NB298_297 := nH BK297 hg; replace BK296 := bB BK296 hb; replace BK297 := bB BK297 hb; replace HB := tB HB hb; clear hb hbox hg; have hnb16 := NB296_297.out; have hnc16 := NB297_296.out; have hnb17 := NB296_298.out; have hnc17 := NB298_296.out; have hcz18_0 := vZ0 BK296; have hcz18_1 := vZ1 BK296; have hfz18_0 := kF BK296.out 0; have hfz18_1 := kF BK296.out 1; have hnb19 := NB297_298.out; have hnc19 := NB298_297.out; have hcz20_0 := vZ0 BK297; have hcz20_1 := vZ1 BK297; have hfz20_0 := kF BK297.out 0; have hfz20_1 := kF BK297.out 1; have hcz21_0 := vZ0 BK298; have hcz21_1 := vZ1 BK298; have hfz21_0 := kF BK298.out 0; have hfz21_1 := kF BK298.out 1) | ((with_reducible refine gC (f := 32) rfl ?_); refine goesL_ (some 10) rfl rfl Try.func32 kR rfl #[.agg #[.int .i64 a0_0, .int .i64 a0_1], .agg #[.int .i64 a1_0, .int .i64 a1_1], .agg #[.int .i64 a2_0, .int .i64 a2_1]] rfl sQ ?_; (with_reducible refine (impl_turn.calls a0_0 a0_1 a1_0 a1_1 a2_0 a2_1 t299 _ A4.out).mono ?_); rintro e w22 ⟨rfl, hb⟩; refine ⟨_, rfl, ?_⟩; replace BK296 := bB BK296 hb; replace BK297 := bB BK297 hb; replace BK298 := bB BK298 hb; replace HB := tB HB hb; (try clear hb); (try clear hb2); (try clear hk); (try clear hi); have hcz23_0 := vZ0 BK298; have hcz23_1 := vZ1 BK298; have hfz23_0 := kF BK298.out 0; have hfz23_1 := kF BK298.out 1; have hcz24_0 := vZ0 BK296; have hcz24_1 := vZ1 BK296; have hfz24_0 := kF BK296.out 0; have hfz24_1 := kF BK296.out 1; have hcz25_0 := vZ0 BK297; have hcz25_1 := vZ1 BK297; have hfz25_0 := kF BK297.out 0; have hfz25_1 := kF BK297.out 1) | (go_at_call 29; (with_reducible refine (impl_within.calls a2_0 ji6 ji7 true _ A8.out).mono ?_); rintro e w' ⟨rfl, ⟨nd, rfl⟩⟩) | (go_at_call 29; (with_reducible refine (impl_within.calls a2_1 ji10 ji11 t301 _ A12.out).mono ?_); rintro e w' ⟨rfl, ⟨nd, rfl⟩⟩))
   go_ret
   exact ⟨by first | rfl | (simp [errW_none, errW_some] <;> rfl) | (simp only [← hji6, ← hji7, ← hji10, ← hji11]; first | rfl | (simp [errW_none, errW_some] <;> rfl)) | (simp [*, errW_none, errW_some] <;> rfl), bE⟩
  ·replace c9 := Bool.eq_false_iff.mpr c9; subst c9; replace H := iF H; obtain rfl := Option.some.inj H
   go_enter Try.func49, Try.ntmps49
   go_wp2_with (first | ((with_reducible refine gate_dst (N := 3) rfl ?_); (try (refine gate_guard (by rfl) ?_; dsimp only)); refine bV 3 (cs := #[.int .i64 a0_0, .int .i64 a0_1]) (t := 38) rfl rfl (by first | (go_simp; done) | (go_simp; rfl)) ?_; intro gb296 hg w26 hbox hb; have BK296 := hbox; have GW296 := gZ HB hg; have GE296 := gZ HB hg; replace HB := tB HB hb; clear hb hbox hg) | ((with_reducible refine gate_dst (N := 4) rfl ?_); (try (refine gate_guard (by rfl) ?_; dsimp only)); refine bV 4 (cs := #[.int .i64 a1_0, .int .i64 a1_1]) (t := 38) rfl rfl (by first | (go_simp; done) | (go_simp; rfl)) ?_; intro gb297 hg w27 hbox hb; have BK297 := hbox; have GW297 := gZ HB hg; have GE297 := gZ HB hg; have NB296_297 := nG BK296 hg; have NB297_296 := nH BK296 hg; replace BK296 := bB BK296 hb; replace HB := tB HB hb; clear hb hbox hg) | ((with_reducible refine gate_dst (N := 5) rfl ?_); (try (refine gate_guard (by rfl) ?_; dsimp only)); refine bV 5 (cs := #[.int .i64 a2_0, .int .i64 a2_1]) (t := 38) rfl rfl (by first | (go_simp; done) | (go_simp; rfl)) ?_; intro gb298 hg w28 hbox hb; have BK298 := hbox; have GW298 := gZ HB hg; have GE298 := gZ HB hg; have NB296_298 := nG BK296 hg; have NB298_296 := nH BK296 hg; have NB297_298 := nG BK297 hg; have NB298_297 := nH BK297 hg; replace BK296 := bB BK296 hb; replace BK297 := bB BK297 hb; replace HB := tB HB hb; clear hb hbox hg; have hnb29 := NB296_297.out; have hnc29 := NB297_296.out; have hnb30 := NB296_298.out; have hnc30 := NB298_296.out; have hcz31_0 := vZ0 BK296; have hcz31_1 := vZ1 BK296; have hfz31_0 := kF BK296.out 0; have hfz31_1 := kF BK296.out 1; have hnb32 := NB297_298.out; have hnc32 := NB298_297.out; have hcz33_0 := vZ0 BK297; have hcz33_1 := vZ1 BK297; have hfz33_0 := kF BK297.out 0; have hfz33_1 := kF BK297.out 1; have hcz34_0 := vZ0 BK298; have hcz34_1 := vZ1 BK298; have hfz34_0 := kF BK298.out 0; have hfz34_1 := kF BK298.out 1) | ((with_reducible refine gC (f := 32) rfl ?_); refine goesL_ (some 10) rfl rfl Try.func32 kR rfl #[.agg #[.int .i64 a0_0, .int .i64 a0_1], .agg #[.int .i64 a1_0, .int .i64 a1_1], .agg #[.int .i64 a2_0, .int .i64 a2_1]] rfl sQ ?_; (with_reducible refine (impl_turn.calls a0_0 a0_1 a1_0 a1_1 a2_0 a2_1 t299 _ A4.out).mono ?_); rintro e w35 ⟨rfl, hb⟩; refine ⟨_, rfl, ?_⟩; replace BK296 := bB BK296 hb; replace BK297 := bB BK297 hb; replace BK298 := bB BK298 hb; replace HB := tB HB hb; (try clear hb); (try clear hb2); (try clear hk); (try clear hi); have hcz36_0 := vZ0 BK298; have hcz36_1 := vZ1 BK298; have hfz36_0 := kF BK298.out 0; have hfz36_1 := kF BK298.out 1; have hcz37_0 := vZ0 BK296; have hcz37_1 := vZ1 BK296; have hfz37_0 := kF BK296.out 0; have hfz37_1 := kF BK296.out 1; have hcz38_0 := vZ0 BK297; have hcz38_1 := vZ1 BK297; have hfz38_0 := kF BK297.out 0; have hfz38_1 := kF BK297.out 1) | (go_at_call 29; (with_reducible refine (impl_within.calls a2_0 ji6 ji7 false _ A8.out).mono ?_); rintro e w' ⟨rfl, ⟨nd, rfl⟩⟩))
   go_ret
   exact ⟨by first | rfl | (simp [errW_none, errW_some] <;> rfl) | (simp only [← hji6, ← hji7]; first | rfl | (simp [errW_none, errW_some] <;> rfl)) | (simp [*, errW_none, errW_some] <;> rfl), bE⟩
 ·rw [if_neg c5] at H; have c5b0 : (t299 == 0) = false := beq_eq_false_iff_ne.mpr c5; have c5b1 : (t299 != 0) = true := bne_iff_ne.mpr c5; obtain rfl := Option.some.inj H
  go_enter Try.func49, Try.ntmps49
  go_wp2_with (first | ((with_reducible refine gate_dst (N := 3) rfl ?_); (try (refine gate_guard (by rfl) ?_; dsimp only)); refine bV 3 (cs := #[.int .i64 a0_0, .int .i64 a0_1]) (t := 38) rfl rfl (by first | (go_simp; done) | (go_simp; rfl)) ?_; intro gb296 hg w39 hbox hb; have BK296 := hbox; have GW296 := gZ HB hg; have GE296 := gZ HB hg; replace HB := tB HB hb; clear hb hbox hg) | ((with_reducible refine gate_dst (N := 4) rfl ?_); (try (refine gate_guard (by rfl) ?_; dsimp only)); refine bV 4 (cs := #[.int .i64 a1_0, .int .i64 a1_1]) (t := 38) rfl rfl (by first | (go_simp; done) | (go_simp; rfl)) ?_; intro gb297 hg w40 hbox hb; have BK297 := hbox; have GW297 := gZ HB hg; have GE297 := gZ HB hg; have NB296_297 := nG BK296 hg; have NB297_296 := nH BK296 hg; replace BK296 := bB BK296 hb; replace HB := tB HB hb; clear hb hbox hg) | ((with_reducible refine gate_dst (N := 5) rfl ?_); (try (refine gate_guard (by rfl) ?_; dsimp only)); refine bV 5 (cs := #[.int .i64 a2_0, .int .i64 a2_1]) (t := 38) rfl rfl (by first | (go_simp; done) | (go_simp; rfl)) ?_; intro gb298 hg w41 hbox hb; have BK298 := hbox; have GW298 := gZ HB hg; have GE298 := gZ HB hg; have NB296_298 := nG BK296 hg; have NB298_296 := nH BK296 hg; have NB297_298 := nG BK297 hg; have NB298_297 := nH BK297 hg; replace BK296 := bB BK296 hb; replace BK297 := bB BK297 hb; replace HB := tB HB hb; clear hb hbox hg; have hnb42 := NB296_297.out; have hnc42 := NB297_296.out; have hnb43 := NB296_298.out; have hnc43 := NB298_296.out; have hcz44_0 := vZ0 BK296; have hcz44_1 := vZ1 BK296; have hfz44_0 := kF BK296.out 0; have hfz44_1 := kF BK296.out 1; have hnb45 := NB297_298.out; have hnc45 := NB298_297.out; have hcz46_0 := vZ0 BK297; have hcz46_1 := vZ1 BK297; have hfz46_0 := kF BK297.out 0; have hfz46_1 := kF BK297.out 1; have hcz47_0 := vZ0 BK298; have hcz47_1 := vZ1 BK298; have hfz47_0 := kF BK298.out 0; have hfz47_1 := kF BK298.out 1) | ((with_reducible refine gC (f := 32) rfl ?_); refine goesL_ (some 10) rfl rfl Try.func32 kR rfl #[.agg #[.int .i64 a0_0, .int .i64 a0_1], .agg #[.int .i64 a1_0, .int .i64 a1_1], .agg #[.int .i64 a2_0, .int .i64 a2_1]] rfl sQ ?_; (with_reducible refine (impl_turn.calls a0_0 a0_1 a1_0 a1_1 a2_0 a2_1 t299 _ A4.out).mono ?_); rintro e w48 ⟨rfl, hb⟩; refine ⟨_, rfl, ?_⟩; replace BK296 := bB BK296 hb; replace BK297 := bB BK297 hb; replace BK298 := bB BK298 hb; replace HB := tB HB hb; (try clear hb); (try clear hb2); (try clear hk); (try clear hi)))
  go_ret
  exact ⟨wQ, bE⟩

end Go.Proofs.Ytphkphjddkjabaa.X
