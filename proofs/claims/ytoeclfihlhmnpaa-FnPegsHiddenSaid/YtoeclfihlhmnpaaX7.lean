-- thin
-- short
-- compact
import Derived.Test.YtoeclfihlhmnpaaXA
import Derived.Test.YtoeclfihlhmnpaaX0
import Derived.Test.YtoeclfihlhmnpaaX2
import Derived.Test.YtoeclfihlhmnpaaX3
import Derived.Test.YtoeclfihlhmnpaaX6
namespace Go.Proofs.Ytoeclfihlhmnpaa.X
open Go.RowKit Go.Proofs.Ytoeclfihlhmnpaa.XW Go.Proofs.YtoeclfihlhmnpaaW.PrintWords Go.Proofs.YtoeclfihlhmnpaaW.PrintLast Go.Proofs.YtoeclfihlhmnpaaW.PrintMore
attribute [local go_sem] max2_int min2_int max_two min_two max_three min_three max_four min_four   -- for this text's walks alone
set_option linter.unusedVariables false
set_option linter.unusedSimpArgs false

attribute [local go_sem high] eqA48
def impl_IsPuzzle.f (k : Nat) (a0_0 : Int) (l0_1 : List (S_impl_Clue)) : Option (Bool) := (impl_isSide.f a0_0).bind fun t172 => (if t172 = true then (if (l0_1.length : Int) ≤ 6 then ((slices_ContainsFunc_impl_Clue_at_impl_IsPuzzle_1.f k l0_1 a0_0 l0_1).bind fun t173 => (some (!t173))) else (some false)) else (some false))
theorem impl_IsPuzzle.mono : ∀ a0 a1 k, LeO (impl_IsPuzzle.f k a0 a1) (impl_IsPuzzle.f (k + 1) a0 a1) := by
 intro a0 a1 k
 unfold impl_IsPuzzle.f
 repeat' first | (with_reducible exact slices_ContainsFunc_impl_Clue_at_impl_IsPuzzle_1.mono _ _ _ _) | (with_reducible exact LeO.refl _) | (with_reducible exact LeO.none _) | (with_reducible refine LeO.ite ?_ ?_) | (with_reducible refine LeO.bind ?_ (fun _ => ?_)) | exact slices_ContainsFunc_impl_Clue_at_impl_IsPuzzle_1.mono _ _ _ _ | exact LeO.none _ | refine LeO.ite ?_ ?_ | refine LeO.bind ?_ (fun _ => ?_)
set_option maxHeartbeats 8000000 in
set_option maxRecDepth 100000 in
theorem impl_IsPuzzle.calls (k : Nat) (a0_0 : Int) (A0_1 : Option Addr) (c0_1 : Nat) (l0_1 : List (S_impl_Clue)) (r : Bool) (w : World) (hr0_1 : Kd.C kd_impl_Clue w A0_1 l0_1.length l0_1) (hc0_1 : l0_1.length ≤ c0_1) (h : impl_IsPuzzle.f k a0_0 l0_1 = some r) :
  Calls Try.prog 19 #[.agg #[.int .i64 a0_0, .slice A0_1 l0_1.length c0_1]] w fun e w' => e = .returned (.bool r) ∧ Below w.heap.size w w' := by
 have hu31 := Try.underlying31; have HR0_1 := aM hr0_1; have HC0_1 := aM hc0_1; clear hr0_1 hc0_1; have HB := aM (Below.refl w.heap.size w)
 unfold impl_IsPuzzle.f at h; have H := h; clear h
 replace H := bS H; obtain ⟨t172, A2, H⟩ := H
 by_cases c3 : t172 = true
 ·subst c3; replace H := iT H
  by_cases c4 : (l0_1.length : Int) ≤ 6
  ·rw [if_pos c4] at H; have c4b0 := dE c4; have c4b1 : decide (l0_1.length ≤ 6) = true := dE (by omega)
   clear c4; replace H := bS H; obtain ⟨t173, A5, H⟩ := H; obtain rfl := Option.some.inj H
   go_enter Try.func19, Try.ntmps19
   go_wp2_with (first | ((with_reducible refine gate_dst (N := 1) rfl ?_); (try (refine gate_guard (by rfl) ?_; dsimp only)); refine bV 1 (cs := #[.int .i64 a0_0, .slice A0_1 l0_1.length c0_1]) (t := 31) rfl rfl (by first | (go_simp; done) | (go_simp; rfl)) ?_; intro gb171 hg w6 hbox hb; have BK171 := hbox; have GW171 := gZ HB hg; have GE171 := gZ HB hg; replace HB := tB HB hb; clear hb hbox hg; have hcz7_0 := vZ0 BK171; have hcz7_1 := vZ1 BK171; have hfz7_0 := kF BK171.out 0; have hfz7_1 := kF BK171.out 1) | ((with_reducible refine gC (f := 62) rfl ?_); refine goesL_ (some 5) rfl rfl Try.func62 kR rfl #[.int .i64 a0_0] rfl sQ ?_; (with_reducible refine (impl_isSide.calls a0_0 true _ A2.out).mono ?_); rintro e w' ⟨rfl, ⟨nd, rfl⟩⟩; refine ⟨_, rfl, ?_⟩) | (go_at_call 63; (with_reducible refine (slices_ContainsFunc_impl_Clue_at_impl_IsPuzzle_1.calls k _ _ l0_1 gb171 a0_0 A0_1 c0_1 l0_1 t173 _ ?side1 ?side2 ?side3 ?side4 ?side5 A5.out).mono ?_); (case side1 => repeat (first | exact (Kd.C_below HR0_1.out bE) | (with_reducible refine cA ?_ _) | (with_reducible refine cN ?_ _) | (with_reducible refine cD ?_))); (case side2 => exact HC0_1.out); (case side3 => repeat (first | exact (Kd.C_below HR0_1.out bE) | (with_reducible refine cA ?_ _) | (with_reducible refine cN ?_ _) | (with_reducible refine cD ?_))); (case side4 => exact HC0_1.out); (case side5 => exact (gQ BK171)); rintro e w8 ⟨rfl, hb⟩; replace BK171 := bB BK171 hb; replace HB := tB HB hb; (try clear hb); (try clear hb2); (try clear hk); (try clear hi)))
   go_ret
   exact ⟨wQ, bE⟩
  ·rw [if_neg c4] at H; have c4b0 := decide_eq_false c4; have c4b1 : decide (l0_1.length ≤ 6) = false := decide_eq_false (by omega)
   clear c4; obtain rfl := Option.some.inj H
   go_enter Try.func19, Try.ntmps19
   go_wp2_with (first | ((with_reducible refine gate_dst (N := 1) rfl ?_); (try (refine gate_guard (by rfl) ?_; dsimp only)); refine bV 1 (cs := #[.int .i64 a0_0, .slice A0_1 l0_1.length c0_1]) (t := 31) rfl rfl (by first | (go_simp; done) | (go_simp; rfl)) ?_; intro gb171 hg w9 hbox hb; have BK171 := hbox; have GW171 := gZ HB hg; have GE171 := gZ HB hg; replace HB := tB HB hb; clear hb hbox hg; have hcz10_0 := vZ0 BK171; have hcz10_1 := vZ1 BK171; have hfz10_0 := kF BK171.out 0; have hfz10_1 := kF BK171.out 1) | ((with_reducible refine gC (f := 62) rfl ?_); refine goesL_ (some 5) rfl rfl Try.func62 kR rfl #[.int .i64 a0_0] rfl sQ ?_; (with_reducible refine (impl_isSide.calls a0_0 true _ A2.out).mono ?_); rintro e w' ⟨rfl, ⟨nd, rfl⟩⟩; refine ⟨_, rfl, ?_⟩))
   go_ret
   exact ⟨wQ, bE⟩
 ·replace c3 := Bool.eq_false_iff.mpr c3; subst c3; replace H := iF H; obtain rfl := Option.some.inj H
  go_enter Try.func19, Try.ntmps19
  go_wp2_with (first | ((with_reducible refine gate_dst (N := 1) rfl ?_); (try (refine gate_guard (by rfl) ?_; dsimp only)); refine bV 1 (cs := #[.int .i64 a0_0, .slice A0_1 l0_1.length c0_1]) (t := 31) rfl rfl (by first | (go_simp; done) | (go_simp; rfl)) ?_; intro gb171 hg w11 hbox hb; have BK171 := hbox; have GW171 := gZ HB hg; have GE171 := gZ HB hg; replace HB := tB HB hb; clear hb hbox hg; have hcz12_0 := vZ0 BK171; have hcz12_1 := vZ1 BK171; have hfz12_0 := kF BK171.out 0; have hfz12_1 := kF BK171.out 1) | ((with_reducible refine gC (f := 62) rfl ?_); refine goesL_ (some 5) rfl rfl Try.func62 kR rfl #[.int .i64 a0_0] rfl sQ ?_; (with_reducible refine (impl_isSide.calls a0_0 false _ A2.out).mono ?_); rintro e w' ⟨rfl, ⟨nd, rfl⟩⟩; refine ⟨_, rfl, ?_⟩))
  go_ret
  exact ⟨wQ, bE⟩

def impl_fits.f (k : Nat) (a0_0 : Int) (a0_1 : Int) (a0_2 : Int) (a0_3 : Int) (a1_0 : Int) (a1_1 : Int) : Option (Bool) := (impl_asHas.f k a0_0 a0_1 a0_2 a0_3 a1_0 a1_1).bind fun bt176 => (some (bt176.1 == a0_0 && (bt176.2.1 == a0_1 && (bt176.2.2.1 == a0_2 && (bt176.2.2.2 == a0_3)))))
theorem impl_fits.mono : ∀ a0 a1 a2 a3 a4 a5 k, LeO (impl_fits.f k a0 a1 a2 a3 a4 a5) (impl_fits.f (k + 1) a0 a1 a2 a3 a4 a5) := by
 intro a0 a1 a2 a3 a4 a5 k
 unfold impl_fits.f
 repeat' first | (with_reducible exact impl_asHas.mono _ _ _ _ _ _ _) | (with_reducible exact LeO.refl _) | (with_reducible exact LeO.none _) | (with_reducible refine LeO.ite ?_ ?_) | (with_reducible refine LeO.bind ?_ (fun _ => ?_)) | exact impl_asHas.mono _ _ _ _ _ _ _ | exact LeO.none _ | refine LeO.ite ?_ ?_ | refine LeO.bind ?_ (fun _ => ?_)
set_option maxHeartbeats 8000000 in
set_option maxRecDepth 100000 in
theorem impl_fits.calls (k : Nat) (a0_0 : Int) (a0_1 : Int) (a0_2 : Int) (a0_3 : Int) (a1_0 : Int) (a1_1 : Int) (r : Bool) (w : World) (h : impl_fits.f k a0_0 a0_1 a0_2 a0_3 a1_0 a1_1 = some r) :
  Calls Try.prog 65 #[.agg #[.int .i64 a0_0, .int .i64 a0_1, .int .i64 a0_2, .int .i64 a0_3], .agg #[.int .i64 a1_0, .int .i64 a1_1]] w fun e w' => e = .returned (.bool r) ∧ Below w.heap.size w w' := by
 have hu48 := Try.underlying48; have hu41 := Try.underlying41; have HB := aM (Below.refl w.heap.size w)
 unfold impl_fits.f at h; have H := h; clear h
 replace H := bS H; obtain ⟨⟨t176, t177, t178, t179⟩, A3, H⟩ := H; obtain rfl := Option.some.inj H
 go_enter Try.func65, Try.ntmps65
 try go_wp2_with (first | ((with_reducible refine gate_dst (N := 2) rfl ?_); refine bV 2 (cs := #[.int .i64 a0_0, .int .i64 a0_1, .int .i64 a0_2, .int .i64 a0_3]) (t := 48) rfl rfl (by first | (go_simp; done) | (go_simp; rfl)) ?_; intro gb174 hg w4 hbox hb; have BK174 := hbox; have GW174 := gZ HB hg; have GE174 := gZ HB hg; replace HB := tB HB hb; clear hb hbox hg) | ((with_reducible refine gate_dst (N := 3) rfl ?_); refine bV 3 (cs := #[.int .i64 a1_0, .int .i64 a1_1]) (t := 41) rfl rfl (by first | (go_simp; done) | (go_simp; rfl)) ?_; intro gb175 hg w5 hbox hb; have BK175 := hbox; have GW175 := gZ HB hg; have GE175 := gZ HB hg; have NB174_175 := nG BK174 hg; have NB175_174 := nH BK174 hg; replace BK174 := bB BK174 hb; replace HB := tB HB hb; clear hb hbox hg))
 replace BK174 := aM (kD BK174.out); replace BK175 := aM (kD BK175.out); replace HB := aM (pD HB.out)
 refine start_ (n := 6) (S := fun w' => w'.cell? ⟨gb174, 0, none⟩ = some (.int .i64 a0_0) ∧ w'.cell? ⟨gb174, 1, none⟩ = some (.int .i64 a0_1) ∧ w'.cell? ⟨gb174, 2, none⟩ = some (.int .i64 a0_2) ∧ w'.cell? ⟨gb174, 3, none⟩ = some (.int .i64 a0_3) ∧ w'.cell? ⟨gb175, 0, none⟩ = some (.int .i64 a1_0) ∧ w'.cell? ⟨gb175, 1, none⟩ = some (.int .i64 a1_1)) (ds := []) (bA 6 0) kR rfl kR ⟨vZ0 BK174, vZ1 BK174, vZ2 BK174, vZ3 BK174, vZ0 BK175, vZ1 BK175⟩ (fun hHeld => ?_)
 generalize w5.drew = w6 at BK174 BK175 HB hHeld ⊢
 refine take_ (i := 0) (N := some 5) (v := ?_) (a' := ?_) (bA 6 1) rfl rfl kR (fun _ _ _ h => h) (Or.inl ⟨by rfl, ?_⟩) hHeld ?_ ?_
 rotate_left
 ·rintro w' ⟨s0, s1, s2, s3, s4, s5⟩
  go_simp
  with_reducible rfl
 rotate_left
 ·simp only [Act.put, sI, sZ, sS, i64_w, i32_w]
  rfl
 refine take_ (i := 1) (N := some 6) (v := ?_) (a' := ?_) (bA 6 3) rfl rfl kR (fun _ _ _ h => h) (Or.inl ⟨by rfl, ?_⟩) hHeld ?_ ?_
 rotate_left
 ·rintro w' ⟨s0, s1, s2, s3, s4, s5⟩
  go_simp
  with_reducible rfl
 rotate_left
 ·simp only [Act.put, sI, sZ, sS, i64_w, i32_w]
  rfl
 refine take_ (i := 3) (N := some 8) (v := ?_) (a' := ?_) (bA 6 11) rfl rfl kR (fun _ _ _ h => h) (Or.inl ⟨by rfl, ?_⟩) hHeld ?_ ?_
 rotate_left
 ·rintro w' ⟨s0, s1, s2, s3, s4, s5⟩
  go_simp
  with_reducible rfl
 rotate_left
 ·simp only [Act.put, sI, sZ, sS, i64_w, i32_w]
  rfl
 refine one_ (i := 2) (N := some 7) (bA 6 15) rfl rfl kR (by decide) (fun K hK => ?_)
 refine goes_ Try.func56 kR rfl #[.agg #[.int .i64 a0_0, .int .i64 a0_1, .int .i64 a0_2, .int .i64 a0_3], .agg #[.int .i64 a1_0, .int .i64 a1_1]] (by rfl) rfl rfl sQ ?_
 with_reducible refine (impl_asHas.calls k a0_0 a0_1 a0_2 a0_3 a1_0 a1_1 t176 t177 t178 t179 _ A3.out).mono ?_
 rintro e w7 ⟨rfl, hb⟩; refine ⟨_, rfl, ?_⟩; replace BK174 := bB BK174 hb; replace BK175 := bB BK175 hb; replace HB := tB HB hb; (try clear hb); (try clear hb2); (try clear hk); (try clear hi)
 refine hK.out _ _ ⟨vZ0 BK174, vZ1 BK174, vZ2 BK174, vZ3 BK174, vZ0 BK175, vZ1 BK175⟩ (fun hHeld => ?_)
 clear hK K
 refine nU ?_
 refine pure_ (i := 4) (N := some 9) (v := ?_) (a' := ?_) (bA 6 31) rfl rfl kR (fun _ _ _ h => h) (Or.inl ⟨by rfl, ?_⟩) ?_ ?_
 rotate_left
 ·intro w'
  go_simp
  with_reducible rfl
 rotate_left
 ·simp only [Act.put, sI, sZ, sS, i64_w, i32_w]
  rfl
 refine pure_ (i := 5) (N := some 4) (v := ?_) (a' := ?_) (bA 6 63) rfl rfl kR (fun _ _ _ h => h) (Or.inl ⟨by rfl, ?_⟩) ?_ ?_
 rotate_left
 ·intro w'
  go_simp
  with_reducible rfl
 rotate_left
 ·simp only [Act.put, sI, sZ, sS, i64_w, i32_w]
  rfl
 refine done_ kR ?_
 try go_wp2
 go_ret
 exact ⟨wQ, bE⟩

def impl_DoesFit.f (k : Nat) (a0 : Int) (a1_0 : Int) (a1_1 : Int) (a1_2 : Int) (a1_3 : Int) (a2_0 : Int) (a2_1 : Int) : Option (Bool × Bool) := (impl_IsClue.f k a0 a1_0 a1_1 a1_2 a1_3).bind fun t182 => (if t182 = true then ((impl_isHidden.f a0 a2_0 a2_1).bind fun t183 => (if t183 = true then ((impl_fits.f k a1_0 a1_1 a1_2 a1_3 a2_0 a2_1).bind fun t184 => (some (t184, true))) else (some (false, false)))) else (some (false, false)))
theorem impl_DoesFit.mono : ∀ a0 a1 a2 a3 a4 a5 a6 k, LeO (impl_DoesFit.f k a0 a1 a2 a3 a4 a5 a6) (impl_DoesFit.f (k + 1) a0 a1 a2 a3 a4 a5 a6) := by
 intro a0 a1 a2 a3 a4 a5 a6 k
 unfold impl_DoesFit.f
 repeat' first | (with_reducible exact impl_IsClue.mono _ _ _ _ _ _) | (with_reducible exact impl_fits.mono _ _ _ _ _ _ _) | (with_reducible exact LeO.refl _) | (with_reducible exact LeO.none _) | (with_reducible refine LeO.ite ?_ ?_) | (with_reducible refine LeO.bind ?_ (fun _ => ?_)) | exact impl_IsClue.mono _ _ _ _ _ _ | exact impl_fits.mono _ _ _ _ _ _ _ | exact LeO.none _ | refine LeO.ite ?_ ?_ | refine LeO.bind ?_ (fun _ => ?_)
set_option maxHeartbeats 8000000 in
set_option maxRecDepth 100000 in
theorem impl_DoesFit.calls (k : Nat) (a0 : Int) (a1_0 : Int) (a1_1 : Int) (a1_2 : Int) (a1_3 : Int) (a2_0 : Int) (a2_1 : Int) (r1 : Bool) (r2 : Bool) (w : World) (h : impl_DoesFit.f k a0 a1_0 a1_1 a1_2 a1_3 a2_0 a2_1 = some (r1, r2)) :
  Calls Try.prog 20 #[.int .i64 a0, .agg #[.int .i64 a1_0, .int .i64 a1_1, .int .i64 a1_2, .int .i64 a1_3], .agg #[.int .i64 a2_0, .int .i64 a2_1]] w fun e w' => e = .returned (.tuple #[.bool r1, .bool r2]) ∧ Below w.heap.size w w' := by
 have hu48 := Try.underlying48; have hu41 := Try.underlying41; have HB := aM (Below.refl w.heap.size w)
 unfold impl_DoesFit.f at h; have H := h; clear h
 replace H := bS H; obtain ⟨t182, A4, H⟩ := H
 by_cases c5 : t182 = true
 ·subst c5; replace H := iT H; replace H := bS H; obtain ⟨t183, A6, H⟩ := H
  by_cases c7 : t183 = true
  ·subst c7; replace H := iT H; replace H := bS H; obtain ⟨t184, A8, H⟩ := H
   simp only [Option.some.injEq, Prod.mk.injEq] at H
   obtain ⟨rfl, rfl⟩ := H
   go_enter Try.func20, Try.ntmps20
   go_wp2_with (first | ((with_reducible refine gate_dst (N := 4) rfl ?_); refine bV 4 (cs := #[.int .i64 a1_0, .int .i64 a1_1, .int .i64 a1_2, .int .i64 a1_3]) (t := 48) rfl rfl (by first | (go_simp; done) | (go_simp; rfl)) ?_; intro gb180 hg w9 hbox hb; have BK180 := hbox; have GW180 := gZ HB hg; have GE180 := gZ HB hg; replace HB := tB HB hb; clear hb hbox hg) | ((with_reducible refine gate_dst (N := 5) rfl ?_); refine bV 5 (cs := #[.int .i64 a2_0, .int .i64 a2_1]) (t := 41) rfl rfl (by first | (go_simp; done) | (go_simp; rfl)) ?_; intro gb181 hg w10 hbox hb; have BK181 := hbox; have GW181 := gZ HB hg; have GE181 := gZ HB hg; have NB180_181 := nG BK180 hg; have NB181_180 := nH BK180 hg; replace BK180 := bB BK180 hb; replace HB := tB HB hb; clear hb hbox hg; have hnb11 := NB180_181.out; have hnc11 := NB181_180.out; have hcz12_0 := vZ0 BK180; have hcz12_1 := vZ1 BK180; have hcz12_2 := vZ2 BK180; have hcz12_3 := vZ3 BK180; have hfz12_0 := kF BK180.out 0; have hfz12_1 := kF BK180.out 1; have hfz12_2 := kF BK180.out 2; have hfz12_3 := kF BK180.out 3) | ((with_reducible refine gC (f := 37) rfl ?_); refine goesL_ (some 10) rfl rfl Try.func37 kR rfl #[.int .i64 a0, .agg #[.int .i64 a1_0, .int .i64 a1_1, .int .i64 a1_2, .int .i64 a1_3]] rfl sQ ?_; (with_reducible refine (impl_IsClue.calls k a0 a1_0 a1_1 a1_2 a1_3 true _ A4.out).mono ?_); rintro e w13 ⟨rfl, hb⟩; refine ⟨_, rfl, ?_⟩; replace BK180 := bB BK180 hb; replace BK181 := bB BK181 hb; replace HB := tB HB hb; (try clear hb); (try clear hb2); (try clear hk); (try clear hi); have hcz14_0 := vZ0 BK181; have hcz14_1 := vZ1 BK181; have hfz14_0 := kF BK181.out 0; have hfz14_1 := kF BK181.out 1) | (go_at_call 53; (with_reducible refine (impl_isHidden.calls a0 a2_0 a2_1 true _ A6.out).mono ?_); rintro e w15 ⟨rfl, hb⟩; replace BK180 := bB BK180 hb; replace BK181 := bB BK181 hb; replace HB := tB HB hb; (try clear hb); (try clear hb2); (try clear hk); (try clear hi); have hcz16_0 := vZ0 BK180; have hcz16_1 := vZ1 BK180; have hcz16_2 := vZ2 BK180; have hcz16_3 := vZ3 BK180; have hfz16_0 := kF BK180.out 0; have hfz16_1 := kF BK180.out 1; have hfz16_2 := kF BK180.out 2; have hfz16_3 := kF BK180.out 3; have hcz17_0 := vZ0 BK181; have hcz17_1 := vZ1 BK181; have hfz17_0 := kF BK181.out 0; have hfz17_1 := kF BK181.out 1) | ((with_reducible refine gC (f := 65) rfl ?_); refine goesL_ (some 20) rfl rfl Try.func65 kR rfl #[.agg #[.int .i64 a1_0, .int .i64 a1_1, .int .i64 a1_2, .int .i64 a1_3], .agg #[.int .i64 a2_0, .int .i64 a2_1]] rfl sQ ?_; (with_reducible refine (impl_fits.calls k a1_0 a1_1 a1_2 a1_3 a2_0 a2_1 t184 _ A8.out).mono ?_); rintro e w18 ⟨rfl, hb⟩; refine ⟨_, rfl, ?_⟩; replace BK180 := bB BK180 hb; replace BK181 := bB BK181 hb; replace HB := tB HB hb; (try clear hb); (try clear hb2); (try clear hk); (try clear hi)))
   go_ret2
   exact ⟨wQ, bE⟩
  ·replace c7 := Bool.eq_false_iff.mpr c7; subst c7; replace H := iF H
   simp only [Option.some.injEq, Prod.mk.injEq] at H
   obtain ⟨rfl, rfl⟩ := H
   go_enter Try.func20, Try.ntmps20
   go_wp2_with (first | ((with_reducible refine gate_dst (N := 4) rfl ?_); refine bV 4 (cs := #[.int .i64 a1_0, .int .i64 a1_1, .int .i64 a1_2, .int .i64 a1_3]) (t := 48) rfl rfl (by first | (go_simp; done) | (go_simp; rfl)) ?_; intro gb180 hg w19 hbox hb; have BK180 := hbox; have GW180 := gZ HB hg; have GE180 := gZ HB hg; replace HB := tB HB hb; clear hb hbox hg) | ((with_reducible refine gate_dst (N := 5) rfl ?_); refine bV 5 (cs := #[.int .i64 a2_0, .int .i64 a2_1]) (t := 41) rfl rfl (by first | (go_simp; done) | (go_simp; rfl)) ?_; intro gb181 hg w20 hbox hb; have BK181 := hbox; have GW181 := gZ HB hg; have GE181 := gZ HB hg; have NB180_181 := nG BK180 hg; have NB181_180 := nH BK180 hg; replace BK180 := bB BK180 hb; replace HB := tB HB hb; clear hb hbox hg; have hnb21 := NB180_181.out; have hnc21 := NB181_180.out; have hcz22_0 := vZ0 BK180; have hcz22_1 := vZ1 BK180; have hcz22_2 := vZ2 BK180; have hcz22_3 := vZ3 BK180; have hfz22_0 := kF BK180.out 0; have hfz22_1 := kF BK180.out 1; have hfz22_2 := kF BK180.out 2; have hfz22_3 := kF BK180.out 3) | ((with_reducible refine gC (f := 37) rfl ?_); refine goesL_ (some 10) rfl rfl Try.func37 kR rfl #[.int .i64 a0, .agg #[.int .i64 a1_0, .int .i64 a1_1, .int .i64 a1_2, .int .i64 a1_3]] rfl sQ ?_; (with_reducible refine (impl_IsClue.calls k a0 a1_0 a1_1 a1_2 a1_3 true _ A4.out).mono ?_); rintro e w23 ⟨rfl, hb⟩; refine ⟨_, rfl, ?_⟩; replace BK180 := bB BK180 hb; replace BK181 := bB BK181 hb; replace HB := tB HB hb; (try clear hb); (try clear hb2); (try clear hk); (try clear hi); have hcz24_0 := vZ0 BK181; have hcz24_1 := vZ1 BK181; have hfz24_0 := kF BK181.out 0; have hfz24_1 := kF BK181.out 1) | (go_at_call 53; (with_reducible refine (impl_isHidden.calls a0 a2_0 a2_1 false _ A6.out).mono ?_); rintro e w25 ⟨rfl, hb⟩; replace BK180 := bB BK180 hb; replace BK181 := bB BK181 hb; replace HB := tB HB hb; (try clear hb); (try clear hb2); (try clear hk); (try clear hi)))
   go_ret2
   exact ⟨wQ, bE⟩
 ·replace c5 := Bool.eq_false_iff.mpr c5; subst c5; replace H := iF H
  simp only [Option.some.injEq, Prod.mk.injEq] at H
  obtain ⟨rfl, rfl⟩ := H
  go_enter Try.func20, Try.ntmps20
  go_wp2_with (first | ((with_reducible refine gate_dst (N := 4) rfl ?_); refine bV 4 (cs := #[.int .i64 a1_0, .int .i64 a1_1, .int .i64 a1_2, .int .i64 a1_3]) (t := 48) rfl rfl (by first | (go_simp; done) | (go_simp; rfl)) ?_; intro gb180 hg w26 hbox hb; have BK180 := hbox; have GW180 := gZ HB hg; have GE180 := gZ HB hg; replace HB := tB HB hb; clear hb hbox hg) | ((with_reducible refine gate_dst (N := 5) rfl ?_); refine bV 5 (cs := #[.int .i64 a2_0, .int .i64 a2_1]) (t := 41) rfl rfl (by first | (go_simp; done) | (go_simp; rfl)) ?_; intro gb181 hg w27 hbox hb; have BK181 := hbox; have GW181 := gZ HB hg; have GE181 := gZ HB hg; have NB180_181 := nG BK180 hg; have NB181_180 := nH BK180 hg; replace BK180 := bB BK180 hb; replace HB := tB HB hb; clear hb hbox hg; have hnb28 := NB180_181.out; have hnc28 := NB181_180.out; have hcz29_0 := vZ0 BK180; have hcz29_1 := vZ1 BK180; have hcz29_2 := vZ2 BK180; have hcz29_3 := vZ3 BK180; have hfz29_0 := kF BK180.out 0; have hfz29_1 := kF BK180.out 1; have hfz29_2 := kF BK180.out 2; have hfz29_3 := kF BK180.out 3) | ((with_reducible refine gC (f := 37) rfl ?_); refine goesL_ (some 10) rfl rfl Try.func37 kR rfl #[.int .i64 a0, .agg #[.int .i64 a1_0, .int .i64 a1_1, .int .i64 a1_2, .int .i64 a1_3]] rfl sQ ?_; (with_reducible refine (impl_IsClue.calls k a0 a1_0 a1_1 a1_2 a1_3 false _ A4.out).mono ?_); rintro e w30 ⟨rfl, hb⟩; refine ⟨_, rfl, ?_⟩; replace BK180 := bB BK180 hb; replace BK181 := bB BK181 hb; replace HB := tB HB hb; (try clear hb); (try clear hb2); (try clear hk); (try clear hi)))
  go_ret2
  exact ⟨wQ, bE⟩

-- NOT PRINTED: function 114 (slices_IndexFunc_impl_Peg)

-- NOT PRINTED: function 98 (slices_DeleteFunc_impl_Peg)

mutual
def impl_board.l0 : Nat → Int → List (S_impl_Peg) → Int → Int → Option ((List (S_impl_Peg)))
 | 0, _, _, _, _ => none
 | k + 1, x1, x5, x9, x10 => if x10 < x9 then (impl_board.l1 k x1 x5 x10 x9 x10 x1 0) else (some x5)
def impl_board.l1 : Nat → Int → List (S_impl_Peg) → Int → Int → Int → Int → Int → Option ((List (S_impl_Peg)))
 | 0, _, _, _, _, _, _, _ => none
 | k + 1, x1, x5, x6, x9, x10, x13, x14 => if x14 < x13 then (if x5.length < 8796093022208 then (impl_board.l1 k x1 (x5 ++ [(⟨x6, x14⟩ : S_impl_Peg)]) x6 x9 x10 x13 (wrap64 (x14 + 1))) else (none)) else (impl_board.l0 k x1 x5 x9 (wrap64 (x10 + 1)))
end
def impl_board.f (k : Nat) (a0 : Int) (a1 : Int) : Option ((List (S_impl_Peg))) := impl_board.l0 k a1 (([] : List (S_impl_Peg))) a0 0
theorem impl_board.mono_l : ∀ k, (∀ y0 y1 y2 y3, LeO (impl_board.l0 k y0 y1 y2 y3) (impl_board.l0 (k + 1) y0 y1 y2 y3)) ∧ (∀ y0 y1 y2 y3 y4 y5 y6, LeO (impl_board.l1 k y0 y1 y2 y3 y4 y5 y6) (impl_board.l1 (k + 1) y0 y1 y2 y3 y4 y5 y6))
 | 0 => ⟨fun _ _ _ _ r h => by simp [impl_board.l0] at h, fun _ _ _ _ _ _ _ r h => by simp [impl_board.l1] at h⟩
 | k + 1 => by
  obtain ⟨ih0, ih1⟩ := impl_board.mono_l k
  refine ⟨?_, ?_⟩ <;> intros <;> (first | unfold impl_board.l0 | unfold impl_board.l1) <;> repeat' first | (with_reducible exact ih0 _ _ _ _) | (with_reducible exact ih1 _ _ _ _ _ _ _) | (with_reducible exact LeO.refl _) | (with_reducible exact LeO.none _) | (with_reducible refine LeO.ite ?_ ?_) | (with_reducible refine LeO.bind ?_ (fun _ => ?_)) | exact ih0 _ _ _ _ | exact ih1 _ _ _ _ _ _ _ | exact LeO.none _ | refine LeO.ite ?_ ?_ | refine LeO.bind ?_ (fun _ => ?_)
theorem impl_board.mono : ∀ a0 a1 k, LeO (impl_board.f k a0 a1) (impl_board.f (k + 1) a0 a1) := by
 intro a0 a1 k
 obtain ⟨ih0, ih1⟩ := impl_board.mono_l k
 unfold impl_board.f
 repeat' first | (with_reducible exact ih0 _ _ _ _) | (with_reducible exact ih1 _ _ _ _ _ _ _) | (with_reducible exact LeO.refl _) | (with_reducible exact LeO.none _) | (with_reducible refine LeO.ite ?_ ?_) | (with_reducible refine LeO.bind ?_ (fun _ => ?_)) | exact ih0 _ _ _ _ | exact ih1 _ _ _ _ _ _ _ | exact LeO.none _ | refine LeO.ite ?_ ?_ | refine LeO.bind ?_ (fun _ => ?_)
set_option maxHeartbeats 8000000 in
set_option maxRecDepth 100000 in
theorem impl_board.calls (k : Nat) (a0 : Int) (a1 : Int) (r : List (S_impl_Peg)) (w : World) (h : impl_board.f k a0 a1 = some r) :
  Calls Try.prog 99 #[.int .i64 a0, .int .i64 a1] w fun e w' => ∃ v0_ : Value, e = .returned (v0_) ∧ Kd.R kd_impl_Peg 41 w' w.heap.size (fun _ => True) v0_ r ∧ Below w.heap.size w w' := by
 have hu41 := Try.underlying41; have HB := aM (Below.refl w.heap.size w)
 unfold impl_board.f at h; have H := h; clear h
 obtain ⟨y185, hy185⟩ : ∃ y_ : List (S_impl_Peg), y_ = (([] : List (S_impl_Peg))) := ⟨_, rfl⟩; rw [← hy185] at H; have Ny185 := aM hy185; clear hy185; have H' := aM H; clear H
 go_enter Try.func99, Try.ntmps99
 go_wp2_with (first | ((with_reducible refine gate_dst (N := 8) rfl ?_); refine Kd.R_lit kd_impl_Peg _ 41 ?hg (N := 8) ?hd (xs := ([] : List (S_impl_Peg))) (inner := []) (ok := fun _ => True) (okp := fun _ => True) ?hr ?hp (fun _ hk => hk) trivial (Below.refl _ _) (Nat.le_refl _) (by simp) ?_; (case hd => rfl); (case hg => rfl); (case hr => first | (go_simp; done) | (go_simp; rfl)); (case hp => exact (Reps.none _ _)); intro v186 w3 ho4 hb hg_ hnew_; clear hg_ hnew_; (first | rw [← Ny185.out] at ho4 | (simp only [Int.reduceToNat] at ho4; rw [← Ny185.out] at ho4)); have HO187 := aM (Kd.R_lower ho4 (pZ bQ)); replace HB := tB HB hb; clear hb ho4))
 go_loopg [5, 10] k (fun kq v5 v10 w' => ∃ (x5_1 : List (S_impl_Peg)) (x10_1 : Int), v10 = .int .i64 x10_1 ∧ Aside0 (impl_board.l0 kq a1 x5_1 a0 x10_1 = some r) ∧ Aside0 (kq ≤ k) ∧ Aside0 (Kd.R kd_impl_Peg 41 w' w.heap.size (fun _ => True) v5 x5_1) ∧ Aside0 (Below w.heap.size w w'))
 case atStart => exact ⟨(y185), (0), eQ, H', ⟨Nat.le_refl _⟩, ⟨by (with_reducible repeat (first | apply rA | apply rN | apply rD)); exact HO187.out⟩, ⟨bQ⟩⟩
 case round =>
  clear H'; obtain ⟨x5_1, x10_1, rfl, HA, HK1, HO_5, HB⟩ := hrel
  cases gk with
  | zero => exact absurd HA.out (by simp [impl_board.l0])
  | succ k1 =>
   have H := HA.out; clear HA
   simp only [impl_board.l0] at H
   by_cases c5 : x10_1 < a0
   ·rw [if_pos c5] at H; have c5b0 := dE c5; clear c5; have H' := aM H; clear H; go_wp2
    go_loopg [5, 14] k1 (fun kq v5 v14 w' => ∃ (x5_2 : List (S_impl_Peg)) (x14_2 : Int), v14 = .int .i64 x14_2 ∧ Aside0 (impl_board.l1 kq a1 x5_2 x10_1 a0 x10_1 a1 x14_2 = some r) ∧ Aside0 (kq ≤ k1) ∧ Aside0 (Kd.R kd_impl_Peg 41 w' w.heap.size (fun _ => True) v5 x5_2) ∧ Aside0 (Below w.heap.size w w'))
    case atStart => exact ⟨(x5_1), (0), eQ, H', ⟨Nat.le_refl _⟩, ⟨by (with_reducible repeat (first | apply rA | apply rN | apply rD)); exact HO_5.out⟩, ⟨bQ⟩⟩
    case round =>
     clear H'; (try clear c5); (try clear c5b0); obtain ⟨x5_2, x14_2, rfl, HA, HK2, HO_5, HB⟩ := hrel
     cases gk with
     | zero => exact absurd HA.out (by simp [impl_board.l1])
     | succ k2 =>
      have H := HA.out; clear HA
      simp only [impl_board.l1] at H
      by_cases c6 : x14_2 < a1
      ·rw [if_pos c6] at H; have c6b0 := dE c6; clear c6; replace H := iN H; obtain ⟨c7, H⟩ := H; have LMc7 := aM c7; clear c7; obtain ⟨y188, hy188⟩ : ∃ y_ : List (S_impl_Peg), y_ = (x5_2 ++ [(⟨x10_1, x14_2⟩ : S_impl_Peg)]) := ⟨_, rfl⟩; rw [← hy188] at H; have Ny188 := aM hy188; clear hy188; have H' := aM H; clear H
       go_wp2_with (first | ((with_reducible refine gate_builtin (b := .append) (xs := #[.tmp 17, .tmp 21]) rfl ?_); at_builtin; refine Kd.R_append kd_impl_Peg (w0 := w) w.heap.size rfl (.tmp 17) (.tmp 21) 26 41 (.agg #[(.int .i64 0), (.int .i64 0)]) 16 rfl Try.underlying26 info41 rfl (by decide) (by omega) u5 x5_2 (⟨x10_1, x14_2⟩ : S_impl_Peg) [.int .i64 x10_1, .int .i64 x14_2] (fun _ => True) (fun _ => False) rfl rfl ?aP (fun _ hk => hk.elim) ?aF ?aO ?aB ?aS ?aL ?_; (case aP => exact kd_impl_Peg_mkM _ _ _ (⟨x10_1, x14_2⟩ : S_impl_Peg)); (case aB => exact bQ); (case aF => exact (fun _ _ => trivial)); (case aO => exact (by (with_reducible repeat (first | apply rA | apply rN | apply rD)); exact HO_5.out)); (case aS => exact (pZ bQ)); (case aL => have := LMc7.out; omega); intro v189 w8 ho hb hg hat; rw [← Ny188.out] at ho; have n0_ := aM (hb); have n1_ := aM (ho); clear HB; clear HO_5; have HB := n0_; have HO190 := n1_; clear n0_ n1_; clear ho hb hg hat))
       go_roundg k2
       case measure => have := HK1.out; have := HK2.out; omega
       case rel => exact ⟨(y188), (wrap64 (x14_2 + 1)), eQ, H', ⟨by have := HK1.out; have := HK2.out; omega⟩, ⟨by (with_reducible repeat (first | apply rA | apply rN | apply rD)); exact HO190.out⟩, ⟨bQ⟩⟩
      ·rw [if_neg c6] at H; have c6b0 := decide_eq_false c6; clear c6; have H' := aM H; clear H; go_wp2
       go_roundg k2
       case measure => have := HK1.out; have := HK2.out; omega
       case rel => exact ⟨(x5_2), (wrap64 (x10_1 + 1)), eQ, H', ⟨by have := HK1.out; have := HK2.out; omega⟩, ⟨by (with_reducible repeat (first | apply rA | apply rN | apply rD)); exact HO_5.out⟩, ⟨bQ⟩⟩
   ·rw [if_neg c5] at H; have c5b0 := decide_eq_false c5; clear c5; obtain rfl := Option.some.inj H; go_wp2
    go_ret
    exact ⟨_, by first | rfl | (simp [errW_none, errW_some] <;> rfl) | (simp [*, errW_none, errW_some] <;> rfl), by (with_reducible repeat (first | apply rA | apply rN | apply rD)); exact HO_5.out, bQ⟩

def impl_Puzzle_solutions_1_1.f (k : Nat) (a0_0 : Int) (a0_1 : Int) (a0_2 : Int) (a0_3 : Int) (a1_0 : Int) (a1_1 : Int) : Option (Bool) := (impl_fits.f k a0_0 a0_1 a0_2 a0_3 a1_0 a1_1).bind fun t192 => (some (!t192))
theorem impl_Puzzle_solutions_1_1.mono : ∀ a0 a1 a2 a3 a4 a5 k, LeO (impl_Puzzle_solutions_1_1.f k a0 a1 a2 a3 a4 a5) (impl_Puzzle_solutions_1_1.f (k + 1) a0 a1 a2 a3 a4 a5) := by
 intro a0 a1 a2 a3 a4 a5 k
 unfold impl_Puzzle_solutions_1_1.f
 repeat' first | (with_reducible exact impl_fits.mono _ _ _ _ _ _ _) | (with_reducible exact LeO.refl _) | (with_reducible exact LeO.none _) | (with_reducible refine LeO.ite ?_ ?_) | (with_reducible refine LeO.bind ?_ (fun _ => ?_)) | exact impl_fits.mono _ _ _ _ _ _ _ | exact LeO.none _ | refine LeO.ite ?_ ?_ | refine LeO.bind ?_ (fun _ => ?_)
set_option maxHeartbeats 8000000 in
set_option maxRecDepth 100000 in
theorem impl_Puzzle_solutions_1_1.calls (k : Nat) (a0_0 : Int) (a0_1 : Int) (a0_2 : Int) (a0_3 : Int) (gx1 : Nat) (a1_0 : Int) (a1_1 : Int) (r : Bool) (w : World) (hbx1 : w.heap[gx1]? = some (.cells #[.int .i64 a1_0, .int .i64 a1_1] 41 (0, 0))) (h : impl_Puzzle_solutions_1_1.f k a0_0 a0_1 a0_2 a0_3 a1_0 a1_1 = some r) :
  Calls Try.prog 101 #[.agg #[.int .i64 a0_0, .int .i64 a0_1, .int .i64 a0_2, .int .i64 a0_3], .pointer (some ⟨gx1, 0, none⟩)] w fun e w' => e = .returned (.bool r) ∧ Below w.heap.size w w' := by
 have hu48 := Try.underlying48; have hu41 := Try.underlying41; have BK1 := aM hbx1; clear hbx1; have HB := aM (Below.refl w.heap.size w)
 unfold impl_Puzzle_solutions_1_1.f at h; have H := h; clear h
 replace H := bS H; obtain ⟨t192, A3, H⟩ := H; obtain rfl := Option.some.inj H
 go_enter Try.func101, Try.ntmps101
 go_wp2_with (first | ((with_reducible refine gate_dst (N := 2) rfl ?_); refine bV 2 (cs := #[.int .i64 a0_0, .int .i64 a0_1, .int .i64 a0_2, .int .i64 a0_3]) (t := 48) rfl rfl (by first | (go_simp; done) | (go_simp; rfl)) ?_; intro gb191 hg w4 hbox hb; have BK191 := hbox; have GW191 := gZ HB hg; have GE191 := gZ HB hg; have NB1_191 := aM ((by rw [hg]; exact nN (blk_lt (g := gx1) (o := .cells #[.int .i64 a1_0, .int .i64 a1_1] 41 (0, 0)) (gQ BK1)) : gx1 ≠ gb191)); have NB191_1 := aM ((by rw [hg]; exact Nat.ne_of_gt (blk_lt (g := gx1) (o := .cells #[.int .i64 a1_0, .int .i64 a1_1] 41 (0, 0)) (gQ BK1)) : gb191 ≠ gx1)); replace BK1 := aM (blk_below (g := gx1) (o := .cells #[.int .i64 a1_0, .int .i64 a1_1] 41 (0, 0)) (gQ BK1) hb); replace HB := tB HB hb; clear hb hbox hg; have hnb5 := NB191_1.out; have hnc5 := NB1_191.out; have hcz6_0 := vZ0 BK191; have hcz6_1 := vZ1 BK191; have hcz6_2 := vZ2 BK191; have hcz6_3 := vZ3 BK191; have hfz6_0 := kF BK191.out 0; have hfz6_1 := kF BK191.out 1; have hfz6_2 := kF BK191.out 2; have hfz6_3 := kF BK191.out 3; have hcz7_0 : w4.cell? ⟨gx1, 0, none⟩ = some (.int .i64 a1_0) := vZ0 BK1; have hcz7_1 : w4.cell? ⟨gx1, 1, none⟩ = some (.int .i64 a1_1) := vZ1 BK1; have hfz7_0 := kF BK1.out 0; have hfz7_1 := kF BK1.out 1) | ((with_reducible refine gC (f := 65) rfl ?_); refine goesL_ (some 6) rfl rfl Try.func65 kR rfl #[.agg #[.int .i64 a0_0, .int .i64 a0_1, .int .i64 a0_2, .int .i64 a0_3], .agg #[.int .i64 a1_0, .int .i64 a1_1]] rfl sQ ?_; (with_reducible refine (impl_fits.calls k a0_0 a0_1 a0_2 a0_3 a1_0 a1_1 t192 _ A3.out).mono ?_); rintro e w8 ⟨rfl, hb⟩; refine ⟨_, rfl, ?_⟩; replace BK1 := aM (blk_below (g := gx1) (o := .cells #[.int .i64 a1_0, .int .i64 a1_1] 41 (0, 0)) (gQ BK1) hb); replace BK191 := bB BK191 hb; replace HB := tB HB hb; (try clear hb); (try clear hb2); (try clear hk); (try clear hi)))
 go_ret
 exact ⟨wQ, bE⟩

def slices_IndexFunc_impl_Clue_at_impl_Puzzle_solutions_1_1.l0 : Nat → List (S_impl_Clue) → Int → Int → Int → Int → Option (Int)
 | 0, _, _, _, _, _ => none
 | k + 1, x0, x7, x8, x2000, x2001 => if x8 < x7 then (if 0 ≤ x8 then (if x8 < (x0.length : Int) then ((impl_Puzzle_solutions_1_1.f k ((rd_impl_Clue x0 x8).f0) ((rd_impl_Clue x0 x8).f1) ((rd_impl_Clue x0 x8).f2) ((rd_impl_Clue x0 x8).f3) x2000 x2001).bind fun t194 => (if t194 = true then (some x8) else (slices_IndexFunc_impl_Clue_at_impl_Puzzle_solutions_1_1.l0 k x0 x7 (wrap64 (x8 + 1)) x2000 x2001))) else (none)) else (none)) else (some (-1))
def slices_IndexFunc_impl_Clue_at_impl_Puzzle_solutions_1_1.f (k : Nat) (l0 : List (S_impl_Clue)) (a1_0 : Int) (a1_1 : Int) : Option (Int) := slices_IndexFunc_impl_Clue_at_impl_Puzzle_solutions_1_1.l0 k l0 (l0.length : Int) 0 a1_0 a1_1
theorem slices_IndexFunc_impl_Clue_at_impl_Puzzle_solutions_1_1.mono_l : ∀ k, (∀ y0 y1 y2 y3 y4, LeO (slices_IndexFunc_impl_Clue_at_impl_Puzzle_solutions_1_1.l0 k y0 y1 y2 y3 y4) (slices_IndexFunc_impl_Clue_at_impl_Puzzle_solutions_1_1.l0 (k + 1) y0 y1 y2 y3 y4))
 | 0 => fun _ _ _ _ _ r h => by simp [slices_IndexFunc_impl_Clue_at_impl_Puzzle_solutions_1_1.l0] at h
 | k + 1 => by
  have ih0 := slices_IndexFunc_impl_Clue_at_impl_Puzzle_solutions_1_1.mono_l k
  ·intro y0 y1 y2 y3 y4
   unfold slices_IndexFunc_impl_Clue_at_impl_Puzzle_solutions_1_1.l0
   repeat' first
   | (with_reducible exact ih0 _ _ _ _ _)
   | (with_reducible exact impl_Puzzle_solutions_1_1.mono _ _ _ _ _ _ _)
   | (with_reducible exact LeO.refl _)
   | (with_reducible exact LeO.none _)
   | (with_reducible refine LeO.ite ?_ ?_)
   | (with_reducible refine LeO.bind ?_ (fun _ => ?_))
   | exact ih0 _ _ _ _ _
   | exact impl_Puzzle_solutions_1_1.mono _ _ _ _ _ _ _
   | exact LeO.none _
   | refine LeO.ite ?_ ?_
   | refine LeO.bind ?_ (fun _ => ?_)
theorem slices_IndexFunc_impl_Clue_at_impl_Puzzle_solutions_1_1.mono : ∀ a0 a1 a2 k, LeO (slices_IndexFunc_impl_Clue_at_impl_Puzzle_solutions_1_1.f k a0 a1 a2) (slices_IndexFunc_impl_Clue_at_impl_Puzzle_solutions_1_1.f (k + 1) a0 a1 a2) := by
 intro a0 a1 a2 k
 have ih0 := slices_IndexFunc_impl_Clue_at_impl_Puzzle_solutions_1_1.mono_l k
 unfold slices_IndexFunc_impl_Clue_at_impl_Puzzle_solutions_1_1.f
 repeat' first | (with_reducible exact ih0 _ _ _ _ _) | (with_reducible exact impl_Puzzle_solutions_1_1.mono _ _ _ _ _ _ _) | (with_reducible exact LeO.refl _) | (with_reducible exact LeO.none _) | (with_reducible refine LeO.ite ?_ ?_) | (with_reducible refine LeO.bind ?_ (fun _ => ?_)) | exact ih0 _ _ _ _ _ | exact impl_Puzzle_solutions_1_1.mono _ _ _ _ _ _ _ | exact LeO.none _ | refine LeO.ite ?_ ?_ | refine LeO.bind ?_ (fun _ => ?_)
set_option maxHeartbeats 8000000 in
set_option maxRecDepth 100000 in
theorem slices_IndexFunc_impl_Clue_at_impl_Puzzle_solutions_1_1.calls (k : Nat) (A0 : Option Addr) (c0 : Nat) (l0 : List (S_impl_Clue)) (gx1 : Nat) (a1_0 : Int) (a1_1 : Int) (r : Int) (w : World) (hr0 : Kd.C kd_impl_Clue w A0 l0.length l0) (hc0 : l0.length ≤ c0) (hbx1 : w.heap[gx1]? = some (.cells #[.int .i64 a1_0, .int .i64 a1_1] 41 (0, 0))) (h : slices_IndexFunc_impl_Clue_at_impl_Puzzle_solutions_1_1.f k l0 a1_0 a1_1 = some r) :
  Calls Try.prog 95 #[.slice A0 l0.length c0, .func (.func 101) #[] #[.pointer (some ⟨gx1, 0, none⟩)]] w fun e w' => e = .returned (.int .i64 r) ∧ Below w.heap.size w w' := by
 have hu48 := Try.underlying48; have HR0 := aM hr0; have HC0 := aM hc0; clear hr0 hc0; have BK1 := aM hbx1; clear hbx1; have HB := aM (Below.refl w.heap.size w)
 unfold slices_IndexFunc_impl_Clue_at_impl_Puzzle_solutions_1_1.f at h; have H := h; clear h
 have H' := aM H; clear H
 go_enter Try.func95, Try.ntmps95
 go_wp2
 go_loopg [8] k (fun kq v8 w' => ∃ (x8_1 : Int), v8 = .int .i64 x8_1 ∧ Aside0 (slices_IndexFunc_impl_Clue_at_impl_Puzzle_solutions_1_1.l0 kq l0 (l0.length : Int) x8_1 a1_0 a1_1 = some r) ∧ Aside0 (kq ≤ k) ∧ Aside0 (w'.heap[gx1]? = some (.cells #[.int .i64 a1_0, .int .i64 a1_1] 41 (0, 0))) ∧ Aside0 (Below w.heap.size w w'))
 case atStart => exact ⟨(0), eQ, H', ⟨Nat.le_refl _⟩, ⟨gQ BK1⟩, ⟨bE⟩⟩
 case round =>
  clear H'; obtain ⟨x8_1, rfl, HA, HK1, BK1, HB⟩ := hrel
  cases gk with
  | zero => exact absurd HA.out (by simp [slices_IndexFunc_impl_Clue_at_impl_Puzzle_solutions_1_1.l0])
  | succ k1 =>
   have H := HA.out; clear HA
   simp only [slices_IndexFunc_impl_Clue_at_impl_Puzzle_solutions_1_1.l0] at H
   by_cases c3 : x8_1 < (l0.length : Int)
   ·rw [if_pos c3] at H; have c3b0 := dE c3; clear c3; replace H := iD H; obtain ⟨c4b0, H⟩ := H; replace H := iD H; obtain ⟨c5b0, H⟩ := H; replace H := bS H; obtain ⟨t194, A6, H⟩ := H
    by_cases c7 : t194 = true
    ·subst c7; replace H := iT H; obtain rfl := Option.some.inj H; have p193 : 0 ≤ (x8_1 : Int) := dT aQ; have q193 : x8_1 < (l0.length : Int) := dT aQ; obtain ⟨ad193, e193, hx193_0, hx193_1, hx193_2, hx193_3⟩ := at_impl_Clue HR0.out x8_1 p193 q193
     cases e193
     replace hx193_0 := hC HB hx193_0; replace hx193_1 := hC HB hx193_1; replace hx193_2 := hC HB hx193_2; replace hx193_3 := hC HB hx193_3; replace p193 := eq_true p193; replace q193 := eq_true q193
     go_wp2_with (first | ((with_reducible refine gate_tmp rfl ?_); refine goesLTC_ (some 16) rfl rfl Try.func101 kR rfl #[.agg #[.int .i64 ((rd_impl_Clue l0 x8_1).f0), .int .i64 ((rd_impl_Clue l0 x8_1).f1), .int .i64 ((rd_impl_Clue l0 x8_1).f2), .int .i64 ((rd_impl_Clue l0 x8_1).f3)], .pointer (some ⟨gx1, 0, none⟩)] #[] #[.pointer (some ⟨gx1, 0, none⟩)] rfl (by first | rfl | (simp [Act.eval]; done)) (by (try simp only [mA, mC, mN, List.append_toArray, List.nil_append, List.cons_append, List.append_nil]); (try simp only [mA, mC, mN]); first | done | rfl | (simp only [lD, lT]; rfl)) ?_; (with_reducible refine (impl_Puzzle_solutions_1_1.calls k1 ((rd_impl_Clue l0 x8_1).f0) ((rd_impl_Clue l0 x8_1).f1) ((rd_impl_Clue l0 x8_1).f2) ((rd_impl_Clue l0 x8_1).f3) gx1 a1_0 a1_1 true _ ?side1 A6.out).mono ?_); (case side1 => exact (gQ BK1)); rintro e w8 ⟨rfl, hb⟩; refine ⟨_, rfl, ?_⟩; replace BK1 := aM (blk_below (g := gx1) (o := .cells #[.int .i64 a1_0, .int .i64 a1_1] 41 (0, 0)) (gQ BK1) hb); replace HB := tB HB hb; (try clear hb); (try clear hb2); (try clear hk); (try clear hi)))
     go_ret
     exact ⟨wQ, bE⟩
    ·replace c7 := Bool.eq_false_iff.mpr c7; subst c7; replace H := iF H; have H' := aM H; clear H; have p193 : 0 ≤ (x8_1 : Int) := dT aQ; have q193 : x8_1 < (l0.length : Int) := dT aQ; obtain ⟨ad193, e193, hx193_0, hx193_1, hx193_2, hx193_3⟩ := at_impl_Clue HR0.out x8_1 p193 q193
     cases e193
     replace hx193_0 := hC HB hx193_0; replace hx193_1 := hC HB hx193_1; replace hx193_2 := hC HB hx193_2; replace hx193_3 := hC HB hx193_3; replace p193 := eq_true p193; replace q193 := eq_true q193
     go_wp2_with (first | ((with_reducible refine gate_tmp rfl ?_); refine goesLTC_ (some 16) rfl rfl Try.func101 kR rfl #[.agg #[.int .i64 ((rd_impl_Clue l0 x8_1).f0), .int .i64 ((rd_impl_Clue l0 x8_1).f1), .int .i64 ((rd_impl_Clue l0 x8_1).f2), .int .i64 ((rd_impl_Clue l0 x8_1).f3)], .pointer (some ⟨gx1, 0, none⟩)] #[] #[.pointer (some ⟨gx1, 0, none⟩)] rfl (by first | rfl | (simp [Act.eval]; done)) (by (try simp only [mA, mC, mN, List.append_toArray, List.nil_append, List.cons_append, List.append_nil]); (try simp only [mA, mC, mN]); first | done | rfl | (simp only [lD, lT]; rfl)) ?_; (with_reducible refine (impl_Puzzle_solutions_1_1.calls k1 ((rd_impl_Clue l0 x8_1).f0) ((rd_impl_Clue l0 x8_1).f1) ((rd_impl_Clue l0 x8_1).f2) ((rd_impl_Clue l0 x8_1).f3) gx1 a1_0 a1_1 false _ ?side1 A6.out).mono ?_); (case side1 => exact (gQ BK1)); rintro e w9 ⟨rfl, hb⟩; refine ⟨_, rfl, ?_⟩; replace BK1 := aM (blk_below (g := gx1) (o := .cells #[.int .i64 a1_0, .int .i64 a1_1] 41 (0, 0)) (gQ BK1) hb); replace HB := tB HB hb; (try clear hb); (try clear hb2); (try clear hk); (try clear hi)))
     go_roundg k1
     case measure => have := HK1.out; omega
     case rel => exact ⟨(wrap64 (x8_1 + 1)), eQ, H', ⟨by have := HK1.out; omega⟩, ⟨gQ BK1⟩, ⟨bE⟩⟩
   ·rw [if_neg c3] at H; have c3b0 := decide_eq_false c3; clear c3; obtain rfl := Option.some.inj H; go_wp2
    go_ret
    exact ⟨wQ, bE⟩

def slices_ContainsFunc_impl_Clue_at_impl_Puzzle_solutions_1_1.f (k : Nat) (l0 : List (S_impl_Clue)) (a1_0 : Int) (a1_1 : Int) : Option (Bool) := (slices_IndexFunc_impl_Clue_at_impl_Puzzle_solutions_1_1.f k l0 a1_0 a1_1).bind fun t195 => (some (decide (t195 ≥ 0)))
theorem slices_ContainsFunc_impl_Clue_at_impl_Puzzle_solutions_1_1.mono : ∀ a0 a1 a2 k, LeO (slices_ContainsFunc_impl_Clue_at_impl_Puzzle_solutions_1_1.f k a0 a1 a2) (slices_ContainsFunc_impl_Clue_at_impl_Puzzle_solutions_1_1.f (k + 1) a0 a1 a2) := by
 intro a0 a1 a2 k
 unfold slices_ContainsFunc_impl_Clue_at_impl_Puzzle_solutions_1_1.f
 repeat' first | (with_reducible exact slices_IndexFunc_impl_Clue_at_impl_Puzzle_solutions_1_1.mono _ _ _ _) | (with_reducible exact LeO.refl _) | (with_reducible exact LeO.none _) | (with_reducible refine LeO.ite ?_ ?_) | (with_reducible refine LeO.bind ?_ (fun _ => ?_)) | exact slices_IndexFunc_impl_Clue_at_impl_Puzzle_solutions_1_1.mono _ _ _ _ | exact LeO.none _ | refine LeO.ite ?_ ?_ | refine LeO.bind ?_ (fun _ => ?_)
set_option maxHeartbeats 8000000 in
set_option maxRecDepth 100000 in
theorem slices_ContainsFunc_impl_Clue_at_impl_Puzzle_solutions_1_1.calls (k : Nat) (A0 : Option Addr) (c0 : Nat) (l0 : List (S_impl_Clue)) (gx1 : Nat) (a1_0 : Int) (a1_1 : Int) (r : Bool) (w : World) (hr0 : Kd.C kd_impl_Clue w A0 l0.length l0) (hc0 : l0.length ≤ c0) (hbx1 : w.heap[gx1]? = some (.cells #[.int .i64 a1_0, .int .i64 a1_1] 41 (0, 0))) (h : slices_ContainsFunc_impl_Clue_at_impl_Puzzle_solutions_1_1.f k l0 a1_0 a1_1 = some r) :
  Calls Try.prog 63 #[.slice A0 l0.length c0, .func (.func 101) #[] #[.pointer (some ⟨gx1, 0, none⟩)]] w fun e w' => e = .returned (.bool r) ∧ Below w.heap.size w w' := by
 have HR0 := aM hr0; have HC0 := aM hc0; clear hr0 hc0; have BK1 := aM hbx1; clear hbx1; have HB := aM (Below.refl w.heap.size w)
 unfold slices_ContainsFunc_impl_Clue_at_impl_Puzzle_solutions_1_1.f at h; have H := h; clear h
 replace H := bS H; obtain ⟨t195, A3, H⟩ := H; obtain rfl := Option.some.inj H
 go_enter Try.func63, Try.ntmps63
 go_wp2_with (first | ((with_reducible refine gC (f := 95) rfl ?_); refine goesL_ (some 7) rfl rfl Try.func95 kR rfl #[.slice A0 l0.length c0, .func (.func 101) #[] #[.pointer (some ⟨gx1, 0, none⟩)]] rfl sQ ?_; (with_reducible refine (slices_IndexFunc_impl_Clue_at_impl_Puzzle_solutions_1_1.calls k _ _ l0 gx1 a1_0 a1_1 t195 _ ?side1 ?side2 ?side3 A3.out).mono ?_); (case side1 => repeat (first | exact HR0.out | (with_reducible refine cA ?_ _) | (with_reducible refine cN ?_ _) | (with_reducible refine cD ?_))); (case side2 => exact HC0.out); (case side3 => exact (gQ BK1)); rintro e w4 ⟨rfl, hb⟩; refine ⟨_, rfl, ?_⟩; replace BK1 := aM (blk_below (g := gx1) (o := .cells #[.int .i64 a1_0, .int .i64 a1_1] 41 (0, 0)) (gQ BK1) hb); replace HB := tB HB hb; (try clear hb); (try clear hb2); (try clear hk); (try clear hi)))
 go_ret
 exact ⟨wQ, bE⟩

def impl_Puzzle_solutions_1.f (k : Nat) (a0_0 : Int) (a0_1 : Int) (l1_0 : List (S_impl_Clue)) : Option (Bool) := (slices_ContainsFunc_impl_Clue_at_impl_Puzzle_solutions_1_1.f k l1_0 a0_0 a0_1).bind fun t197 => (some t197)
theorem impl_Puzzle_solutions_1.mono : ∀ a0 a1 a2 k, LeO (impl_Puzzle_solutions_1.f k a0 a1 a2) (impl_Puzzle_solutions_1.f (k + 1) a0 a1 a2) := by
 intro a0 a1 a2 k
 unfold impl_Puzzle_solutions_1.f
 repeat' first | (with_reducible exact slices_ContainsFunc_impl_Clue_at_impl_Puzzle_solutions_1_1.mono _ _ _ _) | (with_reducible exact LeO.refl _) | (with_reducible exact LeO.none _) | (with_reducible refine LeO.ite ?_ ?_) | (with_reducible refine LeO.bind ?_ (fun _ => ?_)) | exact slices_ContainsFunc_impl_Clue_at_impl_Puzzle_solutions_1_1.mono _ _ _ _ | exact LeO.none _ | refine LeO.ite ?_ ?_ | refine LeO.bind ?_ (fun _ => ?_)
set_option maxHeartbeats 8000000 in
set_option maxRecDepth 100000 in
theorem impl_Puzzle_solutions_1.calls (k : Nat) (a0_0 : Int) (a0_1 : Int) (gx1 : Nat) (A1_0 : Option Addr) (c1_0 : Nat) (l1_0 : List (S_impl_Clue)) (r : Bool) (w : World) (hr1_0 : Kd.C kd_impl_Clue w A1_0 l1_0.length l1_0) (hc1_0 : l1_0.length ≤ c1_0) (hbx1 : w.heap[gx1]? = some (.cells #[.slice A1_0 l1_0.length c1_0] 29 (0, 0))) (h : impl_Puzzle_solutions_1.f k a0_0 a0_1 l1_0 = some r) :
  Calls Try.prog 100 #[.agg #[.int .i64 a0_0, .int .i64 a0_1], .pointer (some ⟨gx1, 0, none⟩)] w fun e w' => e = .returned (.bool r) ∧ Below w.heap.size w w' := by
 have hu41 := Try.underlying41; have hu29 := Try.underlying29; have HR1_0 := aM hr1_0; have HC1_0 := aM hc1_0; clear hr1_0 hc1_0; have BK1 := aM hbx1; clear hbx1; have HB := aM (Below.refl w.heap.size w)
 unfold impl_Puzzle_solutions_1.f at h; have H := h; clear h
 replace H := bS H; obtain ⟨t197, A3, H⟩ := H; obtain rfl := Option.some.inj H
 go_enter Try.func100, Try.ntmps100
 go_wp2_with (first | ((with_reducible refine gate_dst (N := 2) rfl ?_); refine bV 2 (cs := #[.int .i64 a0_0, .int .i64 a0_1]) (t := 41) rfl rfl (by first | (go_simp; done) | (go_simp; rfl)) ?_; intro gb196 hg w4 hbox hb; have BK196 := hbox; have GW196 := gZ HB hg; have GE196 := gZ HB hg; have NB1_196 := aM ((by rw [hg]; exact nN (blk_lt (g := gx1) (o := .cells #[.slice A1_0 l1_0.length c1_0] 29 (0, 0)) (gQ BK1)) : gx1 ≠ gb196)); have NB196_1 := aM ((by rw [hg]; exact Nat.ne_of_gt (blk_lt (g := gx1) (o := .cells #[.slice A1_0 l1_0.length c1_0] 29 (0, 0)) (gQ BK1)) : gb196 ≠ gx1)); replace BK1 := aM (blk_below (g := gx1) (o := .cells #[.slice A1_0 l1_0.length c1_0] 29 (0, 0)) (gQ BK1) hb); replace HB := tB HB hb; clear hb hbox hg; have hnb5 := NB1_196.out; have hnc5 := NB196_1.out; have hcz6_0 : w4.cell? ⟨gx1, 0, none⟩ = some (.slice A1_0 l1_0.length c1_0) := vZ0 BK1; have hfz6_0 := kF BK1.out 0) | ((with_reducible refine gC (f := 63) rfl ?_); refine goesL_ (some 6) rfl rfl Try.func63 kR rfl #[.slice A1_0 l1_0.length c1_0, .func (.func 101) #[] #[.pointer (some ⟨gb196, 0, none⟩)]] rfl sQ ?_; (with_reducible refine (slices_ContainsFunc_impl_Clue_at_impl_Puzzle_solutions_1_1.calls k _ _ l1_0 gb196 a0_0 a0_1 t197 _ ?side1 ?side2 ?side3 A3.out).mono ?_); (case side1 => repeat (first | exact (Kd.C_below HR1_0.out HB.out) | (with_reducible refine cA ?_ _) | (with_reducible refine cN ?_ _) | (with_reducible refine cD ?_))); (case side2 => exact HC1_0.out); (case side3 => exact (gQ BK196)); rintro e w7 ⟨rfl, hb⟩; refine ⟨_, rfl, ?_⟩; replace BK1 := aM (blk_below (g := gx1) (o := .cells #[.slice A1_0 l1_0.length c1_0] 29 (0, 0)) (gQ BK1) hb); replace BK196 := bB BK196 hb; replace HB := tB HB hb; (try clear hb); (try clear hb2); (try clear hk); (try clear hi)))
 go_ret
 exact ⟨wQ, bE⟩

end Go.Proofs.Ytoeclfihlhmnpaa.X
