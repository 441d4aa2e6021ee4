-- thin
-- short
-- compact
import Derived.Test.YtoeclfihlhmnpaaXA
import Derived.Test.YtoeclfihlhmnpaaX0
import Derived.Test.YtoeclfihlhmnpaaX3
import Derived.Test.YtoeclfihlhmnpaaX4
import Derived.Test.YtoeclfihlhmnpaaX7
import Derived.Test.YtoeclfihlhmnpaaX9
import Derived.Test.YtoeclfihlhmnpaaX10
import Derived.Test.YtoeclfihlhmnpaaX11
import Derived.Test.YtoeclfihlhmnpaaX12
namespace Go.Proofs.Ytoeclfihlhmnpaa.X
open Go.RowKit Go.Proofs.Ytoeclfihlhmnpaa.XW Go.Proofs.YtoeclfihlhmnpaaW.PrintWords Go.Proofs.YtoeclfihlhmnpaaW.PrintLast Go.Proofs.YtoeclfihlhmnpaaW.PrintMore
attribute [local go_sem] max2_int min2_int max_two min_two max_three min_three max_four min_four   -- for this text's walks alone
set_option linter.unusedVariables false
set_option linter.unusedSimpArgs false

def impl_DropClue.f (k : Nat) (a0_0 : Int) (l0_1 : List (S_impl_Clue)) (a1 : Int) : Option (Int × (List (S_impl_Clue)) × Bool) := (impl_IsPuzzle.f k a0_0 l0_1).bind fun t384 => (if t384 = true then ((impl_within.f a1 0 (wrap64 ((l0_1.length : Int) - 1))).bind fun t385 => (if t385 = true then ((impl_dropped.f l0_1 a1).bind fun t386 => (some (a0_0, t386, true))) else (some (0, ([] : List (S_impl_Clue)), false)))) else (some (0, ([] : List (S_impl_Clue)), false)))
theorem impl_DropClue.mono : ∀ a0 a1 a2 k, LeO (impl_DropClue.f k a0 a1 a2) (impl_DropClue.f (k + 1) a0 a1 a2) := by
 intro a0 a1 a2 k
 unfold impl_DropClue.f
 repeat' first | (with_reducible exact impl_IsPuzzle.mono _ _ _) | (with_reducible exact LeO.refl _) | (with_reducible exact LeO.none _) | (with_reducible refine LeO.ite ?_ ?_) | (with_reducible refine LeO.bind ?_ (fun _ => ?_)) | exact impl_IsPuzzle.mono _ _ _ | exact LeO.none _ | refine LeO.ite ?_ ?_ | refine LeO.bind ?_ (fun _ => ?_)
def impl_DropClue.T3 : Bool × List (List Nat × List Nat) := (true, [([], []), ([0], [0]), ([], []), ([2], [2]), ([], []), ([3, 4], [3, 4]), ([1, 5], [1, 5]), ([6, 5, 0, 1, 2, 3, 4, 5, 6], [6]), ([7, 0, 1, 2, 3, 4, 5, 6, 7], [])])
def impl_DropClue.B3 : List Nat := [0, 1, 0, 4, 0, 28, 63, 127, 255]
theorem impl_DropClue.tab3 : rtab .any (opsOf Try.f32 3) = impl_DropClue.T3 := by kernel_rfl
theorem impl_DropClue.bits3 : waitsOk impl_DropClue.T3.2 impl_DropClue.B3 = true := by kernel_rfl
set_option maxHeartbeats 8000000 in
set_option maxRecDepth 100000 in
theorem impl_DropClue.calls (k : Nat) (a0_0 : Int) (A0_1 : Option Addr) (c0_1 : Nat) (l0_1 : List (S_impl_Clue)) (a1 : Int) (r1 : Int) (r2 : List (S_impl_Clue)) (r3 : Bool) (w : World) (hr0_1 : Kd.C kd_impl_Clue w A0_1 l0_1.length l0_1) (hc0_1 : l0_1.length ≤ c0_1) (h : impl_DropClue.f k a0_0 l0_1 a1 = some (r1, r2, r3)) :
  Calls Try.prog 32 #[.agg #[.int .i64 a0_0, .slice A0_1 l0_1.length c0_1], .int .i64 a1] w fun e w' => ∃ v1_ : Value, e = .returned (.tuple #[.agg #[.int .i64 r1, v1_], .bool r3]) ∧ Kd.R kd_impl_Clue 48 w' w.heap.size (fun _ => True) v1_ r2 ∧ Below w.heap.size w w' := by
 have hu31 := Try.underlying31; have HR0_1 := aM hr0_1; have HC0_1 := aM hc0_1; clear hr0_1 hc0_1; have HB := aM (Below.refl w.heap.size w)
 unfold impl_DropClue.f at h; have H := h; clear h
 replace H := bS H; obtain ⟨t384, A3, H⟩ := H
 by_cases c4 : t384 = true
 ·subst c4; replace H := iT H; replace H := bS H; obtain ⟨t385, A5, H⟩ := H
  by_cases c6 : t385 = true
  ·subst c6; replace H := iT H; replace H := bS H; obtain ⟨t386, A7, H⟩ := H
   simp only [Option.some.injEq, Prod.mk.injEq] at H
   obtain ⟨rfl, rfl, rfl⟩ := H
   go_enter Try.func32, Try.ntmps32
   try go_wp2_with (first | ((with_reducible refine gate_dst (N := 2) rfl ?_); (try (refine gate_guard (by rfl) ?_; dsimp only)); refine bV 2 (cs := #[.int .i64 a0_0, .slice A0_1 l0_1.length c0_1]) (t := 31) rfl rfl (by first | (go_simp; done) | (go_simp; rfl)) ?_; intro gb382 hg w8 hbox hb; have BK382 := hbox; have GW382 := gZ HB hg; have GE382 := gZ HB hg; replace HB := tB HB hb; clear hb hbox hg) | ((with_reducible refine gate_dst (N := 4) rfl ?_); (try (refine gate_guard (by rfl) ?_; dsimp only)); refine bV 4 (cs := #[.int .i64 0, .slice none 0 0]) (t := 31) rfl rfl (by first | (go_simp; done) | (go_simp; rfl)) ?_; intro gb383 hg w9 hbox hb; have BK383 := hbox; have GW383 := gZ HB hg; have GE383 := gZ HB hg; have NB382_383 := nG BK382 hg; have NB383_382 := nH BK382 hg; replace BK382 := bB BK382 hb; replace HB := tB HB hb; clear hb hbox hg; have hnb10 := NB382_383.out; have hnc10 := NB383_382.out; have hcz11_0 := vZ0 BK382; have hcz11_1 := vZ1 BK382; have hfz11_0 := kF BK382.out 0; have hfz11_1 := kF BK382.out 1) | ((with_reducible refine gC (f := 19) rfl ?_); refine goesL_ (some 7) rfl rfl Try.func19 kR rfl #[.agg #[.int .i64 a0_0, .slice A0_1 l0_1.length c0_1]] rfl sQ ?_; (with_reducible refine (impl_IsPuzzle.calls k a0_0 _ _ l0_1 true _ ?side1 ?side2 A3.out).mono ?_); (case side1 => repeat (first | exact (Kd.C_below HR0_1.out HB.out) | (with_reducible refine cA ?_ _) | (with_reducible refine cN ?_ _) | (with_reducible refine cD ?_))); (case side2 => exact HC0_1.out); rintro e w12 ⟨rfl, hb⟩; refine ⟨_, rfl, ?_⟩; replace BK382 := bB BK382 hb; replace BK383 := bB BK383 hb; replace HB := tB HB hb; (try clear hb); (try clear hb2); (try clear hk); (try clear hi); have hcz13_0 := vZ0 BK382; have hcz13_1 := vZ1 BK382; have hfz13_0 := kF BK382.out 0; have hfz13_1 := kF BK382.out 1) | (go_at_call 54; (with_reducible refine (impl_within.calls a1 0 (wrap64 ((l0_1.length : Int) - 1)) true _ A5.out).mono ?_); rintro e w' ⟨rfl, ⟨nd, rfl⟩⟩; (try (rw [drewN_self w12]; generalize hq_ : World.drewN w12 _ = w12; have n0_ : Aside0 (w12.heap[gb382]? = some (.cells #[.int .i64 a0_0, .slice A0_1 l0_1.length c0_1] 31 (0, 0))) := ⟨by rw [← hq_]; exact (gQ BK382)⟩; have n1_ : Aside0 (w12.heap[gb383]? = some (.cells #[.int .i64 0, .slice none 0 0] 31 (0, 0))) := ⟨by rw [← hq_]; exact (gQ BK383)⟩; have n2_ : Aside0 (Below w.heap.size w w12) := ⟨by rw [← hq_]; exact bE⟩; clear BK382 BK383 HB hq_; have BK382 := n0_; have BK383 := n1_; have HB := n2_; clear n0_ n1_ n2_))))
   replace BK382 := aM (kD BK382.out); replace BK383 := aM (kD BK383.out); replace HB := aM (pD HB.out)
   refine start_ (n := 9) (S := fun w' => w'.cell? ⟨gb382, 0, none⟩ = some (.int .i64 a0_0) ∧ w'.cell? ⟨gb382, 1, none⟩ = some (.slice A0_1 l0_1.length c0_1)) (ds := []) (bA 9 0) kR rfl kR ⟨vZ0 BK382, vZ1 BK382⟩ (fun hHeld => ?_); refine with_tabW impl_DropClue.tab3 impl_DropClue.bits3 (fun HT_ HW_ => ?_)
   generalize w12.drew = w14 at BK382 BK383 HB hHeld ⊢
   refine pU 0 19 (bA 9 1) HT_ ?_; refine pU 2 21 (bA 9 5) HT_ ?_; refine pU 4 23 (bA 9 21) HT_ ?_
   refine tU 1 20 (bA 9 23) HT_ HW_ hHeld ?_ (hy := Or.inl ⟨by rfl, by rintro w' ⟨s0, s1⟩; go_simp; with_reducible rfl⟩)
   refine tU 3 22 (bA 9 31) HT_ HW_ hHeld ?_ (hy := Or.inl ⟨by rfl, by rintro w' ⟨s0, s1⟩; go_simp; with_reducible rfl⟩)
   refine oU 5 24 (bA 9 63) HT_ (fun K hK => ?_)
   refine goes_ Try.func69 kR rfl #[.slice A0_1 l0_1.length c0_1, .int .i64 a1] (by rfl) rfl rfl sQ ?_
   with_reducible refine (impl_dropped.calls _ _ l0_1 a1 t386 _ ?side1 ?side2 A7.out).mono ?_
   (case side1 => repeat (first | exact (Kd.C_below HR0_1.out HB.out) | (with_reducible refine cA ?_ _) | (with_reducible refine cN ?_ _) | (with_reducible refine cD ?_)))
   (case side2 => exact HC0_1.out)
   rintro e w15 ⟨v387, rfl, ho0, hb⟩; refine ⟨_, rfl, ?_⟩; have HO388 := aM (Kd.R_lower ho0 (pZ bE)); replace BK382 := bB BK382 hb; replace BK383 := bB BK383 hb; replace HB := tB HB hb; (try clear hb); (try clear hb2); (try clear hk); (try clear hi); (try clear ho0); obtain ⟨Ao16, co16, eo16⟩ := Kd.R_slice HO388.out
   (first | subst eo16 | (injection eo16 with f1_ f2_ f3_; have f4_ := f1_.symm; have f5_ := f3_.symm; clear f1_ f2_ f3_; subst f4_; subst f5_))
   refine hK.out _ _ ⟨vZ0 BK382, vZ1 BK382⟩ (fun hHeld => ?_)
   clear hK K
   refine nU ?_
   refine pU 6 25 (bA 9 127) HT_ ?_
   refine one_ (i := 7) (N := none) (bA 9 255) rfl rfl (one_of HT_.out kR) (by decide) (fun K hK => ?_)
   have hs17 : w15.cell? ⟨gb383, 0, none⟩ = some (.int .i64 0) := vZ0 BK383; have hfs17 := kF BK383.out 0; have hns17_0 := NB382_383.out; have hms17_0 := NB383_382.out; have hs18 : w15.cell? ⟨gb383, 1, none⟩ = some (.slice none 0 0) := vZ1 BK383; have hfs18 := kF BK383.out 1; have hns18_0 := NB382_383.out; have hms18_0 := NB383_382.out
   refine skip_ (w1 := ?_) (by rfl) rfl ?_ ?_
   rotate_left
   ·go_simp
    rfl
   refine hK.out _ _ ⟨((cell_far (p := ⟨gb383, _, none⟩) NB382_383.out _).trans (((cell_far (p := ⟨gb383, _, none⟩) NB382_383.out _).trans (hHeld.1)))), ((cell_far (p := ⟨gb383, _, none⟩) NB382_383.out _).trans (((cell_far (p := ⟨gb383, _, none⟩) NB382_383.out _).trans (hHeld.2))))⟩ (fun hHeld => ?_)
   clear hK K; refine pU 8 5 (bA 9 511) HT_ ?_
   refine done_ (done_of HT_.out kR) ?_
   try go_wp2
   refine bodyPost_ret (results_ct rfl _ _ gb383 31 #[.int .i64 a0_0, .slice Ao16 t386.length co16] (0, 0) _ rfl (fQ BK383) Try.underlying31 rfl kR) rfl ?_
   exact ⟨_, by first | rfl | (simp [errW_none, errW_some] <;> rfl) | (simp [*, errW_none, errW_some] <;> rfl), by (with_reducible repeat (first | apply rA | apply rN | apply rD)); exact Kd.R_mono (Kd.R_far (p := ⟨gb383, 1, none⟩) (Kd.R_far (p := ⟨gb383, 0, none⟩) (Kd.R_types HO388.out BK383.out (by decide)) (fun _ hk => hk.2) (.int .i64 a0_0)) (fun _ hk => hk.2) (.slice Ao16 t386.length co16)) (fun _ hk => trivial), bE⟩
  ·replace c6 := Bool.eq_false_iff.mpr c6; subst c6; replace H := iF H
   simp only [Option.some.injEq, Prod.mk.injEq] at H
   obtain ⟨rfl, rfl, rfl⟩ := H
   go_enter Try.func32, Try.ntmps32
   go_wp2_with (first | ((with_reducible refine gate_dst (N := 2) rfl ?_); (try (refine gate_guard (by rfl) ?_; dsimp only)); refine bV 2 (cs := #[.int .i64 a0_0, .slice A0_1 l0_1.length c0_1]) (t := 31) rfl rfl (by first | (go_simp; done) | (go_simp; rfl)) ?_; intro gb382 hg w19 hbox hb; have BK382 := hbox; have GW382 := gZ HB hg; have GE382 := gZ HB hg; replace HB := tB HB hb; clear hb hbox hg) | ((with_reducible refine gate_dst (N := 4) rfl ?_); (try (refine gate_guard (by rfl) ?_; dsimp only)); refine bV 4 (cs := #[.int .i64 0, .slice none 0 0]) (t := 31) rfl rfl (by first | (go_simp; done) | (go_simp; rfl)) ?_; intro gb383 hg w20 hbox hb; have BK383 := hbox; have GW383 := gZ HB hg; have GE383 := gZ HB hg; have NB382_383 := nG BK382 hg; have NB383_382 := nH BK382 hg; replace BK382 := bB BK382 hb; replace HB := tB HB hb; clear hb hbox hg; have hnb21 := NB382_383.out; have hnc21 := NB383_382.out; have hcz22_0 := vZ0 BK382; have hcz22_1 := vZ1 BK382; have hfz22_0 := kF BK382.out 0; have hfz22_1 := kF BK382.out 1) | ((with_reducible refine gC (f := 19) rfl ?_); refine goesL_ (some 7) rfl rfl Try.func19 kR rfl #[.agg #[.int .i64 a0_0, .slice A0_1 l0_1.length c0_1]] rfl sQ ?_; (with_reducible refine (impl_IsPuzzle.calls k a0_0 _ _ l0_1 true _ ?side1 ?side2 A3.out).mono ?_); (case side1 => repeat (first | exact (Kd.C_below HR0_1.out HB.out) | (with_reducible refine cA ?_ _) | (with_reducible refine cN ?_ _) | (with_reducible refine cD ?_))); (case side2 => exact HC0_1.out); rintro e w23 ⟨rfl, hb⟩; refine ⟨_, rfl, ?_⟩; replace BK382 := bB BK382 hb; replace BK383 := bB BK383 hb; replace HB := tB HB hb; (try clear hb); (try clear hb2); (try clear hk); (try clear hi); have hcz24_0 := vZ0 BK382; have hcz24_1 := vZ1 BK382; have hfz24_0 := kF BK382.out 0; have hfz24_1 := kF BK382.out 1) | (go_at_call 54; (with_reducible refine (impl_within.calls a1 0 (wrap64 ((l0_1.length : Int) - 1)) false _ A5.out).mono ?_); rintro e w' ⟨rfl, ⟨nd, rfl⟩⟩; (try (rw [drewN_self w23]; generalize hq_ : World.drewN w23 _ = w23; have n0_ : Aside0 (w23.heap[gb382]? = some (.cells #[.int .i64 a0_0, .slice A0_1 l0_1.length c0_1] 31 (0, 0))) := ⟨by rw [← hq_]; exact (gQ BK382)⟩; have n1_ : Aside0 (w23.heap[gb383]? = some (.cells #[.int .i64 0, .slice none 0 0] 31 (0, 0))) := ⟨by rw [← hq_]; exact (gQ BK383)⟩; have n2_ : Aside0 (Below w.heap.size w w23) := ⟨by rw [← hq_]; exact bE⟩; clear BK382 BK383 HB hq_; have BK382 := n0_; have BK383 := n1_; have HB := n2_; clear n0_ n1_ n2_)); have hcz25_0 := vZ0 BK383; have hcz25_1 := vZ1 BK383; have hfz25_0 := kF BK383.out 0; have hfz25_1 := kF BK383.out 1))
   refine bodyPost_ret (results_ct rfl _ _ gb383 31 #[.int .i64 0, .slice none 0 0] (0, 0) _ rfl (fQ BK383) Try.underlying31 rfl kR) rfl ?_
   exact ⟨_, by first | rfl | (simp [errW_none, errW_some] <;> rfl) | (simp [*, errW_none, errW_some] <;> rfl), by first | exact Kd.R_nil _ _ _ _ _ | exact Kd.N_nil _ _ _ _ _ | exact Kd.V_nil _ _ _ _ _ | exact Kd.Q_nil _ _ _ _ _ | exact Kd.S_nil _ _ _ _ _, bE⟩
 ·replace c4 := Bool.eq_false_iff.mpr c4; subst c4; replace H := iF H
  simp only [Option.some.injEq, Prod.mk.injEq] at H
  obtain ⟨rfl, rfl, rfl⟩ := H
  go_enter Try.func32, Try.ntmps32
  go_wp2_with (first | ((with_reducible refine gate_dst (N := 2) rfl ?_); (try (refine gate_guard (by rfl) ?_; dsimp only)); refine bV 2 (cs := #[.int .i64 a0_0, .slice A0_1 l0_1.length c0_1]) (t := 31) rfl rfl (by first | (go_simp; done) | (go_simp; rfl)) ?_; intro gb382 hg w26 hbox hb; have BK382 := hbox; have GW382 := gZ HB hg; have GE382 := gZ HB hg; replace HB := tB HB hb; clear hb hbox hg) | ((with_reducible refine gate_dst (N := 4) rfl ?_); (try (refine gate_guard (by rfl) ?_; dsimp only)); refine bV 4 (cs := #[.int .i64 0, .slice none 0 0]) (t := 31) rfl rfl (by first | (go_simp; done) | (go_simp; rfl)) ?_; intro gb383 hg w27 hbox hb; have BK383 := hbox; have GW383 := gZ HB hg; have GE383 := gZ HB hg; have NB382_383 := nG BK382 hg; have NB383_382 := nH BK382 hg; replace BK382 := bB BK382 hb; replace HB := tB HB hb; clear hb hbox hg; have hnb28 := NB382_383.out; have hnc28 := NB383_382.out; have hcz29_0 := vZ0 BK382; have hcz29_1 := vZ1 BK382; have hfz29_0 := kF BK382.out 0; have hfz29_1 := kF BK382.out 1) | ((with_reducible refine gC (f := 19) rfl ?_); refine goesL_ (some 7) rfl rfl Try.func19 kR rfl #[.agg #[.int .i64 a0_0, .slice A0_1 l0_1.length c0_1]] rfl sQ ?_; (with_reducible refine (impl_IsPuzzle.calls k a0_0 _ _ l0_1 false _ ?side1 ?side2 A3.out).mono ?_); (case side1 => repeat (first | exact (Kd.C_below HR0_1.out HB.out) | (with_reducible refine cA ?_ _) | (with_reducible refine cN ?_ _) | (with_reducible refine cD ?_))); (case side2 => exact HC0_1.out); rintro e w30 ⟨rfl, hb⟩; refine ⟨_, rfl, ?_⟩; replace BK382 := bB BK382 hb; replace BK383 := bB BK383 hb; replace HB := tB HB hb; (try clear hb); (try clear hb2); (try clear hk); (try clear hi); have hcz31_0 := vZ0 BK383; have hcz31_1 := vZ1 BK383; have hfz31_0 := kF BK383.out 0; have hfz31_1 := kF BK383.out 1))
  refine bodyPost_ret (results_ct rfl _ _ gb383 31 #[.int .i64 0, .slice none 0 0] (0, 0) _ rfl (fQ BK383) Try.underlying31 rfl kR) rfl ?_
  exact ⟨_, by first | rfl | (simp [errW_none, errW_some] <;> rfl) | (simp [*, errW_none, errW_some] <;> rfl), by first | exact Kd.R_nil _ _ _ _ _ | exact Kd.N_nil _ _ _ _ _ | exact Kd.V_nil _ _ _ _ _ | exact Kd.Q_nil _ _ _ _ _ | exact Kd.S_nil _ _ _ _ _, bE⟩

def spec_DropClue.f (k : Nat) (a0_0 : Int) (l0_1 : List (S_impl_Clue)) (a1 : Int) : Option (Int × (List (S_impl_Clue)) × Bool) := (spec_pzGood.f k a0_0 l0_1).bind fun t391 => (if t391 = true then ((spec_l1In.f a1 0 (wrap64 ((l0_1.length : Int) - 1))).bind fun t392 => (if t392 = true then ((spec_pzWithout.f l0_1 a1).bind fun t393 => (some (a0_0, t393, true))) else (some (0, ([] : List (S_impl_Clue)), false)))) else (some (0, ([] : List (S_impl_Clue)), false)))
theorem spec_DropClue.mono : ∀ a0 a1 a2 k, LeO (spec_DropClue.f k a0 a1 a2) (spec_DropClue.f (k + 1) a0 a1 a2) := by
 intro a0 a1 a2 k
 unfold spec_DropClue.f
 repeat' first | (with_reducible exact spec_pzGood.mono _ _ _) | (with_reducible exact LeO.refl _) | (with_reducible exact LeO.none _) | (with_reducible refine LeO.ite ?_ ?_) | (with_reducible refine LeO.bind ?_ (fun _ => ?_)) | exact spec_pzGood.mono _ _ _ | exact LeO.none _ | refine LeO.ite ?_ ?_ | refine LeO.bind ?_ (fun _ => ?_)
def spec_DropClue.T3 : Bool × List (List Nat × List Nat) := (true, [([], []), ([0], [0]), ([], []), ([2], [2]), ([], []), ([3, 4], [3, 4]), ([1, 5], [1, 5]), ([6, 5, 0, 1, 2, 3, 4, 5, 6], [6]), ([7, 0, 1, 2, 3, 4, 5, 6, 7], [])])
def spec_DropClue.B3 : List Nat := [0, 1, 0, 4, 0, 28, 63, 127, 255]
theorem spec_DropClue.tab3 : rtab .any (opsOf Try.f33 3) = spec_DropClue.T3 := by kernel_rfl
theorem spec_DropClue.bits3 : waitsOk spec_DropClue.T3.2 spec_DropClue.B3 = true := by kernel_rfl
set_option maxHeartbeats 8000000 in
set_option maxRecDepth 100000 in
theorem spec_DropClue.calls (k : Nat) (a0_0 : Int) (A0_1 : Option Addr) (c0_1 : Nat) (l0_1 : List (S_impl_Clue)) (a1 : Int) (r1 : Int) (r2 : List (S_impl_Clue)) (r3 : Bool) (w : World) (hr0_1 : Kd.C kd_impl_Clue w A0_1 l0_1.length l0_1) (hc0_1 : l0_1.length ≤ c0_1) (h : spec_DropClue.f k a0_0 l0_1 a1 = some (r1, r2, r3)) :
  Calls Try.prog 33 #[.agg #[.int .i64 a0_0, .slice A0_1 l0_1.length c0_1], .int .i64 a1] w fun e w' => ∃ v1_ : Value, e = .returned (.tuple #[.agg #[.int .i64 r1, v1_], .bool r3]) ∧ Kd.R kd_impl_Clue 48 w' w.heap.size (fun _ => True) v1_ r2 ∧ Below w.heap.size w w' := by
 have hu31 := Try.underlying31; have HR0_1 := aM hr0_1; have HC0_1 := aM hc0_1; clear hr0_1 hc0_1; have HB := aM (Below.refl w.heap.size w)
 unfold spec_DropClue.f at h; have H := h; clear h
 replace H := bS H; obtain ⟨t391, A3, H⟩ := H
 by_cases c4 : t391 = true
 ·subst c4; replace H := iT H; replace H := bS H; obtain ⟨t392, A5, H⟩ := H
  by_cases c6 : t392 = true
  ·subst c6; replace H := iT H; replace H := bS H; obtain ⟨t393, A7, H⟩ := H
   simp only [Option.some.injEq, Prod.mk.injEq] at H
   obtain ⟨rfl, rfl, rfl⟩ := H
   go_enter Try.func33, Try.ntmps33
   try go_wp2_with (first | ((with_reducible refine gate_dst (N := 2) rfl ?_); (try (refine gate_guard (by rfl) ?_; dsimp only)); refine bV 2 (cs := #[.int .i64 a0_0, .slice A0_1 l0_1.length c0_1]) (t := 31) rfl rfl (by first | (go_simp; done) | (go_simp; rfl)) ?_; intro gb389 hg w8 hbox hb; have BK389 := hbox; have GW389 := gZ HB hg; have GE389 := gZ HB hg; replace HB := tB HB hb; clear hb hbox hg) | ((with_reducible refine gate_dst (N := 4) rfl ?_); (try (refine gate_guard (by rfl) ?_; dsimp only)); refine bV 4 (cs := #[.int .i64 0, .slice none 0 0]) (t := 31) rfl rfl (by first | (go_simp; done) | (go_simp; rfl)) ?_; intro gb390 hg w9 hbox hb; have BK390 := hbox; have GW390 := gZ HB hg; have GE390 := gZ HB hg; have NB389_390 := nG BK389 hg; have NB390_389 := nH BK389 hg; replace BK389 := bB BK389 hb; replace HB := tB HB hb; clear hb hbox hg; have hnb10 := NB389_390.out; have hnc10 := NB390_389.out; have hcz11_0 := vZ0 BK389; have hcz11_1 := vZ1 BK389; have hfz11_0 := kF BK389.out 0; have hfz11_1 := kF BK389.out 1) | ((with_reducible refine gC (f := 41) rfl ?_); refine goesL_ (some 7) rfl rfl Try.func41 kR rfl #[.agg #[.int .i64 a0_0, .slice A0_1 l0_1.length c0_1]] rfl sQ ?_; (with_reducible refine (spec_pzGood.calls k a0_0 _ _ l0_1 true _ ?side1 ?side2 A3.out).mono ?_); (case side1 => repeat (first | exact (Kd.C_below HR0_1.out HB.out) | (with_reducible refine cA ?_ _) | (with_reducible refine cN ?_ _) | (with_reducible refine cD ?_))); (case side2 => exact HC0_1.out); rintro e w12 ⟨rfl, hb⟩; refine ⟨_, rfl, ?_⟩; replace BK389 := bB BK389 hb; replace BK390 := bB BK390 hb; replace HB := tB HB hb; (try clear hb); (try clear hb2); (try clear hk); (try clear hi); have hcz13_0 := vZ0 BK389; have hcz13_1 := vZ1 BK389; have hfz13_0 := kF BK389.out 0; have hfz13_1 := kF BK389.out 1) | (go_at_call 59; (with_reducible refine (spec_l1In.calls a1 0 (wrap64 ((l0_1.length : Int) - 1)) true _ A5.out).mono ?_); rintro e w' ⟨rfl, ⟨nd, rfl⟩⟩; (try (rw [drewN_self w12]; generalize hq_ : World.drewN w12 _ = w12; have n0_ : Aside0 (w12.heap[gb389]? = some (.cells #[.int .i64 a0_0, .slice A0_1 l0_1.length c0_1] 31 (0, 0))) := ⟨by rw [← hq_]; exact (gQ BK389)⟩; have n1_ : Aside0 (w12.heap[gb390]? = some (.cells #[.int .i64 0, .slice none 0 0] 31 (0, 0))) := ⟨by rw [← hq_]; exact (gQ BK390)⟩; have n2_ : Aside0 (Below w.heap.size w w12) := ⟨by rw [← hq_]; exact bE⟩; clear BK389 BK390 HB hq_; have BK389 := n0_; have BK390 := n1_; have HB := n2_; clear n0_ n1_ n2_))))
   replace BK389 := aM (kD BK389.out); replace BK390 := aM (kD BK390.out); replace HB := aM (pD HB.out)
   refine start_ (n := 9) (S := fun w' => w'.cell? ⟨gb389, 0, none⟩ = some (.int .i64 a0_0) ∧ w'.cell? ⟨gb389, 1, none⟩ = some (.slice A0_1 l0_1.length c0_1)) (ds := []) (bA 9 0) kR rfl kR ⟨vZ0 BK389, vZ1 BK389⟩ (fun hHeld => ?_); refine with_tabW spec_DropClue.tab3 spec_DropClue.bits3 (fun HT_ HW_ => ?_)
   generalize w12.drew = w14 at BK389 BK390 HB hHeld ⊢
   refine pU 0 19 (bA 9 1) HT_ ?_; refine pU 2 21 (bA 9 5) HT_ ?_; refine pU 4 23 (bA 9 21) HT_ ?_
   refine tU 1 20 (bA 9 23) HT_ HW_ hHeld ?_ (hy := Or.inl ⟨by rfl, by rintro w' ⟨s0, s1⟩; go_simp; with_reducible rfl⟩)
   refine tU 3 22 (bA 9 31) HT_ HW_ hHeld ?_ (hy := Or.inl ⟨by rfl, by rintro w' ⟨s0, s1⟩; go_simp; with_reducible rfl⟩)
   refine oU 5 24 (bA 9 63) HT_ (fun K hK => ?_)
   refine goes_ Try.func71 kR rfl #[.slice A0_1 l0_1.length c0_1, .int .i64 a1] (by rfl) rfl rfl sQ ?_
   with_reducible refine (spec_pzWithout.calls _ _ l0_1 a1 t393 _ ?side1 ?side2 A7.out).mono ?_
   (case side1 => repeat (first | exact (Kd.C_below HR0_1.out HB.out) | (with_reducible refine cA ?_ _) | (with_reducible refine cN ?_ _) | (with_reducible refine cD ?_)))
   (case side2 => exact HC0_1.out)
   rintro e w15 ⟨v394, rfl, ho0, hb⟩; refine ⟨_, rfl, ?_⟩; have HO395 := aM (Kd.R_lower ho0 (pZ bE)); replace BK389 := bB BK389 hb; replace BK390 := bB BK390 hb; replace HB := tB HB hb; (try clear hb); (try clear hb2); (try clear hk); (try clear hi); (try clear ho0); obtain ⟨Ao16, co16, eo16⟩ := Kd.R_slice HO395.out
   (first | subst eo16 | (injection eo16 with f1_ f2_ f3_; have f4_ := f1_.symm; have f5_ := f3_.symm; clear f1_ f2_ f3_; subst f4_; subst f5_))
   refine hK.out _ _ ⟨vZ0 BK389, vZ1 BK389⟩ (fun hHeld => ?_)
   clear hK K
   refine nU ?_
   refine pU 6 25 (bA 9 127) HT_ ?_
   refine one_ (i := 7) (N := none) (bA 9 255) rfl rfl (one_of HT_.out kR) (by decide) (fun K hK => ?_)
   have hs17 : w15.cell? ⟨gb390, 0, none⟩ = some (.int .i64 0) := vZ0 BK390; have hfs17 := kF BK390.out 0; have hns17_0 := NB389_390.out; have hms17_0 := NB390_389.out; have hs18 : w15.cell? ⟨gb390, 1, none⟩ = some (.slice none 0 0) := vZ1 BK390; have hfs18 := kF BK390.out 1; have hns18_0 := NB389_390.out; have hms18_0 := NB390_389.out
   refine skip_ (w1 := ?_) (by rfl) rfl ?_ ?_
   rotate_left
   ·go_simp
    rfl
   refine hK.out _ _ ⟨((cell_far (p := ⟨gb390, _, none⟩) NB389_390.out _).trans (((cell_far (p := ⟨gb390, _, none⟩) NB389_390.out _).trans (hHeld.1)))), ((cell_far (p := ⟨gb390, _, none⟩) NB389_390.out _).trans (((cell_far (p := ⟨gb390, _, none⟩) NB389_390.out _).trans (hHeld.2))))⟩ (fun hHeld => ?_)
   clear hK K; refine pU 8 5 (bA 9 511) HT_ ?_
   refine done_ (done_of HT_.out kR) ?_
   try go_wp2
   refine bodyPost_ret (results_ct rfl _ _ gb390 31 #[.int .i64 a0_0, .slice Ao16 t393.length co16] (0, 0) _ rfl (fQ BK390) Try.underlying31 rfl kR) rfl ?_
   exact ⟨_, by first | rfl | (simp [errW_none, errW_some] <;> rfl) | (simp [*, errW_none, errW_some] <;> rfl), by (with_reducible repeat (first | apply rA | apply rN | apply rD)); exact Kd.R_mono (Kd.R_far (p := ⟨gb390, 1, none⟩) (Kd.R_far (p := ⟨gb390, 0, none⟩) (Kd.R_types HO395.out BK390.out (by decide)) (fun _ hk => hk.2) (.int .i64 a0_0)) (fun _ hk => hk.2) (.slice Ao16 t393.length co16)) (fun _ hk => trivial), bE⟩
  ·replace c6 := Bool.eq_false_iff.mpr c6; subst c6; replace H := iF H
   simp only [Option.some.injEq, Prod.mk.injEq] at H
   obtain ⟨rfl, rfl, rfl⟩ := H
   go_enter Try.func33, Try.ntmps33
   go_wp2_with (first | ((with_reducible refine gate_dst (N := 2) rfl ?_); (try (refine gate_guard (by rfl) ?_; dsimp only)); refine bV 2 (cs := #[.int .i64 a0_0, .slice A0_1 l0_1.length c0_1]) (t := 31) rfl rfl (by first | (go_simp; done) | (go_simp; rfl)) ?_; intro gb389 hg w19 hbox hb; have BK389 := hbox; have GW389 := gZ HB hg; have GE389 := gZ HB hg; replace HB := tB HB hb; clear hb hbox hg) | ((with_reducible refine gate_dst (N := 4) rfl ?_); (try (refine gate_guard (by rfl) ?_; dsimp only)); refine bV 4 (cs := #[.int .i64 0, .slice none 0 0]) (t := 31) rfl rfl (by first | (go_simp; done) | (go_simp; rfl)) ?_; intro gb390 hg w20 hbox hb; have BK390 := hbox; have GW390 := gZ HB hg; have GE390 := gZ HB hg; have NB389_390 := nG BK389 hg; have NB390_389 := nH BK389 hg; replace BK389 := bB BK389 hb; replace HB := tB HB hb; clear hb hbox hg; have hnb21 := NB389_390.out; have hnc21 := NB390_389.out; have hcz22_0 := vZ0 BK389; have hcz22_1 := vZ1 BK389; have hfz22_0 := kF BK389.out 0; have hfz22_1 := kF BK389.out 1) | ((with_reducible refine gC (f := 41) rfl ?_); refine goesL_ (some 7) rfl rfl Try.func41 kR rfl #[.agg #[.int .i64 a0_0, .slice A0_1 l0_1.length c0_1]] rfl sQ ?_; (with_reducible refine (spec_pzGood.calls k a0_0 _ _ l0_1 true _ ?side1 ?side2 A3.out).mono ?_); (case side1 => repeat (first | exact (Kd.C_below HR0_1.out HB.out) | (with_reducible refine cA ?_ _) | (with_reducible refine cN ?_ _) | (with_reducible refine cD ?_))); (case side2 => exact HC0_1.out); rintro e w23 ⟨rfl, hb⟩; refine ⟨_, rfl, ?_⟩; replace BK389 := bB BK389 hb; replace BK390 := bB BK390 hb; replace HB := tB HB hb; (try clear hb); (try clear hb2); (try clear hk); (try clear hi); have hcz24_0 := vZ0 BK389; have hcz24_1 := vZ1 BK389; have hfz24_0 := kF BK389.out 0; have hfz24_1 := kF BK389.out 1) | (go_at_call 59; (with_reducible refine (spec_l1In.calls a1 0 (wrap64 ((l0_1.length : Int) - 1)) false _ A5.out).mono ?_); rintro e w' ⟨rfl, ⟨nd, rfl⟩⟩; (try (rw [drewN_self w23]; generalize hq_ : World.drewN w23 _ = w23; have n0_ : Aside0 (w23.heap[gb389]? = some (.cells #[.int .i64 a0_0, .slice A0_1 l0_1.length c0_1] 31 (0, 0))) := ⟨by rw [← hq_]; exact (gQ BK389)⟩; have n1_ : Aside0 (w23.heap[gb390]? = some (.cells #[.int .i64 0, .slice none 0 0] 31 (0, 0))) := ⟨by rw [← hq_]; exact (gQ BK390)⟩; have n2_ : Aside0 (Below w.heap.size w w23) := ⟨by rw [← hq_]; exact bE⟩; clear BK389 BK390 HB hq_; have BK389 := n0_; have BK390 := n1_; have HB := n2_; clear n0_ n1_ n2_)); have hcz25_0 := vZ0 BK390; have hcz25_1 := vZ1 BK390; have hfz25_0 := kF BK390.out 0; have hfz25_1 := kF BK390.out 1))
   refine bodyPost_ret (results_ct rfl _ _ gb390 31 #[.int .i64 0, .slice none 0 0] (0, 0) _ rfl (fQ BK390) Try.underlying31 rfl kR) rfl ?_
   exact ⟨_, by first | rfl | (simp [errW_none, errW_some] <;> rfl) | (simp [*, errW_none, errW_some] <;> rfl), by first | exact Kd.R_nil _ _ _ _ _ | exact Kd.N_nil _ _ _ _ _ | exact Kd.V_nil _ _ _ _ _ | exact Kd.Q_nil _ _ _ _ _ | exact Kd.S_nil _ _ _ _ _, bE⟩
 ·replace c4 := Bool.eq_false_iff.mpr c4; subst c4; replace H := iF H
  simp only [Option.some.injEq, Prod.mk.injEq] at H
  obtain ⟨rfl, rfl, rfl⟩ := H
  go_enter Try.func33, Try.ntmps33
  go_wp2_with (first | ((with_reducible refine gate_dst (N := 2) rfl ?_); (try (refine gate_guard (by rfl) ?_; dsimp only)); refine bV 2 (cs := #[.int .i64 a0_0, .slice A0_1 l0_1.length c0_1]) (t := 31) rfl rfl (by first | (go_simp; done) | (go_simp; rfl)) ?_; intro gb389 hg w26 hbox hb; have BK389 := hbox; have GW389 := gZ HB hg; have GE389 := gZ HB hg; replace HB := tB HB hb; clear hb hbox hg) | ((with_reducible refine gate_dst (N := 4) rfl ?_); (try (refine gate_guard (by rfl) ?_; dsimp only)); refine bV 4 (cs := #[.int .i64 0, .slice none 0 0]) (t := 31) rfl rfl (by first | (go_simp; done) | (go_simp; rfl)) ?_; intro gb390 hg w27 hbox hb; have BK390 := hbox; have GW390 := gZ HB hg; have GE390 := gZ HB hg; have NB389_390 := nG BK389 hg; have NB390_389 := nH BK389 hg; replace BK389 := bB BK389 hb; replace HB := tB HB hb; clear hb hbox hg; have hnb28 := NB389_390.out; have hnc28 := NB390_389.out; have hcz29_0 := vZ0 BK389; have hcz29_1 := vZ1 BK389; have hfz29_0 := kF BK389.out 0; have hfz29_1 := kF BK389.out 1) | ((with_reducible refine gC (f := 41) rfl ?_); refine goesL_ (some 7) rfl rfl Try.func41 kR rfl #[.agg #[.int .i64 a0_0, .slice A0_1 l0_1.length c0_1]] rfl sQ ?_; (with_reducible refine (spec_pzGood.calls k a0_0 _ _ l0_1 false _ ?side1 ?side2 A3.out).mono ?_); (case side1 => repeat (first | exact (Kd.C_below HR0_1.out HB.out) | (with_reducible refine cA ?_ _) | (with_reducible refine cN ?_ _) | (with_reducible refine cD ?_))); (case side2 => exact HC0_1.out); rintro e w30 ⟨rfl, hb⟩; refine ⟨_, rfl, ?_⟩; replace BK389 := bB BK389 hb; replace BK390 := bB BK390 hb; replace HB := tB HB hb; (try clear hb); (try clear hb2); (try clear hk); (try clear hi); have hcz31_0 := vZ0 BK390; have hcz31_1 := vZ1 BK390; have hfz31_0 := kF BK390.out 0; have hfz31_1 := kF BK390.out 1))
  refine bodyPost_ret (results_ct rfl _ _ gb390 31 #[.int .i64 0, .slice none 0 0] (0, 0) _ rfl (fQ BK390) Try.underlying31 rfl kR) rfl ?_
  exact ⟨_, by first | rfl | (simp [errW_none, errW_some] <;> rfl) | (simp [*, errW_none, errW_some] <;> rfl), by first | exact Kd.R_nil _ _ _ _ _ | exact Kd.N_nil _ _ _ _ _ | exact Kd.V_nil _ _ _ _ _ | exact Kd.Q_nil _ _ _ _ _ | exact Kd.S_nil _ _ _ _ _, bE⟩

def spec_DoesFit.f (k : Nat) (a0 : Int) (a1_0 : Int) (a1_1 : Int) (a1_2 : Int) (a1_3 : Int) (a2_0 : Int) (a2_1 : Int) : Option (Bool × Bool) := (spec_pzSide.f a0).bind fun t398 => (if t398 = true then ((spec_pzClue.f k a0 a1_0 a1_1 a1_2 a1_3).bind fun t399 => (if t399 = true then ((spec_pzOn.f a0 a2_0 a2_1).bind fun t400 => (if t400 = true then ((spec_pzFits.f k a1_0 a1_1 a1_2 a1_3 a2_0 a2_1).bind fun t401 => (some (t401, true))) else (some (false, false)))) else (some (false, false)))) else (some (false, false)))
theorem spec_DoesFit.mono : ∀ a0 a1 a2 a3 a4 a5 a6 k, LeO (spec_DoesFit.f k a0 a1 a2 a3 a4 a5 a6) (spec_DoesFit.f (k + 1) a0 a1 a2 a3 a4 a5 a6) := by
 intro a0 a1 a2 a3 a4 a5 a6 k
 unfold spec_DoesFit.f
 repeat' first | (with_reducible exact spec_pzClue.mono _ _ _ _ _ _) | (with_reducible exact spec_pzFits.mono _ _ _ _ _ _ _) | (with_reducible exact LeO.refl _) | (with_reducible exact LeO.none _) | (with_reducible refine LeO.ite ?_ ?_) | (with_reducible refine LeO.bind ?_ (fun _ => ?_)) | exact spec_pzClue.mono _ _ _ _ _ _ | exact spec_pzFits.mono _ _ _ _ _ _ _ | exact LeO.none _ | refine LeO.ite ?_ ?_ | refine LeO.bind ?_ (fun _ => ?_)
set_option maxHeartbeats 8000000 in
set_option maxRecDepth 100000 in
theorem spec_DoesFit.calls (k : Nat) (a0 : Int) (a1_0 : Int) (a1_1 : Int) (a1_2 : Int) (a1_3 : Int) (a2_0 : Int) (a2_1 : Int) (r1 : Bool) (r2 : Bool) (w : World) (h : spec_DoesFit.f k a0 a1_0 a1_1 a1_2 a1_3 a2_0 a2_1 = some (r1, r2)) :
  Calls Try.prog 35 #[.int .i64 a0, .agg #[.int .i64 a1_0, .int .i64 a1_1, .int .i64 a1_2, .int .i64 a1_3], .agg #[.int .i64 a2_0, .int .i64 a2_1]] w fun e w' => e = .returned (.tuple #[.bool r1, .bool r2]) ∧ Below w.heap.size w w' := by
 have hu48 := Try.underlying48; have hu41 := Try.underlying41; have HB := aM (Below.refl w.heap.size w)
 unfold spec_DoesFit.f at h; have H := h; clear h
 replace H := bS H; obtain ⟨t398, A4, H⟩ := H
 by_cases c5 : t398 = true
 ·subst c5; replace H := iT H; replace H := bS H; obtain ⟨t399, A6, H⟩ := H
  by_cases c7 : t399 = true
  ·subst c7; replace H := iT H; replace H := bS H; obtain ⟨t400, A8, H⟩ := H
   by_cases c9 : t400 = true
   ·subst c9; replace H := iT H; replace H := bS H; obtain ⟨t401, A10, H⟩ := H
    simp only [Option.some.injEq, Prod.mk.injEq] at H
    obtain ⟨rfl, rfl⟩ := H
    go_enter Try.func35, Try.ntmps35
    go_wp2_with (first | ((with_reducible refine gate_dst (N := 4) rfl ?_); refine bV 4 (cs := #[.int .i64 a1_0, .int .i64 a1_1, .int .i64 a1_2, .int .i64 a1_3]) (t := 48) rfl rfl (by first | (go_simp; done) | (go_simp; rfl)) ?_; intro gb396 hg w11 hbox hb; have BK396 := hbox; have GW396 := gZ HB hg; have GE396 := gZ HB hg; replace HB := tB HB hb; clear hb hbox hg) | ((with_reducible refine gate_dst (N := 5) rfl ?_); refine bV 5 (cs := #[.int .i64 a2_0, .int .i64 a2_1]) (t := 41) rfl rfl (by first | (go_simp; done) | (go_simp; rfl)) ?_; intro gb397 hg w12 hbox hb; have BK397 := hbox; have GW397 := gZ HB hg; have GE397 := gZ HB hg; have NB396_397 := nG BK396 hg; have NB397_396 := nH BK396 hg; replace BK396 := bB BK396 hb; replace HB := tB HB hb; clear hb hbox hg) | ((with_reducible refine gC (f := 57) rfl ?_); refine goesL_ (some 9) rfl rfl Try.func57 kR rfl #[.int .i64 a0] rfl sQ ?_; (with_reducible refine (spec_pzSide.calls a0 true _ A4.out).mono ?_); rintro e w' ⟨rfl, ⟨nd, rfl⟩⟩; refine ⟨_, rfl, ?_⟩; have hnb13 := NB396_397.out; have hnc13 := NB397_396.out; have hcz14_0 := vZ0 BK396; have hcz14_1 := vZ1 BK396; have hcz14_2 := vZ2 BK396; have hcz14_3 := vZ3 BK396; have hfz14_0 := kF BK396.out 0; have hfz14_1 := kF BK396.out 1; have hfz14_2 := kF BK396.out 2; have hfz14_3 := kF BK396.out 3) | (go_at_call 75; (with_reducible refine (spec_pzClue.calls k a0 a1_0 a1_1 a1_2 a1_3 true _ A6.out).mono ?_); rintro e w15 ⟨rfl, hb⟩; replace BK396 := bB BK396 hb; replace BK397 := bB BK397 hb; replace HB := tB HB hb; (try clear hb); (try clear hb2); (try clear hk); (try clear hi); have hcz16_0 := vZ0 BK397; have hcz16_1 := vZ1 BK397; have hfz16_0 := kF BK397.out 0; have hfz16_1 := kF BK397.out 1) | (go_at_call 58; (with_reducible refine (spec_pzOn.calls a0 a2_0 a2_1 true _ A8.out).mono ?_); rintro e w17 ⟨rfl, hb⟩; replace BK396 := bB BK396 hb; replace BK397 := bB BK397 hb; replace HB := tB HB hb; (try clear hb); (try clear hb2); (try clear hk); (try clear hi); have hcz18_0 := vZ0 BK396; have hcz18_1 := vZ1 BK396; have hcz18_2 := vZ2 BK396; have hcz18_3 := vZ3 BK396; have hfz18_0 := kF BK396.out 0; have hfz18_1 := kF BK396.out 1; have hfz18_2 := kF BK396.out 2; have hfz18_3 := kF BK396.out 3; have hcz19_0 := vZ0 BK397; have hcz19_1 := vZ1 BK397; have hfz19_0 := kF BK397.out 0; have hfz19_1 := kF BK397.out 1) | ((with_reducible refine gC (f := 76) rfl ?_); refine goesL_ (some 25) rfl rfl Try.func76 kR rfl #[.agg #[.int .i64 a1_0, .int .i64 a1_1, .int .i64 a1_2, .int .i64 a1_3], .agg #[.int .i64 a2_0, .int .i64 a2_1]] rfl sQ ?_; (with_reducible refine (spec_pzFits.calls k a1_0 a1_1 a1_2 a1_3 a2_0 a2_1 t401 _ A10.out).mono ?_); rintro e w20 ⟨rfl, hb⟩; refine ⟨_, rfl, ?_⟩; replace BK396 := bB BK396 hb; replace BK397 := bB BK397 hb; replace HB := tB HB hb; (try clear hb); (try clear hb2); (try clear hk); (try clear hi)))
    go_ret2
    exact ⟨wQ, bE⟩
   ·replace c9 := Bool.eq_false_iff.mpr c9; subst c9; replace H := iF H
    simp only [Option.some.injEq, Prod.mk.injEq] at H
    obtain ⟨rfl, rfl⟩ := H
    go_enter Try.func35, Try.ntmps35
    go_wp2_with (first | ((with_reducible refine gate_dst (N := 4) rfl ?_); refine bV 4 (cs := #[.int .i64 a1_0, .int .i64 a1_1, .int .i64 a1_2, .int .i64 a1_3]) (t := 48) rfl rfl (by first | (go_simp; done) | (go_simp; rfl)) ?_; intro gb396 hg w21 hbox hb; have BK396 := hbox; have GW396 := gZ HB hg; have GE396 := gZ HB hg; replace HB := tB HB hb; clear hb hbox hg) | ((with_reducible refine gate_dst (N := 5) rfl ?_); refine bV 5 (cs := #[.int .i64 a2_0, .int .i64 a2_1]) (t := 41) rfl rfl (by first | (go_simp; done) | (go_simp; rfl)) ?_; intro gb397 hg w22 hbox hb; have BK397 := hbox; have GW397 := gZ HB hg; have GE397 := gZ HB hg; have NB396_397 := nG BK396 hg; have NB397_396 := nH BK396 hg; replace BK396 := bB BK396 hb; replace HB := tB HB hb; clear hb hbox hg) | ((with_reducible refine gC (f := 57) rfl ?_); refine goesL_ (some 9) rfl rfl Try.func57 kR rfl #[.int .i64 a0] rfl sQ ?_; (with_reducible refine (spec_pzSide.calls a0 true _ A4.out).mono ?_); rintro e w' ⟨rfl, ⟨nd, rfl⟩⟩; refine ⟨_, rfl, ?_⟩; have hnb23 := NB396_397.out; have hnc23 := NB397_396.out; have hcz24_0 := vZ0 BK396; have hcz24_1 := vZ1 BK396; have hcz24_2 := vZ2 BK396; have hcz24_3 := vZ3 BK396; have hfz24_0 := kF BK396.out 0; have hfz24_1 := kF BK396.out 1; have hfz24_2 := kF BK396.out 2; have hfz24_3 := kF BK396.out 3) | (go_at_call 75; (with_reducible refine (spec_pzClue.calls k a0 a1_0 a1_1 a1_2 a1_3 true _ A6.out).mono ?_); rintro e w25 ⟨rfl, hb⟩; replace BK396 := bB BK396 hb; replace BK397 := bB BK397 hb; replace HB := tB HB hb; (try clear hb); (try clear hb2); (try clear hk); (try clear hi); have hcz26_0 := vZ0 BK397; have hcz26_1 := vZ1 BK397; have hfz26_0 := kF BK397.out 0; have hfz26_1 := kF BK397.out 1) | (go_at_call 58; (with_reducible refine (spec_pzOn.calls a0 a2_0 a2_1 false _ A8.out).mono ?_); rintro e w27 ⟨rfl, hb⟩; replace BK396 := bB BK396 hb; replace BK397 := bB BK397 hb; replace HB := tB HB hb; (try clear hb); (try clear hb2); (try clear hk); (try clear hi)))
    go_ret2
    exact ⟨wQ, bE⟩
  ·replace c7 := Bool.eq_false_iff.mpr c7; subst c7; replace H := iF H
   simp only [Option.some.injEq, Prod.mk.injEq] at H
   obtain ⟨rfl, rfl⟩ := H
   go_enter Try.func35, Try.ntmps35
   go_wp2_with (first | ((with_reducible refine gate_dst (N := 4) rfl ?_); refine bV 4 (cs := #[.int .i64 a1_0, .int .i64 a1_1, .int .i64 a1_2, .int .i64 a1_3]) (t := 48) rfl rfl (by first | (go_simp; done) | (go_simp; rfl)) ?_; intro gb396 hg w28 hbox hb; have BK396 := hbox; have GW396 := gZ HB hg; have GE396 := gZ HB hg; replace HB := tB HB hb; clear hb hbox hg) | ((with_reducible refine gate_dst (N := 5) rfl ?_); refine bV 5 (cs := #[.int .i64 a2_0, .int .i64 a2_1]) (t := 41) rfl rfl (by first | (go_simp; done) | (go_simp; rfl)) ?_; intro gb397 hg w29 hbox hb; have BK397 := hbox; have GW397 := gZ HB hg; have GE397 := gZ HB hg; have NB396_397 := nG BK396 hg; have NB397_396 := nH BK396 hg; replace BK396 := bB BK396 hb; replace HB := tB HB hb; clear hb hbox hg) | ((with_reducible refine gC (f := 57) rfl ?_); refine goesL_ (some 9) rfl rfl Try.func57 kR rfl #[.int .i64 a0] rfl sQ ?_; (with_reducible refine (spec_pzSide.calls a0 true _ A4.out).mono ?_); rintro e w' ⟨rfl, ⟨nd, rfl⟩⟩; refine ⟨_, rfl, ?_⟩; have hnb30 := NB396_397.out; have hnc30 := NB397_396.out; have hcz31_0 := vZ0 BK396; have hcz31_1 := vZ1 BK396; have hcz31_2 := vZ2 BK396; have hcz31_3 := vZ3 BK396; have hfz31_0 := kF BK396.out 0; have hfz31_1 := kF BK396.out 1; have hfz31_2 := kF BK396.out 2; have hfz31_3 := kF BK396.out 3) | (go_at_call 75; (with_reducible refine (spec_pzClue.calls k a0 a1_0 a1_1 a1_2 a1_3 false _ A6.out).mono ?_); rintro e w32 ⟨rfl, hb⟩; replace BK396 := bB BK396 hb; replace BK397 := bB BK397 hb; replace HB := tB HB hb; (try clear hb); (try clear hb2); (try clear hk); (try clear hi)))
   go_ret2
   exact ⟨wQ, bE⟩
 ·replace c5 := Bool.eq_false_iff.mpr c5; subst c5; replace H := iF H
  simp only [Option.some.injEq, Prod.mk.injEq] at H
  obtain ⟨rfl, rfl⟩ := H
  go_enter Try.func35, Try.ntmps35
  go_wp2_with (first | ((with_reducible refine gate_dst (N := 4) rfl ?_); refine bV 4 (cs := #[.int .i64 a1_0, .int .i64 a1_1, .int .i64 a1_2, .int .i64 a1_3]) (t := 48) rfl rfl (by first | (go_simp; done) | (go_simp; rfl)) ?_; intro gb396 hg w33 hbox hb; have BK396 := hbox; have GW396 := gZ HB hg; have GE396 := gZ HB hg; replace HB := tB HB hb; clear hb hbox hg) | ((with_reducible refine gate_dst (N := 5) rfl ?_); refine bV 5 (cs := #[.int .i64 a2_0, .int .i64 a2_1]) (t := 41) rfl rfl (by first | (go_simp; done) | (go_simp; rfl)) ?_; intro gb397 hg w34 hbox hb; have BK397 := hbox; have GW397 := gZ HB hg; have GE397 := gZ HB hg; have NB396_397 := nG BK396 hg; have NB397_396 := nH BK396 hg; replace BK396 := bB BK396 hb; replace HB := tB HB hb; clear hb hbox hg) | ((with_reducible refine gC (f := 57) rfl ?_); refine goesL_ (some 9) rfl rfl Try.func57 kR rfl #[.int .i64 a0] rfl sQ ?_; (with_reducible refine (spec_pzSide.calls a0 false _ A4.out).mono ?_); rintro e w' ⟨rfl, ⟨nd, rfl⟩⟩; refine ⟨_, rfl, ?_⟩))
  go_ret2
  exact ⟨wQ, bE⟩

def spec_IsClue.f (k : Nat) (a0 : Int) (a1_0 : Int) (a1_1 : Int) (a1_2 : Int) (a1_3 : Int) : Option (Bool) := (spec_pzSide.f a0).bind fun t403 => (if t403 = true then ((spec_pzClue.f k a0 a1_0 a1_1 a1_2 a1_3).bind fun t404 => (some t404)) else (some false))
theorem spec_IsClue.mono : ∀ a0 a1 a2 a3 a4 k, LeO (spec_IsClue.f k a0 a1 a2 a3 a4) (spec_IsClue.f (k + 1) a0 a1 a2 a3 a4) := by
 intro a0 a1 a2 a3 a4 k
 unfold spec_IsClue.f
 repeat' first | (with_reducible exact spec_pzClue.mono _ _ _ _ _ _) | (with_reducible exact LeO.refl _) | (with_reducible exact LeO.none _) | (with_reducible refine LeO.ite ?_ ?_) | (with_reducible refine LeO.bind ?_ (fun _ => ?_)) | exact spec_pzClue.mono _ _ _ _ _ _ | exact LeO.none _ | refine LeO.ite ?_ ?_ | refine LeO.bind ?_ (fun _ => ?_)
set_option maxHeartbeats 8000000 in
set_option maxRecDepth 100000 in
theorem spec_IsClue.calls (k : Nat) (a0 : Int) (a1_0 : Int) (a1_1 : Int) (a1_2 : Int) (a1_3 : Int) (r : Bool) (w : World) (h : spec_IsClue.f k a0 a1_0 a1_1 a1_2 a1_3 = some r) :
  Calls Try.prog 38 #[.int .i64 a0, .agg #[.int .i64 a1_0, .int .i64 a1_1, .int .i64 a1_2, .int .i64 a1_3]] w fun e w' => e = .returned (.bool r) ∧ Below w.heap.size w w' := by
 have hu48 := Try.underlying48; have HB := aM (Below.refl w.heap.size w)
 unfold spec_IsClue.f at h; have H := h; clear h
 replace H := bS H; obtain ⟨t403, A3, H⟩ := H
 by_cases c4 : t403 = true
 ·subst c4; replace H := iT H; replace H := bS H; obtain ⟨t404, A5, H⟩ := H; obtain rfl := Option.some.inj H
  go_enter Try.func38, Try.ntmps38
  go_wp2_with (first | ((with_reducible refine gate_dst (N := 3) rfl ?_); refine bV 3 (cs := #[.int .i64 a1_0, .int .i64 a1_1, .int .i64 a1_2, .int .i64 a1_3]) (t := 48) rfl rfl (by first | (go_simp; done) | (go_simp; rfl)) ?_; intro gb402 hg w6 hbox hb; have BK402 := hbox; have GW402 := gZ HB hg; have GE402 := gZ HB hg; replace HB := tB HB hb; clear hb hbox hg) | ((with_reducible refine gC (f := 57) rfl ?_); refine goesL_ (some 6) rfl rfl Try.func57 kR rfl #[.int .i64 a0] rfl sQ ?_; (with_reducible refine (spec_pzSide.calls a0 true _ A3.out).mono ?_); rintro e w' ⟨rfl, ⟨nd, rfl⟩⟩; refine ⟨_, rfl, ?_⟩; have hcz7_0 := vZ0 BK402; have hcz7_1 := vZ1 BK402; have hcz7_2 := vZ2 BK402; have hcz7_3 := vZ3 BK402; have hfz7_0 := kF BK402.out 0; have hfz7_1 := kF BK402.out 1; have hfz7_2 := kF BK402.out 2; have hfz7_3 := kF BK402.out 3) | (go_at_call 75; (with_reducible refine (spec_pzClue.calls k a0 a1_0 a1_1 a1_2 a1_3 t404 _ A5.out).mono ?_); rintro e w8 ⟨rfl, hb⟩; replace BK402 := bB BK402 hb; replace HB := tB HB hb; (try clear hb); (try clear hb2); (try clear hk); (try clear hi)))
  go_ret
  exact ⟨wQ, bE⟩
 ·replace c4 := Bool.eq_false_iff.mpr c4; subst c4; replace H := iF H; obtain rfl := Option.some.inj H
  go_enter Try.func38, Try.ntmps38
  go_wp2_with (first | ((with_reducible refine gate_dst (N := 3) rfl ?_); refine bV 3 (cs := #[.int .i64 a1_0, .int .i64 a1_1, .int .i64 a1_2, .int .i64 a1_3]) (t := 48) rfl rfl (by first | (go_simp; done) | (go_simp; rfl)) ?_; intro gb402 hg w9 hbox hb; have BK402 := hbox; have GW402 := gZ HB hg; have GE402 := gZ HB hg; replace HB := tB HB hb; clear hb hbox hg) | ((with_reducible refine gC (f := 57) rfl ?_); refine goesL_ (some 6) rfl rfl Try.func57 kR rfl #[.int .i64 a0] rfl sQ ?_; (with_reducible refine (spec_pzSide.calls a0 false _ A3.out).mono ?_); rintro e w' ⟨rfl, ⟨nd, rfl⟩⟩; refine ⟨_, rfl, ?_⟩))
  go_ret
  exact ⟨wQ, bE⟩

-- NOT PRINTED: function 102 (slices_ContainsFunc_impl_Peg)

def impl_IsPeg.f (a0_0 : Int) (a0_1 : Int) : Option (Bool) := (impl_within.f a0_0 (-40) 40).bind fun t406 => (if t406 = true then ((impl_within.f a0_1 (-40) 40).bind fun t407 => (some t407)) else (some false))
set_option maxHeartbeats 8000000 in
set_option maxRecDepth 100000 in
theorem impl_IsPeg.calls (a0_0 : Int) (a0_1 : Int) (r : Bool) (w : World) (h : impl_IsPeg.f a0_0 a0_1 = some r) :
  Calls Try.prog 104 #[.agg #[.int .i64 a0_0, .int .i64 a0_1]] w fun e w' => e = .returned (.bool r) ∧ Below w.heap.size w w' := by
 have hu41 := Try.underlying41; have HB := aM (Below.refl w.heap.size w)
 unfold impl_IsPeg.f at h; have H := h; clear h
 replace H := bS H; obtain ⟨t406, A2, H⟩ := H
 by_cases c3 : t406 = true
 ·subst c3; replace H := iT H; replace H := bS H; obtain ⟨t407, A4, H⟩ := H; obtain rfl := Option.some.inj H
  go_enter Try.func104, Try.ntmps104
  go_wp2_with (first | ((with_reducible refine gate_dst (N := 1) rfl ?_); refine bV 1 (cs := #[.int .i64 a0_0, .int .i64 a0_1]) (t := 41) rfl rfl (by first | (go_simp; done) | (go_simp; rfl)) ?_; intro gb405 hg w5 hbox hb; have BK405 := hbox; have GW405 := gZ HB hg; have GE405 := gZ HB hg; replace HB := tB HB hb; clear hb hbox hg; have hcz6_0 := vZ0 BK405; have hcz6_1 := vZ1 BK405; have hfz6_0 := kF BK405.out 0; have hfz6_1 := kF BK405.out 1) | ((with_reducible refine gC (f := 54) rfl ?_); refine goesL_ (some 5) rfl rfl Try.func54 kR rfl #[.int .i64 a0_0, .int .i64 (-40), .int .i64 40] rfl sQ ?_; (with_reducible refine (impl_within.calls a0_0 (-40) 40 true _ A2.out).mono ?_); rintro e w' ⟨rfl, ⟨nd, rfl⟩⟩; refine ⟨_, rfl, ?_⟩) | (go_at_call 54; (with_reducible refine (impl_within.calls a0_1 (-40) 40 t407 _ A4.out).mono ?_); rintro e w' ⟨rfl, ⟨nd, rfl⟩⟩))
  go_ret
  exact ⟨wQ, bE⟩
 ·replace c3 := Bool.eq_false_iff.mpr c3; subst c3; replace H := iF H; obtain rfl := Option.some.inj H
  go_enter Try.func104, Try.ntmps104
  go_wp2_with (first | ((with_reducible refine gate_dst (N := 1) rfl ?_); refine bV 1 (cs := #[.int .i64 a0_0, .int .i64 a0_1]) (t := 41) rfl rfl (by first | (go_simp; done) | (go_simp; rfl)) ?_; intro gb405 hg w7 hbox hb; have BK405 := hbox; have GW405 := gZ HB hg; have GE405 := gZ HB hg; replace HB := tB HB hb; clear hb hbox hg; have hcz8_0 := vZ0 BK405; have hcz8_1 := vZ1 BK405; have hfz8_0 := kF BK405.out 0; have hfz8_1 := kF BK405.out 1) | ((with_reducible refine gC (f := 54) rfl ?_); refine goesL_ (some 5) rfl rfl Try.func54 kR rfl #[.int .i64 a0_0, .int .i64 (-40), .int .i64 40] rfl sQ ?_; (with_reducible refine (impl_within.calls a0_0 (-40) 40 false _ A2.out).mono ?_); rintro e w' ⟨rfl, ⟨nd, rfl⟩⟩; refine ⟨_, rfl, ?_⟩))
  go_ret
  exact ⟨wQ, bE⟩

def impl_arePegs_1.f (a0_0 : Int) (a0_1 : Int) : Option (Bool) := (impl_IsPeg.f a0_0 a0_1).bind fun t409 => (some (!t409))
set_option maxHeartbeats 8000000 in
set_option maxRecDepth 100000 in
theorem impl_arePegs_1.calls (a0_0 : Int) (a0_1 : Int) (r : Bool) (w : World) (h : impl_arePegs_1.f a0_0 a0_1 = some r) :
  Calls Try.prog 103 #[.agg #[.int .i64 a0_0, .int .i64 a0_1]] w fun e w' => e = .returned (.bool r) ∧ Below w.heap.size w w' := by
 have hu41 := Try.underlying41; have HB := aM (Below.refl w.heap.size w)
 unfold impl_arePegs_1.f at h; have H := h; clear h
 replace H := bS H; obtain ⟨t409, A2, H⟩ := H; obtain rfl := Option.some.inj H
 go_enter Try.func103, Try.ntmps103
 go_wp2_with (first | ((with_reducible refine gate_dst (N := 1) rfl ?_); refine bV 1 (cs := #[.int .i64 a0_0, .int .i64 a0_1]) (t := 41) rfl rfl (by first | (go_simp; done) | (go_simp; rfl)) ?_; intro gb408 hg w3 hbox hb; have BK408 := hbox; have GW408 := gZ HB hg; have GE408 := gZ HB hg; replace HB := tB HB hb; clear hb hbox hg; have hcz4_0 := vZ0 BK408; have hcz4_1 := vZ1 BK408; have hfz4_0 := kF BK408.out 0; have hfz4_1 := kF BK408.out 1) | ((with_reducible refine gC (f := 104) rfl ?_); refine goesL_ (some 4) rfl rfl Try.func104 kR rfl #[.agg #[.int .i64 a0_0, .int .i64 a0_1]] rfl sQ ?_; (with_reducible refine (impl_IsPeg.calls a0_0 a0_1 t409 _ A2.out).mono ?_); rintro e w5 ⟨rfl, hb⟩; refine ⟨_, rfl, ?_⟩; replace BK408 := bB BK408 hb; replace HB := tB HB hb; (try clear hb); (try clear hb2); (try clear hk); (try clear hi)))
 go_ret
 exact ⟨wQ, bE⟩

end Go.Proofs.Ytoeclfihlhmnpaa.X
