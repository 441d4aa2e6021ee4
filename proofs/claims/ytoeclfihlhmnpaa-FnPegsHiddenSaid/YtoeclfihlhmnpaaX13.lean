-- thin
-- short
-- compact
import Derived.Test.YtoeclfihlhmnpaaXA
import Derived.Test.YtoeclfihlhmnpaaX0
import Derived.Test.YtoeclfihlhmnpaaX1
import Derived.Test.YtoeclfihlhmnpaaX7
import Derived.Test.YtoeclfihlhmnpaaX8
import Derived.Test.YtoeclfihlhmnpaaX9
import Derived.Test.YtoeclfihlhmnpaaX12
namespace Go.Proofs.Ytoeclfihlhmnpaa.X
open Go.RowKit Go.Proofs.Ytoeclfihlhmnpaa.XW Go.Proofs.YtoeclfihlhmnpaaW.PrintWords Go.Proofs.YtoeclfihlhmnpaaW.PrintLast Go.Proofs.YtoeclfihlhmnpaaW.PrintMore
attribute [local go_sem] max2_int min2_int max_two min_two max_three min_three max_four min_four   -- for this text's walks alone
set_option linter.unusedVariables false
set_option linter.unusedSimpArgs false

attribute [local go_sem high] eqA41
def impl_Solutions.f (k : Nat) (a0_0 : Int) (l0_1 : List (S_impl_Clue)) : Option ((List (S_impl_Peg)) × Bool) := (impl_IsPuzzle.f k a0_0 l0_1).bind fun t325 => (if t325 = true then ((impl_Puzzle_solutions.f k a0_0 l0_1 l0_1).bind fun t326 => ((slices_Clone_impl_Peg.f t326).bind fun t329 => (some (t329, true)))) else (some (([] : List (S_impl_Peg)), false)))
theorem impl_Solutions.mono : ∀ a0 a1 k, LeO (impl_Solutions.f k a0 a1) (impl_Solutions.f (k + 1) a0 a1) := by
 intro a0 a1 k
 unfold impl_Solutions.f
 repeat' first | (with_reducible exact impl_IsPuzzle.mono _ _ _) | (with_reducible exact impl_Puzzle_solutions.mono _ _ _ _) | (with_reducible exact LeO.refl _) | (with_reducible exact LeO.none _) | (with_reducible refine LeO.ite ?_ ?_) | (with_reducible refine LeO.bind ?_ (fun _ => ?_)) | exact impl_IsPuzzle.mono _ _ _ | exact impl_Puzzle_solutions.mono _ _ _ _ | exact LeO.none _ | refine LeO.ite ?_ ?_ | refine LeO.bind ?_ (fun _ => ?_)
set_option maxHeartbeats 8000000 in
set_option maxRecDepth 100000 in
theorem impl_Solutions.calls (k : Nat) (a0_0 : Int) (A0_1 : Option Addr) (c0_1 : Nat) (l0_1 : List (S_impl_Clue)) (r1 : List (S_impl_Peg)) (r2 : Bool) (w : World) (hr0_1 : Kd.C kd_impl_Clue w A0_1 l0_1.length l0_1) (hc0_1 : l0_1.length ≤ c0_1) (h : impl_Solutions.f k a0_0 l0_1 = some (r1, r2)) :
  Calls Try.prog 25 #[.agg #[.int .i64 a0_0, .slice A0_1 l0_1.length c0_1]] w fun e w' => ∃ v0_ : Value, e = .returned (.tuple #[v0_, .bool r2]) ∧ Kd.R kd_impl_Peg 41 w' w.heap.size (fun _ => True) v0_ r1 ∧ Below w.heap.size w w' := by
 have hu31 := Try.underlying31; have HR0_1 := aM hr0_1; have HC0_1 := aM hc0_1; clear hr0_1 hc0_1; have HB := aM (Below.refl w.heap.size w)
 unfold impl_Solutions.f at h; have H := h; clear h
 replace H := bS H; obtain ⟨t325, A2, H⟩ := H
 by_cases c3 : t325 = true
 ·subst c3; replace H := iT H; replace H := bS H; obtain ⟨t326, A4, H⟩ := H; replace H := bS H; obtain ⟨t329, A5, H⟩ := H
  simp only [Option.some.injEq, Prod.mk.injEq] at H
  obtain ⟨rfl, rfl⟩ := H
  go_enter Try.func25, Try.ntmps25
  go_wp2_with (first | ((with_reducible refine gate_dst (N := 1) rfl ?_); refine bV 1 (cs := #[.int .i64 a0_0, .slice A0_1 l0_1.length c0_1]) (t := 31) rfl rfl (by first | (go_simp; done) | (go_simp; rfl)) ?_; intro gb324 hg w6 hbox hb; have BK324 := hbox; have GW324 := gZ HB hg; have GE324 := gZ HB hg; replace HB := tB HB hb; clear hb hbox hg; have hcz7_0 := vZ0 BK324; have hcz7_1 := vZ1 BK324; have hfz7_0 := kF BK324.out 0; have hfz7_1 := kF BK324.out 1) | ((with_reducible refine gC (f := 19) rfl ?_); refine goesL_ (some 5) rfl rfl Try.func19 kR rfl #[.agg #[.int .i64 a0_0, .slice A0_1 l0_1.length c0_1]] rfl sQ ?_; (with_reducible refine (impl_IsPuzzle.calls k a0_0 _ _ l0_1 true _ ?side1 ?side2 A2.out).mono ?_); (case side1 => repeat (first | exact (Kd.C_below HR0_1.out HB.out) | (with_reducible refine cA ?_ _) | (with_reducible refine cN ?_ _) | (with_reducible refine cD ?_))); (case side2 => exact HC0_1.out); rintro e w8 ⟨rfl, hb⟩; refine ⟨_, rfl, ?_⟩; replace BK324 := bB BK324 hb; replace HB := tB HB hb; (try clear hb); (try clear hb2); (try clear hk); (try clear hi); have hcz9_0 := vZ0 BK324; have hcz9_1 := vZ1 BK324; have hfz9_0 := kF BK324.out 0; have hfz9_1 := kF BK324.out 1) | ((with_reducible refine gC (f := 73) rfl ?_); refine goesL_ (some 10) rfl rfl Try.func73 kR rfl #[.agg #[.int .i64 a0_0, .slice A0_1 l0_1.length c0_1], .slice A0_1 l0_1.length c0_1] rfl sQ ?_; (with_reducible refine (impl_Puzzle_solutions.calls k a0_0 _ _ l0_1 _ _ l0_1 t326 _ ?side1 ?side2 ?side3 ?side4 A4.out).mono ?_); (case side1 => repeat (first | exact (Kd.C_below HR0_1.out HB.out) | (with_reducible refine cA ?_ _) | (with_reducible refine cN ?_ _) | (with_reducible refine cD ?_))); (case side2 => exact HC0_1.out); (case side3 => repeat (first | exact (Kd.C_below HR0_1.out HB.out) | (with_reducible refine cA ?_ _) | (with_reducible refine cN ?_ _) | (with_reducible refine cD ?_))); (case side4 => exact HC0_1.out); rintro e w10 ⟨v327, rfl, ho0, hb⟩; refine ⟨_, rfl, ?_⟩; have HO328 := aM (Kd.R_lower ho0 (pZ bE)); replace BK324 := bB BK324 hb; replace HB := tB HB hb; (try clear hb); (try clear hb2); (try clear hk); (try clear hi); (try clear ho0); obtain ⟨Ao11, co11, eo11⟩ := Kd.R_slice HO328.out; subst eo11) | ((with_reducible refine gC (f := 72) rfl ?_); refine goesL_ (some 11) rfl rfl Try.func72 kR rfl #[.slice Ao11 t326.length co11] rfl sQ ?_; (with_reducible refine (slices_Clone_impl_Peg.calls _ _ t326 t329 _ ?side1 ?side2 A5.out).mono ?_); (case side1 => repeat (first | exact (rR HO328.out).2.2 | (with_reducible refine cA ?_ _) | (with_reducible refine cN ?_ _) | (with_reducible refine cD ?_))); (case side2 => exact (rR HO328.out).2.1); rintro e w12 ⟨v330, rfl, ho0, hb⟩; refine ⟨_, rfl, ?_⟩; have HO331 := aM (Kd.R_lower (Kd.R_new' ho0 (Kd.R_lt (by (with_reducible repeat (first | apply rA | apply rN | apply rD)); exact HO328.out))) (pZ bE)); replace HO328 := aM (Kd.R_elder' (by (with_reducible repeat (first | apply rA | apply rN | apply rD)); exact HO328.out) (Kd.R_base ho0) hb); replace BK324 := bB BK324 hb; replace HB := tB HB hb; (try clear hb); (try clear hb2); (try clear hk); (try clear hi); (try clear ho0)))
  go_ret2
  exact ⟨_, by first | rfl | (simp [errW_none, errW_some] <;> rfl) | (simp [*, errW_none, errW_some] <;> rfl), by (with_reducible repeat (first | apply rA | apply rN | apply rD)); exact Kd.R_mono HO331.out (fun _ hk => trivial), bE⟩
 ·replace c3 := Bool.eq_false_iff.mpr c3; subst c3; replace H := iF H
  simp only [Option.some.injEq, Prod.mk.injEq] at H
  obtain ⟨rfl, rfl⟩ := H
  go_enter Try.func25, Try.ntmps25
  go_wp2_with (first | ((with_reducible refine gate_dst (N := 1) rfl ?_); refine bV 1 (cs := #[.int .i64 a0_0, .slice A0_1 l0_1.length c0_1]) (t := 31) rfl rfl (by first | (go_simp; done) | (go_simp; rfl)) ?_; intro gb324 hg w13 hbox hb; have BK324 := hbox; have GW324 := gZ HB hg; have GE324 := gZ HB hg; replace HB := tB HB hb; clear hb hbox hg; have hcz14_0 := vZ0 BK324; have hcz14_1 := vZ1 BK324; have hfz14_0 := kF BK324.out 0; have hfz14_1 := kF BK324.out 1) | ((with_reducible refine gC (f := 19) rfl ?_); refine goesL_ (some 5) rfl rfl Try.func19 kR rfl #[.agg #[.int .i64 a0_0, .slice A0_1 l0_1.length c0_1]] rfl sQ ?_; (with_reducible refine (impl_IsPuzzle.calls k a0_0 _ _ l0_1 false _ ?side1 ?side2 A2.out).mono ?_); (case side1 => repeat (first | exact (Kd.C_below HR0_1.out HB.out) | (with_reducible refine cA ?_ _) | (with_reducible refine cN ?_ _) | (with_reducible refine cD ?_))); (case side2 => exact HC0_1.out); rintro e w15 ⟨rfl, hb⟩; refine ⟨_, rfl, ?_⟩; replace BK324 := bB BK324 hb; replace HB := tB HB hb; (try clear hb); (try clear hb2); (try clear hk); (try clear hi)))
  go_ret2
  exact ⟨_, by first | rfl | (simp [errW_none, errW_some] <;> rfl) | (simp [*, errW_none, errW_some] <;> rfl), by first | exact Kd.R_nil _ _ _ _ _ | exact Kd.N_nil _ _ _ _ _ | exact Kd.V_nil _ _ _ _ _ | exact Kd.Q_nil _ _ _ _ _ | exact Kd.S_nil _ _ _ _ _, bE⟩

def impl_NeedlessClues.l0 : Nat → Int → List Int → Int → Int → Int → List (S_impl_Clue) → Option (List Int × Bool)
 | 0, _, _, _, _, _, _ => none
 | k + 1, x4, x5, x18, x19, x333000, x333001 => if x19 < x18 then ((impl_dropped.f x333001 x19).bind fun t340 => ((impl_Puzzle_solutions.f k x333000 x333001 t340).bind fun t343 => (if (t343.length : Int) = x4 then (if x5.length < 17592186044416 then (impl_NeedlessClues.l0 k x4 (x5 ++ [x19]) x18 (wrap64 (x19 + 1)) x333000 x333001) else (none)) else (impl_NeedlessClues.l0 k x4 x5 x18 (wrap64 (x19 + 1)) x333000 x333001)))) else (some (x5, true))
def impl_NeedlessClues.f (k : Nat) (a0_0 : Int) (l0_1 : List (S_impl_Clue)) : Option (List Int × Bool) := (impl_IsPuzzle.f k a0_0 l0_1).bind fun t333 => (if t333 = true then ((impl_Puzzle_solutions.f k a0_0 l0_1 l0_1).bind fun t334 => (impl_NeedlessClues.l0 k (t334.length : Int) (([] : List Int)) (l0_1.length : Int) 0 a0_0 l0_1)) else (some (([] : List Int), false)))
theorem impl_NeedlessClues.mono_l : ∀ k, (∀ y0 y1 y2 y3 y4 y5, LeO (impl_NeedlessClues.l0 k y0 y1 y2 y3 y4 y5) (impl_NeedlessClues.l0 (k + 1) y0 y1 y2 y3 y4 y5))
 | 0 => fun _ _ _ _ _ _ r h => by simp [impl_NeedlessClues.l0] at h
 | k + 1 => by
  have ih0 := impl_NeedlessClues.mono_l k
  ·intro y0 y1 y2 y3 y4 y5
   unfold impl_NeedlessClues.l0
   repeat' first
   | (with_reducible exact ih0 _ _ _ _ _ _)
   | (with_reducible exact impl_IsPuzzle.mono _ _ _)
   | (with_reducible exact impl_Puzzle_solutions.mono _ _ _ _)
   | (with_reducible exact LeO.refl _)
   | (with_reducible exact LeO.none _)
   | (with_reducible refine LeO.ite ?_ ?_)
   | (with_reducible refine LeO.bind ?_ (fun _ => ?_))
   | exact ih0 _ _ _ _ _ _
   | exact impl_IsPuzzle.mono _ _ _
   | exact impl_Puzzle_solutions.mono _ _ _ _
   | exact LeO.none _
   | refine LeO.ite ?_ ?_
   | refine LeO.bind ?_ (fun _ => ?_)
theorem impl_NeedlessClues.mono : ∀ a0 a1 k, LeO (impl_NeedlessClues.f k a0 a1) (impl_NeedlessClues.f (k + 1) a0 a1) := by
 intro a0 a1 k
 have ih0 := impl_NeedlessClues.mono_l k
 unfold impl_NeedlessClues.f
 repeat' first | (with_reducible exact ih0 _ _ _ _ _ _) | (with_reducible exact impl_IsPuzzle.mono _ _ _) | (with_reducible exact impl_Puzzle_solutions.mono _ _ _ _) | (with_reducible exact LeO.refl _) | (with_reducible exact LeO.none _) | (with_reducible refine LeO.ite ?_ ?_) | (with_reducible refine LeO.bind ?_ (fun _ => ?_)) | exact ih0 _ _ _ _ _ _ | exact impl_IsPuzzle.mono _ _ _ | exact impl_Puzzle_solutions.mono _ _ _ _ | exact LeO.none _ | refine LeO.ite ?_ ?_ | refine LeO.bind ?_ (fun _ => ?_)
def impl_NeedlessClues.T7 : Bool × List (List Nat × List Nat) := (true, [([], []), ([], []), ([1], [1]), ([], []), ([2, 3], [2, 3]), ([0, 4, 4], [0, 4]), ([5], [5]), ([], []), ([6, 7], [6, 7])])
def impl_NeedlessClues.B7 : List Nat := [0, 0, 2, 0, 14, 31, 63, 0, 255]
theorem impl_NeedlessClues.tab7 : rtab .any (opsOf Try.f26 7) = impl_NeedlessClues.T7 := by kernel_rfl
theorem impl_NeedlessClues.bits7 : waitsOk impl_NeedlessClues.T7.2 impl_NeedlessClues.B7 = true := by kernel_rfl
set_option maxHeartbeats 8000000 in
set_option maxRecDepth 100000 in
theorem impl_NeedlessClues.calls (k : Nat) (a0_0 : Int) (A0_1 : Option Addr) (c0_1 : Nat) (l0_1 : List (S_impl_Clue)) (r1 : List Int) (r2 : Bool) (w : World) (hr0_1 : Kd.C kd_impl_Clue w A0_1 l0_1.length l0_1) (hc0_1 : l0_1.length ≤ c0_1) (h : impl_NeedlessClues.f k a0_0 l0_1 = some (r1, r2)) :
  Calls Try.prog 26 #[.agg #[.int .i64 a0_0, .slice A0_1 l0_1.length c0_1]] w fun e w' => ∃ v0_ : Value, e = .returned (.tuple #[v0_, .bool r2]) ∧ Kd.R (Kd.int .i64) 3 w' w.heap.size (fun _ => True) v0_ r1 ∧ Below w.heap.size w w' := by
 have hu31 := Try.underlying31; have HR0_1 := aM hr0_1; have HC0_1 := aM hc0_1; clear hr0_1 hc0_1; have HB := aM (Below.refl w.heap.size w)
 unfold impl_NeedlessClues.f at h; have H := h; clear h
 replace H := bS H; obtain ⟨t333, A2, H⟩ := H
 by_cases c3 : t333 = true
 ·subst c3; replace H := iT H; replace H := bS H; obtain ⟨t334, A4, H⟩ := H; obtain ⟨y337, hy337⟩ : ∃ y_ : List Int, y_ = (([] : List Int)) := ⟨_, rfl⟩; rw [← hy337] at H; have Ny337 := aM hy337; clear hy337; have H' := aM H; clear H
  go_enter Try.func26, Try.ntmps26
  go_wp2_with (first | ((with_reducible refine gate_dst (N := 1) rfl ?_); refine bV 1 (cs := #[.int .i64 a0_0, .slice A0_1 l0_1.length c0_1]) (t := 31) rfl rfl (by first | (go_simp; done) | (go_simp; rfl)) ?_; intro gb332 hg w5 hbox hb; have BK332 := hbox; have GW332 := gZ HB hg; have GE332 := gZ HB hg; replace HB := tB HB hb; clear hb hbox hg; have hcz6_0 := vZ0 BK332; have hcz6_1 := vZ1 BK332; have hfz6_0 := kF BK332.out 0; have hfz6_1 := kF BK332.out 1) | ((with_reducible refine gC (f := 19) rfl ?_); refine goesL_ (some 8) rfl rfl Try.func19 kR rfl #[.agg #[.int .i64 a0_0, .slice A0_1 l0_1.length c0_1]] rfl sQ ?_; (with_reducible refine (impl_IsPuzzle.calls k a0_0 _ _ l0_1 true _ ?side1 ?side2 A2.out).mono ?_); (case side1 => repeat (first | exact (Kd.C_below HR0_1.out HB.out) | (with_reducible refine cA ?_ _) | (with_reducible refine cN ?_ _) | (with_reducible refine cD ?_))); (case side2 => exact HC0_1.out); rintro e w7 ⟨rfl, hb⟩; refine ⟨_, rfl, ?_⟩; replace BK332 := bB BK332 hb; replace HB := tB HB hb; (try clear hb); (try clear hb2); (try clear hk); (try clear hi); have hcz8_0 := vZ0 BK332; have hcz8_1 := vZ1 BK332; have hfz8_0 := kF BK332.out 0; have hfz8_1 := kF BK332.out 1) | ((with_reducible refine gC (f := 73) rfl ?_); refine goesL_ (some 13) rfl rfl Try.func73 kR rfl #[.agg #[.int .i64 a0_0, .slice A0_1 l0_1.length c0_1], .slice A0_1 l0_1.length c0_1] rfl sQ ?_; (with_reducible refine (impl_Puzzle_solutions.calls k a0_0 _ _ l0_1 _ _ l0_1 t334 _ ?side1 ?side2 ?side3 ?side4 A4.out).mono ?_); (case side1 => repeat (first | exact (Kd.C_below HR0_1.out HB.out) | (with_reducible refine cA ?_ _) | (with_reducible refine cN ?_ _) | (with_reducible refine cD ?_))); (case side2 => exact HC0_1.out); (case side3 => repeat (first | exact (Kd.C_below HR0_1.out HB.out) | (with_reducible refine cA ?_ _) | (with_reducible refine cN ?_ _) | (with_reducible refine cD ?_))); (case side4 => exact HC0_1.out); rintro e w9 ⟨v335, rfl, ho0, hb⟩; refine ⟨_, rfl, ?_⟩; have HO336 := aM (Kd.R_lower ho0 (pZ bE)); replace BK332 := bB BK332 hb; replace HB := tB HB hb; (try clear hb); (try clear hb2); (try clear hk); (try clear hi); (try clear ho0); obtain ⟨Ao10, co10, eo10⟩ := Kd.R_slice HO336.out; subst eo10) | ((with_reducible refine gate_dst (N := 15) rfl ?_); refine Kd.R_lit (Kd.int .i64) _ 3 ?hg (N := 15) ?hd (xs := ([] : List Int)) (inner := []) (ok := fun _ => True) (okp := fun _ => True) ?hr ?hp (fun _ hk => hk) trivial (Below.refl _ _) (Nat.le_refl _) (by simp) ?_; (case hd => rfl); (case hg => rfl); (case hr => first | (go_simp; done) | (go_simp; rfl)); (case hp => exact (Reps.none _ _)); intro v338 w11 ho12 hb hg_ hnew_; clear hg_ hnew_; (first | rw [← Ny337.out] at ho12 | (simp only [Int.reduceToNat] at ho12; rw [← Ny337.out] at ho12)); have HO339 := aM (Kd.R_lower ho12 (pZ bE)); replace HO336 := aM (Kd.R_below (by (with_reducible repeat (first | apply rA | apply rN | apply rD)); exact HO336.out) hb); replace BK332 := bB BK332 hb; replace HB := tB HB hb; clear hb ho12; have hcz13_0 := vZ0 BK332; have hcz13_1 := vZ1 BK332; have hfz13_0 := kF BK332.out 0; have hfz13_1 := kF BK332.out 1))
  go_loopg [5, 19] k (fun kq v5 v19 w' => ∃ (x5_1 : List Int) (x19_1 : Int), v19 = .int .i64 x19_1 ∧ Aside0 (impl_NeedlessClues.l0 kq (t334.length : Int) x5_1 (l0_1.length : Int) x19_1 a0_0 l0_1 = some (r1, r2)) ∧ Aside0 (kq ≤ k) ∧ Aside0 (Kd.R (Kd.int .i64) 3 w' w.heap.size (fun _ => True) v5 x5_1) ∧ Aside0 (w'.heap[gb332]? = some (.cells #[.int .i64 a0_0, (.slice A0_1 l0_1.length c0_1)] 31 (0, 0))) ∧ Aside0 (Below w.heap.size w w'))
  case atStart => exact ⟨(y337), (0), eQ, H', ⟨Nat.le_refl _⟩, ⟨by (with_reducible repeat (first | apply rA | apply rN | apply rD)); exact HO339.out⟩, ⟨gQ BK332⟩, ⟨bE⟩⟩
  case round =>
   clear H'; (try clear c3); (try clear hcz13_0); (try clear hcz13_1); (try clear hcz6_0); (try clear hcz6_1); (try clear hcz8_0); (try clear hcz8_1); (try clear hfz13_0); (try clear hfz13_1); (try clear hfz6_0); (try clear hfz6_1); (try clear hfz8_0); (try clear hfz8_1); obtain ⟨x5_1, x19_1, rfl, HA, HK1, HO_5, BK332, HB⟩ := hrel
   cases gk with
   | zero => exact absurd HA.out (by simp [impl_NeedlessClues.l0])
   | succ k1 =>
    have H := HA.out; clear HA
    simp only [impl_NeedlessClues.l0] at H
    by_cases c14 : x19_1 < (l0_1.length : Int)
    ·rw [if_pos c14] at H; have c14b0 := dE c14; clear c14; replace H := bS H; obtain ⟨t340, A15, H⟩ := H; replace H := bS H; obtain ⟨t343, A16, H⟩ := H
     by_cases c17 : (t343.length : Int) = (t334.length : Int)
     ·rw [if_pos c17] at H; have c17b0 : ((t343.length : Int) == (t334.length : Int)) = true := beq_iff_eq.mpr c17; have c17b1 : ((t343.length : Int) != (t334.length : Int)) = false := bne_eq_false_iff_eq.mpr c17; have c17b2 : (t343.length == t334.length) = true := by first | simpa using c17 | (simp at c17 ⊢; omega)
      clear c17; replace H := iN H; obtain ⟨c18, H⟩ := H; have LMc18 := aM c18; clear c18; obtain ⟨y346, hy346⟩ : ∃ y_ : List Int, y_ = (x5_1 ++ [x19_1]) := ⟨_, rfl⟩; rw [← hy346] at H; have Ny346 := aM hy346; clear hy346; have H' := aM H; clear H
      try go_wp2
      replace HO_5 := aM (rD HO_5.out); replace BK332 := aM (kD BK332.out); replace HB := aM (pD HB.out)
      refine start_ (n := 9) (S := fun w' => w'.cell? ⟨gb332, 0, none⟩ = some (.int .i64 a0_0) ∧ w'.cell? ⟨gb332, 1, none⟩ = some (.slice A0_1 l0_1.length c0_1)) (ds := []) (bA 9 0) kR rfl kR ⟨vZ0 BK332, vZ1 BK332⟩ (fun hHeld => ?_); refine with_tabW impl_NeedlessClues.tab7 impl_NeedlessClues.bits7 (fun HT_ HW_ => ?_)
      generalize wr.drew = w19 at HO_5 BK332 HB hHeld ⊢
      refine pU 1 23 (bA 9 2) HT_ ?_; refine pU 3 25 (bA 9 10) HT_ ?_; refine pU 7 29 (bA 9 138) HT_ ?_
      refine tU 0 22 (bA 9 139) HT_ HW_ hHeld ?_ (hy := Or.inl ⟨by rfl, by rintro w' ⟨s0, s1⟩; go_simp; with_reducible rfl⟩)
      refine tU 2 24 (bA 9 143) HT_ HW_ hHeld ?_ (hy := Or.inl ⟨by rfl, by rintro w' ⟨s0, s1⟩; go_simp; with_reducible rfl⟩)
      refine oU 4 26 (bA 9 159) HT_ (fun K hK => ?_)
      refine goes_ Try.func69 kR rfl #[.slice A0_1 l0_1.length c0_1, .int .i64 x19_1] (by rfl) rfl rfl sQ ?_
      with_reducible refine (impl_dropped.calls _ _ l0_1 x19_1 t340 _ ?side1 ?side2 A15.out).mono ?_
      (case side1 => repeat (first | exact (Kd.C_below HR0_1.out HB.out) | (with_reducible refine cA ?_ _) | (with_reducible refine cN ?_ _) | (with_reducible refine cD ?_)))
      (case side2 => exact HC0_1.out)
      rintro e w20 ⟨v341, rfl, ho0, hb⟩; refine ⟨_, rfl, ?_⟩; have HO342 := aM (Kd.R_lower ho0 (pZ bE)); replace HO_5 := aM (Kd.R_below (by (with_reducible repeat (first | apply rA | apply rN | apply rD)); exact HO_5.out) hb); replace BK332 := bB BK332 hb; replace HB := tB HB hb
      (try clear hb); (try clear hb2); (try clear hk); (try clear hi); (try clear ho0); obtain ⟨Ao21, co21, eo21⟩ := Kd.R_slice HO342.out
      (first | subst eo21 | (injection eo21 with f1_ f2_ f3_; have f4_ := f1_.symm; have f5_ := f3_.symm; clear f1_ f2_ f3_; subst f4_; subst f5_))
      refine hK.out _ _ ⟨vZ0 BK332, vZ1 BK332⟩ (fun hHeld => ?_)
      clear hK K
      refine nU ?_
      refine oU 5 27 (bA 9 191) HT_ (fun K hK => ?_)
      refine goes_ Try.func73 kR rfl #[.agg #[.int .i64 a0_0, .slice A0_1 l0_1.length c0_1], .slice Ao21 t340.length co21] (by rfl) rfl rfl sQ ?_
      with_reducible refine (impl_Puzzle_solutions.calls k1 a0_0 _ _ l0_1 _ _ t340 t343 _ ?side1 ?side2 ?side3 ?side4 A16.out).mono ?_
      (case side1 => repeat (first | exact (Kd.C_below HR0_1.out HB.out) | (with_reducible refine cA ?_ _) | (with_reducible refine cN ?_ _) | (with_reducible refine cD ?_)))
      (case side2 => exact HC0_1.out)
      (case side3 => repeat (first | exact (rR HO342.out).2.2 | (with_reducible refine cA ?_ _) | (with_reducible refine cN ?_ _) | (with_reducible refine cD ?_)))
      (case side4 => exact (rR HO342.out).2.1)
      rintro e w22 ⟨v344, rfl, ho0, hb⟩; refine ⟨_, rfl, ?_⟩; have HO345 := aM (Kd.R_lower ho0 (pZ bE)); replace HO_5 := aM (Kd.R_below (by (with_reducible repeat (first | apply rA | apply rN | apply rD)); exact HO_5.out) hb); replace HO342 := aM (Kd.R_below (by (with_reducible repeat (first | apply rA | apply rN | apply rD)); exact HO342.out) hb); replace BK332 := bB BK332 hb; replace HB := tB HB hb
      (try clear hb); (try clear hb2); (try clear hk); (try clear hi); (try clear ho0); obtain ⟨Ao23, co23, eo23⟩ := Kd.R_slice HO345.out
      (first | subst eo23 | (injection eo23 with f1_ f2_ f3_; have f4_ := f1_.symm; have f5_ := f3_.symm; clear f1_ f2_ f3_; subst f4_; subst f5_))
      refine hK.out _ _ ⟨vZ0 BK332, vZ1 BK332⟩ (fun hHeld => ?_)
      clear hK K
      refine nU ?_
      refine pU 6 28 (bA 9 255) HT_ ?_; refine pU 8 30 (bA 9 511) HT_ ?_
      refine done_ (done_of HT_.out kR) ?_
      try go_wp2_with (first | ((with_reducible refine gate_builtin (b := .append) (xs := #[.tmp 31, .tmp 33]) rfl ?_); at_builtin; refine Kd.R_append (Kd.int .i64) (w0 := w) w.heap.size rfl (.tmp 31) (.tmp 33) 54 3 (.int .i64 0) 8 rfl Try.underlying54 info3 rfl (by decide) (by omega) u5 x5_1 x19_1 [.int .i64 x19_1] (fun _ => True) (fun _ => False) rfl rfl ?aP (fun _ hk => hk.elim) ?aF ?aO ?aB ?aS ?aL ?_; (case aP => exact rfl); (case aB => exact bE); (case aF => exact (fun _ _ => trivial)); (case aO => exact (by (with_reducible repeat (first | apply rA | apply rN | apply rD)); exact HO_5.out)); (case aS => exact (pZ bE)); (case aL => have := LMc18.out; omega); intro v347 w24 ho hb hg hat; rw [← Ny346.out] at ho; have n0_ := aM (blk_grown (g := gb332) (o := .cells #[.int .i64 a0_0, .slice A0_1 l0_1.length c0_1] 31 (0, 0)) (gQ BK332) hg (Kd.R_ne HO_5.out BK332.out (by decide))); have n1_ := aM (Kd.R_over' (by (with_reducible repeat (first | apply rA | apply rN | apply rD)); exact HO342.out) (Kd.R_typed (by (with_reducible repeat (first | apply rA | apply rN | apply rD)); exact HO_5.out)) (by decide) hg); have n2_ := aM (Kd.R_over' (by (with_reducible repeat (first | apply rA | apply rN | apply rD)); exact HO345.out) (Kd.R_typed (by (with_reducible repeat (first | apply rA | apply rN | apply rD)); exact HO_5.out)) (by decide) hg); have n3_ := aM (hb); have n4_ := aM (ho); clear BK332; clear HO342; clear HO345; clear HB; clear HO_5; have BK332 := n0_; have HO342 := n1_; have HO345 := n2_; have HB := n3_; have HO348 := n4_; clear n0_ n1_ n2_ n3_ n4_; clear ho hb hg hat))
      go_roundg k1
      case measure => have := HK1.out; omega
      case rel => exact ⟨(y346), (wrap64 (x19_1 + 1)), eQ, H', ⟨by have := HK1.out; omega⟩, ⟨by (with_reducible repeat (first | apply rA | apply rN | apply rD)); exact HO348.out⟩, ⟨gQ BK332⟩, ⟨bE⟩⟩
     ·rw [if_neg c17] at H; have c17b0 : ((t343.length : Int) == (t334.length : Int)) = false := beq_eq_false_iff_ne.mpr c17; have c17b1 : ((t343.length : Int) != (t334.length : Int)) = true := bne_iff_ne.mpr c17; have c17b2 : (t343.length == t334.length) = false := by first | simpa using c17 | (simp at c17 ⊢; omega)
      have H' := aM H; clear H
      try go_wp2
      replace HO_5 := aM (rD HO_5.out); replace BK332 := aM (kD BK332.out); replace HB := aM (pD HB.out)
      refine start_ (n := 9) (S := fun w' => w'.cell? ⟨gb332, 0, none⟩ = some (.int .i64 a0_0) ∧ w'.cell? ⟨gb332, 1, none⟩ = some (.slice A0_1 l0_1.length c0_1)) (ds := []) (bA 9 0) kR rfl kR ⟨vZ0 BK332, vZ1 BK332⟩ (fun hHeld => ?_); refine with_tabW impl_NeedlessClues.tab7 impl_NeedlessClues.bits7 (fun HT_ HW_ => ?_)
      generalize wr.drew = w25 at HO_5 BK332 HB hHeld ⊢
      refine pU 1 23 (bA 9 2) HT_ ?_; refine pU 3 25 (bA 9 10) HT_ ?_; refine pU 7 29 (bA 9 138) HT_ ?_
      refine tU 0 22 (bA 9 139) HT_ HW_ hHeld ?_ (hy := Or.inl ⟨by rfl, by rintro w' ⟨s0, s1⟩; go_simp; with_reducible rfl⟩)
      refine tU 2 24 (bA 9 143) HT_ HW_ hHeld ?_ (hy := Or.inl ⟨by rfl, by rintro w' ⟨s0, s1⟩; go_simp; with_reducible rfl⟩)
      refine oU 4 26 (bA 9 159) HT_ (fun K hK => ?_)
      refine goes_ Try.func69 kR rfl #[.slice A0_1 l0_1.length c0_1, .int .i64 x19_1] (by rfl) rfl rfl sQ ?_
      with_reducible refine (impl_dropped.calls _ _ l0_1 x19_1 t340 _ ?side1 ?side2 A15.out).mono ?_
      (case side1 => repeat (first | exact (Kd.C_below HR0_1.out HB.out) | (with_reducible refine cA ?_ _) | (with_reducible refine cN ?_ _) | (with_reducible refine cD ?_)))
      (case side2 => exact HC0_1.out)
      rintro e w26 ⟨v341, rfl, ho0, hb⟩; refine ⟨_, rfl, ?_⟩; have HO342 := aM (Kd.R_lower ho0 (pZ bE)); replace HO_5 := aM (Kd.R_below (by (with_reducible repeat (first | apply rA | apply rN | apply rD)); exact HO_5.out) hb); replace BK332 := bB BK332 hb; replace HB := tB HB hb
      (try clear hb); (try clear hb2); (try clear hk); (try clear hi); (try clear ho0); obtain ⟨Ao27, co27, eo27⟩ := Kd.R_slice HO342.out
      (first | subst eo27 | (injection eo27 with f1_ f2_ f3_; have f4_ := f1_.symm; have f5_ := f3_.symm; clear f1_ f2_ f3_; subst f4_; subst f5_))
      refine hK.out _ _ ⟨vZ0 BK332, vZ1 BK332⟩ (fun hHeld => ?_)
      clear hK K
      refine nU ?_
      refine oU 5 27 (bA 9 191) HT_ (fun K hK => ?_)
      refine goes_ Try.func73 kR rfl #[.agg #[.int .i64 a0_0, .slice A0_1 l0_1.length c0_1], .slice Ao27 t340.length co27] (by rfl) rfl rfl sQ ?_
      with_reducible refine (impl_Puzzle_solutions.calls k1 a0_0 _ _ l0_1 _ _ t340 t343 _ ?side1 ?side2 ?side3 ?side4 A16.out).mono ?_
      (case side1 => repeat (first | exact (Kd.C_below HR0_1.out HB.out) | (with_reducible refine cA ?_ _) | (with_reducible refine cN ?_ _) | (with_reducible refine cD ?_)))
      (case side2 => exact HC0_1.out)
      (case side3 => repeat (first | exact (rR HO342.out).2.2 | (with_reducible refine cA ?_ _) | (with_reducible refine cN ?_ _) | (with_reducible refine cD ?_)))
      (case side4 => exact (rR HO342.out).2.1)
      rintro e w28 ⟨v344, rfl, ho0, hb⟩; refine ⟨_, rfl, ?_⟩; have HO345 := aM (Kd.R_lower ho0 (pZ bE)); replace HO_5 := aM (Kd.R_below (by (with_reducible repeat (first | apply rA | apply rN | apply rD)); exact HO_5.out) hb); replace HO342 := aM (Kd.R_below (by (with_reducible repeat (first | apply rA | apply rN | apply rD)); exact HO342.out) hb); replace BK332 := bB BK332 hb; replace HB := tB HB hb
      (try clear hb); (try clear hb2); (try clear hk); (try clear hi); (try clear ho0); obtain ⟨Ao29, co29, eo29⟩ := Kd.R_slice HO345.out
      (first | subst eo29 | (injection eo29 with f1_ f2_ f3_; have f4_ := f1_.symm; have f5_ := f3_.symm; clear f1_ f2_ f3_; subst f4_; subst f5_))
      refine hK.out _ _ ⟨vZ0 BK332, vZ1 BK332⟩ (fun hHeld => ?_)
      clear hK K
      refine nU ?_
      refine pU 6 28 (bA 9 255) HT_ ?_; refine pU 8 30 (bA 9 511) HT_ ?_
      refine done_ (done_of HT_.out kR) ?_
      try go_wp2
      go_roundg k1
      case measure => have := HK1.out; omega
      case rel => exact ⟨(x5_1), (wrap64 (x19_1 + 1)), eQ, H', ⟨by have := HK1.out; omega⟩, ⟨by (with_reducible repeat (first | apply rA | apply rN | apply rD)); exact HO_5.out⟩, ⟨gQ BK332⟩, ⟨bE⟩⟩
    ·rw [if_neg c14] at H; have c14b0 := decide_eq_false c14; clear c14
     simp only [Option.some.injEq, Prod.mk.injEq] at H
     obtain ⟨rfl, rfl⟩ := H; go_wp2
     go_ret2
     exact ⟨_, by first | rfl | (simp [errW_none, errW_some] <;> rfl) | (simp [*, errW_none, errW_some] <;> rfl), by (with_reducible repeat (first | apply rA | apply rN | apply rD)); exact HO_5.out, bE⟩
 ·replace c3 := Bool.eq_false_iff.mpr c3; subst c3; replace H := iF H
  simp only [Option.some.injEq, Prod.mk.injEq] at H
  obtain ⟨rfl, rfl⟩ := H
  go_enter Try.func26, Try.ntmps26
  go_wp2_with (first | ((with_reducible refine gate_dst (N := 1) rfl ?_); refine bV 1 (cs := #[.int .i64 a0_0, .slice A0_1 l0_1.length c0_1]) (t := 31) rfl rfl (by first | (go_simp; done) | (go_simp; rfl)) ?_; intro gb332 hg w30 hbox hb; have BK332 := hbox; have GW332 := gZ HB hg; have GE332 := gZ HB hg; replace HB := tB HB hb; clear hb hbox hg; have hcz31_0 := vZ0 BK332; have hcz31_1 := vZ1 BK332; have hfz31_0 := kF BK332.out 0; have hfz31_1 := kF BK332.out 1) | ((with_reducible refine gC (f := 19) rfl ?_); refine goesL_ (some 8) rfl rfl Try.func19 kR rfl #[.agg #[.int .i64 a0_0, .slice A0_1 l0_1.length c0_1]] rfl sQ ?_; (with_reducible refine (impl_IsPuzzle.calls k a0_0 _ _ l0_1 false _ ?side1 ?side2 A2.out).mono ?_); (case side1 => repeat (first | exact (Kd.C_below HR0_1.out HB.out) | (with_reducible refine cA ?_ _) | (with_reducible refine cN ?_ _) | (with_reducible refine cD ?_))); (case side2 => exact HC0_1.out); rintro e w32 ⟨rfl, hb⟩; refine ⟨_, rfl, ?_⟩; replace BK332 := bB BK332 hb; replace HB := tB HB hb; (try clear hb); (try clear hb2); (try clear hk); (try clear hi)))
  go_ret2
  exact ⟨_, by first | rfl | (simp [errW_none, errW_some] <;> rfl) | (simp [*, errW_none, errW_some] <;> rfl), by first | exact Kd.R_nil _ _ _ _ _ | exact Kd.N_nil _ _ _ _ _ | exact Kd.V_nil _ _ _ _ _ | exact Kd.Q_nil _ _ _ _ _ | exact Kd.S_nil _ _ _ _ _, bE⟩

def laws_ePegs.l0 : Nat → List (S_impl_Peg) → List (S_impl_Peg) → Int → Int → Option (Bool)
 | 0, _, _, _, _ => none
 | k + 1, x0, x1, x12, x13 => if x13 < x12 then (if 0 ≤ x13 then (if x13 < (x0.length : Int) then (if x13 < (x1.length : Int) then (if (!(((rd_impl_Peg x0 x13).f0) == ((rd_impl_Peg x1 x13).f0)) || (!(((rd_impl_Peg x0 x13).f1) == ((rd_impl_Peg x1 x13).f1)))) = true then (some false) else (laws_ePegs.l0 k x0 x1 x12 (wrap64 (x13 + 1)))) else (none)) else (none)) else (none)) else (some true)
def laws_ePegs.f (k : Nat) (l0 : List (S_impl_Peg)) (l1 : List (S_impl_Peg)) : Option (Bool) := if (l0.length : Int) = (l1.length : Int) then (laws_ePegs.l0 k l0 l1 (l0.length : Int) 0) else (some false)
theorem laws_ePegs.mono_l : ∀ k, (∀ y0 y1 y2 y3, LeO (laws_ePegs.l0 k y0 y1 y2 y3) (laws_ePegs.l0 (k + 1) y0 y1 y2 y3))
 | 0 => fun _ _ _ _ r h => by simp [laws_ePegs.l0] at h
 | k + 1 => by
  have ih0 := laws_ePegs.mono_l k
  ·intro y0 y1 y2 y3
   unfold laws_ePegs.l0
   repeat' first
   | (with_reducible exact ih0 _ _ _ _)
   | (with_reducible exact LeO.refl _)
   | (with_reducible exact LeO.none _)
   | (with_reducible refine LeO.ite ?_ ?_)
   | (with_reducible refine LeO.bind ?_ (fun _ => ?_))
   | exact ih0 _ _ _ _
   | exact LeO.none _
   | refine LeO.ite ?_ ?_
   | refine LeO.bind ?_ (fun _ => ?_)
theorem laws_ePegs.mono : ∀ a0 a1 k, LeO (laws_ePegs.f k a0 a1) (laws_ePegs.f (k + 1) a0 a1) := by
 intro a0 a1 k
 have ih0 := laws_ePegs.mono_l k
 unfold laws_ePegs.f
 repeat' first | (with_reducible exact ih0 _ _ _ _) | (with_reducible exact LeO.refl _) | (with_reducible exact LeO.none _) | (with_reducible refine LeO.ite ?_ ?_) | (with_reducible refine LeO.bind ?_ (fun _ => ?_)) | exact ih0 _ _ _ _ | exact LeO.none _ | refine LeO.ite ?_ ?_ | refine LeO.bind ?_ (fun _ => ?_)
set_option maxHeartbeats 8000000 in
set_option maxRecDepth 100000 in
theorem laws_ePegs.calls (k : Nat) (A0 : Option Addr) (c0 : Nat) (l0 : List (S_impl_Peg)) (A1 : Option Addr) (c1 : Nat) (l1 : List (S_impl_Peg)) (r : Bool) (w : World) (hr0 : Kd.C kd_impl_Peg w A0 l0.length l0) (hc0 : l0.length ≤ c0) (hr1 : Kd.C kd_impl_Peg w A1 l1.length l1) (hc1 : l1.length ≤ c1) (h : laws_ePegs.f k l0 l1 = some r) :
  Calls Try.prog 27 #[.slice A0 l0.length c0, .slice A1 l1.length c1] w fun e w' => e = .returned (.bool r) ∧ Drawn0 w w' := by
 have hu41 := Try.underlying41; have HR0 := aM hr0; have HC0 := aM hc0; clear hr0 hc0; have HR1 := aM hr1; have HC1 := aM hc1; clear hr1 hc1
 unfold laws_ePegs.f at h; have H := h; clear h
 by_cases c3 : (l0.length : Int) = (l1.length : Int)
 ·rw [if_pos c3] at H; have c3b0 : ((l0.length : Int) == (l1.length : Int)) = true := beq_iff_eq.mpr c3; have c3b1 : ((l0.length : Int) != (l1.length : Int)) = false := bne_eq_false_iff_eq.mpr c3; have c3b2 : (l0.length == l1.length) = true := by first | simpa using c3 | (simp at c3 ⊢; omega)
  clear c3; have H' := aM H; clear H
  go_enter Try.func27, Try.ntmps27
  go_wp2
  repeat (go_quiet (fail); try go_wp2)
  go_loopg [13] k (fun kq v13 w' => ∃ (x13_1 : Int), v13 = .int .i64 x13_1 ∧ Aside0 (laws_ePegs.l0 kq l0 l1 (l0.length : Int) x13_1 = some r) ∧ Aside0 (kq ≤ k) ∧ Drawn0 w w')
  case atStart => exact ⟨(0), eQ, H', ⟨Nat.le_refl _⟩, dQ⟩
  case round =>
   clear H'; (try clear c1); (try clear c3); (try clear c3b0); (try clear c3b1); (try clear c3b2); obtain ⟨x13_1, rfl, HA, HK1, ⟨m1, rfl⟩⟩ := hrel
   cases gk with
   | zero => exact absurd HA.out (by simp [laws_ePegs.l0])
   | succ k1 =>
    have H := HA.out; clear HA
    simp only [laws_ePegs.l0] at H
    by_cases c4 : x13_1 < (l0.length : Int)
    ·rw [if_pos c4] at H; have c4b0 := dE c4; clear c4; replace H := iD H; obtain ⟨c5b0, H⟩ := H; replace H := iD H; obtain ⟨c6b0, H⟩ := H; replace H := iD H; obtain ⟨c7b0, H⟩ := H
     by_cases c8 : (!(((rd_impl_Peg l0 x13_1).f0) == ((rd_impl_Peg l1 x13_1).f0)) || (!(((rd_impl_Peg l0 x13_1).f1) == ((rd_impl_Peg l1 x13_1).f1)))) = true
     ·rw [if_pos c8] at H; have c8b0 := c8; clear c8; obtain rfl := Option.some.inj H; have p349 : 0 ≤ (x13_1 : Int) := dT aQ; have q349 : x13_1 < (l0.length : Int) := dT aQ; obtain ⟨ad349, e349, hx349_0, hx349_1⟩ := at_impl_Peg HR0.out x13_1 p349 q349
      cases e349
      replace p349 := eq_true p349; replace q349 := eq_true q349; have p350 : 0 ≤ (x13_1 : Int) := dT aQ; have q350 : x13_1 < (l1.length : Int) := dT aQ; obtain ⟨ad350, e350, hx350_0, hx350_1⟩ := at_impl_Peg HR1.out x13_1 p350 q350
      cases e350
      replace p350 := eq_true p350; replace q350 := eq_true q350; go_wp2
      repeat (go_quiet (fail); try go_wp2)
      go_ret
      exact ⟨eQ, dQ⟩
     ·rw [if_neg c8] at H; have c8b0 : (!(((rd_impl_Peg l0 x13_1).f0) == ((rd_impl_Peg l1 x13_1).f0)) || (!(((rd_impl_Peg l0 x13_1).f1) == ((rd_impl_Peg l1 x13_1).f1)))) = false := by simpa using c8
      clear c8; have H' := aM H; clear H; have p349 : 0 ≤ (x13_1 : Int) := dT aQ; have q349 : x13_1 < (l0.length : Int) := dT aQ; obtain ⟨ad349, e349, hx349_0, hx349_1⟩ := at_impl_Peg HR0.out x13_1 p349 q349
      cases e349
      replace p349 := eq_true p349; replace q349 := eq_true q349; have p350 : 0 ≤ (x13_1 : Int) := dT aQ; have q350 : x13_1 < (l1.length : Int) := dT aQ; obtain ⟨ad350, e350, hx350_0, hx350_1⟩ := at_impl_Peg HR1.out x13_1 p350 q350
      cases e350
      replace p350 := eq_true p350; replace q350 := eq_true q350; go_wp2
      repeat (go_quiet (fail); try go_wp2)
      go_roundg k1
      case measure => have := HK1.out; omega
      case rel => exact ⟨(wrap64 (x13_1 + 1)), eQ, H', ⟨by have := HK1.out; omega⟩, dQ⟩
    ·rw [if_neg c4] at H; have c4b0 := decide_eq_false c4; clear c4; obtain rfl := Option.some.inj H; go_wp2
     repeat (go_quiet (fail); try go_wp2)
     go_ret
     exact ⟨eQ, dQ⟩
 ·rw [if_neg c3] at H; have c3b0 : ((l0.length : Int) == (l1.length : Int)) = false := beq_eq_false_iff_ne.mpr c3; have c3b1 : ((l0.length : Int) != (l1.length : Int)) = true := bne_iff_ne.mpr c3; have c3b2 : (l0.length == l1.length) = false := by first | simpa using c3 | (simp at c3 ⊢; omega)
  obtain rfl := Option.some.inj H
  go_enter Try.func27, Try.ntmps27
  go_wp2
  repeat (go_quiet (fail); try go_wp2)
  go_ret
  exact ⟨eQ, dQ⟩

end Go.Proofs.Ytoeclfihlhmnpaa.X
