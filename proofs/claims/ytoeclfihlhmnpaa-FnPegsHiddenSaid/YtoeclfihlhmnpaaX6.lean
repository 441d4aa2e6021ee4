-- thin
-- short
-- compact
import Derived.Test.YtoeclfihlhmnpaaXA
import Derived.Test.YtoeclfihlhmnpaaX0
import Derived.Test.YtoeclfihlhmnpaaX3
namespace Go.Proofs.Ytoeclfihlhmnpaa.X
open Go.RowKit Go.Proofs.Ytoeclfihlhmnpaa.XW Go.Proofs.YtoeclfihlhmnpaaW.PrintWords Go.Proofs.YtoeclfihlhmnpaaW.PrintLast Go.Proofs.YtoeclfihlhmnpaaW.PrintMore
attribute [local go_sem] max2_int min2_int max_two min_two max_three min_three max_four min_four   -- for this text's walks alone
set_option linter.unusedVariables false
set_option linter.unusedSimpArgs false

mutual
def impl_IsClue.j0 : Nat → Int → Bool → Int → Int → Int → Int → Option (Bool)
 | 0, _, _, _, _, _, _ => none
 | k + 1, x0, x33, x160000, x160001, x160002, x160003 => if x33 = true then (some false) else (if x160000 = 0 then (impl_IsClue.j1 k x0 x160000 (x160000 == 0) x160000 x160001 x160002 x160003) else (if x160000 = 1 then (impl_IsClue.j1 k x0 x160000 (x160000 == 1) x160000 x160001 x160002 x160003) else (impl_IsClue.j1 k x0 x160000 (x160000 == 2) x160000 x160001 x160002 x160003)))
def impl_IsClue.j1 : Nat → Int → Int → Bool → Int → Int → Int → Int → Option (Bool)
 | 0, _, _, _, _, _, _, _ => none
 | k + 1, x0, x35, x36, x160000, x160001, x160002, x160003 => if x36 = true then (if x160002 = 0 then (some (x160003 == 0)) else (some false)) else (if x35 = 3 then ((impl_within.f x160003 0 (wrap64 (x0 * x0))).bind fun t163 => (some t163)) else (if x35 = 4 then ((impl_within.f x160003 0 (wrap64 ((wrap64 (2 * x0)) * x0))).bind fun t164 => (some t164)) else (if x35 = 5 then ((impl_within.f x160003 0 1).bind fun t165 => (some t165)) else (some false))))
end
def impl_IsClue.f (k : Nat) (a0 : Int) (a1_0 : Int) (a1_1 : Int) (a1_2 : Int) (a1_3 : Int) : Option (Bool) := (impl_isSide.f a0).bind fun t160 => (if t160 = true then ((impl_within.f a1_1 0 (wrap64 (2 * a0))).bind fun t161 => (if t161 = true then ((impl_within.f a1_2 0 a0).bind fun t162 => (if t162 = true then (if a1_0 = 2 then (impl_IsClue.j0 k a0 false a1_0 a1_1 a1_2 a1_3) else (impl_IsClue.j0 k a0 (decide (a1_1 > a0)) a1_0 a1_1 a1_2 a1_3)) else (impl_IsClue.j0 k a0 true a1_0 a1_1 a1_2 a1_3))) else (impl_IsClue.j0 k a0 true a1_0 a1_1 a1_2 a1_3))) else (impl_IsClue.j0 k a0 true a1_0 a1_1 a1_2 a1_3))
theorem impl_IsClue.mono_l : ∀ k, (∀ y0 y1 y2 y3 y4 y5, LeO (impl_IsClue.j0 k y0 y1 y2 y3 y4 y5) (impl_IsClue.j0 (k + 1) y0 y1 y2 y3 y4 y5)) ∧ (∀ y0 y1 y2 y3 y4 y5 y6, LeO (impl_IsClue.j1 k y0 y1 y2 y3 y4 y5 y6) (impl_IsClue.j1 (k + 1) y0 y1 y2 y3 y4 y5 y6))
 | 0 => ⟨fun _ _ _ _ _ _ r h => by simp [impl_IsClue.j0] at h, fun _ _ _ _ _ _ _ r h => by simp [impl_IsClue.j1] at h⟩
 | k + 1 => by
  obtain ⟨ih0, ih1⟩ := impl_IsClue.mono_l k
  refine ⟨?_, ?_⟩ <;> intros <;> (first | unfold impl_IsClue.j0 | unfold impl_IsClue.j1) <;> repeat' first | (with_reducible exact ih0 _ _ _ _ _ _) | (with_reducible exact ih1 _ _ _ _ _ _ _) | (with_reducible exact LeO.refl _) | (with_reducible exact LeO.none _) | (with_reducible refine LeO.ite ?_ ?_) | (with_reducible refine LeO.bind ?_ (fun _ => ?_)) | exact ih0 _ _ _ _ _ _ | exact ih1 _ _ _ _ _ _ _ | exact LeO.none _ | refine LeO.ite ?_ ?_ | refine LeO.bind ?_ (fun _ => ?_)
theorem impl_IsClue.mono : ∀ a0 a1 a2 a3 a4 k, LeO (impl_IsClue.f k a0 a1 a2 a3 a4) (impl_IsClue.f (k + 1) a0 a1 a2 a3 a4) := by
 intro a0 a1 a2 a3 a4 k
 obtain ⟨ih0, ih1⟩ := impl_IsClue.mono_l k
 unfold impl_IsClue.f
 repeat' first | (with_reducible exact ih0 _ _ _ _ _ _) | (with_reducible exact ih1 _ _ _ _ _ _ _) | (with_reducible exact LeO.refl _) | (with_reducible exact LeO.none _) | (with_reducible refine LeO.ite ?_ ?_) | (with_reducible refine LeO.bind ?_ (fun _ => ?_)) | exact ih0 _ _ _ _ _ _ | exact ih1 _ _ _ _ _ _ _ | exact LeO.none _ | refine LeO.ite ?_ ?_ | refine LeO.bind ?_ (fun _ => ?_)
set_option maxHeartbeats 8000000 in
set_option maxRecDepth 100000 in
theorem impl_IsClue.calls (k : Nat) (a0 : Int) (a1_0 : Int) (a1_1 : Int) (a1_2 : Int) (a1_3 : Int) (r : Bool) (w : World) (h : impl_IsClue.f k a0 a1_0 a1_1 a1_2 a1_3 = some r) :
  Calls Try.prog 37 #[.int .i64 a0, .agg #[.int .i64 a1_0, .int .i64 a1_1, .int .i64 a1_2, .int .i64 a1_3]] w fun e w' => e = .returned (.bool r) ∧ Below w.heap.size w w' := by
 have hu48 := Try.underlying48; have HB := aM (Below.refl w.heap.size w)
 unfold impl_IsClue.f at h; have H := h; clear h
 have HC3 := aM H; clear H
 go_enter Try.func37, Try.ntmps37
 go_upto_region 1 with (first | ((with_reducible refine gate_dst (N := 3) rfl ?_); refine bV 3 (cs := #[.int .i64 a1_0, .int .i64 a1_1, .int .i64 a1_2, .int .i64 a1_3]) (t := 48) rfl rfl (by first | (go_simp; done) | (go_simp; rfl)) ?_; intro gb159 hg w4 hbox hb; have BK159 := hbox; have GW159 := gZ HB hg; have GE159 := gZ HB hg; replace HB := tB HB hb; clear hb hbox hg))
 (try simp only [Act.put, sI, sZ, sS])
 go_cut [33] (fun v33 wc => ∃ (kq : Nat) (x33_2 : Bool), v33 = .bool x33_2 ∧ Aside0 (impl_IsClue.j0 kq a0 x33_2 a1_0 a1_1 a1_2 a1_3 = some r) ∧ Aside0 (kq ≤ k) ∧ Aside0 (wc.heap[gb159]? = some (.cells #[.int .i64 a1_0, .int .i64 a1_1, .int .i64 a1_2, .int .i64 a1_3] 48 (0, 0))) ∧ Aside0 (Below w.heap.size w wc))
 case first =>
  have H := HC3.out; clear HC3; replace H := bS H; obtain ⟨t160, A5, H⟩ := H
  by_cases c6 : t160 = true
  ·subst c6; replace H := iT H; replace H := bS H; obtain ⟨t161, A7, H⟩ := H
   by_cases c8 : t161 = true
   ·subst c8; replace H := iT H; replace H := bS H; obtain ⟨t162, A9, H⟩ := H
    by_cases c10 : t162 = true
    ·subst c10; replace H := iT H
     by_cases c11 : a1_0 = 2
     ·rw [if_pos c11] at H; have c11b0 : (a1_0 == 2) = true := beq_iff_eq.mpr c11; have c11b1 : (a1_0 != 2) = false := bne_eq_false_iff_eq.mpr c11; clear c11
      (first | rw [c11b0] | (simp only [i64_w, i32_w]; rw [c11b0]) | skip)
      have H' := aM H; clear H
      go_wp2_with (first | ((with_reducible refine gC (f := 62) rfl ?_); refine goesL_ (some 6) rfl rfl Try.func62 kR rfl #[.int .i64 a0] rfl sQ ?_; (with_reducible refine (impl_isSide.calls a0 true _ A5.out).mono ?_); rintro e w' ⟨rfl, ⟨nd, rfl⟩⟩; refine ⟨_, rfl, ?_⟩; have hcz12_0 := vZ0 BK159; have hcz12_1 := vZ1 BK159; have hcz12_2 := vZ2 BK159; have hcz12_3 := vZ3 BK159; have hfz12_0 := kF BK159.out 0; have hfz12_1 := kF BK159.out 1; have hfz12_2 := kF BK159.out 2; have hfz12_3 := kF BK159.out 3) | (go_at_call 54; (with_reducible refine (impl_within.calls a1_1 0 (wrap64 (2 * a0)) true _ A7.out).mono ?_); rintro e w' ⟨rfl, ⟨nd, rfl⟩⟩) | (go_at_call 54; (with_reducible refine (impl_within.calls a1_2 0 a0 true _ A9.out).mono ?_); rintro e w' ⟨rfl, ⟨nd, rfl⟩⟩))
      go_meet
      case rel => exact ⟨_, (false), eQ, H', ⟨by first | omega | exact Nat.le_refl _⟩, ⟨gQ BK159⟩, ⟨bE⟩⟩
     ·rw [if_neg c11] at H; have c11b0 : (a1_0 == 2) = false := beq_eq_false_iff_ne.mpr c11; have c11b1 : (a1_0 != 2) = true := bne_iff_ne.mpr c11
      (first | rw [c11b0] | (simp only [i64_w, i32_w]; rw [c11b0]) | skip)
      have H' := aM H; clear H
      go_wp2_with (first | ((with_reducible refine gC (f := 62) rfl ?_); refine goesL_ (some 6) rfl rfl Try.func62 kR rfl #[.int .i64 a0] rfl sQ ?_; (with_reducible refine (impl_isSide.calls a0 true _ A5.out).mono ?_); rintro e w' ⟨rfl, ⟨nd, rfl⟩⟩; refine ⟨_, rfl, ?_⟩; have hcz13_0 := vZ0 BK159; have hcz13_1 := vZ1 BK159; have hcz13_2 := vZ2 BK159; have hcz13_3 := vZ3 BK159; have hfz13_0 := kF BK159.out 0; have hfz13_1 := kF BK159.out 1; have hfz13_2 := kF BK159.out 2; have hfz13_3 := kF BK159.out 3) | (go_at_call 54; (with_reducible refine (impl_within.calls a1_1 0 (wrap64 (2 * a0)) true _ A7.out).mono ?_); rintro e w' ⟨rfl, ⟨nd, rfl⟩⟩) | (go_at_call 54; (with_reducible refine (impl_within.calls a1_2 0 a0 true _ A9.out).mono ?_); rintro e w' ⟨rfl, ⟨nd, rfl⟩⟩))
      go_meet
      case rel => exact ⟨_, (decide (a1_1 > a0)), eQ, H', ⟨by first | omega | exact Nat.le_refl _⟩, ⟨gQ BK159⟩, ⟨bE⟩⟩
    ·replace c10 := Bool.eq_false_iff.mpr c10; subst c10; replace H := iF H; have H' := aM H; clear H
     go_wp2_with (first | ((with_reducible refine gC (f := 62) rfl ?_); refine goesL_ (some 6) rfl rfl Try.func62 kR rfl #[.int .i64 a0] rfl sQ ?_; (with_reducible refine (impl_isSide.calls a0 true _ A5.out).mono ?_); rintro e w' ⟨rfl, ⟨nd, rfl⟩⟩; refine ⟨_, rfl, ?_⟩; have hcz14_0 := vZ0 BK159; have hcz14_1 := vZ1 BK159; have hcz14_2 := vZ2 BK159; have hcz14_3 := vZ3 BK159; have hfz14_0 := kF BK159.out 0; have hfz14_1 := kF BK159.out 1; have hfz14_2 := kF BK159.out 2; have hfz14_3 := kF BK159.out 3) | (go_at_call 54; (with_reducible refine (impl_within.calls a1_1 0 (wrap64 (2 * a0)) true _ A7.out).mono ?_); rintro e w' ⟨rfl, ⟨nd, rfl⟩⟩) | (go_at_call 54; (with_reducible refine (impl_within.calls a1_2 0 a0 false _ A9.out).mono ?_); rintro e w' ⟨rfl, ⟨nd, rfl⟩⟩))
     go_meet
     case rel => exact ⟨_, (true), eQ, H', ⟨by first | omega | exact Nat.le_refl _⟩, ⟨gQ BK159⟩, ⟨bE⟩⟩
   ·replace c8 := Bool.eq_false_iff.mpr c8; subst c8; replace H := iF H; have H' := aM H; clear H
    go_wp2_with (first | ((with_reducible refine gC (f := 62) rfl ?_); refine goesL_ (some 6) rfl rfl Try.func62 kR rfl #[.int .i64 a0] rfl sQ ?_; (with_reducible refine (impl_isSide.calls a0 true _ A5.out).mono ?_); rintro e w' ⟨rfl, ⟨nd, rfl⟩⟩; refine ⟨_, rfl, ?_⟩; have hcz15_0 := vZ0 BK159; have hcz15_1 := vZ1 BK159; have hcz15_2 := vZ2 BK159; have hcz15_3 := vZ3 BK159; have hfz15_0 := kF BK159.out 0; have hfz15_1 := kF BK159.out 1; have hfz15_2 := kF BK159.out 2; have hfz15_3 := kF BK159.out 3) | (go_at_call 54; (with_reducible refine (impl_within.calls a1_1 0 (wrap64 (2 * a0)) false _ A7.out).mono ?_); rintro e w' ⟨rfl, ⟨nd, rfl⟩⟩))
    go_meet
    case rel => exact ⟨_, (true), eQ, H', ⟨by first | omega | exact Nat.le_refl _⟩, ⟨gQ BK159⟩, ⟨bE⟩⟩
  ·replace c6 := Bool.eq_false_iff.mpr c6; subst c6; replace H := iF H; have H' := aM H; clear H
   go_wp2_with (first | ((with_reducible refine gC (f := 62) rfl ?_); refine goesL_ (some 6) rfl rfl Try.func62 kR rfl #[.int .i64 a0] rfl sQ ?_; (with_reducible refine (impl_isSide.calls a0 false _ A5.out).mono ?_); rintro e w' ⟨rfl, ⟨nd, rfl⟩⟩; refine ⟨_, rfl, ?_⟩))
   go_meet
   case rel => exact ⟨_, (true), eQ, H', ⟨by first | omega | exact Nat.le_refl _⟩, ⟨gQ BK159⟩, ⟨bE⟩⟩
 case rest =>
  clear HC3; obtain ⟨kq, x33_2, rfl, HA, HJ2, BK159, HB⟩ := hcut
  cases kq with
  | zero => exact absurd HA.out (by simp [impl_IsClue.j0])
  | succ kj2 =>
   have H := HA.out; clear HA
   simp only [impl_IsClue.j0] at H
   by_cases c16 : x33_2 = true
   ·subst c16; replace H := iT H; obtain rfl := Option.some.inj H; go_wp2
    go_ret
    exact ⟨wQ, bE⟩
   ·replace c16 := Bool.eq_false_iff.mpr c16; subst c16; replace H := iF H; have HC17 := aM H; clear H; have hcz18_0 : wc.cell? ⟨gb159, 0, none⟩ = some (.int .i64 a1_0) := vZ0 BK159; have hcz18_1 : wc.cell? ⟨gb159, 1, none⟩ = some (.int .i64 a1_1) := vZ1 BK159; have hcz18_2 : wc.cell? ⟨gb159, 2, none⟩ = some (.int .i64 a1_2) := vZ2 BK159; have hcz18_3 : wc.cell? ⟨gb159, 3, none⟩ = some (.int .i64 a1_3) := vZ3 BK159; have hfz18_0 := kF BK159.out 0; have hfz18_1 := kF BK159.out 1; have hfz18_2 := kF BK159.out 2; have hfz18_3 := kF BK159.out 3
    go_upto_if 36 with (fail)
    go_cut [36] (fun v36 wc => ∃ (kq : Nat) (x36_16 : Bool), v36 = .bool x36_16 ∧ Aside0 (impl_IsClue.j1 kq a0 a1_0 x36_16 a1_0 a1_1 a1_2 a1_3 = some r) ∧ Aside0 (kq ≤ kj2) ∧ Aside0 (wc.heap[gb159]? = some (.cells #[.int .i64 a1_0, .int .i64 a1_1, .int .i64 a1_2, .int .i64 a1_3] 48 (0, 0))) ∧ Aside0 (Below w.heap.size w wc))
    case first =>
     have H := HC17.out; clear HC17
     by_cases c19 : a1_0 = 0
     ·rw [if_pos c19] at H; have c19b0 : (a1_0 == 0) = true := beq_iff_eq.mpr c19; have c19b1 : (a1_0 != 0) = false := bne_eq_false_iff_eq.mpr c19; clear c19
      (first | rw [c19b0] | (simp only [i64_w, i32_w]; rw [c19b0]) | skip)
      have H' := aM H; clear H; go_wp2
      go_meet
      case rel => exact ⟨_, ((a1_0 == 0)), eQ, H', ⟨by have := HJ2.out; first | omega | exact Nat.le_refl _⟩, ⟨gQ BK159⟩, ⟨bE⟩⟩
     ·rw [if_neg c19] at H; have c19b0 : (a1_0 == 0) = false := beq_eq_false_iff_ne.mpr c19; have c19b1 : (a1_0 != 0) = true := bne_iff_ne.mpr c19
      (first | rw [c19b0] | (simp only [i64_w, i32_w]; rw [c19b0]) | skip)
      by_cases c20 : a1_0 = 1
      ·rw [if_pos c20] at H; have c20b0 : (a1_0 == 1) = true := beq_iff_eq.mpr c20; have c20b1 : (a1_0 != 1) = false := bne_eq_false_iff_eq.mpr c20; clear c20; have H' := aM H; clear H; go_wp2
       go_meet
       case rel => exact ⟨_, ((a1_0 == 1)), eQ, H', ⟨by have := HJ2.out; first | omega | exact Nat.le_refl _⟩, ⟨gQ BK159⟩, ⟨bE⟩⟩
      ·rw [if_neg c20] at H; have c20b0 : (a1_0 == 1) = false := beq_eq_false_iff_ne.mpr c20; have c20b1 : (a1_0 != 1) = true := bne_iff_ne.mpr c20; have H' := aM H; clear H; go_wp2
       go_meet
       case rel => exact ⟨_, ((a1_0 == 2)), eQ, H', ⟨by have := HJ2.out; first | omega | exact Nat.le_refl _⟩, ⟨gQ BK159⟩, ⟨bE⟩⟩
    case rest =>
     clear HC17; (try clear c16); (try clear hcz18_0); (try clear hcz18_1); (try clear hcz18_2); (try clear hcz18_3); (try clear hfz18_0); (try clear hfz18_1); (try clear hfz18_2); (try clear hfz18_3); obtain ⟨kq, x36_16, rfl, HA, HJ16, BK159, HB⟩ := hcut
     cases kq with
     | zero => exact absurd HA.out (by simp [impl_IsClue.j1])
     | succ kj16 =>
      have H := HA.out; clear HA
      simp only [impl_IsClue.j1] at H
      by_cases c21 : x36_16 = true
      ·subst c21; replace H := iT H
       by_cases c22 : a1_2 = 0
       ·rw [if_pos c22] at H; have c22b0 : (a1_2 == 0) = true := beq_iff_eq.mpr c22; have c22b1 : (a1_2 != 0) = false := bne_eq_false_iff_eq.mpr c22; clear c22; obtain rfl := Option.some.inj H; have hcz23_0 : wc.cell? ⟨gb159, 0, none⟩ = some (.int .i64 a1_0) := vZ0 BK159; have hcz23_1 : wc.cell? ⟨gb159, 1, none⟩ = some (.int .i64 a1_1) := vZ1 BK159; have hcz23_2 : wc.cell? ⟨gb159, 2, none⟩ = some (.int .i64 a1_2) := vZ2 BK159; have hcz23_3 : wc.cell? ⟨gb159, 3, none⟩ = some (.int .i64 a1_3) := vZ3 BK159; have hfz23_0 := kF BK159.out 0; have hfz23_1 := kF BK159.out 1; have hfz23_2 := kF BK159.out 2; have hfz23_3 := kF BK159.out 3; go_wp2
        go_ret
        exact ⟨wQ, bE⟩
       ·rw [if_neg c22] at H; have c22b0 : (a1_2 == 0) = false := beq_eq_false_iff_ne.mpr c22; have c22b1 : (a1_2 != 0) = true := bne_iff_ne.mpr c22; obtain rfl := Option.some.inj H; have hcz24_0 : wc.cell? ⟨gb159, 0, none⟩ = some (.int .i64 a1_0) := vZ0 BK159; have hcz24_1 : wc.cell? ⟨gb159, 1, none⟩ = some (.int .i64 a1_1) := vZ1 BK159; have hcz24_2 : wc.cell? ⟨gb159, 2, none⟩ = some (.int .i64 a1_2) := vZ2 BK159; have hcz24_3 : wc.cell? ⟨gb159, 3, none⟩ = some (.int .i64 a1_3) := vZ3 BK159; have hfz24_0 := kF BK159.out 0; have hfz24_1 := kF BK159.out 1; have hfz24_2 := kF BK159.out 2; have hfz24_3 := kF BK159.out 3; go_wp2
        go_ret
        exact ⟨wQ, bE⟩
      ·replace c21 := Bool.eq_false_iff.mpr c21; subst c21; replace H := iF H
       by_cases c25 : a1_0 = 3
       ·rw [if_pos c25] at H; have c25b0 : (a1_0 == 3) = true := beq_iff_eq.mpr c25; have c25b1 : (a1_0 != 3) = false := bne_eq_false_iff_eq.mpr c25; clear c25; replace H := bS H; obtain ⟨t163, A26, H⟩ := H; obtain rfl := Option.some.inj H; have hcz27_0 : wc.cell? ⟨gb159, 0, none⟩ = some (.int .i64 a1_0) := vZ0 BK159; have hcz27_1 : wc.cell? ⟨gb159, 1, none⟩ = some (.int .i64 a1_1) := vZ1 BK159; have hcz27_2 : wc.cell? ⟨gb159, 2, none⟩ = some (.int .i64 a1_2) := vZ2 BK159; have hcz27_3 : wc.cell? ⟨gb159, 3, none⟩ = some (.int .i64 a1_3) := vZ3 BK159; have hfz27_0 := kF BK159.out 0; have hfz27_1 := kF BK159.out 1; have hfz27_2 := kF BK159.out 2; have hfz27_3 := kF BK159.out 3
        go_wp2_with (first | ((with_reducible refine gC (f := 54) rfl ?_); refine goesL_ (some 55) rfl rfl Try.func54 kR rfl #[.int .i64 a1_3, .int .i64 0, .int .i64 (wrap64 (a0 * a0))] rfl sQ ?_; (with_reducible refine (impl_within.calls a1_3 0 (wrap64 (a0 * a0)) t163 _ A26.out).mono ?_); rintro e w' ⟨rfl, ⟨nd, rfl⟩⟩; refine ⟨_, rfl, ?_⟩))
        go_ret
        exact ⟨wQ, bE⟩
       ·rw [if_neg c25] at H; have c25b0 : (a1_0 == 3) = false := beq_eq_false_iff_ne.mpr c25; have c25b1 : (a1_0 != 3) = true := bne_iff_ne.mpr c25
        by_cases c28 : a1_0 = 4
        ·rw [if_pos c28] at H; have c28b0 : (a1_0 == 4) = true := beq_iff_eq.mpr c28; have c28b1 : (a1_0 != 4) = false := bne_eq_false_iff_eq.mpr c28; clear c28; replace H := bS H; obtain ⟨t164, A29, H⟩ := H; obtain rfl := Option.some.inj H; have hcz30_0 : wc.cell? ⟨gb159, 0, none⟩ = some (.int .i64 a1_0) := vZ0 BK159; have hcz30_1 : wc.cell? ⟨gb159, 1, none⟩ = some (.int .i64 a1_1) := vZ1 BK159; have hcz30_2 : wc.cell? ⟨gb159, 2, none⟩ = some (.int .i64 a1_2) := vZ2 BK159; have hcz30_3 : wc.cell? ⟨gb159, 3, none⟩ = some (.int .i64 a1_3) := vZ3 BK159; have hfz30_0 := kF BK159.out 0; have hfz30_1 := kF BK159.out 1; have hfz30_2 := kF BK159.out 2; have hfz30_3 := kF BK159.out 3
         go_wp2_with (first | ((with_reducible refine gC (f := 54) rfl ?_); refine goesL_ (some 64) rfl rfl Try.func54 kR rfl #[.int .i64 a1_3, .int .i64 0, .int .i64 (wrap64 ((wrap64 (2 * a0)) * a0))] rfl sQ ?_; (with_reducible refine (impl_within.calls a1_3 0 (wrap64 ((wrap64 (2 * a0)) * a0)) t164 _ A29.out).mono ?_); rintro e w' ⟨rfl, ⟨nd, rfl⟩⟩; refine ⟨_, rfl, ?_⟩))
         go_ret
         exact ⟨wQ, bE⟩
        ·rw [if_neg c28] at H; have c28b0 : (a1_0 == 4) = false := beq_eq_false_iff_ne.mpr c28; have c28b1 : (a1_0 != 4) = true := bne_iff_ne.mpr c28
         by_cases c31 : a1_0 = 5
         ·rw [if_pos c31] at H; have c31b0 : (a1_0 == 5) = true := beq_iff_eq.mpr c31; have c31b1 : (a1_0 != 5) = false := bne_eq_false_iff_eq.mpr c31; clear c31; replace H := bS H; obtain ⟨t165, A32, H⟩ := H; obtain rfl := Option.some.inj H; have hcz33_0 : wc.cell? ⟨gb159, 0, none⟩ = some (.int .i64 a1_0) := vZ0 BK159; have hcz33_1 : wc.cell? ⟨gb159, 1, none⟩ = some (.int .i64 a1_1) := vZ1 BK159; have hcz33_2 : wc.cell? ⟨gb159, 2, none⟩ = some (.int .i64 a1_2) := vZ2 BK159; have hcz33_3 : wc.cell? ⟨gb159, 3, none⟩ = some (.int .i64 a1_3) := vZ3 BK159; have hfz33_0 := kF BK159.out 0; have hfz33_1 := kF BK159.out 1; have hfz33_2 := kF BK159.out 2; have hfz33_3 := kF BK159.out 3
          go_wp2_with (first | ((with_reducible refine gC (f := 54) rfl ?_); refine goesL_ (some 69) rfl rfl Try.func54 kR rfl #[.int .i64 a1_3, .int .i64 0, .int .i64 1] rfl sQ ?_; (with_reducible refine (impl_within.calls a1_3 0 1 t165 _ A32.out).mono ?_); rintro e w' ⟨rfl, ⟨nd, rfl⟩⟩; refine ⟨_, rfl, ?_⟩))
          go_ret
          exact ⟨wQ, bE⟩
         ·rw [if_neg c31] at H; have c31b0 : (a1_0 == 5) = false := beq_eq_false_iff_ne.mpr c31; have c31b1 : (a1_0 != 5) = true := bne_iff_ne.mpr c31; obtain rfl := Option.some.inj H; go_wp2
          go_ret
          exact ⟨wQ, bE⟩

def impl_IsPuzzle_1.f (k : Nat) (a0_0 : Int) (a0_1 : Int) (a0_2 : Int) (a0_3 : Int) (a1_0 : Int) (l1_1 : List (S_impl_Clue)) : Option (Bool) := (impl_IsClue.f k a1_0 a0_0 a0_1 a0_2 a0_3).bind fun t167 => (some (!t167))
theorem impl_IsPuzzle_1.mono : ∀ a0 a1 a2 a3 a4 a5 k, LeO (impl_IsPuzzle_1.f k a0 a1 a2 a3 a4 a5) (impl_IsPuzzle_1.f (k + 1) a0 a1 a2 a3 a4 a5) := by
 intro a0 a1 a2 a3 a4 a5 k
 unfold impl_IsPuzzle_1.f
 repeat' first | (with_reducible exact impl_IsClue.mono _ _ _ _ _ _) | (with_reducible exact LeO.refl _) | (with_reducible exact LeO.none _) | (with_reducible refine LeO.ite ?_ ?_) | (with_reducible refine LeO.bind ?_ (fun _ => ?_)) | exact impl_IsClue.mono _ _ _ _ _ _ | exact LeO.none _ | refine LeO.ite ?_ ?_ | refine LeO.bind ?_ (fun _ => ?_)
set_option maxHeartbeats 8000000 in
set_option maxRecDepth 100000 in
theorem impl_IsPuzzle_1.calls (k : Nat) (a0_0 : Int) (a0_1 : Int) (a0_2 : Int) (a0_3 : Int) (gx1 : Nat) (a1_0 : Int) (A1_1 : Option Addr) (c1_1 : Nat) (l1_1 : List (S_impl_Clue)) (r : Bool) (w : World) (hr1_1 : Kd.C kd_impl_Clue w A1_1 l1_1.length l1_1) (hc1_1 : l1_1.length ≤ c1_1) (hbx1 : w.heap[gx1]? = some (.cells #[.int .i64 a1_0, .slice A1_1 l1_1.length c1_1] 31 (0, 0))) (h : impl_IsPuzzle_1.f k a0_0 a0_1 a0_2 a0_3 a1_0 l1_1 = some r) :
  Calls Try.prog 64 #[.agg #[.int .i64 a0_0, .int .i64 a0_1, .int .i64 a0_2, .int .i64 a0_3], .pointer (some ⟨gx1, 0, none⟩)] w fun e w' => e = .returned (.bool r) ∧ Below w.heap.size w w' := by
 have hu48 := Try.underlying48; have hu3 := Try.underlying3; have HR1_1 := aM hr1_1; have HC1_1 := aM hc1_1; clear hr1_1 hc1_1; have BK1 := aM hbx1; clear hbx1; have HB := aM (Below.refl w.heap.size w)
 unfold impl_IsPuzzle_1.f at h; have H := h; clear h
 replace H := bS H; obtain ⟨t167, A3, H⟩ := H; obtain rfl := Option.some.inj H
 go_enter Try.func64, Try.ntmps64
 go_wp2_with (first | ((with_reducible refine gate_dst (N := 2) rfl ?_); refine bV 2 (cs := #[.int .i64 a0_0, .int .i64 a0_1, .int .i64 a0_2, .int .i64 a0_3]) (t := 48) rfl rfl (by first | (go_simp; done) | (go_simp; rfl)) ?_; intro gb166 hg w4 hbox hb; have BK166 := hbox; have GW166 := gZ HB hg; have GE166 := gZ HB hg; have NB1_166 := aM ((by rw [hg]; exact nN (blk_lt (g := gx1) (o := .cells #[.int .i64 a1_0, .slice A1_1 l1_1.length c1_1] 31 (0, 0)) (gQ BK1)) : gx1 ≠ gb166)); have NB166_1 := aM ((by rw [hg]; exact Nat.ne_of_gt (blk_lt (g := gx1) (o := .cells #[.int .i64 a1_0, .slice A1_1 l1_1.length c1_1] 31 (0, 0)) (gQ BK1)) : gb166 ≠ gx1)); replace BK1 := aM (blk_below (g := gx1) (o := .cells #[.int .i64 a1_0, .slice A1_1 l1_1.length c1_1] 31 (0, 0)) (gQ BK1) hb); replace HB := tB HB hb; clear hb hbox hg; have hnb5 := NB1_166.out; have hnc5 := NB166_1.out; have hcz6_0 : w4.cell? ⟨gx1, 0, none⟩ = some (.int .i64 a1_0) := vZ0 BK1; have hcz6_1 : w4.cell? ⟨gx1, 1, none⟩ = some (.slice A1_1 l1_1.length c1_1) := vZ1 BK1; have hfz6_0 := kF BK1.out 0; have hfz6_1 := kF BK1.out 1; have hcz7_0 := vZ0 BK166; have hcz7_1 := vZ1 BK166; have hcz7_2 := vZ2 BK166; have hcz7_3 := vZ3 BK166; have hfz7_0 := kF BK166.out 0; have hfz7_1 := kF BK166.out 1; have hfz7_2 := kF BK166.out 2; have hfz7_3 := kF BK166.out 3) | ((with_reducible refine gC (f := 37) rfl ?_); refine goesL_ (some 7) rfl rfl Try.func37 kR rfl #[.int .i64 a1_0, .agg #[.int .i64 a0_0, .int .i64 a0_1, .int .i64 a0_2, .int .i64 a0_3]] rfl sQ ?_; (with_reducible refine (impl_IsClue.calls k a1_0 a0_0 a0_1 a0_2 a0_3 t167 _ A3.out).mono ?_); rintro e w8 ⟨rfl, hb⟩; refine ⟨_, rfl, ?_⟩; replace BK1 := aM (blk_below (g := gx1) (o := .cells #[.int .i64 a1_0, .slice A1_1 l1_1.length c1_1] 31 (0, 0)) (gQ BK1) hb); replace BK166 := bB BK166 hb; replace HB := tB HB hb; (try clear hb); (try clear hb2); (try clear hk); (try clear hi)))
 go_ret
 exact ⟨wQ, bE⟩

def slices_IndexFunc_impl_Clue_at_impl_IsPuzzle_1.l0 : Nat → List (S_impl_Clue) → Int → Int → Int → List (S_impl_Clue) → Option (Int)
 | 0, _, _, _, _, _ => none
 | k + 1, x0, x7, x8, x2000, x2001 => if x8 < x7 then (if 0 ≤ x8 then (if x8 < (x0.length : Int) then ((impl_IsPuzzle_1.f k ((rd_impl_Clue x0 x8).f0) ((rd_impl_Clue x0 x8).f1) ((rd_impl_Clue x0 x8).f2) ((rd_impl_Clue x0 x8).f3) x2000 x2001).bind fun t169 => (if t169 = true then (some x8) else (slices_IndexFunc_impl_Clue_at_impl_IsPuzzle_1.l0 k x0 x7 (wrap64 (x8 + 1)) x2000 x2001))) else (none)) else (none)) else (some (-1))
def slices_IndexFunc_impl_Clue_at_impl_IsPuzzle_1.f (k : Nat) (l0 : List (S_impl_Clue)) (a1_0 : Int) (l1_1 : List (S_impl_Clue)) : Option (Int) := slices_IndexFunc_impl_Clue_at_impl_IsPuzzle_1.l0 k l0 (l0.length : Int) 0 a1_0 l1_1
theorem slices_IndexFunc_impl_Clue_at_impl_IsPuzzle_1.mono_l : ∀ k, (∀ y0 y1 y2 y3 y4, LeO (slices_IndexFunc_impl_Clue_at_impl_IsPuzzle_1.l0 k y0 y1 y2 y3 y4) (slices_IndexFunc_impl_Clue_at_impl_IsPuzzle_1.l0 (k + 1) y0 y1 y2 y3 y4))
 | 0 => fun _ _ _ _ _ r h => by simp [slices_IndexFunc_impl_Clue_at_impl_IsPuzzle_1.l0] at h
 | k + 1 => by
  have ih0 := slices_IndexFunc_impl_Clue_at_impl_IsPuzzle_1.mono_l k
  ·intro y0 y1 y2 y3 y4
   unfold slices_IndexFunc_impl_Clue_at_impl_IsPuzzle_1.l0
   repeat' first
   | (with_reducible exact ih0 _ _ _ _ _)
   | (with_reducible exact impl_IsPuzzle_1.mono _ _ _ _ _ _ _)
   | (with_reducible exact LeO.refl _)
   | (with_reducible exact LeO.none _)
   | (with_reducible refine LeO.ite ?_ ?_)
   | (with_reducible refine LeO.bind ?_ (fun _ => ?_))
   | exact ih0 _ _ _ _ _
   | exact impl_IsPuzzle_1.mono _ _ _ _ _ _ _
   | exact LeO.none _
   | refine LeO.ite ?_ ?_
   | refine LeO.bind ?_ (fun _ => ?_)
theorem slices_IndexFunc_impl_Clue_at_impl_IsPuzzle_1.mono : ∀ a0 a1 a2 k, LeO (slices_IndexFunc_impl_Clue_at_impl_IsPuzzle_1.f k a0 a1 a2) (slices_IndexFunc_impl_Clue_at_impl_IsPuzzle_1.f (k + 1) a0 a1 a2) := by
 intro a0 a1 a2 k
 have ih0 := slices_IndexFunc_impl_Clue_at_impl_IsPuzzle_1.mono_l k
 unfold slices_IndexFunc_impl_Clue_at_impl_IsPuzzle_1.f
 repeat' first | (with_reducible exact ih0 _ _ _ _ _) | (with_reducible exact impl_IsPuzzle_1.mono _ _ _ _ _ _ _) | (with_reducible exact LeO.refl _) | (with_reducible exact LeO.none _) | (with_reducible refine LeO.ite ?_ ?_) | (with_reducible refine LeO.bind ?_ (fun _ => ?_)) | exact ih0 _ _ _ _ _ | exact impl_IsPuzzle_1.mono _ _ _ _ _ _ _ | exact LeO.none _ | refine LeO.ite ?_ ?_ | refine LeO.bind ?_ (fun _ => ?_)
set_option maxHeartbeats 8000000 in
set_option maxRecDepth 100000 in
theorem slices_IndexFunc_impl_Clue_at_impl_IsPuzzle_1.calls (k : Nat) (A0 : Option Addr) (c0 : Nat) (l0 : List (S_impl_Clue)) (gx1 : Nat) (a1_0 : Int) (A1_1 : Option Addr) (c1_1 : Nat) (l1_1 : List (S_impl_Clue)) (r : Int) (w : World) (hr0 : Kd.C kd_impl_Clue w A0 l0.length l0) (hc0 : l0.length ≤ c0) (hr1_1 : Kd.C kd_impl_Clue w A1_1 l1_1.length l1_1) (hc1_1 : l1_1.length ≤ c1_1) (hbx1 : w.heap[gx1]? = some (.cells #[.int .i64 a1_0, .slice A1_1 l1_1.length c1_1] 31 (0, 0))) (h : slices_IndexFunc_impl_Clue_at_impl_IsPuzzle_1.f k l0 a1_0 l1_1 = some r) :
  Calls Try.prog 95 #[.slice A0 l0.length c0, .func (.func 64) #[] #[.pointer (some ⟨gx1, 0, none⟩)]] w fun e w' => e = .returned (.int .i64 r) ∧ Below w.heap.size w w' := by
 have hu48 := Try.underlying48; have HR0 := aM hr0; have HC0 := aM hc0; clear hr0 hc0; have HR1_1 := aM hr1_1; have HC1_1 := aM hc1_1; clear hr1_1 hc1_1; have BK1 := aM hbx1; clear hbx1; have HB := aM (Below.refl w.heap.size w)
 unfold slices_IndexFunc_impl_Clue_at_impl_IsPuzzle_1.f at h; have H := h; clear h
 have H' := aM H; clear H
 go_enter Try.func95, Try.ntmps95
 go_wp2
 go_loopg [8] k (fun kq v8 w' => ∃ (x8_1 : Int), v8 = .int .i64 x8_1 ∧ Aside0 (slices_IndexFunc_impl_Clue_at_impl_IsPuzzle_1.l0 kq l0 (l0.length : Int) x8_1 a1_0 l1_1 = some r) ∧ Aside0 (kq ≤ k) ∧ Aside0 (w'.heap[gx1]? = some (.cells #[.int .i64 a1_0, (.slice A1_1 l1_1.length c1_1)] 31 (0, 0))) ∧ Aside0 (Below w.heap.size w w'))
 case atStart => exact ⟨(0), eQ, H', ⟨Nat.le_refl _⟩, ⟨gQ BK1⟩, ⟨bE⟩⟩
 case round =>
  clear H'; obtain ⟨x8_1, rfl, HA, HK1, BK1, HB⟩ := hrel
  cases gk with
  | zero => exact absurd HA.out (by simp [slices_IndexFunc_impl_Clue_at_impl_IsPuzzle_1.l0])
  | succ k1 =>
   have H := HA.out; clear HA
   simp only [slices_IndexFunc_impl_Clue_at_impl_IsPuzzle_1.l0] at H
   by_cases c3 : x8_1 < (l0.length : Int)
   ·rw [if_pos c3] at H; have c3b0 := dE c3; clear c3; replace H := iD H; obtain ⟨c4b0, H⟩ := H; replace H := iD H; obtain ⟨c5b0, H⟩ := H; replace H := bS H; obtain ⟨t169, A6, H⟩ := H
    by_cases c7 : t169 = true
    ·subst c7; replace H := iT H; obtain rfl := Option.some.inj H; have p168 : 0 ≤ (x8_1 : Int) := dT aQ; have q168 : x8_1 < (l0.length : Int) := dT aQ; obtain ⟨ad168, e168, hx168_0, hx168_1, hx168_2, hx168_3⟩ := at_impl_Clue HR0.out x8_1 p168 q168
     cases e168
     replace hx168_0 := hC HB hx168_0; replace hx168_1 := hC HB hx168_1; replace hx168_2 := hC HB hx168_2; replace hx168_3 := hC HB hx168_3; replace p168 := eq_true p168; replace q168 := eq_true q168
     go_wp2_with (first | ((with_reducible refine gate_tmp rfl ?_); refine goesLTC_ (some 16) rfl rfl Try.func64 kR rfl #[.agg #[.int .i64 ((rd_impl_Clue l0 x8_1).f0), .int .i64 ((rd_impl_Clue l0 x8_1).f1), .int .i64 ((rd_impl_Clue l0 x8_1).f2), .int .i64 ((rd_impl_Clue l0 x8_1).f3)], .pointer (some ⟨gx1, 0, none⟩)] #[] #[.pointer (some ⟨gx1, 0, none⟩)] rfl (by first | rfl | (simp [Act.eval]; done)) (by (try simp only [mA, mC, mN, List.append_toArray, List.nil_append, List.cons_append, List.append_nil]); (try simp only [mA, mC, mN]); first | done | rfl | (simp only [lD, lT]; rfl)) ?_; (with_reducible refine (impl_IsPuzzle_1.calls k1 ((rd_impl_Clue l0 x8_1).f0) ((rd_impl_Clue l0 x8_1).f1) ((rd_impl_Clue l0 x8_1).f2) ((rd_impl_Clue l0 x8_1).f3) gx1 a1_0 A1_1 c1_1 l1_1 true _ ?side1 ?side2 ?side3 A6.out).mono ?_); (case side1 => repeat (first | exact (Kd.C_below HR1_1.out HB.out) | (with_reducible refine cA ?_ _) | (with_reducible refine cN ?_ _) | (with_reducible refine cD ?_))); (case side2 => exact HC1_1.out); (case side3 => exact (gQ BK1)); rintro e w8 ⟨rfl, hb⟩; refine ⟨_, rfl, ?_⟩; replace BK1 := aM (blk_below (g := gx1) (o := .cells #[.int .i64 a1_0, .slice A1_1 l1_1.length c1_1] 31 (0, 0)) (gQ BK1) hb); replace HB := tB HB hb; (try clear hb); (try clear hb2); (try clear hk); (try clear hi)))
     go_ret
     exact ⟨wQ, bE⟩
    ·replace c7 := Bool.eq_false_iff.mpr c7; subst c7; replace H := iF H; have H' := aM H; clear H; have p168 : 0 ≤ (x8_1 : Int) := dT aQ; have q168 : x8_1 < (l0.length : Int) := dT aQ; obtain ⟨ad168, e168, hx168_0, hx168_1, hx168_2, hx168_3⟩ := at_impl_Clue HR0.out x8_1 p168 q168
     cases e168
     replace hx168_0 := hC HB hx168_0; replace hx168_1 := hC HB hx168_1; replace hx168_2 := hC HB hx168_2; replace hx168_3 := hC HB hx168_3; replace p168 := eq_true p168; replace q168 := eq_true q168
     go_wp2_with (first | ((with_reducible refine gate_tmp rfl ?_); refine goesLTC_ (some 16) rfl rfl Try.func64 kR rfl #[.agg #[.int .i64 ((rd_impl_Clue l0 x8_1).f0), .int .i64 ((rd_impl_Clue l0 x8_1).f1), .int .i64 ((rd_impl_Clue l0 x8_1).f2), .int .i64 ((rd_impl_Clue l0 x8_1).f3)], .pointer (some ⟨gx1, 0, none⟩)] #[] #[.pointer (some ⟨gx1, 0, none⟩)] rfl (by first | rfl | (simp [Act.eval]; done)) (by (try simp only [mA, mC, mN, List.append_toArray, List.nil_append, List.cons_append, List.append_nil]); (try simp only [mA, mC, mN]); first | done | rfl | (simp only [lD, lT]; rfl)) ?_; (with_reducible refine (impl_IsPuzzle_1.calls k1 ((rd_impl_Clue l0 x8_1).f0) ((rd_impl_Clue l0 x8_1).f1) ((rd_impl_Clue l0 x8_1).f2) ((rd_impl_Clue l0 x8_1).f3) gx1 a1_0 A1_1 c1_1 l1_1 false _ ?side1 ?side2 ?side3 A6.out).mono ?_); (case side1 => repeat (first | exact (Kd.C_below HR1_1.out HB.out) | (with_reducible refine cA ?_ _) | (with_reducible refine cN ?_ _) | (with_reducible refine cD ?_))); (case side2 => exact HC1_1.out); (case side3 => exact (gQ BK1)); rintro e w9 ⟨rfl, hb⟩; refine ⟨_, rfl, ?_⟩; replace BK1 := aM (blk_below (g := gx1) (o := .cells #[.int .i64 a1_0, .slice A1_1 l1_1.length c1_1] 31 (0, 0)) (gQ BK1) hb); replace HB := tB HB hb; (try clear hb); (try clear hb2); (try clear hk); (try clear hi)))
     go_roundg k1
     case measure => have := HK1.out; omega
     case rel => exact ⟨(wrap64 (x8_1 + 1)), eQ, H', ⟨by have := HK1.out; omega⟩, ⟨gQ BK1⟩, ⟨bE⟩⟩
   ·rw [if_neg c3] at H; have c3b0 := decide_eq_false c3; clear c3; obtain rfl := Option.some.inj H; go_wp2
    go_ret
    exact ⟨wQ, bE⟩

def slices_ContainsFunc_impl_Clue_at_impl_IsPuzzle_1.f (k : Nat) (l0 : List (S_impl_Clue)) (a1_0 : Int) (l1_1 : List (S_impl_Clue)) : Option (Bool) := (slices_IndexFunc_impl_Clue_at_impl_IsPuzzle_1.f k l0 a1_0 l1_1).bind fun t170 => (some (decide (t170 ≥ 0)))
theorem slices_ContainsFunc_impl_Clue_at_impl_IsPuzzle_1.mono : ∀ a0 a1 a2 k, LeO (slices_ContainsFunc_impl_Clue_at_impl_IsPuzzle_1.f k a0 a1 a2) (slices_ContainsFunc_impl_Clue_at_impl_IsPuzzle_1.f (k + 1) a0 a1 a2) := by
 intro a0 a1 a2 k
 unfold slices_ContainsFunc_impl_Clue_at_impl_IsPuzzle_1.f
 repeat' first | (with_reducible exact slices_IndexFunc_impl_Clue_at_impl_IsPuzzle_1.mono _ _ _ _) | (with_reducible exact LeO.refl _) | (with_reducible exact LeO.none _) | (with_reducible refine LeO.ite ?_ ?_) | (with_reducible refine LeO.bind ?_ (fun _ => ?_)) | exact slices_IndexFunc_impl_Clue_at_impl_IsPuzzle_1.mono _ _ _ _ | exact LeO.none _ | refine LeO.ite ?_ ?_ | refine LeO.bind ?_ (fun _ => ?_)
set_option maxHeartbeats 8000000 in
set_option maxRecDepth 100000 in
theorem slices_ContainsFunc_impl_Clue_at_impl_IsPuzzle_1.calls (k : Nat) (A0 : Option Addr) (c0 : Nat) (l0 : List (S_impl_Clue)) (gx1 : Nat) (a1_0 : Int) (A1_1 : Option Addr) (c1_1 : Nat) (l1_1 : List (S_impl_Clue)) (r : Bool) (w : World) (hr0 : Kd.C kd_impl_Clue w A0 l0.length l0) (hc0 : l0.length ≤ c0) (hr1_1 : Kd.C kd_impl_Clue w A1_1 l1_1.length l1_1) (hc1_1 : l1_1.length ≤ c1_1) (hbx1 : w.heap[gx1]? = some (.cells #[.int .i64 a1_0, .slice A1_1 l1_1.length c1_1] 31 (0, 0))) (h : slices_ContainsFunc_impl_Clue_at_impl_IsPuzzle_1.f k l0 a1_0 l1_1 = some r) :
  Calls Try.prog 63 #[.slice A0 l0.length c0, .func (.func 64) #[] #[.pointer (some ⟨gx1, 0, none⟩)]] w fun e w' => e = .returned (.bool r) ∧ Below w.heap.size w w' := by
 have HR0 := aM hr0; have HC0 := aM hc0; clear hr0 hc0; have HR1_1 := aM hr1_1; have HC1_1 := aM hc1_1; clear hr1_1 hc1_1; have BK1 := aM hbx1; clear hbx1; have HB := aM (Below.refl w.heap.size w)
 unfold slices_ContainsFunc_impl_Clue_at_impl_IsPuzzle_1.f at h; have H := h; clear h
 replace H := bS H; obtain ⟨t170, A3, H⟩ := H; obtain rfl := Option.some.inj H
 go_enter Try.func63, Try.ntmps63
 go_wp2_with (first | ((with_reducible refine gC (f := 95) rfl ?_); refine goesL_ (some 7) rfl rfl Try.func95 kR rfl #[.slice A0 l0.length c0, .func (.func 64) #[] #[.pointer (some ⟨gx1, 0, none⟩)]] rfl sQ ?_; (with_reducible refine (slices_IndexFunc_impl_Clue_at_impl_IsPuzzle_1.calls k _ _ l0 gx1 a1_0 A1_1 c1_1 l1_1 t170 _ ?side1 ?side2 ?side3 ?side4 ?side5 A3.out).mono ?_); (case side1 => repeat (first | exact HR0.out | (with_reducible refine cA ?_ _) | (with_reducible refine cN ?_ _) | (with_reducible refine cD ?_))); (case side2 => exact HC0.out); (case side3 => repeat (first | exact HR1_1.out | (with_reducible refine cA ?_ _) | (with_reducible refine cN ?_ _) | (with_reducible refine cD ?_))); (case side4 => exact HC1_1.out); (case side5 => exact (gQ BK1)); rintro e w4 ⟨rfl, hb⟩; refine ⟨_, rfl, ?_⟩; replace BK1 := aM (blk_below (g := gx1) (o := .cells #[.int .i64 a1_0, .slice A1_1 l1_1.length c1_1] 31 (0, 0)) (gQ BK1) hb); replace HB := tB HB hb; (try clear hb); (try clear hb2); (try clear hk); (try clear hi)))
 go_ret
 exact ⟨wQ, bE⟩

end Go.Proofs.Ytoeclfihlhmnpaa.X
