-- thin
-- short
-- compact
import Derived.Test.YtoeclfihlhmnpaaXA
import Derived.Test.YtoeclfihlhmnpaaX0
import Derived.Test.YtoeclfihlhmnpaaX3
namespace Go.Proofs.Ytoeclfihlhmnpaa.X
open Go.RowKit Go.Proofs.Ytoeclfihlhmnpaa.XW Go.Proofs.YtoeclfihlhmnpaaW.PrintWords Go.Proofs.YtoeclfihlhmnpaaW.PrintLast Go.Proofs.YtoeclfihlhmnpaaW.PrintMore
attribute [local go_sem] max2_int min2_int max_two min_two max_three min_three max_four min_four   -- for this text's walks alone
set_option linter.unusedVariables false
set_option linter.unusedSimpArgs false

def spec_pzClue.j0 : Nat → Int → Int → Bool → Int → Int → Int → Int → Option (Bool)
 | 0, _, _, _, _, _, _, _ => none
 | k + 1, x0, x6, x7, x255000, x255001, x255002, x255003 => if x7 = true then ((spec_l1In.f x255001 0 x0).bind fun t255 => (if t255 = true then (if x255002 = 0 then (some (x255003 == 0)) else (some false)) else (some false))) else (if x6 = 2 then ((spec_l1In.f x255001 0 (wrap64 (2 * x0))).bind fun t256 => (if t256 = true then (if x255002 = 0 then (some (x255003 == 0)) else (some false)) else (some false))) else (if x6 = 3 then ((spec_l1In.f x255001 0 x0).bind fun t257 => (if t257 = true then ((spec_l1In.f x255002 0 x0).bind fun t258 => (if t258 = true then ((spec_l1In.f x255003 0 (wrap64 (x0 * x0))).bind fun t259 => (some t259)) else (some false))) else (some false))) else (if x6 = 4 then ((spec_l1In.f x255001 0 x0).bind fun t260 => (if t260 = true then ((spec_l1In.f x255002 0 x0).bind fun t261 => (if t261 = true then ((spec_l1In.f x255003 0 (wrap64 ((wrap64 (2 * x0)) * x0))).bind fun t262 => (some t262)) else (some false))) else (some false))) else (if x6 = 5 then ((spec_l1In.f x255001 0 x0).bind fun t263 => (if t263 = true then ((spec_l1In.f x255002 0 x0).bind fun t264 => (if t264 = true then ((spec_l1In.f x255003 0 1).bind fun t265 => (some t265)) else (some false))) else (some false))) else (some false)))))
def spec_pzClue.f (k : Nat) (a0 : Int) (a1_0 : Int) (a1_1 : Int) (a1_2 : Int) (a1_3 : Int) : Option (Bool) := if a1_0 = 0 then (spec_pzClue.j0 k a0 a1_0 (a1_0 == 0) a1_0 a1_1 a1_2 a1_3) else (spec_pzClue.j0 k a0 a1_0 (a1_0 == 1) a1_0 a1_1 a1_2 a1_3)
theorem spec_pzClue.mono_l : ∀ k, (∀ y0 y1 y2 y3 y4 y5 y6, LeO (spec_pzClue.j0 k y0 y1 y2 y3 y4 y5 y6) (spec_pzClue.j0 (k + 1) y0 y1 y2 y3 y4 y5 y6))
 | 0 => fun _ _ _ _ _ _ _ r h => by simp [spec_pzClue.j0] at h
 | k + 1 => by
  have ih0 := spec_pzClue.mono_l k
  ·intro y0 y1 y2 y3 y4 y5 y6
   unfold spec_pzClue.j0
   repeat' first
   | (with_reducible exact ih0 _ _ _ _ _ _ _)
   | (with_reducible exact LeO.refl _)
   | (with_reducible exact LeO.none _)
   | (with_reducible refine LeO.ite ?_ ?_)
   | (with_reducible refine LeO.bind ?_ (fun _ => ?_))
   | exact ih0 _ _ _ _ _ _ _
   | exact LeO.none _
   | refine LeO.ite ?_ ?_
   | refine LeO.bind ?_ (fun _ => ?_)
theorem spec_pzClue.mono : ∀ a0 a1 a2 a3 a4 k, LeO (spec_pzClue.f k a0 a1 a2 a3 a4) (spec_pzClue.f (k + 1) a0 a1 a2 a3 a4) := by
 intro a0 a1 a2 a3 a4 k
 have ih0 := spec_pzClue.mono_l k
 unfold spec_pzClue.f
 repeat' first | (with_reducible exact ih0 _ _ _ _ _ _ _) | (with_reducible exact LeO.refl _) | (with_reducible exact LeO.none _) | (with_reducible refine LeO.ite ?_ ?_) | (with_reducible refine LeO.bind ?_ (fun _ => ?_)) | exact ih0 _ _ _ _ _ _ _ | exact LeO.none _ | refine LeO.ite ?_ ?_ | refine LeO.bind ?_ (fun _ => ?_)
set_option maxHeartbeats 8000000 in
set_option maxRecDepth 100000 in
theorem spec_pzClue.calls (k : Nat) (a0 : Int) (a1_0 : Int) (a1_1 : Int) (a1_2 : Int) (a1_3 : Int) (r : Bool) (w : World) (h : spec_pzClue.f k a0 a1_0 a1_1 a1_2 a1_3 = some r) :
  Calls Try.prog 75 #[.int .i64 a0, .agg #[.int .i64 a1_0, .int .i64 a1_1, .int .i64 a1_2, .int .i64 a1_3]] w fun e w' => e = .returned (.bool r) ∧ Below w.heap.size w w' := by
 have hu48 := Try.underlying48; have HB := aM (Below.refl w.heap.size w)
 unfold spec_pzClue.f at h; have H := h; clear h
 have HC3 := aM H; clear H
 go_enter Try.func75, Try.ntmps75
 go_upto_if 7 with (first | ((with_reducible refine gate_dst (N := 3) rfl ?_); refine bV 3 (cs := #[.int .i64 a1_0, .int .i64 a1_1, .int .i64 a1_2, .int .i64 a1_3]) (t := 48) rfl rfl (by first | (go_simp; done) | (go_simp; rfl)) ?_; intro gb254 hg w4 hbox hb; have n0_ := tB HB hb; have n1_ := hbox; have n2_ := gZ HB hg; have n3_ := gZ HB hg; clear HB; have HB := n0_; have BK254 := n1_; have GW254 := n2_; have GE254 := n3_; clear n0_ n1_ n2_ n3_; clear hb hbox hg; have hcz5_0 := vZ0 BK254; have hcz5_1 := vZ1 BK254; have hcz5_2 := vZ2 BK254; have hcz5_3 := vZ3 BK254; have hfz5_0 := kF BK254.out 0; have hfz5_1 := kF BK254.out 1; have hfz5_2 := kF BK254.out 2; have hfz5_3 := kF BK254.out 3))
 (try simp only [Act.put, sI, sZ, sS])
 go_cut [7] (fun v7 wc => ∃ (kq : Nat) (x7_2 : Bool), v7 = .bool x7_2 ∧ Aside0 (spec_pzClue.j0 kq a0 a1_0 x7_2 a1_0 a1_1 a1_2 a1_3 = some r) ∧ Aside0 (kq ≤ k) ∧ Aside0 (wc.heap[gb254]? = some (.cells #[.int .i64 a1_0, .int .i64 a1_1, .int .i64 a1_2, .int .i64 a1_3] 48 (0, 0))) ∧ Aside0 (Below w.heap.size w wc))
 case first =>
  have H := HC3.out; clear HC3
  by_cases c6 : a1_0 = 0
  ·rw [if_pos c6] at H; have c6b0 : (a1_0 == 0) = true := beq_iff_eq.mpr c6; have c6b1 : (a1_0 != 0) = false := bne_eq_false_iff_eq.mpr c6; clear c6
   (first | rw [c6b0] | (simp only [i64_w, i32_w]; rw [c6b0]) | skip)
   have H' := aM H; clear H; go_wp2
   go_meet
   case rel => exact ⟨_, ((a1_0 == 0)), eQ, H', ⟨by first | omega | exact Nat.le_refl _⟩, ⟨gQ BK254⟩, ⟨bE⟩⟩
  ·rw [if_neg c6] at H; have c6b0 : (a1_0 == 0) = false := beq_eq_false_iff_ne.mpr c6; have c6b1 : (a1_0 != 0) = true := bne_iff_ne.mpr c6
   (first | rw [c6b0] | (simp only [i64_w, i32_w]; rw [c6b0]) | skip)
   have H' := aM H; clear H; go_wp2
   go_meet
   case rel => exact ⟨_, ((a1_0 == 1)), eQ, H', ⟨by first | omega | exact Nat.le_refl _⟩, ⟨gQ BK254⟩, ⟨bE⟩⟩
 case rest =>
  clear HC3; (try clear hcz5_0); (try clear hcz5_1); (try clear hcz5_2); (try clear hcz5_3); (try clear hfz5_0); (try clear hfz5_1); (try clear hfz5_2); (try clear hfz5_3); obtain ⟨kq, x7_2, rfl, HA, HJ2, BK254, HB⟩ := hcut
  cases kq with
  | zero => exact absurd HA.out (by simp [spec_pzClue.j0])
  | succ kj2 =>
   have H := HA.out; clear HA
   simp only [spec_pzClue.j0] at H
   by_cases c7 : x7_2 = true
   ·subst c7; replace H := iT H; replace H := bS H; obtain ⟨t255, A8, H⟩ := H
    by_cases c9 : t255 = true
    ·subst c9; replace H := iT H
     by_cases c10 : a1_2 = 0
     ·rw [if_pos c10] at H; have c10b0 : (a1_2 == 0) = true := beq_iff_eq.mpr c10; have c10b1 : (a1_2 != 0) = false := bne_eq_false_iff_eq.mpr c10; clear c10; obtain rfl := Option.some.inj H; have hcz11_0 : wc.cell? ⟨gb254, 0, none⟩ = some (.int .i64 a1_0) := vZ0 BK254; have hcz11_1 : wc.cell? ⟨gb254, 1, none⟩ = some (.int .i64 a1_1) := vZ1 BK254; have hcz11_2 : wc.cell? ⟨gb254, 2, none⟩ = some (.int .i64 a1_2) := vZ2 BK254; have hcz11_3 : wc.cell? ⟨gb254, 3, none⟩ = some (.int .i64 a1_3) := vZ3 BK254; have hfz11_0 := kF BK254.out 0; have hfz11_1 := kF BK254.out 1; have hfz11_2 := kF BK254.out 2; have hfz11_3 := kF BK254.out 3
      go_wp2_with (first | ((with_reducible refine gC (f := 59) rfl ?_); refine goesL_ (some 13) rfl rfl Try.func59 kR rfl #[.int .i64 a1_1, .int .i64 0, .int .i64 a0] rfl sQ ?_; (with_reducible refine (spec_l1In.calls a1_1 0 a0 true _ A8.out).mono ?_); rintro e w' ⟨rfl, ⟨nd, rfl⟩⟩; refine ⟨_, rfl, ?_⟩))
      go_ret
      exact ⟨wQ, bE⟩
     ·rw [if_neg c10] at H; have c10b0 : (a1_2 == 0) = false := beq_eq_false_iff_ne.mpr c10; have c10b1 : (a1_2 != 0) = true := bne_iff_ne.mpr c10; obtain rfl := Option.some.inj H; have hcz12_0 : wc.cell? ⟨gb254, 0, none⟩ = some (.int .i64 a1_0) := vZ0 BK254; have hcz12_1 : wc.cell? ⟨gb254, 1, none⟩ = some (.int .i64 a1_1) := vZ1 BK254; have hcz12_2 : wc.cell? ⟨gb254, 2, none⟩ = some (.int .i64 a1_2) := vZ2 BK254; have hcz12_3 : wc.cell? ⟨gb254, 3, none⟩ = some (.int .i64 a1_3) := vZ3 BK254; have hfz12_0 := kF BK254.out 0; have hfz12_1 := kF BK254.out 1; have hfz12_2 := kF BK254.out 2; have hfz12_3 := kF BK254.out 3
      go_wp2_with (first | ((with_reducible refine gC (f := 59) rfl ?_); refine goesL_ (some 13) rfl rfl Try.func59 kR rfl #[.int .i64 a1_1, .int .i64 0, .int .i64 a0] rfl sQ ?_; (with_reducible refine (spec_l1In.calls a1_1 0 a0 true _ A8.out).mono ?_); rintro e w' ⟨rfl, ⟨nd, rfl⟩⟩; refine ⟨_, rfl, ?_⟩))
      go_ret
      exact ⟨wQ, bE⟩
    ·replace c9 := Bool.eq_false_iff.mpr c9; subst c9; replace H := iF H; obtain rfl := Option.some.inj H; have hcz13_0 : wc.cell? ⟨gb254, 0, none⟩ = some (.int .i64 a1_0) := vZ0 BK254; have hcz13_1 : wc.cell? ⟨gb254, 1, none⟩ = some (.int .i64 a1_1) := vZ1 BK254; have hcz13_2 : wc.cell? ⟨gb254, 2, none⟩ = some (.int .i64 a1_2) := vZ2 BK254; have hcz13_3 : wc.cell? ⟨gb254, 3, none⟩ = some (.int .i64 a1_3) := vZ3 BK254; have hfz13_0 := kF BK254.out 0; have hfz13_1 := kF BK254.out 1; have hfz13_2 := kF BK254.out 2; have hfz13_3 := kF BK254.out 3
     go_wp2_with (first | ((with_reducible refine gC (f := 59) rfl ?_); refine goesL_ (some 13) rfl rfl Try.func59 kR rfl #[.int .i64 a1_1, .int .i64 0, .int .i64 a0] rfl sQ ?_; (with_reducible refine (spec_l1In.calls a1_1 0 a0 false _ A8.out).mono ?_); rintro e w' ⟨rfl, ⟨nd, rfl⟩⟩; refine ⟨_, rfl, ?_⟩))
     go_ret
     exact ⟨wQ, bE⟩
   ·replace c7 := Bool.eq_false_iff.mpr c7; subst c7; replace H := iF H
    by_cases c14 : a1_0 = 2
    ·rw [if_pos c14] at H; have c14b0 : (a1_0 == 2) = true := beq_iff_eq.mpr c14; have c14b1 : (a1_0 != 2) = false := bne_eq_false_iff_eq.mpr c14; clear c14; replace H := bS H; obtain ⟨t256, A15, H⟩ := H
     by_cases c16 : t256 = true
     ·subst c16; replace H := iT H
      by_cases c17 : a1_2 = 0
      ·rw [if_pos c17] at H; have c17b0 : (a1_2 == 0) = true := beq_iff_eq.mpr c17; have c17b1 : (a1_2 != 0) = false := bne_eq_false_iff_eq.mpr c17; clear c17; obtain rfl := Option.some.inj H; have hcz18_0 : wc.cell? ⟨gb254, 0, none⟩ = some (.int .i64 a1_0) := vZ0 BK254; have hcz18_1 : wc.cell? ⟨gb254, 1, none⟩ = some (.int .i64 a1_1) := vZ1 BK254; have hcz18_2 : wc.cell? ⟨gb254, 2, none⟩ = some (.int .i64 a1_2) := vZ2 BK254; have hcz18_3 : wc.cell? ⟨gb254, 3, none⟩ = some (.int .i64 a1_3) := vZ3 BK254; have hfz18_0 := kF BK254.out 0; have hfz18_1 := kF BK254.out 1; have hfz18_2 := kF BK254.out 2; have hfz18_3 := kF BK254.out 3
       go_wp2_with (first | ((with_reducible refine gC (f := 59) rfl ?_); refine goesL_ (some 30) rfl rfl Try.func59 kR rfl #[.int .i64 a1_1, .int .i64 0, .int .i64 (wrap64 (2 * a0))] rfl sQ ?_; (with_reducible refine (spec_l1In.calls a1_1 0 (wrap64 (2 * a0)) true _ A15.out).mono ?_); rintro e w' ⟨rfl, ⟨nd, rfl⟩⟩; refine ⟨_, rfl, ?_⟩))
       go_ret
       exact ⟨wQ, bE⟩
      ·rw [if_neg c17] at H; have c17b0 : (a1_2 == 0) = false := beq_eq_false_iff_ne.mpr c17; have c17b1 : (a1_2 != 0) = true := bne_iff_ne.mpr c17; obtain rfl := Option.some.inj H; have hcz19_0 : wc.cell? ⟨gb254, 0, none⟩ = some (.int .i64 a1_0) := vZ0 BK254; have hcz19_1 : wc.cell? ⟨gb254, 1, none⟩ = some (.int .i64 a1_1) := vZ1 BK254; have hcz19_2 : wc.cell? ⟨gb254, 2, none⟩ = some (.int .i64 a1_2) := vZ2 BK254; have hcz19_3 : wc.cell? ⟨gb254, 3, none⟩ = some (.int .i64 a1_3) := vZ3 BK254; have hfz19_0 := kF BK254.out 0; have hfz19_1 := kF BK254.out 1; have hfz19_2 := kF BK254.out 2; have hfz19_3 := kF BK254.out 3
       go_wp2_with (first | ((with_reducible refine gC (f := 59) rfl ?_); refine goesL_ (some 30) rfl rfl Try.func59 kR rfl #[.int .i64 a1_1, .int .i64 0, .int .i64 (wrap64 (2 * a0))] rfl sQ ?_; (with_reducible refine (spec_l1In.calls a1_1 0 (wrap64 (2 * a0)) true _ A15.out).mono ?_); rintro e w' ⟨rfl, ⟨nd, rfl⟩⟩; refine ⟨_, rfl, ?_⟩))
       go_ret
       exact ⟨wQ, bE⟩
     ·replace c16 := Bool.eq_false_iff.mpr c16; subst c16; replace H := iF H; obtain rfl := Option.some.inj H; have hcz20_0 : wc.cell? ⟨gb254, 0, none⟩ = some (.int .i64 a1_0) := vZ0 BK254; have hcz20_1 : wc.cell? ⟨gb254, 1, none⟩ = some (.int .i64 a1_1) := vZ1 BK254; have hcz20_2 : wc.cell? ⟨gb254, 2, none⟩ = some (.int .i64 a1_2) := vZ2 BK254; have hcz20_3 : wc.cell? ⟨gb254, 3, none⟩ = some (.int .i64 a1_3) := vZ3 BK254; have hfz20_0 := kF BK254.out 0; have hfz20_1 := kF BK254.out 1; have hfz20_2 := kF BK254.out 2; have hfz20_3 := kF BK254.out 3
      go_wp2_with (first | ((with_reducible refine gC (f := 59) rfl ?_); refine goesL_ (some 30) rfl rfl Try.func59 kR rfl #[.int .i64 a1_1, .int .i64 0, .int .i64 (wrap64 (2 * a0))] rfl sQ ?_; (with_reducible refine (spec_l1In.calls a1_1 0 (wrap64 (2 * a0)) false _ A15.out).mono ?_); rintro e w' ⟨rfl, ⟨nd, rfl⟩⟩; refine ⟨_, rfl, ?_⟩))
      go_ret
      exact ⟨wQ, bE⟩
    ·rw [if_neg c14] at H; have c14b0 : (a1_0 == 2) = false := beq_eq_false_iff_ne.mpr c14; have c14b1 : (a1_0 != 2) = true := bne_iff_ne.mpr c14
     by_cases c21 : a1_0 = 3
     ·rw [if_pos c21] at H; have c21b0 : (a1_0 == 3) = true := beq_iff_eq.mpr c21; have c21b1 : (a1_0 != 3) = false := bne_eq_false_iff_eq.mpr c21; clear c21; replace H := bS H; obtain ⟨t257, A22, H⟩ := H
      by_cases c23 : t257 = true
      ·subst c23; replace H := iT H; replace H := bS H; obtain ⟨t258, A24, H⟩ := H
       by_cases c25 : t258 = true
       ·subst c25; replace H := iT H; replace H := bS H; obtain ⟨t259, A26, H⟩ := H; obtain rfl := Option.some.inj H; have hcz27_0 : wc.cell? ⟨gb254, 0, none⟩ = some (.int .i64 a1_0) := vZ0 BK254; have hcz27_1 : wc.cell? ⟨gb254, 1, none⟩ = some (.int .i64 a1_1) := vZ1 BK254; have hcz27_2 : wc.cell? ⟨gb254, 2, none⟩ = some (.int .i64 a1_2) := vZ2 BK254; have hcz27_3 : wc.cell? ⟨gb254, 3, none⟩ = some (.int .i64 a1_3) := vZ3 BK254; have hfz27_0 := kF BK254.out 0; have hfz27_1 := kF BK254.out 1; have hfz27_2 := kF BK254.out 2; have hfz27_3 := kF BK254.out 3
        go_wp2_with (first | ((with_reducible refine gC (f := 59) rfl ?_); refine goesL_ (some 46) rfl rfl Try.func59 kR rfl #[.int .i64 a1_1, .int .i64 0, .int .i64 a0] rfl sQ ?_; (with_reducible refine (spec_l1In.calls a1_1 0 a0 true _ A22.out).mono ?_); rintro e w' ⟨rfl, ⟨nd, rfl⟩⟩; refine ⟨_, rfl, ?_⟩) | (go_at_call 59; (with_reducible refine (spec_l1In.calls a1_2 0 a0 true _ A24.out).mono ?_); rintro e w' ⟨rfl, ⟨nd, rfl⟩⟩) | (go_at_call 59; (with_reducible refine (spec_l1In.calls a1_3 0 (wrap64 (a0 * a0)) t259 _ A26.out).mono ?_); rintro e w' ⟨rfl, ⟨nd, rfl⟩⟩))
        go_ret
        exact ⟨wQ, bE⟩
       ·replace c25 := Bool.eq_false_iff.mpr c25; subst c25; replace H := iF H; obtain rfl := Option.some.inj H; have hcz28_0 : wc.cell? ⟨gb254, 0, none⟩ = some (.int .i64 a1_0) := vZ0 BK254; have hcz28_1 : wc.cell? ⟨gb254, 1, none⟩ = some (.int .i64 a1_1) := vZ1 BK254; have hcz28_2 : wc.cell? ⟨gb254, 2, none⟩ = some (.int .i64 a1_2) := vZ2 BK254; have hcz28_3 : wc.cell? ⟨gb254, 3, none⟩ = some (.int .i64 a1_3) := vZ3 BK254; have hfz28_0 := kF BK254.out 0; have hfz28_1 := kF BK254.out 1; have hfz28_2 := kF BK254.out 2; have hfz28_3 := kF BK254.out 3
        go_wp2_with (first | ((with_reducible refine gC (f := 59) rfl ?_); refine goesL_ (some 46) rfl rfl Try.func59 kR rfl #[.int .i64 a1_1, .int .i64 0, .int .i64 a0] rfl sQ ?_; (with_reducible refine (spec_l1In.calls a1_1 0 a0 true _ A22.out).mono ?_); rintro e w' ⟨rfl, ⟨nd, rfl⟩⟩; refine ⟨_, rfl, ?_⟩) | (go_at_call 59; (with_reducible refine (spec_l1In.calls a1_2 0 a0 false _ A24.out).mono ?_); rintro e w' ⟨rfl, ⟨nd, rfl⟩⟩))
        go_ret
        exact ⟨wQ, bE⟩
      ·replace c23 := Bool.eq_false_iff.mpr c23; subst c23; replace H := iF H; obtain rfl := Option.some.inj H; have hcz29_0 : wc.cell? ⟨gb254, 0, none⟩ = some (.int .i64 a1_0) := vZ0 BK254; have hcz29_1 : wc.cell? ⟨gb254, 1, none⟩ = some (.int .i64 a1_1) := vZ1 BK254; have hcz29_2 : wc.cell? ⟨gb254, 2, none⟩ = some (.int .i64 a1_2) := vZ2 BK254; have hcz29_3 : wc.cell? ⟨gb254, 3, none⟩ = some (.int .i64 a1_3) := vZ3 BK254; have hfz29_0 := kF BK254.out 0; have hfz29_1 := kF BK254.out 1; have hfz29_2 := kF BK254.out 2; have hfz29_3 := kF BK254.out 3
       go_wp2_with (first | ((with_reducible refine gC (f := 59) rfl ?_); refine goesL_ (some 46) rfl rfl Try.func59 kR rfl #[.int .i64 a1_1, .int .i64 0, .int .i64 a0] rfl sQ ?_; (with_reducible refine (spec_l1In.calls a1_1 0 a0 false _ A22.out).mono ?_); rintro e w' ⟨rfl, ⟨nd, rfl⟩⟩; refine ⟨_, rfl, ?_⟩))
       go_ret
       exact ⟨wQ, bE⟩
     ·rw [if_neg c21] at H; have c21b0 : (a1_0 == 3) = false := beq_eq_false_iff_ne.mpr c21; have c21b1 : (a1_0 != 3) = true := bne_iff_ne.mpr c21
      by_cases c30 : a1_0 = 4
      ·rw [if_pos c30] at H; have c30b0 : (a1_0 == 4) = true := beq_iff_eq.mpr c30; have c30b1 : (a1_0 != 4) = false := bne_eq_false_iff_eq.mpr c30; clear c30; replace H := bS H; obtain ⟨t260, A31, H⟩ := H
       by_cases c32 : t260 = true
       ·subst c32; replace H := iT H; replace H := bS H; obtain ⟨t261, A33, H⟩ := H
        by_cases c34 : t261 = true
        ·subst c34; replace H := iT H; replace H := bS H; obtain ⟨t262, A35, H⟩ := H; obtain rfl := Option.some.inj H; have hcz36_0 : wc.cell? ⟨gb254, 0, none⟩ = some (.int .i64 a1_0) := vZ0 BK254; have hcz36_1 : wc.cell? ⟨gb254, 1, none⟩ = some (.int .i64 a1_1) := vZ1 BK254; have hcz36_2 : wc.cell? ⟨gb254, 2, none⟩ = some (.int .i64 a1_2) := vZ2 BK254; have hcz36_3 : wc.cell? ⟨gb254, 3, none⟩ = some (.int .i64 a1_3) := vZ3 BK254; have hfz36_0 := kF BK254.out 0; have hfz36_1 := kF BK254.out 1; have hfz36_2 := kF BK254.out 2; have hfz36_3 := kF BK254.out 3
         go_wp2_with (first | ((with_reducible refine gC (f := 59) rfl ?_); refine goesL_ (some 66) rfl rfl Try.func59 kR rfl #[.int .i64 a1_1, .int .i64 0, .int .i64 a0] rfl sQ ?_; (with_reducible refine (spec_l1In.calls a1_1 0 a0 true _ A31.out).mono ?_); rintro e w' ⟨rfl, ⟨nd, rfl⟩⟩; refine ⟨_, rfl, ?_⟩) | (go_at_call 59; (with_reducible refine (spec_l1In.calls a1_2 0 a0 true _ A33.out).mono ?_); rintro e w' ⟨rfl, ⟨nd, rfl⟩⟩) | (go_at_call 59; (with_reducible refine (spec_l1In.calls a1_3 0 (wrap64 ((wrap64 (2 * a0)) * a0)) t262 _ A35.out).mono ?_); rintro e w' ⟨rfl, ⟨nd, rfl⟩⟩))
         go_ret
         exact ⟨wQ, bE⟩
        ·replace c34 := Bool.eq_false_iff.mpr c34; subst c34; replace H := iF H; obtain rfl := Option.some.inj H; have hcz37_0 : wc.cell? ⟨gb254, 0, none⟩ = some (.int .i64 a1_0) := vZ0 BK254; have hcz37_1 : wc.cell? ⟨gb254, 1, none⟩ = some (.int .i64 a1_1) := vZ1 BK254; have hcz37_2 : wc.cell? ⟨gb254, 2, none⟩ = some (.int .i64 a1_2) := vZ2 BK254; have hcz37_3 : wc.cell? ⟨gb254, 3, none⟩ = some (.int .i64 a1_3) := vZ3 BK254; have hfz37_0 := kF BK254.out 0; have hfz37_1 := kF BK254.out 1; have hfz37_2 := kF BK254.out 2; have hfz37_3 := kF BK254.out 3
         go_wp2_with (first | ((with_reducible refine gC (f := 59) rfl ?_); refine goesL_ (some 66) rfl rfl Try.func59 kR rfl #[.int .i64 a1_1, .int .i64 0, .int .i64 a0] rfl sQ ?_; (with_reducible refine (spec_l1In.calls a1_1 0 a0 true _ A31.out).mono ?_); rintro e w' ⟨rfl, ⟨nd, rfl⟩⟩; refine ⟨_, rfl, ?_⟩) | (go_at_call 59; (with_reducible refine (spec_l1In.calls a1_2 0 a0 false _ A33.out).mono ?_); rintro e w' ⟨rfl, ⟨nd, rfl⟩⟩))
         go_ret
         exact ⟨wQ, bE⟩
       ·replace c32 := Bool.eq_false_iff.mpr c32; subst c32; replace H := iF H; obtain rfl := Option.some.inj H; have hcz38_0 : wc.cell? ⟨gb254, 0, none⟩ = some (.int .i64 a1_0) := vZ0 BK254; have hcz38_1 : wc.cell? ⟨gb254, 1, none⟩ = some (.int .i64 a1_1) := vZ1 BK254; have hcz38_2 : wc.cell? ⟨gb254, 2, none⟩ = some (.int .i64 a1_2) := vZ2 BK254; have hcz38_3 : wc.cell? ⟨gb254, 3, none⟩ = some (.int .i64 a1_3) := vZ3 BK254; have hfz38_0 := kF BK254.out 0; have hfz38_1 := kF BK254.out 1; have hfz38_2 := kF BK254.out 2; have hfz38_3 := kF BK254.out 3
        go_wp2_with (first | ((with_reducible refine gC (f := 59) rfl ?_); refine goesL_ (some 66) rfl rfl Try.func59 kR rfl #[.int .i64 a1_1, .int .i64 0, .int .i64 a0] rfl sQ ?_; (with_reducible refine (spec_l1In.calls a1_1 0 a0 false _ A31.out).mono ?_); rintro e w' ⟨rfl, ⟨nd, rfl⟩⟩; refine ⟨_, rfl, ?_⟩))
        go_ret
        exact ⟨wQ, bE⟩
      ·rw [if_neg c30] at H; have c30b0 : (a1_0 == 4) = false := beq_eq_false_iff_ne.mpr c30; have c30b1 : (a1_0 != 4) = true := bne_iff_ne.mpr c30
       by_cases c39 : a1_0 = 5
       ·rw [if_pos c39] at H; have c39b0 : (a1_0 == 5) = true := beq_iff_eq.mpr c39; have c39b1 : (a1_0 != 5) = false := bne_eq_false_iff_eq.mpr c39; clear c39; replace H := bS H; obtain ⟨t263, A40, H⟩ := H
        by_cases c41 : t263 = true
        ·subst c41; replace H := iT H; replace H := bS H; obtain ⟨t264, A42, H⟩ := H
         by_cases c43 : t264 = true
         ·subst c43; replace H := iT H; replace H := bS H; obtain ⟨t265, A44, H⟩ := H; obtain rfl := Option.some.inj H; have hcz45_0 : wc.cell? ⟨gb254, 0, none⟩ = some (.int .i64 a1_0) := vZ0 BK254; have hcz45_1 : wc.cell? ⟨gb254, 1, none⟩ = some (.int .i64 a1_1) := vZ1 BK254; have hcz45_2 : wc.cell? ⟨gb254, 2, none⟩ = some (.int .i64 a1_2) := vZ2 BK254; have hcz45_3 : wc.cell? ⟨gb254, 3, none⟩ = some (.int .i64 a1_3) := vZ3 BK254; have hfz45_0 := kF BK254.out 0; have hfz45_1 := kF BK254.out 1; have hfz45_2 := kF BK254.out 2; have hfz45_3 := kF BK254.out 3
          go_wp2_with (first | ((with_reducible refine gC (f := 59) rfl ?_); refine goesL_ (some 87) rfl rfl Try.func59 kR rfl #[.int .i64 a1_1, .int .i64 0, .int .i64 a0] rfl sQ ?_; (with_reducible refine (spec_l1In.calls a1_1 0 a0 true _ A40.out).mono ?_); rintro e w' ⟨rfl, ⟨nd, rfl⟩⟩; refine ⟨_, rfl, ?_⟩) | (go_at_call 59; (with_reducible refine (spec_l1In.calls a1_2 0 a0 true _ A42.out).mono ?_); rintro e w' ⟨rfl, ⟨nd, rfl⟩⟩) | (go_at_call 59; (with_reducible refine (spec_l1In.calls a1_3 0 1 t265 _ A44.out).mono ?_); rintro e w' ⟨rfl, ⟨nd, rfl⟩⟩))
          go_ret
          exact ⟨wQ, bE⟩
         ·replace c43 := Bool.eq_false_iff.mpr c43; subst c43; replace H := iF H; obtain rfl := Option.some.inj H; have hcz46_0 : wc.cell? ⟨gb254, 0, none⟩ = some (.int .i64 a1_0) := vZ0 BK254; have hcz46_1 : wc.cell? ⟨gb254, 1, none⟩ = some (.int .i64 a1_1) := vZ1 BK254; have hcz46_2 : wc.cell? ⟨gb254, 2, none⟩ = some (.int .i64 a1_2) := vZ2 BK254; have hcz46_3 : wc.cell? ⟨gb254, 3, none⟩ = some (.int .i64 a1_3) := vZ3 BK254; have hfz46_0 := kF BK254.out 0; have hfz46_1 := kF BK254.out 1; have hfz46_2 := kF BK254.out 2; have hfz46_3 := kF BK254.out 3
          go_wp2_with (first | ((with_reducible refine gC (f := 59) rfl ?_); refine goesL_ (some 87) rfl rfl Try.func59 kR rfl #[.int .i64 a1_1, .int .i64 0, .int .i64 a0] rfl sQ ?_; (with_reducible refine (spec_l1In.calls a1_1 0 a0 true _ A40.out).mono ?_); rintro e w' ⟨rfl, ⟨nd, rfl⟩⟩; refine ⟨_, rfl, ?_⟩) | (go_at_call 59; (with_reducible refine (spec_l1In.calls a1_2 0 a0 false _ A42.out).mono ?_); rintro e w' ⟨rfl, ⟨nd, rfl⟩⟩))
          go_ret
          exact ⟨wQ, bE⟩
        ·replace c41 := Bool.eq_false_iff.mpr c41; subst c41; replace H := iF H; obtain rfl := Option.some.inj H; have hcz47_0 : wc.cell? ⟨gb254, 0, none⟩ = some (.int .i64 a1_0) := vZ0 BK254; have hcz47_1 : wc.cell? ⟨gb254, 1, none⟩ = some (.int .i64 a1_1) := vZ1 BK254; have hcz47_2 : wc.cell? ⟨gb254, 2, none⟩ = some (.int .i64 a1_2) := vZ2 BK254; have hcz47_3 : wc.cell? ⟨gb254, 3, none⟩ = some (.int .i64 a1_3) := vZ3 BK254; have hfz47_0 := kF BK254.out 0; have hfz47_1 := kF BK254.out 1; have hfz47_2 := kF BK254.out 2; have hfz47_3 := kF BK254.out 3
         go_wp2_with (first | ((with_reducible refine gC (f := 59) rfl ?_); refine goesL_ (some 87) rfl rfl Try.func59 kR rfl #[.int .i64 a1_1, .int .i64 0, .int .i64 a0] rfl sQ ?_; (with_reducible refine (spec_l1In.calls a1_1 0 a0 false _ A40.out).mono ?_); rintro e w' ⟨rfl, ⟨nd, rfl⟩⟩; refine ⟨_, rfl, ?_⟩))
         go_ret
         exact ⟨wQ, bE⟩
       ·rw [if_neg c39] at H; have c39b0 : (a1_0 == 5) = false := beq_eq_false_iff_ne.mpr c39; have c39b1 : (a1_0 != 5) = true := bne_iff_ne.mpr c39; obtain rfl := Option.some.inj H; go_wp2
        go_ret
        exact ⟨wQ, bE⟩

end Go.Proofs.Ytoeclfihlhmnpaa.X
