-- thin
-- short
import Derived.Test.YtiacfkilmknldaaXA
import Derived.Test.YtiacfkilmknldaaX0
import Derived.Test.YtiacfkilmknldaaX7
import Derived.Test.YtiacfkilmknldaaX8
import Derived.Test.YtiacfkilmknldaaX11
import Derived.Test.YtiacfkilmknldaaX20
import Derived.Test.YtiacfkilmknldaaX25
import Derived.Test.YtiacfkilmknldaaX35
namespace Go.Proofs.Ytiacfkilmknldaa.X
open Go.RowKit Go.Proofs.Ytiacfkilmknldaa.XW Go.Proofs.YtiacfkilmknldaaW.PrintWords Go.Proofs.YtiacfkilmknldaaW.PrintLast Go.Proofs.YtiacfkilmknldaaW.PrintMore
attribute [local go_sem] max2_int min2_int max_two min_two max_three min_three max_four min_four   -- for this text's walks alone
set_option linter.unusedVariables false
set_option linter.unusedSimpArgs false

def impl_CircleOfThree.l0 : Nat → List (S_impl_Peg) → Int → Int → Int → List (S_impl_Peg) → Int → Int → Option (Int × Int × Int × Bool)
 | 0, _, _, _, _, _, _, _ => none
 | k + 1, x0, x6, x7, x8, x19, x20, x21 => if x21 < x20 then (if 0 ≤ x21 then (if x21 < (x19.length : Int) then ((impl_at.f x0 (wrap64 (x21 + 1))).bind fun bt724 => ((impl_at.f x0 (wrap64 (x21 + 2))).bind fun bt726 => ((impl_Peg_less.f bt724.1 bt724.2 bt726.1 bt726.2).bind fun bt728 => ((impl_Peg_square.f ((rd_impl_Peg x19 x21).f0) ((rd_impl_Peg x19 x21).f1)).bind fun t731 => ((impl_Peg_square.f ((rd_impl_Peg x19 x21).f0) ((rd_impl_Peg x19 x21).f1)).bind fun t732 => (impl_CircleOfThree.l0 k x0 (wrap64 (x6 + (wrap64 (t731 * bt728.2)))) (wrap64 (x7 - (wrap64 (t732 * bt728.1)))) x8 x19 x20 (wrap64 (x21 + 1)))))))) else (none)) else (none)) else ((impl_divisor.f k x6 x7).bind fun t719 => ((impl_divisor.f k t719 x8).bind fun t720 => ((impl_sign.f x8).bind fun t721 => (if (wrap64 (t720 * t721)) = 0 then (none) else (some (wrap64 (Int.tdiv x6 (wrap64 (t720 * t721))), wrap64 (Int.tdiv x7 (wrap64 (t720 * t721))), wrap64 (Int.tdiv x8 (wrap64 (t720 * t721))), true))))))
def impl_CircleOfThree.f (k : Nat) (l0 : List (S_impl_Peg)) : Option (Int × Int × Int × Bool) := (impl_isThree.f k l0).bind fun t717 => (if t717 = true then ((impl_twice.f k l0).bind fun t718 => (impl_CircleOfThree.l0 k l0 0 0 (wrap64 (2 * t718)) l0 (l0.length : Int) 0)) else (some (0, 0, 0, false)))
theorem impl_CircleOfThree.mono_l : ∀ k, (∀ y0 y1 y2 y3 y4 y5 y6, LeO (impl_CircleOfThree.l0 k y0 y1 y2 y3 y4 y5 y6) (impl_CircleOfThree.l0 (k + 1) y0 y1 y2 y3 y4 y5 y6))
 | 0 => fun _ _ _ _ _ _ _ r h => by simp [impl_CircleOfThree.l0] at h
 | k + 1 => by
  have ih0 := impl_CircleOfThree.mono_l k
  ·intro y0 y1 y2 y3 y4 y5 y6
   unfold impl_CircleOfThree.l0
   repeat' first
   | (with_reducible exact ih0 _ _ _ _ _ _ _)
   | (with_reducible exact impl_divisor.mono _ _ _)
   | (with_reducible exact impl_isThree.mono _ _)
   | (with_reducible exact impl_twice.mono _ _)
   | (with_reducible exact LeO.refl _)
   | (with_reducible exact LeO.none _)
   | (with_reducible refine LeO.ite ?_ ?_)
   | (with_reducible refine LeO.bind ?_ (fun _ => ?_))
   | exact ih0 _ _ _ _ _ _ _
   | exact impl_divisor.mono _ _ _
   | exact impl_isThree.mono _ _
   | exact impl_twice.mono _ _
   | exact LeO.none _
   | refine LeO.ite ?_ ?_
   | refine LeO.bind ?_ (fun _ => ?_)
theorem impl_CircleOfThree.mono : ∀ a0 k, LeO (impl_CircleOfThree.f k a0) (impl_CircleOfThree.f (k + 1) a0) := by
 intro a0 k
 have ih0 := impl_CircleOfThree.mono_l k
 unfold impl_CircleOfThree.f
 repeat' first
   | (with_reducible exact ih0 _ _ _ _ _ _ _)
   | (with_reducible exact impl_divisor.mono _ _ _)
   | (with_reducible exact impl_isThree.mono _ _)
   | (with_reducible exact impl_twice.mono _ _)
   | (with_reducible exact LeO.refl _)
   | (with_reducible exact LeO.none _)
   | (with_reducible refine LeO.ite ?_ ?_)
   | (with_reducible refine LeO.bind ?_ (fun _ => ?_))
   | exact ih0 _ _ _ _ _ _ _
   | exact impl_divisor.mono _ _ _
   | exact impl_isThree.mono _ _
   | exact impl_twice.mono _ _
   | exact LeO.none _
   | refine LeO.ite ?_ ?_
   | refine LeO.bind ?_ (fun _ => ?_)
def impl_CircleOfThree.T8 : Bool × List (List Nat × List Nat) := (true, [([], []), ([], []), ([1], [1]), ([], []), ([3], [3]), ([2, 4], [2, 4]), ([0, 5], [0, 5]), ([], []), ([], []), ([8, 2], [8]), ([], []), ([10], [10]), ([9, 11], [9, 11]), ([7, 12], [7, 12]), ([6, 9, 0, 1, 2, 3, 4, 5, 6], [0, 6]), ([13, 14, 0, 1, 2, 3, 4, 5, 6, 7, 8, 9, 10, 11, 12, 13, 14], [7, 13])])
def impl_CircleOfThree.B8 : List Nat := [0, 0, 2, 0, 8, 30, 63, 0, 0, 262, 0, 1024, 3846, 8070, 895, 32767]
theorem impl_CircleOfThree.tab8 : rtab .any (opsOf Try.f55 8) = impl_CircleOfThree.T8 := by kernel_rfl
theorem impl_CircleOfThree.bits8 : waitsOk impl_CircleOfThree.T8.2 impl_CircleOfThree.B8 = true := by kernel_rfl
def impl_CircleOfThree.T11 : Bool × List (List Nat × List Nat) := (true, [([], []), ([], []), ([0, 1], [0, 1]), ([], []), ([], []), ([3, 4], [3, 4]), ([], []), ([], []), ([6, 7], [6, 7]), ([2, 0, 1, 2], [2]), ([5, 9, 0, 1, 2, 3, 4, 5, 9], [5]), ([8, 10, 0, 1, 2, 3, 4, 5, 6, 7, 8, 9, 10], [8]), ([11, 0, 1, 2, 3, 4, 5, 6, 7, 8, 9, 10, 11], [])])
def impl_CircleOfThree.B11 : List Nat := [0, 0, 3, 0, 0, 24, 0, 0, 192, 7, 575, 2047, 4095]
theorem impl_CircleOfThree.tab11 : rtab .any (opsOf Try.f55 11) = impl_CircleOfThree.T11 := by kernel_rfl
theorem impl_CircleOfThree.bits11 : waitsOk impl_CircleOfThree.T11.2 impl_CircleOfThree.B11 = true := by kernel_rfl
set_option maxHeartbeats 8000000 in
set_option maxRecDepth 100000 in
theorem impl_CircleOfThree.calls (k : Nat) (A0 : Option Addr) (c0 : Nat) (l0 : List (S_impl_Peg)) (r1 : Int) (r2 : Int) (r3 : Int) (r4 : Bool) (w : World) (hr0 : Kd.C kd_impl_Peg w A0 l0.length l0) (hc0 : l0.length ≤ c0) (h : impl_CircleOfThree.f k l0 = some (r1, r2, r3, r4)) :
  Calls Try.prog 55 #[.slice A0 l0.length c0] w fun e w' => e = .returned (.tuple #[.int .i64 r1, .int .i64 r2, .int .i64 r3, .bool r4]) ∧ Below w.heap.size w w' := by
 have hu34 := Try.underlying34
 have HR0 := aM hr0
 have HC0 := aM hc0
 clear hr0 hc0
 have HB := aM (Below.refl w.heap.size w)
 have H : ((impl_isThree.f k l0).bind fun t717 => (if t717 = true then ((impl_twice.f k l0).bind fun t718 => (impl_CircleOfThree.l0 k l0 0 0 (wrap64 (2 * t718)) l0 (l0.length : Int) 0)) else (some (0, 0, 0, false)))) = some (r1, r2, r3, r4) := h
 clear h
 replace H := oB.mp H
 obtain ⟨t717, A20, H⟩ := H
 replace H : (if t717 = true then ((impl_twice.f k l0).bind fun t718 => (impl_CircleOfThree.l0 k l0 0 0 (wrap64 (2 * t718)) l0 (l0.length : Int) 0)) else (some (0, 0, 0, false))) = some (r1, r2, r3, r4) := H
 have A2 := aM A20
 clear A20
 by_cases c3 : t717 = true
 ·subst c3
  have H1 : ((impl_twice.f k l0).bind fun t718 => (impl_CircleOfThree.l0 k l0 0 0 (wrap64 (2 * t718)) l0 (l0.length : Int) 0)) = some (r1, r2, r3, r4) := by rw [if_pos rfl] at H; exact H
  clear H
  have H := H1
  clear H1
  replace H := oB.mp H
  obtain ⟨t718, A40, H⟩ := H
  replace H : (impl_CircleOfThree.l0 k l0 0 0 (wrap64 (2 * t718)) l0 (l0.length : Int) 0) = some (r1, r2, r3, r4) := H
  have A4 := aM A40
  clear A40
  have H' := aM H
  clear H
  go_enter Try.func55, Try.ntmps55
  go_wp2_with (first | ((with_reducible refine gC (f := 96) rfl ?_); refine goesL_ (some 14) rfl rfl Try.func96 kR rfl #[.slice A0 l0.length c0] rfl sQ ?_; (with_reducible refine (impl_isThree.calls k _ _ l0 true _ ?side1 ?side2 A2.out).mono ?_); (case side1 => repeat (first | exact HR0.out | (with_reducible refine cA ?_ _) | (with_reducible refine cN ?_ _) | (with_reducible refine cD ?_))); (case side2 => exact HC0.out); rintro e w5 ⟨rfl, hb⟩; refine ⟨_, rfl, ?_⟩; have n0_ := aM (pT bQ hb); clear HB; have HB := n0_; clear n0_; (try clear hb); (try clear hb2); (try clear hk); (try clear hi)) | ((with_reducible refine gC (f := 111) rfl ?_); refine goesL_ (some 17) rfl rfl Try.func111 kR rfl #[.slice A0 l0.length c0] rfl sQ ?_; (with_reducible refine (impl_twice.calls k _ _ l0 t718 _ ?side1 ?side2 A4.out).mono ?_); (case side1 => repeat (first | exact (Kd.C_below HR0.out HB.out) | (with_reducible refine cA ?_ _) | (with_reducible refine cN ?_ _) | (with_reducible refine cD ?_))); (case side2 => exact HC0.out); rintro e w6 ⟨rfl, hb⟩; refine ⟨_, rfl, ?_⟩; have n0_ := aM (pT bQ hb); clear HB; have HB := n0_; clear n0_; (try clear hb); (try clear hb2); (try clear hk); (try clear hi)))
  go_loopg [6, 7, 21] k (fun kq v6 v7 v21 w' => ∃ (x6_1 : Int) (x7_1 : Int) (x21_1 : Int), v6 = .int .i64 x6_1 ∧ v7 = .int .i64 x7_1 ∧ v21 = .int .i64 x21_1 ∧ Aside0 (impl_CircleOfThree.l0 kq l0 x6_1 x7_1 (wrap64 (2 * t718)) l0 (l0.length : Int) x21_1 = some (r1, r2, r3, r4)) ∧ Aside0 (kq ≤ k) ∧ Aside0 (Below w.heap.size w w'))
  case atStart => exact ⟨(0), (0), (0), eQ, eQ, eQ, H', ⟨Nat.le_refl _⟩, ⟨bQ⟩⟩
  case round =>
   clear H'
   try clear c1
   try clear p2
   try clear c3
   try clear c5
   try clear p6
   obtain ⟨x6_1, x7_1, x21_1, rfl, rfl, rfl, HA, HK1, HB⟩ := hrel
   cases gk with
   | zero => exact absurd HA.out (by simp [impl_CircleOfThree.l0])
   | succ k1 =>
    have H := HA.out
    clear HA
    simp only [impl_CircleOfThree.l0] at H
    by_cases c7 : x21_1 < (l0.length : Int)
    ·rw [if_pos c7] at H
     have c7b0 : decide (x21_1 < (l0.length : Int)) = true := dE c7
     clear c7
     by_cases c8 : 0 ≤ x21_1
     ·rw [if_pos c8] at H
      have c8b0 : decide (0 ≤ x21_1) = true := dE c8
      clear c8
      by_cases c9 : x21_1 < (l0.length : Int)
      ·rw [if_pos c9] at H
       have c9b0 : decide (x21_1 < (l0.length : Int)) = true := dE c9
       clear c9
       replace H := oB.mp H
       obtain ⟨⟨t724, t725⟩, A100, H⟩ := H
       replace H : ((impl_at.f l0 (wrap64 (x21_1 + 2))).bind fun bt726 => ((impl_Peg_less.f t724 t725 bt726.1 bt726.2).bind fun bt728 => ((impl_Peg_square.f ((rd_impl_Peg l0 x21_1).f0) ((rd_impl_Peg l0 x21_1).f1)).bind fun t731 => ((impl_Peg_square.f ((rd_impl_Peg l0 x21_1).f0) ((rd_impl_Peg l0 x21_1).f1)).bind fun t732 => (impl_CircleOfThree.l0 k1 l0 (wrap64 (x6_1 + (wrap64 (t731 * bt728.2)))) (wrap64 (x7_1 - (wrap64 (t732 * bt728.1)))) (wrap64 (2 * t718)) l0 (l0.length : Int) (wrap64 (x21_1 + 1))))))) = some (r1, r2, r3, r4) := H
       have A10 := aM A100
       clear A100
       replace H := oB.mp H
       obtain ⟨⟨t726, t727⟩, A110, H⟩ := H
       replace H : ((impl_Peg_less.f t724 t725 t726 t727).bind fun bt728 => ((impl_Peg_square.f ((rd_impl_Peg l0 x21_1).f0) ((rd_impl_Peg l0 x21_1).f1)).bind fun t731 => ((impl_Peg_square.f ((rd_impl_Peg l0 x21_1).f0) ((rd_impl_Peg l0 x21_1).f1)).bind fun t732 => (impl_CircleOfThree.l0 k1 l0 (wrap64 (x6_1 + (wrap64 (t731 * bt728.2)))) (wrap64 (x7_1 - (wrap64 (t732 * bt728.1)))) (wrap64 (2 * t718)) l0 (l0.length : Int) (wrap64 (x21_1 + 1)))))) = some (r1, r2, r3, r4) := H
       have A11 := aM A110
       clear A110
       replace H := oB.mp H
       obtain ⟨⟨t728, t729⟩, A120, H⟩ := H
       replace H : ((impl_Peg_square.f ((rd_impl_Peg l0 x21_1).f0) ((rd_impl_Peg l0 x21_1).f1)).bind fun t731 => ((impl_Peg_square.f ((rd_impl_Peg l0 x21_1).f0) ((rd_impl_Peg l0 x21_1).f1)).bind fun t732 => (impl_CircleOfThree.l0 k1 l0 (wrap64 (x6_1 + (wrap64 (t731 * t729)))) (wrap64 (x7_1 - (wrap64 (t732 * t728)))) (wrap64 (2 * t718)) l0 (l0.length : Int) (wrap64 (x21_1 + 1))))) = some (r1, r2, r3, r4) := H
       have A12 := aM A120
       clear A120
       replace H := oB.mp H
       obtain ⟨t731, A130, H⟩ := H
       replace H : ((impl_Peg_square.f ((rd_impl_Peg l0 x21_1).f0) ((rd_impl_Peg l0 x21_1).f1)).bind fun t732 => (impl_CircleOfThree.l0 k1 l0 (wrap64 (x6_1 + (wrap64 (t731 * t729)))) (wrap64 (x7_1 - (wrap64 (t732 * t728)))) (wrap64 (2 * t718)) l0 (l0.length : Int) (wrap64 (x21_1 + 1)))) = some (r1, r2, r3, r4) := H
       have A13 := aM A130
       clear A130
       replace H := oB.mp H
       obtain ⟨t732, A140, H⟩ := H
       replace H : (impl_CircleOfThree.l0 k1 l0 (wrap64 (x6_1 + (wrap64 (t731 * t729)))) (wrap64 (x7_1 - (wrap64 (t732 * t728)))) (wrap64 (2 * t718)) l0 (l0.length : Int) (wrap64 (x21_1 + 1))) = some (r1, r2, r3, r4) := H
       have A14 := aM A140
       clear A140
       have H' := aM H
       clear H
       have p722 : 0 ≤ (x21_1 : Int) := dT aQ
       have q722 : x21_1 < (l0.length : Int) := dT aQ
       obtain ⟨ad722, e722, hx722_0, hx722_1⟩ := at_impl_Peg HR0.out x21_1 p722 q722
       cases e722
       replace hx722_0 := (HB.out.cell (wB w _ hx722_0)).trans hx722_0
       replace hx722_1 := (HB.out.cell (wB w _ hx722_1)).trans hx722_1
       replace p722 := eq_true p722
       replace q722 := eq_true q722
       try go_wp2_with (first | ((with_reducible refine gate_dst (N := 10) rfl ?_); refine box_event ?hg (N := 10) ?hd (cs := #[.int .i64 0, .int .i64 0]) (t := 34) ?hr ?_; (case hd => rfl); (case hg => rfl); (case hr => first | (go_simp; done) | (go_simp; rfl)); intro gb723 hg w15 hbox hb; have n0_ := aM (pT bQ hb); have n1_ := aM (hbox); have n2_ := aM ((by rw [hg]; exact (pZ bQ) : w.heap.size ≤ gb723)); have n3_ := aM ((by rw [hg]; exact (pZ bQ) : w.heap.size ≤ gb723)); clear HB; have HB := n0_; have BK723 := n1_; have GW723 := n2_; have GE723 := n3_; clear n0_ n1_ n2_ n3_; clear hb hbox hg; have hcz16_0 : w15.cell? ⟨gb723, 0, none⟩ = some (.int .i64 0) := (kC BK723.out 0).trans rfl; have hcz16_1 : w15.cell? ⟨gb723, 1, none⟩ = some (.int .i64 0) := (kC BK723.out 1).trans rfl; have hfz16_0 := kF BK723.out 0; have hfz16_1 := kF BK723.out 1) | ((with_reducible refine gC (f := 97) rfl ?_); refine goesL_ (some 29) rfl rfl Try.func97 kR rfl #[.slice (some ad722) l0.length c0, .int .i64 (wrap64 (x21_1 + 1))] rfl sQ ?_; (with_reducible refine (impl_at.calls _ _ l0 (wrap64 (x21_1 + 1)) t724 t725 _ ?side1 ?side2 A10.out).mono ?_); (case side1 => exact Kd.C_below HR0.out (by repeat (first | (with_reducible first | exact HB.out | apply pA | apply pN | apply pD | refine pS ?_ GE723.out) | exact HB.out))); (case side2 => exact HC0.out); rintro e w17 ⟨rfl, hb⟩; refine ⟨_, rfl, ?_⟩; have n0_ := aM (blk_below (g := gb723) (o := .cells #[.int .i64 ((rd_impl_Peg l0 x21_1).f0), .int .i64 ((rd_impl_Peg l0 x21_1).f1)] 34 (0, 0)) (by (with_reducible repeat (first | refine kN ?_ _ | refine kD ?_ | refine kA ?_ _)); refine blk_put (cs := #[.int .i64 ((rd_impl_Peg l0 x21_1).f0), .int .i64 0]) ?_ 1 _ rfl; (with_reducible repeat (first | refine kN ?_ _ | refine kD ?_ | refine kA ?_ _)); refine blk_put (cs := #[.int .i64 0, .int .i64 0]) ?_ 0 _ rfl; (with_reducible repeat (first | refine kN ?_ _ | refine kD ?_ | refine kA ?_ _)); exact BK723.out) hb); have n1_ := aM (pT (by repeat (first | (with_reducible first | exact HB.out | apply pA | apply pN | apply pD | refine pS ?_ GE723.out) | exact HB.out)) hb); clear BK723; clear HB; have BK723 := n0_; have HB := n1_; clear n0_ n1_; (try clear hb); (try clear hb2); (try clear hk); (try clear hi)) | ((with_reducible refine gC (f := 97) rfl ?_); refine goesL_ (some 33) rfl rfl Try.func97 kR rfl #[.slice (some ad722) l0.length c0, .int .i64 (wrap64 (x21_1 + 2))] rfl sQ ?_; (with_reducible refine (impl_at.calls _ _ l0 (wrap64 (x21_1 + 2)) t726 t727 _ ?side1 ?side2 A11.out).mono ?_); (case side1 => repeat (first | exact (Kd.C_below HR0.out HB.out) | (with_reducible refine cA ?_ _) | (with_reducible refine cN ?_ _) | (with_reducible refine cD ?_))); (case side2 => exact HC0.out); rintro e w18 ⟨rfl, hb⟩; refine ⟨_, rfl, ?_⟩; have n0_ := aM (blk_below (g := gb723) (o := .cells #[.int .i64 ((rd_impl_Peg l0 x21_1).f0), .int .i64 ((rd_impl_Peg l0 x21_1).f1)] 34 (0, 0)) (gQ BK723) hb); have n1_ := aM (pT (by repeat (first | (with_reducible first | exact HB.out | apply pA | apply pN | apply pD | refine pS ?_ GE723.out) | exact HB.out)) hb); clear BK723; clear HB; have BK723 := n0_; have HB := n1_; clear n0_ n1_; (try clear hb); (try clear hb2); (try clear hk); (try clear hi)) | ((with_reducible refine gC (f := 112) rfl ?_); refine goesL_ (some 34) rfl rfl Try.func112 kR rfl #[.agg #[.int .i64 t724, .int .i64 t725], .agg #[.int .i64 t726, .int .i64 t727]] rfl sQ ?_; (with_reducible refine (impl_Peg_less.calls t724 t725 t726 t727 t728 t729 _ A12.out).mono ?_); rintro e w19 ⟨rfl, hb⟩; refine ⟨_, rfl, ?_⟩; have n0_ := aM (blk_below (g := gb723) (o := .cells #[.int .i64 ((rd_impl_Peg l0 x21_1).f0), .int .i64 ((rd_impl_Peg l0 x21_1).f1)] 34 (0, 0)) (gQ BK723) hb); have n1_ := aM (pT (by repeat (first | (with_reducible first | exact HB.out | apply pA | apply pN | apply pD | refine pS ?_ GE723.out) | exact HB.out)) hb); clear BK723; clear HB; have BK723 := n0_; have HB := n1_; clear n0_ n1_; (try clear hb); (try clear hb2); (try clear hk); (try clear hi)) | ((with_reducible refine gate_dst (N := 11) rfl ?_); refine box_event ?hg (N := 11) ?hd (cs := #[.int .i64 0, .int .i64 0]) (t := 34) ?hr ?_; (case hd => rfl); (case hg => rfl); (case hr => first | (go_simp; done) | (go_simp; rfl)); intro gb730 hg w20 hbox hb; have n0_ := aM (blk_below (g := gb723) (o := .cells #[.int .i64 ((rd_impl_Peg l0 x21_1).f0), .int .i64 ((rd_impl_Peg l0 x21_1).f1)] 34 (0, 0)) (gQ BK723) hb); have n1_ := aM (pT (by repeat (first | (with_reducible first | exact HB.out | apply pA | apply pN | apply pD | refine pS ?_ GE723.out) | exact HB.out)) hb); have n2_ := aM (hbox); have n3_ := aM ((by rw [hg]; exact (pZ (by repeat (first | (with_reducible first | exact HB.out | apply pA | apply pN | apply pD | refine pS ?_ GE723.out) | exact HB.out))) : w.heap.size ≤ gb730)); have n4_ := aM ((by rw [hg]; exact (pZ (by repeat (first | (with_reducible first | exact HB.out | apply pA | apply pN | apply pD | refine pS ?_ GE723.out) | exact HB.out))) : w.heap.size ≤ gb730)); have n5_ := aM ((by rw [hg]; exact nN (blk_lt (g := gb723) (o := .cells #[.int .i64 ((rd_impl_Peg l0 x21_1).f0), .int .i64 ((rd_impl_Peg l0 x21_1).f1)] 34 (0, 0)) (gQ BK723)) : gb723 ≠ gb730)); have n6_ := aM ((by rw [hg]; exact Nat.ne_of_gt (blk_lt (g := gb723) (o := .cells #[.int .i64 ((rd_impl_Peg l0 x21_1).f0), .int .i64 ((rd_impl_Peg l0 x21_1).f1)] 34 (0, 0)) (gQ BK723)) : gb730 ≠ gb723)); clear BK723; clear HB; have BK723 := n0_; have HB := n1_; have BK730 := n2_; have GW730 := n3_; have GE730 := n4_; have NB723_730 := n5_; have NB730_723 := n6_; clear n0_ n1_ n2_ n3_ n4_ n5_ n6_; clear hb hbox hg; have hnb21 := NB730_723.out; have hnc21 := NB723_730.out; have hcz22_0 : w20.cell? ⟨gb730, 0, none⟩ = some (.int .i64 0) := (kC BK730.out 0).trans rfl; have hcz22_1 : w20.cell? ⟨gb730, 1, none⟩ = some (.int .i64 0) := (kC BK730.out 1).trans rfl; have hfz22_0 := kF BK730.out 0; have hfz22_1 := kF BK730.out 1))
       have n0_ : Aside0 (((w20.setCell ⟨gb730, 0, none⟩ (.int .i64 t728)).setCell ⟨gb730, 1, none⟩ (.int .i64 t729)).heap[gb723]? = some (.cells #[.int .i64 ((rd_impl_Peg l0 x21_1).f0), .int .i64 ((rd_impl_Peg l0 x21_1).f1)] 34 (0, 0))) := ⟨by (with_reducible repeat (first | refine kN ?_ _ | refine kD ?_ | refine kA ?_ _)); refine blk_far ?_ NB723_730.out _; (with_reducible repeat (first | refine kN ?_ _ | refine kD ?_ | refine kA ?_ _)); refine blk_far ?_ NB723_730.out _; (with_reducible repeat (first | refine kN ?_ _ | refine kD ?_ | refine kA ?_ _)); exact BK723.out⟩
       have n1_ : Aside0 (((w20.setCell ⟨gb730, 0, none⟩ (.int .i64 t728)).setCell ⟨gb730, 1, none⟩ (.int .i64 t729)).heap[gb730]? = some (.cells #[.int .i64 t728, .int .i64 t729] 34 (0, 0))) := ⟨by (with_reducible repeat (first | refine kN ?_ _ | refine kD ?_ | refine kA ?_ _)); refine blk_put (cs := #[.int .i64 t728, .int .i64 0]) ?_ 1 _ rfl; (with_reducible repeat (first | refine kN ?_ _ | refine kD ?_ | refine kA ?_ _)); refine blk_put (cs := #[.int .i64 0, .int .i64 0]) ?_ 0 _ rfl; (with_reducible repeat (first | refine kN ?_ _ | refine kD ?_ | refine kA ?_ _)); exact BK730.out⟩
       have n2_ : Aside0 (Below w.heap.size w ((w20.setCell ⟨gb730, 0, none⟩ (.int .i64 t728)).setCell ⟨gb730, 1, none⟩ (.int .i64 t729))) := ⟨by repeat (first | (with_reducible first | exact HB.out | apply pA | apply pN | apply pD | refine pS ?_ GE723.out | refine pS ?_ GE730.out) | exact HB.out)⟩
       (try clear BK723)
       (try clear BK730)
       (try clear HB)
       generalize ((w20.setCell ⟨gb730, 0, none⟩ (.int .i64 t728)).setCell ⟨gb730, 1, none⟩ (.int .i64 t729)) = w23 at n0_ n1_ n2_ ⊢
       have BK723 := n0_
       have BK730 := n1_
       have HB := n2_
       clear n0_ n1_ n2_
       have n0_ := aM (kD BK723.out)
       have n1_ := aM (kD BK730.out)
       have n2_ := aM (pD HB.out)
       clear BK723
       clear BK730
       clear HB
       have BK723 := n0_
       have BK730 := n1_
       have HB := n2_
       clear n0_ n1_ n2_
       refine start_ (n := 16) (S := fun w' => w'.cell? ⟨gb723, 0, none⟩ = some (.int .i64 ((rd_impl_Peg l0 x21_1).f0)) ∧ w'.cell? ⟨gb723, 1, none⟩ = some (.int .i64 ((rd_impl_Peg l0 x21_1).f1)) ∧ w'.cell? ⟨gb730, 0, none⟩ = some (.int .i64 t728) ∧ w'.cell? ⟨gb730, 1, none⟩ = some (.int .i64 t729)) (ds := []) #[false, false, false, false, false, false, false, false, false, false, false, false, false, false, false, false] kR rfl rfl ⟨(kC BK723.out 0).trans rfl, (kC BK723.out 1).trans rfl, (kC BK730.out 0).trans rfl, (kC BK730.out 1).trans rfl⟩ (fun hHeld => ?_); refine with_tabW impl_CircleOfThree.tab8 impl_CircleOfThree.bits8 (fun HT_ HW_ => ?_)
       generalize w23.drew = w24 at BK723 BK730 HB hHeld ⊢
       refine pure_ (i := 0) (N := some 35) (v := ?_) (a' := ?_) #[true, false, false, false, false, false, false, false, false, false, false, false, false, false, false, false] rfl rfl (any_of HT_.out kR) (fun _ _ _ h => h) (Or.inl ⟨by rfl, ?_⟩) ?_ ?_
       rotate_left
       ·intro w'
        go_simp
        with_reducible rfl
       rotate_left
       ·simp only [Act.put, sI, sZ, sS, i64_w, i32_w]
        rfl
       refine pure_ (i := 3) (N := some 38) (v := ?_) (a' := ?_) #[true, false, false, true, false, false, false, false, false, false, false, false, false, false, false, false] rfl rfl (any_of HT_.out kR) (fun _ _ _ h => h) (Or.inl ⟨by rfl, ?_⟩) ?_ ?_
       rotate_left
       ·intro w'
        go_simp
        with_reducible rfl
       rotate_left
       ·simp only [Act.put, sI, sZ, sS, i64_w, i32_w]
        rfl
       refine pure_ (i := 7) (N := some 42) (v := ?_) (a' := ?_) #[true, false, false, true, false, false, false, true, false, false, false, false, false, false, false, false] rfl rfl (any_of HT_.out kR) (fun _ _ _ h => h) (Or.inl ⟨by rfl, ?_⟩) ?_ ?_
       rotate_left
       ·intro w'
        go_simp
        with_reducible rfl
       rotate_left
       ·simp only [Act.put, sI, sZ, sS, i64_w, i32_w]
        rfl
       refine pure_ (i := 10) (N := some 45) (v := ?_) (a' := ?_) #[true, false, false, true, false, false, false, true, false, false, true, false, false, false, false, false] rfl rfl (any_of HT_.out kR) (fun _ _ _ h => h) (Or.inl ⟨by rfl, ?_⟩) ?_ ?_
       rotate_left
       ·intro w'
        go_simp
        with_reducible rfl
       rotate_left
       ·simp only [Act.put, sI, sZ, sS, i64_w, i32_w]
        rfl
       refine take_ (i := 1) (N := some 36) (v := ?_) (a' := ?_) #[true, true, false, true, false, false, false, true, false, false, true, false, false, false, false, false] rfl rfl (take_ofW HT_.out HW_.out kR) (fun _ _ _ h => h) (Or.inl ⟨by rfl, ?_⟩) hHeld ?_ ?_
       rotate_left
       ·rintro w' ⟨s0, s1, s2, s3⟩
        go_simp
        with_reducible rfl
       rotate_left
       ·simp only [Act.put, sI, sZ, sS, i64_w, i32_w]
        rfl
       refine take_ (i := 4) (N := some 39) (v := ?_) (a' := ?_) #[true, true, false, true, true, false, false, true, false, false, true, false, false, false, false, false] rfl rfl (take_ofW HT_.out HW_.out kR) (fun _ _ _ h => h) (Or.inl ⟨by rfl, ?_⟩) hHeld ?_ ?_
       rotate_left
       ·rintro w' ⟨s0, s1, s2, s3⟩
        go_simp
        with_reducible rfl
       rotate_left
       ·simp only [Act.put, sI, sZ, sS, i64_w, i32_w]
        rfl
       refine take_ (i := 8) (N := some 43) (v := ?_) (a' := ?_) #[true, true, false, true, true, false, false, true, true, false, true, false, false, false, false, false] rfl rfl (take_ofW HT_.out HW_.out kR) (fun _ _ _ h => h) (Or.inl ⟨by rfl, ?_⟩) hHeld ?_ ?_
       rotate_left
       ·rintro w' ⟨s0, s1, s2, s3⟩
        go_simp
        with_reducible rfl
       rotate_left
       ·simp only [Act.put, sI, sZ, sS, i64_w, i32_w]
        rfl
       refine take_ (i := 11) (N := some 46) (v := ?_) (a' := ?_) #[true, true, false, true, true, false, false, true, true, false, true, true, false, false, false, false] rfl rfl (take_ofW HT_.out HW_.out kR) (fun _ _ _ h => h) (Or.inl ⟨by rfl, ?_⟩) hHeld ?_ ?_
       rotate_left
       ·rintro w' ⟨s0, s1, s2, s3⟩
        go_simp
        with_reducible rfl
       rotate_left
       ·simp only [Act.put, sI, sZ, sS, i64_w, i32_w]
        rfl
       refine one_ (i := 2) (N := some 37) #[true, true, true, true, true, false, false, true, true, false, true, true, false, false, false, false] rfl rfl (one_of HT_.out kR) (by decide) (fun K hK => ?_)
       refine goes_ Try.func113 kR rfl #[.agg #[.int .i64 ((rd_impl_Peg l0 x21_1).f0), .int .i64 ((rd_impl_Peg l0 x21_1).f1)]] (by rfl) rfl rfl sQ ?_
       with_reducible refine (impl_Peg_square.calls ((rd_impl_Peg l0 x21_1).f0) ((rd_impl_Peg l0 x21_1).f1) t731 _ A13.out).mono ?_
       rintro e w25 ⟨rfl, hb⟩
       refine ⟨_, rfl, ?_⟩
       have n0_ := aM (blk_below (g := gb723) (o := .cells #[.int .i64 ((rd_impl_Peg l0 x21_1).f0), .int .i64 ((rd_impl_Peg l0 x21_1).f1)] 34 (0, 0)) (gQ BK723) hb)
       have n1_ := aM (blk_below (g := gb730) (o := .cells #[.int .i64 t728, .int .i64 t729] 34 (0, 0)) (gQ BK730) hb)
       have n2_ := aM (pT (by repeat (first | (with_reducible first | exact HB.out | apply pA | apply pN | apply pD | refine pS ?_ GE723.out | refine pS ?_ GE730.out) | exact HB.out)) hb)
       clear BK723
       clear BK730
       clear HB
       have BK723 := n0_
       have BK730 := n1_
       have HB := n2_
       clear n0_ n1_ n2_
       (try clear hb)
       (try clear hb2)
       (try clear hk)
       (try clear hi)
       refine hK.out _ _ ⟨(kC BK723.out 0).trans rfl, (kC BK723.out 1).trans rfl, (kC BK730.out 0).trans rfl, (kC BK730.out 1).trans rfl⟩ (fun hHeld => ?_)
       clear hK K
       refine norm_ (a' := ?_) ?_ ?_
       rotate_left
       ·show Act.put _ (some 37) _ = _
        simp only [Act.put, sI, sZ, sS, i64_w, i32_w]
        rfl
       refine pure_ (i := 5) (N := some 40) (v := ?_) (a' := ?_) #[true, true, true, true, true, true, false, true, true, false, true, true, false, false, false, false] rfl rfl (any_of HT_.out kR) (fun _ _ _ h => h) (Or.inl ⟨by rfl, ?_⟩) ?_ ?_
       rotate_left
       ·intro w'
        go_simp
        with_reducible rfl
       rotate_left
       ·simp only [Act.put, sI, sZ, sS, i64_w, i32_w]
        rfl
       refine pure_ (i := 6) (N := some 41) (v := ?_) (a' := ?_) #[true, true, true, true, true, true, true, true, true, false, true, true, false, false, false, false] rfl rfl (any_of HT_.out kR) (fun _ _ _ h => h) (Or.inl ⟨by rfl, ?_⟩) ?_ ?_
       rotate_left
       ·intro w'
        go_simp
        with_reducible rfl
       rotate_left
       ·simp only [Act.put, sI, sZ, sS, i64_w, i32_w]
        rfl
       refine one_ (i := 9) (N := some 44) #[true, true, true, true, true, true, true, true, true, true, true, true, false, false, false, false] rfl rfl (one_of HT_.out kR) (by decide) (fun K hK => ?_)
       refine goes_ Try.func113 kR rfl #[.agg #[.int .i64 ((rd_impl_Peg l0 x21_1).f0), .int .i64 ((rd_impl_Peg l0 x21_1).f1)]] (by rfl) rfl rfl sQ ?_
       with_reducible refine (impl_Peg_square.calls ((rd_impl_Peg l0 x21_1).f0) ((rd_impl_Peg l0 x21_1).f1) t732 _ A14.out).mono ?_
       rintro e w26 ⟨rfl, hb⟩
       refine ⟨_, rfl, ?_⟩
       have n0_ := aM (blk_below (g := gb723) (o := .cells #[.int .i64 ((rd_impl_Peg l0 x21_1).f0), .int .i64 ((rd_impl_Peg l0 x21_1).f1)] 34 (0, 0)) (gQ BK723) hb)
       have n1_ := aM (blk_below (g := gb730) (o := .cells #[.int .i64 t728, .int .i64 t729] 34 (0, 0)) (gQ BK730) hb)
       have n2_ := aM (pT (by repeat (first | (with_reducible first | exact HB.out | apply pA | apply pN | apply pD | refine pS ?_ GE723.out | refine pS ?_ GE730.out) | exact HB.out)) hb)
       clear BK723
       clear BK730
       clear HB
       have BK723 := n0_
       have BK730 := n1_
       have HB := n2_
       clear n0_ n1_ n2_
       (try clear hb)
       (try clear hb2)
       (try clear hk)
       (try clear hi)
       refine hK.out _ _ ⟨(kC BK723.out 0).trans rfl, (kC BK723.out 1).trans rfl, (kC BK730.out 0).trans rfl, (kC BK730.out 1).trans rfl⟩ (fun hHeld => ?_)
       clear hK K
       refine norm_ (a' := ?_) ?_ ?_
       rotate_left
       ·show Act.put _ (some 44) _ = _
        simp only [Act.put, sI, sZ, sS, i64_w, i32_w]
        rfl
       refine pure_ (i := 12) (N := some 47) (v := ?_) (a' := ?_) #[true, true, true, true, true, true, true, true, true, true, true, true, true, false, false, false] rfl rfl (any_of HT_.out kR) (fun _ _ _ h => h) (Or.inl ⟨by rfl, ?_⟩) ?_ ?_
       rotate_left
       ·intro w'
        go_simp
        with_reducible rfl
       rotate_left
       ·simp only [Act.put, sI, sZ, sS, i64_w, i32_w]
        rfl
       refine pure_ (i := 13) (N := some 48) (v := ?_) (a' := ?_) #[true, true, true, true, true, true, true, true, true, true, true, true, true, true, false, false] rfl rfl (any_of HT_.out kR) (fun _ _ _ h => h) (Or.inl ⟨by rfl, ?_⟩) ?_ ?_
       rotate_left
       ·intro w'
        go_simp
        with_reducible rfl
       rotate_left
       ·simp only [Act.put, sI, sZ, sS, i64_w, i32_w]
        rfl
       refine pure_ (i := 14) (N := some 6) (v := ?_) (a' := ?_) #[true, true, true, true, true, true, true, true, true, true, true, true, true, true, true, false] rfl rfl (any_of HT_.out kR) (fun _ _ _ h => h) (Or.inl ⟨by rfl, ?_⟩) ?_ ?_
       rotate_left
       ·intro w'
        go_simp
        with_reducible rfl
       rotate_left
       ·simp only [Act.put, sI, sZ, sS, i64_w, i32_w]
        rfl
       refine pure_ (i := 15) (N := some 7) (v := ?_) (a' := ?_) #[true, true, true, true, true, true, true, true, true, true, true, true, true, true, true, true] rfl rfl (any_of HT_.out kR) (fun _ _ _ h => h) (Or.inl ⟨by rfl, ?_⟩) ?_ ?_
       rotate_left
       ·intro w'
        go_simp
        with_reducible rfl
       rotate_left
       ·simp only [Act.put, sI, sZ, sS, i64_w, i32_w]
        rfl
       refine done_ (done_of HT_.out kR) ?_
       try go_wp2
       go_roundg k1
       case measure => have := HK1.out; omega
       case rel => exact ⟨(wrap64 (x6_1 + (wrap64 (t731 * t729)))), (wrap64 (x7_1 - (wrap64 (t732 * t728)))), (wrap64 (x21_1 + 1)), eQ, eQ, eQ, H', ⟨by have := HK1.out; omega⟩, ⟨by repeat (first | (with_reducible first | exact HB.out | apply pA | apply pN | apply pD | refine pS ?_ GE723.out | refine pS ?_ GE730.out) | exact HB.out)⟩⟩
      ·rw [if_neg c9] at H
       exact absurd H (by simp)
     ·rw [if_neg c8] at H
      exact absurd H (by simp)
    ·rw [if_neg c7] at H
     have c7b0 : decide (x21_1 < (l0.length : Int)) = false := decide_eq_false c7
     clear c7
     replace H := oB.mp H
     obtain ⟨t719, A270, H⟩ := H
     replace H : ((impl_divisor.f k1 t719 (wrap64 (2 * t718))).bind fun t720 => ((impl_sign.f (wrap64 (2 * t718))).bind fun t721 => (if (wrap64 (t720 * t721)) = 0 then (none) else (some (wrap64 (Int.tdiv x6_1 (wrap64 (t720 * t721))), wrap64 (Int.tdiv x7_1 (wrap64 (t720 * t721))), wrap64 (Int.tdiv (wrap64 (2 * t718)) (wrap64 (t720 * t721))), true))))) = some (r1, r2, r3, r4) := H
     have A27 := aM A270
     clear A270
     replace H := oB.mp H
     obtain ⟨t720, A280, H⟩ := H
     replace H : ((impl_sign.f (wrap64 (2 * t718))).bind fun t721 => (if (wrap64 (t720 * t721)) = 0 then (none) else (some (wrap64 (Int.tdiv x6_1 (wrap64 (t720 * t721))), wrap64 (Int.tdiv x7_1 (wrap64 (t720 * t721))), wrap64 (Int.tdiv (wrap64 (2 * t718)) (wrap64 (t720 * t721))), true)))) = some (r1, r2, r3, r4) := H
     have A28 := aM A280
     clear A280
     replace H := oB.mp H
     obtain ⟨t721, A290, H⟩ := H
     replace H : (if (wrap64 (t720 * t721)) = 0 then (none) else (some (wrap64 (Int.tdiv x6_1 (wrap64 (t720 * t721))), wrap64 (Int.tdiv x7_1 (wrap64 (t720 * t721))), wrap64 (Int.tdiv (wrap64 (2 * t718)) (wrap64 (t720 * t721))), true))) = some (r1, r2, r3, r4) := H
     have A29 := aM A290
     clear A290
     by_cases c30 : (wrap64 (t720 * t721)) = 0
     ·rw [if_pos c30] at H
      exact absurd H (by simp)
     ·rw [if_neg c30] at H
      have c30b0 : ((wrap64 (t720 * t721)) == 0) = false := beq_eq_false_iff_ne.mpr c30
      have c30b1 : ((wrap64 (t720 * t721)) != 0) = true := bne_iff_ne.mpr c30
      simp only [Option.some.injEq, Prod.mk.injEq] at H
      obtain ⟨rfl, rfl, rfl, rfl⟩ := H
      try go_wp2_with (first | ((with_reducible refine gC (f := 114) rfl ?_); refine goesL_ (some 52) rfl rfl Try.func114 kR rfl #[.int .i64 x6_1, .int .i64 x7_1] rfl sQ ?_; (with_reducible refine (impl_divisor.calls k1 x6_1 x7_1 t719 _ A27.out).mono ?_); rintro e w31 ⟨rfl, hb⟩; refine ⟨_, rfl, ?_⟩; have n0_ := aM (pT bQ hb); clear HB; have HB := n0_; clear n0_; (try clear hb); (try clear hb2); (try clear hk); (try clear hi)) | ((with_reducible refine gC (f := 114) rfl ?_); refine goesL_ (some 54) rfl rfl Try.func114 kR rfl #[.int .i64 t719, .int .i64 (wrap64 (2 * t718))] rfl sQ ?_; (with_reducible refine (impl_divisor.calls k1 t719 (wrap64 (2 * t718)) t720 _ A28.out).mono ?_); rintro e w32 ⟨rfl, hb⟩; refine ⟨_, rfl, ?_⟩; have n0_ := aM (pT bQ hb); clear HB; have HB := n0_; clear n0_; (try clear hb); (try clear hb2); (try clear hk); (try clear hi)) | ((with_reducible refine gC (f := 115) rfl ?_); refine goesL_ (some 56) rfl rfl Try.func115 kR rfl #[.int .i64 (wrap64 (2 * t718))] rfl sQ ?_; (with_reducible refine (impl_sign.calls (wrap64 (2 * t718)) t721 _ A29.out).mono ?_); rintro e w33 ⟨rfl, hb⟩; refine ⟨_, rfl, ?_⟩; have n0_ := aM (pT bQ hb); clear HB; have HB := n0_; clear n0_; (try clear hb); (try clear hb2); (try clear hk); (try clear hi)))
      have n0_ := aM (pD HB.out)
      clear HB
      have HB := n0_
      clear n0_
      refine start_ (n := 13) (S := fun w' => True) (ds := []) #[false, false, false, false, false, false, false, false, false, false, false, false, false] kR rfl rfl trivial (fun hHeld => ?_); refine with_tabW impl_CircleOfThree.tab11 impl_CircleOfThree.bits11 (fun HT_ HW_ => ?_)
      generalize w33.drew = w34 at HB hHeld ⊢
      refine pure_ (i := 0) (N := some 58) (v := ?_) (a' := ?_) #[true, false, false, false, false, false, false, false, false, false, false, false, false] rfl rfl (any_of HT_.out kR) (fun _ _ _ h => h) (Or.inl ⟨by rfl, ?_⟩) ?_ ?_
      rotate_left
      ·intro w'
       go_simp
       with_reducible rfl
      rotate_left
      ·simp only [Act.put, sI, sZ, sS, i64_w, i32_w]
       rfl
      refine pure_ (i := 1) (N := some 59) (v := ?_) (a' := ?_) #[true, true, false, false, false, false, false, false, false, false, false, false, false] rfl rfl (any_of HT_.out kR) (fun _ _ _ h => h) (Or.inl ⟨by rfl, ?_⟩) ?_ ?_
      rotate_left
      ·intro w'
       go_simp
       with_reducible rfl
      rotate_left
      ·simp only [Act.put, sI, sZ, sS, i64_w, i32_w]
       rfl
      refine pure_ (i := 2) (N := some 60) (v := ?_) (a' := ?_) #[true, true, true, false, false, false, false, false, false, false, false, false, false] rfl rfl (any_of HT_.out kR) (fun _ _ _ h => h) (Or.inl ⟨by rfl, ?_⟩) ?_ ?_
      rotate_left
      ·intro w'
       go_simp
       with_reducible rfl
      rotate_left
      ·simp only [Act.put, sI, sZ, sS, i64_w, i32_w]
       rfl
      refine pure_ (i := 3) (N := some 61) (v := ?_) (a' := ?_) #[true, true, true, true, false, false, false, false, false, false, false, false, false] rfl rfl (any_of HT_.out kR) (fun _ _ _ h => h) (Or.inl ⟨by rfl, ?_⟩) ?_ ?_
      rotate_left
      ·intro w'
       go_simp
       with_reducible rfl
      rotate_left
      ·simp only [Act.put, sI, sZ, sS, i64_w, i32_w]
       rfl
      refine pure_ (i := 4) (N := some 62) (v := ?_) (a' := ?_) #[true, true, true, true, true, false, false, false, false, false, false, false, false] rfl rfl (any_of HT_.out kR) (fun _ _ _ h => h) (Or.inl ⟨by rfl, ?_⟩) ?_ ?_
      rotate_left
      ·intro w'
       go_simp
       with_reducible rfl
      rotate_left
      ·simp only [Act.put, sI, sZ, sS, i64_w, i32_w]
       rfl
      refine pure_ (i := 5) (N := some 63) (v := ?_) (a' := ?_) #[true, true, true, true, true, true, false, false, false, false, false, false, false] rfl rfl (any_of HT_.out kR) (fun _ _ _ h => h) (Or.inl ⟨by rfl, ?_⟩) ?_ ?_
      rotate_left
      ·intro w'
       go_simp
       with_reducible rfl
      rotate_left
      ·simp only [Act.put, sI, sZ, sS, i64_w, i32_w]
       rfl
      refine pure_ (i := 6) (N := some 64) (v := ?_) (a' := ?_) #[true, true, true, true, true, true, true, false, false, false, false, false, false] rfl rfl (any_of HT_.out kR) (fun _ _ _ h => h) (Or.inl ⟨by rfl, ?_⟩) ?_ ?_
      rotate_left
      ·intro w'
       go_simp
       with_reducible rfl
      rotate_left
      ·simp only [Act.put, sI, sZ, sS, i64_w, i32_w]
       rfl
      refine pure_ (i := 7) (N := some 65) (v := ?_) (a' := ?_) #[true, true, true, true, true, true, true, true, false, false, false, false, false] rfl rfl (any_of HT_.out kR) (fun _ _ _ h => h) (Or.inl ⟨by rfl, ?_⟩) ?_ ?_
      rotate_left
      ·intro w'
       go_simp
       with_reducible rfl
      rotate_left
      ·simp only [Act.put, sI, sZ, sS, i64_w, i32_w]
       rfl
      refine pure_ (i := 8) (N := some 66) (v := ?_) (a' := ?_) #[true, true, true, true, true, true, true, true, true, false, false, false, false] rfl rfl (any_of HT_.out kR) (fun _ _ _ h => h) (Or.inl ⟨by rfl, ?_⟩) ?_ ?_
      rotate_left
      ·intro w'
       go_simp
       with_reducible rfl
      rotate_left
      ·simp only [Act.put, sI, sZ, sS, i64_w, i32_w]
       rfl
      refine pure_ (i := 9) (N := some 2) (v := ?_) (a' := ?_) #[true, true, true, true, true, true, true, true, true, true, false, false, false] rfl rfl (any_of HT_.out kR) (fun _ _ _ h => h) (Or.inl ⟨by rfl, ?_⟩) ?_ ?_
      rotate_left
      ·intro w'
       go_simp
       with_reducible rfl
      rotate_left
      ·simp only [Act.put, sI, sZ, sS, i64_w, i32_w]
       rfl
      refine pure_ (i := 10) (N := some 3) (v := ?_) (a' := ?_) #[true, true, true, true, true, true, true, true, true, true, true, false, false] rfl rfl (any_of HT_.out kR) (fun _ _ _ h => h) (Or.inl ⟨by rfl, ?_⟩) ?_ ?_
      rotate_left
      ·intro w'
       go_simp
       with_reducible rfl
      rotate_left
      ·simp only [Act.put, sI, sZ, sS, i64_w, i32_w]
       rfl
      refine pure_ (i := 11) (N := some 4) (v := ?_) (a' := ?_) #[true, true, true, true, true, true, true, true, true, true, true, true, false] rfl rfl (any_of HT_.out kR) (fun _ _ _ h => h) (Or.inl ⟨by rfl, ?_⟩) ?_ ?_
      rotate_left
      ·intro w'
       go_simp
       with_reducible rfl
      rotate_left
      ·simp only [Act.put, sI, sZ, sS, i64_w, i32_w]
       rfl
      refine pure_ (i := 12) (N := some 5) (v := ?_) (a' := ?_) #[true, true, true, true, true, true, true, true, true, true, true, true, true] rfl rfl (any_of HT_.out kR) (fun _ _ _ h => h) (Or.inl ⟨by rfl, ?_⟩) ?_ ?_
      rotate_left
      ·intro w'
       go_simp
       with_reducible rfl
      rotate_left
      ·simp only [Act.put, sI, sZ, sS, i64_w, i32_w]
       rfl
      refine done_ (done_of HT_.out kR) ?_
      try go_wp2
      refine bodyPost_ret (results_list (rs := [.tmp 2, .tmp 3, .tmp 4, .tmp 5]) rfl (by simp) (.tmp (.tmp (.tmp (.tmp .nil))))) rfl ?_
      exact ⟨by first | rfl | (simp [errW_none, errW_some] <;> rfl) | (simp [*, errW_none, errW_some] <;> rfl), bQ⟩
 ·replace c3 := Bool.eq_false_iff.mpr c3
  subst c3
  have H1 : (some (0, 0, 0, false)) = some (r1, r2, r3, r4) := by rw [if_neg (show ¬ (false = true) by decide)] at H; exact H
  clear H
  have H := H1
  clear H1
  simp only [Option.some.injEq, Prod.mk.injEq] at H
  obtain ⟨rfl, rfl, rfl, rfl⟩ := H
  go_enter Try.func55, Try.ntmps55
  go_wp2_with (first | ((with_reducible refine gC (f := 96) rfl ?_); refine goesL_ (some 14) rfl rfl Try.func96 kR rfl #[.slice A0 l0.length c0] rfl sQ ?_; (with_reducible refine (impl_isThree.calls k _ _ l0 false _ ?side1 ?side2 A2.out).mono ?_); (case side1 => repeat (first | exact HR0.out | (with_reducible refine cA ?_ _) | (with_reducible refine cN ?_ _) | (with_reducible refine cD ?_))); (case side2 => exact HC0.out); rintro e w35 ⟨rfl, hb⟩; refine ⟨_, rfl, ?_⟩; have n0_ := aM (pT bQ hb); clear HB; have HB := n0_; clear n0_; (try clear hb); (try clear hb2); (try clear hk); (try clear hi)))
  refine bodyPost_ret (results_list (rs := [.tmp 2, .tmp 3, .tmp 4, .tmp 5]) rfl (by simp) (.tmp (.tmp (.tmp (.tmp .nil))))) rfl ?_
  exact ⟨by first | rfl | (simp [errW_none, errW_some] <;> rfl) | (simp [*, errW_none, errW_some] <;> rfl), bQ⟩

end Go.Proofs.Ytiacfkilmknldaa.X
