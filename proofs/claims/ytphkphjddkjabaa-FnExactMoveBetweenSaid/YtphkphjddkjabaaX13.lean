-- thin
-- short
-- compact
import Derived.Test.YtphkphjddkjabaaXA
import Derived.Test.YtphkphjddkjabaaX0
namespace Go.Proofs.Ytphkphjddkjabaa.X
open Go.RowKit Go.Proofs.Ytphkphjddkjabaa.XW Go.Proofs.YtphkphjddkjabaaW.PrintWords Go.Proofs.YtphkphjddkjabaaW.PrintLast Go.Proofs.YtphkphjddkjabaaW.PrintMore
attribute [local go_sem] max2_int min2_int max_two min_two max_three min_three max_four min_four   -- for this text's walks alone
set_option linter.unusedVariables false
set_option linter.unusedSimpArgs false

def impl_bezout.l0 : Nat → Int → Int → Int → Int → Int → Int → Option (Int × Int × Int)
 | 0, _, _, _, _, _, _ => none
 | k + 1, x0, x1, x7, x8, x9, x10 => if x1 = 0 then (some (x0, x7, x8)) else (impl_bezout.l0 k x1 (wrap64 (x0 - (wrap64 ((wrap64 (Int.tdiv x0 x1)) * x1)))) x9 x10 (wrap64 (x7 - (wrap64 ((wrap64 (Int.tdiv x0 x1)) * x9)))) (wrap64 (x8 - (wrap64 ((wrap64 (Int.tdiv x0 x1)) * x10)))))
def impl_bezout.f (k : Nat) (a0 : Int) (a1 : Int) : Option (Int × Int × Int) := impl_bezout.l0 k a0 a1 1 0 0 1
theorem impl_bezout.mono_l : ∀ k, (∀ y0 y1 y2 y3 y4 y5, LeO (impl_bezout.l0 k y0 y1 y2 y3 y4 y5) (impl_bezout.l0 (k + 1) y0 y1 y2 y3 y4 y5))
 | 0 => fun _ _ _ _ _ _ r h => by simp [impl_bezout.l0] at h
 | k + 1 => by
  have ih0 := impl_bezout.mono_l k
  ·intro y0 y1 y2 y3 y4 y5
   unfold impl_bezout.l0
   repeat' first
   | (with_reducible exact ih0 _ _ _ _ _ _)
   | (with_reducible exact LeO.refl _)
   | (with_reducible exact LeO.none _)
   | (with_reducible refine LeO.ite ?_ ?_)
   | (with_reducible refine LeO.bind ?_ (fun _ => ?_))
   | exact ih0 _ _ _ _ _ _
   | exact LeO.none _
   | refine LeO.ite ?_ ?_
   | refine LeO.bind ?_ (fun _ => ?_)
theorem impl_bezout.mono : ∀ a0 a1 k, LeO (impl_bezout.f k a0 a1) (impl_bezout.f (k + 1) a0 a1) := by
 intro a0 a1 k
 have ih0 := impl_bezout.mono_l k
 unfold impl_bezout.f
 repeat' first | (with_reducible exact ih0 _ _ _ _ _ _) | (with_reducible exact LeO.refl _) | (with_reducible exact LeO.none _) | (with_reducible refine LeO.ite ?_ ?_) | (with_reducible refine LeO.bind ?_ (fun _ => ?_)) | exact ih0 _ _ _ _ _ _ | exact LeO.none _ | refine LeO.ite ?_ ?_ | refine LeO.bind ?_ (fun _ => ?_)
set_option maxHeartbeats 8000000 in
set_option maxRecDepth 100000 in
theorem impl_bezout.calls (k : Nat) (a0 : Int) (a1 : Int) (r1 : Int) (r2 : Int) (r3 : Int) (w : World) (h : impl_bezout.f k a0 a1 = some (r1, r2, r3)) :
  Calls Try.prog 36 #[.int .i64 a0, .int .i64 a1] w fun e w' => e = .returned (.tuple #[.int .i64 r1, .int .i64 r2, .int .i64 r3]) ∧ Drawn0 w w' := by
 unfold impl_bezout.f at h; have H := h; clear h
 have H' := aM H; clear H
 go_enter Try.func36, Try.ntmps36
 go_wp2
 go_loopg [0, 1, 7, 8, 9, 10] k (fun kq v0 v1 v7 v8 v9 v10 w' => ∃ (x0_1 : Int) (x1_1 : Int) (x7_1 : Int) (x8_1 : Int) (x9_1 : Int) (x10_1 : Int), v0 = .int .i64 x0_1 ∧ v1 = .int .i64 x1_1 ∧ v7 = .int .i64 x7_1 ∧ v8 = .int .i64 x8_1 ∧ v9 = .int .i64 x9_1 ∧ v10 = .int .i64 x10_1 ∧ Aside0 (impl_bezout.l0 kq x0_1 x1_1 x7_1 x8_1 x9_1 x10_1 = some (r1, r2, r3)) ∧ Aside0 (kq ≤ k) ∧ Drawn0 w w')
 case atStart => exact ⟨(a0), (a1), (1), (0), (0), (1), eQ, eQ, eQ, eQ, eQ, eQ, H', ⟨Nat.le_refl _⟩, dQ⟩
 case round =>
  clear H'; obtain ⟨x0_1, x1_1, x7_1, x8_1, x9_1, x10_1, rfl, rfl, rfl, rfl, rfl, rfl, HA, HK1, ⟨m1, rfl⟩⟩ := hrel
  cases gk with
  | zero => exact absurd HA.out (by simp [impl_bezout.l0])
  | succ k1 =>
   have H := HA.out; clear HA
   simp only [impl_bezout.l0] at H
   by_cases c3 : x1_1 = 0
   ·rw [if_pos c3] at H; have c3b0 : (x1_1 == 0) = true := beq_iff_eq.mpr c3; have c3b1 : (x1_1 != 0) = false := bne_eq_false_iff_eq.mpr c3; clear c3
    simp only [Option.some.injEq, Prod.mk.injEq] at H
    obtain ⟨rfl, rfl, rfl⟩ := H; go_wp2
    go_ret3
    exact ⟨eQ, dQ⟩
   ·rw [if_neg c3] at H; have c3b0 : (x1_1 == 0) = false := beq_eq_false_iff_ne.mpr c3; have c3b1 : (x1_1 != 0) = true := bne_iff_ne.mpr c3; have H' := aM H; clear H; go_wp2
    go_roundg k1
    case measure => have := HK1.out; omega
    case rel => exact ⟨(x1_1), (wrap64 (x0_1 - (wrap64 ((wrap64 (Int.tdiv x0_1 x1_1)) * x1_1)))), (x9_1), (x10_1), (wrap64 (x7_1 - (wrap64 ((wrap64 (Int.tdiv x0_1 x1_1)) * x9_1)))), (wrap64 (x8_1 - (wrap64 ((wrap64 (Int.tdiv x0_1 x1_1)) * x10_1)))), eQ, eQ, eQ, eQ, eQ, eQ, H', ⟨by have := HK1.out; omega⟩, dQ⟩

def impl_Move_bring.f (a0_0 : Int) (a0_1 : Int) (a0_2 : Int) (a0_3 : Int) (a0_4 : Int) (a0_5 : Int) (a1_0 : Int) (a1_1 : Int) : Option (Int × Int) := some (wrap64 ((wrap64 ((wrap64 (a0_0 * a1_0)) + (wrap64 (a0_1 * a1_1)))) + a0_4), wrap64 ((wrap64 ((wrap64 (a0_2 * a1_0)) + (wrap64 (a0_3 * a1_1)))) + a0_5))
set_option maxHeartbeats 8000000 in
set_option maxRecDepth 100000 in
theorem impl_Move_bring.calls (a0_0 : Int) (a0_1 : Int) (a0_2 : Int) (a0_3 : Int) (a0_4 : Int) (a0_5 : Int) (a1_0 : Int) (a1_1 : Int) (r1 : Int) (r2 : Int) (w : World) (h : impl_Move_bring.f a0_0 a0_1 a0_2 a0_3 a0_4 a0_5 a1_0 a1_1 = some (r1, r2)) :
  Calls Try.prog 37 #[.agg #[.int .i64 a0_0, .int .i64 a0_1, .int .i64 a0_2, .int .i64 a0_3, .int .i64 a0_4, .int .i64 a0_5], .agg #[.int .i64 a1_0, .int .i64 a1_1]] w fun e w' => e = .returned (.agg #[.int .i64 r1, .int .i64 r2]) ∧ Below w.heap.size w w' := by
 have hu25 := Try.underlying25; have hu38 := Try.underlying38; have HB := aM (Below.refl w.heap.size w)
 unfold impl_Move_bring.f at h; have H := h; clear h
 simp only [Option.some.injEq, Prod.mk.injEq] at H
 obtain ⟨rfl, rfl⟩ := H
 go_enter Try.func37, Try.ntmps37
 go_wp2_with (first | ((with_reducible refine gate_dst (N := 2) rfl ?_); refine bV 2 (cs := #[.int .i64 a0_0, .int .i64 a0_1, .int .i64 a0_2, .int .i64 a0_3, .int .i64 a0_4, .int .i64 a0_5]) (t := 25) rfl rfl (by first | (go_simp; done) | (go_simp; rfl)) ?_; intro gb337 hg w3 hbox hb; have BK337 := hbox; have GW337 := gZ HB hg; have GE337 := gZ HB hg; replace HB := tB HB hb; clear hb hbox hg) | ((with_reducible refine gate_dst (N := 3) rfl ?_); refine bV 3 (cs := #[.int .i64 a1_0, .int .i64 a1_1]) (t := 38) rfl rfl (by first | (go_simp; done) | (go_simp; rfl)) ?_; intro gb338 hg w4 hbox hb; have BK338 := hbox; have GW338 := gZ HB hg; have GE338 := gZ HB hg; have NB337_338 := nG BK337 hg; have NB338_337 := nH BK337 hg; replace BK337 := bB BK337 hb; replace HB := tB HB hb; clear hb hbox hg) | ((with_reducible refine gate_dst (N := 4) rfl ?_); refine bV 4 (cs := #[.int .i64 0, .int .i64 0]) (t := 38) rfl rfl (by first | (go_simp; done) | (go_simp; rfl)) ?_; intro gb339 hg w5 hbox hb; have BK339 := hbox; have GW339 := gZ HB hg; have GE339 := gZ HB hg; have NB337_339 := nG BK337 hg; have NB339_337 := nH BK337 hg; have NB338_339 := nG BK338 hg; have NB339_338 := nH BK338 hg; replace BK337 := bB BK337 hb; replace BK338 := bB BK338 hb; replace HB := tB HB hb; clear hb hbox hg; have hnb6 := NB337_338.out; have hnc6 := NB338_337.out; have hnb7 := NB337_339.out; have hnc7 := NB339_337.out; have hcz8_0 := vZ0 BK337; have hcz8_1 := vZ1 BK337; have hcz8_2 := vZ2 BK337; have hcz8_3 := vZ3 BK337; have hcz8_4 := vZ4 BK337; have hcz8_5 := vZ5 BK337; have hfz8_0 := kF BK337.out 0; have hfz8_1 := kF BK337.out 1; have hfz8_2 := kF BK337.out 2; have hfz8_3 := kF BK337.out 3; have hfz8_4 := kF BK337.out 4; have hfz8_5 := kF BK337.out 5; have hnb9 := NB338_339.out; have hnc9 := NB339_338.out; have hcz10_0 := vZ0 BK338; have hcz10_1 := vZ1 BK338; have hfz10_0 := kF BK338.out 0; have hfz10_1 := kF BK338.out 1; have hcz11_0 := vZ0 BK339; have hcz11_1 := vZ1 BK339; have hfz11_0 := kF BK339.out 0; have hfz11_1 := kF BK339.out 1))
 refine bodyPost_ret (results_cell_row rfl _ _ gb339 38 #[.int .i64 (wrap64 ((wrap64 ((wrap64 (a0_0 * a1_0)) + (wrap64 (a0_1 * a1_1)))) + a0_4)), .int .i64 (wrap64 ((wrap64 ((wrap64 (a0_2 * a1_0)) + (wrap64 (a0_3 * a1_1)))) + a0_5))] (0, 0) _ rfl (fQ BK339) Try.underlying38 rfl kR) rfl ?_
 exact ⟨wQ, bE⟩

end Go.Proofs.Ytphkphjddkjabaa.X
