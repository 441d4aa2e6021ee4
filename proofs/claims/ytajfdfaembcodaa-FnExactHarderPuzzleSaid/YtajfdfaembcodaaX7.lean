-- thin
-- short
-- compact
import Derived.Test.YtajfdfaembcodaaXA
import Derived.Test.YtajfdfaembcodaaX0
import Derived.Test.YtajfdfaembcodaaX1
import Derived.Test.YtajfdfaembcodaaX6
namespace Go.Proofs.Ytajfdfaembcodaa.X
open Go.RowKit Go.Proofs.Ytajfdfaembcodaa.XW Go.Proofs.YtajfdfaembcodaaW.PrintWords Go.Proofs.YtajfdfaembcodaaW.PrintLast Go.Proofs.YtajfdfaembcodaaW.PrintMore
attribute [local go_sem] max2_int min2_int max_two min_two max_three min_three max_four min_four   -- for this text's walks alone
set_option linter.unusedVariables false
set_option linter.unusedSimpArgs false

attribute [local go_sem high] eqA61
def impl_asHas.f (k : Nat) (a0_0 : Int) (a0_1 : Int) (a0_2 : Int) (a0_3 : Int) (a1_0 : Int) (a1_1 : Int) : Option (Int × Int × Int × Int) := if a0_0 = 0 then (some (a0_0, a1_0, a0_2, a0_3)) else (if a0_0 = 1 then (some (a0_0, a1_1, a0_2, a0_3)) else (if a0_0 = 2 then (some (a0_0, wrap64 (a1_0 + a1_1), a0_2, a0_3)) else (if a0_0 = 3 then ((impl_cross.f a0_1 a0_2 a1_0 a1_1).bind fun t214 => ((impl_size.f t214).bind fun t215 => (some (a0_0, a0_1, a0_2, t215)))) else (if a0_0 = 4 then ((impl_Peg_less.f a1_0 a1_1 a0_1 a0_2).bind fun bt216 => ((impl_Peg_square.f bt216.1 bt216.2).bind fun t218 => (some (a0_0, a0_1, a0_2, t218)))) else ((impl_steps.f k a1_0 a1_1 a0_1 a0_2).bind fun t219 => (if t219 < 2 then (some (a0_0, a0_1, a0_2, 1)) else (some (a0_0, a0_1, a0_2, 0))))))))
theorem impl_asHas.mono : ∀ a0 a1 a2 a3 a4 a5 k, LeO (impl_asHas.f k a0 a1 a2 a3 a4 a5) (impl_asHas.f (k + 1) a0 a1 a2 a3 a4 a5) := by
 intro a0 a1 a2 a3 a4 a5 k
 unfold impl_asHas.f
 repeat' first | (with_reducible exact impl_steps.mono _ _ _ _ _) | (with_reducible exact LeO.refl _) | (with_reducible exact LeO.none _) | (with_reducible refine LeO.ite ?_ ?_) | (with_reducible refine LeO.bind ?_ (fun _ => ?_)) | exact impl_steps.mono _ _ _ _ _ | exact LeO.none _ | refine LeO.ite ?_ ?_ | refine LeO.bind ?_ (fun _ => ?_)
set_option maxHeartbeats 8000000 in
set_option maxRecDepth 100000 in
theorem impl_asHas.calls (k : Nat) (a0_0 : Int) (a0_1 : Int) (a0_2 : Int) (a0_3 : Int) (a1_0 : Int) (a1_1 : Int) (r1 : Int) (r2 : Int) (r3 : Int) (r4 : Int) (w : World) (h : impl_asHas.f k a0_0 a0_1 a0_2 a0_3 a1_0 a1_1 = some (r1, r2, r3, r4)) :
  Calls Try.prog 62 #[.agg #[.int .i64 a0_0, .int .i64 a0_1, .int .i64 a0_2, .int .i64 a0_3], .agg #[.int .i64 a1_0, .int .i64 a1_1]] w fun e w' => e = .returned (.agg #[.int .i64 r1, .int .i64 r2, .int .i64 r3, .int .i64 r4]) ∧ Below w.heap.size w w' := by
 have hu61 := Try.underlying61; have hu54 := Try.underlying54; have HB := aM (Below.refl w.heap.size w)
 unfold impl_asHas.f at h; have H := h; clear h
 by_cases c3 : a0_0 = 0
 ·rw [if_pos c3] at H; have c3b0 : (a0_0 == 0) = true := beq_iff_eq.mpr c3; have c3b1 : (a0_0 != 0) = false := bne_eq_false_iff_eq.mpr c3; clear c3
  simp only [Option.some.injEq, Prod.mk.injEq] at H
  obtain ⟨rfl, rfl, rfl, rfl⟩ := H
  go_enter Try.func62, Try.ntmps62
  go_wp2_with (first | ((with_reducible refine gate_dst (N := 2) rfl ?_); refine bV 2 (cs := #[.int .i64 a0_0, .int .i64 a0_1, .int .i64 a0_2, .int .i64 a0_3]) (t := 61) rfl rfl (by first | (go_simp; done) | (go_simp; rfl)) ?_; intro gb210 hg w4 hbox hb; have BK210 := hbox; have GW210 := gZ HB hg; have GE210 := gZ HB hg; replace HB := tB HB hb; clear hb hbox hg) | ((with_reducible refine gate_dst (N := 3) rfl ?_); refine bV 3 (cs := #[.int .i64 a1_0, .int .i64 a1_1]) (t := 54) rfl rfl (by first | (go_simp; done) | (go_simp; rfl)) ?_; intro gb211 hg w5 hbox hb; have BK211 := hbox; have GW211 := gZ HB hg; have GE211 := gZ HB hg; have NB210_211 := nG BK210 hg; have NB211_210 := nH BK210 hg; replace BK210 := bB BK210 hb; replace HB := tB HB hb; clear hb hbox hg) | ((with_reducible refine gate_dst (N := 4) rfl ?_); refine bV 4 (cs := #[.int .i64 0, .int .i64 0, .int .i64 0, .int .i64 0]) (t := 61) rfl rfl (by first | (go_simp; done) | (go_simp; rfl)) ?_; intro gb212 hg w6 hbox hb; have BK212 := hbox; have GW212 := gZ HB hg; have GE212 := gZ HB hg; have NB210_212 := nG BK210 hg; have NB212_210 := nH BK210 hg; have NB211_212 := nG BK211 hg; have NB212_211 := nH BK211 hg; replace BK210 := bB BK210 hb; replace BK211 := bB BK211 hb; replace HB := tB HB hb; clear hb hbox hg; have hnb7 := NB210_211.out; have hnc7 := NB211_210.out; have hnb8 := NB210_212.out; have hnc8 := NB212_210.out; have hcz9_0 := vZ0 BK210; have hcz9_1 := vZ1 BK210; have hcz9_2 := vZ2 BK210; have hcz9_3 := vZ3 BK210; have hfz9_0 := kF BK210.out 0; have hfz9_1 := kF BK210.out 1; have hfz9_2 := kF BK210.out 2; have hfz9_3 := kF BK210.out 3) | ((with_reducible refine gate_dst (N := 5) rfl ?_); refine bV 5 (cs := #[.int .i64 0, .int .i64 0]) (t := 54) rfl rfl (by first | (go_simp; done) | (go_simp; rfl)) ?_; intro gb213 hg w10 hbox hb; have BK213 := hbox; have GW213 := gZ HB hg; have GE213 := gZ HB hg; have NB210_213 := nG BK210 hg; have NB213_210 := nH BK210 hg; have NB211_213 := nG BK211 hg; have NB213_211 := nH BK211 hg; have NB212_213 := nG BK212 hg; have NB213_212 := nH BK212 hg; replace BK210 := bB BK210 hb; replace BK211 := bB BK211 hb; replace BK212 := bB BK212 hb; replace HB := tB HB hb; clear hb hbox hg; have hnb11 := NB213_210.out; have hnc11 := NB210_213.out; have hnb12 := NB213_211.out; have hnc12 := NB211_213.out; have hnb13 := NB213_212.out; have hnc13 := NB212_213.out; have hcz14_0 := vZ0 BK213; have hcz14_1 := vZ1 BK213; have hfz14_0 := kF BK213.out 0; have hfz14_1 := kF BK213.out 1; have hcz15_0 := vZ0 BK210; have hcz15_1 := vZ1 BK210; have hcz15_2 := vZ2 BK210; have hcz15_3 := vZ3 BK210; have hfz15_0 := kF BK210.out 0; have hfz15_1 := kF BK210.out 1; have hfz15_2 := kF BK210.out 2; have hfz15_3 := kF BK210.out 3; have hnb16 := NB211_212.out; have hnc16 := NB212_211.out; have hcz17_0 := vZ0 BK211; have hcz17_1 := vZ1 BK211; have hfz17_0 := kF BK211.out 0; have hfz17_1 := kF BK211.out 1; have hcz18_0 := vZ0 BK212; have hcz18_1 := vZ1 BK212; have hcz18_2 := vZ2 BK212; have hcz18_3 := vZ3 BK212; have hfz18_0 := kF BK212.out 0; have hfz18_1 := kF BK212.out 1; have hfz18_2 := kF BK212.out 2; have hfz18_3 := kF BK212.out 3))
  refine bodyPost_ret (results_cell_row rfl _ _ gb212 61 #[.int .i64 a0_0, .int .i64 a1_0, .int .i64 a0_2, .int .i64 a0_3] (0, 0) _ rfl (fQ BK212) Try.underlying61 rfl kR) rfl ?_
  exact ⟨wQ, bE⟩
 ·rw [if_neg c3] at H; have c3b0 : (a0_0 == 0) = false := beq_eq_false_iff_ne.mpr c3; have c3b1 : (a0_0 != 0) = true := bne_iff_ne.mpr c3
  by_cases c19 : a0_0 = 1
  ·rw [if_pos c19] at H; have c19b0 : (a0_0 == 1) = true := beq_iff_eq.mpr c19; have c19b1 : (a0_0 != 1) = false := bne_eq_false_iff_eq.mpr c19; clear c19
   simp only [Option.some.injEq, Prod.mk.injEq] at H
   obtain ⟨rfl, rfl, rfl, rfl⟩ := H
   go_enter Try.func62, Try.ntmps62
   go_wp2_with (first | ((with_reducible refine gate_dst (N := 2) rfl ?_); refine bV 2 (cs := #[.int .i64 a0_0, .int .i64 a0_1, .int .i64 a0_2, .int .i64 a0_3]) (t := 61) rfl rfl (by first | (go_simp; done) | (go_simp; rfl)) ?_; intro gb210 hg w20 hbox hb; have BK210 := hbox; have GW210 := gZ HB hg; have GE210 := gZ HB hg; replace HB := tB HB hb; clear hb hbox hg) | ((with_reducible refine gate_dst (N := 3) rfl ?_); refine bV 3 (cs := #[.int .i64 a1_0, .int .i64 a1_1]) (t := 54) rfl rfl (by first | (go_simp; done) | (go_simp; rfl)) ?_; intro gb211 hg w21 hbox hb; have BK211 := hbox; have GW211 := gZ HB hg; have GE211 := gZ HB hg; have NB210_211 := nG BK210 hg; have NB211_210 := nH BK210 hg; replace BK210 := bB BK210 hb; replace HB := tB HB hb; clear hb hbox hg) | ((with_reducible refine gate_dst (N := 4) rfl ?_); refine bV 4 (cs := #[.int .i64 0, .int .i64 0, .int .i64 0, .int .i64 0]) (t := 61) rfl rfl (by first | (go_simp; done) | (go_simp; rfl)) ?_; intro gb212 hg w22 hbox hb; have BK212 := hbox; have GW212 := gZ HB hg; have GE212 := gZ HB hg; have NB210_212 := nG BK210 hg; have NB212_210 := nH BK210 hg; have NB211_212 := nG BK211 hg; have NB212_211 := nH BK211 hg; replace BK210 := bB BK210 hb; replace BK211 := bB BK211 hb; replace HB := tB HB hb; clear hb hbox hg; have hnb23 := NB210_211.out; have hnc23 := NB211_210.out; have hnb24 := NB210_212.out; have hnc24 := NB212_210.out; have hcz25_0 := vZ0 BK210; have hcz25_1 := vZ1 BK210; have hcz25_2 := vZ2 BK210; have hcz25_3 := vZ3 BK210; have hfz25_0 := kF BK210.out 0; have hfz25_1 := kF BK210.out 1; have hfz25_2 := kF BK210.out 2; have hfz25_3 := kF BK210.out 3) | ((with_reducible refine gate_dst (N := 5) rfl ?_); refine bV 5 (cs := #[.int .i64 0, .int .i64 0]) (t := 54) rfl rfl (by first | (go_simp; done) | (go_simp; rfl)) ?_; intro gb213 hg w26 hbox hb; have BK213 := hbox; have GW213 := gZ HB hg; have GE213 := gZ HB hg; have NB210_213 := nG BK210 hg; have NB213_210 := nH BK210 hg; have NB211_213 := nG BK211 hg; have NB213_211 := nH BK211 hg; have NB212_213 := nG BK212 hg; have NB213_212 := nH BK212 hg; replace BK210 := bB BK210 hb; replace BK211 := bB BK211 hb; replace BK212 := bB BK212 hb; replace HB := tB HB hb; clear hb hbox hg; have hnb27 := NB213_210.out; have hnc27 := NB210_213.out; have hnb28 := NB213_211.out; have hnc28 := NB211_213.out; have hnb29 := NB213_212.out; have hnc29 := NB212_213.out; have hcz30_0 := vZ0 BK213; have hcz30_1 := vZ1 BK213; have hfz30_0 := kF BK213.out 0; have hfz30_1 := kF BK213.out 1; have hcz31_0 := vZ0 BK210; have hcz31_1 := vZ1 BK210; have hcz31_2 := vZ2 BK210; have hcz31_3 := vZ3 BK210; have hfz31_0 := kF BK210.out 0; have hfz31_1 := kF BK210.out 1; have hfz31_2 := kF BK210.out 2; have hfz31_3 := kF BK210.out 3; have hnb32 := NB211_212.out; have hnc32 := NB212_211.out; have hcz33_0 := vZ0 BK211; have hcz33_1 := vZ1 BK211; have hfz33_0 := kF BK211.out 0; have hfz33_1 := kF BK211.out 1; have hcz34_0 := vZ0 BK212; have hcz34_1 := vZ1 BK212; have hcz34_2 := vZ2 BK212; have hcz34_3 := vZ3 BK212; have hfz34_0 := kF BK212.out 0; have hfz34_1 := kF BK212.out 1; have hfz34_2 := kF BK212.out 2; have hfz34_3 := kF BK212.out 3))
   refine bodyPost_ret (results_cell_row rfl _ _ gb212 61 #[.int .i64 a0_0, .int .i64 a1_1, .int .i64 a0_2, .int .i64 a0_3] (0, 0) _ rfl (fQ BK212) Try.underlying61 rfl kR) rfl ?_
   exact ⟨wQ, bE⟩
  ·rw [if_neg c19] at H; have c19b0 : (a0_0 == 1) = false := beq_eq_false_iff_ne.mpr c19; have c19b1 : (a0_0 != 1) = true := bne_iff_ne.mpr c19
   by_cases c35 : a0_0 = 2
   ·rw [if_pos c35] at H; have c35b0 : (a0_0 == 2) = true := beq_iff_eq.mpr c35; have c35b1 : (a0_0 != 2) = false := bne_eq_false_iff_eq.mpr c35; clear c35
    simp only [Option.some.injEq, Prod.mk.injEq] at H
    obtain ⟨rfl, rfl, rfl, rfl⟩ := H
    go_enter Try.func62, Try.ntmps62
    go_wp2_with (first | ((with_reducible refine gate_dst (N := 2) rfl ?_); refine bV 2 (cs := #[.int .i64 a0_0, .int .i64 a0_1, .int .i64 a0_2, .int .i64 a0_3]) (t := 61) rfl rfl (by first | (go_simp; done) | (go_simp; rfl)) ?_; intro gb210 hg w36 hbox hb; have BK210 := hbox; have GW210 := gZ HB hg; have GE210 := gZ HB hg; replace HB := tB HB hb; clear hb hbox hg) | ((with_reducible refine gate_dst (N := 3) rfl ?_); refine bV 3 (cs := #[.int .i64 a1_0, .int .i64 a1_1]) (t := 54) rfl rfl (by first | (go_simp; done) | (go_simp; rfl)) ?_; intro gb211 hg w37 hbox hb; have BK211 := hbox; have GW211 := gZ HB hg; have GE211 := gZ HB hg; have NB210_211 := nG BK210 hg; have NB211_210 := nH BK210 hg; replace BK210 := bB BK210 hb; replace HB := tB HB hb; clear hb hbox hg) | ((with_reducible refine gate_dst (N := 4) rfl ?_); refine bV 4 (cs := #[.int .i64 0, .int .i64 0, .int .i64 0, .int .i64 0]) (t := 61) rfl rfl (by first | (go_simp; done) | (go_simp; rfl)) ?_; intro gb212 hg w38 hbox hb; have BK212 := hbox; have GW212 := gZ HB hg; have GE212 := gZ HB hg; have NB210_212 := nG BK210 hg; have NB212_210 := nH BK210 hg; have NB211_212 := nG BK211 hg; have NB212_211 := nH BK211 hg; replace BK210 := bB BK210 hb; replace BK211 := bB BK211 hb; replace HB := tB HB hb; clear hb hbox hg; have hnb39 := NB210_211.out; have hnc39 := NB211_210.out; have hnb40 := NB210_212.out; have hnc40 := NB212_210.out; have hcz41_0 := vZ0 BK210; have hcz41_1 := vZ1 BK210; have hcz41_2 := vZ2 BK210; have hcz41_3 := vZ3 BK210; have hfz41_0 := kF BK210.out 0; have hfz41_1 := kF BK210.out 1; have hfz41_2 := kF BK210.out 2; have hfz41_3 := kF BK210.out 3) | ((with_reducible refine gate_dst (N := 5) rfl ?_); refine bV 5 (cs := #[.int .i64 0, .int .i64 0]) (t := 54) rfl rfl (by first | (go_simp; done) | (go_simp; rfl)) ?_; intro gb213 hg w42 hbox hb; have BK213 := hbox; have GW213 := gZ HB hg; have GE213 := gZ HB hg; have NB210_213 := nG BK210 hg; have NB213_210 := nH BK210 hg; have NB211_213 := nG BK211 hg; have NB213_211 := nH BK211 hg; have NB212_213 := nG BK212 hg; have NB213_212 := nH BK212 hg; replace BK210 := bB BK210 hb; replace BK211 := bB BK211 hb; replace BK212 := bB BK212 hb; replace HB := tB HB hb; clear hb hbox hg; have hnb43 := NB213_210.out; have hnc43 := NB210_213.out; have hnb44 := NB213_211.out; have hnc44 := NB211_213.out; have hnb45 := NB213_212.out; have hnc45 := NB212_213.out; have hcz46_0 := vZ0 BK213; have hcz46_1 := vZ1 BK213; have hfz46_0 := kF BK213.out 0; have hfz46_1 := kF BK213.out 1; have hcz47_0 := vZ0 BK210; have hcz47_1 := vZ1 BK210; have hcz47_2 := vZ2 BK210; have hcz47_3 := vZ3 BK210; have hfz47_0 := kF BK210.out 0; have hfz47_1 := kF BK210.out 1; have hfz47_2 := kF BK210.out 2; have hfz47_3 := kF BK210.out 3; have hnb48 := NB211_212.out; have hnc48 := NB212_211.out; have hcz49_0 := vZ0 BK211; have hcz49_1 := vZ1 BK211; have hfz49_0 := kF BK211.out 0; have hfz49_1 := kF BK211.out 1; have hcz50_0 := vZ0 BK212; have hcz50_1 := vZ1 BK212; have hcz50_2 := vZ2 BK212; have hcz50_3 := vZ3 BK212; have hfz50_0 := kF BK212.out 0; have hfz50_1 := kF BK212.out 1; have hfz50_2 := kF BK212.out 2; have hfz50_3 := kF BK212.out 3))
    refine bodyPost_ret (results_cell_row rfl _ _ gb212 61 #[.int .i64 a0_0, .int .i64 (wrap64 (a1_0 + a1_1)), .int .i64 a0_2, .int .i64 a0_3] (0, 0) _ rfl (fQ BK212) Try.underlying61 rfl kR) rfl ?_
    exact ⟨wQ, bE⟩
   ·rw [if_neg c35] at H; have c35b0 : (a0_0 == 2) = false := beq_eq_false_iff_ne.mpr c35; have c35b1 : (a0_0 != 2) = true := bne_iff_ne.mpr c35
    by_cases c51 : a0_0 = 3
    ·rw [if_pos c51] at H; have c51b0 : (a0_0 == 3) = true := beq_iff_eq.mpr c51; have c51b1 : (a0_0 != 3) = false := bne_eq_false_iff_eq.mpr c51; clear c51; replace H := bS H; obtain ⟨t214, A52, H⟩ := H; replace H := bS H; obtain ⟨t215, A53, H⟩ := H
     simp only [Option.some.injEq, Prod.mk.injEq] at H
     obtain ⟨rfl, rfl, rfl, rfl⟩ := H
     go_enter Try.func62, Try.ntmps62
     go_wp2_with (first | ((with_reducible refine gate_dst (N := 2) rfl ?_); refine bV 2 (cs := #[.int .i64 a0_0, .int .i64 a0_1, .int .i64 a0_2, .int .i64 a0_3]) (t := 61) rfl rfl (by first | (go_simp; done) | (go_simp; rfl)) ?_; intro gb210 hg w54 hbox hb; have BK210 := hbox; have GW210 := gZ HB hg; have GE210 := gZ HB hg; replace HB := tB HB hb; clear hb hbox hg) | ((with_reducible refine gate_dst (N := 3) rfl ?_); refine bV 3 (cs := #[.int .i64 a1_0, .int .i64 a1_1]) (t := 54) rfl rfl (by first | (go_simp; done) | (go_simp; rfl)) ?_; intro gb211 hg w55 hbox hb; have BK211 := hbox; have GW211 := gZ HB hg; have GE211 := gZ HB hg; have NB210_211 := nG BK210 hg; have NB211_210 := nH BK210 hg; replace BK210 := bB BK210 hb; replace HB := tB HB hb; clear hb hbox hg) | ((with_reducible refine gate_dst (N := 4) rfl ?_); refine bV 4 (cs := #[.int .i64 0, .int .i64 0, .int .i64 0, .int .i64 0]) (t := 61) rfl rfl (by first | (go_simp; done) | (go_simp; rfl)) ?_; intro gb212 hg w56 hbox hb; have BK212 := hbox; have GW212 := gZ HB hg; have GE212 := gZ HB hg; have NB210_212 := nG BK210 hg; have NB212_210 := nH BK210 hg; have NB211_212 := nG BK211 hg; have NB212_211 := nH BK211 hg; replace BK210 := bB BK210 hb; replace BK211 := bB BK211 hb; replace HB := tB HB hb; clear hb hbox hg; have hnb57 := NB210_211.out; have hnc57 := NB211_210.out; have hnb58 := NB210_212.out; have hnc58 := NB212_210.out; have hcz59_0 := vZ0 BK210; have hcz59_1 := vZ1 BK210; have hcz59_2 := vZ2 BK210; have hcz59_3 := vZ3 BK210; have hfz59_0 := kF BK210.out 0; have hfz59_1 := kF BK210.out 1; have hfz59_2 := kF BK210.out 2; have hfz59_3 := kF BK210.out 3) | ((with_reducible refine gate_dst (N := 5) rfl ?_); refine bV 5 (cs := #[.int .i64 0, .int .i64 0]) (t := 54) rfl rfl (by first | (go_simp; done) | (go_simp; rfl)) ?_; intro gb213 hg w60 hbox hb; have BK213 := hbox; have GW213 := gZ HB hg; have GE213 := gZ HB hg; have NB210_213 := nG BK210 hg; have NB213_210 := nH BK210 hg; have NB211_213 := nG BK211 hg; have NB213_211 := nH BK211 hg; have NB212_213 := nG BK212 hg; have NB213_212 := nH BK212 hg; replace BK210 := bB BK210 hb; replace BK211 := bB BK211 hb; replace BK212 := bB BK212 hb; replace HB := tB HB hb; clear hb hbox hg; have hnb61 := NB213_210.out; have hnc61 := NB210_213.out; have hnb62 := NB213_211.out; have hnc62 := NB211_213.out; have hnb63 := NB213_212.out; have hnc63 := NB212_213.out; have hcz64_0 := vZ0 BK213; have hcz64_1 := vZ1 BK213; have hfz64_0 := kF BK213.out 0; have hfz64_1 := kF BK213.out 1; have hcz65_0 := vZ0 BK210; have hcz65_1 := vZ1 BK210; have hcz65_2 := vZ2 BK210; have hcz65_3 := vZ3 BK210; have hfz65_0 := kF BK210.out 0; have hfz65_1 := kF BK210.out 1; have hfz65_2 := kF BK210.out 2; have hfz65_3 := kF BK210.out 3; have hnb66 := NB211_212.out; have hnc66 := NB212_211.out; have hcz67_0 := vZ0 BK211; have hcz67_1 := vZ1 BK211; have hfz67_0 := kF BK211.out 0; have hfz67_1 := kF BK211.out 1) | ((with_reducible refine gC (f := 68) rfl ?_); refine goesL_ (some 41) rfl rfl Try.func68 kR rfl #[.agg #[.int .i64 a0_1, .int .i64 a0_2], .agg #[.int .i64 a1_0, .int .i64 a1_1]] rfl sQ ?_; (with_reducible refine (impl_cross.calls a0_1 a0_2 a1_0 a1_1 t214 _ A52.out).mono ?_); rintro e w68 ⟨rfl, hb⟩; refine ⟨_, rfl, ?_⟩; replace BK210 := aM (blk_below (g := gb210) (o := .cells #[.int .i64 a0_0, .int .i64 a0_1, .int .i64 a0_2, .int .i64 a0_3] 61 (0, 0)) (fQ BK210) hb); replace BK211 := aM (blk_below (g := gb211) (o := .cells #[.int .i64 a1_0, .int .i64 a1_1] 54 (0, 0)) (fQ BK211) hb); replace BK212 := aM (blk_below (g := gb212) (o := .cells #[.int .i64 0, .int .i64 0, .int .i64 0, .int .i64 0] 61 (0, 0)) (fQ BK212) hb); replace BK213 := aM (blk_below (g := gb213) (o := .cells #[.int .i64 a0_1, .int .i64 a0_2] 54 (0, 0)) (fQ BK213) hb); replace HB := tB HB hb; (try clear hb); (try clear hb2); (try clear hk); (try clear hi)) | ((with_reducible refine gC (f := 67) rfl ?_); refine goesL_ (some 42) rfl rfl Try.func67 kR rfl #[.int .i64 t214] rfl sQ ?_; (with_reducible refine (impl_size.calls t214 t215 _ A53.out).mono ?_); rintro e w69 ⟨rfl, hb⟩; refine ⟨_, rfl, ?_⟩; replace BK210 := bB BK210 hb; replace BK211 := bB BK211 hb; replace BK212 := bB BK212 hb; replace BK213 := bB BK213 hb; replace HB := tB HB hb; (try clear hb); (try clear hb2); (try clear hk); (try clear hi); have hcz70_0 := vZ0 BK210; have hcz70_1 := vZ1 BK210; have hcz70_2 := vZ2 BK210; have hcz70_3 := vZ3 BK210; have hfz70_0 := kF BK210.out 0; have hfz70_1 := kF BK210.out 1; have hfz70_2 := kF BK210.out 2; have hfz70_3 := kF BK210.out 3; have hcz71_0 := vZ0 BK212; have hcz71_1 := vZ1 BK212; have hcz71_2 := vZ2 BK212; have hcz71_3 := vZ3 BK212; have hfz71_0 := kF BK212.out 0; have hfz71_1 := kF BK212.out 1; have hfz71_2 := kF BK212.out 2; have hfz71_3 := kF BK212.out 3))
     refine bodyPost_ret (results_cell_row rfl _ _ gb212 61 #[.int .i64 a0_0, .int .i64 a0_1, .int .i64 a0_2, .int .i64 t215] (0, 0) _ rfl (fQ BK212) Try.underlying61 rfl kR) rfl ?_
     exact ⟨wQ, bE⟩
    ·rw [if_neg c51] at H; have c51b0 : (a0_0 == 3) = false := beq_eq_false_iff_ne.mpr c51; have c51b1 : (a0_0 != 3) = true := bne_iff_ne.mpr c51
     by_cases c72 : a0_0 = 4
     ·rw [if_pos c72] at H; have c72b0 : (a0_0 == 4) = true := beq_iff_eq.mpr c72; have c72b1 : (a0_0 != 4) = false := bne_eq_false_iff_eq.mpr c72; clear c72; replace H := bS H; obtain ⟨⟨t216, t217⟩, A73, H⟩ := H; replace H := bS H; obtain ⟨t218, A74, H⟩ := H
      simp only [Option.some.injEq, Prod.mk.injEq] at H
      obtain ⟨rfl, rfl, rfl, rfl⟩ := H
      go_enter Try.func62, Try.ntmps62
      go_wp2_with (first | ((with_reducible refine gate_dst (N := 2) rfl ?_); refine bV 2 (cs := #[.int .i64 a0_0, .int .i64 a0_1, .int .i64 a0_2, .int .i64 a0_3]) (t := 61) rfl rfl (by first | (go_simp; done) | (go_simp; rfl)) ?_; intro gb210 hg w75 hbox hb; have BK210 := hbox; have GW210 := gZ HB hg; have GE210 := gZ HB hg; replace HB := tB HB hb; clear hb hbox hg) | ((with_reducible refine gate_dst (N := 3) rfl ?_); refine bV 3 (cs := #[.int .i64 a1_0, .int .i64 a1_1]) (t := 54) rfl rfl (by first | (go_simp; done) | (go_simp; rfl)) ?_; intro gb211 hg w76 hbox hb; have BK211 := hbox; have GW211 := gZ HB hg; have GE211 := gZ HB hg; have NB210_211 := nG BK210 hg; have NB211_210 := nH BK210 hg; replace BK210 := bB BK210 hb; replace HB := tB HB hb; clear hb hbox hg) | ((with_reducible refine gate_dst (N := 4) rfl ?_); refine bV 4 (cs := #[.int .i64 0, .int .i64 0, .int .i64 0, .int .i64 0]) (t := 61) rfl rfl (by first | (go_simp; done) | (go_simp; rfl)) ?_; intro gb212 hg w77 hbox hb; have BK212 := hbox; have GW212 := gZ HB hg; have GE212 := gZ HB hg; have NB210_212 := nG BK210 hg; have NB212_210 := nH BK210 hg; have NB211_212 := nG BK211 hg; have NB212_211 := nH BK211 hg; replace BK210 := bB BK210 hb; replace BK211 := bB BK211 hb; replace HB := tB HB hb; clear hb hbox hg; have hnb78 := NB210_211.out; have hnc78 := NB211_210.out; have hnb79 := NB210_212.out; have hnc79 := NB212_210.out; have hcz80_0 := vZ0 BK210; have hcz80_1 := vZ1 BK210; have hcz80_2 := vZ2 BK210; have hcz80_3 := vZ3 BK210; have hfz80_0 := kF BK210.out 0; have hfz80_1 := kF BK210.out 1; have hfz80_2 := kF BK210.out 2; have hfz80_3 := kF BK210.out 3) | ((with_reducible refine gate_dst (N := 5) rfl ?_); refine bV 5 (cs := #[.int .i64 0, .int .i64 0]) (t := 54) rfl rfl (by first | (go_simp; done) | (go_simp; rfl)) ?_; intro gb213 hg w81 hbox hb; have BK213 := hbox; have GW213 := gZ HB hg; have GE213 := gZ HB hg; have NB210_213 := nG BK210 hg; have NB213_210 := nH BK210 hg; have NB211_213 := nG BK211 hg; have NB213_211 := nH BK211 hg; have NB212_213 := nG BK212 hg; have NB213_212 := nH BK212 hg; replace BK210 := bB BK210 hb; replace BK211 := bB BK211 hb; replace BK212 := bB BK212 hb; replace HB := tB HB hb; clear hb hbox hg; have hnb82 := NB213_210.out; have hnc82 := NB210_213.out; have hnb83 := NB213_211.out; have hnc83 := NB211_213.out; have hnb84 := NB213_212.out; have hnc84 := NB212_213.out; have hcz85_0 := vZ0 BK213; have hcz85_1 := vZ1 BK213; have hfz85_0 := kF BK213.out 0; have hfz85_1 := kF BK213.out 1; have hcz86_0 := vZ0 BK210; have hcz86_1 := vZ1 BK210; have hcz86_2 := vZ2 BK210; have hcz86_3 := vZ3 BK210; have hfz86_0 := kF BK210.out 0; have hfz86_1 := kF BK210.out 1; have hfz86_2 := kF BK210.out 2; have hfz86_3 := kF BK210.out 3; have hnb87 := NB211_212.out; have hnc87 := NB212_211.out; have hcz88_0 := vZ0 BK211; have hcz88_1 := vZ1 BK211; have hfz88_0 := kF BK211.out 0; have hfz88_1 := kF BK211.out 1) | ((with_reducible refine gC (f := 69) rfl ?_); refine goesL_ (some 48) rfl rfl Try.func69 kR rfl #[.agg #[.int .i64 a1_0, .int .i64 a1_1], .agg #[.int .i64 a0_1, .int .i64 a0_2]] rfl sQ ?_; (with_reducible refine (impl_Peg_less.calls a1_0 a1_1 a0_1 a0_2 t216 t217 _ A73.out).mono ?_); rintro e w89 ⟨rfl, hb⟩; refine ⟨_, rfl, ?_⟩; replace BK210 := aM (blk_below (g := gb210) (o := .cells #[.int .i64 a0_0, .int .i64 a0_1, .int .i64 a0_2, .int .i64 a0_3] 61 (0, 0)) (fQ BK210) hb); replace BK211 := aM (blk_below (g := gb211) (o := .cells #[.int .i64 a1_0, .int .i64 a1_1] 54 (0, 0)) (fQ BK211) hb); replace BK212 := aM (blk_below (g := gb212) (o := .cells #[.int .i64 0, .int .i64 0, .int .i64 0, .int .i64 0] 61 (0, 0)) (fQ BK212) hb); replace BK213 := aM (blk_below (g := gb213) (o := .cells #[.int .i64 a0_1, .int .i64 a0_2] 54 (0, 0)) (fQ BK213) hb); replace HB := tB HB hb; (try clear hb); (try clear hb2); (try clear hk); (try clear hi)) | ((with_reducible refine gC (f := 70) rfl ?_); refine goesL_ (some 49) rfl rfl Try.func70 kR rfl #[.agg #[.int .i64 t216, .int .i64 t217]] rfl sQ ?_; (with_reducible refine (impl_Peg_square.calls t216 t217 t218 _ A74.out).mono ?_); rintro e w90 ⟨rfl, hb⟩; refine ⟨_, rfl, ?_⟩; replace BK210 := bB BK210 hb; replace BK211 := bB BK211 hb; replace BK212 := bB BK212 hb; replace BK213 := bB BK213 hb; replace HB := tB HB hb; (try clear hb); (try clear hb2); (try clear hk); (try clear hi); have hcz91_0 := vZ0 BK210; have hcz91_1 := vZ1 BK210; have hcz91_2 := vZ2 BK210; have hcz91_3 := vZ3 BK210; have hfz91_0 := kF BK210.out 0; have hfz91_1 := kF BK210.out 1; have hfz91_2 := kF BK210.out 2; have hfz91_3 := kF BK210.out 3; have hcz92_0 := vZ0 BK212; have hcz92_1 := vZ1 BK212; have hcz92_2 := vZ2 BK212; have hcz92_3 := vZ3 BK212; have hfz92_0 := kF BK212.out 0; have hfz92_1 := kF BK212.out 1; have hfz92_2 := kF BK212.out 2; have hfz92_3 := kF BK212.out 3))
      refine bodyPost_ret (results_cell_row rfl _ _ gb212 61 #[.int .i64 a0_0, .int .i64 a0_1, .int .i64 a0_2, .int .i64 t218] (0, 0) _ rfl (fQ BK212) Try.underlying61 rfl kR) rfl ?_
      exact ⟨wQ, bE⟩
     ·rw [if_neg c72] at H; have c72b0 : (a0_0 == 4) = false := beq_eq_false_iff_ne.mpr c72; have c72b1 : (a0_0 != 4) = true := bne_iff_ne.mpr c72; replace H := bS H; obtain ⟨t219, A93, H⟩ := H
      by_cases c94 : t219 < 2
      ·rw [if_pos c94] at H; have c94b0 := dE c94; clear c94
       simp only [Option.some.injEq, Prod.mk.injEq] at H
       obtain ⟨rfl, rfl, rfl, rfl⟩ := H
       go_enter Try.func62, Try.ntmps62
       go_wp2_with (first | ((with_reducible refine gate_dst (N := 2) rfl ?_); refine bV 2 (cs := #[.int .i64 a0_0, .int .i64 a0_1, .int .i64 a0_2, .int .i64 a0_3]) (t := 61) rfl rfl (by first | (go_simp; done) | (go_simp; rfl)) ?_; intro gb210 hg w95 hbox hb; have BK210 := hbox; have GW210 := gZ HB hg; have GE210 := gZ HB hg; replace HB := tB HB hb; clear hb hbox hg) | ((with_reducible refine gate_dst (N := 3) rfl ?_); refine bV 3 (cs := #[.int .i64 a1_0, .int .i64 a1_1]) (t := 54) rfl rfl (by first | (go_simp; done) | (go_simp; rfl)) ?_; intro gb211 hg w96 hbox hb; have BK211 := hbox; have GW211 := gZ HB hg; have GE211 := gZ HB hg; have NB210_211 := nG BK210 hg; have NB211_210 := nH BK210 hg; replace BK210 := bB BK210 hb; replace HB := tB HB hb; clear hb hbox hg) | ((with_reducible refine gate_dst (N := 4) rfl ?_); refine bV 4 (cs := #[.int .i64 0, .int .i64 0, .int .i64 0, .int .i64 0]) (t := 61) rfl rfl (by first | (go_simp; done) | (go_simp; rfl)) ?_; intro gb212 hg w97 hbox hb; have BK212 := hbox; have GW212 := gZ HB hg; have GE212 := gZ HB hg; have NB210_212 := nG BK210 hg; have NB212_210 := nH BK210 hg; have NB211_212 := nG BK211 hg; have NB212_211 := nH BK211 hg; replace BK210 := bB BK210 hb; replace BK211 := bB BK211 hb; replace HB := tB HB hb; clear hb hbox hg; have hnb98 := NB210_211.out; have hnc98 := NB211_210.out; have hnb99 := NB210_212.out; have hnc99 := NB212_210.out; have hcz100_0 := vZ0 BK210; have hcz100_1 := vZ1 BK210; have hcz100_2 := vZ2 BK210; have hcz100_3 := vZ3 BK210; have hfz100_0 := kF BK210.out 0; have hfz100_1 := kF BK210.out 1; have hfz100_2 := kF BK210.out 2; have hfz100_3 := kF BK210.out 3) | ((with_reducible refine gate_dst (N := 5) rfl ?_); refine bV 5 (cs := #[.int .i64 0, .int .i64 0]) (t := 54) rfl rfl (by first | (go_simp; done) | (go_simp; rfl)) ?_; intro gb213 hg w101 hbox hb; have BK213 := hbox; have GW213 := gZ HB hg; have GE213 := gZ HB hg; have NB210_213 := nG BK210 hg; have NB213_210 := nH BK210 hg; have NB211_213 := nG BK211 hg; have NB213_211 := nH BK211 hg; have NB212_213 := nG BK212 hg; have NB213_212 := nH BK212 hg; replace BK210 := bB BK210 hb; replace BK211 := bB BK211 hb; replace BK212 := bB BK212 hb; replace HB := tB HB hb; clear hb hbox hg; have hnb102 := NB213_210.out; have hnc102 := NB210_213.out; have hnb103 := NB213_211.out; have hnc103 := NB211_213.out; have hnb104 := NB213_212.out; have hnc104 := NB212_213.out; have hcz105_0 := vZ0 BK213; have hcz105_1 := vZ1 BK213; have hfz105_0 := kF BK213.out 0; have hfz105_1 := kF BK213.out 1; have hcz106_0 := vZ0 BK210; have hcz106_1 := vZ1 BK210; have hcz106_2 := vZ2 BK210; have hcz106_3 := vZ3 BK210; have hfz106_0 := kF BK210.out 0; have hfz106_1 := kF BK210.out 1; have hfz106_2 := kF BK210.out 2; have hfz106_3 := kF BK210.out 3; have hnb107 := NB211_212.out; have hnc107 := NB212_211.out; have hcz108_0 := vZ0 BK211; have hcz108_1 := vZ1 BK211; have hfz108_0 := kF BK211.out 0; have hfz108_1 := kF BK211.out 1) | ((with_reducible refine gC (f := 71) rfl ?_); refine goesL_ (some 16) rfl rfl Try.func71 kR rfl #[.agg #[.int .i64 a1_0, .int .i64 a1_1], .agg #[.int .i64 a0_1, .int .i64 a0_2]] rfl sQ ?_; (with_reducible refine (impl_steps.calls k a1_0 a1_1 a0_1 a0_2 t219 _ A93.out).mono ?_); rintro e w109 ⟨rfl, hb⟩; refine ⟨_, rfl, ?_⟩; replace BK210 := aM (blk_below (g := gb210) (o := .cells #[.int .i64 a0_0, .int .i64 a0_1, .int .i64 a0_2, .int .i64 0] 61 (0, 0)) (fQ BK210) hb); replace BK211 := aM (blk_below (g := gb211) (o := .cells #[.int .i64 a1_0, .int .i64 a1_1] 54 (0, 0)) (fQ BK211) hb); replace BK212 := aM (blk_below (g := gb212) (o := .cells #[.int .i64 0, .int .i64 0, .int .i64 0, .int .i64 0] 61 (0, 0)) (fQ BK212) hb); replace BK213 := aM (blk_below (g := gb213) (o := .cells #[.int .i64 a0_1, .int .i64 a0_2] 54 (0, 0)) (fQ BK213) hb); replace HB := tB HB hb; (try clear hb); (try clear hb2); (try clear hk); (try clear hi); have hcz110_0 := vZ0 BK210; have hcz110_1 := vZ1 BK210; have hcz110_2 := vZ2 BK210; have hcz110_3 := vZ3 BK210; have hfz110_0 := kF BK210.out 0; have hfz110_1 := kF BK210.out 1; have hfz110_2 := kF BK210.out 2; have hfz110_3 := kF BK210.out 3; have hcz111_0 := vZ0 BK212; have hcz111_1 := vZ1 BK212; have hcz111_2 := vZ2 BK212; have hcz111_3 := vZ3 BK212; have hfz111_0 := kF BK212.out 0; have hfz111_1 := kF BK212.out 1; have hfz111_2 := kF BK212.out 2; have hfz111_3 := kF BK212.out 3))
       refine bodyPost_ret (results_cell_row rfl _ _ gb212 61 #[.int .i64 a0_0, .int .i64 a0_1, .int .i64 a0_2, .int .i64 1] (0, 0) _ rfl (fQ BK212) Try.underlying61 rfl kR) rfl ?_
       exact ⟨wQ, bE⟩
      ·rw [if_neg c94] at H; have c94b0 := decide_eq_false c94; clear c94
       simp only [Option.some.injEq, Prod.mk.injEq] at H
       obtain ⟨rfl, rfl, rfl, rfl⟩ := H
       go_enter Try.func62, Try.ntmps62
       go_wp2_with (first | ((with_reducible refine gate_dst (N := 2) rfl ?_); refine bV 2 (cs := #[.int .i64 a0_0, .int .i64 a0_1, .int .i64 a0_2, .int .i64 a0_3]) (t := 61) rfl rfl (by first | (go_simp; done) | (go_simp; rfl)) ?_; intro gb210 hg w112 hbox hb; have BK210 := hbox; have GW210 := gZ HB hg; have GE210 := gZ HB hg; replace HB := tB HB hb; clear hb hbox hg) | ((with_reducible refine gate_dst (N := 3) rfl ?_); refine bV 3 (cs := #[.int .i64 a1_0, .int .i64 a1_1]) (t := 54) rfl rfl (by first | (go_simp; done) | (go_simp; rfl)) ?_; intro gb211 hg w113 hbox hb; have BK211 := hbox; have GW211 := gZ HB hg; have GE211 := gZ HB hg; have NB210_211 := nG BK210 hg; have NB211_210 := nH BK210 hg; replace BK210 := bB BK210 hb; replace HB := tB HB hb; clear hb hbox hg) | ((with_reducible refine gate_dst (N := 4) rfl ?_); refine bV 4 (cs := #[.int .i64 0, .int .i64 0, .int .i64 0, .int .i64 0]) (t := 61) rfl rfl (by first | (go_simp; done) | (go_simp; rfl)) ?_; intro gb212 hg w114 hbox hb; have BK212 := hbox; have GW212 := gZ HB hg; have GE212 := gZ HB hg; have NB210_212 := nG BK210 hg; have NB212_210 := nH BK210 hg; have NB211_212 := nG BK211 hg; have NB212_211 := nH BK211 hg; replace BK210 := bB BK210 hb; replace BK211 := bB BK211 hb; replace HB := tB HB hb; clear hb hbox hg; have hnb115 := NB210_211.out; have hnc115 := NB211_210.out; have hnb116 := NB210_212.out; have hnc116 := NB212_210.out; have hcz117_0 := vZ0 BK210; have hcz117_1 := vZ1 BK210; have hcz117_2 := vZ2 BK210; have hcz117_3 := vZ3 BK210; have hfz117_0 := kF BK210.out 0; have hfz117_1 := kF BK210.out 1; have hfz117_2 := kF BK210.out 2; have hfz117_3 := kF BK210.out 3) | ((with_reducible refine gate_dst (N := 5) rfl ?_); refine bV 5 (cs := #[.int .i64 0, .int .i64 0]) (t := 54) rfl rfl (by first | (go_simp; done) | (go_simp; rfl)) ?_; intro gb213 hg w118 hbox hb; have BK213 := hbox; have GW213 := gZ HB hg; have GE213 := gZ HB hg; have NB210_213 := nG BK210 hg; have NB213_210 := nH BK210 hg; have NB211_213 := nG BK211 hg; have NB213_211 := nH BK211 hg; have NB212_213 := nG BK212 hg; have NB213_212 := nH BK212 hg; replace BK210 := bB BK210 hb; replace BK211 := bB BK211 hb; replace BK212 := bB BK212 hb; replace HB := tB HB hb; clear hb hbox hg; have hnb119 := NB213_210.out; have hnc119 := NB210_213.out; have hnb120 := NB213_211.out; have hnc120 := NB211_213.out; have hnb121 := NB213_212.out; have hnc121 := NB212_213.out; have hcz122_0 := vZ0 BK213; have hcz122_1 := vZ1 BK213; have hfz122_0 := kF BK213.out 0; have hfz122_1 := kF BK213.out 1; have hcz123_0 := vZ0 BK210; have hcz123_1 := vZ1 BK210; have hcz123_2 := vZ2 BK210; have hcz123_3 := vZ3 BK210; have hfz123_0 := kF BK210.out 0; have hfz123_1 := kF BK210.out 1; have hfz123_2 := kF BK210.out 2; have hfz123_3 := kF BK210.out 3; have hnb124 := NB211_212.out; have hnc124 := NB212_211.out; have hcz125_0 := vZ0 BK211; have hcz125_1 := vZ1 BK211; have hfz125_0 := kF BK211.out 0; have hfz125_1 := kF BK211.out 1) | ((with_reducible refine gC (f := 71) rfl ?_); refine goesL_ (some 16) rfl rfl Try.func71 kR rfl #[.agg #[.int .i64 a1_0, .int .i64 a1_1], .agg #[.int .i64 a0_1, .int .i64 a0_2]] rfl sQ ?_; (with_reducible refine (impl_steps.calls k a1_0 a1_1 a0_1 a0_2 t219 _ A93.out).mono ?_); rintro e w126 ⟨rfl, hb⟩; refine ⟨_, rfl, ?_⟩; replace BK210 := aM (blk_below (g := gb210) (o := .cells #[.int .i64 a0_0, .int .i64 a0_1, .int .i64 a0_2, .int .i64 0] 61 (0, 0)) (fQ BK210) hb); replace BK211 := aM (blk_below (g := gb211) (o := .cells #[.int .i64 a1_0, .int .i64 a1_1] 54 (0, 0)) (fQ BK211) hb); replace BK212 := aM (blk_below (g := gb212) (o := .cells #[.int .i64 0, .int .i64 0, .int .i64 0, .int .i64 0] 61 (0, 0)) (fQ BK212) hb); replace BK213 := aM (blk_below (g := gb213) (o := .cells #[.int .i64 a0_1, .int .i64 a0_2] 54 (0, 0)) (fQ BK213) hb); replace HB := tB HB hb; (try clear hb); (try clear hb2); (try clear hk); (try clear hi); have hcz127_0 := vZ0 BK210; have hcz127_1 := vZ1 BK210; have hcz127_2 := vZ2 BK210; have hcz127_3 := vZ3 BK210; have hfz127_0 := kF BK210.out 0; have hfz127_1 := kF BK210.out 1; have hfz127_2 := kF BK210.out 2; have hfz127_3 := kF BK210.out 3; have hcz128_0 := vZ0 BK212; have hcz128_1 := vZ1 BK212; have hcz128_2 := vZ2 BK212; have hcz128_3 := vZ3 BK212; have hfz128_0 := kF BK212.out 0; have hfz128_1 := kF BK212.out 1; have hfz128_2 := kF BK212.out 2; have hfz128_3 := kF BK212.out 3))
       refine bodyPost_ret (results_cell_row rfl _ _ gb212 61 #[.int .i64 a0_0, .int .i64 a0_1, .int .i64 a0_2, .int .i64 0] (0, 0) _ rfl (fQ BK212) Try.underlying61 rfl kR) rfl ?_
       exact ⟨wQ, bE⟩

def impl_fits.f (k : Nat) (a0_0 : Int) (a0_1 : Int) (a0_2 : Int) (a0_3 : Int) (a1_0 : Int) (a1_1 : Int) : Option (Bool) := (impl_asHas.f k a0_0 a0_1 a0_2 a0_3 a1_0 a1_1).bind fun bt222 => (some (bt222.1 == a0_0 && (bt222.2.1 == a0_1 && (bt222.2.2.1 == a0_2 && (bt222.2.2.2 == a0_3)))))
theorem impl_fits.mono : ∀ a0 a1 a2 a3 a4 a5 k, LeO (impl_fits.f k a0 a1 a2 a3 a4 a5) (impl_fits.f (k + 1) a0 a1 a2 a3 a4 a5) := by
 intro a0 a1 a2 a3 a4 a5 k
 unfold impl_fits.f
 repeat' first | (with_reducible exact impl_asHas.mono _ _ _ _ _ _ _) | (with_reducible exact LeO.refl _) | (with_reducible exact LeO.none _) | (with_reducible refine LeO.ite ?_ ?_) | (with_reducible refine LeO.bind ?_ (fun _ => ?_)) | exact impl_asHas.mono _ _ _ _ _ _ _ | exact LeO.none _ | refine LeO.ite ?_ ?_ | refine LeO.bind ?_ (fun _ => ?_)
set_option maxHeartbeats 8000000 in
set_option maxRecDepth 100000 in
theorem impl_fits.calls (k : Nat) (a0_0 : Int) (a0_1 : Int) (a0_2 : Int) (a0_3 : Int) (a1_0 : Int) (a1_1 : Int) (r : Bool) (w : World) (h : impl_fits.f k a0_0 a0_1 a0_2 a0_3 a1_0 a1_1 = some r) :
  Calls Try.prog 54 #[.agg #[.int .i64 a0_0, .int .i64 a0_1, .int .i64 a0_2, .int .i64 a0_3], .agg #[.int .i64 a1_0, .int .i64 a1_1]] w fun e w' => e = .returned (.bool r) ∧ Below w.heap.size w w' := by
 have hu61 := Try.underlying61; have hu54 := Try.underlying54; have HB := aM (Below.refl w.heap.size w)
 unfold impl_fits.f at h; have H := h; clear h
 replace H := bS H; obtain ⟨⟨t222, t223, t224, t225⟩, A3, H⟩ := H; obtain rfl := Option.some.inj H
 go_enter Try.func54, Try.ntmps54
 try go_wp2_with (first | ((with_reducible refine gate_dst (N := 2) rfl ?_); refine bV 2 (cs := #[.int .i64 a0_0, .int .i64 a0_1, .int .i64 a0_2, .int .i64 a0_3]) (t := 61) rfl rfl (by first | (go_simp; done) | (go_simp; rfl)) ?_; intro gb220 hg w4 hbox hb; have BK220 := hbox; have GW220 := gZ HB hg; have GE220 := gZ HB hg; replace HB := tB HB hb; clear hb hbox hg) | ((with_reducible refine gate_dst (N := 3) rfl ?_); refine bV 3 (cs := #[.int .i64 a1_0, .int .i64 a1_1]) (t := 54) rfl rfl (by first | (go_simp; done) | (go_simp; rfl)) ?_; intro gb221 hg w5 hbox hb; have BK221 := hbox; have GW221 := gZ HB hg; have GE221 := gZ HB hg; have NB220_221 := nG BK220 hg; have NB221_220 := nH BK220 hg; replace BK220 := bB BK220 hb; replace HB := tB HB hb; clear hb hbox hg))
 replace BK220 := aM (kD BK220.out); replace BK221 := aM (kD BK221.out); replace HB := aM (pD HB.out)
 refine start_ (n := 6) (S := fun w' => w'.cell? ⟨gb220, 0, none⟩ = some (.int .i64 a0_0) ∧ w'.cell? ⟨gb220, 1, none⟩ = some (.int .i64 a0_1) ∧ w'.cell? ⟨gb220, 2, none⟩ = some (.int .i64 a0_2) ∧ w'.cell? ⟨gb220, 3, none⟩ = some (.int .i64 a0_3) ∧ w'.cell? ⟨gb221, 0, none⟩ = some (.int .i64 a1_0) ∧ w'.cell? ⟨gb221, 1, none⟩ = some (.int .i64 a1_1)) (ds := []) (bA 6 0) kR rfl kR ⟨vZ0 BK220, vZ1 BK220, vZ2 BK220, vZ3 BK220, vZ0 BK221, vZ1 BK221⟩ (fun hHeld => ?_)
 generalize w5.drew = w6 at BK220 BK221 HB hHeld ⊢
 refine take_ (i := 0) (N := some 5) (v := ?_) (a' := ?_) (bA 6 1) rfl rfl kR (fun _ _ _ h => h) (Or.inl ⟨by rfl, ?_⟩) hHeld ?_ ?_
 rotate_left
 ·rintro w' ⟨s0, s1, s2, s3, s4, s5⟩
  go_simp
  with_reducible rfl
 rotate_left
 ·simp only [Act.put, sI, sZ, sS, i64_w, i32_w]
  rfl
 refine take_ (i := 1) (N := some 6) (v := ?_) (a' := ?_) (bA 6 3) rfl rfl kR (fun _ _ _ h => h) (Or.inl ⟨by rfl, ?_⟩) hHeld ?_ ?_
 rotate_left
 ·rintro w' ⟨s0, s1, s2, s3, s4, s5⟩
  go_simp
  with_reducible rfl
 rotate_left
 ·simp only [Act.put, sI, sZ, sS, i64_w, i32_w]
  rfl
 refine take_ (i := 3) (N := some 8) (v := ?_) (a' := ?_) (bA 6 11) rfl rfl kR (fun _ _ _ h => h) (Or.inl ⟨by rfl, ?_⟩) hHeld ?_ ?_
 rotate_left
 ·rintro w' ⟨s0, s1, s2, s3, s4, s5⟩
  go_simp
  with_reducible rfl
 rotate_left
 ·simp only [Act.put, sI, sZ, sS, i64_w, i32_w]
  rfl
 refine one_ (i := 2) (N := some 7) (bA 6 15) rfl rfl kR (by decide) (fun K hK => ?_)
 refine goes_ Try.func62 kR rfl #[.agg #[.int .i64 a0_0, .int .i64 a0_1, .int .i64 a0_2, .int .i64 a0_3], .agg #[.int .i64 a1_0, .int .i64 a1_1]] (by rfl) rfl rfl sQ ?_
 with_reducible refine (impl_asHas.calls k a0_0 a0_1 a0_2 a0_3 a1_0 a1_1 t222 t223 t224 t225 _ A3.out).mono ?_
 rintro e w7 ⟨rfl, hb⟩; refine ⟨_, rfl, ?_⟩; replace BK220 := bB BK220 hb; replace BK221 := bB BK221 hb; replace HB := tB HB hb; (try clear hb); (try clear hb2); (try clear hk); (try clear hi)
 refine hK.out _ _ ⟨vZ0 BK220, vZ1 BK220, vZ2 BK220, vZ3 BK220, vZ0 BK221, vZ1 BK221⟩ (fun hHeld => ?_)
 clear hK K
 refine nU ?_
 refine pure_ (i := 4) (N := some 9) (v := ?_) (a' := ?_) (bA 6 31) rfl rfl kR (fun _ _ _ h => h) (Or.inl ⟨by rfl, ?_⟩) ?_ ?_
 rotate_left
 ·intro w'
  go_simp
  with_reducible rfl
 rotate_left
 ·simp only [Act.put, sI, sZ, sS, i64_w, i32_w]
  rfl
 refine pure_ (i := 5) (N := some 4) (v := ?_) (a' := ?_) (bA 6 63) rfl rfl kR (fun _ _ _ h => h) (Or.inl ⟨by rfl, ?_⟩) ?_ ?_
 rotate_left
 ·intro w'
  go_simp
  with_reducible rfl
 rotate_left
 ·simp only [Act.put, sI, sZ, sS, i64_w, i32_w]
  rfl
 refine done_ kR ?_
 try go_wp2
 go_ret
 exact ⟨wQ, bE⟩

def impl_Puzzle_solutions_1_1.f (k : Nat) (a0_0 : Int) (a0_1 : Int) (a0_2 : Int) (a0_3 : Int) (a1_0 : Int) (a1_1 : Int) : Option (Bool) := (impl_fits.f k a0_0 a0_1 a0_2 a0_3 a1_0 a1_1).bind fun t227 => (some (!t227))
theorem impl_Puzzle_solutions_1_1.mono : ∀ a0 a1 a2 a3 a4 a5 k, LeO (impl_Puzzle_solutions_1_1.f k a0 a1 a2 a3 a4 a5) (impl_Puzzle_solutions_1_1.f (k + 1) a0 a1 a2 a3 a4 a5) := by
 intro a0 a1 a2 a3 a4 a5 k
 unfold impl_Puzzle_solutions_1_1.f
 repeat' first | (with_reducible exact impl_fits.mono _ _ _ _ _ _ _) | (with_reducible exact LeO.refl _) | (with_reducible exact LeO.none _) | (with_reducible refine LeO.ite ?_ ?_) | (with_reducible refine LeO.bind ?_ (fun _ => ?_)) | exact impl_fits.mono _ _ _ _ _ _ _ | exact LeO.none _ | refine LeO.ite ?_ ?_ | refine LeO.bind ?_ (fun _ => ?_)
set_option maxHeartbeats 8000000 in
set_option maxRecDepth 100000 in
theorem impl_Puzzle_solutions_1_1.calls (k : Nat) (a0_0 : Int) (a0_1 : Int) (a0_2 : Int) (a0_3 : Int) (gx1 : Nat) (a1_0 : Int) (a1_1 : Int) (r : Bool) (w : World) (hbx1 : w.heap[gx1]? = some (.cells #[.int .i64 a1_0, .int .i64 a1_1] 54 (0, 0))) (h : impl_Puzzle_solutions_1_1.f k a0_0 a0_1 a0_2 a0_3 a1_0 a1_1 = some r) :
  Calls Try.prog 53 #[.agg #[.int .i64 a0_0, .int .i64 a0_1, .int .i64 a0_2, .int .i64 a0_3], .pointer (some ⟨gx1, 0, none⟩)] w fun e w' => e = .returned (.bool r) ∧ Below w.heap.size w w' := by
 have hu61 := Try.underlying61; have hu54 := Try.underlying54; have BK1 := aM hbx1; clear hbx1; have HB := aM (Below.refl w.heap.size w)
 unfold impl_Puzzle_solutions_1_1.f at h; have H := h; clear h
 replace H := bS H; obtain ⟨t227, A3, H⟩ := H; obtain rfl := Option.some.inj H
 go_enter Try.func53, Try.ntmps53
 go_wp2_with (first | ((with_reducible refine gate_dst (N := 2) rfl ?_); refine bV 2 (cs := #[.int .i64 a0_0, .int .i64 a0_1, .int .i64 a0_2, .int .i64 a0_3]) (t := 61) rfl rfl (by first | (go_simp; done) | (go_simp; rfl)) ?_; intro gb226 hg w4 hbox hb; have BK226 := hbox; have GW226 := gZ HB hg; have GE226 := gZ HB hg; have NB1_226 := aM ((by rw [hg]; exact nN (blk_lt (g := gx1) (o := .cells #[.int .i64 a1_0, .int .i64 a1_1] 54 (0, 0)) (gQ BK1)) : gx1 ≠ gb226)); have NB226_1 := aM ((by rw [hg]; exact Nat.ne_of_gt (blk_lt (g := gx1) (o := .cells #[.int .i64 a1_0, .int .i64 a1_1] 54 (0, 0)) (gQ BK1)) : gb226 ≠ gx1)); replace BK1 := aM (blk_below (g := gx1) (o := .cells #[.int .i64 a1_0, .int .i64 a1_1] 54 (0, 0)) (gQ BK1) hb); replace HB := tB HB hb; clear hb hbox hg; have hnb5 := NB226_1.out; have hnc5 := NB1_226.out; have hcz6_0 := vZ0 BK226; have hcz6_1 := vZ1 BK226; have hcz6_2 := vZ2 BK226; have hcz6_3 := vZ3 BK226; have hfz6_0 := kF BK226.out 0; have hfz6_1 := kF BK226.out 1; have hfz6_2 := kF BK226.out 2; have hfz6_3 := kF BK226.out 3; have hcz7_0 : w4.cell? ⟨gx1, 0, none⟩ = some (.int .i64 a1_0) := vZ0 BK1; have hcz7_1 : w4.cell? ⟨gx1, 1, none⟩ = some (.int .i64 a1_1) := vZ1 BK1; have hfz7_0 := kF BK1.out 0; have hfz7_1 := kF BK1.out 1) | ((with_reducible refine gC (f := 54) rfl ?_); refine goesL_ (some 6) rfl rfl Try.func54 kR rfl #[.agg #[.int .i64 a0_0, .int .i64 a0_1, .int .i64 a0_2, .int .i64 a0_3], .agg #[.int .i64 a1_0, .int .i64 a1_1]] rfl sQ ?_; (with_reducible refine (impl_fits.calls k a0_0 a0_1 a0_2 a0_3 a1_0 a1_1 t227 _ A3.out).mono ?_); rintro e w8 ⟨rfl, hb⟩; refine ⟨_, rfl, ?_⟩; replace BK1 := aM (blk_below (g := gx1) (o := .cells #[.int .i64 a1_0, .int .i64 a1_1] 54 (0, 0)) (gQ BK1) hb); replace BK226 := bB BK226 hb; replace HB := tB HB hb; (try clear hb); (try clear hb2); (try clear hk); (try clear hi)))
 go_ret
 exact ⟨wQ, bE⟩

def slices_IndexFunc_impl_Clue_at_impl_Puzzle_solutions_1_1.l0 : Nat → List (S_impl_Clue) → Int → Int → Int → Int → Option (Int)
 | 0, _, _, _, _, _ => none
 | k + 1, x0, x7, x8, x2000, x2001 => if x8 < x7 then (if 0 ≤ x8 then (if x8 < (x0.length : Int) then ((impl_Puzzle_solutions_1_1.f k ((rd_impl_Clue x0 x8).f0) ((rd_impl_Clue x0 x8).f1) ((rd_impl_Clue x0 x8).f2) ((rd_impl_Clue x0 x8).f3) x2000 x2001).bind fun t229 => (if t229 = true then (some x8) else (slices_IndexFunc_impl_Clue_at_impl_Puzzle_solutions_1_1.l0 k x0 x7 (wrap64 (x8 + 1)) x2000 x2001))) else (none)) else (none)) else (some (-1))
def slices_IndexFunc_impl_Clue_at_impl_Puzzle_solutions_1_1.f (k : Nat) (l0 : List (S_impl_Clue)) (a1_0 : Int) (a1_1 : Int) : Option (Int) := slices_IndexFunc_impl_Clue_at_impl_Puzzle_solutions_1_1.l0 k l0 (l0.length : Int) 0 a1_0 a1_1
theorem slices_IndexFunc_impl_Clue_at_impl_Puzzle_solutions_1_1.mono_l : ∀ k, (∀ y0 y1 y2 y3 y4, LeO (slices_IndexFunc_impl_Clue_at_impl_Puzzle_solutions_1_1.l0 k y0 y1 y2 y3 y4) (slices_IndexFunc_impl_Clue_at_impl_Puzzle_solutions_1_1.l0 (k + 1) y0 y1 y2 y3 y4))
 | 0 => fun _ _ _ _ _ r h => by simp [slices_IndexFunc_impl_Clue_at_impl_Puzzle_solutions_1_1.l0] at h
 | k + 1 => by
  have ih0 := slices_IndexFunc_impl_Clue_at_impl_Puzzle_solutions_1_1.mono_l k
  ·intro y0 y1 y2 y3 y4
   unfold slices_IndexFunc_impl_Clue_at_impl_Puzzle_solutions_1_1.l0
   repeat' first
   | (with_reducible exact ih0 _ _ _ _ _)
   | (with_reducible exact impl_Puzzle_solutions_1_1.mono _ _ _ _ _ _ _)
   | (with_reducible exact LeO.refl _)
   | (with_reducible exact LeO.none _)
   | (with_reducible refine LeO.ite ?_ ?_)
   | (with_reducible refine LeO.bind ?_ (fun _ => ?_))
   | exact ih0 _ _ _ _ _
   | exact impl_Puzzle_solutions_1_1.mono _ _ _ _ _ _ _
   | exact LeO.none _
   | refine LeO.ite ?_ ?_
   | refine LeO.bind ?_ (fun _ => ?_)
theorem slices_IndexFunc_impl_Clue_at_impl_Puzzle_solutions_1_1.mono : ∀ a0 a1 a2 k, LeO (slices_IndexFunc_impl_Clue_at_impl_Puzzle_solutions_1_1.f k a0 a1 a2) (slices_IndexFunc_impl_Clue_at_impl_Puzzle_solutions_1_1.f (k + 1) a0 a1 a2) := by
 intro a0 a1 a2 k
 have ih0 := slices_IndexFunc_impl_Clue_at_impl_Puzzle_solutions_1_1.mono_l k
 unfold slices_IndexFunc_impl_Clue_at_impl_Puzzle_solutions_1_1.f
 repeat' first | (with_reducible exact ih0 _ _ _ _ _) | (with_reducible exact impl_Puzzle_solutions_1_1.mono _ _ _ _ _ _ _) | (with_reducible exact LeO.refl _) | (with_reducible exact LeO.none _) | (with_reducible refine LeO.ite ?_ ?_) | (with_reducible refine LeO.bind ?_ (fun _ => ?_)) | exact ih0 _ _ _ _ _ | exact impl_Puzzle_solutions_1_1.mono _ _ _ _ _ _ _ | exact LeO.none _ | refine LeO.ite ?_ ?_ | refine LeO.bind ?_ (fun _ => ?_)
set_option maxHeartbeats 8000000 in
set_option maxRecDepth 100000 in
theorem slices_IndexFunc_impl_Clue_at_impl_Puzzle_solutions_1_1.calls (k : Nat) (A0 : Option Addr) (c0 : Nat) (l0 : List (S_impl_Clue)) (gx1 : Nat) (a1_0 : Int) (a1_1 : Int) (r : Int) (w : World) (hr0 : Kd.C kd_impl_Clue w A0 l0.length l0) (hc0 : l0.length ≤ c0) (hbx1 : w.heap[gx1]? = some (.cells #[.int .i64 a1_0, .int .i64 a1_1] 54 (0, 0))) (h : slices_IndexFunc_impl_Clue_at_impl_Puzzle_solutions_1_1.f k l0 a1_0 a1_1 = some r) :
  Calls Try.prog 60 #[.slice A0 l0.length c0, .func (.func 53) #[] #[.pointer (some ⟨gx1, 0, none⟩)]] w fun e w' => e = .returned (.int .i64 r) ∧ Below w.heap.size w w' := by
 have hu61 := Try.underlying61; have HR0 := aM hr0; have HC0 := aM hc0; clear hr0 hc0; have BK1 := aM hbx1; clear hbx1; have HB := aM (Below.refl w.heap.size w)
 unfold slices_IndexFunc_impl_Clue_at_impl_Puzzle_solutions_1_1.f at h; have H := h; clear h
 have H' := aM H; clear H
 go_enter Try.func60, Try.ntmps60
 go_wp2
 go_loopg [8] k (fun kq v8 w' => ∃ (x8_1 : Int), v8 = .int .i64 x8_1 ∧ Aside0 (slices_IndexFunc_impl_Clue_at_impl_Puzzle_solutions_1_1.l0 kq l0 (l0.length : Int) x8_1 a1_0 a1_1 = some r) ∧ Aside0 (kq ≤ k) ∧ Aside0 (w'.heap[gx1]? = some (.cells #[.int .i64 a1_0, .int .i64 a1_1] 54 (0, 0))) ∧ Aside0 (Below w.heap.size w w'))
 case atStart => exact ⟨(0), eQ, H', ⟨Nat.le_refl _⟩, ⟨gQ BK1⟩, ⟨bE⟩⟩
 case round =>
  clear H'; obtain ⟨x8_1, rfl, HA, HK1, BK1, HB⟩ := hrel
  cases gk with
  | zero => exact absurd HA.out (by simp [slices_IndexFunc_impl_Clue_at_impl_Puzzle_solutions_1_1.l0])
  | succ k1 =>
   have H := HA.out; clear HA
   simp only [slices_IndexFunc_impl_Clue_at_impl_Puzzle_solutions_1_1.l0] at H
   by_cases c3 : x8_1 < (l0.length : Int)
   ·rw [if_pos c3] at H; have c3b0 := dE c3; clear c3; replace H := iD H; obtain ⟨c4b0, H⟩ := H; replace H := iD H; obtain ⟨c5b0, H⟩ := H; replace H := bS H; obtain ⟨t229, A6, H⟩ := H
    by_cases c7 : t229 = true
    ·subst c7; replace H := iT H; obtain rfl := Option.some.inj H; have p228 : 0 ≤ (x8_1 : Int) := dT aQ; have q228 : x8_1 < (l0.length : Int) := dT aQ; obtain ⟨ad228, e228, hx228_0, hx228_1, hx228_2, hx228_3⟩ := at_impl_Clue HR0.out x8_1 p228 q228
     cases e228
     replace hx228_0 := hC HB hx228_0; replace hx228_1 := hC HB hx228_1; replace hx228_2 := hC HB hx228_2; replace hx228_3 := hC HB hx228_3; replace p228 := eq_true p228; replace q228 := eq_true q228
     go_wp2_with (first | ((with_reducible refine gate_tmp rfl ?_); refine goesLTC_ (some 16) rfl rfl Try.func53 kR rfl #[.agg #[.int .i64 ((rd_impl_Clue l0 x8_1).f0), .int .i64 ((rd_impl_Clue l0 x8_1).f1), .int .i64 ((rd_impl_Clue l0 x8_1).f2), .int .i64 ((rd_impl_Clue l0 x8_1).f3)], .pointer (some ⟨gx1, 0, none⟩)] #[] #[.pointer (some ⟨gx1, 0, none⟩)] rfl (by first | rfl | (simp [Act.eval]; done)) (by (try simp only [mA, mC, mN, List.append_toArray, List.nil_append, List.cons_append, List.append_nil]); (try simp only [mA, mC, mN]); first | done | rfl | (simp only [lD, lT]; rfl)) ?_; (with_reducible refine (impl_Puzzle_solutions_1_1.calls k1 ((rd_impl_Clue l0 x8_1).f0) ((rd_impl_Clue l0 x8_1).f1) ((rd_impl_Clue l0 x8_1).f2) ((rd_impl_Clue l0 x8_1).f3) gx1 a1_0 a1_1 true _ ?side1 A6.out).mono ?_); (case side1 => exact (gQ BK1)); rintro e w8 ⟨rfl, hb⟩; refine ⟨_, rfl, ?_⟩; replace BK1 := aM (blk_below (g := gx1) (o := .cells #[.int .i64 a1_0, .int .i64 a1_1] 54 (0, 0)) (gQ BK1) hb); replace HB := tB HB hb; (try clear hb); (try clear hb2); (try clear hk); (try clear hi)))
     go_ret
     exact ⟨wQ, bE⟩
    ·replace c7 := Bool.eq_false_iff.mpr c7; subst c7; replace H := iF H; have H' := aM H; clear H; have p228 : 0 ≤ (x8_1 : Int) := dT aQ; have q228 : x8_1 < (l0.length : Int) := dT aQ; obtain ⟨ad228, e228, hx228_0, hx228_1, hx228_2, hx228_3⟩ := at_impl_Clue HR0.out x8_1 p228 q228
     cases e228
     replace hx228_0 := hC HB hx228_0; replace hx228_1 := hC HB hx228_1; replace hx228_2 := hC HB hx228_2; replace hx228_3 := hC HB hx228_3; replace p228 := eq_true p228; replace q228 := eq_true q228
     go_wp2_with (first | ((with_reducible refine gate_tmp rfl ?_); refine goesLTC_ (some 16) rfl rfl Try.func53 kR rfl #[.agg #[.int .i64 ((rd_impl_Clue l0 x8_1).f0), .int .i64 ((rd_impl_Clue l0 x8_1).f1), .int .i64 ((rd_impl_Clue l0 x8_1).f2), .int .i64 ((rd_impl_Clue l0 x8_1).f3)], .pointer (some ⟨gx1, 0, none⟩)] #[] #[.pointer (some ⟨gx1, 0, none⟩)] rfl (by first | rfl | (simp [Act.eval]; done)) (by (try simp only [mA, mC, mN, List.append_toArray, List.nil_append, List.cons_append, List.append_nil]); (try simp only [mA, mC, mN]); first | done | rfl | (simp only [lD, lT]; rfl)) ?_; (with_reducible refine (impl_Puzzle_solutions_1_1.calls k1 ((rd_impl_Clue l0 x8_1).f0) ((rd_impl_Clue l0 x8_1).f1) ((rd_impl_Clue l0 x8_1).f2) ((rd_impl_Clue l0 x8_1).f3) gx1 a1_0 a1_1 false _ ?side1 A6.out).mono ?_); (case side1 => exact (gQ BK1)); rintro e w9 ⟨rfl, hb⟩; refine ⟨_, rfl, ?_⟩; replace BK1 := aM (blk_below (g := gx1) (o := .cells #[.int .i64 a1_0, .int .i64 a1_1] 54 (0, 0)) (gQ BK1) hb); replace HB := tB HB hb; (try clear hb); (try clear hb2); (try clear hk); (try clear hi)))
     go_roundg k1
     case measure => have := HK1.out; omega
     case rel => exact ⟨(wrap64 (x8_1 + 1)), eQ, H', ⟨by have := HK1.out; omega⟩, ⟨gQ BK1⟩, ⟨bE⟩⟩
   ·rw [if_neg c3] at H; have c3b0 := decide_eq_false c3; clear c3; obtain rfl := Option.some.inj H; go_wp2
    go_ret
    exact ⟨wQ, bE⟩

def slices_ContainsFunc_impl_Clue_at_impl_Puzzle_solutions_1_1.f (k : Nat) (l0 : List (S_impl_Clue)) (a1_0 : Int) (a1_1 : Int) : Option (Bool) := (slices_IndexFunc_impl_Clue_at_impl_Puzzle_solutions_1_1.f k l0 a1_0 a1_1).bind fun t230 => (some (decide (t230 ≥ 0)))
theorem slices_ContainsFunc_impl_Clue_at_impl_Puzzle_solutions_1_1.mono : ∀ a0 a1 a2 k, LeO (slices_ContainsFunc_impl_Clue_at_impl_Puzzle_solutions_1_1.f k a0 a1 a2) (slices_ContainsFunc_impl_Clue_at_impl_Puzzle_solutions_1_1.f (k + 1) a0 a1 a2) := by
 intro a0 a1 a2 k
 unfold slices_ContainsFunc_impl_Clue_at_impl_Puzzle_solutions_1_1.f
 repeat' first | (with_reducible exact slices_IndexFunc_impl_Clue_at_impl_Puzzle_solutions_1_1.mono _ _ _ _) | (with_reducible exact LeO.refl _) | (with_reducible exact LeO.none _) | (with_reducible refine LeO.ite ?_ ?_) | (with_reducible refine LeO.bind ?_ (fun _ => ?_)) | exact slices_IndexFunc_impl_Clue_at_impl_Puzzle_solutions_1_1.mono _ _ _ _ | exact LeO.none _ | refine LeO.ite ?_ ?_ | refine LeO.bind ?_ (fun _ => ?_)
set_option maxHeartbeats 8000000 in
set_option maxRecDepth 100000 in
theorem slices_ContainsFunc_impl_Clue_at_impl_Puzzle_solutions_1_1.calls (k : Nat) (A0 : Option Addr) (c0 : Nat) (l0 : List (S_impl_Clue)) (gx1 : Nat) (a1_0 : Int) (a1_1 : Int) (r : Bool) (w : World) (hr0 : Kd.C kd_impl_Clue w A0 l0.length l0) (hc0 : l0.length ≤ c0) (hbx1 : w.heap[gx1]? = some (.cells #[.int .i64 a1_0, .int .i64 a1_1] 54 (0, 0))) (h : slices_ContainsFunc_impl_Clue_at_impl_Puzzle_solutions_1_1.f k l0 a1_0 a1_1 = some r) :
  Calls Try.prog 47 #[.slice A0 l0.length c0, .func (.func 53) #[] #[.pointer (some ⟨gx1, 0, none⟩)]] w fun e w' => e = .returned (.bool r) ∧ Below w.heap.size w w' := by
 have HR0 := aM hr0; have HC0 := aM hc0; clear hr0 hc0; have BK1 := aM hbx1; clear hbx1; have HB := aM (Below.refl w.heap.size w)
 unfold slices_ContainsFunc_impl_Clue_at_impl_Puzzle_solutions_1_1.f at h; have H := h; clear h
 replace H := bS H; obtain ⟨t230, A3, H⟩ := H; obtain rfl := Option.some.inj H
 go_enter Try.func47, Try.ntmps47
 go_wp2_with (first | ((with_reducible refine gC (f := 60) rfl ?_); refine goesL_ (some 7) rfl rfl Try.func60 kR rfl #[.slice A0 l0.length c0, .func (.func 53) #[] #[.pointer (some ⟨gx1, 0, none⟩)]] rfl sQ ?_; (with_reducible refine (slices_IndexFunc_impl_Clue_at_impl_Puzzle_solutions_1_1.calls k _ _ l0 gx1 a1_0 a1_1 t230 _ ?side1 ?side2 ?side3 A3.out).mono ?_); (case side1 => repeat (first | exact HR0.out | (with_reducible refine cA ?_ _) | (with_reducible refine cN ?_ _) | (with_reducible refine cD ?_))); (case side2 => exact HC0.out); (case side3 => exact (gQ BK1)); rintro e w4 ⟨rfl, hb⟩; refine ⟨_, rfl, ?_⟩; replace BK1 := aM (blk_below (g := gx1) (o := .cells #[.int .i64 a1_0, .int .i64 a1_1] 54 (0, 0)) (gQ BK1) hb); replace HB := tB HB hb; (try clear hb); (try clear hb2); (try clear hk); (try clear hi)))
 go_ret
 exact ⟨wQ, bE⟩

def impl_Puzzle_solutions_1.f (k : Nat) (a0_0 : Int) (a0_1 : Int) (l1_0 : List (S_impl_Clue)) : Option (Bool) := (slices_ContainsFunc_impl_Clue_at_impl_Puzzle_solutions_1_1.f k l1_0 a0_0 a0_1).bind fun t232 => (some t232)
theorem impl_Puzzle_solutions_1.mono : ∀ a0 a1 a2 k, LeO (impl_Puzzle_solutions_1.f k a0 a1 a2) (impl_Puzzle_solutions_1.f (k + 1) a0 a1 a2) := by
 intro a0 a1 a2 k
 unfold impl_Puzzle_solutions_1.f
 repeat' first | (with_reducible exact slices_ContainsFunc_impl_Clue_at_impl_Puzzle_solutions_1_1.mono _ _ _ _) | (with_reducible exact LeO.refl _) | (with_reducible exact LeO.none _) | (with_reducible refine LeO.ite ?_ ?_) | (with_reducible refine LeO.bind ?_ (fun _ => ?_)) | exact slices_ContainsFunc_impl_Clue_at_impl_Puzzle_solutions_1_1.mono _ _ _ _ | exact LeO.none _ | refine LeO.ite ?_ ?_ | refine LeO.bind ?_ (fun _ => ?_)
set_option maxHeartbeats 8000000 in
set_option maxRecDepth 100000 in
theorem impl_Puzzle_solutions_1.calls (k : Nat) (a0_0 : Int) (a0_1 : Int) (gx1 : Nat) (A1_0 : Option Addr) (c1_0 : Nat) (l1_0 : List (S_impl_Clue)) (r : Bool) (w : World) (hr1_0 : Kd.C kd_impl_Clue w A1_0 l1_0.length l1_0) (hc1_0 : l1_0.length ≤ c1_0) (hbx1 : w.heap[gx1]? = some (.cells #[.slice A1_0 l1_0.length c1_0] 29 (0, 0))) (h : impl_Puzzle_solutions_1.f k a0_0 a0_1 l1_0 = some r) :
  Calls Try.prog 52 #[.agg #[.int .i64 a0_0, .int .i64 a0_1], .pointer (some ⟨gx1, 0, none⟩)] w fun e w' => e = .returned (.bool r) ∧ Below w.heap.size w w' := by
 have hu54 := Try.underlying54; have hu29 := Try.underlying29; have HR1_0 := aM hr1_0; have HC1_0 := aM hc1_0; clear hr1_0 hc1_0; have BK1 := aM hbx1; clear hbx1; have HB := aM (Below.refl w.heap.size w)
 unfold impl_Puzzle_solutions_1.f at h; have H := h; clear h
 replace H := bS H; obtain ⟨t232, A3, H⟩ := H; obtain rfl := Option.some.inj H
 go_enter Try.func52, Try.ntmps52
 go_wp2_with (first | ((with_reducible refine gate_dst (N := 2) rfl ?_); refine bV 2 (cs := #[.int .i64 a0_0, .int .i64 a0_1]) (t := 54) rfl rfl (by first | (go_simp; done) | (go_simp; rfl)) ?_; intro gb231 hg w4 hbox hb; have BK231 := hbox; have GW231 := gZ HB hg; have GE231 := gZ HB hg; have NB1_231 := aM ((by rw [hg]; exact nN (blk_lt (g := gx1) (o := .cells #[.slice A1_0 l1_0.length c1_0] 29 (0, 0)) (gQ BK1)) : gx1 ≠ gb231)); have NB231_1 := aM ((by rw [hg]; exact Nat.ne_of_gt (blk_lt (g := gx1) (o := .cells #[.slice A1_0 l1_0.length c1_0] 29 (0, 0)) (gQ BK1)) : gb231 ≠ gx1)); replace BK1 := aM (blk_below (g := gx1) (o := .cells #[.slice A1_0 l1_0.length c1_0] 29 (0, 0)) (gQ BK1) hb); replace HB := tB HB hb; clear hb hbox hg; have hnb5 := NB1_231.out; have hnc5 := NB231_1.out; have hcz6_0 : w4.cell? ⟨gx1, 0, none⟩ = some (.slice A1_0 l1_0.length c1_0) := vZ0 BK1; have hfz6_0 := kF BK1.out 0) | ((with_reducible refine gC (f := 47) rfl ?_); refine goesL_ (some 6) rfl rfl Try.func47 kR rfl #[.slice A1_0 l1_0.length c1_0, .func (.func 53) #[] #[.pointer (some ⟨gb231, 0, none⟩)]] rfl sQ ?_; (with_reducible refine (slices_ContainsFunc_impl_Clue_at_impl_Puzzle_solutions_1_1.calls k _ _ l1_0 gb231 a0_0 a0_1 t232 _ ?side1 ?side2 ?side3 A3.out).mono ?_); (case side1 => repeat (first | exact (Kd.C_below HR1_0.out HB.out) | (with_reducible refine cA ?_ _) | (with_reducible refine cN ?_ _) | (with_reducible refine cD ?_))); (case side2 => exact HC1_0.out); (case side3 => exact (gQ BK231)); rintro e w7 ⟨rfl, hb⟩; refine ⟨_, rfl, ?_⟩; replace BK1 := aM (blk_below (g := gx1) (o := .cells #[.slice A1_0 l1_0.length c1_0] 29 (0, 0)) (gQ BK1) hb); replace BK231 := bB BK231 hb; replace HB := tB HB hb; (try clear hb); (try clear hb2); (try clear hk); (try clear hi)))
 go_ret
 exact ⟨wQ, bE⟩

def slices_IndexFunc_impl_Peg_at_impl_Puzzle_solutions_1.l0 : Nat → List (S_impl_Peg) → Int → Int → List (S_impl_Clue) → Option (Int)
 | 0, _, _, _, _ => none
 | k + 1, x0, x7, x8, x2000 => if x8 < x7 then (if 0 ≤ x8 then (if x8 < (x0.length : Int) then ((impl_Puzzle_solutions_1.f k ((rd_impl_Peg x0 x8).f0) ((rd_impl_Peg x0 x8).f1) x2000).bind fun t234 => (if t234 = true then (some x8) else (slices_IndexFunc_impl_Peg_at_impl_Puzzle_solutions_1.l0 k x0 x7 (wrap64 (x8 + 1)) x2000))) else (none)) else (none)) else (some (-1))
def slices_IndexFunc_impl_Peg_at_impl_Puzzle_solutions_1.f (k : Nat) (l0 : List (S_impl_Peg)) (l1_0 : List (S_impl_Clue)) : Option (Int) := slices_IndexFunc_impl_Peg_at_impl_Puzzle_solutions_1.l0 k l0 (l0.length : Int) 0 l1_0
theorem slices_IndexFunc_impl_Peg_at_impl_Puzzle_solutions_1.mono_l : ∀ k, (∀ y0 y1 y2 y3, LeO (slices_IndexFunc_impl_Peg_at_impl_Puzzle_solutions_1.l0 k y0 y1 y2 y3) (slices_IndexFunc_impl_Peg_at_impl_Puzzle_solutions_1.l0 (k + 1) y0 y1 y2 y3))
 | 0 => fun _ _ _ _ r h => by simp [slices_IndexFunc_impl_Peg_at_impl_Puzzle_solutions_1.l0] at h
 | k + 1 => by
  have ih0 := slices_IndexFunc_impl_Peg_at_impl_Puzzle_solutions_1.mono_l k
  ·intro y0 y1 y2 y3
   unfold slices_IndexFunc_impl_Peg_at_impl_Puzzle_solutions_1.l0
   repeat' first
   | (with_reducible exact ih0 _ _ _ _)
   | (with_reducible exact impl_Puzzle_solutions_1.mono _ _ _ _)
   | (with_reducible exact LeO.refl _)
   | (with_reducible exact LeO.none _)
   | (with_reducible refine LeO.ite ?_ ?_)
   | (with_reducible refine LeO.bind ?_ (fun _ => ?_))
   | exact ih0 _ _ _ _
   | exact impl_Puzzle_solutions_1.mono _ _ _ _
   | exact LeO.none _
   | refine LeO.ite ?_ ?_
   | refine LeO.bind ?_ (fun _ => ?_)
theorem slices_IndexFunc_impl_Peg_at_impl_Puzzle_solutions_1.mono : ∀ a0 a1 k, LeO (slices_IndexFunc_impl_Peg_at_impl_Puzzle_solutions_1.f k a0 a1) (slices_IndexFunc_impl_Peg_at_impl_Puzzle_solutions_1.f (k + 1) a0 a1) := by
 intro a0 a1 k
 have ih0 := slices_IndexFunc_impl_Peg_at_impl_Puzzle_solutions_1.mono_l k
 unfold slices_IndexFunc_impl_Peg_at_impl_Puzzle_solutions_1.f
 repeat' first | (with_reducible exact ih0 _ _ _ _) | (with_reducible exact impl_Puzzle_solutions_1.mono _ _ _ _) | (with_reducible exact LeO.refl _) | (with_reducible exact LeO.none _) | (with_reducible refine LeO.ite ?_ ?_) | (with_reducible refine LeO.bind ?_ (fun _ => ?_)) | exact ih0 _ _ _ _ | exact impl_Puzzle_solutions_1.mono _ _ _ _ | exact LeO.none _ | refine LeO.ite ?_ ?_ | refine LeO.bind ?_ (fun _ => ?_)
set_option maxHeartbeats 8000000 in
set_option maxRecDepth 100000 in
theorem slices_IndexFunc_impl_Peg_at_impl_Puzzle_solutions_1.calls (k : Nat) (A0 : Option Addr) (c0 : Nat) (l0 : List (S_impl_Peg)) (gx1 : Nat) (A1_0 : Option Addr) (c1_0 : Nat) (l1_0 : List (S_impl_Clue)) (r : Int) (w : World) (hr0 : Kd.C kd_impl_Peg w A0 l0.length l0) (hc0 : l0.length ≤ c0) (hr1_0 : Kd.C kd_impl_Clue w A1_0 l1_0.length l1_0) (hc1_0 : l1_0.length ≤ c1_0) (hbx1 : w.heap[gx1]? = some (.cells #[.slice A1_0 l1_0.length c1_0] 29 (0, 0))) (h : slices_IndexFunc_impl_Peg_at_impl_Puzzle_solutions_1.f k l0 l1_0 = some r) :
  Calls Try.prog 61 #[.slice A0 l0.length c0, .func (.func 52) #[] #[.pointer (some ⟨gx1, 0, none⟩)]] w fun e w' => e = .returned (.int .i64 r) ∧ Below w.heap.size w w' := by
 have hu54 := Try.underlying54; have HR0 := aM hr0; have HC0 := aM hc0; clear hr0 hc0; have HR1_0 := aM hr1_0; have HC1_0 := aM hc1_0; clear hr1_0 hc1_0; have BK1 := aM hbx1; clear hbx1; have HB := aM (Below.refl w.heap.size w)
 unfold slices_IndexFunc_impl_Peg_at_impl_Puzzle_solutions_1.f at h; have H := h; clear h
 have H' := aM H; clear H
 go_enter Try.func61, Try.ntmps61
 go_wp2
 go_loopg [8] k (fun kq v8 w' => ∃ (x8_1 : Int), v8 = .int .i64 x8_1 ∧ Aside0 (slices_IndexFunc_impl_Peg_at_impl_Puzzle_solutions_1.l0 kq l0 (l0.length : Int) x8_1 l1_0 = some r) ∧ Aside0 (kq ≤ k) ∧ Aside0 (w'.heap[gx1]? = some (.cells #[(.slice A1_0 l1_0.length c1_0)] 29 (0, 0))) ∧ Aside0 (Below w.heap.size w w'))
 case atStart => exact ⟨(0), eQ, H', ⟨Nat.le_refl _⟩, ⟨gQ BK1⟩, ⟨bE⟩⟩
 case round =>
  clear H'; obtain ⟨x8_1, rfl, HA, HK1, BK1, HB⟩ := hrel
  cases gk with
  | zero => exact absurd HA.out (by simp [slices_IndexFunc_impl_Peg_at_impl_Puzzle_solutions_1.l0])
  | succ k1 =>
   have H := HA.out; clear HA
   simp only [slices_IndexFunc_impl_Peg_at_impl_Puzzle_solutions_1.l0] at H
   by_cases c3 : x8_1 < (l0.length : Int)
   ·rw [if_pos c3] at H; have c3b0 := dE c3; clear c3; replace H := iD H; obtain ⟨c4b0, H⟩ := H; replace H := iD H; obtain ⟨c5b0, H⟩ := H; replace H := bS H; obtain ⟨t234, A6, H⟩ := H
    by_cases c7 : t234 = true
    ·subst c7; replace H := iT H; obtain rfl := Option.some.inj H; have p233 : 0 ≤ (x8_1 : Int) := dT aQ; have q233 : x8_1 < (l0.length : Int) := dT aQ; obtain ⟨ad233, e233, hx233_0, hx233_1⟩ := at_impl_Peg HR0.out x8_1 p233 q233
     cases e233
     replace hx233_0 := hC HB hx233_0; replace hx233_1 := hC HB hx233_1; replace p233 := eq_true p233; replace q233 := eq_true q233
     go_wp2_with (first | ((with_reducible refine gate_tmp rfl ?_); refine goesLTC_ (some 16) rfl rfl Try.func52 kR rfl #[.agg #[.int .i64 ((rd_impl_Peg l0 x8_1).f0), .int .i64 ((rd_impl_Peg l0 x8_1).f1)], .pointer (some ⟨gx1, 0, none⟩)] #[] #[.pointer (some ⟨gx1, 0, none⟩)] rfl (by first | rfl | (simp [Act.eval]; done)) (by (try simp only [mA, mC, mN, List.append_toArray, List.nil_append, List.cons_append, List.append_nil]); (try simp only [mA, mC, mN]); first | done | rfl | (simp only [lD, lT]; rfl)) ?_; (with_reducible refine (impl_Puzzle_solutions_1.calls k1 ((rd_impl_Peg l0 x8_1).f0) ((rd_impl_Peg l0 x8_1).f1) gx1 A1_0 c1_0 l1_0 true _ ?side1 ?side2 ?side3 A6.out).mono ?_); (case side1 => repeat (first | exact (Kd.C_below HR1_0.out HB.out) | (with_reducible refine cA ?_ _) | (with_reducible refine cN ?_ _) | (with_reducible refine cD ?_))); (case side2 => exact HC1_0.out); (case side3 => exact (gQ BK1)); rintro e w8 ⟨rfl, hb⟩; refine ⟨_, rfl, ?_⟩; replace BK1 := aM (blk_below (g := gx1) (o := .cells #[.slice A1_0 l1_0.length c1_0] 29 (0, 0)) (gQ BK1) hb); replace HB := tB HB hb; (try clear hb); (try clear hb2); (try clear hk); (try clear hi)))
     go_ret
     exact ⟨wQ, bE⟩
    ·replace c7 := Bool.eq_false_iff.mpr c7; subst c7; replace H := iF H; have H' := aM H; clear H; have p233 : 0 ≤ (x8_1 : Int) := dT aQ; have q233 : x8_1 < (l0.length : Int) := dT aQ; obtain ⟨ad233, e233, hx233_0, hx233_1⟩ := at_impl_Peg HR0.out x8_1 p233 q233
     cases e233
     replace hx233_0 := hC HB hx233_0; replace hx233_1 := hC HB hx233_1; replace p233 := eq_true p233; replace q233 := eq_true q233
     go_wp2_with (first | ((with_reducible refine gate_tmp rfl ?_); refine goesLTC_ (some 16) rfl rfl Try.func52 kR rfl #[.agg #[.int .i64 ((rd_impl_Peg l0 x8_1).f0), .int .i64 ((rd_impl_Peg l0 x8_1).f1)], .pointer (some ⟨gx1, 0, none⟩)] #[] #[.pointer (some ⟨gx1, 0, none⟩)] rfl (by first | rfl | (simp [Act.eval]; done)) (by (try simp only [mA, mC, mN, List.append_toArray, List.nil_append, List.cons_append, List.append_nil]); (try simp only [mA, mC, mN]); first | done | rfl | (simp only [lD, lT]; rfl)) ?_; (with_reducible refine (impl_Puzzle_solutions_1.calls k1 ((rd_impl_Peg l0 x8_1).f0) ((rd_impl_Peg l0 x8_1).f1) gx1 A1_0 c1_0 l1_0 false _ ?side1 ?side2 ?side3 A6.out).mono ?_); (case side1 => repeat (first | exact (Kd.C_below HR1_0.out HB.out) | (with_reducible refine cA ?_ _) | (with_reducible refine cN ?_ _) | (with_reducible refine cD ?_))); (case side2 => exact HC1_0.out); (case side3 => exact (gQ BK1)); rintro e w9 ⟨rfl, hb⟩; refine ⟨_, rfl, ?_⟩; replace BK1 := aM (blk_below (g := gx1) (o := .cells #[.slice A1_0 l1_0.length c1_0] 29 (0, 0)) (gQ BK1) hb); replace HB := tB HB hb; (try clear hb); (try clear hb2); (try clear hk); (try clear hi)))
     go_roundg k1
     case measure => have := HK1.out; omega
     case rel => exact ⟨(wrap64 (x8_1 + 1)), eQ, H', ⟨by have := HK1.out; omega⟩, ⟨gQ BK1⟩, ⟨bE⟩⟩
   ·rw [if_neg c3] at H; have c3b0 := decide_eq_false c3; clear c3; obtain rfl := Option.some.inj H; go_wp2
    go_ret
    exact ⟨wQ, bE⟩

end Go.Proofs.Ytajfdfaembcodaa.X
