-- thin
-- short
-- compact
import Derived.Test.YtklhakfmegbobaaXA
import Derived.Test.YtklhakfmegbobaaX0
import Derived.Test.YtklhakfmegbobaaX2
namespace Go.Proofs.Ytklhakfmegbobaa.X
open Go.RowKit Go.Proofs.Ytklhakfmegbobaa.XW Go.Proofs.YtklhakfmegbobaaW.PrintWords Go.Proofs.YtklhakfmegbobaaW.PrintLast Go.Proofs.YtklhakfmegbobaaW.PrintMore
attribute [local go_sem] max2_int min2_int max_two min_two max_three min_three max_four min_four   -- for this text's walks alone
set_option linter.unusedVariables false
set_option linter.unusedSimpArgs false

def spec_pgOn.f (a0_0 : Int) (a0_1 : Int) (a1_0 : Int) (a1_1 : Int) (a2_0 : Int) (a2_1 : Int) : Option (Bool) := (spec_pgTurn.f a0_0 a0_1 a1_0 a1_1 a2_0 a2_1).bind fun t125 => (if t125 = 0 then (if (wrap64 ((wrap64 (a0_0 - a2_0)) * (wrap64 (a1_0 - a2_0)))) ≤ 0 then (some (decide ((wrap64 ((wrap64 (a0_1 - a2_1)) * (wrap64 (a1_1 - a2_1)))) ≤ 0))) else (some false)) else (some false))
set_option maxHeartbeats 8000000 in
set_option maxRecDepth 100000 in
theorem spec_pgOn.calls (a0_0 : Int) (a0_1 : Int) (a1_0 : Int) (a1_1 : Int) (a2_0 : Int) (a2_1 : Int) (r : Bool) (w : World) (h : spec_pgOn.f a0_0 a0_1 a1_0 a1_1 a2_0 a2_1 = some r) :
  Calls Try.prog 133 #[.agg #[.int .i64 a0_0, .int .i64 a0_1], .agg #[.int .i64 a1_0, .int .i64 a1_1], .agg #[.int .i64 a2_0, .int .i64 a2_1]] w fun e w' => e = .returned (.bool r) ∧ Below w.heap.size w w' := by
 have hu26 := Try.underlying26; have HB := aM (Below.refl w.heap.size w)
 unfold spec_pgOn.f at h; have H := h; clear h
 replace H := bS H; obtain ⟨t125, A4, H⟩ := H
 by_cases c5 : t125 = 0
 ·rw [if_pos c5] at H; have c5b0 : (t125 == 0) = true := beq_iff_eq.mpr c5; have c5b1 : (t125 != 0) = false := bne_eq_false_iff_eq.mpr c5; clear c5
  by_cases c6 : (wrap64 ((wrap64 (a0_0 - a2_0)) * (wrap64 (a1_0 - a2_0)))) ≤ 0
  ·rw [if_pos c6] at H; have c6b0 := dE c6; clear c6; obtain rfl := Option.some.inj H
   go_enter Try.func133, Try.ntmps133
   go_wp2_with (first | ((with_reducible refine gate_dst (N := 3) rfl ?_); refine bV 3 (cs := #[.int .i64 a0_0, .int .i64 a0_1]) (t := 26) rfl rfl (by first | (go_simp; done) | (go_simp; rfl)) ?_; intro gb122 hg w7 hbox hb; have BK122 := hbox; have GW122 := gZ HB hg; have GE122 := gZ HB hg; replace HB := tB HB hb; clear hb hbox hg) | ((with_reducible refine gate_dst (N := 4) rfl ?_); refine bV 4 (cs := #[.int .i64 a1_0, .int .i64 a1_1]) (t := 26) rfl rfl (by first | (go_simp; done) | (go_simp; rfl)) ?_; intro gb123 hg w8 hbox hb; have BK123 := hbox; have GW123 := gZ HB hg; have GE123 := gZ HB hg; have NB122_123 := nG BK122 hg; have NB123_122 := nH BK122 hg; replace BK122 := bB BK122 hb; replace HB := tB HB hb; clear hb hbox hg) | ((with_reducible refine gate_dst (N := 5) rfl ?_); refine bV 5 (cs := #[.int .i64 a2_0, .int .i64 a2_1]) (t := 26) rfl rfl (by first | (go_simp; done) | (go_simp; rfl)) ?_; intro gb124 hg w9 hbox hb; have BK124 := hbox; have GW124 := gZ HB hg; have GE124 := gZ HB hg; have NB122_124 := nG BK122 hg; have NB124_122 := nH BK122 hg; have NB123_124 := nG BK123 hg; have NB124_123 := nH BK123 hg; replace BK122 := bB BK122 hb; replace BK123 := bB BK123 hb; replace HB := tB HB hb; clear hb hbox hg; have hnb10 := NB122_123.out; have hnc10 := NB123_122.out; have hnb11 := NB122_124.out; have hnc11 := NB124_122.out; have hcz12_0 := vZ0 BK122; have hcz12_1 := vZ1 BK122; have hfz12_0 := kF BK122.out 0; have hfz12_1 := kF BK122.out 1; have hnb13 := NB123_124.out; have hnc13 := NB124_123.out; have hcz14_0 := vZ0 BK123; have hcz14_1 := vZ1 BK123; have hfz14_0 := kF BK123.out 0; have hfz14_1 := kF BK123.out 1; have hcz15_0 := vZ0 BK124; have hcz15_1 := vZ1 BK124; have hfz15_0 := kF BK124.out 0; have hfz15_1 := kF BK124.out 1) | ((with_reducible refine gC (f := 106) rfl ?_); refine goesL_ (some 10) rfl rfl Try.func106 kR rfl #[.agg #[.int .i64 a0_0, .int .i64 a0_1], .agg #[.int .i64 a1_0, .int .i64 a1_1], .agg #[.int .i64 a2_0, .int .i64 a2_1]] rfl sQ ?_; (with_reducible refine (spec_pgTurn.calls a0_0 a0_1 a1_0 a1_1 a2_0 a2_1 t125 _ A4.out).mono ?_); rintro e w16 ⟨rfl, hb⟩; refine ⟨_, rfl, ?_⟩; replace BK122 := bB BK122 hb; replace BK123 := bB BK123 hb; replace BK124 := bB BK124 hb; replace HB := tB HB hb; (try clear hb); (try clear hb2); (try clear hk); (try clear hi); have hcz17_0 := vZ0 BK122; have hcz17_1 := vZ1 BK122; have hfz17_0 := kF BK122.out 0; have hfz17_1 := kF BK122.out 1; have hcz18_0 := vZ0 BK124; have hcz18_1 := vZ1 BK124; have hfz18_0 := kF BK124.out 0; have hfz18_1 := kF BK124.out 1; have hcz19_0 := vZ0 BK123; have hcz19_1 := vZ1 BK123; have hfz19_0 := kF BK123.out 0; have hfz19_1 := kF BK123.out 1))
   go_ret
   exact ⟨wQ, bE⟩
  ·rw [if_neg c6] at H; have c6b0 := decide_eq_false c6; clear c6; obtain rfl := Option.some.inj H
   go_enter Try.func133, Try.ntmps133
   go_wp2_with (first | ((with_reducible refine gate_dst (N := 3) rfl ?_); refine bV 3 (cs := #[.int .i64 a0_0, .int .i64 a0_1]) (t := 26) rfl rfl (by first | (go_simp; done) | (go_simp; rfl)) ?_; intro gb122 hg w20 hbox hb; have BK122 := hbox; have GW122 := gZ HB hg; have GE122 := gZ HB hg; replace HB := tB HB hb; clear hb hbox hg) | ((with_reducible refine gate_dst (N := 4) rfl ?_); refine bV 4 (cs := #[.int .i64 a1_0, .int .i64 a1_1]) (t := 26) rfl rfl (by first | (go_simp; done) | (go_simp; rfl)) ?_; intro gb123 hg w21 hbox hb; have BK123 := hbox; have GW123 := gZ HB hg; have GE123 := gZ HB hg; have NB122_123 := nG BK122 hg; have NB123_122 := nH BK122 hg; replace BK122 := bB BK122 hb; replace HB := tB HB hb; clear hb hbox hg) | ((with_reducible refine gate_dst (N := 5) rfl ?_); refine bV 5 (cs := #[.int .i64 a2_0, .int .i64 a2_1]) (t := 26) rfl rfl (by first | (go_simp; done) | (go_simp; rfl)) ?_; intro gb124 hg w22 hbox hb; have BK124 := hbox; have GW124 := gZ HB hg; have GE124 := gZ HB hg; have NB122_124 := nG BK122 hg; have NB124_122 := nH BK122 hg; have NB123_124 := nG BK123 hg; have NB124_123 := nH BK123 hg; replace BK122 := bB BK122 hb; replace BK123 := bB BK123 hb; replace HB := tB HB hb; clear hb hbox hg; have hnb23 := NB122_123.out; have hnc23 := NB123_122.out; have hnb24 := NB122_124.out; have hnc24 := NB124_122.out; have hcz25_0 := vZ0 BK122; have hcz25_1 := vZ1 BK122; have hfz25_0 := kF BK122.out 0; have hfz25_1 := kF BK122.out 1; have hnb26 := NB123_124.out; have hnc26 := NB124_123.out; have hcz27_0 := vZ0 BK123; have hcz27_1 := vZ1 BK123; have hfz27_0 := kF BK123.out 0; have hfz27_1 := kF BK123.out 1; have hcz28_0 := vZ0 BK124; have hcz28_1 := vZ1 BK124; have hfz28_0 := kF BK124.out 0; have hfz28_1 := kF BK124.out 1) | ((with_reducible refine gC (f := 106) rfl ?_); refine goesL_ (some 10) rfl rfl Try.func106 kR rfl #[.agg #[.int .i64 a0_0, .int .i64 a0_1], .agg #[.int .i64 a1_0, .int .i64 a1_1], .agg #[.int .i64 a2_0, .int .i64 a2_1]] rfl sQ ?_; (with_reducible refine (spec_pgTurn.calls a0_0 a0_1 a1_0 a1_1 a2_0 a2_1 t125 _ A4.out).mono ?_); rintro e w29 ⟨rfl, hb⟩; refine ⟨_, rfl, ?_⟩; replace BK122 := bB BK122 hb; replace BK123 := bB BK123 hb; replace BK124 := bB BK124 hb; replace HB := tB HB hb; (try clear hb); (try clear hb2); (try clear hk); (try clear hi); have hcz30_0 := vZ0 BK122; have hcz30_1 := vZ1 BK122; have hfz30_0 := kF BK122.out 0; have hfz30_1 := kF BK122.out 1; have hcz31_0 := vZ0 BK124; have hcz31_1 := vZ1 BK124; have hfz31_0 := kF BK124.out 0; have hfz31_1 := kF BK124.out 1; have hcz32_0 := vZ0 BK123; have hcz32_1 := vZ1 BK123; have hfz32_0 := kF BK123.out 0; have hfz32_1 := kF BK123.out 1))
   go_ret
   exact ⟨wQ, bE⟩
 ·rw [if_neg c5] at H; have c5b0 : (t125 == 0) = false := beq_eq_false_iff_ne.mpr c5; have c5b1 : (t125 != 0) = true := bne_iff_ne.mpr c5; obtain rfl := Option.some.inj H
  go_enter Try.func133, Try.ntmps133
  go_wp2_with (first | ((with_reducible refine gate_dst (N := 3) rfl ?_); refine bV 3 (cs := #[.int .i64 a0_0, .int .i64 a0_1]) (t := 26) rfl rfl (by first | (go_simp; done) | (go_simp; rfl)) ?_; intro gb122 hg w33 hbox hb; have BK122 := hbox; have GW122 := gZ HB hg; have GE122 := gZ HB hg; replace HB := tB HB hb; clear hb hbox hg) | ((with_reducible refine gate_dst (N := 4) rfl ?_); refine bV 4 (cs := #[.int .i64 a1_0, .int .i64 a1_1]) (t := 26) rfl rfl (by first | (go_simp; done) | (go_simp; rfl)) ?_; intro gb123 hg w34 hbox hb; have BK123 := hbox; have GW123 := gZ HB hg; have GE123 := gZ HB hg; have NB122_123 := nG BK122 hg; have NB123_122 := nH BK122 hg; replace BK122 := bB BK122 hb; replace HB := tB HB hb; clear hb hbox hg) | ((with_reducible refine gate_dst (N := 5) rfl ?_); refine bV 5 (cs := #[.int .i64 a2_0, .int .i64 a2_1]) (t := 26) rfl rfl (by first | (go_simp; done) | (go_simp; rfl)) ?_; intro gb124 hg w35 hbox hb; have BK124 := hbox; have GW124 := gZ HB hg; have GE124 := gZ HB hg; have NB122_124 := nG BK122 hg; have NB124_122 := nH BK122 hg; have NB123_124 := nG BK123 hg; have NB124_123 := nH BK123 hg; replace BK122 := bB BK122 hb; replace BK123 := bB BK123 hb; replace HB := tB HB hb; clear hb hbox hg; have hnb36 := NB122_123.out; have hnc36 := NB123_122.out; have hnb37 := NB122_124.out; have hnc37 := NB124_122.out; have hcz38_0 := vZ0 BK122; have hcz38_1 := vZ1 BK122; have hfz38_0 := kF BK122.out 0; have hfz38_1 := kF BK122.out 1; have hnb39 := NB123_124.out; have hnc39 := NB124_123.out; have hcz40_0 := vZ0 BK123; have hcz40_1 := vZ1 BK123; have hfz40_0 := kF BK123.out 0; have hfz40_1 := kF BK123.out 1; have hcz41_0 := vZ0 BK124; have hcz41_1 := vZ1 BK124; have hfz41_0 := kF BK124.out 0; have hfz41_1 := kF BK124.out 1) | ((with_reducible refine gC (f := 106) rfl ?_); refine goesL_ (some 10) rfl rfl Try.func106 kR rfl #[.agg #[.int .i64 a0_0, .int .i64 a0_1], .agg #[.int .i64 a1_0, .int .i64 a1_1], .agg #[.int .i64 a2_0, .int .i64 a2_1]] rfl sQ ?_; (with_reducible refine (spec_pgTurn.calls a0_0 a0_1 a1_0 a1_1 a2_0 a2_1 t125 _ A4.out).mono ?_); rintro e w42 ⟨rfl, hb⟩; refine ⟨_, rfl, ?_⟩; replace BK122 := bB BK122 hb; replace BK123 := bB BK123 hb; replace BK124 := bB BK124 hb; replace HB := tB HB hb; (try clear hb); (try clear hb2); (try clear hk); (try clear hi)))
  go_ret
  exact ⟨wQ, bE⟩

def spec_l1Sign.f (a0 : Int) : Option (Int) := if a0 > 0 then (some 1) else (if a0 < 0 then (some (-1)) else (some 0))
set_option maxHeartbeats 8000000 in
set_option maxRecDepth 100000 in
theorem spec_l1Sign.calls (a0 : Int) (r : Int) (w : World) (h : spec_l1Sign.f a0 = some r) :
  Calls Try.prog 136 #[.int .i64 a0] w fun e w' => e = .returned (.int .i64 r) ∧ Drawn0 w w' := by
 unfold spec_l1Sign.f at h; have H := h; clear h
 by_cases c2 : a0 > 0
 ·rw [if_pos c2] at H; have c2b0 := dE c2; clear c2; obtain rfl := Option.some.inj H
  go_enter Try.func136, Try.ntmps136
  go_wp2
  go_ret
  exact ⟨eQ, dQ⟩
 ·rw [if_neg c2] at H; have c2b0 := decide_eq_false c2; clear c2
  by_cases c3 : a0 < 0
  ·rw [if_pos c3] at H; have c3b0 := dE c3; clear c3; obtain rfl := Option.some.inj H
   go_enter Try.func136, Try.ntmps136
   go_wp2
   go_ret
   exact ⟨eQ, dQ⟩
  ·rw [if_neg c3] at H; have c3b0 := decide_eq_false c3; clear c3; obtain rfl := Option.some.inj H
   go_enter Try.func136, Try.ntmps136
   go_wp2
   go_ret
   exact ⟨eQ, dQ⟩

end Go.Proofs.Ytklhakfmegbobaa.X
