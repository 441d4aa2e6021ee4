-- thin
-- short
-- compact
import Derived.Test.YtklhakfmegbobaaXA
import Derived.Test.YtklhakfmegbobaaX0
import Derived.Test.YtklhakfmegbobaaX3
namespace Go.Proofs.Ytklhakfmegbobaa.X
open Go.RowKit Go.Proofs.Ytklhakfmegbobaa.XW Go.Proofs.YtklhakfmegbobaaW.PrintWords Go.Proofs.YtklhakfmegbobaaW.PrintLast Go.Proofs.YtklhakfmegbobaaW.PrintMore
attribute [local go_sem] max2_int min2_int max_two min_two max_three min_three max_four min_four   -- for this text's walks alone
set_option linter.unusedVariables false
set_option linter.unusedSimpArgs false

def spec_pgMeet.j0 : Nat → Bool → Int → Int → Int → Int → Int → Int → Int → Int → Option (Bool)
 | 0, _, _, _, _, _, _, _, _, _ => none
 | k + 1, x30, x131000, x131001, x132000, x132001, x133000, x133001, x134000, x134001 => if x30 = true then (some true) else ((spec_pgTurn.f x131000 x131001 x132000 x132001 x133000 x133001).bind fun t138 => ((spec_l1Sign.f t138).bind fun t139 => ((spec_pgTurn.f x131000 x131001 x132000 x132001 x134000 x134001).bind fun t140 => ((spec_l1Sign.f t140).bind fun t141 => (if (wrap64 (t139 * t141)) < 0 then ((spec_pgTurn.f x133000 x133001 x134000 x134001 x131000 x131001).bind fun t142 => ((spec_l1Sign.f t142).bind fun t143 => ((spec_pgTurn.f x133000 x133001 x134000 x134001 x132000 x132001).bind fun t144 => ((spec_l1Sign.f t144).bind fun t145 => (some (decide ((wrap64 (t143 * t145)) < 0))))))) else (some false))))))
def spec_pgMeet.f (k : Nat) (a0_0 : Int) (a0_1 : Int) (a1_0 : Int) (a1_1 : Int) (a2_0 : Int) (a2_1 : Int) (a3_0 : Int) (a3_1 : Int) : Option (Bool) := (spec_pgOn.f a0_0 a0_1 a1_0 a1_1 a2_0 a2_1).bind fun t134 => (if t134 = true then (spec_pgMeet.j0 k true a0_0 a0_1 a1_0 a1_1 a2_0 a2_1 a3_0 a3_1) else ((spec_pgOn.f a0_0 a0_1 a1_0 a1_1 a3_0 a3_1).bind fun t135 => (if t135 = true then (spec_pgMeet.j0 k true a0_0 a0_1 a1_0 a1_1 a2_0 a2_1 a3_0 a3_1) else ((spec_pgOn.f a2_0 a2_1 a3_0 a3_1 a0_0 a0_1).bind fun t136 => (if t136 = true then (spec_pgMeet.j0 k true a0_0 a0_1 a1_0 a1_1 a2_0 a2_1 a3_0 a3_1) else ((spec_pgOn.f a2_0 a2_1 a3_0 a3_1 a1_0 a1_1).bind fun t137 => (spec_pgMeet.j0 k t137 a0_0 a0_1 a1_0 a1_1 a2_0 a2_1 a3_0 a3_1)))))))
theorem spec_pgMeet.mono_l : ∀ k, (∀ y0 y1 y2 y3 y4 y5 y6 y7 y8, LeO (spec_pgMeet.j0 k y0 y1 y2 y3 y4 y5 y6 y7 y8) (spec_pgMeet.j0 (k + 1) y0 y1 y2 y3 y4 y5 y6 y7 y8))
 | 0 => fun _ _ _ _ _ _ _ _ _ r h => by simp [spec_pgMeet.j0] at h
 | k + 1 => by
  have ih0 := spec_pgMeet.mono_l k
  ·intro y0 y1 y2 y3 y4 y5 y6 y7 y8
   unfold spec_pgMeet.j0
   repeat' first
   | (with_reducible exact ih0 _ _ _ _ _ _ _ _ _)
   | (with_reducible exact LeO.refl _)
   | (with_reducible exact LeO.none _)
   | (with_reducible refine LeO.ite ?_ ?_)
   | (with_reducible refine LeO.bind ?_ (fun _ => ?_))
   | exact ih0 _ _ _ _ _ _ _ _ _
   | exact LeO.none _
   | refine LeO.ite ?_ ?_
   | refine LeO.bind ?_ (fun _ => ?_)
theorem spec_pgMeet.mono : ∀ a0 a1 a2 a3 a4 a5 a6 a7 k, LeO (spec_pgMeet.f k a0 a1 a2 a3 a4 a5 a6 a7) (spec_pgMeet.f (k + 1) a0 a1 a2 a3 a4 a5 a6 a7) := by
 intro a0 a1 a2 a3 a4 a5 a6 a7 k
 have ih0 := spec_pgMeet.mono_l k
 unfold spec_pgMeet.f
 repeat' first | (with_reducible exact ih0 _ _ _ _ _ _ _ _ _) | (with_reducible exact LeO.refl _) | (with_reducible exact LeO.none _) | (with_reducible refine LeO.ite ?_ ?_) | (with_reducible refine LeO.bind ?_ (fun _ => ?_)) | exact ih0 _ _ _ _ _ _ _ _ _ | exact LeO.none _ | refine LeO.ite ?_ ?_ | refine LeO.bind ?_ (fun _ => ?_)
def spec_pgMeet.T3 : Bool × List (List Nat × List Nat) := (true, [([], []), ([], []), ([], []), ([0, 1, 2], [0, 1, 2]), ([3, 3], [3]), ([], []), ([], []), ([], []), ([5, 6, 7, 4], [5, 6, 7]), ([8, 8], [8]), ([4, 9], [4, 9]), ([10], [10]), ([11, 9], [11]), ([12], [12]), ([12], [12]), ([12], [12]), ([13, 14, 15, 12, 12], [12, 13, 14, 15]), ([16, 16, 12], [12, 16]), ([12], [12]), ([12], [12]), ([12], [12]), ([18, 19, 20, 17, 12], [12, 18, 19, 20]), ([21, 21, 12], [12, 21]), ([17, 22, 12], [12, 17, 22]), ([23, 12], [12, 23]), ([12, 24], [12, 24]), ([25, 22, 0, 1, 2, 3, 4, 5, 6, 7, 8, 9, 10, 11, 12, 13, 14, 15, 16, 17, 18, 19, 20, 21, 22, 23, 24, 25], [25])])
def spec_pgMeet.B3 : List Nat := [0, 0, 0, 7, 15, 0, 0, 0, 255, 511, 1023, 2047, 4095, 8191, 8191, 8191, 65535, 131071, 8191, 8191, 8191, 2097151, 4194303, 8388607, 16777215, 33554431, 67108863]
theorem spec_pgMeet.tab3 : rtab .any (opsOf Try.f109 3) = spec_pgMeet.T3 := by kernel_rfl
theorem spec_pgMeet.bits3 : waitsOk spec_pgMeet.T3.2 spec_pgMeet.B3 = true := by kernel_rfl
set_option maxHeartbeats 8000000 in
set_option maxRecDepth 100000 in
theorem spec_pgMeet.calls (k : Nat) (a0_0 : Int) (a0_1 : Int) (a1_0 : Int) (a1_1 : Int) (a2_0 : Int) (a2_1 : Int) (a3_0 : Int) (a3_1 : Int) (r : Bool) (w : World) (h : spec_pgMeet.f k a0_0 a0_1 a1_0 a1_1 a2_0 a2_1 a3_0 a3_1 = some r) :
  Calls Try.prog 109 #[.agg #[.int .i64 a0_0, .int .i64 a0_1], .agg #[.int .i64 a1_0, .int .i64 a1_1], .agg #[.int .i64 a2_0, .int .i64 a2_1], .agg #[.int .i64 a3_0, .int .i64 a3_1]] w fun e w' => e = .returned (.bool r) ∧ Below w.heap.size w w' := by
 have hu26 := Try.underlying26; have HB := aM (Below.refl w.heap.size w)
 unfold spec_pgMeet.f at h; have H := h; clear h
 have HC5 := aM H; clear H
 go_enter Try.func109, Try.ntmps109
 go_upto_region 1 with (first | ((with_reducible refine gate_dst (N := 4) rfl ?_); refine bV 4 (cs := #[.int .i64 a0_0, .int .i64 a0_1]) (t := 26) rfl rfl (by first | (go_simp; done) | (go_simp; rfl)) ?_; intro gb130 hg w6 hbox hb; have BK130 := hbox; have GW130 := gZ HB hg; have GE130 := gZ HB hg; replace HB := tB HB hb; clear hb hbox hg) | ((with_reducible refine gate_dst (N := 5) rfl ?_); refine bV 5 (cs := #[.int .i64 a1_0, .int .i64 a1_1]) (t := 26) rfl rfl (by first | (go_simp; done) | (go_simp; rfl)) ?_; intro gb131 hg w7 hbox hb; have BK131 := hbox; have GW131 := gZ HB hg; have GE131 := gZ HB hg; have NB130_131 := nG BK130 hg; have NB131_130 := nH BK130 hg; replace BK130 := bB BK130 hb; replace HB := tB HB hb; clear hb hbox hg) | ((with_reducible refine gate_dst (N := 6) rfl ?_); refine bV 6 (cs := #[.int .i64 a2_0, .int .i64 a2_1]) (t := 26) rfl rfl (by first | (go_simp; done) | (go_simp; rfl)) ?_; intro gb132 hg w8 hbox hb; have BK132 := hbox; have GW132 := gZ HB hg; have GE132 := gZ HB hg; have NB130_132 := nG BK130 hg; have NB132_130 := nH BK130 hg; have NB131_132 := nG BK131 hg; have NB132_131 := nH BK131 hg; replace BK130 := bB BK130 hb; replace BK131 := bB BK131 hb; replace HB := tB HB hb; clear hb hbox hg) | ((with_reducible refine gate_dst (N := 7) rfl ?_); refine bV 7 (cs := #[.int .i64 a3_0, .int .i64 a3_1]) (t := 26) rfl rfl (by first | (go_simp; done) | (go_simp; rfl)) ?_; intro gb133 hg w9 hbox hb; have BK133 := hbox; have GW133 := gZ HB hg; have GE133 := gZ HB hg; have NB130_133 := nG BK130 hg; have NB133_130 := nH BK130 hg; have NB131_133 := nG BK131 hg; have NB133_131 := nH BK131 hg; have NB132_133 := nG BK132 hg; have NB133_132 := nH BK132 hg; replace BK130 := bB BK130 hb; replace BK131 := bB BK131 hb; replace BK132 := bB BK132 hb; replace HB := tB HB hb; clear hb hbox hg))
 (try simp only [Act.put, sI, sZ, sS])
 go_cut [30] (fun v30 wc => ∃ (kq : Nat) (x30_4 : Bool), v30 = .bool x30_4 ∧ Aside0 (spec_pgMeet.j0 kq x30_4 a0_0 a0_1 a1_0 a1_1 a2_0 a2_1 a3_0 a3_1 = some r) ∧ Aside0 (kq ≤ k) ∧ Aside0 (wc.heap[gb130]? = some (.cells #[.int .i64 a0_0, .int .i64 a0_1] 26 (0, 0))) ∧ Aside0 (wc.heap[gb131]? = some (.cells #[.int .i64 a1_0, .int .i64 a1_1] 26 (0, 0))) ∧ Aside0 (wc.heap[gb132]? = some (.cells #[.int .i64 a2_0, .int .i64 a2_1] 26 (0, 0))) ∧ Aside0 (wc.heap[gb133]? = some (.cells #[.int .i64 a3_0, .int .i64 a3_1] 26 (0, 0))) ∧ Aside0 (Below w.heap.size w wc))
 case first =>
  have H := HC5.out; clear HC5; replace H := bS H; obtain ⟨t134, A10, H⟩ := H
  by_cases c11 : t134 = true
  ·subst c11; replace H := iT H; have H' := aM H; clear H; have hnb12 := NB130_131.out; have hnc12 := NB131_130.out; have hnb13 := NB130_132.out; have hnc13 := NB132_130.out; have hnb14 := NB130_133.out; have hnc14 := NB133_130.out; have hcz15_0 := vZ0 BK130; have hcz15_1 := vZ1 BK130; have hfz15_0 := kF BK130.out 0; have hfz15_1 := kF BK130.out 1; have hnb16 := NB131_132.out; have hnc16 := NB132_131.out; have hnb17 := NB131_133.out; have hnc17 := NB133_131.out; have hcz18_0 := vZ0 BK131; have hcz18_1 := vZ1 BK131; have hfz18_0 := kF BK131.out 0; have hfz18_1 := kF BK131.out 1; have hnb19 := NB132_133.out; have hnc19 := NB133_132.out; have hcz20_0 := vZ0 BK132; have hcz20_1 := vZ1 BK132; have hfz20_0 := kF BK132.out 0; have hfz20_1 := kF BK132.out 1
   go_wp2_with (first | ((with_reducible refine gC (f := 133) rfl ?_); refine goesL_ (some 12) rfl rfl Try.func133 kR rfl #[.agg #[.int .i64 a0_0, .int .i64 a0_1], .agg #[.int .i64 a1_0, .int .i64 a1_1], .agg #[.int .i64 a2_0, .int .i64 a2_1]] rfl sQ ?_; (with_reducible refine (spec_pgOn.calls a0_0 a0_1 a1_0 a1_1 a2_0 a2_1 true _ A10.out).mono ?_); rintro e w21 ⟨rfl, hb⟩; refine ⟨_, rfl, ?_⟩; replace BK130 := bB BK130 hb; replace BK131 := bB BK131 hb; replace BK132 := bB BK132 hb; replace BK133 := bB BK133 hb; replace HB := tB HB hb; (try clear hb); (try clear hb2); (try clear hk); (try clear hi)))
   go_meet
   case rel => exact ⟨_, (true), eQ, H', ⟨by first | omega | exact Nat.le_refl _⟩, ⟨gQ BK130⟩, ⟨gQ BK131⟩, ⟨gQ BK132⟩, ⟨gQ BK133⟩, ⟨bE⟩⟩
  ·replace c11 := Bool.eq_false_iff.mpr c11; subst c11; replace H := iF H; replace H := bS H; obtain ⟨t135, A22, H⟩ := H
   by_cases c23 : t135 = true
   ·subst c23; replace H := iT H; have H' := aM H; clear H; have hnb24 := NB130_131.out; have hnc24 := NB131_130.out; have hnb25 := NB130_132.out; have hnc25 := NB132_130.out; have hnb26 := NB130_133.out; have hnc26 := NB133_130.out; have hcz27_0 := vZ0 BK130; have hcz27_1 := vZ1 BK130; have hfz27_0 := kF BK130.out 0; have hfz27_1 := kF BK130.out 1; have hnb28 := NB131_132.out; have hnc28 := NB132_131.out; have hnb29 := NB131_133.out; have hnc29 := NB133_131.out; have hcz30_0 := vZ0 BK131; have hcz30_1 := vZ1 BK131; have hfz30_0 := kF BK131.out 0; have hfz30_1 := kF BK131.out 1; have hnb31 := NB132_133.out; have hnc31 := NB133_132.out; have hcz32_0 := vZ0 BK132; have hcz32_1 := vZ1 BK132; have hfz32_0 := kF BK132.out 0; have hfz32_1 := kF BK132.out 1
    go_wp2_with (first | ((with_reducible refine gC (f := 133) rfl ?_); refine goesL_ (some 12) rfl rfl Try.func133 kR rfl #[.agg #[.int .i64 a0_0, .int .i64 a0_1], .agg #[.int .i64 a1_0, .int .i64 a1_1], .agg #[.int .i64 a2_0, .int .i64 a2_1]] rfl sQ ?_; (with_reducible refine (spec_pgOn.calls a0_0 a0_1 a1_0 a1_1 a2_0 a2_1 false _ A10.out).mono ?_); rintro e w33 ⟨rfl, hb⟩; refine ⟨_, rfl, ?_⟩; replace BK130 := bB BK130 hb; replace BK131 := bB BK131 hb; replace BK132 := bB BK132 hb; replace BK133 := bB BK133 hb; replace HB := tB HB hb; (try clear hb); (try clear hb2); (try clear hk); (try clear hi); have hcz34_0 := vZ0 BK130; have hcz34_1 := vZ1 BK130; have hfz34_0 := kF BK130.out 0; have hfz34_1 := kF BK130.out 1; have hcz35_0 := vZ0 BK131; have hcz35_1 := vZ1 BK131; have hfz35_0 := kF BK131.out 0; have hfz35_1 := kF BK131.out 1; have hcz36_0 := vZ0 BK133; have hcz36_1 := vZ1 BK133; have hfz36_0 := kF BK133.out 0; have hfz36_1 := kF BK133.out 1) | (go_at_call 133; (with_reducible refine (spec_pgOn.calls a0_0 a0_1 a1_0 a1_1 a3_0 a3_1 true _ A22.out).mono ?_); rintro e w37 ⟨rfl, hb⟩; replace BK130 := bB BK130 hb; replace BK131 := bB BK131 hb; replace BK132 := bB BK132 hb; replace BK133 := bB BK133 hb; replace HB := tB HB hb; (try clear hb); (try clear hb2); (try clear hk); (try clear hi)))
    go_meet
    case rel => exact ⟨_, (true), eQ, H', ⟨by first | omega | exact Nat.le_refl _⟩, ⟨gQ BK130⟩, ⟨gQ BK131⟩, ⟨gQ BK132⟩, ⟨gQ BK133⟩, ⟨bE⟩⟩
   ·replace c23 := Bool.eq_false_iff.mpr c23; subst c23; replace H := iF H; replace H := bS H; obtain ⟨t136, A38, H⟩ := H
    by_cases c39 : t136 = true
    ·subst c39; replace H := iT H; have H' := aM H; clear H; have hnb40 := NB130_131.out; have hnc40 := NB131_130.out; have hnb41 := NB130_132.out; have hnc41 := NB132_130.out; have hnb42 := NB130_133.out; have hnc42 := NB133_130.out; have hcz43_0 := vZ0 BK130; have hcz43_1 := vZ1 BK130; have hfz43_0 := kF BK130.out 0; have hfz43_1 := kF BK130.out 1; have hnb44 := NB131_132.out; have hnc44 := NB132_131.out; have hnb45 := NB131_133.out; have hnc45 := NB133_131.out; have hcz46_0 := vZ0 BK131; have hcz46_1 := vZ1 BK131; have hfz46_0 := kF BK131.out 0; have hfz46_1 := kF BK131.out 1; have hnb47 := NB132_133.out; have hnc47 := NB133_132.out; have hcz48_0 := vZ0 BK132; have hcz48_1 := vZ1 BK132; have hfz48_0 := kF BK132.out 0; have hfz48_1 := kF BK132.out 1
     go_wp2_with (first | ((with_reducible refine gC (f := 133) rfl ?_); refine goesL_ (some 12) rfl rfl Try.func133 kR rfl #[.agg #[.int .i64 a0_0, .int .i64 a0_1], .agg #[.int .i64 a1_0, .int .i64 a1_1], .agg #[.int .i64 a2_0, .int .i64 a2_1]] rfl sQ ?_; (with_reducible refine (spec_pgOn.calls a0_0 a0_1 a1_0 a1_1 a2_0 a2_1 false _ A10.out).mono ?_); rintro e w49 ⟨rfl, hb⟩; refine ⟨_, rfl, ?_⟩; replace BK130 := bB BK130 hb; replace BK131 := bB BK131 hb; replace BK132 := bB BK132 hb; replace BK133 := bB BK133 hb; replace HB := tB HB hb; (try clear hb); (try clear hb2); (try clear hk); (try clear hi); have hcz50_0 := vZ0 BK130; have hcz50_1 := vZ1 BK130; have hfz50_0 := kF BK130.out 0; have hfz50_1 := kF BK130.out 1; have hcz51_0 := vZ0 BK131; have hcz51_1 := vZ1 BK131; have hfz51_0 := kF BK131.out 0; have hfz51_1 := kF BK131.out 1; have hcz52_0 := vZ0 BK133; have hcz52_1 := vZ1 BK133; have hfz52_0 := kF BK133.out 0; have hfz52_1 := kF BK133.out 1) | (go_at_call 133; (with_reducible refine (spec_pgOn.calls a0_0 a0_1 a1_0 a1_1 a3_0 a3_1 false _ A22.out).mono ?_); rintro e w53 ⟨rfl, hb⟩; replace BK130 := bB BK130 hb; replace BK131 := bB BK131 hb; replace BK132 := bB BK132 hb; replace BK133 := bB BK133 hb; replace HB := tB HB hb; (try clear hb); (try clear hb2); (try clear hk); (try clear hi); have hcz54_0 := vZ0 BK132; have hcz54_1 := vZ1 BK132; have hfz54_0 := kF BK132.out 0; have hfz54_1 := kF BK132.out 1; have hcz55_0 := vZ0 BK133; have hcz55_1 := vZ1 BK133; have hfz55_0 := kF BK133.out 0; have hfz55_1 := kF BK133.out 1; have hcz56_0 := vZ0 BK130; have hcz56_1 := vZ1 BK130; have hfz56_0 := kF BK130.out 0; have hfz56_1 := kF BK130.out 1) | (go_at_call 133; (with_reducible refine (spec_pgOn.calls a2_0 a2_1 a3_0 a3_1 a0_0 a0_1 true _ A38.out).mono ?_); rintro e w57 ⟨rfl, hb⟩; replace BK130 := bB BK130 hb; replace BK131 := bB BK131 hb; replace BK132 := bB BK132 hb; replace BK133 := bB BK133 hb; replace HB := tB HB hb; (try clear hb); (try clear hb2); (try clear hk); (try clear hi)))
     go_meet
     case rel => exact ⟨_, (true), eQ, H', ⟨by first | omega | exact Nat.le_refl _⟩, ⟨gQ BK130⟩, ⟨gQ BK131⟩, ⟨gQ BK132⟩, ⟨gQ BK133⟩, ⟨bE⟩⟩
    ·replace c39 := Bool.eq_false_iff.mpr c39; subst c39; replace H := iF H; replace H := bS H; obtain ⟨t137, A58, H⟩ := H; have H' := aM H; clear H; have hnb59 := NB130_131.out; have hnc59 := NB131_130.out; have hnb60 := NB130_132.out; have hnc60 := NB132_130.out; have hnb61 := NB130_133.out; have hnc61 := NB133_130.out; have hcz62_0 := vZ0 BK130; have hcz62_1 := vZ1 BK130; have hfz62_0 := kF BK130.out 0; have hfz62_1 := kF BK130.out 1; have hnb63 := NB131_132.out; have hnc63 := NB132_131.out; have hnb64 := NB131_133.out; have hnc64 := NB133_131.out; have hcz65_0 := vZ0 BK131; have hcz65_1 := vZ1 BK131; have hfz65_0 := kF BK131.out 0; have hfz65_1 := kF BK131.out 1; have hnb66 := NB132_133.out; have hnc66 := NB133_132.out; have hcz67_0 := vZ0 BK132; have hcz67_1 := vZ1 BK132; have hfz67_0 := kF BK132.out 0; have hfz67_1 := kF BK132.out 1
     go_wp2_with (first | ((with_reducible refine gC (f := 133) rfl ?_); refine goesL_ (some 12) rfl rfl Try.func133 kR rfl #[.agg #[.int .i64 a0_0, .int .i64 a0_1], .agg #[.int .i64 a1_0, .int .i64 a1_1], .agg #[.int .i64 a2_0, .int .i64 a2_1]] rfl sQ ?_; (with_reducible refine (spec_pgOn.calls a0_0 a0_1 a1_0 a1_1 a2_0 a2_1 false _ A10.out).mono ?_); rintro e w68 ⟨rfl, hb⟩; refine ⟨_, rfl, ?_⟩; replace BK130 := bB BK130 hb; replace BK131 := bB BK131 hb; replace BK132 := bB BK132 hb; replace BK133 := bB BK133 hb; replace HB := tB HB hb; (try clear hb); (try clear hb2); (try clear hk); (try clear hi); have hcz69_0 := vZ0 BK130; have hcz69_1 := vZ1 BK130; have hfz69_0 := kF BK130.out 0; have hfz69_1 := kF BK130.out 1; have hcz70_0 := vZ0 BK131; have hcz70_1 := vZ1 BK131; have hfz70_0 := kF BK131.out 0; have hfz70_1 := kF BK131.out 1; have hcz71_0 := vZ0 BK133; have hcz71_1 := vZ1 BK133; have hfz71_0 := kF BK133.out 0; have hfz71_1 := kF BK133.out 1) | (go_at_call 133; (with_reducible refine (spec_pgOn.calls a0_0 a0_1 a1_0 a1_1 a3_0 a3_1 false _ A22.out).mono ?_); rintro e w72 ⟨rfl, hb⟩; replace BK130 := bB BK130 hb; replace BK131 := bB BK131 hb; replace BK132 := bB BK132 hb; replace BK133 := bB BK133 hb; replace HB := tB HB hb; (try clear hb); (try clear hb2); (try clear hk); (try clear hi); have hcz73_0 := vZ0 BK132; have hcz73_1 := vZ1 BK132; have hfz73_0 := kF BK132.out 0; have hfz73_1 := kF BK132.out 1; have hcz74_0 := vZ0 BK133; have hcz74_1 := vZ1 BK133; have hfz74_0 := kF BK133.out 0; have hfz74_1 := kF BK133.out 1; have hcz75_0 := vZ0 BK130; have hcz75_1 := vZ1 BK130; have hfz75_0 := kF BK130.out 0; have hfz75_1 := kF BK130.out 1) | (go_at_call 133; (with_reducible refine (spec_pgOn.calls a2_0 a2_1 a3_0 a3_1 a0_0 a0_1 false _ A38.out).mono ?_); rintro e w76 ⟨rfl, hb⟩; replace BK130 := bB BK130 hb; replace BK131 := bB BK131 hb; replace BK132 := bB BK132 hb; replace BK133 := bB BK133 hb; replace HB := tB HB hb; (try clear hb); (try clear hb2); (try clear hk); (try clear hi); have hcz77_0 := vZ0 BK132; have hcz77_1 := vZ1 BK132; have hfz77_0 := kF BK132.out 0; have hfz77_1 := kF BK132.out 1; have hcz78_0 := vZ0 BK133; have hcz78_1 := vZ1 BK133; have hfz78_0 := kF BK133.out 0; have hfz78_1 := kF BK133.out 1; have hcz79_0 := vZ0 BK131; have hcz79_1 := vZ1 BK131; have hfz79_0 := kF BK131.out 0; have hfz79_1 := kF BK131.out 1) | (go_at_call 133; (with_reducible refine (spec_pgOn.calls a2_0 a2_1 a3_0 a3_1 a1_0 a1_1 t137 _ A58.out).mono ?_); rintro e w80 ⟨rfl, hb⟩; replace BK130 := bB BK130 hb; replace BK131 := bB BK131 hb; replace BK132 := bB BK132 hb; replace BK133 := bB BK133 hb; replace HB := tB HB hb; (try clear hb); (try clear hb2); (try clear hk); (try clear hi)))
     go_meet
     case rel => exact ⟨_, (t137), eQ, H', ⟨by first | omega | exact Nat.le_refl _⟩, ⟨gQ BK130⟩, ⟨gQ BK131⟩, ⟨gQ BK132⟩, ⟨gQ BK133⟩, ⟨bE⟩⟩
 case rest =>
  clear HC5; obtain ⟨kq, x30_4, rfl, HA, HJ4, BK130, BK131, BK132, BK133, HB⟩ := hcut
  cases kq with
  | zero => exact absurd HA.out (by simp [spec_pgMeet.j0])
  | succ kj4 =>
   have H := HA.out; clear HA
   simp only [spec_pgMeet.j0] at H
   by_cases c81 : x30_4 = true
   ·subst c81; replace H := iT H; obtain rfl := Option.some.inj H; go_wp2
    go_ret
    exact ⟨wQ, bE⟩
   ·replace c81 := Bool.eq_false_iff.mpr c81; subst c81; replace H := iF H; replace H := bS H; obtain ⟨t138, A82, H⟩ := H; replace H := bS H; obtain ⟨t139, A83, H⟩ := H; replace H := bS H; obtain ⟨t140, A84, H⟩ := H; replace H := bS H; obtain ⟨t141, A85, H⟩ := H
    by_cases c86 : (wrap64 (t139 * t141)) < 0
    ·rw [if_pos c86] at H; have c86b0 := dE c86; clear c86; replace H := bS H; obtain ⟨t142, A87, H⟩ := H; replace H := bS H; obtain ⟨t143, A88, H⟩ := H; replace H := bS H; obtain ⟨t144, A89, H⟩ := H; replace H := bS H; obtain ⟨t145, A90, H⟩ := H; obtain rfl := Option.some.inj H
     try go_wp2
     replace BK130 := aM (kD BK130.out); replace BK131 := aM (kD BK131.out); replace BK132 := aM (kD BK132.out); replace BK133 := aM (kD BK133.out); replace HB := aM (pD HB.out)
     refine start_ (n := 27) (S := fun w' => w'.cell? ⟨gb130, 0, none⟩ = some (.int .i64 a0_0) ∧ w'.cell? ⟨gb130, 1, none⟩ = some (.int .i64 a0_1) ∧ w'.cell? ⟨gb131, 0, none⟩ = some (.int .i64 a1_0) ∧ w'.cell? ⟨gb131, 1, none⟩ = some (.int .i64 a1_1) ∧ w'.cell? ⟨gb132, 0, none⟩ = some (.int .i64 a2_0) ∧ w'.cell? ⟨gb132, 1, none⟩ = some (.int .i64 a2_1) ∧ w'.cell? ⟨gb133, 0, none⟩ = some (.int .i64 a3_0) ∧ w'.cell? ⟨gb133, 1, none⟩ = some (.int .i64 a3_1)) (ds := []) (bA 27 0) kR rfl kR ⟨vZ0 BK130, vZ1 BK130, vZ0 BK131, vZ1 BK131, vZ0 BK132, vZ1 BK132, vZ0 BK133, vZ1 BK133⟩ (fun hHeld => ?_); refine with_tabW spec_pgMeet.tab3 spec_pgMeet.bits3 (fun HT_ HW_ => ?_)
     generalize wc.drew = w91 at BK130 BK131 BK132 BK133 HB hHeld ⊢
     refine tU 0 31 (bA 27 1) HT_ HW_ hHeld ?_ (hy := Or.inl ⟨by rfl, by rintro w' ⟨s0, s1, s2, s3, s4, s5, s6, s7⟩; go_simp; with_reducible rfl⟩)
     refine tU 1 32 (bA 27 3) HT_ HW_ hHeld ?_ (hy := Or.inl ⟨by rfl, by rintro w' ⟨s0, s1, s2, s3, s4, s5, s6, s7⟩; go_simp; with_reducible rfl⟩)
     refine tU 2 33 (bA 27 7) HT_ HW_ hHeld ?_ (hy := Or.inl ⟨by rfl, by rintro w' ⟨s0, s1, s2, s3, s4, s5, s6, s7⟩; go_simp; with_reducible rfl⟩)
     refine tU 5 36 (bA 27 39) HT_ HW_ hHeld ?_ (hy := Or.inl ⟨by rfl, by rintro w' ⟨s0, s1, s2, s3, s4, s5, s6, s7⟩; go_simp; with_reducible rfl⟩)
     refine tU 6 37 (bA 27 103) HT_ HW_ hHeld ?_ (hy := Or.inl ⟨by rfl, by rintro w' ⟨s0, s1, s2, s3, s4, s5, s6, s7⟩; go_simp; with_reducible rfl⟩)
     refine tU 7 38 (bA 27 231) HT_ HW_ hHeld ?_ (hy := Or.inl ⟨by rfl, by rintro w' ⟨s0, s1, s2, s3, s4, s5, s6, s7⟩; go_simp; with_reducible rfl⟩)
     refine oU 3 34 (bA 27 239) HT_ (fun K hK => ?_)
     refine goes_ Try.func106 kR rfl #[.agg #[.int .i64 a0_0, .int .i64 a0_1], .agg #[.int .i64 a1_0, .int .i64 a1_1], .agg #[.int .i64 a2_0, .int .i64 a2_1]] (by rfl) rfl rfl sQ ?_
     with_reducible refine (spec_pgTurn.calls a0_0 a0_1 a1_0 a1_1 a2_0 a2_1 t138 _ A82.out).mono ?_
     rintro e w92 ⟨rfl, hb⟩; refine ⟨_, rfl, ?_⟩; replace BK130 := bB BK130 hb; replace BK131 := bB BK131 hb; replace BK132 := bB BK132 hb; replace BK133 := bB BK133 hb; replace HB := tB HB hb; (try clear hb); (try clear hb2); (try clear hk); (try clear hi)
     refine hK.out _ _ ⟨vZ0 BK130, vZ1 BK130, vZ0 BK131, vZ1 BK131, vZ0 BK132, vZ1 BK132, vZ0 BK133, vZ1 BK133⟩ (fun hHeld => ?_)
     clear hK K
     refine nU ?_
     refine oU 4 35 (bA 27 255) HT_ (fun K hK => ?_)
     refine goes_ Try.func136 kR rfl #[.int .i64 t138] (by rfl) rfl rfl sQ ?_
     with_reducible refine (spec_l1Sign.calls t138 t139 _ A83.out).mono ?_
     rintro e w' ⟨rfl, ⟨nd, rfl⟩⟩; refine ⟨_, rfl, ?_⟩
     refine hK.out _ _ ⟨vZ0 BK130, vZ1 BK130, vZ0 BK131, vZ1 BK131, vZ0 BK132, vZ1 BK132, vZ0 BK133, vZ1 BK133⟩ (fun hHeld => ?_)
     clear hK K
     refine nU ?_
     refine oU 8 39 (bA 27 511) HT_ (fun K hK => ?_)
     refine goes_ Try.func106 kR rfl #[.agg #[.int .i64 a0_0, .int .i64 a0_1], .agg #[.int .i64 a1_0, .int .i64 a1_1], .agg #[.int .i64 a3_0, .int .i64 a3_1]] (by rfl) rfl rfl sQ ?_
     with_reducible refine (spec_pgTurn.calls a0_0 a0_1 a1_0 a1_1 a3_0 a3_1 t140 _ A84.out).mono ?_
     rintro e w93 ⟨rfl, hb⟩; refine ⟨_, rfl, ?_⟩; replace BK130 := bB BK130 hb; replace BK131 := bB BK131 hb; replace BK132 := bB BK132 hb; replace BK133 := bB BK133 hb; replace HB := tB HB hb; (try clear hb); (try clear hb2); (try clear hk); (try clear hi)
     refine hK.out _ _ ⟨vZ0 BK130, vZ1 BK130, vZ0 BK131, vZ1 BK131, vZ0 BK132, vZ1 BK132, vZ0 BK133, vZ1 BK133⟩ (fun hHeld => ?_)
     clear hK K
     refine nU ?_
     refine oU 9 40 (bA 27 1023) HT_ (fun K hK => ?_)
     refine goes_ Try.func136 kR rfl #[.int .i64 t140] (by rfl) rfl rfl sQ ?_
     with_reducible refine (spec_l1Sign.calls t140 t141 _ A85.out).mono ?_
     rintro e w' ⟨rfl, ⟨nd, rfl⟩⟩; refine ⟨_, rfl, ?_⟩
     refine hK.out _ _ ⟨vZ0 BK130, vZ1 BK130, vZ0 BK131, vZ1 BK131, vZ0 BK132, vZ1 BK132, vZ0 BK133, vZ1 BK133⟩ (fun hHeld => ?_)
     clear hK K
     refine nU ?_
     refine pU 10 41 (bA 27 2047) HT_ ?_; refine pU 11 42 (bA 27 4095) HT_ ?_; refine pU 12 43 (bA 27 8191) HT_ ?_
     refine tU 13 44 (bA 27 16383) HT_ HW_ hHeld ?_ (hy := Or.inl ⟨by rfl, by rintro w' ⟨s0, s1, s2, s3, s4, s5, s6, s7⟩; go_simp; with_reducible rfl⟩)
     refine tU 14 45 (bA 27 32767) HT_ HW_ hHeld ?_ (hy := Or.inl ⟨by rfl, by rintro w' ⟨s0, s1, s2, s3, s4, s5, s6, s7⟩; go_simp; with_reducible rfl⟩)
     refine tU 15 46 (bA 27 65535) HT_ HW_ hHeld ?_ (hy := Or.inl ⟨by rfl, by rintro w' ⟨s0, s1, s2, s3, s4, s5, s6, s7⟩; go_simp; with_reducible rfl⟩)
     refine tU 18 49 (bA 27 327679) HT_ HW_ hHeld ?_ (hy := Or.inl ⟨by rfl, by rintro w' ⟨s0, s1, s2, s3, s4, s5, s6, s7⟩; go_simp; with_reducible rfl⟩)
     refine tU 19 50 (bA 27 851967) HT_ HW_ hHeld ?_ (hy := Or.inl ⟨by rfl, by rintro w' ⟨s0, s1, s2, s3, s4, s5, s6, s7⟩; go_simp; with_reducible rfl⟩)
     refine tU 20 51 (bA 27 1900543) HT_ HW_ hHeld ?_ (hy := Or.inl ⟨by rfl, by rintro w' ⟨s0, s1, s2, s3, s4, s5, s6, s7⟩; go_simp; with_reducible rfl⟩)
     refine oU 16 47 (bA 27 1966079) HT_ (fun K hK => ?_)
     refine goes_ Try.func106 kR rfl #[.agg #[.int .i64 a2_0, .int .i64 a2_1], .agg #[.int .i64 a3_0, .int .i64 a3_1], .agg #[.int .i64 a0_0, .int .i64 a0_1]] (by rfl) rfl rfl sQ ?_
     with_reducible refine (spec_pgTurn.calls a2_0 a2_1 a3_0 a3_1 a0_0 a0_1 t142 _ A87.out).mono ?_
     rintro e w94 ⟨rfl, hb⟩; refine ⟨_, rfl, ?_⟩; replace BK130 := bB BK130 hb; replace BK131 := bB BK131 hb; replace BK132 := bB BK132 hb; replace BK133 := bB BK133 hb; replace HB := tB HB hb; (try clear hb); (try clear hb2); (try clear hk); (try clear hi)
     refine hK.out _ _ ⟨vZ0 BK130, vZ1 BK130, vZ0 BK131, vZ1 BK131, vZ0 BK132, vZ1 BK132, vZ0 BK133, vZ1 BK133⟩ (fun hHeld => ?_)
     clear hK K
     refine nU ?_
     refine oU 17 48 (bA 27 2097151) HT_ (fun K hK => ?_)
     refine goes_ Try.func136 kR rfl #[.int .i64 t142] (by rfl) rfl rfl sQ ?_
     with_reducible refine (spec_l1Sign.calls t142 t143 _ A88.out).mono ?_
     rintro e w' ⟨rfl, ⟨nd, rfl⟩⟩; refine ⟨_, rfl, ?_⟩
     refine hK.out _ _ ⟨vZ0 BK130, vZ1 BK130, vZ0 BK131, vZ1 BK131, vZ0 BK132, vZ1 BK132, vZ0 BK133, vZ1 BK133⟩ (fun hHeld => ?_)
     clear hK K
     refine nU ?_
     refine oU 21 52 (bA 27 4194303) HT_ (fun K hK => ?_)
     refine goes_ Try.func106 kR rfl #[.agg #[.int .i64 a2_0, .int .i64 a2_1], .agg #[.int .i64 a3_0, .int .i64 a3_1], .agg #[.int .i64 a1_0, .int .i64 a1_1]] (by rfl) rfl rfl sQ ?_
     with_reducible refine (spec_pgTurn.calls a2_0 a2_1 a3_0 a3_1 a1_0 a1_1 t144 _ A89.out).mono ?_
     rintro e w95 ⟨rfl, hb⟩; refine ⟨_, rfl, ?_⟩; replace BK130 := bB BK130 hb; replace BK131 := bB BK131 hb; replace BK132 := bB BK132 hb; replace BK133 := bB BK133 hb; replace HB := tB HB hb; (try clear hb); (try clear hb2); (try clear hk); (try clear hi)
     refine hK.out _ _ ⟨vZ0 BK130, vZ1 BK130, vZ0 BK131, vZ1 BK131, vZ0 BK132, vZ1 BK132, vZ0 BK133, vZ1 BK133⟩ (fun hHeld => ?_)
     clear hK K
     refine nU ?_
     refine oU 22 53 (bA 27 8388607) HT_ (fun K hK => ?_)
     refine goes_ Try.func136 kR rfl #[.int .i64 t144] (by rfl) rfl rfl sQ ?_
     with_reducible refine (spec_l1Sign.calls t144 t145 _ A90.out).mono ?_
     rintro e w' ⟨rfl, ⟨nd, rfl⟩⟩; refine ⟨_, rfl, ?_⟩
     refine hK.out _ _ ⟨vZ0 BK130, vZ1 BK130, vZ0 BK131, vZ1 BK131, vZ0 BK132, vZ1 BK132, vZ0 BK133, vZ1 BK133⟩ (fun hHeld => ?_)
     clear hK K
     refine nU ?_
     refine pU 23 54 (bA 27 16777215) HT_ ?_; refine pU 24 55 (bA 27 33554431) HT_ ?_; refine pU 25 56 (bA 27 67108863) HT_ ?_; refine pU 26 8 (bA 27 134217727) HT_ ?_
     refine done_ (done_of HT_.out kR) ?_
     try go_wp2
     go_ret
     exact ⟨wQ, bE⟩
    ·rw [if_neg c86] at H; have c86b0 := decide_eq_false c86; clear c86; obtain rfl := Option.some.inj H
     try go_wp2
     replace BK130 := aM (kD BK130.out); replace BK131 := aM (kD BK131.out); replace BK132 := aM (kD BK132.out); replace BK133 := aM (kD BK133.out); replace HB := aM (pD HB.out)
     refine start_ (n := 27) (S := fun w' => w'.cell? ⟨gb130, 0, none⟩ = some (.int .i64 a0_0) ∧ w'.cell? ⟨gb130, 1, none⟩ = some (.int .i64 a0_1) ∧ w'.cell? ⟨gb131, 0, none⟩ = some (.int .i64 a1_0) ∧ w'.cell? ⟨gb131, 1, none⟩ = some (.int .i64 a1_1) ∧ w'.cell? ⟨gb132, 0, none⟩ = some (.int .i64 a2_0) ∧ w'.cell? ⟨gb132, 1, none⟩ = some (.int .i64 a2_1) ∧ w'.cell? ⟨gb133, 0, none⟩ = some (.int .i64 a3_0) ∧ w'.cell? ⟨gb133, 1, none⟩ = some (.int .i64 a3_1)) (ds := []) (bA 27 0) kR rfl kR ⟨vZ0 BK130, vZ1 BK130, vZ0 BK131, vZ1 BK131, vZ0 BK132, vZ1 BK132, vZ0 BK133, vZ1 BK133⟩ (fun hHeld => ?_); refine with_tabW spec_pgMeet.tab3 spec_pgMeet.bits3 (fun HT_ HW_ => ?_)
     generalize wc.drew = w96 at BK130 BK131 BK132 BK133 HB hHeld ⊢
     refine tU 0 31 (bA 27 1) HT_ HW_ hHeld ?_ (hy := Or.inl ⟨by rfl, by rintro w' ⟨s0, s1, s2, s3, s4, s5, s6, s7⟩; go_simp; with_reducible rfl⟩)
     refine tU 1 32 (bA 27 3) HT_ HW_ hHeld ?_ (hy := Or.inl ⟨by rfl, by rintro w' ⟨s0, s1, s2, s3, s4, s5, s6, s7⟩; go_simp; with_reducible rfl⟩)
     refine tU 2 33 (bA 27 7) HT_ HW_ hHeld ?_ (hy := Or.inl ⟨by rfl, by rintro w' ⟨s0, s1, s2, s3, s4, s5, s6, s7⟩; go_simp; with_reducible rfl⟩)
     refine tU 5 36 (bA 27 39) HT_ HW_ hHeld ?_ (hy := Or.inl ⟨by rfl, by rintro w' ⟨s0, s1, s2, s3, s4, s5, s6, s7⟩; go_simp; with_reducible rfl⟩)
     refine tU 6 37 (bA 27 103) HT_ HW_ hHeld ?_ (hy := Or.inl ⟨by rfl, by rintro w' ⟨s0, s1, s2, s3, s4, s5, s6, s7⟩; go_simp; with_reducible rfl⟩)
     refine tU 7 38 (bA 27 231) HT_ HW_ hHeld ?_ (hy := Or.inl ⟨by rfl, by rintro w' ⟨s0, s1, s2, s3, s4, s5, s6, s7⟩; go_simp; with_reducible rfl⟩)
     refine oU 3 34 (bA 27 239) HT_ (fun K hK => ?_)
     refine goes_ Try.func106 kR rfl #[.agg #[.int .i64 a0_0, .int .i64 a0_1], .agg #[.int .i64 a1_0, .int .i64 a1_1], .agg #[.int .i64 a2_0, .int .i64 a2_1]] (by rfl) rfl rfl sQ ?_
     with_reducible refine (spec_pgTurn.calls a0_0 a0_1 a1_0 a1_1 a2_0 a2_1 t138 _ A82.out).mono ?_
     rintro e w97 ⟨rfl, hb⟩; refine ⟨_, rfl, ?_⟩; replace BK130 := bB BK130 hb; replace BK131 := bB BK131 hb; replace BK132 := bB BK132 hb; replace BK133 := bB BK133 hb; replace HB := tB HB hb; (try clear hb); (try clear hb2); (try clear hk); (try clear hi)
     refine hK.out _ _ ⟨vZ0 BK130, vZ1 BK130, vZ0 BK131, vZ1 BK131, vZ0 BK132, vZ1 BK132, vZ0 BK133, vZ1 BK133⟩ (fun hHeld => ?_)
     clear hK K
     refine nU ?_
     refine oU 4 35 (bA 27 255) HT_ (fun K hK => ?_)
     refine goes_ Try.func136 kR rfl #[.int .i64 t138] (by rfl) rfl rfl sQ ?_
     with_reducible refine (spec_l1Sign.calls t138 t139 _ A83.out).mono ?_
     rintro e w' ⟨rfl, ⟨nd, rfl⟩⟩; refine ⟨_, rfl, ?_⟩
     refine hK.out _ _ ⟨vZ0 BK130, vZ1 BK130, vZ0 BK131, vZ1 BK131, vZ0 BK132, vZ1 BK132, vZ0 BK133, vZ1 BK133⟩ (fun hHeld => ?_)
     clear hK K
     refine nU ?_
     refine oU 8 39 (bA 27 511) HT_ (fun K hK => ?_)
     refine goes_ Try.func106 kR rfl #[.agg #[.int .i64 a0_0, .int .i64 a0_1], .agg #[.int .i64 a1_0, .int .i64 a1_1], .agg #[.int .i64 a3_0, .int .i64 a3_1]] (by rfl) rfl rfl sQ ?_
     with_reducible refine (spec_pgTurn.calls a0_0 a0_1 a1_0 a1_1 a3_0 a3_1 t140 _ A84.out).mono ?_
     rintro e w98 ⟨rfl, hb⟩; refine ⟨_, rfl, ?_⟩; replace BK130 := bB BK130 hb; replace BK131 := bB BK131 hb; replace BK132 := bB BK132 hb; replace BK133 := bB BK133 hb; replace HB := tB HB hb; (try clear hb); (try clear hb2); (try clear hk); (try clear hi)
     refine hK.out _ _ ⟨vZ0 BK130, vZ1 BK130, vZ0 BK131, vZ1 BK131, vZ0 BK132, vZ1 BK132, vZ0 BK133, vZ1 BK133⟩ (fun hHeld => ?_)
     clear hK K
     refine nU ?_
     refine oU 9 40 (bA 27 1023) HT_ (fun K hK => ?_)
     refine goes_ Try.func136 kR rfl #[.int .i64 t140] (by rfl) rfl rfl sQ ?_
     with_reducible refine (spec_l1Sign.calls t140 t141 _ A85.out).mono ?_
     rintro e w' ⟨rfl, ⟨nd, rfl⟩⟩; refine ⟨_, rfl, ?_⟩
     refine hK.out _ _ ⟨vZ0 BK130, vZ1 BK130, vZ0 BK131, vZ1 BK131, vZ0 BK132, vZ1 BK132, vZ0 BK133, vZ1 BK133⟩ (fun hHeld => ?_)
     clear hK K
     refine nU ?_
     refine pU 10 41 (bA 27 2047) HT_ ?_; refine pU 11 42 (bA 27 4095) HT_ ?_; refine pU 12 43 (bA 27 8191) HT_ ?_; refine pU 13 44 (bA 27 16383) HT_ ?_ (hy := Or.inr ⟨by rfl, rfl⟩)
     refine pU 14 45 (bA 27 32767) HT_ ?_ (hy := Or.inr ⟨by rfl, rfl⟩)
     refine pU 15 46 (bA 27 65535) HT_ ?_ (hy := Or.inr ⟨by rfl, rfl⟩)
     refine pU 16 47 (bA 27 131071) HT_ ?_ (hy := Or.inr ⟨by rfl, rfl⟩)
     refine pU 17 48 (bA 27 262143) HT_ ?_ (hy := Or.inr ⟨by rfl, rfl⟩)
     refine pU 18 49 (bA 27 524287) HT_ ?_ (hy := Or.inr ⟨by rfl, rfl⟩)
     refine pU 19 50 (bA 27 1048575) HT_ ?_ (hy := Or.inr ⟨by rfl, rfl⟩)
     refine pU 20 51 (bA 27 2097151) HT_ ?_ (hy := Or.inr ⟨by rfl, rfl⟩)
     refine pU 21 52 (bA 27 4194303) HT_ ?_ (hy := Or.inr ⟨by rfl, rfl⟩)
     refine pU 22 53 (bA 27 8388607) HT_ ?_ (hy := Or.inr ⟨by rfl, rfl⟩)
     refine pU 23 54 (bA 27 16777215) HT_ ?_ (hy := Or.inr ⟨by rfl, rfl⟩)
     refine pU 24 55 (bA 27 33554431) HT_ ?_ (hy := Or.inr ⟨by rfl, rfl⟩)
     refine pU 25 56 (bA 27 67108863) HT_ ?_; refine pU 26 8 (bA 27 134217727) HT_ ?_
     refine done_ (done_of HT_.out kR) ?_
     try go_wp2
     go_ret
     exact ⟨wQ, bE⟩

end Go.Proofs.Ytklhakfmegbobaa.X
