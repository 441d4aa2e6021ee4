-- thin
-- short
-- compact
import Derived.Test.YtphkphjddkjabaaXA
import Derived.Test.YtphkphjddkjabaaX0
import Derived.Test.YtphkphjddkjabaaX2
namespace Go.Proofs.Ytphkphjddkjabaa.X
open Go.RowKit Go.Proofs.Ytphkphjddkjabaa.XW Go.Proofs.YtphkphjddkjabaaW.PrintWords Go.Proofs.YtphkphjddkjabaaW.PrintLast Go.Proofs.YtphkphjddkjabaaW.PrintMore
attribute [local go_sem] max2_int min2_int max_two min_two max_three min_three max_four min_four   -- for this text's walks alone
set_option linter.unusedVariables false
set_option linter.unusedSimpArgs false

def spec_pgMeet.j0 : Nat → Bool → Int → Int → Int → Int → Int → Int → Int → Int → Option (Bool)
 | 0, _, _, _, _, _, _, _, _, _ => none
 | k + 1, x30, x112000, x112001, x113000, x113001, x114000, x114001, x115000, x115001 => if x30 = true then (some true) else ((spec_pgTurn.f x112000 x112001 x113000 x113001 x114000 x114001).bind fun t119 => ((spec_l1Sign.f t119).bind fun t120 => ((spec_pgTurn.f x112000 x112001 x113000 x113001 x115000 x115001).bind fun t121 => ((spec_l1Sign.f t121).bind fun t122 => (if (wrap64 (t120 * t122)) < 0 then ((spec_pgTurn.f x114000 x114001 x115000 x115001 x112000 x112001).bind fun t123 => ((spec_l1Sign.f t123).bind fun t124 => ((spec_pgTurn.f x114000 x114001 x115000 x115001 x113000 x113001).bind fun t125 => ((spec_l1Sign.f t125).bind fun t126 => (some (decide ((wrap64 (t124 * t126)) < 0))))))) else (some false))))))
def spec_pgMeet.f (k : Nat) (a0_0 : Int) (a0_1 : Int) (a1_0 : Int) (a1_1 : Int) (a2_0 : Int) (a2_1 : Int) (a3_0 : Int) (a3_1 : Int) : Option (Bool) := (spec_pgOn.f a0_0 a0_1 a1_0 a1_1 a2_0 a2_1).bind fun t115 => (if t115 = true then (spec_pgMeet.j0 k true a0_0 a0_1 a1_0 a1_1 a2_0 a2_1 a3_0 a3_1) else ((spec_pgOn.f a0_0 a0_1 a1_0 a1_1 a3_0 a3_1).bind fun t116 => (if t116 = true then (spec_pgMeet.j0 k true a0_0 a0_1 a1_0 a1_1 a2_0 a2_1 a3_0 a3_1) else ((spec_pgOn.f a2_0 a2_1 a3_0 a3_1 a0_0 a0_1).bind fun t117 => (if t117 = true then (spec_pgMeet.j0 k true a0_0 a0_1 a1_0 a1_1 a2_0 a2_1 a3_0 a3_1) else ((spec_pgOn.f a2_0 a2_1 a3_0 a3_1 a1_0 a1_1).bind fun t118 => (spec_pgMeet.j0 k t118 a0_0 a0_1 a1_0 a1_1 a2_0 a2_1 a3_0 a3_1)))))))
theorem spec_pgMeet.mono_l : ∀ k, (∀ y0 y1 y2 y3 y4 y5 y6 y7 y8, LeO (spec_pgMeet.j0 k y0 y1 y2 y3 y4 y5 y6 y7 y8) (spec_pgMeet.j0 (k + 1) y0 y1 y2 y3 y4 y5 y6 y7 y8))
 | 0 => fun _ _ _ _ _ _ _ _ _ r h => by simp [spec_pgMeet.j0] at h
 | k + 1 => by
  have ih0 := spec_pgMeet.mono_l k
  ·intro y0 y1 y2 y3 y4 y5 y6 y7 y8
   unfold spec_pgMeet.j0
   repeat' first
   | (with_reducible exact ih0 _ _ _ _ _ _ _ _ _)
   | (with_reducible exact LeO.refl _)
   | (with_reducible exact LeO.none _)
   | (with_reducible refine LeO.ite ?_ ?_)
   | (with_reducible refine LeO.bind ?_ (fun _ => ?_))
   | exact ih0 _ _ _ _ _ _ _ _ _
   | exact LeO.none _
   | refine LeO.ite ?_ ?_
   | refine LeO.bind ?_ (fun _ => ?_)
theorem spec_pgMeet.mono : ∀ a0 a1 a2 a3 a4 a5 a6 a7 k, LeO (spec_pgMeet.f k a0 a1 a2 a3 a4 a5 a6 a7) (spec_pgMeet.f (k + 1) a0 a1 a2 a3 a4 a5 a6 a7) := by
 intro a0 a1 a2 a3 a4 a5 a6 a7 k
 have ih0 := spec_pgMeet.mono_l k
 unfold spec_pgMeet.f
 repeat' first | (with_reducible exact ih0 _ _ _ _ _ _ _ _ _) | (with_reducible exact LeO.refl _) | (with_reducible exact LeO.none _) | (with_reducible refine LeO.ite ?_ ?_) | (with_reducible refine LeO.bind ?_ (fun _ => ?_)) | exact ih0 _ _ _ _ _ _ _ _ _ | exact LeO.none _ | refine LeO.ite ?_ ?_ | refine LeO.bind ?_ (fun _ => ?_)
def spec_pgMeet.T3 : Bool × List (List Nat × List Nat) := (true, [([], []), ([], []), ([], []), ([0, 1, 2], [0, 1, 2]), ([3, 3], [3]), ([], []), ([], []), ([], []), ([5, 6, 7, 4], [5, 6, 7]), ([8, 8], [8]), ([4, 9], [4, 9]), ([10], [10]), ([11, 9], [11]), ([12], [12]), ([12], [12]), ([12], [12]), ([13, 14, 15, 12, 12], [12, 13, 14, 15]), ([16, 16, 12], [12, 16]), ([12], [12]), ([12], [12]), ([12], [12]), ([18, 19, 20, 17, 12], [12, 18, 19, 20]), ([21, 21, 12], [12, 21]), ([17, 22, 12], [12, 17, 22]), ([23, 12], [12, 23]), ([12, 24], [12, 24]), ([25, 22, 0, 1, 2, 3, 4, 5, 6, 7, 8, 9, 10, 11, 12, 13, 14, 15, 16, 17, 18, 19, 20, 21, 22, 23, 24, 25], [25])])
def spec_pgMeet.B3 : List Nat := [0, 0, 0, 7, 15, 0, 0, 0, 255, 511, 1023, 2047, 4095, 8191, 8191, 8191, 65535, 131071, 8191, 8191, 8191, 2097151, 4194303, 8388607, 16777215, 33554431, 67108863]
theorem spec_pgMeet.tab3 : rtab .any (opsOf Try.f25 3) = spec_pgMeet.T3 := by kernel_rfl
theorem spec_pgMeet.bits3 : waitsOk spec_pgMeet.T3.2 spec_pgMeet.B3 = true := by kernel_rfl
set_option maxHeartbeats 8000000 in
set_option maxRecDepth 100000 in
theorem spec_pgMeet.calls (k : Nat) (a0_0 : Int) (a0_1 : Int) (a1_0 : Int) (a1_1 : Int) (a2_0 : Int) (a2_1 : Int) (a3_0 : Int) (a3_1 : Int) (r : Bool) (w : World) (h : spec_pgMeet.f k a0_0 a0_1 a1_0 a1_1 a2_0 a2_1 a3_0 a3_1 = some r) :
  Calls Try.prog 25 #[.agg #[.int .i64 a0_0, .int .i64 a0_1], .agg #[.int .i64 a1_0, .int .i64 a1_1], .agg #[.int .i64 a2_0, .int .i64 a2_1], .agg #[.int .i64 a3_0, .int .i64 a3_1]] w fun e w' => e = .returned (.bool r) ∧ Below w.heap.size w w' := by
 have hu38 := Try.underlying38; have HB := aM (Below.refl w.heap.size w)
 unfold spec_pgMeet.f at h; have H := h; clear h
 have HC5 := aM H; clear H
 go_enter Try.func25, Try.ntmps25
 go_upto_region 1 with (first | ((with_reducible refine gate_dst (N := 4) rfl ?_); refine bV 4 (cs := #[.int .i64 a0_0, .int .i64 a0_1]) (t := 38) rfl rfl (by first | (go_simp; done) | (go_simp; rfl)) ?_; intro gb111 hg w6 hbox hb; have BK111 := hbox; have GW111 := gZ HB hg; have GE111 := gZ HB hg; replace HB := tB HB hb; clear hb hbox hg) | ((with_reducible refine gate_dst (N := 5) rfl ?_); refine bV 5 (cs := #[.int .i64 a1_0, .int .i64 a1_1]) (t := 38) rfl rfl (by first | (go_simp; done) | (go_simp; rfl)) ?_; intro gb112 hg w7 hbox hb; have BK112 := hbox; have GW112 := gZ HB hg; have GE112 := gZ HB hg; have NB111_112 := nG BK111 hg; have NB112_111 := nH BK111 hg; replace BK111 := bB BK111 hb; replace HB := tB HB hb; clear hb hbox hg) | ((with_reducible refine gate_dst (N := 6) rfl ?_); refine bV 6 (cs := #[.int .i64 a2_0, .int .i64 a2_1]) (t := 38) rfl rfl (by first | (go_simp; done) | (go_simp; rfl)) ?_; intro gb113 hg w8 hbox hb; have BK113 := hbox; have GW113 := gZ HB hg; have GE113 := gZ HB hg; have NB111_113 := nG BK111 hg; have NB113_111 := nH BK111 hg; have NB112_113 := nG BK112 hg; have NB113_112 := nH BK112 hg; replace BK111 := bB BK111 hb; replace BK112 := bB BK112 hb; replace HB := tB HB hb; clear hb hbox hg) | ((with_reducible refine gate_dst (N := 7) rfl ?_); refine bV 7 (cs := #[.int .i64 a3_0, .int .i64 a3_1]) (t := 38) rfl rfl (by first | (go_simp; done) | (go_simp; rfl)) ?_; intro gb114 hg w9 hbox hb; have BK114 := hbox; have GW114 := gZ HB hg; have GE114 := gZ HB hg; have NB111_114 := nG BK111 hg; have NB114_111 := nH BK111 hg; have NB112_114 := nG BK112 hg; have NB114_112 := nH BK112 hg; have NB113_114 := nG BK113 hg; have NB114_113 := nH BK113 hg; replace BK111 := bB BK111 hb; replace BK112 := bB BK112 hb; replace BK113 := bB BK113 hb; replace HB := tB HB hb; clear hb hbox hg))
 (try simp only [Act.put, sI, sZ, sS])
 go_cut [30] (fun v30 wc => ∃ (kq : Nat) (x30_4 : Bool), v30 = .bool x30_4 ∧ Aside0 (spec_pgMeet.j0 kq x30_4 a0_0 a0_1 a1_0 a1_1 a2_0 a2_1 a3_0 a3_1 = some r) ∧ Aside0 (kq ≤ k) ∧ Aside0 (wc.heap[gb111]? = some (.cells #[.int .i64 a0_0, .int .i64 a0_1] 38 (0, 0))) ∧ Aside0 (wc.heap[gb112]? = some (.cells #[.int .i64 a1_0, .int .i64 a1_1] 38 (0, 0))) ∧ Aside0 (wc.heap[gb113]? = some (.cells #[.int .i64 a2_0, .int .i64 a2_1] 38 (0, 0))) ∧ Aside0 (wc.heap[gb114]? = some (.cells #[.int .i64 a3_0, .int .i64 a3_1] 38 (0, 0))) ∧ Aside0 (Below w.heap.size w wc))
 case first =>
  have H := HC5.out; clear HC5; replace H := bS H; obtain ⟨t115, A10, H⟩ := H
  by_cases c11 : t115 = true
  ·subst c11; replace H := iT H; have H' := aM H; clear H; have hnb12 := NB111_112.out; have hnc12 := NB112_111.out; have hnb13 := NB111_113.out; have hnc13 := NB113_111.out; have hnb14 := NB111_114.out; have hnc14 := NB114_111.out; have hcz15_0 := vZ0 BK111; have hcz15_1 := vZ1 BK111; have hfz15_0 := kF BK111.out 0; have hfz15_1 := kF BK111.out 1; have hnb16 := NB112_113.out; have hnc16 := NB113_112.out; have hnb17 := NB112_114.out; have hnc17 := NB114_112.out; have hcz18_0 := vZ0 BK112; have hcz18_1 := vZ1 BK112; have hfz18_0 := kF BK112.out 0; have hfz18_1 := kF BK112.out 1; have hnb19 := NB113_114.out; have hnc19 := NB114_113.out; have hcz20_0 := vZ0 BK113; have hcz20_1 := vZ1 BK113; have hfz20_0 := kF BK113.out 0; have hfz20_1 := kF BK113.out 1
   go_wp2_with (first | ((with_reducible refine gC (f := 40) rfl ?_); refine goesL_ (some 12) rfl rfl Try.func40 kR rfl #[.agg #[.int .i64 a0_0, .int .i64 a0_1], .agg #[.int .i64 a1_0, .int .i64 a1_1], .agg #[.int .i64 a2_0, .int .i64 a2_1]] rfl sQ ?_; (with_reducible refine (spec_pgOn.calls a0_0 a0_1 a1_0 a1_1 a2_0 a2_1 true _ A10.out).mono ?_); rintro e w21 ⟨rfl, hb⟩; refine ⟨_, rfl, ?_⟩; replace BK111 := bB BK111 hb; replace BK112 := bB BK112 hb; replace BK113 := bB BK113 hb; replace BK114 := bB BK114 hb; replace HB := tB HB hb; (try clear hb); (try clear hb2); (try clear hk); (try clear hi)))
   go_meet
   case rel => exact ⟨_, (true), eQ, H', ⟨by first | omega | exact Nat.le_refl _⟩, ⟨gQ BK111⟩, ⟨gQ BK112⟩, ⟨gQ BK113⟩, ⟨gQ BK114⟩, ⟨bE⟩⟩
  ·replace c11 := Bool.eq_false_iff.mpr c11; subst c11; replace H := iF H; replace H := bS H; obtain ⟨t116, A22, H⟩ := H
   by_cases c23 : t116 = true
   ·subst c23; replace H := iT H; have H' := aM H; clear H; have hnb24 := NB111_112.out; have hnc24 := NB112_111.out; have hnb25 := NB111_113.out; have hnc25 := NB113_111.out; have hnb26 := NB111_114.out; have hnc26 := NB114_111.out; have hcz27_0 := vZ0 BK111; have hcz27_1 := vZ1 BK111; have hfz27_0 := kF BK111.out 0; have hfz27_1 := kF BK111.out 1; have hnb28 := NB112_113.out; have hnc28 := NB113_112.out; have hnb29 := NB112_114.out; have hnc29 := NB114_112.out; have hcz30_0 := vZ0 BK112; have hcz30_1 := vZ1 BK112; have hfz30_0 := kF BK112.out 0; have hfz30_1 := kF BK112.out 1; have hnb31 := NB113_114.out; have hnc31 := NB114_113.out; have hcz32_0 := vZ0 BK113; have hcz32_1 := vZ1 BK113; have hfz32_0 := kF BK113.out 0; have hfz32_1 := kF BK113.out 1
    go_wp2_with (first | ((with_reducible refine gC (f := 40) rfl ?_); refine goesL_ (some 12) rfl rfl Try.func40 kR rfl #[.agg #[.int .i64 a0_0, .int .i64 a0_1], .agg #[.int .i64 a1_0, .int .i64 a1_1], .agg #[.int .i64 a2_0, .int .i64 a2_1]] rfl sQ ?_; (with_reducible refine (spec_pgOn.calls a0_0 a0_1 a1_0 a1_1 a2_0 a2_1 false _ A10.out).mono ?_); rintro e w33 ⟨rfl, hb⟩; refine ⟨_, rfl, ?_⟩; replace BK111 := bB BK111 hb; replace BK112 := bB BK112 hb; replace BK113 := bB BK113 hb; replace BK114 := bB BK114 hb; replace HB := tB HB hb; (try clear hb); (try clear hb2); (try clear hk); (try clear hi); have hcz34_0 := vZ0 BK111; have hcz34_1 := vZ1 BK111; have hfz34_0 := kF BK111.out 0; have hfz34_1 := kF BK111.out 1; have hcz35_0 := vZ0 BK112; have hcz35_1 := vZ1 BK112; have hfz35_0 := kF BK112.out 0; have hfz35_1 := kF BK112.out 1; have hcz36_0 := vZ0 BK114; have hcz36_1 := vZ1 BK114; have hfz36_0 := kF BK114.out 0; have hfz36_1 := kF BK114.out 1) | (go_at_call 40; (with_reducible refine (spec_pgOn.calls a0_0 a0_1 a1_0 a1_1 a3_0 a3_1 true _ A22.out).mono ?_); rintro e w37 ⟨rfl, hb⟩; replace BK111 := bB BK111 hb; replace BK112 := bB BK112 hb; replace BK113 := bB BK113 hb; replace BK114 := bB BK114 hb; replace HB := tB HB hb; (try clear hb); (try clear hb2); (try clear hk); (try clear hi)))
    go_meet
    case rel => exact ⟨_, (true), eQ, H', ⟨by first | omega | exact Nat.le_refl _⟩, ⟨gQ BK111⟩, ⟨gQ BK112⟩, ⟨gQ BK113⟩, ⟨gQ BK114⟩, ⟨bE⟩⟩
   ·replace c23 := Bool.eq_false_iff.mpr c23; subst c23; replace H := iF H; replace H := bS H; obtain ⟨t117, A38, H⟩ := H
    by_cases c39 : t117 = true
    ·subst c39; replace H := iT H; have H' := aM H; clear H; have hnb40 := NB111_112.out; have hnc40 := NB112_111.out; have hnb41 := NB111_113.out; have hnc41 := NB113_111.out; have hnb42 := NB111_114.out; have hnc42 := NB114_111.out; have hcz43_0 := vZ0 BK111; have hcz43_1 := vZ1 BK111; have hfz43_0 := kF BK111.out 0; have hfz43_1 := kF BK111.out 1; have hnb44 := NB112_113.out; have hnc44 := NB113_112.out; have hnb45 := NB112_114.out; have hnc45 := NB114_112.out; have hcz46_0 := vZ0 BK112; have hcz46_1 := vZ1 BK112; have hfz46_0 := kF BK112.out 0; have hfz46_1 := kF BK112.out 1; have hnb47 := NB113_114.out; have hnc47 := NB114_113.out; have hcz48_0 := vZ0 BK113; have hcz48_1 := vZ1 BK113; have hfz48_0 := kF BK113.out 0; have hfz48_1 := kF BK113.out 1
     go_wp2_with (first | ((with_reducible refine gC (f := 40) rfl ?_); refine goesL_ (some 12) rfl rfl Try.func40 kR rfl #[.agg #[.int .i64 a0_0, .int .i64 a0_1], .agg #[.int .i64 a1_0, .int .i64 a1_1], .agg #[.int .i64 a2_0, .int .i64 a2_1]] rfl sQ ?_; (with_reducible refine (spec_pgOn.calls a0_0 a0_1 a1_0 a1_1 a2_0 a2_1 false _ A10.out).mono ?_); rintro e w49 ⟨rfl, hb⟩; refine ⟨_, rfl, ?_⟩; replace BK111 := bB BK111 hb; replace BK112 := bB BK112 hb; replace BK113 := bB BK113 hb; replace BK114 := bB BK114 hb; replace HB := tB HB hb; (try clear hb); (try clear hb2); (try clear hk); (try clear hi); have hcz50_0 := vZ0 BK111; have hcz50_1 := vZ1 BK111; have hfz50_0 := kF BK111.out 0; have hfz50_1 := kF BK111.out 1; have hcz51_0 := vZ0 BK112; have hcz51_1 := vZ1 BK112; have hfz51_0 := kF BK112.out 0; have hfz51_1 := kF BK112.out 1; have hcz52_0 := vZ0 BK114; have hcz52_1 := vZ1 BK114; have hfz52_0 := kF BK114.out 0; have hfz52_1 := kF BK114.out 1) | (go_at_call 40; (with_reducible refine (spec_pgOn.calls a0_0 a0_1 a1_0 a1_1 a3_0 a3_1 false _ A22.out).mono ?_); rintro e w53 ⟨rfl, hb⟩; replace BK111 := bB BK111 hb; replace BK112 := bB BK112 hb; replace BK113 := bB BK113 hb; replace BK114 := bB BK114 hb; replace HB := tB HB hb; (try clear hb); (try clear hb2); (try clear hk); (try clear hi); have hcz54_0 := vZ0 BK113; have hcz54_1 := vZ1 BK113; have hfz54_0 := kF BK113.out 0; have hfz54_1 := kF BK113.out 1; have hcz55_0 := vZ0 BK114; have hcz55_1 := vZ1 BK114; have hfz55_0 := kF BK114.out 0; have hfz55_1 := kF BK114.out 1; have hcz56_0 := vZ0 BK111; have hcz56_1 := vZ1 BK111; have hfz56_0 := kF BK111.out 0; have hfz56_1 := kF BK111.out 1) | (go_at_call 40; (with_reducible refine (spec_pgOn.calls a2_0 a2_1 a3_0 a3_1 a0_0 a0_1 true _ A38.out).mono ?_); rintro e w57 ⟨rfl, hb⟩; replace BK111 := bB BK111 hb; replace BK112 := bB BK112 hb; replace BK113 := bB BK113 hb; replace BK114 := bB BK114 hb; replace HB := tB HB hb; (try clear hb); (try clear hb2); (try clear hk); (try clear hi)))
     go_meet
     case rel => exact ⟨_, (true), eQ, H', ⟨by first | omega | exact Nat.le_refl _⟩, ⟨gQ BK111⟩, ⟨gQ BK112⟩, ⟨gQ BK113⟩, ⟨gQ BK114⟩, ⟨bE⟩⟩
    ·replace c39 := Bool.eq_false_iff.mpr c39; subst c39; replace H := iF H; replace H := bS H; obtain ⟨t118, A58, H⟩ := H; have H' := aM H; clear H; have hnb59 := NB111_112.out; have hnc59 := NB112_111.out; have hnb60 := NB111_113.out; have hnc60 := NB113_111.out; have hnb61 := NB111_114.out; have hnc61 := NB114_111.out; have hcz62_0 := vZ0 BK111; have hcz62_1 := vZ1 BK111; have hfz62_0 := kF BK111.out 0; have hfz62_1 := kF BK111.out 1; have hnb63 := NB112_113.out; have hnc63 := NB113_112.out; have hnb64 := NB112_114.out; have hnc64 := NB114_112.out; have hcz65_0 := vZ0 BK112; have hcz65_1 := vZ1 BK112; have hfz65_0 := kF BK112.out 0; have hfz65_1 := kF BK112.out 1; have hnb66 := NB113_114.out; have hnc66 := NB114_113.out; have hcz67_0 := vZ0 BK113; have hcz67_1 := vZ1 BK113; have hfz67_0 := kF BK113.out 0; have hfz67_1 := kF BK113.out 1
     go_wp2_with (first | ((with_reducible refine gC (f := 40) rfl ?_); refine goesL_ (some 12) rfl rfl Try.func40 kR rfl #[.agg #[.int .i64 a0_0, .int .i64 a0_1], .agg #[.int .i64 a1_0, .int .i64 a1_1], .agg #[.int .i64 a2_0, .int .i64 a2_1]] rfl sQ ?_; (with_reducible refine (spec_pgOn.calls a0_0 a0_1 a1_0 a1_1 a2_0 a2_1 false _ A10.out).mono ?_); rintro e w68 ⟨rfl, hb⟩; refine ⟨_, rfl, ?_⟩; replace BK111 := bB BK111 hb; replace BK112 := bB BK112 hb; replace BK113 := bB BK113 hb; replace BK114 := bB BK114 hb; replace HB := tB HB hb; (try clear hb); (try clear hb2); (try clear hk); (try clear hi); have hcz69_0 := vZ0 BK111; have hcz69_1 := vZ1 BK111; have hfz69_0 := kF BK111.out 0; have hfz69_1 := kF BK111.out 1; have hcz70_0 := vZ0 BK112; have hcz70_1 := vZ1 BK112; have hfz70_0 := kF BK112.out 0; have hfz70_1 := kF BK112.out 1; have hcz71_0 := vZ0 BK114; have hcz71_1 := vZ1 BK114; have hfz71_0 := kF BK114.out 0; have hfz71_1 := kF BK114.out 1) | (go_at_call 40; (with_reducible refine (spec_pgOn.calls a0_0 a0_1 a1_0 a1_1 a3_0 a3_1 false _ A22.out).mono ?_); rintro e w72 ⟨rfl, hb⟩; replace BK111 := bB BK111 hb; replace BK112 := bB BK112 hb; replace BK113 := bB BK113 hb; replace BK114 := bB BK114 hb; replace HB := tB HB hb; (try clear hb); (try clear hb2); (try clear hk); (try clear hi); have hcz73_0 := vZ0 BK113; have hcz73_1 := vZ1 BK113; have hfz73_0 := kF BK113.out 0; have hfz73_1 := kF BK113.out 1; have hcz74_0 := vZ0 BK114; have hcz74_1 := vZ1 BK114; have hfz74_0 := kF BK114.out 0; have hfz74_1 := kF BK114.out 1; have hcz75_0 := vZ0 BK111; have hcz75_1 := vZ1 BK111; have hfz75_0 := kF BK111.out 0; have hfz75_1 := kF BK111.out 1) | (go_at_call 40; (with_reducible refine (spec_pgOn.calls a2_0 a2_1 a3_0 a3_1 a0_0 a0_1 false _ A38.out).mono ?_); rintro e w76 ⟨rfl, hb⟩; replace BK111 := bB BK111 hb; replace BK112 := bB BK112 hb; replace BK113 := bB BK113 hb; replace BK114 := bB BK114 hb; replace HB := tB HB hb; (try clear hb); (try clear hb2); (try clear hk); (try clear hi); have hcz77_0 := vZ0 BK113; have hcz77_1 := vZ1 BK113; have hfz77_0 := kF BK113.out 0; have hfz77_1 := kF BK113.out 1; have hcz78_0 := vZ0 BK114; have hcz78_1 := vZ1 BK114; have hfz78_0 := kF BK114.out 0; have hfz78_1 := kF BK114.out 1; have hcz79_0 := vZ0 BK112; have hcz79_1 := vZ1 BK112; have hfz79_0 := kF BK112.out 0; have hfz79_1 := kF BK112.out 1) | (go_at_call 40; (with_reducible refine (spec_pgOn.calls a2_0 a2_1 a3_0 a3_1 a1_0 a1_1 t118 _ A58.out).mono ?_); rintro e w80 ⟨rfl, hb⟩; replace BK111 := bB BK111 hb; replace BK112 := bB BK112 hb; replace BK113 := bB BK113 hb; replace BK114 := bB BK114 hb; replace HB := tB HB hb; (try clear hb); (try clear hb2); (try clear hk); (try clear hi)))
     go_meet
     case rel => exact ⟨_, (t118), eQ, H', ⟨by first | omega | exact Nat.le_refl _⟩, ⟨gQ BK111⟩, ⟨gQ BK112⟩, ⟨gQ BK113⟩, ⟨gQ BK114⟩, ⟨bE⟩⟩
 case rest =>
  clear HC5; obtain ⟨kq, x30_4, rfl, HA, HJ4, BK111, BK112, BK113, BK114, HB⟩ := hcut
  cases kq with
  | zero => exact absurd HA.out (by simp [spec_pgMeet.j0])
  | succ kj4 =>
   have H := HA.out; clear HA
   simp only [spec_pgMeet.j0] at H
   by_cases c81 : x30_4 = true
   ·subst c81; replace H := iT H; obtain rfl := Option.some.inj H; go_wp2
    go_ret
    exact ⟨wQ, bE⟩
   ·replace c81 := Bool.eq_false_iff.mpr c81; subst c81; replace H := iF H; replace H := bS H; obtain ⟨t119, A82, H⟩ := H; replace H := bS H; obtain ⟨t120, A83, H⟩ := H; replace H := bS H; obtain ⟨t121, A84, H⟩ := H; replace H := bS H; obtain ⟨t122, A85, H⟩ := H
    by_cases c86 : (wrap64 (t120 * t122)) < 0
    ·rw [if_pos c86] at H; have c86b0 := dE c86; clear c86; replace H := bS H; obtain ⟨t123, A87, H⟩ := H; replace H := bS H; obtain ⟨t124, A88, H⟩ := H; replace H := bS H; obtain ⟨t125, A89, H⟩ := H; replace H := bS H; obtain ⟨t126, A90, H⟩ := H; obtain rfl := Option.some.inj H
     try go_wp2
     replace BK111 := aM (kD BK111.out); replace BK112 := aM (kD BK112.out); replace BK113 := aM (kD BK113.out); replace BK114 := aM (kD BK114.out); replace HB := aM (pD HB.out)
     refine start_ (n := 27) (S := fun w' => w'.cell? ⟨gb111, 0, none⟩ = some (.int .i64 a0_0) ∧ w'.cell? ⟨gb111, 1, none⟩ = some (.int .i64 a0_1) ∧ w'.cell? ⟨gb112, 0, none⟩ = some (.int .i64 a1_0) ∧ w'.cell? ⟨gb112, 1, none⟩ = some (.int .i64 a1_1) ∧ w'.cell? ⟨gb113, 0, none⟩ = some (.int .i64 a2_0) ∧ w'.cell? ⟨gb113, 1, none⟩ = some (.int .i64 a2_1) ∧ w'.cell? ⟨gb114, 0, none⟩ = some (.int .i64 a3_0) ∧ w'.cell? ⟨gb114, 1, none⟩ = some (.int .i64 a3_1)) (ds := []) (bA 27 0) kR rfl kR ⟨vZ0 BK111, vZ1 BK111, vZ0 BK112, vZ1 BK112, vZ0 BK113, vZ1 BK113, vZ0 BK114, vZ1 BK114⟩ (fun hHeld => ?_); refine with_tabW spec_pgMeet.tab3 spec_pgMeet.bits3 (fun HT_ HW_ => ?_)
     generalize wc.drew = w91 at BK111 BK112 BK113 BK114 HB hHeld ⊢
     refine tU 0 31 (bA 27 1) HT_ HW_ hHeld ?_ (hy := Or.inl ⟨by rfl, by rintro w' ⟨s0, s1, s2, s3, s4, s5, s6, s7⟩; go_simp; with_reducible rfl⟩)
     refine tU 1 32 (bA 27 3) HT_ HW_ hHeld ?_ (hy := Or.inl ⟨by rfl, by rintro w' ⟨s0, s1, s2, s3, s4, s5, s6, s7⟩; go_simp; with_reducible rfl⟩)
     refine tU 2 33 (bA 27 7) HT_ HW_ hHeld ?_ (hy := Or.inl ⟨by rfl, by rintro w' ⟨s0, s1, s2, s3, s4, s5, s6, s7⟩; go_simp; with_reducible rfl⟩)
     refine tU 5 36 (bA 27 39) HT_ HW_ hHeld ?_ (hy := Or.inl ⟨by rfl, by rintro w' ⟨s0, s1, s2, s3, s4, s5, s6, s7⟩; go_simp; with_reducible rfl⟩)
     refine tU 6 37 (bA 27 103) HT_ HW_ hHeld ?_ (hy := Or.inl ⟨by rfl, by rintro w' ⟨s0, s1, s2, s3, s4, s5, s6, s7⟩; go_simp; with_reducible rfl⟩)
     refine tU 7 38 (bA 27 231) HT_ HW_ hHeld ?_ (hy := Or.inl ⟨by rfl, by rintro w' ⟨s0, s1, s2, s3, s4, s5, s6, s7⟩; go_simp; with_reducible rfl⟩)
     refine oU 3 34 (bA 27 239) HT_ (fun K hK => ?_)
     refine goes_ Try.func24 kR rfl #[.agg #[.int .i64 a0_0, .int .i64 a0_1], .agg #[.int .i64 a1_0, .int .i64 a1_1], .agg #[.int .i64 a2_0, .int .i64 a2_1]] (by rfl) rfl rfl sQ ?_
     with_reducible refine (spec_pgTurn.calls a0_0 a0_1 a1_0 a1_1 a2_0 a2_1 t119 _ A82.out).mono ?_
     rintro e w92 ⟨rfl, hb⟩; refine ⟨_, rfl, ?_⟩; replace BK111 := bB BK111 hb; replace BK112 := bB BK112 hb; replace BK113 := bB BK113 hb; replace BK114 := bB BK114 hb; replace HB := tB HB hb; (try clear hb); (try clear hb2); (try clear hk); (try clear hi)
     refine hK.out _ _ ⟨vZ0 BK111, vZ1 BK111, vZ0 BK112, vZ1 BK112, vZ0 BK113, vZ1 BK113, vZ0 BK114, vZ1 BK114⟩ (fun hHeld => ?_)
     clear hK K
     refine nU ?_
     refine oU 4 35 (bA 27 255) HT_ (fun K hK => ?_)
     refine goes_ Try.func41 kR rfl #[.int .i64 t119] (by rfl) rfl rfl sQ ?_
     with_reducible refine (spec_l1Sign.calls t119 t120 _ A83.out).mono ?_
     rintro e w' ⟨rfl, ⟨nd, rfl⟩⟩; refine ⟨_, rfl, ?_⟩
     refine hK.out _ _ ⟨vZ0 BK111, vZ1 BK111, vZ0 BK112, vZ1 BK112, vZ0 BK113, vZ1 BK113, vZ0 BK114, vZ1 BK114⟩ (fun hHeld => ?_)
     clear hK K
     refine nU ?_
     refine oU 8 39 (bA 27 511) HT_ (fun K hK => ?_)
     refine goes_ Try.func24 kR rfl #[.agg #[.int .i64 a0_0, .int .i64 a0_1], .agg #[.int .i64 a1_0, .int .i64 a1_1], .agg #[.int .i64 a3_0, .int .i64 a3_1]] (by rfl) rfl rfl sQ ?_
     with_reducible refine (spec_pgTurn.calls a0_0 a0_1 a1_0 a1_1 a3_0 a3_1 t121 _ A84.out).mono ?_
     rintro e w93 ⟨rfl, hb⟩; refine ⟨_, rfl, ?_⟩; replace BK111 := bB BK111 hb; replace BK112 := bB BK112 hb; replace BK113 := bB BK113 hb; replace BK114 := bB BK114 hb; replace HB := tB HB hb; (try clear hb); (try clear hb2); (try clear hk); (try clear hi)
     refine hK.out _ _ ⟨vZ0 BK111, vZ1 BK111, vZ0 BK112, vZ1 BK112, vZ0 BK113, vZ1 BK113, vZ0 BK114, vZ1 BK114⟩ (fun hHeld => ?_)
     clear hK K
     refine nU ?_
     refine oU 9 40 (bA 27 1023) HT_ (fun K hK => ?_)
     refine goes_ Try.func41 kR rfl #[.int .i64 t121] (by rfl) rfl rfl sQ ?_
     with_reducible refine (spec_l1Sign.calls t121 t122 _ A85.out).mono ?_
     rintro e w' ⟨rfl, ⟨nd, rfl⟩⟩; refine ⟨_, rfl, ?_⟩
     refine hK.out _ _ ⟨vZ0 BK111, vZ1 BK111, vZ0 BK112, vZ1 BK112, vZ0 BK113, vZ1 BK113, vZ0 BK114, vZ1 BK114⟩ (fun hHeld => ?_)
     clear hK K
     refine nU ?_
     refine pU 10 41 (bA 27 2047) HT_ ?_; refine pU 11 42 (bA 27 4095) HT_ ?_; refine pU 12 43 (bA 27 8191) HT_ ?_
     refine tU 13 44 (bA 27 16383) HT_ HW_ hHeld ?_ (hy := Or.inl ⟨by rfl, by rintro w' ⟨s0, s1, s2, s3, s4, s5, s6, s7⟩; go_simp; with_reducible rfl⟩)
     refine tU 14 45 (bA 27 32767) HT_ HW_ hHeld ?_ (hy := Or.inl ⟨by rfl, by rintro w' ⟨s0, s1, s2, s3, s4, s5, s6, s7⟩; go_simp; with_reducible rfl⟩)
     refine tU 15 46 (bA 27 65535) HT_ HW_ hHeld ?_ (hy := Or.inl ⟨by rfl, by rintro w' ⟨s0, s1, s2, s3, s4, s5, s6, s7⟩; go_simp; with_reducible rfl⟩)
     refine tU 18 49 (bA 27 327679) HT_ HW_ hHeld ?_ (hy := Or.inl ⟨by rfl, by rintro w' ⟨s0, s1, s2, s3, s4, s5, s6, s7⟩; go_simp; with_reducible rfl⟩)
     refine tU 19 50 (bA 27 851967) HT_ HW_ hHeld ?_ (hy := Or.inl ⟨by rfl, by rintro w' ⟨s0, s1, s2, s3, s4, s5, s6, s7⟩; go_simp; with_reducible rfl⟩)
     refine tU 20 51 (bA 27 1900543) HT_ HW_ hHeld ?_ (hy := Or.inl ⟨by rfl, by rintro w' ⟨s0, s1, s2, s3, s4, s5, s6, s7⟩; go_simp; with_reducible rfl⟩)
     refine oU 16 47 (bA 27 1966079) HT_ (fun K hK => ?_)
     refine goes_ Try.func24 kR rfl #[.agg #[.int .i64 a2_0, .int .i64 a2_1], .agg #[.int .i64 a3_0, .int .i64 a3_1], .agg #[.int .i64 a0_0, .int .i64 a0_1]] (by rfl) rfl rfl sQ ?_
     with_reducible refine (spec_pgTurn.calls a2_0 a2_1 a3_0 a3_1 a0_0 a0_1 t123 _ A87.out).mono ?_
     rintro e w94 ⟨rfl, hb⟩; refine ⟨_, rfl, ?_⟩; replace BK111 := bB BK111 hb; replace BK112 := bB BK112 hb; replace BK113 := bB BK113 hb; replace BK114 := bB BK114 hb; replace HB := tB HB hb; (try clear hb); (try clear hb2); (try clear hk); (try clear hi)
     refine hK.out _ _ ⟨vZ0 BK111, vZ1 BK111, vZ0 BK112, vZ1 BK112, vZ0 BK113, vZ1 BK113, vZ0 BK114, vZ1 BK114⟩ (fun hHeld => ?_)
     clear hK K
     refine nU ?_
     refine oU 17 48 (bA 27 2097151) HT_ (fun K hK => ?_)
     refine goes_ Try.func41 kR rfl #[.int .i64 t123] (by rfl) rfl rfl sQ ?_
     with_reducible refine (spec_l1Sign.calls t123 t124 _ A88.out).mono ?_
     rintro e w' ⟨rfl, ⟨nd, rfl⟩⟩; refine ⟨_, rfl, ?_⟩
     refine hK.out _ _ ⟨vZ0 BK111, vZ1 BK111, vZ0 BK112, vZ1 BK112, vZ0 BK113, vZ1 BK113, vZ0 BK114, vZ1 BK114⟩ (fun hHeld => ?_)
     clear hK K
     refine nU ?_
     refine oU 21 52 (bA 27 4194303) HT_ (fun K hK => ?_)
     refine goes_ Try.func24 kR rfl #[.agg #[.int .i64 a2_0, .int .i64 a2_1], .agg #[.int .i64 a3_0, .int .i64 a3_1], .agg #[.int .i64 a1_0, .int .i64 a1_1]] (by rfl) rfl rfl sQ ?_
     with_reducible refine (spec_pgTurn.calls a2_0 a2_1 a3_0 a3_1 a1_0 a1_1 t125 _ A89.out).mono ?_
     rintro e w95 ⟨rfl, hb⟩; refine ⟨_, rfl, ?_⟩; replace BK111 := bB BK111 hb; replace BK112 := bB BK112 hb; replace BK113 := bB BK113 hb; replace BK114 := bB BK114 hb; replace HB := tB HB hb; (try clear hb); (try clear hb2); (try clear hk); (try clear hi)
     refine hK.out _ _ ⟨vZ0 BK111, vZ1 BK111, vZ0 BK112, vZ1 BK112, vZ0 BK113, vZ1 BK113, vZ0 BK114, vZ1 BK114⟩ (fun hHeld => ?_)
     clear hK K
     refine nU ?_
     refine oU 22 53 (bA 27 8388607) HT_ (fun K hK => ?_)
     refine goes_ Try.func41 kR rfl #[.int .i64 t125] (by rfl) rfl rfl sQ ?_
     with_reducible refine (spec_l1Sign.calls t125 t126 _ A90.out).mono ?_
     rintro e w' ⟨rfl, ⟨nd, rfl⟩⟩; refine ⟨_, rfl, ?_⟩
     refine hK.out _ _ ⟨vZ0 BK111, vZ1 BK111, vZ0 BK112, vZ1 BK112, vZ0 BK113, vZ1 BK113, vZ0 BK114, vZ1 BK114⟩ (fun hHeld => ?_)
     clear hK K
     refine nU ?_
     refine pU 23 54 (bA 27 16777215) HT_ ?_; refine pU 24 55 (bA 27 33554431) HT_ ?_; refine pU 25 56 (bA 27 67108863) HT_ ?_; refine pU 26 8 (bA 27 134217727) HT_ ?_
     refine done_ (done_of HT_.out kR) ?_
     try go_wp2
     go_ret
     exact ⟨wQ, bE⟩
    ·rw [if_neg c86] at H; have c86b0 := decide_eq_false c86; clear c86; obtain rfl := Option.some.inj H
     try go_wp2
     replace BK111 := aM (kD BK111.out); replace BK112 := aM (kD BK112.out); replace BK113 := aM (kD BK113.out); replace BK114 := aM (kD BK114.out); replace HB := aM (pD HB.out)
     refine start_ (n := 27) (S := fun w' => w'.cell? ⟨gb111, 0, none⟩ = some (.int .i64 a0_0) ∧ w'.cell? ⟨gb111, 1, none⟩ = some (.int .i64 a0_1) ∧ w'.cell? ⟨gb112, 0, none⟩ = some (.int .i64 a1_0) ∧ w'.cell? ⟨gb112, 1, none⟩ = some (.int .i64 a1_1) ∧ w'.cell? ⟨gb113, 0, none⟩ = some (.int .i64 a2_0) ∧ w'.cell? ⟨gb113, 1, none⟩ = some (.int .i64 a2_1) ∧ w'.cell? ⟨gb114, 0, none⟩ = some (.int .i64 a3_0) ∧ w'.cell? ⟨gb114, 1, none⟩ = some (.int .i64 a3_1)) (ds := []) (bA 27 0) kR rfl kR ⟨vZ0 BK111, vZ1 BK111, vZ0 BK112, vZ1 BK112, vZ0 BK113, vZ1 BK113, vZ0 BK114, vZ1 BK114⟩ (fun hHeld => ?_); refine with_tabW spec_pgMeet.tab3 spec_pgMeet.bits3 (fun HT_ HW_ => ?_)
     generalize wc.drew = w96 at BK111 BK112 BK113 BK114 HB hHeld ⊢
     refine tU 0 31 (bA 27 1) HT_ HW_ hHeld ?_ (hy := Or.inl ⟨by rfl, by rintro w' ⟨s0, s1, s2, s3, s4, s5, s6, s7⟩; go_simp; with_reducible rfl⟩)
     refine tU 1 32 (bA 27 3) HT_ HW_ hHeld ?_ (hy := Or.inl ⟨by rfl, by rintro w' ⟨s0, s1, s2, s3, s4, s5, s6, s7⟩; go_simp; with_reducible rfl⟩)
     refine tU 2 33 (bA 27 7) HT_ HW_ hHeld ?_ (hy := Or.inl ⟨by rfl, by rintro w' ⟨s0, s1, s2, s3, s4, s5, s6, s7⟩; go_simp; with_reducible rfl⟩)
     refine tU 5 36 (bA 27 39) HT_ HW_ hHeld ?_ (hy := Or.inl ⟨by rfl, by rintro w' ⟨s0, s1, s2, s3, s4, s5, s6, s7⟩; go_simp; with_reducible rfl⟩)
     refine tU 6 37 (bA 27 103) HT_ HW_ hHeld ?_ (hy := Or.inl ⟨by rfl, by rintro w' ⟨s0, s1, s2, s3, s4, s5, s6, s7⟩; go_simp; with_reducible rfl⟩)
     refine tU 7 38 (bA 27 231) HT_ HW_ hHeld ?_ (hy := Or.inl ⟨by rfl, by rintro w' ⟨s0, s1, s2, s3, s4, s5, s6, s7⟩; go_simp; with_reducible rfl⟩)
     refine oU 3 34 (bA 27 239) HT_ (fun K hK => ?_)
     refine goes_ Try.func24 kR rfl #[.agg #[.int .i64 a0_0, .int .i64 a0_1], .agg #[.int .i64 a1_0, .int .i64 a1_1], .agg #[.int .i64 a2_0, .int .i64 a2_1]] (by rfl) rfl rfl sQ ?_
     with_reducible refine (spec_pgTurn.calls a0_0 a0_1 a1_0 a1_1 a2_0 a2_1 t119 _ A82.out).mono ?_
     rintro e w97 ⟨rfl, hb⟩; refine ⟨_, rfl, ?_⟩; replace BK111 := bB BK111 hb; replace BK112 := bB BK112 hb; replace BK113 := bB BK113 hb; replace BK114 := bB BK114 hb; replace HB := tB HB hb; (try clear hb); (try clear hb2); (try clear hk); (try clear hi)
     refine hK.out _ _ ⟨vZ0 BK111, vZ1 BK111, vZ0 BK112, vZ1 BK112, vZ0 BK113, vZ1 BK113, vZ0 BK114, vZ1 BK114⟩ (fun hHeld => ?_)
     clear hK K
     refine nU ?_
     refine oU 4 35 (bA 27 255) HT_ (fun K hK => ?_)
     refine goes_ Try.func41 kR rfl #[.int .i64 t119] (by rfl) rfl rfl sQ ?_
     with_reducible refine (spec_l1Sign.calls t119 t120 _ A83.out).mono ?_
     rintro e w' ⟨rfl, ⟨nd, rfl⟩⟩; refine ⟨_, rfl, ?_⟩
     refine hK.out _ _ ⟨vZ0 BK111, vZ1 BK111, vZ0 BK112, vZ1 BK112, vZ0 BK113, vZ1 BK113, vZ0 BK114, vZ1 BK114⟩ (fun hHeld => ?_)
     clear hK K
     refine nU ?_
     refine oU 8 39 (bA 27 511) HT_ (fun K hK => ?_)
     refine goes_ Try.func24 kR rfl #[.agg #[.int .i64 a0_0, .int .i64 a0_1], .agg #[.int .i64 a1_0, .int .i64 a1_1], .agg #[.int .i64 a3_0, .int .i64 a3_1]] (by rfl) rfl rfl sQ ?_
     with_reducible refine (spec_pgTurn.calls a0_0 a0_1 a1_0 a1_1 a3_0 a3_1 t121 _ A84.out).mono ?_
     rintro e w98 ⟨rfl, hb⟩; refine ⟨_, rfl, ?_⟩; replace BK111 := bB BK111 hb; replace BK112 := bB BK112 hb; replace BK113 := bB BK113 hb; replace BK114 := bB BK114 hb; replace HB := tB HB hb; (try clear hb); (try clear hb2); (try clear hk); (try clear hi)
     refine hK.out _ _ ⟨vZ0 BK111, vZ1 BK111, vZ0 BK112, vZ1 BK112, vZ0 BK113, vZ1 BK113, vZ0 BK114, vZ1 BK114⟩ (fun hHeld => ?_)
     clear hK K
     refine nU ?_
     refine oU 9 40 (bA 27 1023) HT_ (fun K hK => ?_)
     refine goes_ Try.func41 kR rfl #[.int .i64 t121] (by rfl) rfl rfl sQ ?_
     with_reducible refine (spec_l1Sign.calls t121 t122 _ A85.out).mono ?_
     rintro e w' ⟨rfl, ⟨nd, rfl⟩⟩; refine ⟨_, rfl, ?_⟩
     refine hK.out _ _ ⟨vZ0 BK111, vZ1 BK111, vZ0 BK112, vZ1 BK112, vZ0 BK113, vZ1 BK113, vZ0 BK114, vZ1 BK114⟩ (fun hHeld => ?_)
     clear hK K
     refine nU ?_
     refine pU 10 41 (bA 27 2047) HT_ ?_; refine pU 11 42 (bA 27 4095) HT_ ?_; refine pU 12 43 (bA 27 8191) HT_ ?_; refine pU 13 44 (bA 27 16383) HT_ ?_ (hy := Or.inr ⟨by rfl, rfl⟩)
     refine pU 14 45 (bA 27 32767) HT_ ?_ (hy := Or.inr ⟨by rfl, rfl⟩)
     refine pU 15 46 (bA 27 65535) HT_ ?_ (hy := Or.inr ⟨by rfl, rfl⟩)
     refine pU 16 47 (bA 27 131071) HT_ ?_ (hy := Or.inr ⟨by rfl, rfl⟩)
     refine pU 17 48 (bA 27 262143) HT_ ?_ (hy := Or.inr ⟨by rfl, rfl⟩)
     refine pU 18 49 (bA 27 524287) HT_ ?_ (hy := Or.inr ⟨by rfl, rfl⟩)
     refine pU 19 50 (bA 27 1048575) HT_ ?_ (hy := Or.inr ⟨by rfl, rfl⟩)
     refine pU 20 51 (bA 27 2097151) HT_ ?_ (hy := Or.inr ⟨by rfl, rfl⟩)
     refine pU 21 52 (bA 27 4194303) HT_ ?_ (hy := Or.inr ⟨by rfl, rfl⟩)
     refine pU 22 53 (bA 27 8388607) HT_ ?_ (hy := Or.inr ⟨by rfl, rfl⟩)
     refine pU 23 54 (bA 27 16777215) HT_ ?_ (hy := Or.inr ⟨by rfl, rfl⟩)
     refine pU 24 55 (bA 27 33554431) HT_ ?_ (hy := Or.inr ⟨by rfl, rfl⟩)
     refine pU 25 56 (bA 27 67108863) HT_ ?_; refine pU 26 8 (bA 27 134217727) HT_ ?_
     refine done_ (done_of HT_.out kR) ?_
     try go_wp2
     go_ret
     exact ⟨wQ, bE⟩

end Go.Proofs.Ytphkphjddkjabaa.X
