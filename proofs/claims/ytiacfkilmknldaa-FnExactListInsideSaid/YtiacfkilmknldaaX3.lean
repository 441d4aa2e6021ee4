-- thin
-- short
import Derived.Test.YtiacfkilmknldaaXA
import Derived.Test.YtiacfkilmknldaaX0
import Derived.Test.YtiacfkilmknldaaX2
namespace Go.Proofs.Ytiacfkilmknldaa.X
open Go.RowKit Go.Proofs.Ytiacfkilmknldaa.XW Go.Proofs.YtiacfkilmknldaaW.PrintWords Go.Proofs.YtiacfkilmknldaaW.PrintLast Go.Proofs.YtiacfkilmknldaaW.PrintMore
attribute [local go_sem] max2_int min2_int max_two min_two max_three min_three max_four min_four   -- for this text's walks alone
set_option linter.unusedVariables false
set_option linter.unusedSimpArgs false

def spec_pgMeet.j0 : Nat → Bool → Int → Int → Int → Int → Int → Int → Int → Int → Option (Bool)
 | 0, _, _, _, _, _, _, _, _, _ => none
 | k + 1, x30, x112000, x112001, x113000, x113001, x114000, x114001, x115000, x115001 => if x30 = true then (some true) else ((spec_pgTurn.f x112000 x112001 x113000 x113001 x114000 x114001).bind fun t119 => ((spec_l1Sign.f t119).bind fun t120 => ((spec_pgTurn.f x112000 x112001 x113000 x113001 x115000 x115001).bind fun t121 => ((spec_l1Sign.f t121).bind fun t122 => (if (wrap64 (t120 * t122)) < 0 then ((spec_pgTurn.f x114000 x114001 x115000 x115001 x112000 x112001).bind fun t123 => ((spec_l1Sign.f t123).bind fun t124 => ((spec_pgTurn.f x114000 x114001 x115000 x115001 x113000 x113001).bind fun t125 => ((spec_l1Sign.f t125).bind fun t126 => (some (decide ((wrap64 (t124 * t126)) < 0))))))) else (some false))))))
def spec_pgMeet.f (k : Nat) (a0_0 : Int) (a0_1 : Int) (a1_0 : Int) (a1_1 : Int) (a2_0 : Int) (a2_1 : Int) (a3_0 : Int) (a3_1 : Int) : Option (Bool) := (spec_pgOn.f a0_0 a0_1 a1_0 a1_1 a2_0 a2_1).bind fun t115 => (if t115 = true then (spec_pgMeet.j0 k true a0_0 a0_1 a1_0 a1_1 a2_0 a2_1 a3_0 a3_1) else ((spec_pgOn.f a0_0 a0_1 a1_0 a1_1 a3_0 a3_1).bind fun t116 => (if t116 = true then (spec_pgMeet.j0 k true a0_0 a0_1 a1_0 a1_1 a2_0 a2_1 a3_0 a3_1) else ((spec_pgOn.f a2_0 a2_1 a3_0 a3_1 a0_0 a0_1).bind fun t117 => (if t117 = true then (spec_pgMeet.j0 k true a0_0 a0_1 a1_0 a1_1 a2_0 a2_1 a3_0 a3_1) else ((spec_pgOn.f a2_0 a2_1 a3_0 a3_1 a1_0 a1_1).bind fun t118 => (spec_pgMeet.j0 k t118 a0_0 a0_1 a1_0 a1_1 a2_0 a2_1 a3_0 a3_1)))))))
theorem spec_pgMeet.mono_l : ∀ k, (∀ y0 y1 y2 y3 y4 y5 y6 y7 y8, LeO (spec_pgMeet.j0 k y0 y1 y2 y3 y4 y5 y6 y7 y8) (spec_pgMeet.j0 (k + 1) y0 y1 y2 y3 y4 y5 y6 y7 y8))
 | 0 => fun _ _ _ _ _ _ _ _ _ r h => by simp [spec_pgMeet.j0] at h
 | k + 1 => by
  have ih0 := spec_pgMeet.mono_l k
  ·intro y0 y1 y2 y3 y4 y5 y6 y7 y8
   unfold spec_pgMeet.j0
   repeat' first
   | (with_reducible exact ih0 _ _ _ _ _ _ _ _ _)
   | (with_reducible exact LeO.refl _)
   | (with_reducible exact LeO.none _)
   | (with_reducible refine LeO.ite ?_ ?_)
   | (with_reducible refine LeO.bind ?_ (fun _ => ?_))
   | exact ih0 _ _ _ _ _ _ _ _ _
   | exact LeO.none _
   | refine LeO.ite ?_ ?_
   | refine LeO.bind ?_ (fun _ => ?_)
theorem spec_pgMeet.mono : ∀ a0 a1 a2 a3 a4 a5 a6 a7 k, LeO (spec_pgMeet.f k a0 a1 a2 a3 a4 a5 a6 a7) (spec_pgMeet.f (k + 1) a0 a1 a2 a3 a4 a5 a6 a7) := by
 intro a0 a1 a2 a3 a4 a5 a6 a7 k
 have ih0 := spec_pgMeet.mono_l k
 unfold spec_pgMeet.f
 repeat' first
   | (with_reducible exact ih0 _ _ _ _ _ _ _ _ _)
   | (with_reducible exact LeO.refl _)
   | (with_reducible exact LeO.none _)
   | (with_reducible refine LeO.ite ?_ ?_)
   | (with_reducible refine LeO.bind ?_ (fun _ => ?_))
   | exact ih0 _ _ _ _ _ _ _ _ _
   | exact LeO.none _
   | refine LeO.ite ?_ ?_
   | refine LeO.bind ?_ (fun _ => ?_)
def spec_pgMeet.T3 : Bool × List (List Nat × List Nat) := (true, [([], []), ([], []), ([], []), ([0, 1, 2], [0, 1, 2]), ([3, 3], [3]), ([], []), ([], []), ([], []), ([5, 6, 7, 4], [5, 6, 7]), ([8, 8], [8]), ([4, 9], [4, 9]), ([10], [10]), ([11, 9], [11]), ([12], [12]), ([12], [12]), ([12], [12]), ([13, 14, 15, 12, 12], [12, 13, 14, 15]), ([16, 16, 12], [12, 16]), ([12], [12]), ([12], [12]), ([12], [12]), ([18, 19, 20, 17, 12], [12, 18, 19, 20]), ([21, 21, 12], [12, 21]), ([17, 22, 12], [12, 17, 22]), ([23, 12], [12, 23]), ([12, 24], [12, 24]), ([25, 22, 0, 1, 2, 3, 4, 5, 6, 7, 8, 9, 10, 11, 12, 13, 14, 15, 16, 17, 18, 19, 20, 21, 22, 23, 24, 25], [25])])
def spec_pgMeet.B3 : List Nat := [0, 0, 0, 7, 15, 0, 0, 0, 255, 511, 1023, 2047, 4095, 8191, 8191, 8191, 65535, 131071, 8191, 8191, 8191, 2097151, 4194303, 8388607, 16777215, 33554431, 67108863]
theorem spec_pgMeet.tab3 : rtab .any (opsOf Try.f135 3) = spec_pgMeet.T3 := by kernel_rfl
theorem spec_pgMeet.bits3 : waitsOk spec_pgMeet.T3.2 spec_pgMeet.B3 = true := by kernel_rfl
set_option maxHeartbeats 8000000 in
set_option maxRecDepth 100000 in
theorem spec_pgMeet.calls (k : Nat) (a0_0 : Int) (a0_1 : Int) (a1_0 : Int) (a1_1 : Int) (a2_0 : Int) (a2_1 : Int) (a3_0 : Int) (a3_1 : Int) (r : Bool) (w : World) (h : spec_pgMeet.f k a0_0 a0_1 a1_0 a1_1 a2_0 a2_1 a3_0 a3_1 = some r) :
  Calls Try.prog 135 #[.agg #[.int .i64 a0_0, .int .i64 a0_1], .agg #[.int .i64 a1_0, .int .i64 a1_1], .agg #[.int .i64 a2_0, .int .i64 a2_1], .agg #[.int .i64 a3_0, .int .i64 a3_1]] w fun e w' => e = .returned (.bool r) ∧ Below w.heap.size w w' := by
 have hu34 := Try.underlying34
 have HB := aM (Below.refl w.heap.size w)
 have H : ((spec_pgOn.f a0_0 a0_1 a1_0 a1_1 a2_0 a2_1).bind fun t115 => (if t115 = true then (spec_pgMeet.j0 k true a0_0 a0_1 a1_0 a1_1 a2_0 a2_1 a3_0 a3_1) else ((spec_pgOn.f a0_0 a0_1 a1_0 a1_1 a3_0 a3_1).bind fun t116 => (if t116 = true then (spec_pgMeet.j0 k true a0_0 a0_1 a1_0 a1_1 a2_0 a2_1 a3_0 a3_1) else ((spec_pgOn.f a2_0 a2_1 a3_0 a3_1 a0_0 a0_1).bind fun t117 => (if t117 = true then (spec_pgMeet.j0 k true a0_0 a0_1 a1_0 a1_1 a2_0 a2_1 a3_0 a3_1) else ((spec_pgOn.f a2_0 a2_1 a3_0 a3_1 a1_0 a1_1).bind fun t118 => (spec_pgMeet.j0 k t118 a0_0 a0_1 a1_0 a1_1 a2_0 a2_1 a3_0 a3_1)))))))) = some r := h
 clear h
 have HC5 := aM H
 clear H
 go_enter Try.func135, Try.ntmps135
 go_upto_region 1 with (first | ((with_reducible refine gate_dst (N := 4) rfl ?_); refine box_event ?hg (N := 4) ?hd (cs := #[.int .i64 a0_0, .int .i64 a0_1]) (t := 34) ?hr ?_; (case hd => rfl); (case hg => rfl); (case hr => first | (go_simp; done) | (go_simp; rfl)); intro gb111 hg w6 hbox hb; have n0_ := aM (pT bQ hb); have n1_ := aM (hbox); have n2_ := aM ((by rw [hg]; exact (pZ bQ) : w.heap.size ≤ gb111)); have n3_ := aM ((by rw [hg]; exact (pZ bQ) : w.heap.size ≤ gb111)); clear HB; have HB := n0_; have BK111 := n1_; have GW111 := n2_; have GE111 := n3_; clear n0_ n1_ n2_ n3_; clear hb hbox hg) | ((with_reducible refine gate_dst (N := 5) rfl ?_); refine box_event ?hg (N := 5) ?hd (cs := #[.int .i64 a1_0, .int .i64 a1_1]) (t := 34) ?hr ?_; (case hd => rfl); (case hg => rfl); (case hr => first | (go_simp; done) | (go_simp; rfl)); intro gb112 hg w7 hbox hb; have n0_ := aM (blk_below (g := gb111) (o := .cells #[.int .i64 a0_0, .int .i64 a0_1] 34 (0, 0)) (gQ BK111) hb); have n1_ := aM (pT (by repeat (first | (with_reducible first | exact HB.out | apply pA | apply pN | apply pD | refine pS ?_ GE111.out) | exact HB.out)) hb); have n2_ := aM (hbox); have n3_ := aM ((by rw [hg]; exact (pZ (by repeat (first | (with_reducible first | exact HB.out | apply pA | apply pN | apply pD | refine pS ?_ GE111.out) | exact HB.out))) : w.heap.size ≤ gb112)); have n4_ := aM ((by rw [hg]; exact (pZ (by repeat (first | (with_reducible first | exact HB.out | apply pA | apply pN | apply pD | refine pS ?_ GE111.out) | exact HB.out))) : w.heap.size ≤ gb112)); have n5_ := aM ((by rw [hg]; exact nN (blk_lt (g := gb111) (o := .cells #[.int .i64 a0_0, .int .i64 a0_1] 34 (0, 0)) (gQ BK111)) : gb111 ≠ gb112)); have n6_ := aM ((by rw [hg]; exact Nat.ne_of_gt (blk_lt (g := gb111) (o := .cells #[.int .i64 a0_0, .int .i64 a0_1] 34 (0, 0)) (gQ BK111)) : gb112 ≠ gb111)); clear BK111; clear HB; have BK111 := n0_; have HB := n1_; have BK112 := n2_; have GW112 := n3_; have GE112 := n4_; have NB111_112 := n5_; have NB112_111 := n6_; clear n0_ n1_ n2_ n3_ n4_ n5_ n6_; clear hb hbox hg) | ((with_reducible refine gate_dst (N := 6) rfl ?_); refine box_event ?hg (N := 6) ?hd (cs := #[.int .i64 a2_0, .int .i64 a2_1]) (t := 34) ?hr ?_; (case hd => rfl); (case hg => rfl); (case hr => first | (go_simp; done) | (go_simp; rfl)); intro gb113 hg w8 hbox hb; have n0_ := aM (blk_below (g := gb111) (o := .cells #[.int .i64 a0_0, .int .i64 a0_1] 34 (0, 0)) (gQ BK111) hb); have n1_ := aM (blk_below (g := gb112) (o := .cells #[.int .i64 a1_0, .int .i64 a1_1] 34 (0, 0)) (gQ BK112) hb); have n2_ := aM (pT (by repeat (first | (with_reducible first | exact HB.out | apply pA | apply pN | apply pD | refine pS ?_ GE111.out | refine pS ?_ GE112.out) | exact HB.out)) hb); have n3_ := aM (hbox); have n4_ := aM ((by rw [hg]; exact (pZ (by repeat (first | (with_reducible first | exact HB.out | apply pA | apply pN | apply pD | refine pS ?_ GE111.out | refine pS ?_ GE112.out) | exact HB.out))) : w.heap.size ≤ gb113)); have n5_ := aM ((by rw [hg]; exact (pZ (by repeat (first | (with_reducible first | exact HB.out | apply pA | apply pN | apply pD | refine pS ?_ GE111.out | refine pS ?_ GE112.out) | exact HB.out))) : w.heap.size ≤ gb113)); have n6_ := aM ((by rw [hg]; exact nN (blk_lt (g := gb111) (o := .cells #[.int .i64 a0_0, .int .i64 a0_1] 34 (0, 0)) (gQ BK111)) : gb111 ≠ gb113)); have n7_ := aM ((by rw [hg]; exact Nat.ne_of_gt (blk_lt (g := gb111) (o := .cells #[.int .i64 a0_0, .int .i64 a0_1] 34 (0, 0)) (gQ BK111)) : gb113 ≠ gb111)); have n8_ := aM ((by rw [hg]; exact nN (blk_lt (g := gb112) (o := .cells #[.int .i64 a1_0, .int .i64 a1_1] 34 (0, 0)) (gQ BK112)) : gb112 ≠ gb113)); have n9_ := aM ((by rw [hg]; exact Nat.ne_of_gt (blk_lt (g := gb112) (o := .cells #[.int .i64 a1_0, .int .i64 a1_1] 34 (0, 0)) (gQ BK112)) : gb113 ≠ gb112)); clear BK111; clear BK112; clear HB; have BK111 := n0_; have BK112 := n1_; have HB := n2_; have BK113 := n3_; have GW113 := n4_; have GE113 := n5_; have NB111_113 := n6_; have NB113_111 := n7_; have NB112_113 := n8_; have NB113_112 := n9_; clear n0_ n1_ n2_ n3_ n4_ n5_ n6_ n7_ n8_ n9_; clear hb hbox hg) | ((with_reducible refine gate_dst (N := 7) rfl ?_); refine box_event ?hg (N := 7) ?hd (cs := #[.int .i64 a3_0, .int .i64 a3_1]) (t := 34) ?hr ?_; (case hd => rfl); (case hg => rfl); (case hr => first | (go_simp; done) | (go_simp; rfl)); intro gb114 hg w9 hbox hb; have n0_ := aM (blk_below (g := gb111) (o := .cells #[.int .i64 a0_0, .int .i64 a0_1] 34 (0, 0)) (gQ BK111) hb); have n1_ := aM (blk_below (g := gb112) (o := .cells #[.int .i64 a1_0, .int .i64 a1_1] 34 (0, 0)) (gQ BK112) hb); have n2_ := aM (blk_below (g := gb113) (o := .cells #[.int .i64 a2_0, .int .i64 a2_1] 34 (0, 0)) (gQ BK113) hb); have n3_ := aM (pT (by repeat (first | (with_reducible first | exact HB.out | apply pA | apply pN | apply pD | refine pS ?_ GE111.out | refine pS ?_ GE112.out | refine pS ?_ GE113.out) | exact HB.out)) hb); have n4_ := aM (hbox); have n5_ := aM ((by rw [hg]; exact (pZ (by repeat (first | (with_reducible first | exact HB.out | apply pA | apply pN | apply pD | refine pS ?_ GE111.out | refine pS ?_ GE112.out | refine pS ?_ GE113.out) | exact HB.out))) : w.heap.size ≤ gb114)); have n6_ := aM ((by rw [hg]; exact (pZ (by repeat (first | (with_reducible first | exact HB.out | apply pA | apply pN | apply pD | refine pS ?_ GE111.out | refine pS ?_ GE112.out | refine pS ?_ GE113.out) | exact HB.out))) : w.heap.size ≤ gb114)); have n7_ := aM ((by rw [hg]; exact nN (blk_lt (g := gb111) (o := .cells #[.int .i64 a0_0, .int .i64 a0_1] 34 (0, 0)) (gQ BK111)) : gb111 ≠ gb114)); have n8_ := aM ((by rw [hg]; exact Nat.ne_of_gt (blk_lt (g := gb111) (o := .cells #[.int .i64 a0_0, .int .i64 a0_1] 34 (0, 0)) (gQ BK111)) : gb114 ≠ gb111)); have n9_ := aM ((by rw [hg]; exact nN (blk_lt (g := gb112) (o := .cells #[.int .i64 a1_0, .int .i64 a1_1] 34 (0, 0)) (gQ BK112)) : gb112 ≠ gb114)); have n10_ := aM ((by rw [hg]; exact Nat.ne_of_gt (blk_lt (g := gb112) (o := .cells #[.int .i64 a1_0, .int .i64 a1_1] 34 (0, 0)) (gQ BK112)) : gb114 ≠ gb112)); have n11_ := aM ((by rw [hg]; exact nN (blk_lt (g := gb113) (o := .cells #[.int .i64 a2_0, .int .i64 a2_1] 34 (0, 0)) (gQ BK113)) : gb113 ≠ gb114)); have n12_ := aM ((by rw [hg]; exact Nat.ne_of_gt (blk_lt (g := gb113) (o := .cells #[.int .i64 a2_0, .int .i64 a2_1] 34 (0, 0)) (gQ BK113)) : gb114 ≠ gb113)); clear BK111; clear BK112; clear BK113; clear HB; have BK111 := n0_; have BK112 := n1_; have BK113 := n2_; have HB := n3_; have BK114 := n4_; have GW114 := n5_; have GE114 := n6_; have NB111_114 := n7_; have NB114_111 := n8_; have NB112_114 := n9_; have NB114_112 := n10_; have NB113_114 := n11_; have NB114_113 := n12_; clear n0_ n1_ n2_ n3_ n4_ n5_ n6_ n7_ n8_ n9_ n10_ n11_ n12_; clear hb hbox hg))
 (try simp only [Act.put, sI, sZ, sS])
 go_cut [30] (fun v30 wc => ∃ (kq : Nat) (x30_4 : Bool), v30 = .bool x30_4 ∧ Aside0 (spec_pgMeet.j0 kq x30_4 a0_0 a0_1 a1_0 a1_1 a2_0 a2_1 a3_0 a3_1 = some r) ∧ Aside0 (kq ≤ k) ∧ Aside0 (wc.heap[gb111]? = some (.cells #[.int .i64 a0_0, .int .i64 a0_1] 34 (0, 0))) ∧ Aside0 (wc.heap[gb112]? = some (.cells #[.int .i64 a1_0, .int .i64 a1_1] 34 (0, 0))) ∧ Aside0 (wc.heap[gb113]? = some (.cells #[.int .i64 a2_0, .int .i64 a2_1] 34 (0, 0))) ∧ Aside0 (wc.heap[gb114]? = some (.cells #[.int .i64 a3_0, .int .i64 a3_1] 34 (0, 0))) ∧ Aside0 (Below w.heap.size w wc))
 case first =>
  have H := HC5.out
  clear HC5
  replace H := oB.mp H
  obtain ⟨t115, A100, H⟩ := H
  replace H : (if t115 = true then (spec_pgMeet.j0 k true a0_0 a0_1 a1_0 a1_1 a2_0 a2_1 a3_0 a3_1) else ((spec_pgOn.f a0_0 a0_1 a1_0 a1_1 a3_0 a3_1).bind fun t116 => (if t116 = true then (spec_pgMeet.j0 k true a0_0 a0_1 a1_0 a1_1 a2_0 a2_1 a3_0 a3_1) else ((spec_pgOn.f a2_0 a2_1 a3_0 a3_1 a0_0 a0_1).bind fun t117 => (if t117 = true then (spec_pgMeet.j0 k true a0_0 a0_1 a1_0 a1_1 a2_0 a2_1 a3_0 a3_1) else ((spec_pgOn.f a2_0 a2_1 a3_0 a3_1 a1_0 a1_1).bind fun t118 => (spec_pgMeet.j0 k t118 a0_0 a0_1 a1_0 a1_1 a2_0 a2_1 a3_0 a3_1))))))) = some r := H
  have A10 := aM A100
  clear A100
  by_cases c11 : t115 = true
  ·subst c11
   have H1 : (spec_pgMeet.j0 k true a0_0 a0_1 a1_0 a1_1 a2_0 a2_1 a3_0 a3_1) = some r := by rw [if_pos rfl] at H; exact H
   clear H
   have H := H1
   clear H1
   have H' := aM H
   clear H
   have hnb12 := NB111_112.out
   have hnc12 := NB112_111.out
   have hnb13 := NB111_113.out
   have hnc13 := NB113_111.out
   have hnb14 := NB111_114.out
   have hnc14 := NB114_111.out
   have hcz15_0 : w9.cell? ⟨gb111, 0, none⟩ = some (.int .i64 a0_0) := (kC BK111.out 0).trans rfl
   have hcz15_1 : w9.cell? ⟨gb111, 1, none⟩ = some (.int .i64 a0_1) := (kC BK111.out 1).trans rfl
   have hfz15_0 := kF BK111.out 0
   have hfz15_1 := kF BK111.out 1
   have hnb16 := NB112_113.out
   have hnc16 := NB113_112.out
   have hnb17 := NB112_114.out
   have hnc17 := NB114_112.out
   have hcz18_0 : w9.cell? ⟨gb112, 0, none⟩ = some (.int .i64 a1_0) := (kC BK112.out 0).trans rfl
   have hcz18_1 : w9.cell? ⟨gb112, 1, none⟩ = some (.int .i64 a1_1) := (kC BK112.out 1).trans rfl
   have hfz18_0 := kF BK112.out 0
   have hfz18_1 := kF BK112.out 1
   have hnb19 := NB113_114.out
   have hnc19 := NB114_113.out
   have hcz20_0 : w9.cell? ⟨gb113, 0, none⟩ = some (.int .i64 a2_0) := (kC BK113.out 0).trans rfl
   have hcz20_1 : w9.cell? ⟨gb113, 1, none⟩ = some (.int .i64 a2_1) := (kC BK113.out 1).trans rfl
   have hfz20_0 := kF BK113.out 0
   have hfz20_1 := kF BK113.out 1
   go_wp2_with (first | ((with_reducible refine gC (f := 140) rfl ?_); refine goesL_ (some 12) rfl rfl Try.func140 kR rfl #[.agg #[.int .i64 a0_0, .int .i64 a0_1], .agg #[.int .i64 a1_0, .int .i64 a1_1], .agg #[.int .i64 a2_0, .int .i64 a2_1]] rfl sQ ?_; (with_reducible refine (spec_pgOn.calls a0_0 a0_1 a1_0 a1_1 a2_0 a2_1 true _ A10.out).mono ?_); rintro e w21 ⟨rfl, hb⟩; refine ⟨_, rfl, ?_⟩; have n0_ := aM (blk_below (g := gb111) (o := .cells #[.int .i64 a0_0, .int .i64 a0_1] 34 (0, 0)) (gQ BK111) hb); have n1_ := aM (blk_below (g := gb112) (o := .cells #[.int .i64 a1_0, .int .i64 a1_1] 34 (0, 0)) (gQ BK112) hb); have n2_ := aM (blk_below (g := gb113) (o := .cells #[.int .i64 a2_0, .int .i64 a2_1] 34 (0, 0)) (gQ BK113) hb); have n3_ := aM (blk_below (g := gb114) (o := .cells #[.int .i64 a3_0, .int .i64 a3_1] 34 (0, 0)) (gQ BK114) hb); have n4_ := aM (pT (by repeat (first | (with_reducible first | exact HB.out | apply pA | apply pN | apply pD | refine pS ?_ GE111.out | refine pS ?_ GE112.out | refine pS ?_ GE113.out | refine pS ?_ GE114.out) | exact HB.out)) hb); clear BK111; clear BK112; clear BK113; clear BK114; clear HB; have BK111 := n0_; have BK112 := n1_; have BK113 := n2_; have BK114 := n3_; have HB := n4_; clear n0_ n1_ n2_ n3_ n4_; (try clear hb); (try clear hb2); (try clear hk); (try clear hi)))
   go_meet
   case rel => exact ⟨_, (true), eQ, H', ⟨by first | omega | exact Nat.le_refl _⟩, ⟨by (with_reducible repeat (first | refine kN ?_ _ | refine kD ?_ | refine kA ?_ _)); exact BK111.out⟩, ⟨by (with_reducible repeat (first | refine kN ?_ _ | refine kD ?_ | refine kA ?_ _)); exact BK112.out⟩, ⟨by (with_reducible repeat (first | refine kN ?_ _ | refine kD ?_ | refine kA ?_ _)); exact BK113.out⟩, ⟨by (with_reducible repeat (first | refine kN ?_ _ | refine kD ?_ | refine kA ?_ _)); exact BK114.out⟩, ⟨by repeat (first | (with_reducible first | exact HB.out | apply pA | apply pN | apply pD | refine pS ?_ GE111.out | refine pS ?_ GE112.out | refine pS ?_ GE113.out | refine pS ?_ GE114.out) | exact HB.out)⟩⟩
  ·replace c11 := Bool.eq_false_iff.mpr c11
   subst c11
   have H1 : ((spec_pgOn.f a0_0 a0_1 a1_0 a1_1 a3_0 a3_1).bind fun t116 => (if t116 = true then (spec_pgMeet.j0 k true a0_0 a0_1 a1_0 a1_1 a2_0 a2_1 a3_0 a3_1) else ((spec_pgOn.f a2_0 a2_1 a3_0 a3_1 a0_0 a0_1).bind fun t117 => (if t117 = true then (spec_pgMeet.j0 k true a0_0 a0_1 a1_0 a1_1 a2_0 a2_1 a3_0 a3_1) else ((spec_pgOn.f a2_0 a2_1 a3_0 a3_1 a1_0 a1_1).bind fun t118 => (spec_pgMeet.j0 k t118 a0_0 a0_1 a1_0 a1_1 a2_0 a2_1 a3_0 a3_1)))))) = some r := by rw [if_neg (show ¬ (false = true) by decide)] at H; exact H
   clear H
   have H := H1
   clear H1
   replace H := oB.mp H
   obtain ⟨t116, A220, H⟩ := H
   replace H : (if t116 = true then (spec_pgMeet.j0 k true a0_0 a0_1 a1_0 a1_1 a2_0 a2_1 a3_0 a3_1) else ((spec_pgOn.f a2_0 a2_1 a3_0 a3_1 a0_0 a0_1).bind fun t117 => (if t117 = true then (spec_pgMeet.j0 k true a0_0 a0_1 a1_0 a1_1 a2_0 a2_1 a3_0 a3_1) else ((spec_pgOn.f a2_0 a2_1 a3_0 a3_1 a1_0 a1_1).bind fun t118 => (spec_pgMeet.j0 k t118 a0_0 a0_1 a1_0 a1_1 a2_0 a2_1 a3_0 a3_1))))) = some r := H
   have A22 := aM A220
   clear A220
   by_cases c23 : t116 = true
   ·subst c23
    have H1 : (spec_pgMeet.j0 k true a0_0 a0_1 a1_0 a1_1 a2_0 a2_1 a3_0 a3_1) = some r := by rw [if_pos rfl] at H; exact H
    clear H
    have H := H1
    clear H1
    have H' := aM H
    clear H
    have hnb24 := NB111_112.out
    have hnc24 := NB112_111.out
    have hnb25 := NB111_113.out
    have hnc25 := NB113_111.out
    have hnb26 := NB111_114.out
    have hnc26 := NB114_111.out
    have hcz27_0 : w9.cell? ⟨gb111, 0, none⟩ = some (.int .i64 a0_0) := (kC BK111.out 0).trans rfl
    have hcz27_1 : w9.cell? ⟨gb111, 1, none⟩ = some (.int .i64 a0_1) := (kC BK111.out 1).trans rfl
    have hfz27_0 := kF BK111.out 0
    have hfz27_1 := kF BK111.out 1
    have hnb28 := NB112_113.out
    have hnc28 := NB113_112.out
    have hnb29 := NB112_114.out
    have hnc29 := NB114_112.out
    have hcz30_0 : w9.cell? ⟨gb112, 0, none⟩ = some (.int .i64 a1_0) := (kC BK112.out 0).trans rfl
    have hcz30_1 : w9.cell? ⟨gb112, 1, none⟩ = some (.int .i64 a1_1) := (kC BK112.out 1).trans rfl
    have hfz30_0 := kF BK112.out 0
    have hfz30_1 := kF BK112.out 1
    have hnb31 := NB113_114.out
    have hnc31 := NB114_113.out
    have hcz32_0 : w9.cell? ⟨gb113, 0, none⟩ = some (.int .i64 a2_0) := (kC BK113.out 0).trans rfl
    have hcz32_1 : w9.cell? ⟨gb113, 1, none⟩ = some (.int .i64 a2_1) := (kC BK113.out 1).trans rfl
    have hfz32_0 := kF BK113.out 0
    have hfz32_1 := kF BK113.out 1
    go_wp2_with (first | ((with_reducible refine gC (f := 140) rfl ?_); refine goesL_ (some 12) rfl rfl Try.func140 kR rfl #[.agg #[.int .i64 a0_0, .int .i64 a0_1], .agg #[.int .i64 a1_0, .int .i64 a1_1], .agg #[.int .i64 a2_0, .int .i64 a2_1]] rfl sQ ?_; (with_reducible refine (spec_pgOn.calls a0_0 a0_1 a1_0 a1_1 a2_0 a2_1 false _ A10.out).mono ?_); rintro e w33 ⟨rfl, hb⟩; refine ⟨_, rfl, ?_⟩; have n0_ := aM (blk_below (g := gb111) (o := .cells #[.int .i64 a0_0, .int .i64 a0_1] 34 (0, 0)) (gQ BK111) hb); have n1_ := aM (blk_below (g := gb112) (o := .cells #[.int .i64 a1_0, .int .i64 a1_1] 34 (0, 0)) (gQ BK112) hb); have n2_ := aM (blk_below (g := gb113) (o := .cells #[.int .i64 a2_0, .int .i64 a2_1] 34 (0, 0)) (gQ BK113) hb); have n3_ := aM (blk_below (g := gb114) (o := .cells #[.int .i64 a3_0, .int .i64 a3_1] 34 (0, 0)) (gQ BK114) hb); have n4_ := aM (pT (by repeat (first | (with_reducible first | exact HB.out | apply pA | apply pN | apply pD | refine pS ?_ GE111.out | refine pS ?_ GE112.out | refine pS ?_ GE113.out | refine pS ?_ GE114.out) | exact HB.out)) hb); clear BK111; clear BK112; clear BK113; clear BK114; clear HB; have BK111 := n0_; have BK112 := n1_; have BK113 := n2_; have BK114 := n3_; have HB := n4_; clear n0_ n1_ n2_ n3_ n4_; (try clear hb); (try clear hb2); (try clear hk); (try clear hi); have hcz34_0 : w33.cell? ⟨gb111, 0, none⟩ = some (.int .i64 a0_0) := (kC BK111.out 0).trans rfl; have hcz34_1 : w33.cell? ⟨gb111, 1, none⟩ = some (.int .i64 a0_1) := (kC BK111.out 1).trans rfl; have hfz34_0 := kF BK111.out 0; have hfz34_1 := kF BK111.out 1; have hcz35_0 : w33.cell? ⟨gb112, 0, none⟩ = some (.int .i64 a1_0) := (kC BK112.out 0).trans rfl; have hcz35_1 : w33.cell? ⟨gb112, 1, none⟩ = some (.int .i64 a1_1) := (kC BK112.out 1).trans rfl; have hfz35_0 := kF BK112.out 0; have hfz35_1 := kF BK112.out 1; have hcz36_0 : w33.cell? ⟨gb114, 0, none⟩ = some (.int .i64 a3_0) := (kC BK114.out 0).trans rfl; have hcz36_1 : w33.cell? ⟨gb114, 1, none⟩ = some (.int .i64 a3_1) := (kC BK114.out 1).trans rfl; have hfz36_0 := kF BK114.out 0; have hfz36_1 := kF BK114.out 1) | (go_at_call 140; (with_reducible refine (spec_pgOn.calls a0_0 a0_1 a1_0 a1_1 a3_0 a3_1 true _ A22.out).mono ?_); rintro e w37 ⟨rfl, hb⟩; have n0_ := aM (blk_below (g := gb111) (o := .cells #[.int .i64 a0_0, .int .i64 a0_1] 34 (0, 0)) (gQ BK111) hb); have n1_ := aM (blk_below (g := gb112) (o := .cells #[.int .i64 a1_0, .int .i64 a1_1] 34 (0, 0)) (gQ BK112) hb); have n2_ := aM (blk_below (g := gb113) (o := .cells #[.int .i64 a2_0, .int .i64 a2_1] 34 (0, 0)) (gQ BK113) hb); have n3_ := aM (blk_below (g := gb114) (o := .cells #[.int .i64 a3_0, .int .i64 a3_1] 34 (0, 0)) (gQ BK114) hb); have n4_ := aM (pT (by repeat (first | (with_reducible first | exact HB.out | apply pA | apply pN | apply pD | refine pS ?_ GE111.out | refine pS ?_ GE112.out | refine pS ?_ GE113.out | refine pS ?_ GE114.out) | exact HB.out)) hb); clear BK111; clear BK112; clear BK113; clear BK114; clear HB; have BK111 := n0_; have BK112 := n1_; have BK113 := n2_; have BK114 := n3_; have HB := n4_; clear n0_ n1_ n2_ n3_ n4_; (try clear hb); (try clear hb2); (try clear hk); (try clear hi)))
    go_meet
    case rel => exact ⟨_, (true), eQ, H', ⟨by first | omega | exact Nat.le_refl _⟩, ⟨by (with_reducible repeat (first | refine kN ?_ _ | refine kD ?_ | refine kA ?_ _)); exact BK111.out⟩, ⟨by (with_reducible repeat (first | refine kN ?_ _ | refine kD ?_ | refine kA ?_ _)); exact BK112.out⟩, ⟨by (with_reducible repeat (first | refine kN ?_ _ | refine kD ?_ | refine kA ?_ _)); exact BK113.out⟩, ⟨by (with_reducible repeat (first | refine kN ?_ _ | refine kD ?_ | refine kA ?_ _)); exact BK114.out⟩, ⟨by repeat (first | (with_reducible first | exact HB.out | apply pA | apply pN | apply pD | refine pS ?_ GE111.out | refine pS ?_ GE112.out | refine pS ?_ GE113.out | refine pS ?_ GE114.out) | exact HB.out)⟩⟩
   ·replace c23 := Bool.eq_false_iff.mpr c23
    subst c23
    have H1 : ((spec_pgOn.f a2_0 a2_1 a3_0 a3_1 a0_0 a0_1).bind fun t117 => (if t117 = true then (spec_pgMeet.j0 k true a0_0 a0_1 a1_0 a1_1 a2_0 a2_1 a3_0 a3_1) else ((spec_pgOn.f a2_0 a2_1 a3_0 a3_1 a1_0 a1_1).bind fun t118 => (spec_pgMeet.j0 k t118 a0_0 a0_1 a1_0 a1_1 a2_0 a2_1 a3_0 a3_1)))) = some r := by rw [if_neg (show ¬ (false = true) by decide)] at H; exact H
    clear H
    have H := H1
    clear H1
    replace H := oB.mp H
    obtain ⟨t117, A380, H⟩ := H
    replace H : (if t117 = true then (spec_pgMeet.j0 k true a0_0 a0_1 a1_0 a1_1 a2_0 a2_1 a3_0 a3_1) else ((spec_pgOn.f a2_0 a2_1 a3_0 a3_1 a1_0 a1_1).bind fun t118 => (spec_pgMeet.j0 k t118 a0_0 a0_1 a1_0 a1_1 a2_0 a2_1 a3_0 a3_1))) = some r := H
    have A38 := aM A380
    clear A380
    by_cases c39 : t117 = true
    ·subst c39
     have H1 : (spec_pgMeet.j0 k true a0_0 a0_1 a1_0 a1_1 a2_0 a2_1 a3_0 a3_1) = some r := by rw [if_pos rfl] at H; exact H
     clear H
     have H := H1
     clear H1
     have H' := aM H
     clear H
     have hnb40 := NB111_112.out
     have hnc40 := NB112_111.out
     have hnb41 := NB111_113.out
     have hnc41 := NB113_111.out
     have hnb42 := NB111_114.out
     have hnc42 := NB114_111.out
     have hcz43_0 : w9.cell? ⟨gb111, 0, none⟩ = some (.int .i64 a0_0) := (kC BK111.out 0).trans rfl
     have hcz43_1 : w9.cell? ⟨gb111, 1, none⟩ = some (.int .i64 a0_1) := (kC BK111.out 1).trans rfl
     have hfz43_0 := kF BK111.out 0
     have hfz43_1 := kF BK111.out 1
     have hnb44 := NB112_113.out
     have hnc44 := NB113_112.out
     have hnb45 := NB112_114.out
     have hnc45 := NB114_112.out
     have hcz46_0 : w9.cell? ⟨gb112, 0, none⟩ = some (.int .i64 a1_0) := (kC BK112.out 0).trans rfl
     have hcz46_1 : w9.cell? ⟨gb112, 1, none⟩ = some (.int .i64 a1_1) := (kC BK112.out 1).trans rfl
     have hfz46_0 := kF BK112.out 0
     have hfz46_1 := kF BK112.out 1
     have hnb47 := NB113_114.out
     have hnc47 := NB114_113.out
     have hcz48_0 : w9.cell? ⟨gb113, 0, none⟩ = some (.int .i64 a2_0) := (kC BK113.out 0).trans rfl
     have hcz48_1 : w9.cell? ⟨gb113, 1, none⟩ = some (.int .i64 a2_1) := (kC BK113.out 1).trans rfl
     have hfz48_0 := kF BK113.out 0
     have hfz48_1 := kF BK113.out 1
     go_wp2_with (first | ((with_reducible refine gC (f := 140) rfl ?_); refine goesL_ (some 12) rfl rfl Try.func140 kR rfl #[.agg #[.int .i64 a0_0, .int .i64 a0_1], .agg #[.int .i64 a1_0, .int .i64 a1_1], .agg #[.int .i64 a2_0, .int .i64 a2_1]] rfl sQ ?_; (with_reducible refine (spec_pgOn.calls a0_0 a0_1 a1_0 a1_1 a2_0 a2_1 false _ A10.out).mono ?_); rintro e w49 ⟨rfl, hb⟩; refine ⟨_, rfl, ?_⟩; have n0_ := aM (blk_below (g := gb111) (o := .cells #[.int .i64 a0_0, .int .i64 a0_1] 34 (0, 0)) (gQ BK111) hb); have n1_ := aM (blk_below (g := gb112) (o := .cells #[.int .i64 a1_0, .int .i64 a1_1] 34 (0, 0)) (gQ BK112) hb); have n2_ := aM (blk_below (g := gb113) (o := .cells #[.int .i64 a2_0, .int .i64 a2_1] 34 (0, 0)) (gQ BK113) hb); have n3_ := aM (blk_below (g := gb114) (o := .cells #[.int .i64 a3_0, .int .i64 a3_1] 34 (0, 0)) (gQ BK114) hb); have n4_ := aM (pT (by repeat (first | (with_reducible first | exact HB.out | apply pA | apply pN | apply pD | refine pS ?_ GE111.out | refine pS ?_ GE112.out | refine pS ?_ GE113.out | refine pS ?_ GE114.out) | exact HB.out)) hb); clear BK111; clear BK112; clear BK113; clear BK114; clear HB; have BK111 := n0_; have BK112 := n1_; have BK113 := n2_; have BK114 := n3_; have HB := n4_; clear n0_ n1_ n2_ n3_ n4_; (try clear hb); (try clear hb2); (try clear hk); (try clear hi); have hcz50_0 : w49.cell? ⟨gb111, 0, none⟩ = some (.int .i64 a0_0) := (kC BK111.out 0).trans rfl; have hcz50_1 : w49.cell? ⟨gb111, 1, none⟩ = some (.int .i64 a0_1) := (kC BK111.out 1).trans rfl; have hfz50_0 := kF BK111.out 0; have hfz50_1 := kF BK111.out 1; have hcz51_0 : w49.cell? ⟨gb112, 0, none⟩ = some (.int .i64 a1_0) := (kC BK112.out 0).trans rfl; have hcz51_1 : w49.cell? ⟨gb112, 1, none⟩ = some (.int .i64 a1_1) := (kC BK112.out 1).trans rfl; have hfz51_0 := kF BK112.out 0; have hfz51_1 := kF BK112.out 1; have hcz52_0 : w49.cell? ⟨gb114, 0, none⟩ = some (.int .i64 a3_0) := (kC BK114.out 0).trans rfl; have hcz52_1 : w49.cell? ⟨gb114, 1, none⟩ = some (.int .i64 a3_1) := (kC BK114.out 1).trans rfl; have hfz52_0 := kF BK114.out 0; have hfz52_1 := kF BK114.out 1) | (go_at_call 140; (with_reducible refine (spec_pgOn.calls a0_0 a0_1 a1_0 a1_1 a3_0 a3_1 false _ A22.out).mono ?_); rintro e w53 ⟨rfl, hb⟩; have n0_ := aM (blk_below (g := gb111) (o := .cells #[.int .i64 a0_0, .int .i64 a0_1] 34 (0, 0)) (gQ BK111) hb); have n1_ := aM (blk_below (g := gb112) (o := .cells #[.int .i64 a1_0, .int .i64 a1_1] 34 (0, 0)) (gQ BK112) hb); have n2_ := aM (blk_below (g := gb113) (o := .cells #[.int .i64 a2_0, .int .i64 a2_1] 34 (0, 0)) (gQ BK113) hb); have n3_ := aM (blk_below (g := gb114) (o := .cells #[.int .i64 a3_0, .int .i64 a3_1] 34 (0, 0)) (gQ BK114) hb); have n4_ := aM (pT (by repeat (first | (with_reducible first | exact HB.out | apply pA | apply pN | apply pD | refine pS ?_ GE111.out | refine pS ?_ GE112.out | refine pS ?_ GE113.out | refine pS ?_ GE114.out) | exact HB.out)) hb); clear BK111; clear BK112; clear BK113; clear BK114; clear HB; have BK111 := n0_; have BK112 := n1_; have BK113 := n2_; have BK114 := n3_; have HB := n4_; clear n0_ n1_ n2_ n3_ n4_; (try clear hb); (try clear hb2); (try clear hk); (try clear hi); have hcz54_0 : w53.cell? ⟨gb113, 0, none⟩ = some (.int .i64 a2_0) := (kC BK113.out 0).trans rfl; have hcz54_1 : w53.cell? ⟨gb113, 1, none⟩ = some (.int .i64 a2_1) := (kC BK113.out 1).trans rfl; have hfz54_0 := kF BK113.out 0; have hfz54_1 := kF BK113.out 1; have hcz55_0 : w53.cell? ⟨gb114, 0, none⟩ = some (.int .i64 a3_0) := (kC BK114.out 0).trans rfl; have hcz55_1 : w53.cell? ⟨gb114, 1, none⟩ = some (.int .i64 a3_1) := (kC BK114.out 1).trans rfl; have hfz55_0 := kF BK114.out 0; have hfz55_1 := kF BK114.out 1; have hcz56_0 : w53.cell? ⟨gb111, 0, none⟩ = some (.int .i64 a0_0) := (kC BK111.out 0).trans rfl; have hcz56_1 : w53.cell? ⟨gb111, 1, none⟩ = some (.int .i64 a0_1) := (kC BK111.out 1).trans rfl; have hfz56_0 := kF BK111.out 0; have hfz56_1 := kF BK111.out 1) | (go_at_call 140; (with_reducible refine (spec_pgOn.calls a2_0 a2_1 a3_0 a3_1 a0_0 a0_1 true _ A38.out).mono ?_); rintro e w57 ⟨rfl, hb⟩; have n0_ := aM (blk_below (g := gb111) (o := .cells #[.int .i64 a0_0, .int .i64 a0_1] 34 (0, 0)) (gQ BK111) hb); have n1_ := aM (blk_below (g := gb112) (o := .cells #[.int .i64 a1_0, .int .i64 a1_1] 34 (0, 0)) (gQ BK112) hb); have n2_ := aM (blk_below (g := gb113) (o := .cells #[.int .i64 a2_0, .int .i64 a2_1] 34 (0, 0)) (gQ BK113) hb); have n3_ := aM (blk_below (g := gb114) (o := .cells #[.int .i64 a3_0, .int .i64 a3_1] 34 (0, 0)) (gQ BK114) hb); have n4_ := aM (pT (by repeat (first | (with_reducible first | exact HB.out | apply pA | apply pN | apply pD | refine pS ?_ GE111.out | refine pS ?_ GE112.out | refine pS ?_ GE113.out | refine pS ?_ GE114.out) | exact HB.out)) hb); clear BK111; clear BK112; clear BK113; clear BK114; clear HB; have BK111 := n0_; have BK112 := n1_; have BK113 := n2_; have BK114 := n3_; have HB := n4_; clear n0_ n1_ n2_ n3_ n4_; (try clear hb); (try clear hb2); (try clear hk); (try clear hi)))
     go_meet
     case rel => exact ⟨_, (true), eQ, H', ⟨by first | omega | exact Nat.le_refl _⟩, ⟨by (with_reducible repeat (first | refine kN ?_ _ | refine kD ?_ | refine kA ?_ _)); exact BK111.out⟩, ⟨by (with_reducible repeat (first | refine kN ?_ _ | refine kD ?_ | refine kA ?_ _)); exact BK112.out⟩, ⟨by (with_reducible repeat (first | refine kN ?_ _ | refine kD ?_ | refine kA ?_ _)); exact BK113.out⟩, ⟨by (with_reducible repeat (first | refine kN ?_ _ | refine kD ?_ | refine kA ?_ _)); exact BK114.out⟩, ⟨by repeat (first | (with_reducible first | exact HB.out | apply pA | apply pN | apply pD | refine pS ?_ GE111.out | refine pS ?_ GE112.out | refine pS ?_ GE113.out | refine pS ?_ GE114.out) | exact HB.out)⟩⟩
    ·replace c39 := Bool.eq_false_iff.mpr c39
     subst c39
     have H1 : ((spec_pgOn.f a2_0 a2_1 a3_0 a3_1 a1_0 a1_1).bind fun t118 => (spec_pgMeet.j0 k t118 a0_0 a0_1 a1_0 a1_1 a2_0 a2_1 a3_0 a3_1)) = some r := by rw [if_neg (show ¬ (false = true) by decide)] at H; exact H
     clear H
     have H := H1
     clear H1
     replace H := oB.mp H
     obtain ⟨t118, A580, H⟩ := H
     replace H : (spec_pgMeet.j0 k t118 a0_0 a0_1 a1_0 a1_1 a2_0 a2_1 a3_0 a3_1) = some r := H
     have A58 := aM A580
     clear A580
     have H' := aM H
     clear H
     have hnb59 := NB111_112.out
     have hnc59 := NB112_111.out
     have hnb60 := NB111_113.out
     have hnc60 := NB113_111.out
     have hnb61 := NB111_114.out
     have hnc61 := NB114_111.out
     have hcz62_0 : w9.cell? ⟨gb111, 0, none⟩ = some (.int .i64 a0_0) := (kC BK111.out 0).trans rfl
     have hcz62_1 : w9.cell? ⟨gb111, 1, none⟩ = some (.int .i64 a0_1) := (kC BK111.out 1).trans rfl
     have hfz62_0 := kF BK111.out 0
     have hfz62_1 := kF BK111.out 1
     have hnb63 := NB112_113.out
     have hnc63 := NB113_112.out
     have hnb64 := NB112_114.out
     have hnc64 := NB114_112.out
     have hcz65_0 : w9.cell? ⟨gb112, 0, none⟩ = some (.int .i64 a1_0) := (kC BK112.out 0).trans rfl
     have hcz65_1 : w9.cell? ⟨gb112, 1, none⟩ = some (.int .i64 a1_1) := (kC BK112.out 1).trans rfl
     have hfz65_0 := kF BK112.out 0
     have hfz65_1 := kF BK112.out 1
     have hnb66 := NB113_114.out
     have hnc66 := NB114_113.out
     have hcz67_0 : w9.cell? ⟨gb113, 0, none⟩ = some (.int .i64 a2_0) := (kC BK113.out 0).trans rfl
     have hcz67_1 : w9.cell? ⟨gb113, 1, none⟩ = some (.int .i64 a2_1) := (kC BK113.out 1).trans rfl
     have hfz67_0 := kF BK113.out 0
     have hfz67_1 := kF BK113.out 1
     go_wp2_with (first | ((with_reducible refine gC (f := 140) rfl ?_); refine goesL_ (some 12) rfl rfl Try.func140 kR rfl #[.agg #[.int .i64 a0_0, .int .i64 a0_1], .agg #[.int .i64 a1_0, .int .i64 a1_1], .agg #[.int .i64 a2_0, .int .i64 a2_1]] rfl sQ ?_; (with_reducible refine (spec_pgOn.calls a0_0 a0_1 a1_0 a1_1 a2_0 a2_1 false _ A10.out).mono ?_); rintro e w68 ⟨rfl, hb⟩; refine ⟨_, rfl, ?_⟩; have n0_ := aM (blk_below (g := gb111) (o := .cells #[.int .i64 a0_0, .int .i64 a0_1] 34 (0, 0)) (gQ BK111) hb); have n1_ := aM (blk_below (g := gb112) (o := .cells #[.int .i64 a1_0, .int .i64 a1_1] 34 (0, 0)) (gQ BK112) hb); have n2_ := aM (blk_below (g := gb113) (o := .cells #[.int .i64 a2_0, .int .i64 a2_1] 34 (0, 0)) (gQ BK113) hb); have n3_ := aM (blk_below (g := gb114) (o := .cells #[.int .i64 a3_0, .int .i64 a3_1] 34 (0, 0)) (gQ BK114) hb); have n4_ := aM (pT (by repeat (first | (with_reducible first | exact HB.out | apply pA | apply pN | apply pD | refine pS ?_ GE111.out | refine pS ?_ GE112.out | refine pS ?_ GE113.out | refine pS ?_ GE114.out) | exact HB.out)) hb); clear BK111; clear BK112; clear BK113; clear BK114; clear HB; have BK111 := n0_; have BK112 := n1_; have BK113 := n2_; have BK114 := n3_; have HB := n4_; clear n0_ n1_ n2_ n3_ n4_; (try clear hb); (try clear hb2); (try clear hk); (try clear hi); have hcz69_0 : w68.cell? ⟨gb111, 0, none⟩ = some (.int .i64 a0_0) := (kC BK111.out 0).trans rfl; have hcz69_1 : w68.cell? ⟨gb111, 1, none⟩ = some (.int .i64 a0_1) := (kC BK111.out 1).trans rfl; have hfz69_0 := kF BK111.out 0; have hfz69_1 := kF BK111.out 1; have hcz70_0 : w68.cell? ⟨gb112, 0, none⟩ = some (.int .i64 a1_0) := (kC BK112.out 0).trans rfl; have hcz70_1 : w68.cell? ⟨gb112, 1, none⟩ = some (.int .i64 a1_1) := (kC BK112.out 1).trans rfl; have hfz70_0 := kF BK112.out 0; have hfz70_1 := kF BK112.out 1; have hcz71_0 : w68.cell? ⟨gb114, 0, none⟩ = some (.int .i64 a3_0) := (kC BK114.out 0).trans rfl; have hcz71_1 : w68.cell? ⟨gb114, 1, none⟩ = some (.int .i64 a3_1) := (kC BK114.out 1).trans rfl; have hfz71_0 := kF BK114.out 0; have hfz71_1 := kF BK114.out 1) | (go_at_call 140; (with_reducible refine (spec_pgOn.calls a0_0 a0_1 a1_0 a1_1 a3_0 a3_1 false _ A22.out).mono ?_); rintro e w72 ⟨rfl, hb⟩; have n0_ := aM (blk_below (g := gb111) (o := .cells #[.int .i64 a0_0, .int .i64 a0_1] 34 (0, 0)) (gQ BK111) hb); have n1_ := aM (blk_below (g := gb112) (o := .cells #[.int .i64 a1_0, .int .i64 a1_1] 34 (0, 0)) (gQ BK112) hb); have n2_ := aM (blk_below (g := gb113) (o := .cells #[.int .i64 a2_0, .int .i64 a2_1] 34 (0, 0)) (gQ BK113) hb); have n3_ := aM (blk_below (g := gb114) (o := .cells #[.int .i64 a3_0, .int .i64 a3_1] 34 (0, 0)) (gQ BK114) hb); have n4_ := aM (pT (by repeat (first | (with_reducible first | exact HB.out | apply pA | apply pN | apply pD | refine pS ?_ GE111.out | refine pS ?_ GE112.out | refine pS ?_ GE113.out | refine pS ?_ GE114.out) | exact HB.out)) hb); clear BK111; clear BK112; clear BK113; clear BK114; clear HB; have BK111 := n0_; have BK112 := n1_; have BK113 := n2_; have BK114 := n3_; have HB := n4_; clear n0_ n1_ n2_ n3_ n4_; (try clear hb); (try clear hb2); (try clear hk); (try clear hi); have hcz73_0 : w72.cell? ⟨gb113, 0, none⟩ = some (.int .i64 a2_0) := (kC BK113.out 0).trans rfl; have hcz73_1 : w72.cell? ⟨gb113, 1, none⟩ = some (.int .i64 a2_1) := (kC BK113.out 1).trans rfl; have hfz73_0 := kF BK113.out 0; have hfz73_1 := kF BK113.out 1; have hcz74_0 : w72.cell? ⟨gb114, 0, none⟩ = some (.int .i64 a3_0) := (kC BK114.out 0).trans rfl; have hcz74_1 : w72.cell? ⟨gb114, 1, none⟩ = some (.int .i64 a3_1) := (kC BK114.out 1).trans rfl; have hfz74_0 := kF BK114.out 0; have hfz74_1 := kF BK114.out 1; have hcz75_0 : w72.cell? ⟨gb111, 0, none⟩ = some (.int .i64 a0_0) := (kC BK111.out 0).trans rfl; have hcz75_1 : w72.cell? ⟨gb111, 1, none⟩ = some (.int .i64 a0_1) := (kC BK111.out 1).trans rfl; have hfz75_0 := kF BK111.out 0; have hfz75_1 := kF BK111.out 1) | (go_at_call 140; (with_reducible refine (spec_pgOn.calls a2_0 a2_1 a3_0 a3_1 a0_0 a0_1 false _ A38.out).mono ?_); rintro e w76 ⟨rfl, hb⟩; have n0_ := aM (blk_below (g := gb111) (o := .cells #[.int .i64 a0_0, .int .i64 a0_1] 34 (0, 0)) (gQ BK111) hb); have n1_ := aM (blk_below (g := gb112) (o := .cells #[.int .i64 a1_0, .int .i64 a1_1] 34 (0, 0)) (gQ BK112) hb); have n2_ := aM (blk_below (g := gb113) (o := .cells #[.int .i64 a2_0, .int .i64 a2_1] 34 (0, 0)) (gQ BK113) hb); have n3_ := aM (blk_below (g := gb114) (o := .cells #[.int .i64 a3_0, .int .i64 a3_1] 34 (0, 0)) (gQ BK114) hb); have n4_ := aM (pT (by repeat (first | (with_reducible first | exact HB.out | apply pA | apply pN | apply pD | refine pS ?_ GE111.out | refine pS ?_ GE112.out | refine pS ?_ GE113.out | refine pS ?_ GE114.out) | exact HB.out)) hb); clear BK111; clear BK112; clear BK113; clear BK114; clear HB; have BK111 := n0_; have BK112 := n1_; have BK113 := n2_; have BK114 := n3_; have HB := n4_; clear n0_ n1_ n2_ n3_ n4_; (try clear hb); (try clear hb2); (try clear hk); (try clear hi); have hcz77_0 : w76.cell? ⟨gb113, 0, none⟩ = some (.int .i64 a2_0) := (kC BK113.out 0).trans rfl; have hcz77_1 : w76.cell? ⟨gb113, 1, none⟩ = some (.int .i64 a2_1) := (kC BK113.out 1).trans rfl; have hfz77_0 := kF BK113.out 0; have hfz77_1 := kF BK113.out 1; have hcz78_0 : w76.cell? ⟨gb114, 0, none⟩ = some (.int .i64 a3_0) := (kC BK114.out 0).trans rfl; have hcz78_1 : w76.cell? ⟨gb114, 1, none⟩ = some (.int .i64 a3_1) := (kC BK114.out 1).trans rfl; have hfz78_0 := kF BK114.out 0; have hfz78_1 := kF BK114.out 1; have hcz79_0 : w76.cell? ⟨gb112, 0, none⟩ = some (.int .i64 a1_0) := (kC BK112.out 0).trans rfl; have hcz79_1 : w76.cell? ⟨gb112, 1, none⟩ = some (.int .i64 a1_1) := (kC BK112.out 1).trans rfl; have hfz79_0 := kF BK112.out 0; have hfz79_1 := kF BK112.out 1) | (go_at_call 140; (with_reducible refine (spec_pgOn.calls a2_0 a2_1 a3_0 a3_1 a1_0 a1_1 t118 _ A58.out).mono ?_); rintro e w80 ⟨rfl, hb⟩; have n0_ := aM (blk_below (g := gb111) (o := .cells #[.int .i64 a0_0, .int .i64 a0_1] 34 (0, 0)) (gQ BK111) hb); have n1_ := aM (blk_below (g := gb112) (o := .cells #[.int .i64 a1_0, .int .i64 a1_1] 34 (0, 0)) (gQ BK112) hb); have n2_ := aM (blk_below (g := gb113) (o := .cells #[.int .i64 a2_0, .int .i64 a2_1] 34 (0, 0)) (gQ BK113) hb); have n3_ := aM (blk_below (g := gb114) (o := .cells #[.int .i64 a3_0, .int .i64 a3_1] 34 (0, 0)) (gQ BK114) hb); have n4_ := aM (pT (by repeat (first | (with_reducible first | exact HB.out | apply pA | apply pN | apply pD | refine pS ?_ GE111.out | refine pS ?_ GE112.out | refine pS ?_ GE113.out | refine pS ?_ GE114.out) | exact HB.out)) hb); clear BK111; clear BK112; clear BK113; clear BK114; clear HB; have BK111 := n0_; have BK112 := n1_; have BK113 := n2_; have BK114 := n3_; have HB := n4_; clear n0_ n1_ n2_ n3_ n4_; (try clear hb); (try clear hb2); (try clear hk); (try clear hi)))
     go_meet
     case rel => exact ⟨_, (t118), eQ, H', ⟨by first | omega | exact Nat.le_refl _⟩, ⟨by (with_reducible repeat (first | refine kN ?_ _ | refine kD ?_ | refine kA ?_ _)); exact BK111.out⟩, ⟨by (with_reducible repeat (first | refine kN ?_ _ | refine kD ?_ | refine kA ?_ _)); exact BK112.out⟩, ⟨by (with_reducible repeat (first | refine kN ?_ _ | refine kD ?_ | refine kA ?_ _)); exact BK113.out⟩, ⟨by (with_reducible repeat (first | refine kN ?_ _ | refine kD ?_ | refine kA ?_ _)); exact BK114.out⟩, ⟨by repeat (first | (with_reducible first | exact HB.out | apply pA | apply pN | apply pD | refine pS ?_ GE111.out | refine pS ?_ GE112.out | refine pS ?_ GE113.out | refine pS ?_ GE114.out) | exact HB.out)⟩⟩
 case rest =>
  clear HC5
  try clear c1
  try clear c2
  try clear p2
  try clear c3
  try clear c4
  try clear c5
  try clear c6
  try clear c11
  try clear c12
  try clear c13
  try clear c14
  try clear c16
  try clear c17
  try clear c19
  try clear c23
  try clear c24
  try clear c25
  try clear c26
  try clear c28
  try clear c29
  try clear c31
  try clear c39
  try clear c40
  try clear c41
  try clear c42
  try clear c44
  try clear c45
  try clear c47
  try clear c59
  try clear c60
  try clear c61
  try clear c63
  try clear c64
  try clear c66
  try clear hcz15_0
  try clear hcz15_1
  try clear hcz18_0
  try clear hcz18_1
  try clear hcz20_0
  try clear hcz20_1
  try clear hcz27_0
  try clear hcz27_1
  try clear hcz30_0
  try clear hcz30_1
  try clear hcz32_0
  try clear hcz32_1
  try clear hcz34_0
  try clear hcz34_1
  try clear hcz35_0
  try clear hcz35_1
  try clear hcz36_0
  try clear hcz36_1
  try clear hcz43_0
  try clear hcz43_1
  try clear hcz46_0
  try clear hcz46_1
  try clear hcz48_0
  try clear hcz48_1
  try clear hcz50_0
  try clear hcz50_1
  try clear hcz51_0
  try clear hcz51_1
  try clear hcz52_0
  try clear hcz52_1
  try clear hcz54_0
  try clear hcz54_1
  try clear hcz55_0
  try clear hcz55_1
  try clear hcz56_0
  try clear hcz56_1
  try clear hcz62_0
  try clear hcz62_1
  try clear hcz65_0
  try clear hcz65_1
  try clear hcz67_0
  try clear hcz67_1
  try clear hcz69_0
  try clear hcz69_1
  try clear hcz70_0
  try clear hcz70_1
  try clear hcz71_0
  try clear hcz71_1
  try clear hcz73_0
  try clear hcz73_1
  try clear hcz74_0
  try clear hcz74_1
  try clear hcz75_0
  try clear hcz75_1
  try clear hcz77_0
  try clear hcz77_1
  try clear hcz78_0
  try clear hcz78_1
  try clear hcz79_0
  try clear hcz79_1
  try clear hfz15_0
  try clear hfz15_1
  try clear hfz18_0
  try clear hfz18_1
  try clear hfz20_0
  try clear hfz20_1
  try clear hfz27_0
  try clear hfz27_1
  try clear hfz30_0
  try clear hfz30_1
  try clear hfz32_0
  try clear hfz32_1
  try clear hfz34_0
  try clear hfz34_1
  try clear hfz35_0
  try clear hfz35_1
  try clear hfz36_0
  try clear hfz36_1
  try clear hfz43_0
  try clear hfz43_1
  try clear hfz46_0
  try clear hfz46_1
  try clear hfz48_0
  try clear hfz48_1
  try clear hfz50_0
  try clear hfz50_1
  try clear hfz51_0
  try clear hfz51_1
  try clear hfz52_0
  try clear hfz52_1
  try clear hfz54_0
  try clear hfz54_1
  try clear hfz55_0
  try clear hfz55_1
  try clear hfz56_0
  try clear hfz56_1
  try clear hfz62_0
  try clear hfz62_1
  try clear hfz65_0
  try clear hfz65_1
  try clear hfz67_0
  try clear hfz67_1
  try clear hfz69_0
  try clear hfz69_1
  try clear hfz70_0
  try clear hfz70_1
  try clear hfz71_0
  try clear hfz71_1
  try clear hfz73_0
  try clear hfz73_1
  try clear hfz74_0
  try clear hfz74_1
  try clear hfz75_0
  try clear hfz75_1
  try clear hfz77_0
  try clear hfz77_1
  try clear hfz78_0
  try clear hfz78_1
  try clear hfz79_0
  try clear hfz79_1
  obtain ⟨kq, x30_4, rfl, HA, HJ4, BK111, BK112, BK113, BK114, HB⟩ := hcut
  cases kq with
  | zero => exact absurd HA.out (by simp [spec_pgMeet.j0])
  | succ kj4 =>
   have H := HA.out
   clear HA
   simp only [spec_pgMeet.j0] at H
   by_cases c81 : x30_4 = true
   ·subst c81
    have H1 : (some true) = some r := by rw [if_pos rfl] at H; exact H
    clear H
    have H := H1
    clear H1
    obtain rfl := Option.some.inj H
    go_wp2
    go_ret
    exact ⟨by first | rfl | (simp [errW_none, errW_some] <;> rfl) | (simp [*, errW_none, errW_some] <;> rfl), by repeat (first | (with_reducible first | exact HB.out | apply pA | apply pN | apply pD | refine pS ?_ GE111.out | refine pS ?_ GE112.out | refine pS ?_ GE113.out | refine pS ?_ GE114.out) | exact HB.out)⟩
   ·replace c81 := Bool.eq_false_iff.mpr c81
    subst c81
    have H1 : ((spec_pgTurn.f a0_0 a0_1 a1_0 a1_1 a2_0 a2_1).bind fun t119 => ((spec_l1Sign.f t119).bind fun t120 => ((spec_pgTurn.f a0_0 a0_1 a1_0 a1_1 a3_0 a3_1).bind fun t121 => ((spec_l1Sign.f t121).bind fun t122 => (if (wrap64 (t120 * t122)) < 0 then ((spec_pgTurn.f a2_0 a2_1 a3_0 a3_1 a0_0 a0_1).bind fun t123 => ((spec_l1Sign.f t123).bind fun t124 => ((spec_pgTurn.f a2_0 a2_1 a3_0 a3_1 a1_0 a1_1).bind fun t125 => ((spec_l1Sign.f t125).bind fun t126 => (some (decide ((wrap64 (t124 * t126)) < 0))))))) else (some false)))))) = some r := by rw [if_neg (show ¬ (false = true) by decide)] at H; exact H
    clear H
    have H := H1
    clear H1
    replace H := oB.mp H
    obtain ⟨t119, A820, H⟩ := H
    replace H : ((spec_l1Sign.f t119).bind fun t120 => ((spec_pgTurn.f a0_0 a0_1 a1_0 a1_1 a3_0 a3_1).bind fun t121 => ((spec_l1Sign.f t121).bind fun t122 => (if (wrap64 (t120 * t122)) < 0 then ((spec_pgTurn.f a2_0 a2_1 a3_0 a3_1 a0_0 a0_1).bind fun t123 => ((spec_l1Sign.f t123).bind fun t124 => ((spec_pgTurn.f a2_0 a2_1 a3_0 a3_1 a1_0 a1_1).bind fun t125 => ((spec_l1Sign.f t125).bind fun t126 => (some (decide ((wrap64 (t124 * t126)) < 0))))))) else (some false))))) = some r := H
    have A82 := aM A820
    clear A820
    replace H := oB.mp H
    obtain ⟨t120, A830, H⟩ := H
    replace H : ((spec_pgTurn.f a0_0 a0_1 a1_0 a1_1 a3_0 a3_1).bind fun t121 => ((spec_l1Sign.f t121).bind fun t122 => (if (wrap64 (t120 * t122)) < 0 then ((spec_pgTurn.f a2_0 a2_1 a3_0 a3_1 a0_0 a0_1).bind fun t123 => ((spec_l1Sign.f t123).bind fun t124 => ((spec_pgTurn.f a2_0 a2_1 a3_0 a3_1 a1_0 a1_1).bind fun t125 => ((spec_l1Sign.f t125).bind fun t126 => (some (decide ((wrap64 (t124 * t126)) < 0))))))) else (some false)))) = some r := H
    have A83 := aM A830
    clear A830
    replace H := oB.mp H
    obtain ⟨t121, A840, H⟩ := H
    replace H : ((spec_l1Sign.f t121).bind fun t122 => (if (wrap64 (t120 * t122)) < 0 then ((spec_pgTurn.f a2_0 a2_1 a3_0 a3_1 a0_0 a0_1).bind fun t123 => ((spec_l1Sign.f t123).bind fun t124 => ((spec_pgTurn.f a2_0 a2_1 a3_0 a3_1 a1_0 a1_1).bind fun t125 => ((spec_l1Sign.f t125).bind fun t126 => (some (decide ((wrap64 (t124 * t126)) < 0))))))) else (some false))) = some r := H
    have A84 := aM A840
    clear A840
    replace H := oB.mp H
    obtain ⟨t122, A850, H⟩ := H
    replace H : (if (wrap64 (t120 * t122)) < 0 then ((spec_pgTurn.f a2_0 a2_1 a3_0 a3_1 a0_0 a0_1).bind fun t123 => ((spec_l1Sign.f t123).bind fun t124 => ((spec_pgTurn.f a2_0 a2_1 a3_0 a3_1 a1_0 a1_1).bind fun t125 => ((spec_l1Sign.f t125).bind fun t126 => (some (decide ((wrap64 (t124 * t126)) < 0))))))) else (some false)) = some r := H
    have A85 := aM A850
    clear A850
    by_cases c86 : (wrap64 (t120 * t122)) < 0
    ·rw [if_pos c86] at H
     have c86b0 : decide ((wrap64 (t120 * t122)) < 0) = true := dE c86
     clear c86
     replace H := oB.mp H
     obtain ⟨t123, A870, H⟩ := H
     replace H : ((spec_l1Sign.f t123).bind fun t124 => ((spec_pgTurn.f a2_0 a2_1 a3_0 a3_1 a1_0 a1_1).bind fun t125 => ((spec_l1Sign.f t125).bind fun t126 => (some (decide ((wrap64 (t124 * t126)) < 0)))))) = some r := H
     have A87 := aM A870
     clear A870
     replace H := oB.mp H
     obtain ⟨t124, A880, H⟩ := H
     replace H : ((spec_pgTurn.f a2_0 a2_1 a3_0 a3_1 a1_0 a1_1).bind fun t125 => ((spec_l1Sign.f t125).bind fun t126 => (some (decide ((wrap64 (t124 * t126)) < 0))))) = some r := H
     have A88 := aM A880
     clear A880
     replace H := oB.mp H
     obtain ⟨t125, A890, H⟩ := H
     replace H : ((spec_l1Sign.f t125).bind fun t126 => (some (decide ((wrap64 (t124 * t126)) < 0)))) = some r := H
     have A89 := aM A890
     clear A890
     replace H := oB.mp H
     obtain ⟨t126, A900, H⟩ := H
     replace H : (some (decide ((wrap64 (t124 * t126)) < 0))) = some r := H
     have A90 := aM A900
     clear A900
     obtain rfl := Option.some.inj H
     try go_wp2
     have n0_ := aM (kD BK111.out)
     have n1_ := aM (kD BK112.out)
     have n2_ := aM (kD BK113.out)
     have n3_ := aM (kD BK114.out)
     have n4_ := aM (pD HB.out)
     clear BK111
     clear BK112
     clear BK113
     clear BK114
     clear HB
     have BK111 := n0_
     have BK112 := n1_
     have BK113 := n2_
     have BK114 := n3_
     have HB := n4_
     clear n0_ n1_ n2_ n3_ n4_
     refine start_ (n := 27) (S := fun w' => w'.cell? ⟨gb111, 0, none⟩ = some (.int .i64 a0_0) ∧ w'.cell? ⟨gb111, 1, none⟩ = some (.int .i64 a0_1) ∧ w'.cell? ⟨gb112, 0, none⟩ = some (.int .i64 a1_0) ∧ w'.cell? ⟨gb112, 1, none⟩ = some (.int .i64 a1_1) ∧ w'.cell? ⟨gb113, 0, none⟩ = some (.int .i64 a2_0) ∧ w'.cell? ⟨gb113, 1, none⟩ = some (.int .i64 a2_1) ∧ w'.cell? ⟨gb114, 0, none⟩ = some (.int .i64 a3_0) ∧ w'.cell? ⟨gb114, 1, none⟩ = some (.int .i64 a3_1)) (ds := []) #[false, false, false, false, false, false, false, false, false, false, false, false, false, false, false, false, false, false, false, false, false, false, false, false, false, false, false] kR rfl rfl ⟨(kC BK111.out 0).trans rfl, (kC BK111.out 1).trans rfl, (kC BK112.out 0).trans rfl, (kC BK112.out 1).trans rfl, (kC BK113.out 0).trans rfl, (kC BK113.out 1).trans rfl, (kC BK114.out 0).trans rfl, (kC BK114.out 1).trans rfl⟩ (fun hHeld => ?_); refine with_tabW spec_pgMeet.tab3 spec_pgMeet.bits3 (fun HT_ HW_ => ?_)
     generalize wc.drew = w91 at BK111 BK112 BK113 BK114 HB hHeld ⊢
     refine take_ (i := 0) (N := some 31) (v := ?_) (a' := ?_) #[true, false, false, false, false, false, false, false, false, false, false, false, false, false, false, false, false, false, false, false, false, false, false, false, false, false, false] rfl rfl (take_ofW HT_.out HW_.out kR) (fun _ _ _ h => h) (Or.inl ⟨by rfl, ?_⟩) hHeld ?_ ?_
     rotate_left
     ·rintro w' ⟨s0, s1, s2, s3, s4, s5, s6, s7⟩
      go_simp
      with_reducible rfl
     rotate_left
     ·simp only [Act.put, sI, sZ, sS, i64_w, i32_w]
      rfl
     refine take_ (i := 1) (N := some 32) (v := ?_) (a' := ?_) #[true, true, false, false, false, false, false, false, false, false, false, false, false, false, false, false, false, false, false, false, false, false, false, false, false, false, false] rfl rfl (take_ofW HT_.out HW_.out kR) (fun _ _ _ h => h) (Or.inl ⟨by rfl, ?_⟩) hHeld ?_ ?_
     rotate_left
     ·rintro w' ⟨s0, s1, s2, s3, s4, s5, s6, s7⟩
      go_simp
      with_reducible rfl
     rotate_left
     ·simp only [Act.put, sI, sZ, sS, i64_w, i32_w]
      rfl
     refine take_ (i := 2) (N := some 33) (v := ?_) (a' := ?_) #[true, true, true, false, false, false, false, false, false, false, false, false, false, false, false, false, false, false, false, false, false, false, false, false, false, false, false] rfl rfl (take_ofW HT_.out HW_.out kR) (fun _ _ _ h => h) (Or.inl ⟨by rfl, ?_⟩) hHeld ?_ ?_
     rotate_left
     ·rintro w' ⟨s0, s1, s2, s3, s4, s5, s6, s7⟩
      go_simp
      with_reducible rfl
     rotate_left
     ·simp only [Act.put, sI, sZ, sS, i64_w, i32_w]
      rfl
     refine take_ (i := 5) (N := some 36) (v := ?_) (a' := ?_) #[true, true, true, false, false, true, false, false, false, false, false, false, false, false, false, false, false, false, false, false, false, false, false, false, false, false, false] rfl rfl (take_ofW HT_.out HW_.out kR) (fun _ _ _ h => h) (Or.inl ⟨by rfl, ?_⟩) hHeld ?_ ?_
     rotate_left
     ·rintro w' ⟨s0, s1, s2, s3, s4, s5, s6, s7⟩
      go_simp
      with_reducible rfl
     rotate_left
     ·simp only [Act.put, sI, sZ, sS, i64_w, i32_w]
      rfl
     refine take_ (i := 6) (N := some 37) (v := ?_) (a' := ?_) #[true, true, true, false, false, true, true, false, false, false, false, false, false, false, false, false, false, false, false, false, false, false, false, false, false, false, false] rfl rfl (take_ofW HT_.out HW_.out kR) (fun _ _ _ h => h) (Or.inl ⟨by rfl, ?_⟩) hHeld ?_ ?_
     rotate_left
     ·rintro w' ⟨s0, s1, s2, s3, s4, s5, s6, s7⟩
      go_simp
      with_reducible rfl
     rotate_left
     ·simp only [Act.put, sI, sZ, sS, i64_w, i32_w]
      rfl
     refine take_ (i := 7) (N := some 38) (v := ?_) (a' := ?_) #[true, true, true, false, false, true, true, true, false, false, false, false, false, false, false, false, false, false, false, false, false, false, false, false, false, false, false] rfl rfl (take_ofW HT_.out HW_.out kR) (fun _ _ _ h => h) (Or.inl ⟨by rfl, ?_⟩) hHeld ?_ ?_
     rotate_left
     ·rintro w' ⟨s0, s1, s2, s3, s4, s5, s6, s7⟩
      go_simp
      with_reducible rfl
     rotate_left
     ·simp only [Act.put, sI, sZ, sS, i64_w, i32_w]
      rfl
     refine one_ (i := 3) (N := some 34) #[true, true, true, true, false, true, true, true, false, false, false, false, false, false, false, false, false, false, false, false, false, false, false, false, false, false, false] rfl rfl (one_of HT_.out kR) (by decide) (fun K hK => ?_)
     refine goes_ Try.func134 kR rfl #[.agg #[.int .i64 a0_0, .int .i64 a0_1], .agg #[.int .i64 a1_0, .int .i64 a1_1], .agg #[.int .i64 a2_0, .int .i64 a2_1]] (by rfl) rfl rfl sQ ?_
     with_reducible refine (spec_pgTurn.calls a0_0 a0_1 a1_0 a1_1 a2_0 a2_1 t119 _ A82.out).mono ?_
     rintro e w92 ⟨rfl, hb⟩
     refine ⟨_, rfl, ?_⟩
     have n0_ := aM (blk_below (g := gb111) (o := .cells #[.int .i64 a0_0, .int .i64 a0_1] 34 (0, 0)) (gQ BK111) hb)
     have n1_ := aM (blk_below (g := gb112) (o := .cells #[.int .i64 a1_0, .int .i64 a1_1] 34 (0, 0)) (gQ BK112) hb)
     have n2_ := aM (blk_below (g := gb113) (o := .cells #[.int .i64 a2_0, .int .i64 a2_1] 34 (0, 0)) (gQ BK113) hb)
     have n3_ := aM (blk_below (g := gb114) (o := .cells #[.int .i64 a3_0, .int .i64 a3_1] 34 (0, 0)) (gQ BK114) hb)
     have n4_ := aM (pT (by repeat (first | (with_reducible first | exact HB.out | apply pA | apply pN | apply pD | refine pS ?_ GE111.out | refine pS ?_ GE112.out | refine pS ?_ GE113.out | refine pS ?_ GE114.out) | exact HB.out)) hb)
     clear BK111
     clear BK112
     clear BK113
     clear BK114
     clear HB
     have BK111 := n0_
     have BK112 := n1_
     have BK113 := n2_
     have BK114 := n3_
     have HB := n4_
     clear n0_ n1_ n2_ n3_ n4_
     (try clear hb)
     (try clear hb2)
     (try clear hk)
     (try clear hi)
     refine hK.out _ _ ⟨(kC BK111.out 0).trans rfl, (kC BK111.out 1).trans rfl, (kC BK112.out 0).trans rfl, (kC BK112.out 1).trans rfl, (kC BK113.out 0).trans rfl, (kC BK113.out 1).trans rfl, (kC BK114.out 0).trans rfl, (kC BK114.out 1).trans rfl⟩ (fun hHeld => ?_)
     clear hK K
     refine norm_ (a' := ?_) ?_ ?_
     rotate_left
     ·show Act.put _ (some 34) _ = _
      simp only [Act.put, sI, sZ, sS, i64_w, i32_w]
      rfl
     refine one_ (i := 4) (N := some 35) #[true, true, true, true, true, true, true, true, false, false, false, false, false, false, false, false, false, false, false, false, false, false, false, false, false, false, false] rfl rfl (one_of HT_.out kR) (by decide) (fun K hK => ?_)
     refine goes_ Try.func118 kR rfl #[.int .i64 t119] (by rfl) rfl rfl sQ ?_
     with_reducible refine (spec_l1Sign.calls t119 t120 _ A83.out).mono ?_
     rintro e w' ⟨rfl, ⟨nd, rfl⟩⟩
     refine ⟨_, rfl, ?_⟩
     refine hK.out _ _ ⟨(kC BK111.out 0).trans rfl, (kC BK111.out 1).trans rfl, (kC BK112.out 0).trans rfl, (kC BK112.out 1).trans rfl, (kC BK113.out 0).trans rfl, (kC BK113.out 1).trans rfl, (kC BK114.out 0).trans rfl, (kC BK114.out 1).trans rfl⟩ (fun hHeld => ?_)
     clear hK K
     refine norm_ (a' := ?_) ?_ ?_
     rotate_left
     ·show Act.put _ (some 35) _ = _
      simp only [Act.put, sI, sZ, sS, i64_w, i32_w]
      rfl
     refine one_ (i := 8) (N := some 39) #[true, true, true, true, true, true, true, true, true, false, false, false, false, false, false, false, false, false, false, false, false, false, false, false, false, false, false] rfl rfl (one_of HT_.out kR) (by decide) (fun K hK => ?_)
     refine goes_ Try.func134 kR rfl #[.agg #[.int .i64 a0_0, .int .i64 a0_1], .agg #[.int .i64 a1_0, .int .i64 a1_1], .agg #[.int .i64 a3_0, .int .i64 a3_1]] (by rfl) rfl rfl sQ ?_
     with_reducible refine (spec_pgTurn.calls a0_0 a0_1 a1_0 a1_1 a3_0 a3_1 t121 _ A84.out).mono ?_
     rintro e w93 ⟨rfl, hb⟩
     refine ⟨_, rfl, ?_⟩
     have n0_ := aM (blk_below (g := gb111) (o := .cells #[.int .i64 a0_0, .int .i64 a0_1] 34 (0, 0)) (gQ BK111) hb)
     have n1_ := aM (blk_below (g := gb112) (o := .cells #[.int .i64 a1_0, .int .i64 a1_1] 34 (0, 0)) (gQ BK112) hb)
     have n2_ := aM (blk_below (g := gb113) (o := .cells #[.int .i64 a2_0, .int .i64 a2_1] 34 (0, 0)) (gQ BK113) hb)
     have n3_ := aM (blk_below (g := gb114) (o := .cells #[.int .i64 a3_0, .int .i64 a3_1] 34 (0, 0)) (gQ BK114) hb)
     have n4_ := aM (pT (by repeat (first | (with_reducible first | exact HB.out | apply pA | apply pN | apply pD | refine pS ?_ GE111.out | refine pS ?_ GE112.out | refine pS ?_ GE113.out | refine pS ?_ GE114.out) | exact HB.out)) hb)
     clear BK111
     clear BK112
     clear BK113
     clear BK114
     clear HB
     have BK111 := n0_
     have BK112 := n1_
     have BK113 := n2_
     have BK114 := n3_
     have HB := n4_
     clear n0_ n1_ n2_ n3_ n4_
     (try clear hb)
     (try clear hb2)
     (try clear hk)
     (try clear hi)
     refine hK.out _ _ ⟨(kC BK111.out 0).trans rfl, (kC BK111.out 1).trans rfl, (kC BK112.out 0).trans rfl, (kC BK112.out 1).trans rfl, (kC BK113.out 0).trans rfl, (kC BK113.out 1).trans rfl, (kC BK114.out 0).trans rfl, (kC BK114.out 1).trans rfl⟩ (fun hHeld => ?_)
     clear hK K
     refine norm_ (a' := ?_) ?_ ?_
     rotate_left
     ·show Act.put _ (some 39) _ = _
      simp only [Act.put, sI, sZ, sS, i64_w, i32_w]
      rfl
     refine one_ (i := 9) (N := some 40) #[true, true, true, true, true, true, true, true, true, true, false, false, false, false, false, false, false, false, false, false, false, false, false, false, false, false, false] rfl rfl (one_of HT_.out kR) (by decide) (fun K hK => ?_)
     refine goes_ Try.func118 kR rfl #[.int .i64 t121] (by rfl) rfl rfl sQ ?_
     with_reducible refine (spec_l1Sign.calls t121 t122 _ A85.out).mono ?_
     rintro e w' ⟨rfl, ⟨nd, rfl⟩⟩
     refine ⟨_, rfl, ?_⟩
     refine hK.out _ _ ⟨(kC BK111.out 0).trans rfl, (kC BK111.out 1).trans rfl, (kC BK112.out 0).trans rfl, (kC BK112.out 1).trans rfl, (kC BK113.out 0).trans rfl, (kC BK113.out 1).trans rfl, (kC BK114.out 0).trans rfl, (kC BK114.out 1).trans rfl⟩ (fun hHeld => ?_)
     clear hK K
     refine norm_ (a' := ?_) ?_ ?_
     rotate_left
     ·show Act.put _ (some 40) _ = _
      simp only [Act.put, sI, sZ, sS, i64_w, i32_w]
      rfl
     refine pure_ (i := 10) (N := some 41) (v := ?_) (a' := ?_) #[true, true, true, true, true, true, true, true, true, true, true, false, false, false, false, false, false, false, false, false, false, false, false, false, false, false, false] rfl rfl (any_of HT_.out kR) (fun _ _ _ h => h) (Or.inl ⟨by rfl, ?_⟩) ?_ ?_
     rotate_left
     ·intro w'
      go_simp
      with_reducible rfl
     rotate_left
     ·simp only [Act.put, sI, sZ, sS, i64_w, i32_w]
      rfl
     refine pure_ (i := 11) (N := some 42) (v := ?_) (a' := ?_) #[true, true, true, true, true, true, true, true, true, true, true, true, false, false, false, false, false, false, false, false, false, false, false, false, false, false, false] rfl rfl (any_of HT_.out kR) (fun _ _ _ h => h) (Or.inl ⟨by rfl, ?_⟩) ?_ ?_
     rotate_left
     ·intro w'
      go_simp
      with_reducible rfl
     rotate_left
     ·simp only [Act.put, sI, sZ, sS, i64_w, i32_w]
      rfl
     refine pure_ (i := 12) (N := some 43) (v := ?_) (a' := ?_) #[true, true, true, true, true, true, true, true, true, true, true, true, true, false, false, false, false, false, false, false, false, false, false, false, false, false, false] rfl rfl (any_of HT_.out kR) (fun _ _ _ h => h) (Or.inl ⟨by rfl, ?_⟩) ?_ ?_
     rotate_left
     ·intro w'
      go_simp
      with_reducible rfl
     rotate_left
     ·simp only [Act.put, sI, sZ, sS, i64_w, i32_w]
      rfl
     refine take_ (i := 13) (N := some 44) (v := ?_) (a' := ?_) #[true, true, true, true, true, true, true, true, true, true, true, true, true, true, false, false, false, false, false, false, false, false, false, false, false, false, false] rfl rfl (take_ofW HT_.out HW_.out kR) (fun _ _ _ h => h) (Or.inl ⟨by rfl, ?_⟩) hHeld ?_ ?_
     rotate_left
     ·rintro w' ⟨s0, s1, s2, s3, s4, s5, s6, s7⟩
      go_simp
      with_reducible rfl
     rotate_left
     ·simp only [Act.put, sI, sZ, sS, i64_w, i32_w]
      rfl
     refine take_ (i := 14) (N := some 45) (v := ?_) (a' := ?_) #[true, true, true, true, true, true, true, true, true, true, true, true, true, true, true, false, false, false, false, false, false, false, false, false, false, false, false] rfl rfl (take_ofW HT_.out HW_.out kR) (fun _ _ _ h => h) (Or.inl ⟨by rfl, ?_⟩) hHeld ?_ ?_
     rotate_left
     ·rintro w' ⟨s0, s1, s2, s3, s4, s5, s6, s7⟩
      go_simp
      with_reducible rfl
     rotate_left
     ·simp only [Act.put, sI, sZ, sS, i64_w, i32_w]
      rfl
     refine take_ (i := 15) (N := some 46) (v := ?_) (a' := ?_) #[true, true, true, true, true, true, true, true, true, true, true, true, true, true, true, true, false, false, false, false, false, false, false, false, false, false, false] rfl rfl (take_ofW HT_.out HW_.out kR) (fun _ _ _ h => h) (Or.inl ⟨by rfl, ?_⟩) hHeld ?_ ?_
     rotate_left
     ·rintro w' ⟨s0, s1, s2, s3, s4, s5, s6, s7⟩
      go_simp
      with_reducible rfl
     rotate_left
     ·simp only [Act.put, sI, sZ, sS, i64_w, i32_w]
      rfl
     refine take_ (i := 18) (N := some 49) (v := ?_) (a' := ?_) #[true, true, true, true, true, true, true, true, true, true, true, true, true, true, true, true, false, false, true, false, false, false, false, false, false, false, false] rfl rfl (take_ofW HT_.out HW_.out kR) (fun _ _ _ h => h) (Or.inl ⟨by rfl, ?_⟩) hHeld ?_ ?_
     rotate_left
     ·rintro w' ⟨s0, s1, s2, s3, s4, s5, s6, s7⟩
      go_simp
      with_reducible rfl
     rotate_left
     ·simp only [Act.put, sI, sZ, sS, i64_w, i32_w]
      rfl
     refine take_ (i := 19) (N := some 50) (v := ?_) (a' := ?_) #[true, true, true, true, true, true, true, true, true, true, true, true, true, true, true, true, false, false, true, true, false, false, false, false, false, false, false] rfl rfl (take_ofW HT_.out HW_.out kR) (fun _ _ _ h => h) (Or.inl ⟨by rfl, ?_⟩) hHeld ?_ ?_
     rotate_left
     ·rintro w' ⟨s0, s1, s2, s3, s4, s5, s6, s7⟩
      go_simp
      with_reducible rfl
     rotate_left
     ·simp only [Act.put, sI, sZ, sS, i64_w, i32_w]
      rfl
     refine take_ (i := 20) (N := some 51) (v := ?_) (a' := ?_) #[true, true, true, true, true, true, true, true, true, true, true, true, true, true, true, true, false, false, true, true, true, false, false, false, false, false, false] rfl rfl (take_ofW HT_.out HW_.out kR) (fun _ _ _ h => h) (Or.inl ⟨by rfl, ?_⟩) hHeld ?_ ?_
     rotate_left
     ·rintro w' ⟨s0, s1, s2, s3, s4, s5, s6, s7⟩
      go_simp
      with_reducible rfl
     rotate_left
     ·simp only [Act.put, sI, sZ, sS, i64_w, i32_w]
      rfl
     refine one_ (i := 16) (N := some 47) #[true, true, true, true, true, true, true, true, true, true, true, true, true, true, true, true, true, false, true, true, true, false, false, false, false, false, false] rfl rfl (one_of HT_.out kR) (by decide) (fun K hK => ?_)
     refine goes_ Try.func134 kR rfl #[.agg #[.int .i64 a2_0, .int .i64 a2_1], .agg #[.int .i64 a3_0, .int .i64 a3_1], .agg #[.int .i64 a0_0, .int .i64 a0_1]] (by rfl) rfl rfl sQ ?_
     with_reducible refine (spec_pgTurn.calls a2_0 a2_1 a3_0 a3_1 a0_0 a0_1 t123 _ A87.out).mono ?_
     rintro e w94 ⟨rfl, hb⟩
     refine ⟨_, rfl, ?_⟩
     have n0_ := aM (blk_below (g := gb111) (o := .cells #[.int .i64 a0_0, .int .i64 a0_1] 34 (0, 0)) (gQ BK111) hb)
     have n1_ := aM (blk_below (g := gb112) (o := .cells #[.int .i64 a1_0, .int .i64 a1_1] 34 (0, 0)) (gQ BK112) hb)
     have n2_ := aM (blk_below (g := gb113) (o := .cells #[.int .i64 a2_0, .int .i64 a2_1] 34 (0, 0)) (gQ BK113) hb)
     have n3_ := aM (blk_below (g := gb114) (o := .cells #[.int .i64 a3_0, .int .i64 a3_1] 34 (0, 0)) (gQ BK114) hb)
     have n4_ := aM (pT (by repeat (first | (with_reducible first | exact HB.out | apply pA | apply pN | apply pD | refine pS ?_ GE111.out | refine pS ?_ GE112.out | refine pS ?_ GE113.out | refine pS ?_ GE114.out) | exact HB.out)) hb)
     clear BK111
     clear BK112
     clear BK113
     clear BK114
     clear HB
     have BK111 := n0_
     have BK112 := n1_
     have BK113 := n2_
     have BK114 := n3_
     have HB := n4_
     clear n0_ n1_ n2_ n3_ n4_
     (try clear hb)
     (try clear hb2)
     (try clear hk)
     (try clear hi)
     refine hK.out _ _ ⟨(kC BK111.out 0).trans rfl, (kC BK111.out 1).trans rfl, (kC BK112.out 0).trans rfl, (kC BK112.out 1).trans rfl, (kC BK113.out 0).trans rfl, (kC BK113.out 1).trans rfl, (kC BK114.out 0).trans rfl, (kC BK114.out 1).trans rfl⟩ (fun hHeld => ?_)
     clear hK K
     refine norm_ (a' := ?_) ?_ ?_
     rotate_left
     ·show Act.put _ (some 47) _ = _
      simp only [Act.put, sI, sZ, sS, i64_w, i32_w]
      rfl
     refine one_ (i := 17) (N := some 48) #[true, true, true, true, true, true, true, true, true, true, true, true, true, true, true, true, true, true, true, true, true, false, false, false, false, false, false] rfl rfl (one_of HT_.out kR) (by decide) (fun K hK => ?_)
     refine goes_ Try.func118 kR rfl #[.int .i64 t123] (by rfl) rfl rfl sQ ?_
     with_reducible refine (spec_l1Sign.calls t123 t124 _ A88.out).mono ?_
     rintro e w' ⟨rfl, ⟨nd, rfl⟩⟩
     refine ⟨_, rfl, ?_⟩
     refine hK.out _ _ ⟨(kC BK111.out 0).trans rfl, (kC BK111.out 1).trans rfl, (kC BK112.out 0).trans rfl, (kC BK112.out 1).trans rfl, (kC BK113.out 0).trans rfl, (kC BK113.out 1).trans rfl, (kC BK114.out 0).trans rfl, (kC BK114.out 1).trans rfl⟩ (fun hHeld => ?_)
     clear hK K
     refine norm_ (a' := ?_) ?_ ?_
     rotate_left
     ·show Act.put _ (some 48) _ = _
      simp only [Act.put, sI, sZ, sS, i64_w, i32_w]
      rfl
     refine one_ (i := 21) (N := some 52) #[true, true, true, true, true, true, true, true, true, true, true, true, true, true, true, true, true, true, true, true, true, true, false, false, false, false, false] rfl rfl (one_of HT_.out kR) (by decide) (fun K hK => ?_)
     refine goes_ Try.func134 kR rfl #[.agg #[.int .i64 a2_0, .int .i64 a2_1], .agg #[.int .i64 a3_0, .int .i64 a3_1], .agg #[.int .i64 a1_0, .int .i64 a1_1]] (by rfl) rfl rfl sQ ?_
     with_reducible refine (spec_pgTurn.calls a2_0 a2_1 a3_0 a3_1 a1_0 a1_1 t125 _ A89.out).mono ?_
     rintro e w95 ⟨rfl, hb⟩
     refine ⟨_, rfl, ?_⟩
     have n0_ := aM (blk_below (g := gb111) (o := .cells #[.int .i64 a0_0, .int .i64 a0_1] 34 (0, 0)) (gQ BK111) hb)
     have n1_ := aM (blk_below (g := gb112) (o := .cells #[.int .i64 a1_0, .int .i64 a1_1] 34 (0, 0)) (gQ BK112) hb)
     have n2_ := aM (blk_below (g := gb113) (o := .cells #[.int .i64 a2_0, .int .i64 a2_1] 34 (0, 0)) (gQ BK113) hb)
     have n3_ := aM (blk_below (g := gb114) (o := .cells #[.int .i64 a3_0, .int .i64 a3_1] 34 (0, 0)) (gQ BK114) hb)
     have n4_ := aM (pT (by repeat (first | (with_reducible first | exact HB.out | apply pA | apply pN | apply pD | refine pS ?_ GE111.out | refine pS ?_ GE112.out | refine pS ?_ GE113.out | refine pS ?_ GE114.out) | exact HB.out)) hb)
     clear BK111
     clear BK112
     clear BK113
     clear BK114
     clear HB
     have BK111 := n0_
     have BK112 := n1_
     have BK113 := n2_
     have BK114 := n3_
     have HB := n4_
     clear n0_ n1_ n2_ n3_ n4_
     (try clear hb)
     (try clear hb2)
     (try clear hk)
     (try clear hi)
     refine hK.out _ _ ⟨(kC BK111.out 0).trans rfl, (kC BK111.out 1).trans rfl, (kC BK112.out 0).trans rfl, (kC BK112.out 1).trans rfl, (kC BK113.out 0).trans rfl, (kC BK113.out 1).trans rfl, (kC BK114.out 0).trans rfl, (kC BK114.out 1).trans rfl⟩ (fun hHeld => ?_)
     clear hK K
     refine norm_ (a' := ?_) ?_ ?_
     rotate_left
     ·show Act.put _ (some 52) _ = _
      simp only [Act.put, sI, sZ, sS, i64_w, i32_w]
      rfl
     refine one_ (i := 22) (N := some 53) #[true, true, true, true, true, true, true, true, true, true, true, true, true, true, true, true, true, true, true, true, true, true, true, false, false, false, false] rfl rfl (one_of HT_.out kR) (by decide) (fun K hK => ?_)
     refine goes_ Try.func118 kR rfl #[.int .i64 t125] (by rfl) rfl rfl sQ ?_
     with_reducible refine (spec_l1Sign.calls t125 t126 _ A90.out).mono ?_
     rintro e w' ⟨rfl, ⟨nd, rfl⟩⟩
     refine ⟨_, rfl, ?_⟩
     refine hK.out _ _ ⟨(kC BK111.out 0).trans rfl, (kC BK111.out 1).trans rfl, (kC BK112.out 0).trans rfl, (kC BK112.out 1).trans rfl, (kC BK113.out 0).trans rfl, (kC BK113.out 1).trans rfl, (kC BK114.out 0).trans rfl, (kC BK114.out 1).trans rfl⟩ (fun hHeld => ?_)
     clear hK K
     refine norm_ (a' := ?_) ?_ ?_
     rotate_left
     ·show Act.put _ (some 53) _ = _
      simp only [Act.put, sI, sZ, sS, i64_w, i32_w]
      rfl
     refine pure_ (i := 23) (N := some 54) (v := ?_) (a' := ?_) #[true, true, true, true, true, true, true, true, true, true, true, true, true, true, true, true, true, true, true, true, true, true, true, true, false, false, false] rfl rfl (any_of HT_.out kR) (fun _ _ _ h => h) (Or.inl ⟨by rfl, ?_⟩) ?_ ?_
     rotate_left
     ·intro w'
      go_simp
      with_reducible rfl
     rotate_left
     ·simp only [Act.put, sI, sZ, sS, i64_w, i32_w]
      rfl
     refine pure_ (i := 24) (N := some 55) (v := ?_) (a' := ?_) #[true, true, true, true, true, true, true, true, true, true, true, true, true, true, true, true, true, true, true, true, true, true, true, true, true, false, false] rfl rfl (any_of HT_.out kR) (fun _ _ _ h => h) (Or.inl ⟨by rfl, ?_⟩) ?_ ?_
     rotate_left
     ·intro w'
      go_simp
      with_reducible rfl
     rotate_left
     ·simp only [Act.put, sI, sZ, sS, i64_w, i32_w]
      rfl
     refine pure_ (i := 25) (N := some 56) (v := ?_) (a' := ?_) #[true, true, true, true, true, true, true, true, true, true, true, true, true, true, true, true, true, true, true, true, true, true, true, true, true, true, false] rfl rfl (any_of HT_.out kR) (fun _ _ _ h => h) (Or.inl ⟨by rfl, ?_⟩) ?_ ?_
     rotate_left
     ·intro w'
      go_simp
      with_reducible rfl
     rotate_left
     ·simp only [Act.put, sI, sZ, sS, i64_w, i32_w]
      rfl
     refine pure_ (i := 26) (N := some 8) (v := ?_) (a' := ?_) #[true, true, true, true, true, true, true, true, true, true, true, true, true, true, true, true, true, true, true, true, true, true, true, true, true, true, true] rfl rfl (any_of HT_.out kR) (fun _ _ _ h => h) (Or.inl ⟨by rfl, ?_⟩) ?_ ?_
     rotate_left
     ·intro w'
      go_simp
      with_reducible rfl
     rotate_left
     ·simp only [Act.put, sI, sZ, sS, i64_w, i32_w]
      rfl
     refine done_ (done_of HT_.out kR) ?_
     try go_wp2
     go_ret
     exact ⟨by first | rfl | (simp [errW_none, errW_some] <;> rfl) | (simp [*, errW_none, errW_some] <;> rfl), by repeat (first | (with_reducible first | exact HB.out | apply pA | apply pN | apply pD | refine pS ?_ GE111.out | refine pS ?_ GE112.out | refine pS ?_ GE113.out | refine pS ?_ GE114.out) | exact HB.out)⟩
    ·rw [if_neg c86] at H
     have c86b0 : decide ((wrap64 (t120 * t122)) < 0) = false := decide_eq_false c86
     clear c86
     obtain rfl := Option.some.inj H
     try go_wp2
     have n0_ := aM (kD BK111.out)
     have n1_ := aM (kD BK112.out)
     have n2_ := aM (kD BK113.out)
     have n3_ := aM (kD BK114.out)
     have n4_ := aM (pD HB.out)
     clear BK111
     clear BK112
     clear BK113
     clear BK114
     clear HB
     have BK111 := n0_
     have BK112 := n1_
     have BK113 := n2_
     have BK114 := n3_
     have HB := n4_
     clear n0_ n1_ n2_ n3_ n4_
     refine start_ (n := 27) (S := fun w' => w'.cell? ⟨gb111, 0, none⟩ = some (.int .i64 a0_0) ∧ w'.cell? ⟨gb111, 1, none⟩ = some (.int .i64 a0_1) ∧ w'.cell? ⟨gb112, 0, none⟩ = some (.int .i64 a1_0) ∧ w'.cell? ⟨gb112, 1, none⟩ = some (.int .i64 a1_1) ∧ w'.cell? ⟨gb113, 0, none⟩ = some (.int .i64 a2_0) ∧ w'.cell? ⟨gb113, 1, none⟩ = some (.int .i64 a2_1) ∧ w'.cell? ⟨gb114, 0, none⟩ = some (.int .i64 a3_0) ∧ w'.cell? ⟨gb114, 1, none⟩ = some (.int .i64 a3_1)) (ds := []) #[false, false, false, false, false, false, false, false, false, false, false, false, false, false, false, false, false, false, false, false, false, false, false, false, false, false, false] kR rfl rfl ⟨(kC BK111.out 0).trans rfl, (kC BK111.out 1).trans rfl, (kC BK112.out 0).trans rfl, (kC BK112.out 1).trans rfl, (kC BK113.out 0).trans rfl, (kC BK113.out 1).trans rfl, (kC BK114.out 0).trans rfl, (kC BK114.out 1).trans rfl⟩ (fun hHeld => ?_); refine with_tabW spec_pgMeet.tab3 spec_pgMeet.bits3 (fun HT_ HW_ => ?_)
     generalize wc.drew = w96 at BK111 BK112 BK113 BK114 HB hHeld ⊢
     refine take_ (i := 0) (N := some 31) (v := ?_) (a' := ?_) #[true, false, false, false, false, false, false, false, false, false, false, false, false, false, false, false, false, false, false, false, false, false, false, false, false, false, false] rfl rfl (take_ofW HT_.out HW_.out kR) (fun _ _ _ h => h) (Or.inl ⟨by rfl, ?_⟩) hHeld ?_ ?_
     rotate_left
     ·rintro w' ⟨s0, s1, s2, s3, s4, s5, s6, s7⟩
      go_simp
      with_reducible rfl
     rotate_left
     ·simp only [Act.put, sI, sZ, sS, i64_w, i32_w]
      rfl
     refine take_ (i := 1) (N := some 32) (v := ?_) (a' := ?_) #[true, true, false, false, false, false, false, false, false, false, false, false, false, false, false, false, false, false, false, false, false, false, false, false, false, false, false] rfl rfl (take_ofW HT_.out HW_.out kR) (fun _ _ _ h => h) (Or.inl ⟨by rfl, ?_⟩) hHeld ?_ ?_
     rotate_left
     ·rintro w' ⟨s0, s1, s2, s3, s4, s5, s6, s7⟩
      go_simp
      with_reducible rfl
     rotate_left
     ·simp only [Act.put, sI, sZ, sS, i64_w, i32_w]
      rfl
     refine take_ (i := 2) (N := some 33) (v := ?_) (a' := ?_) #[true, true, true, false, false, false, false, false, false, false, false, false, false, false, false, false, false, false, false, false, false, false, false, false, false, false, false] rfl rfl (take_ofW HT_.out HW_.out kR) (fun _ _ _ h => h) (Or.inl ⟨by rfl, ?_⟩) hHeld ?_ ?_
     rotate_left
     ·rintro w' ⟨s0, s1, s2, s3, s4, s5, s6, s7⟩
      go_simp
      with_reducible rfl
     rotate_left
     ·simp only [Act.put, sI, sZ, sS, i64_w, i32_w]
      rfl
     refine take_ (i := 5) (N := some 36) (v := ?_) (a' := ?_) #[true, true, true, false, false, true, false, false, false, false, false, false, false, false, false, false, false, false, false, false, false, false, false, false, false, false, false] rfl rfl (take_ofW HT_.out HW_.out kR) (fun _ _ _ h => h) (Or.inl ⟨by rfl, ?_⟩) hHeld ?_ ?_
     rotate_left
     ·rintro w' ⟨s0, s1, s2, s3, s4, s5, s6, s7⟩
      go_simp
      with_reducible rfl
     rotate_left
     ·simp only [Act.put, sI, sZ, sS, i64_w, i32_w]
      rfl
     refine take_ (i := 6) (N := some 37) (v := ?_) (a' := ?_) #[true, true, true, false, false, true, true, false, false, false, false, false, false, false, false, false, false, false, false, false, false, false, false, false, false, false, false] rfl rfl (take_ofW HT_.out HW_.out kR) (fun _ _ _ h => h) (Or.inl ⟨by rfl, ?_⟩) hHeld ?_ ?_
     rotate_left
     ·rintro w' ⟨s0, s1, s2, s3, s4, s5, s6, s7⟩
      go_simp
      with_reducible rfl
     rotate_left
     ·simp only [Act.put, sI, sZ, sS, i64_w, i32_w]
      rfl
     refine take_ (i := 7) (N := some 38) (v := ?_) (a' := ?_) #[true, true, true, false, false, true, true, true, false, false, false, false, false, false, false, false, false, false, false, false, false, false, false, false, false, false, false] rfl rfl (take_ofW HT_.out HW_.out kR) (fun _ _ _ h => h) (Or.inl ⟨by rfl, ?_⟩) hHeld ?_ ?_
     rotate_left
     ·rintro w' ⟨s0, s1, s2, s3, s4, s5, s6, s7⟩
      go_simp
      with_reducible rfl
     rotate_left
     ·simp only [Act.put, sI, sZ, sS, i64_w, i32_w]
      rfl
     refine one_ (i := 3) (N := some 34) #[true, true, true, true, false, true, true, true, false, false, false, false, false, false, false, false, false, false, false, false, false, false, false, false, false, false, false] rfl rfl (one_of HT_.out kR) (by decide) (fun K hK => ?_)
     refine goes_ Try.func134 kR rfl #[.agg #[.int .i64 a0_0, .int .i64 a0_1], .agg #[.int .i64 a1_0, .int .i64 a1_1], .agg #[.int .i64 a2_0, .int .i64 a2_1]] (by rfl) rfl rfl sQ ?_
     with_reducible refine (spec_pgTurn.calls a0_0 a0_1 a1_0 a1_1 a2_0 a2_1 t119 _ A82.out).mono ?_
     rintro e w97 ⟨rfl, hb⟩
     refine ⟨_, rfl, ?_⟩
     have n0_ := aM (blk_below (g := gb111) (o := .cells #[.int .i64 a0_0, .int .i64 a0_1] 34 (0, 0)) (gQ BK111) hb)
     have n1_ := aM (blk_below (g := gb112) (o := .cells #[.int .i64 a1_0, .int .i64 a1_1] 34 (0, 0)) (gQ BK112) hb)
     have n2_ := aM (blk_below (g := gb113) (o := .cells #[.int .i64 a2_0, .int .i64 a2_1] 34 (0, 0)) (gQ BK113) hb)
     have n3_ := aM (blk_below (g := gb114) (o := .cells #[.int .i64 a3_0, .int .i64 a3_1] 34 (0, 0)) (gQ BK114) hb)
     have n4_ := aM (pT (by repeat (first | (with_reducible first | exact HB.out | apply pA | apply pN | apply pD | refine pS ?_ GE111.out | refine pS ?_ GE112.out | refine pS ?_ GE113.out | refine pS ?_ GE114.out) | exact HB.out)) hb)
     clear BK111
     clear BK112
     clear BK113
     clear BK114
     clear HB
     have BK111 := n0_
     have BK112 := n1_
     have BK113 := n2_
     have BK114 := n3_
     have HB := n4_
     clear n0_ n1_ n2_ n3_ n4_
     (try clear hb)
     (try clear hb2)
     (try clear hk)
     (try clear hi)
     refine hK.out _ _ ⟨(kC BK111.out 0).trans rfl, (kC BK111.out 1).trans rfl, (kC BK112.out 0).trans rfl, (kC BK112.out 1).trans rfl, (kC BK113.out 0).trans rfl, (kC BK113.out 1).trans rfl, (kC BK114.out 0).trans rfl, (kC BK114.out 1).trans rfl⟩ (fun hHeld => ?_)
     clear hK K
     refine norm_ (a' := ?_) ?_ ?_
     rotate_left
     ·show Act.put _ (some 34) _ = _
      simp only [Act.put, sI, sZ, sS, i64_w, i32_w]
      rfl
     refine one_ (i := 4) (N := some 35) #[true, true, true, true, true, true, true, true, false, false, false, false, false, false, false, false, false, false, false, false, false, false, false, false, false, false, false] rfl rfl (one_of HT_.out kR) (by decide) (fun K hK => ?_)
     refine goes_ Try.func118 kR rfl #[.int .i64 t119] (by rfl) rfl rfl sQ ?_
     with_reducible refine (spec_l1Sign.calls t119 t120 _ A83.out).mono ?_
     rintro e w' ⟨rfl, ⟨nd, rfl⟩⟩
     refine ⟨_, rfl, ?_⟩
     refine hK.out _ _ ⟨(kC BK111.out 0).trans rfl, (kC BK111.out 1).trans rfl, (kC BK112.out 0).trans rfl, (kC BK112.out 1).trans rfl, (kC BK113.out 0).trans rfl, (kC BK113.out 1).trans rfl, (kC BK114.out 0).trans rfl, (kC BK114.out 1).trans rfl⟩ (fun hHeld => ?_)
     clear hK K
     refine norm_ (a' := ?_) ?_ ?_
     rotate_left
     ·show Act.put _ (some 35) _ = _
      simp only [Act.put, sI, sZ, sS, i64_w, i32_w]
      rfl
     refine one_ (i := 8) (N := some 39) #[true, true, true, true, true, true, true, true, true, false, false, false, false, false, false, false, false, false, false, false, false, false, false, false, false, false, false] rfl rfl (one_of HT_.out kR) (by decide) (fun K hK => ?_)
     refine goes_ Try.func134 kR rfl #[.agg #[.int .i64 a0_0, .int .i64 a0_1], .agg #[.int .i64 a1_0, .int .i64 a1_1], .agg #[.int .i64 a3_0, .int .i64 a3_1]] (by rfl) rfl rfl sQ ?_
     with_reducible refine (spec_pgTurn.calls a0_0 a0_1 a1_0 a1_1 a3_0 a3_1 t121 _ A84.out).mono ?_
     rintro e w98 ⟨rfl, hb⟩
     refine ⟨_, rfl, ?_⟩
     have n0_ := aM (blk_below (g := gb111) (o := .cells #[.int .i64 a0_0, .int .i64 a0_1] 34 (0, 0)) (gQ BK111) hb)
     have n1_ := aM (blk_below (g := gb112) (o := .cells #[.int .i64 a1_0, .int .i64 a1_1] 34 (0, 0)) (gQ BK112) hb)
     have n2_ := aM (blk_below (g := gb113) (o := .cells #[.int .i64 a2_0, .int .i64 a2_1] 34 (0, 0)) (gQ BK113) hb)
     have n3_ := aM (blk_below (g := gb114) (o := .cells #[.int .i64 a3_0, .int .i64 a3_1] 34 (0, 0)) (gQ BK114) hb)
     have n4_ := aM (pT (by repeat (first | (with_reducible first | exact HB.out | apply pA | apply pN | apply pD | refine pS ?_ GE111.out | refine pS ?_ GE112.out | refine pS ?_ GE113.out | refine pS ?_ GE114.out) | exact HB.out)) hb)
     clear BK111
     clear BK112
     clear BK113
     clear BK114
     clear HB
     have BK111 := n0_
     have BK112 := n1_
     have BK113 := n2_
     have BK114 := n3_
     have HB := n4_
     clear n0_ n1_ n2_ n3_ n4_
     (try clear hb)
     (try clear hb2)
     (try clear hk)
     (try clear hi)
     refine hK.out _ _ ⟨(kC BK111.out 0).trans rfl, (kC BK111.out 1).trans rfl, (kC BK112.out 0).trans rfl, (kC BK112.out 1).trans rfl, (kC BK113.out 0).trans rfl, (kC BK113.out 1).trans rfl, (kC BK114.out 0).trans rfl, (kC BK114.out 1).trans rfl⟩ (fun hHeld => ?_)
     clear hK K
     refine norm_ (a' := ?_) ?_ ?_
     rotate_left
     ·show Act.put _ (some 39) _ = _
      simp only [Act.put, sI, sZ, sS, i64_w, i32_w]
      rfl
     refine one_ (i := 9) (N := some 40) #[true, true, true, true, true, true, true, true, true, true, false, false, false, false, false, false, false, false, false, false, false, false, false, false, false, false, false] rfl rfl (one_of HT_.out kR) (by decide) (fun K hK => ?_)
     refine goes_ Try.func118 kR rfl #[.int .i64 t121] (by rfl) rfl rfl sQ ?_
     with_reducible refine (spec_l1Sign.calls t121 t122 _ A85.out).mono ?_
     rintro e w' ⟨rfl, ⟨nd, rfl⟩⟩
     refine ⟨_, rfl, ?_⟩
     refine hK.out _ _ ⟨(kC BK111.out 0).trans rfl, (kC BK111.out 1).trans rfl, (kC BK112.out 0).trans rfl, (kC BK112.out 1).trans rfl, (kC BK113.out 0).trans rfl, (kC BK113.out 1).trans rfl, (kC BK114.out 0).trans rfl, (kC BK114.out 1).trans rfl⟩ (fun hHeld => ?_)
     clear hK K
     refine norm_ (a' := ?_) ?_ ?_
     rotate_left
     ·show Act.put _ (some 40) _ = _
      simp only [Act.put, sI, sZ, sS, i64_w, i32_w]
      rfl
     refine pure_ (i := 10) (N := some 41) (v := ?_) (a' := ?_) #[true, true, true, true, true, true, true, true, true, true, true, false, false, false, false, false, false, false, false, false, false, false, false, false, false, false, false] rfl rfl (any_of HT_.out kR) (fun _ _ _ h => h) (Or.inl ⟨by rfl, ?_⟩) ?_ ?_
     rotate_left
     ·intro w'
      go_simp
      with_reducible rfl
     rotate_left
     ·simp only [Act.put, sI, sZ, sS, i64_w, i32_w]
      rfl
     refine pure_ (i := 11) (N := some 42) (v := ?_) (a' := ?_) #[true, true, true, true, true, true, true, true, true, true, true, true, false, false, false, false, false, false, false, false, false, false, false, false, false, false, false] rfl rfl (any_of HT_.out kR) (fun _ _ _ h => h) (Or.inl ⟨by rfl, ?_⟩) ?_ ?_
     rotate_left
     ·intro w'
      go_simp
      with_reducible rfl
     rotate_left
     ·simp only [Act.put, sI, sZ, sS, i64_w, i32_w]
      rfl
     refine pure_ (i := 12) (N := some 43) (v := ?_) (a' := ?_) #[true, true, true, true, true, true, true, true, true, true, true, true, true, false, false, false, false, false, false, false, false, false, false, false, false, false, false] rfl rfl (any_of HT_.out kR) (fun _ _ _ h => h) (Or.inl ⟨by rfl, ?_⟩) ?_ ?_
     rotate_left
     ·intro w'
      go_simp
      with_reducible rfl
     rotate_left
     ·simp only [Act.put, sI, sZ, sS, i64_w, i32_w]
      rfl
     refine pure_ (i := 13) (N := some 44) (v := undef) (a' := ?_) #[true, true, true, true, true, true, true, true, true, true, true, true, true, true, false, false, false, false, false, false, false, false, false, false, false, false, false] rfl rfl (any_of HT_.out kR) (fun _ _ _ h => h) (Or.inr ⟨by rfl, rfl⟩) ?_ ?_
     rotate_left
     ·simp only [Act.put, sI, sZ, sS, i64_w, i32_w]
      rfl
     refine pure_ (i := 14) (N := some 45) (v := undef) (a' := ?_) #[true, true, true, true, true, true, true, true, true, true, true, true, true, true, true, false, false, false, false, false, false, false, false, false, false, false, false] rfl rfl (any_of HT_.out kR) (fun _ _ _ h => h) (Or.inr ⟨by rfl, rfl⟩) ?_ ?_
     rotate_left
     ·simp only [Act.put, sI, sZ, sS, i64_w, i32_w]
      rfl
     refine pure_ (i := 15) (N := some 46) (v := undef) (a' := ?_) #[true, true, true, true, true, true, true, true, true, true, true, true, true, true, true, true, false, false, false, false, false, false, false, false, false, false, false] rfl rfl (any_of HT_.out kR) (fun _ _ _ h => h) (Or.inr ⟨by rfl, rfl⟩) ?_ ?_
     rotate_left
     ·simp only [Act.put, sI, sZ, sS, i64_w, i32_w]
      rfl
     refine pure_ (i := 16) (N := some 47) (v := undef) (a' := ?_) #[true, true, true, true, true, true, true, true, true, true, true, true, true, true, true, true, true, false, false, false, false, false, false, false, false, false, false] rfl rfl (any_of HT_.out kR) (fun _ _ _ h => h) (Or.inr ⟨by rfl, rfl⟩) ?_ ?_
     rotate_left
     ·simp only [Act.put, sI, sZ, sS, i64_w, i32_w]
      rfl
     refine pure_ (i := 17) (N := some 48) (v := undef) (a' := ?_) #[true, true, true, true, true, true, true, true, true, true, true, true, true, true, true, true, true, true, false, false, false, false, false, false, false, false, false] rfl rfl (any_of HT_.out kR) (fun _ _ _ h => h) (Or.inr ⟨by rfl, rfl⟩) ?_ ?_
     rotate_left
     ·simp only [Act.put, sI, sZ, sS, i64_w, i32_w]
      rfl
     refine pure_ (i := 18) (N := some 49) (v := undef) (a' := ?_) #[true, true, true, true, true, true, true, true, true, true, true, true, true, true, true, true, true, true, true, false, false, false, false, false, false, false, false] rfl rfl (any_of HT_.out kR) (fun _ _ _ h => h) (Or.inr ⟨by rfl, rfl⟩) ?_ ?_
     rotate_left
     ·simp only [Act.put, sI, sZ, sS, i64_w, i32_w]
      rfl
     refine pure_ (i := 19) (N := some 50) (v := undef) (a' := ?_) #[true, true, true, true, true, true, true, true, true, true, true, true, true, true, true, true, true, true, true, true, false, false, false, false, false, false, false] rfl rfl (any_of HT_.out kR) (fun _ _ _ h => h) (Or.inr ⟨by rfl, rfl⟩) ?_ ?_
     rotate_left
     ·simp only [Act.put, sI, sZ, sS, i64_w, i32_w]
      rfl
     refine pure_ (i := 20) (N := some 51) (v := undef) (a' := ?_) #[true, true, true, true, true, true, true, true, true, true, true, true, true, true, true, true, true, true, true, true, true, false, false, false, false, false, false] rfl rfl (any_of HT_.out kR) (fun _ _ _ h => h) (Or.inr ⟨by rfl, rfl⟩) ?_ ?_
     rotate_left
     ·simp only [Act.put, sI, sZ, sS, i64_w, i32_w]
      rfl
     refine pure_ (i := 21) (N := some 52) (v := undef) (a' := ?_) #[true, true, true, true, true, true, true, true, true, true, true, true, true, true, true, true, true, true, true, true, true, true, false, false, false, false, false] rfl rfl (any_of HT_.out kR) (fun _ _ _ h => h) (Or.inr ⟨by rfl, rfl⟩) ?_ ?_
     rotate_left
     ·simp only [Act.put, sI, sZ, sS, i64_w, i32_w]
      rfl
     refine pure_ (i := 22) (N := some 53) (v := undef) (a' := ?_) #[true, true, true, true, true, true, true, true, true, true, true, true, true, true, true, true, true, true, true, true, true, true, true, false, false, false, false] rfl rfl (any_of HT_.out kR) (fun _ _ _ h => h) (Or.inr ⟨by rfl, rfl⟩) ?_ ?_
     rotate_left
     ·simp only [Act.put, sI, sZ, sS, i64_w, i32_w]
      rfl
     refine pure_ (i := 23) (N := some 54) (v := undef) (a' := ?_) #[true, true, true, true, true, true, true, true, true, true, true, true, true, true, true, true, true, true, true, true, true, true, true, true, false, false, false] rfl rfl (any_of HT_.out kR) (fun _ _ _ h => h) (Or.inr ⟨by rfl, rfl⟩) ?_ ?_
     rotate_left
     ·simp only [Act.put, sI, sZ, sS, i64_w, i32_w]
      rfl
     refine pure_ (i := 24) (N := some 55) (v := undef) (a' := ?_) #[true, true, true, true, true, true, true, true, true, true, true, true, true, true, true, true, true, true, true, true, true, true, true, true, true, false, false] rfl rfl (any_of HT_.out kR) (fun _ _ _ h => h) (Or.inr ⟨by rfl, rfl⟩) ?_ ?_
     rotate_left
     ·simp only [Act.put, sI, sZ, sS, i64_w, i32_w]
      rfl
     refine pure_ (i := 25) (N := some 56) (v := ?_) (a' := ?_) #[true, true, true, true, true, true, true, true, true, true, true, true, true, true, true, true, true, true, true, true, true, true, true, true, true, true, false] rfl rfl (any_of HT_.out kR) (fun _ _ _ h => h) (Or.inl ⟨by rfl, ?_⟩) ?_ ?_
     rotate_left
     ·intro w'
      go_simp
      with_reducible rfl
     rotate_left
     ·simp only [Act.put, sI, sZ, sS, i64_w, i32_w]
      rfl
     refine pure_ (i := 26) (N := some 8) (v := ?_) (a' := ?_) #[true, true, true, true, true, true, true, true, true, true, true, true, true, true, true, true, true, true, true, true, true, true, true, true, true, true, true] rfl rfl (any_of HT_.out kR) (fun _ _ _ h => h) (Or.inl ⟨by rfl, ?_⟩) ?_ ?_
     rotate_left
     ·intro w'
      go_simp
      with_reducible rfl
     rotate_left
     ·simp only [Act.put, sI, sZ, sS, i64_w, i32_w]
      rfl
     refine done_ (done_of HT_.out kR) ?_
     try go_wp2
     go_ret
     exact ⟨by first | rfl | (simp [errW_none, errW_some] <;> rfl) | (simp [*, errW_none, errW_some] <;> rfl), by repeat (first | (with_reducible first | exact HB.out | apply pA | apply pN | apply pD | refine pS ?_ GE111.out | refine pS ?_ GE112.out | refine pS ?_ GE113.out | refine pS ?_ GE114.out) | exact HB.out)⟩

end Go.Proofs.Ytiacfkilmknldaa.X
