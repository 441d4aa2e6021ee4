-- thin
-- short
import Derived.Test.YtnlkglbpihgcmaaXA
import Derived.Test.YtnlkglbpihgcmaaX0
import Derived.Test.YtnlkglbpihgcmaaX5
namespace Go.Proofs.Ytnlkglbpihgcmaa.X
open Go.RowKit Go.Proofs.Ytnlkglbpihgcmaa.XW Go.Proofs.YtnlkglbpihgcmaaW.PrintWords Go.Proofs.YtnlkglbpihgcmaaW.PrintLast Go.Proofs.YtnlkglbpihgcmaaW.PrintMore
attribute [local go_sem] max2_int min2_int max_two min_two max_three min_three max_four min_four   -- for this text's walks alone
set_option linter.unusedVariables false
set_option linter.unusedSimpArgs false

def spec_pgMeet.j0 : Nat → Bool → Int → Int → Int → Int → Int → Int → Int → Int → Option (Bool)
 | 0, _, _, _, _, _, _, _, _, _ => none
 | k + 1, x30, x178000, x178001, x179000, x179001, x180000, x180001, x181000, x181001 => if x30 = true then (some true) else ((spec_pgTurn.f x178000 x178001 x179000 x179001 x180000 x180001).bind fun t185 => ((spec_l1Sign.f t185).bind fun t186 => ((spec_pgTurn.f x178000 x178001 x179000 x179001 x181000 x181001).bind fun t187 => ((spec_l1Sign.f t187).bind fun t188 => (if (wrap64 (t186 * t188)) < 0 then ((spec_pgTurn.f x180000 x180001 x181000 x181001 x178000 x178001).bind fun t189 => ((spec_l1Sign.f t189).bind fun t190 => ((spec_pgTurn.f x180000 x180001 x181000 x181001 x179000 x179001).bind fun t191 => ((spec_l1Sign.f t191).bind fun t192 => (some (decide ((wrap64 (t190 * t192)) < 0))))))) else (some false))))))
def spec_pgMeet.f (k : Nat) (a0_0 : Int) (a0_1 : Int) (a1_0 : Int) (a1_1 : Int) (a2_0 : Int) (a2_1 : Int) (a3_0 : Int) (a3_1 : Int) : Option (Bool) := (spec_pgOn.f a0_0 a0_1 a1_0 a1_1 a2_0 a2_1).bind fun t181 => (if t181 = true then (spec_pgMeet.j0 k true a0_0 a0_1 a1_0 a1_1 a2_0 a2_1 a3_0 a3_1) else ((spec_pgOn.f a0_0 a0_1 a1_0 a1_1 a3_0 a3_1).bind fun t182 => (if t182 = true then (spec_pgMeet.j0 k true a0_0 a0_1 a1_0 a1_1 a2_0 a2_1 a3_0 a3_1) else ((spec_pgOn.f a2_0 a2_1 a3_0 a3_1 a0_0 a0_1).bind fun t183 => (if t183 = true then (spec_pgMeet.j0 k true a0_0 a0_1 a1_0 a1_1 a2_0 a2_1 a3_0 a3_1) else ((spec_pgOn.f a2_0 a2_1 a3_0 a3_1 a1_0 a1_1).bind fun t184 => (spec_pgMeet.j0 k t184 a0_0 a0_1 a1_0 a1_1 a2_0 a2_1 a3_0 a3_1)))))))
theorem spec_pgMeet.mono_l : ∀ k, (∀ y0 y1 y2 y3 y4 y5 y6 y7 y8, LeO (spec_pgMeet.j0 k y0 y1 y2 y3 y4 y5 y6 y7 y8) (spec_pgMeet.j0 (k + 1) y0 y1 y2 y3 y4 y5 y6 y7 y8))
 | 0 => fun _ _ _ _ _ _ _ _ _ r h => by simp [spec_pgMeet.j0] at h
 | k + 1 => by
  have ih0 := spec_pgMeet.mono_l k
  ·intro y0 y1 y2 y3 y4 y5 y6 y7 y8
   unfold spec_pgMeet.j0
   repeat' first
   | (with_reducible exact ih0 _ _ _ _ _ _ _ _ _)
   | (with_reducible exact LeO.refl _)
   | (with_reducible exact LeO.none _)
   | (with_reducible refine LeO.ite ?_ ?_)
   | (with_reducible refine LeO.bind ?_ (fun _ => ?_))
   | exact ih0 _ _ _ _ _ _ _ _ _
   | exact LeO.none _
   | refine LeO.ite ?_ ?_
   | refine LeO.bind ?_ (fun _ => ?_)
theorem spec_pgMeet.mono : ∀ a0 a1 a2 a3 a4 a5 a6 a7 k, LeO (spec_pgMeet.f k a0 a1 a2 a3 a4 a5 a6 a7) (spec_pgMeet.f (k + 1) a0 a1 a2 a3 a4 a5 a6 a7) := by
 intro a0 a1 a2 a3 a4 a5 a6 a7 k
 have ih0 := spec_pgMeet.mono_l k
 unfold spec_pgMeet.f
 repeat' first
   | (with_reducible exact ih0 _ _ _ _ _ _ _ _ _)
   | (with_reducible exact LeO.refl _)
   | (with_reducible exact LeO.none _)
   | (with_reducible refine LeO.ite ?_ ?_)
   | (with_reducible refine LeO.bind ?_ (fun _ => ?_))
   | exact ih0 _ _ _ _ _ _ _ _ _
   | exact LeO.none _
   | refine LeO.ite ?_ ?_
   | refine LeO.bind ?_ (fun _ => ?_)
def spec_pgMeet.T3 : Bool × List (List Nat × List Nat) := (true, [([], []), ([], []), ([], []), ([0, 1, 2], [0, 1, 2]), ([3, 3], [3]), ([], []), ([], []), ([], []), ([5, 6, 7, 4], [5, 6, 7]), ([8, 8], [8]), ([4, 9], [4, 9]), ([10], [10]), ([11, 9], [11]), ([12], [12]), ([12], [12]), ([12], [12]), ([13, 14, 15, 12, 12], [12, 13, 14, 15]), ([16, 16, 12], [12, 16]), ([12], [12]), ([12], [12]), ([12], [12]), ([18, 19, 20, 17, 12], [12, 18, 19, 20]), ([21, 21, 12], [12, 21]), ([17, 22, 12], [12, 17, 22]), ([23, 12], [12, 23]), ([12, 24], [12, 24]), ([25, 22, 0, 1, 2, 3, 4, 5, 6, 7, 8, 9, 10, 11, 12, 13, 14, 15, 16, 17, 18, 19, 20, 21, 22, 23, 24, 25], [25])])
def spec_pgMeet.B3 : List Nat := [0, 0, 0, 7, 15, 0, 0, 0, 255, 511, 1023, 2047, 4095, 8191, 8191, 8191, 65535, 131071, 8191, 8191, 8191, 2097151, 4194303, 8388607, 16777215, 33554431, 67108863]
theorem spec_pgMeet.tab3 : rtab .any (opsOf Try.f93 3) = spec_pgMeet.T3 := by kernel_rfl
theorem spec_pgMeet.bits3 : waitsOk spec_pgMeet.T3.2 spec_pgMeet.B3 = true := by kernel_rfl
set_option maxHeartbeats 8000000 in
set_option maxRecDepth 100000 in
theorem spec_pgMeet.calls (k : Nat) (a0_0 : Int) (a0_1 : Int) (a1_0 : Int) (a1_1 : Int) (a2_0 : Int) (a2_1 : Int) (a3_0 : Int) (a3_1 : Int) (r : Bool) (w : World) (h : spec_pgMeet.f k a0_0 a0_1 a1_0 a1_1 a2_0 a2_1 a3_0 a3_1 = some r) :
  Calls Try.prog 93 #[.agg #[.int .i64 a0_0, .int .i64 a0_1], .agg #[.int .i64 a1_0, .int .i64 a1_1], .agg #[.int .i64 a2_0, .int .i64 a2_1], .agg #[.int .i64 a3_0, .int .i64 a3_1]] w fun e w' => e = .returned (.bool r) ∧ Below w.heap.size w w' := by
 have hu62 := Try.underlying62
 have HB := aM (Below.refl w.heap.size w)
 have H : ((spec_pgOn.f a0_0 a0_1 a1_0 a1_1 a2_0 a2_1).bind fun t181 => (if t181 = true then (spec_pgMeet.j0 k true a0_0 a0_1 a1_0 a1_1 a2_0 a2_1 a3_0 a3_1) else ((spec_pgOn.f a0_0 a0_1 a1_0 a1_1 a3_0 a3_1).bind fun t182 => (if t182 = true then (spec_pgMeet.j0 k true a0_0 a0_1 a1_0 a1_1 a2_0 a2_1 a3_0 a3_1) else ((spec_pgOn.f a2_0 a2_1 a3_0 a3_1 a0_0 a0_1).bind fun t183 => (if t183 = true then (spec_pgMeet.j0 k true a0_0 a0_1 a1_0 a1_1 a2_0 a2_1 a3_0 a3_1) else ((spec_pgOn.f a2_0 a2_1 a3_0 a3_1 a1_0 a1_1).bind fun t184 => (spec_pgMeet.j0 k t184 a0_0 a0_1 a1_0 a1_1 a2_0 a2_1 a3_0 a3_1)))))))) = some r := h
 clear h
 have HC5 := aM H
 clear H
 go_enter Try.func93, Try.ntmps93
 go_upto_region 1 with (first | ((with_reducible refine gate_dst (N := 4) rfl ?_); refine box_event ?hg (N := 4) ?hd (cs := #[.int .i64 a0_0, .int .i64 a0_1]) (t := 62) ?hr ?_; (case hd => rfl); (case hg => rfl); (case hr => first | (go_simp; done) | (go_simp; rfl)); intro gb177 hg w6 hbox hb; have n0_ := aM (pT (by repeat (first | (with_reducible first | exact HB.out | apply pA | apply pN | apply pD) | exact HB.out)) hb); have n1_ := aM (hbox); have n2_ := aM ((by rw [hg]; exact (pZ (by repeat (first | (with_reducible first | exact HB.out | apply pA | apply pN | apply pD) | exact HB.out))) : w.heap.size ≤ gb177)); have n3_ := aM ((by rw [hg]; exact (pZ (by repeat (first | (with_reducible first | exact HB.out | apply pA | apply pN | apply pD) | exact HB.out))) : w.heap.size ≤ gb177)); clear HB; have HB := n0_; have BK177 := n1_; have GW177 := n2_; have GE177 := n3_; clear n0_ n1_ n2_ n3_; clear hb hbox hg) | ((with_reducible refine gate_dst (N := 5) rfl ?_); refine box_event ?hg (N := 5) ?hd (cs := #[.int .i64 a1_0, .int .i64 a1_1]) (t := 62) ?hr ?_; (case hd => rfl); (case hg => rfl); (case hr => first | (go_simp; done) | (go_simp; rfl)); intro gb178 hg w7 hbox hb; have n0_ := aM (blk_below (g := gb177) (o := .cells #[.int .i64 a0_0, .int .i64 a0_1] 62 (0, 0)) (by (with_reducible repeat (first | refine kN ?_ _ | refine kD ?_ | refine kA ?_ _)); exact BK177.out) hb); have n1_ := aM (pT (by repeat (first | (with_reducible first | exact HB.out | apply pA | apply pN | apply pD | refine pS ?_ GE177.out) | exact HB.out)) hb); have n2_ := aM (hbox); have n3_ := aM ((by rw [hg]; exact (pZ (by repeat (first | (with_reducible first | exact HB.out | apply pA | apply pN | apply pD | refine pS ?_ GE177.out) | exact HB.out))) : w.heap.size ≤ gb178)); have n4_ := aM ((by rw [hg]; exact (pZ (by repeat (first | (with_reducible first | exact HB.out | apply pA | apply pN | apply pD | refine pS ?_ GE177.out) | exact HB.out))) : w.heap.size ≤ gb178)); have n5_ := aM ((by rw [hg]; exact nN (blk_lt (g := gb177) (o := .cells #[.int .i64 a0_0, .int .i64 a0_1] 62 (0, 0)) (by (with_reducible repeat (first | refine kN ?_ _ | refine kD ?_ | refine kA ?_ _)); exact BK177.out)) : gb177 ≠ gb178)); have n6_ := aM ((by rw [hg]; exact Nat.ne_of_gt (blk_lt (g := gb177) (o := .cells #[.int .i64 a0_0, .int .i64 a0_1] 62 (0, 0)) (by (with_reducible repeat (first | refine kN ?_ _ | refine kD ?_ | refine kA ?_ _)); exact BK177.out)) : gb178 ≠ gb177)); clear BK177; clear HB; have BK177 := n0_; have HB := n1_; have BK178 := n2_; have GW178 := n3_; have GE178 := n4_; have NB177_178 := n5_; have NB178_177 := n6_; clear n0_ n1_ n2_ n3_ n4_ n5_ n6_; clear hb hbox hg) | ((with_reducible refine gate_dst (N := 6) rfl ?_); refine box_event ?hg (N := 6) ?hd (cs := #[.int .i64 a2_0, .int .i64 a2_1]) (t := 62) ?hr ?_; (case hd => rfl); (case hg => rfl); (case hr => first | (go_simp; done) | (go_simp; rfl)); intro gb179 hg w8 hbox hb; have n0_ := aM (blk_below (g := gb177) (o := .cells #[.int .i64 a0_0, .int .i64 a0_1] 62 (0, 0)) (by (with_reducible repeat (first | refine kN ?_ _ | refine kD ?_ | refine kA ?_ _)); exact BK177.out) hb); have n1_ := aM (blk_below (g := gb178) (o := .cells #[.int .i64 a1_0, .int .i64 a1_1] 62 (0, 0)) (by (with_reducible repeat (first | refine kN ?_ _ | refine kD ?_ | refine kA ?_ _)); exact BK178.out) hb); have n2_ := aM (pT (by repeat (first | (with_reducible first | exact HB.out | apply pA | apply pN | apply pD | refine pS ?_ GE177.out | refine pS ?_ GE178.out) | exact HB.out)) hb); have n3_ := aM (hbox); have n4_ := aM ((by rw [hg]; exact (pZ (by repeat (first | (with_reducible first | exact HB.out | apply pA | apply pN | apply pD | refine pS ?_ GE177.out | refine pS ?_ GE178.out) | exact HB.out))) : w.heap.size ≤ gb179)); have n5_ := aM ((by rw [hg]; exact (pZ (by repeat (first | (with_reducible first | exact HB.out | apply pA | apply pN | apply pD | refine pS ?_ GE177.out | refine pS ?_ GE178.out) | exact HB.out))) : w.heap.size ≤ gb179)); have n6_ := aM ((by rw [hg]; exact nN (blk_lt (g := gb177) (o := .cells #[.int .i64 a0_0, .int .i64 a0_1] 62 (0, 0)) (by (with_reducible repeat (first | refine kN ?_ _ | refine kD ?_ | refine kA ?_ _)); exact BK177.out)) : gb177 ≠ gb179)); have n7_ := aM ((by rw [hg]; exact Nat.ne_of_gt (blk_lt (g := gb177) (o := .cells #[.int .i64 a0_0, .int .i64 a0_1] 62 (0, 0)) (by (with_reducible repeat (first | refine kN ?_ _ | refine kD ?_ | refine kA ?_ _)); exact BK177.out)) : gb179 ≠ gb177)); have n8_ := aM ((by rw [hg]; exact nN (blk_lt (g := gb178) (o := .cells #[.int .i64 a1_0, .int .i64 a1_1] 62 (0, 0)) (by (with_reducible repeat (first | refine kN ?_ _ | refine kD ?_ | refine kA ?_ _)); exact BK178.out)) : gb178 ≠ gb179)); have n9_ := aM ((by rw [hg]; exact Nat.ne_of_gt (blk_lt (g := gb178) (o := .cells #[.int .i64 a1_0, .int .i64 a1_1] 62 (0, 0)) (by (with_reducible repeat (first | refine kN ?_ _ | refine kD ?_ | refine kA ?_ _)); exact BK178.out)) : gb179 ≠ gb178)); clear BK177; clear BK178; clear HB; have BK177 := n0_; have BK178 := n1_; have HB := n2_; have BK179 := n3_; have GW179 := n4_; have GE179 := n5_; have NB177_179 := n6_; have NB179_177 := n7_; have NB178_179 := n8_; have NB179_178 := n9_; clear n0_ n1_ n2_ n3_ n4_ n5_ n6_ n7_ n8_ n9_; clear hb hbox hg) | ((with_reducible refine gate_dst (N := 7) rfl ?_); refine box_event ?hg (N := 7) ?hd (cs := #[.int .i64 a3_0, .int .i64 a3_1]) (t := 62) ?hr ?_; (case hd => rfl); (case hg => rfl); (case hr => first | (go_simp; done) | (go_simp; rfl)); intro gb180 hg w9 hbox hb; have n0_ := aM (blk_below (g := gb177) (o := .cells #[.int .i64 a0_0, .int .i64 a0_1] 62 (0, 0)) (by (with_reducible repeat (first | refine kN ?_ _ | refine kD ?_ | refine kA ?_ _)); exact BK177.out) hb); have n1_ := aM (blk_below (g := gb178) (o := .cells #[.int .i64 a1_0, .int .i64 a1_1] 62 (0, 0)) (by (with_reducible repeat (first | refine kN ?_ _ | refine kD ?_ | refine kA ?_ _)); exact BK178.out) hb); have n2_ := aM (blk_below (g := gb179) (o := .cells #[.int .i64 a2_0, .int .i64 a2_1] 62 (0, 0)) (by (with_reducible repeat (first | refine kN ?_ _ | refine kD ?_ | refine kA ?_ _)); exact BK179.out) hb); have n3_ := aM (pT (by repeat (first | (with_reducible first | exact HB.out | apply pA | apply pN | apply pD | refine pS ?_ GE177.out | refine pS ?_ GE178.out | refine pS ?_ GE179.out) | exact HB.out)) hb); have n4_ := aM (hbox); have n5_ := aM ((by rw [hg]; exact (pZ (by repeat (first | (with_reducible first | exact HB.out | apply pA | apply pN | apply pD | refine pS ?_ GE177.out | refine pS ?_ GE178.out | refine pS ?_ GE179.out) | exact HB.out))) : w.heap.size ≤ gb180)); have n6_ := aM ((by rw [hg]; exact (pZ (by repeat (first | (with_reducible first | exact HB.out | apply pA | apply pN | apply pD | refine pS ?_ GE177.out | refine pS ?_ GE178.out | refine pS ?_ GE179.out) | exact HB.out))) : w.heap.size ≤ gb180)); have n7_ := aM ((by rw [hg]; exact nN (blk_lt (g := gb177) (o := .cells #[.int .i64 a0_0, .int .i64 a0_1] 62 (0, 0)) (by (with_reducible repeat (first | refine kN ?_ _ | refine kD ?_ | refine kA ?_ _)); exact BK177.out)) : gb177 ≠ gb180)); have n8_ := aM ((by rw [hg]; exact Nat.ne_of_gt (blk_lt (g := gb177) (o := .cells #[.int .i64 a0_0, .int .i64 a0_1] 62 (0, 0)) (by (with_reducible repeat (first | refine kN ?_ _ | refine kD ?_ | refine kA ?_ _)); exact BK177.out)) : gb180 ≠ gb177)); have n9_ := aM ((by rw [hg]; exact nN (blk_lt (g := gb178) (o := .cells #[.int .i64 a1_0, .int .i64 a1_1] 62 (0, 0)) (by (with_reducible repeat (first | refine kN ?_ _ | refine kD ?_ | refine kA ?_ _)); exact BK178.out)) : gb178 ≠ gb180)); have n10_ := aM ((by rw [hg]; exact Nat.ne_of_gt (blk_lt (g := gb178) (o := .cells #[.int .i64 a1_0, .int .i64 a1_1] 62 (0, 0)) (by (with_reducible repeat (first | refine kN ?_ _ | refine kD ?_ | refine kA ?_ _)); exact BK178.out)) : gb180 ≠ gb178)); have n11_ := aM ((by rw [hg]; exact nN (blk_lt (g := gb179) (o := .cells #[.int .i64 a2_0, .int .i64 a2_1] 62 (0, 0)) (by (with_reducible repeat (first | refine kN ?_ _ | refine kD ?_ | refine kA ?_ _)); exact BK179.out)) : gb179 ≠ gb180)); have n12_ := aM ((by rw [hg]; exact Nat.ne_of_gt (blk_lt (g := gb179) (o := .cells #[.int .i64 a2_0, .int .i64 a2_1] 62 (0, 0)) (by (with_reducible repeat (first | refine kN ?_ _ | refine kD ?_ | refine kA ?_ _)); exact BK179.out)) : gb180 ≠ gb179)); clear BK177; clear BK178; clear BK179; clear HB; have BK177 := n0_; have BK178 := n1_; have BK179 := n2_; have HB := n3_; have BK180 := n4_; have GW180 := n5_; have GE180 := n6_; have NB177_180 := n7_; have NB180_177 := n8_; have NB178_180 := n9_; have NB180_178 := n10_; have NB179_180 := n11_; have NB180_179 := n12_; clear n0_ n1_ n2_ n3_ n4_ n5_ n6_ n7_ n8_ n9_ n10_ n11_ n12_; clear hb hbox hg))
 (try simp only [Act.put, sI, sZ, sS])
 go_cut [30] (fun v30 wc => ∃ (kq : Nat) (x30_4 : Bool), v30 = .bool x30_4 ∧ Aside0 (spec_pgMeet.j0 kq x30_4 a0_0 a0_1 a1_0 a1_1 a2_0 a2_1 a3_0 a3_1 = some r) ∧ Aside0 (kq ≤ k) ∧ Aside0 (wc.heap[gb177]? = some (.cells #[.int .i64 a0_0, .int .i64 a0_1] 62 (0, 0))) ∧ Aside0 (wc.heap[gb178]? = some (.cells #[.int .i64 a1_0, .int .i64 a1_1] 62 (0, 0))) ∧ Aside0 (wc.heap[gb179]? = some (.cells #[.int .i64 a2_0, .int .i64 a2_1] 62 (0, 0))) ∧ Aside0 (wc.heap[gb180]? = some (.cells #[.int .i64 a3_0, .int .i64 a3_1] 62 (0, 0))) ∧ Aside0 (Below w.heap.size w wc))
 case first =>
  have H := HC5.out
  clear HC5
  replace H := oB.mp H
  obtain ⟨t181, A100, H⟩ := H
  replace H : (if t181 = true then (spec_pgMeet.j0 k true a0_0 a0_1 a1_0 a1_1 a2_0 a2_1 a3_0 a3_1) else ((spec_pgOn.f a0_0 a0_1 a1_0 a1_1 a3_0 a3_1).bind fun t182 => (if t182 = true then (spec_pgMeet.j0 k true a0_0 a0_1 a1_0 a1_1 a2_0 a2_1 a3_0 a3_1) else ((spec_pgOn.f a2_0 a2_1 a3_0 a3_1 a0_0 a0_1).bind fun t183 => (if t183 = true then (spec_pgMeet.j0 k true a0_0 a0_1 a1_0 a1_1 a2_0 a2_1 a3_0 a3_1) else ((spec_pgOn.f a2_0 a2_1 a3_0 a3_1 a1_0 a1_1).bind fun t184 => (spec_pgMeet.j0 k t184 a0_0 a0_1 a1_0 a1_1 a2_0 a2_1 a3_0 a3_1))))))) = some r := H
  have A10 := aM A100
  clear A100
  by_cases c11 : t181 = true
  ·subst c11
   have H1 : (spec_pgMeet.j0 k true a0_0 a0_1 a1_0 a1_1 a2_0 a2_1 a3_0 a3_1) = some r := by rw [if_pos rfl] at H; exact H
   clear H
   have H := H1
   clear H1
   have H' := aM H
   clear H
   have hnb12 := NB177_178.out
   have hnc12 := NB178_177.out
   have hnb13 := NB177_179.out
   have hnc13 := NB179_177.out
   have hnb14 := NB177_180.out
   have hnc14 := NB180_177.out
   have hcz15_0 : w9.cell? ⟨gb177, 0, none⟩ = some (.int .i64 a0_0) := (kC BK177.out 0).trans rfl
   have hcz15_1 : w9.cell? ⟨gb177, 1, none⟩ = some (.int .i64 a0_1) := (kC BK177.out 1).trans rfl
   have hfz15_0 := kF BK177.out 0
   have hfz15_1 := kF BK177.out 1
   have hnb16 := NB178_179.out
   have hnc16 := NB179_178.out
   have hnb17 := NB178_180.out
   have hnc17 := NB180_178.out
   have hcz18_0 : w9.cell? ⟨gb178, 0, none⟩ = some (.int .i64 a1_0) := (kC BK178.out 0).trans rfl
   have hcz18_1 : w9.cell? ⟨gb178, 1, none⟩ = some (.int .i64 a1_1) := (kC BK178.out 1).trans rfl
   have hfz18_0 := kF BK178.out 0
   have hfz18_1 := kF BK178.out 1
   have hnb19 := NB179_180.out
   have hnc19 := NB180_179.out
   have hcz20_0 : w9.cell? ⟨gb179, 0, none⟩ = some (.int .i64 a2_0) := (kC BK179.out 0).trans rfl
   have hcz20_1 : w9.cell? ⟨gb179, 1, none⟩ = some (.int .i64 a2_1) := (kC BK179.out 1).trans rfl
   have hfz20_0 := kF BK179.out 0
   have hfz20_1 := kF BK179.out 1
   go_wp2_with (first | ((with_reducible refine gC (f := 116) rfl ?_); refine goesL_ (some 12) rfl rfl Try.func116 (by kernel_rfl) rfl #[.agg #[.int .i64 a0_0, .int .i64 a0_1], .agg #[.int .i64 a1_0, .int .i64 a1_1], .agg #[.int .i64 a2_0, .int .i64 a2_1]] rfl (by (try simp only [mA, mC, mN]); first | done | rfl | (simp only [lD, lT]; rfl)) ?_; (with_reducible refine (spec_pgOn.calls a0_0 a0_1 a1_0 a1_1 a2_0 a2_1 true _ A10.out).mono ?_); rintro e w21 ⟨rfl, hb⟩; refine ⟨_, rfl, ?_⟩; have n0_ := aM (blk_below (g := gb177) (o := .cells #[.int .i64 a0_0, .int .i64 a0_1] 62 (0, 0)) (by (with_reducible repeat (first | refine kN ?_ _ | refine kD ?_ | refine kA ?_ _)); exact BK177.out) hb); have n1_ := aM (blk_below (g := gb178) (o := .cells #[.int .i64 a1_0, .int .i64 a1_1] 62 (0, 0)) (by (with_reducible repeat (first | refine kN ?_ _ | refine kD ?_ | refine kA ?_ _)); exact BK178.out) hb); have n2_ := aM (blk_below (g := gb179) (o := .cells #[.int .i64 a2_0, .int .i64 a2_1] 62 (0, 0)) (by (with_reducible repeat (first | refine kN ?_ _ | refine kD ?_ | refine kA ?_ _)); exact BK179.out) hb); have n3_ := aM (blk_below (g := gb180) (o := .cells #[.int .i64 a3_0, .int .i64 a3_1] 62 (0, 0)) (by (with_reducible repeat (first | refine kN ?_ _ | refine kD ?_ | refine kA ?_ _)); exact BK180.out) hb); have n4_ := aM (pT (by repeat (first | (with_reducible first | exact HB.out | apply pA | apply pN | apply pD | refine pS ?_ GE177.out | refine pS ?_ GE178.out | refine pS ?_ GE179.out | refine pS ?_ GE180.out) | exact HB.out)) hb); clear BK177; clear BK178; clear BK179; clear BK180; clear HB; have BK177 := n0_; have BK178 := n1_; have BK179 := n2_; have BK180 := n3_; have HB := n4_; clear n0_ n1_ n2_ n3_ n4_; (try clear hb); (try clear hb2); (try clear hk); (try clear hi)))
   go_meet
   case rel => exact ⟨_, (true), (by first | rfl | (simp; done) | (simp [*]; done)), H', ⟨by first | omega | exact Nat.le_refl _⟩, ⟨by (with_reducible repeat (first | refine kN ?_ _ | refine kD ?_ | refine kA ?_ _)); exact BK177.out⟩, ⟨by (with_reducible repeat (first | refine kN ?_ _ | refine kD ?_ | refine kA ?_ _)); exact BK178.out⟩, ⟨by (with_reducible repeat (first | refine kN ?_ _ | refine kD ?_ | refine kA ?_ _)); exact BK179.out⟩, ⟨by (with_reducible repeat (first | refine kN ?_ _ | refine kD ?_ | refine kA ?_ _)); exact BK180.out⟩, ⟨by repeat (first | (with_reducible first | exact HB.out | apply pA | apply pN | apply pD | refine pS ?_ GE177.out | refine pS ?_ GE178.out | refine pS ?_ GE179.out | refine pS ?_ GE180.out) | exact HB.out)⟩⟩
  ·replace c11 := Bool.eq_false_iff.mpr c11
   subst c11
   have H1 : ((spec_pgOn.f a0_0 a0_1 a1_0 a1_1 a3_0 a3_1).bind fun t182 => (if t182 = true then (spec_pgMeet.j0 k true a0_0 a0_1 a1_0 a1_1 a2_0 a2_1 a3_0 a3_1) else ((spec_pgOn.f a2_0 a2_1 a3_0 a3_1 a0_0 a0_1).bind fun t183 => (if t183 = true then (spec_pgMeet.j0 k true a0_0 a0_1 a1_0 a1_1 a2_0 a2_1 a3_0 a3_1) else ((spec_pgOn.f a2_0 a2_1 a3_0 a3_1 a1_0 a1_1).bind fun t184 => (spec_pgMeet.j0 k t184 a0_0 a0_1 a1_0 a1_1 a2_0 a2_1 a3_0 a3_1)))))) = some r := by rw [if_neg (show ¬ (false = true) by decide)] at H; exact H
   clear H
   have H := H1
   clear H1
   replace H := oB.mp H
   obtain ⟨t182, A220, H⟩ := H
   replace H : (if t182 = true then (spec_pgMeet.j0 k true a0_0 a0_1 a1_0 a1_1 a2_0 a2_1 a3_0 a3_1) else ((spec_pgOn.f a2_0 a2_1 a3_0 a3_1 a0_0 a0_1).bind fun t183 => (if t183 = true then (spec_pgMeet.j0 k true a0_0 a0_1 a1_0 a1_1 a2_0 a2_1 a3_0 a3_1) else ((spec_pgOn.f a2_0 a2_1 a3_0 a3_1 a1_0 a1_1).bind fun t184 => (spec_pgMeet.j0 k t184 a0_0 a0_1 a1_0 a1_1 a2_0 a2_1 a3_0 a3_1))))) = some r := H
   have A22 := aM A220
   clear A220
   by_cases c23 : t182 = true
   ·subst c23
    have H1 : (spec_pgMeet.j0 k true a0_0 a0_1 a1_0 a1_1 a2_0 a2_1 a3_0 a3_1) = some r := by rw [if_pos rfl] at H; exact H
    clear H
    have H := H1
    clear H1
    have H' := aM H
    clear H
    have hnb24 := NB177_178.out
    have hnc24 := NB178_177.out
    have hnb25 := NB177_179.out
    have hnc25 := NB179_177.out
    have hnb26 := NB177_180.out
    have hnc26 := NB180_177.out
    have hcz27_0 : w9.cell? ⟨gb177, 0, none⟩ = some (.int .i64 a0_0) := (kC BK177.out 0).trans rfl
    have hcz27_1 : w9.cell? ⟨gb177, 1, none⟩ = some (.int .i64 a0_1) := (kC BK177.out 1).trans rfl
    have hfz27_0 := kF BK177.out 0
    have hfz27_1 := kF BK177.out 1
    have hnb28 := NB178_179.out
    have hnc28 := NB179_178.out
    have hnb29 := NB178_180.out
    have hnc29 := NB180_178.out
    have hcz30_0 : w9.cell? ⟨gb178, 0, none⟩ = some (.int .i64 a1_0) := (kC BK178.out 0).trans rfl
    have hcz30_1 : w9.cell? ⟨gb178, 1, none⟩ = some (.int .i64 a1_1) := (kC BK178.out 1).trans rfl
    have hfz30_0 := kF BK178.out 0
    have hfz30_1 := kF BK178.out 1
    have hnb31 := NB179_180.out
    have hnc31 := NB180_179.out
    have hcz32_0 : w9.cell? ⟨gb179, 0, none⟩ = some (.int .i64 a2_0) := (kC BK179.out 0).trans rfl
    have hcz32_1 : w9.cell? ⟨gb179, 1, none⟩ = some (.int .i64 a2_1) := (kC BK179.out 1).trans rfl
    have hfz32_0 := kF BK179.out 0
    have hfz32_1 := kF BK179.out 1
    go_wp2_with (first | ((with_reducible refine gC (f := 116) rfl ?_); refine goesL_ (some 12) rfl rfl Try.func116 (by kernel_rfl) rfl #[.agg #[.int .i64 a0_0, .int .i64 a0_1], .agg #[.int .i64 a1_0, .int .i64 a1_1], .agg #[.int .i64 a2_0, .int .i64 a2_1]] rfl (by (try simp only [mA, mC, mN]); first | done | rfl | (simp only [lD, lT]; rfl)) ?_; (with_reducible refine (spec_pgOn.calls a0_0 a0_1 a1_0 a1_1 a2_0 a2_1 false _ A10.out).mono ?_); rintro e w33 ⟨rfl, hb⟩; refine ⟨_, rfl, ?_⟩; have n0_ := aM (blk_below (g := gb177) (o := .cells #[.int .i64 a0_0, .int .i64 a0_1] 62 (0, 0)) (by (with_reducible repeat (first | refine kN ?_ _ | refine kD ?_ | refine kA ?_ _)); exact BK177.out) hb); have n1_ := aM (blk_below (g := gb178) (o := .cells #[.int .i64 a1_0, .int .i64 a1_1] 62 (0, 0)) (by (with_reducible repeat (first | refine kN ?_ _ | refine kD ?_ | refine kA ?_ _)); exact BK178.out) hb); have n2_ := aM (blk_below (g := gb179) (o := .cells #[.int .i64 a2_0, .int .i64 a2_1] 62 (0, 0)) (by (with_reducible repeat (first | refine kN ?_ _ | refine kD ?_ | refine kA ?_ _)); exact BK179.out) hb); have n3_ := aM (blk_below (g := gb180) (o := .cells #[.int .i64 a3_0, .int .i64 a3_1] 62 (0, 0)) (by (with_reducible repeat (first | refine kN ?_ _ | refine kD ?_ | refine kA ?_ _)); exact BK180.out) hb); have n4_ := aM (pT (by repeat (first | (with_reducible first | exact HB.out | apply pA | apply pN | apply pD | refine pS ?_ GE177.out | refine pS ?_ GE178.out | refine pS ?_ GE179.out | refine pS ?_ GE180.out) | exact HB.out)) hb); clear BK177; clear BK178; clear BK179; clear BK180; clear HB; have BK177 := n0_; have BK178 := n1_; have BK179 := n2_; have BK180 := n3_; have HB := n4_; clear n0_ n1_ n2_ n3_ n4_; (try clear hb); (try clear hb2); (try clear hk); (try clear hi); have hcz34_0 : w33.cell? ⟨gb177, 0, none⟩ = some (.int .i64 a0_0) := (kC BK177.out 0).trans rfl; have hcz34_1 : w33.cell? ⟨gb177, 1, none⟩ = some (.int .i64 a0_1) := (kC BK177.out 1).trans rfl; have hfz34_0 := kF BK177.out 0; have hfz34_1 := kF BK177.out 1; have hcz35_0 : w33.cell? ⟨gb178, 0, none⟩ = some (.int .i64 a1_0) := (kC BK178.out 0).trans rfl; have hcz35_1 : w33.cell? ⟨gb178, 1, none⟩ = some (.int .i64 a1_1) := (kC BK178.out 1).trans rfl; have hfz35_0 := kF BK178.out 0; have hfz35_1 := kF BK178.out 1; have hcz36_0 : w33.cell? ⟨gb180, 0, none⟩ = some (.int .i64 a3_0) := (kC BK180.out 0).trans rfl; have hcz36_1 : w33.cell? ⟨gb180, 1, none⟩ = some (.int .i64 a3_1) := (kC BK180.out 1).trans rfl; have hfz36_0 := kF BK180.out 0; have hfz36_1 := kF BK180.out 1) | (go_at_call 116; (with_reducible refine (spec_pgOn.calls a0_0 a0_1 a1_0 a1_1 a3_0 a3_1 true _ A22.out).mono ?_); rintro e w37 ⟨rfl, hb⟩; have n0_ := aM (blk_below (g := gb177) (o := .cells #[.int .i64 a0_0, .int .i64 a0_1] 62 (0, 0)) (by (with_reducible repeat (first | refine kN ?_ _ | refine kD ?_ | refine kA ?_ _)); exact BK177.out) hb); have n1_ := aM (blk_below (g := gb178) (o := .cells #[.int .i64 a1_0, .int .i64 a1_1] 62 (0, 0)) (by (with_reducible repeat (first | refine kN ?_ _ | refine kD ?_ | refine kA ?_ _)); exact BK178.out) hb); have n2_ := aM (blk_below (g := gb179) (o := .cells #[.int .i64 a2_0, .int .i64 a2_1] 62 (0, 0)) (by (with_reducible repeat (first | refine kN ?_ _ | refine kD ?_ | refine kA ?_ _)); exact BK179.out) hb); have n3_ := aM (blk_below (g := gb180) (o := .cells #[.int .i64 a3_0, .int .i64 a3_1] 62 (0, 0)) (by (with_reducible repeat (first | refine kN ?_ _ | refine kD ?_ | refine kA ?_ _)); exact BK180.out) hb); have n4_ := aM (pT (by repeat (first | (with_reducible first | exact HB.out | apply pA | apply pN | apply pD | refine pS ?_ GE177.out | refine pS ?_ GE178.out | refine pS ?_ GE179.out | refine pS ?_ GE180.out) | exact HB.out)) hb); clear BK177; clear BK178; clear BK179; clear BK180; clear HB; have BK177 := n0_; have BK178 := n1_; have BK179 := n2_; have BK180 := n3_; have HB := n4_; clear n0_ n1_ n2_ n3_ n4_; (try clear hb); (try clear hb2); (try clear hk); (try clear hi)))
    go_meet
    case rel => exact ⟨_, (true), (by first | rfl | (simp; done) | (simp [*]; done)), H', ⟨by first | omega | exact Nat.le_refl _⟩, ⟨by (with_reducible repeat (first | refine kN ?_ _ | refine kD ?_ | refine kA ?_ _)); exact BK177.out⟩, ⟨by (with_reducible repeat (first | refine kN ?_ _ | refine kD ?_ | refine kA ?_ _)); exact BK178.out⟩, ⟨by (with_reducible repeat (first | refine kN ?_ _ | refine kD ?_ | refine kA ?_ _)); exact BK179.out⟩, ⟨by (with_reducible repeat (first | refine kN ?_ _ | refine kD ?_ | refine kA ?_ _)); exact BK180.out⟩, ⟨by repeat (first | (with_reducible first | exact HB.out | apply pA | apply pN | apply pD | refine pS ?_ GE177.out | refine pS ?_ GE178.out | refine pS ?_ GE179.out | refine pS ?_ GE180.out) | exact HB.out)⟩⟩
   ·replace c23 := Bool.eq_false_iff.mpr c23
    subst c23
    have H1 : ((spec_pgOn.f a2_0 a2_1 a3_0 a3_1 a0_0 a0_1).bind fun t183 => (if t183 = true then (spec_pgMeet.j0 k true a0_0 a0_1 a1_0 a1_1 a2_0 a2_1 a3_0 a3_1) else ((spec_pgOn.f a2_0 a2_1 a3_0 a3_1 a1_0 a1_1).bind fun t184 => (spec_pgMeet.j0 k t184 a0_0 a0_1 a1_0 a1_1 a2_0 a2_1 a3_0 a3_1)))) = some r := by rw [if_neg (show ¬ (false = true) by decide)] at H; exact H
    clear H
    have H := H1
    clear H1
    replace H := oB.mp H
    obtain ⟨t183, A380, H⟩ := H
    replace H : (if t183 = true then (spec_pgMeet.j0 k true a0_0 a0_1 a1_0 a1_1 a2_0 a2_1 a3_0 a3_1) else ((spec_pgOn.f a2_0 a2_1 a3_0 a3_1 a1_0 a1_1).bind fun t184 => (spec_pgMeet.j0 k t184 a0_0 a0_1 a1_0 a1_1 a2_0 a2_1 a3_0 a3_1))) = some r := H
    have A38 := aM A380
    clear A380
    by_cases c39 : t183 = true
    ·subst c39
     have H1 : (spec_pgMeet.j0 k true a0_0 a0_1 a1_0 a1_1 a2_0 a2_1 a3_0 a3_1) = some r := by rw [if_pos rfl] at H; exact H
     clear H
     have H := H1
     clear H1
     have H' := aM H
     clear H
     have hnb40 := NB177_178.out
     have hnc40 := NB178_177.out
     have hnb41 := NB177_179.out
     have hnc41 := NB179_177.out
     have hnb42 := NB177_180.out
     have hnc42 := NB180_177.out
     have hcz43_0 : w9.cell? ⟨gb177, 0, none⟩ = some (.int .i64 a0_0) := (kC BK177.out 0).trans rfl
     have hcz43_1 : w9.cell? ⟨gb177, 1, none⟩ = some (.int .i64 a0_1) := (kC BK177.out 1).trans rfl
     have hfz43_0 := kF BK177.out 0
     have hfz43_1 := kF BK177.out 1
     have hnb44 := NB178_179.out
     have hnc44 := NB179_178.out
     have hnb45 := NB178_180.out
     have hnc45 := NB180_178.out
     have hcz46_0 : w9.cell? ⟨gb178, 0, none⟩ = some (.int .i64 a1_0) := (kC BK178.out 0).trans rfl
     have hcz46_1 : w9.cell? ⟨gb178, 1, none⟩ = some (.int .i64 a1_1) := (kC BK178.out 1).trans rfl
     have hfz46_0 := kF BK178.out 0
     have hfz46_1 := kF BK178.out 1
     have hnb47 := NB179_180.out
     have hnc47 := NB180_179.out
     have hcz48_0 : w9.cell? ⟨gb179, 0, none⟩ = some (.int .i64 a2_0) := (kC BK179.out 0).trans rfl
     have hcz48_1 : w9.cell? ⟨gb179, 1, none⟩ = some (.int .i64 a2_1) := (kC BK179.out 1).trans rfl
     have hfz48_0 := kF BK179.out 0
     have hfz48_1 := kF BK179.out 1
     go_wp2_with (first | ((with_reducible refine gC (f := 116) rfl ?_); refine goesL_ (some 12) rfl rfl Try.func116 (by kernel_rfl) rfl #[.agg #[.int .i64 a0_0, .int .i64 a0_1], .agg #[.int .i64 a1_0, .int .i64 a1_1], .agg #[.int .i64 a2_0, .int .i64 a2_1]] rfl (by (try simp only [mA, mC, mN]); first | done | rfl | (simp only [lD, lT]; rfl)) ?_; (with_reducible refine (spec_pgOn.calls a0_0 a0_1 a1_0 a1_1 a2_0 a2_1 false _ A10.out).mono ?_); rintro e w49 ⟨rfl, hb⟩; refine ⟨_, rfl, ?_⟩; have n0_ := aM (blk_below (g := gb177) (o := .cells #[.int .i64 a0_0, .int .i64 a0_1] 62 (0, 0)) (by (with_reducible repeat (first | refine kN ?_ _ | refine kD ?_ | refine kA ?_ _)); exact BK177.out) hb); have n1_ := aM (blk_below (g := gb178) (o := .cells #[.int .i64 a1_0, .int .i64 a1_1] 62 (0, 0)) (by (with_reducible repeat (first | refine kN ?_ _ | refine kD ?_ | refine kA ?_ _)); exact BK178.out) hb); have n2_ := aM (blk_below (g := gb179) (o := .cells #[.int .i64 a2_0, .int .i64 a2_1] 62 (0, 0)) (by (with_reducible repeat (first | refine kN ?_ _ | refine kD ?_ | refine kA ?_ _)); exact BK179.out) hb); have n3_ := aM (blk_below (g := gb180) (o := .cells #[.int .i64 a3_0, .int .i64 a3_1] 62 (0, 0)) (by (with_reducible repeat (first | refine kN ?_ _ | refine kD ?_ | refine kA ?_ _)); exact BK180.out) hb); have n4_ := aM (pT (by repeat (first | (with_reducible first | exact HB.out | apply pA | apply pN | apply pD | refine pS ?_ GE177.out | refine pS ?_ GE178.out | refine pS ?_ GE179.out | refine pS ?_ GE180.out) | exact HB.out)) hb); clear BK177; clear BK178; clear BK179; clear BK180; clear HB; have BK177 := n0_; have BK178 := n1_; have BK179 := n2_; have BK180 := n3_; have HB := n4_; clear n0_ n1_ n2_ n3_ n4_; (try clear hb); (try clear hb2); (try clear hk); (try clear hi); have hcz50_0 : w49.cell? ⟨gb177, 0, none⟩ = some (.int .i64 a0_0) := (kC BK177.out 0).trans rfl; have hcz50_1 : w49.cell? ⟨gb177, 1, none⟩ = some (.int .i64 a0_1) := (kC BK177.out 1).trans rfl; have hfz50_0 := kF BK177.out 0; have hfz50_1 := kF BK177.out 1; have hcz51_0 : w49.cell? ⟨gb178, 0, none⟩ = some (.int .i64 a1_0) := (kC BK178.out 0).trans rfl; have hcz51_1 : w49.cell? ⟨gb178, 1, none⟩ = some (.int .i64 a1_1) := (kC BK178.out 1).trans rfl; have hfz51_0 := kF BK178.out 0; have hfz51_1 := kF BK178.out 1; have hcz52_0 : w49.cell? ⟨gb180, 0, none⟩ = some (.int .i64 a3_0) := (kC BK180.out 0).trans rfl; have hcz52_1 : w49.cell? ⟨gb180, 1, none⟩ = some (.int .i64 a3_1) := (kC BK180.out 1).trans rfl; have hfz52_0 := kF BK180.out 0; have hfz52_1 := kF BK180.out 1) | (go_at_call 116; (with_reducible refine (spec_pgOn.calls a0_0 a0_1 a1_0 a1_1 a3_0 a3_1 false _ A22.out).mono ?_); rintro e w53 ⟨rfl, hb⟩; have n0_ := aM (blk_below (g := gb177) (o := .cells #[.int .i64 a0_0, .int .i64 a0_1] 62 (0, 0)) (by (with_reducible repeat (first | refine kN ?_ _ | refine kD ?_ | refine kA ?_ _)); exact BK177.out) hb); have n1_ := aM (blk_below (g := gb178) (o := .cells #[.int .i64 a1_0, .int .i64 a1_1] 62 (0, 0)) (by (with_reducible repeat (first | refine kN ?_ _ | refine kD ?_ | refine kA ?_ _)); exact BK178.out) hb); have n2_ := aM (blk_below (g := gb179) (o := .cells #[.int .i64 a2_0, .int .i64 a2_1] 62 (0, 0)) (by (with_reducible repeat (first | refine kN ?_ _ | refine kD ?_ | refine kA ?_ _)); exact BK179.out) hb); have n3_ := aM (blk_below (g := gb180) (o := .cells #[.int .i64 a3_0, .int .i64 a3_1] 62 (0, 0)) (by (with_reducible repeat (first | refine kN ?_ _ | refine kD ?_ | refine kA ?_ _)); exact BK180.out) hb); have n4_ := aM (pT (by repeat (first | (with_reducible first | exact HB.out | apply pA | apply pN | apply pD | refine pS ?_ GE177.out | refine pS ?_ GE178.out | refine pS ?_ GE179.out | refine pS ?_ GE180.out) | exact HB.out)) hb); clear BK177; clear BK178; clear BK179; clear BK180; clear HB; have BK177 := n0_; have BK178 := n1_; have BK179 := n2_; have BK180 := n3_; have HB := n4_; clear n0_ n1_ n2_ n3_ n4_; (try clear hb); (try clear hb2); (try clear hk); (try clear hi); have hcz54_0 : w53.cell? ⟨gb179, 0, none⟩ = some (.int .i64 a2_0) := (kC BK179.out 0).trans rfl; have hcz54_1 : w53.cell? ⟨gb179, 1, none⟩ = some (.int .i64 a2_1) := (kC BK179.out 1).trans rfl; have hfz54_0 := kF BK179.out 0; have hfz54_1 := kF BK179.out 1; have hcz55_0 : w53.cell? ⟨gb180, 0, none⟩ = some (.int .i64 a3_0) := (kC BK180.out 0).trans rfl; have hcz55_1 : w53.cell? ⟨gb180, 1, none⟩ = some (.int .i64 a3_1) := (kC BK180.out 1).trans rfl; have hfz55_0 := kF BK180.out 0; have hfz55_1 := kF BK180.out 1; have hcz56_0 : w53.cell? ⟨gb177, 0, none⟩ = some (.int .i64 a0_0) := (kC BK177.out 0).trans rfl; have hcz56_1 : w53.cell? ⟨gb177, 1, none⟩ = some (.int .i64 a0_1) := (kC BK177.out 1).trans rfl; have hfz56_0 := kF BK177.out 0; have hfz56_1 := kF BK177.out 1) | (go_at_call 116; (with_reducible refine (spec_pgOn.calls a2_0 a2_1 a3_0 a3_1 a0_0 a0_1 true _ A38.out).mono ?_); rintro e w57 ⟨rfl, hb⟩; have n0_ := aM (blk_below (g := gb177) (o := .cells #[.int .i64 a0_0, .int .i64 a0_1] 62 (0, 0)) (by (with_reducible repeat (first | refine kN ?_ _ | refine kD ?_ | refine kA ?_ _)); exact BK177.out) hb); have n1_ := aM (blk_below (g := gb178) (o := .cells #[.int .i64 a1_0, .int .i64 a1_1] 62 (0, 0)) (by (with_reducible repeat (first | refine kN ?_ _ | refine kD ?_ | refine kA ?_ _)); exact BK178.out) hb); have n2_ := aM (blk_below (g := gb179) (o := .cells #[.int .i64 a2_0, .int .i64 a2_1] 62 (0, 0)) (by (with_reducible repeat (first | refine kN ?_ _ | refine kD ?_ | refine kA ?_ _)); exact BK179.out) hb); have n3_ := aM (blk_below (g := gb180) (o := .cells #[.int .i64 a3_0, .int .i64 a3_1] 62 (0, 0)) (by (with_reducible repeat (first | refine kN ?_ _ | refine kD ?_ | refine kA ?_ _)); exact BK180.out) hb); have n4_ := aM (pT (by repeat (first | (with_reducible first | exact HB.out | apply pA | apply pN | apply pD | refine pS ?_ GE177.out | refine pS ?_ GE178.out | refine pS ?_ GE179.out | refine pS ?_ GE180.out) | exact HB.out)) hb); clear BK177; clear BK178; clear BK179; clear BK180; clear HB; have BK177 := n0_; have BK178 := n1_; have BK179 := n2_; have BK180 := n3_; have HB := n4_; clear n0_ n1_ n2_ n3_ n4_; (try clear hb); (try clear hb2); (try clear hk); (try clear hi)))
     go_meet
     case rel => exact ⟨_, (true), (by first | rfl | (simp; done) | (simp [*]; done)), H', ⟨by first | omega | exact Nat.le_refl _⟩, ⟨by (with_reducible repeat (first | refine kN ?_ _ | refine kD ?_ | refine kA ?_ _)); exact BK177.out⟩, ⟨by (with_reducible repeat (first | refine kN ?_ _ | refine kD ?_ | refine kA ?_ _)); exact BK178.out⟩, ⟨by (with_reducible repeat (first | refine kN ?_ _ | refine kD ?_ | refine kA ?_ _)); exact BK179.out⟩, ⟨by (with_reducible repeat (first | refine kN ?_ _ | refine kD ?_ | refine kA ?_ _)); exact BK180.out⟩, ⟨by repeat (first | (with_reducible first | exact HB.out | apply pA | apply pN | apply pD | refine pS ?_ GE177.out | refine pS ?_ GE178.out | refine pS ?_ GE179.out | refine pS ?_ GE180.out) | exact HB.out)⟩⟩
    ·replace c39 := Bool.eq_false_iff.mpr c39
     subst c39
     have H1 : ((spec_pgOn.f a2_0 a2_1 a3_0 a3_1 a1_0 a1_1).bind fun t184 => (spec_pgMeet.j0 k t184 a0_0 a0_1 a1_0 a1_1 a2_0 a2_1 a3_0 a3_1)) = some r := by rw [if_neg (show ¬ (false = true) by decide)] at H; exact H
     clear H
     have H := H1
     clear H1
     replace H := oB.mp H
     obtain ⟨t184, A580, H⟩ := H
     replace H : (spec_pgMeet.j0 k t184 a0_0 a0_1 a1_0 a1_1 a2_0 a2_1 a3_0 a3_1) = some r := H
     have A58 := aM A580
     clear A580
     have H' := aM H
     clear H
     have hnb59 := NB177_178.out
     have hnc59 := NB178_177.out
     have hnb60 := NB177_179.out
     have hnc60 := NB179_177.out
     have hnb61 := NB177_180.out
     have hnc61 := NB180_177.out
     have hcz62_0 : w9.cell? ⟨gb177, 0, none⟩ = some (.int .i64 a0_0) := (kC BK177.out 0).trans rfl
     have hcz62_1 : w9.cell? ⟨gb177, 1, none⟩ = some (.int .i64 a0_1) := (kC BK177.out 1).trans rfl
     have hfz62_0 := kF BK177.out 0
     have hfz62_1 := kF BK177.out 1
     have hnb63 := NB178_179.out
     have hnc63 := NB179_178.out
     have hnb64 := NB178_180.out
     have hnc64 := NB180_178.out
     have hcz65_0 : w9.cell? ⟨gb178, 0, none⟩ = some (.int .i64 a1_0) := (kC BK178.out 0).trans rfl
     have hcz65_1 : w9.cell? ⟨gb178, 1, none⟩ = some (.int .i64 a1_1) := (kC BK178.out 1).trans rfl
     have hfz65_0 := kF BK178.out 0
     have hfz65_1 := kF BK178.out 1
     have hnb66 := NB179_180.out
     have hnc66 := NB180_179.out
     have hcz67_0 : w9.cell? ⟨gb179, 0, none⟩ = some (.int .i64 a2_0) := (kC BK179.out 0).trans rfl
     have hcz67_1 : w9.cell? ⟨gb179, 1, none⟩ = some (.int .i64 a2_1) := (kC BK179.out 1).trans rfl
     have hfz67_0 := kF BK179.out 0
     have hfz67_1 := kF BK179.out 1
     go_wp2_with (first | ((with_reducible refine gC (f := 116) rfl ?_); refine goesL_ (some 12) rfl rfl Try.func116 (by kernel_rfl) rfl #[.agg #[.int .i64 a0_0, .int .i64 a0_1], .agg #[.int .i64 a1_0, .int .i64 a1_1], .agg #[.int .i64 a2_0, .int .i64 a2_1]] rfl (by (try simp only [mA, mC, mN]); first | done | rfl | (simp only [lD, lT]; rfl)) ?_; (with_reducible refine (spec_pgOn.calls a0_0 a0_1 a1_0 a1_1 a2_0 a2_1 false _ A10.out).mono ?_); rintro e w68 ⟨rfl, hb⟩; refine ⟨_, rfl, ?_⟩; have n0_ := aM (blk_below (g := gb177) (o := .cells #[.int .i64 a0_0, .int .i64 a0_1] 62 (0, 0)) (by (with_reducible repeat (first | refine kN ?_ _ | refine kD ?_ | refine kA ?_ _)); exact BK177.out) hb); have n1_ := aM (blk_below (g := gb178) (o := .cells #[.int .i64 a1_0, .int .i64 a1_1] 62 (0, 0)) (by (with_reducible repeat (first | refine kN ?_ _ | refine kD ?_ | refine kA ?_ _)); exact BK178.out) hb); have n2_ := aM (blk_below (g := gb179) (o := .cells #[.int .i64 a2_0, .int .i64 a2_1] 62 (0, 0)) (by (with_reducible repeat (first | refine kN ?_ _ | refine kD ?_ | refine kA ?_ _)); exact BK179.out) hb); have n3_ := aM (blk_below (g := gb180) (o := .cells #[.int .i64 a3_0, .int .i64 a3_1] 62 (0, 0)) (by (with_reducible repeat (first | refine kN ?_ _ | refine kD ?_ | refine kA ?_ _)); exact BK180.out) hb); have n4_ := aM (pT (by repeat (first | (with_reducible first | exact HB.out | apply pA | apply pN | apply pD | refine pS ?_ GE177.out | refine pS ?_ GE178.out | refine pS ?_ GE179.out | refine pS ?_ GE180.out) | exact HB.out)) hb); clear BK177; clear BK178; clear BK179; clear BK180; clear HB; have BK177 := n0_; have BK178 := n1_; have BK179 := n2_; have BK180 := n3_; have HB := n4_; clear n0_ n1_ n2_ n3_ n4_; (try clear hb); (try clear hb2); (try clear hk); (try clear hi); have hcz69_0 : w68.cell? ⟨gb177, 0, none⟩ = some (.int .i64 a0_0) := (kC BK177.out 0).trans rfl; have hcz69_1 : w68.cell? ⟨gb177, 1, none⟩ = some (.int .i64 a0_1) := (kC BK177.out 1).trans rfl; have hfz69_0 := kF BK177.out 0; have hfz69_1 := kF BK177.out 1; have hcz70_0 : w68.cell? ⟨gb178, 0, none⟩ = some (.int .i64 a1_0) := (kC BK178.out 0).trans rfl; have hcz70_1 : w68.cell? ⟨gb178, 1, none⟩ = some (.int .i64 a1_1) := (kC BK178.out 1).trans rfl; have hfz70_0 := kF BK178.out 0; have hfz70_1 := kF BK178.out 1; have hcz71_0 : w68.cell? ⟨gb180, 0, none⟩ = some (.int .i64 a3_0) := (kC BK180.out 0).trans rfl; have hcz71_1 : w68.cell? ⟨gb180, 1, none⟩ = some (.int .i64 a3_1) := (kC BK180.out 1).trans rfl; have hfz71_0 := kF BK180.out 0; have hfz71_1 := kF BK180.out 1) | (go_at_call 116; (with_reducible refine (spec_pgOn.calls a0_0 a0_1 a1_0 a1_1 a3_0 a3_1 false _ A22.out).mono ?_); rintro e w72 ⟨rfl, hb⟩; have n0_ := aM (blk_below (g := gb177) (o := .cells #[.int .i64 a0_0, .int .i64 a0_1] 62 (0, 0)) (by (with_reducible repeat (first | refine kN ?_ _ | refine kD ?_ | refine kA ?_ _)); exact BK177.out) hb); have n1_ := aM (blk_below (g := gb178) (o := .cells #[.int .i64 a1_0, .int .i64 a1_1] 62 (0, 0)) (by (with_reducible repeat (first | refine kN ?_ _ | refine kD ?_ | refine kA ?_ _)); exact BK178.out) hb); have n2_ := aM (blk_below (g := gb179) (o := .cells #[.int .i64 a2_0, .int .i64 a2_1] 62 (0, 0)) (by (with_reducible repeat (first | refine kN ?_ _ | refine kD ?_ | refine kA ?_ _)); exact BK179.out) hb); have n3_ := aM (blk_below (g := gb180) (o := .cells #[.int .i64 a3_0, .int .i64 a3_1] 62 (0, 0)) (by (with_reducible repeat (first | refine kN ?_ _ | refine kD ?_ | refine kA ?_ _)); exact BK180.out) hb); have n4_ := aM (pT (by repeat (first | (with_reducible first | exact HB.out | apply pA | apply pN | apply pD | refine pS ?_ GE177.out | refine pS ?_ GE178.out | refine pS ?_ GE179.out | refine pS ?_ GE180.out) | exact HB.out)) hb); clear BK177; clear BK178; clear BK179; clear BK180; clear HB; have BK177 := n0_; have BK178 := n1_; have BK179 := n2_; have BK180 := n3_; have HB := n4_; clear n0_ n1_ n2_ n3_ n4_; (try clear hb); (try clear hb2); (try clear hk); (try clear hi); have hcz73_0 : w72.cell? ⟨gb179, 0, none⟩ = some (.int .i64 a2_0) := (kC BK179.out 0).trans rfl; have hcz73_1 : w72.cell? ⟨gb179, 1, none⟩ = some (.int .i64 a2_1) := (kC BK179.out 1).trans rfl; have hfz73_0 := kF BK179.out 0; have hfz73_1 := kF BK179.out 1; have hcz74_0 : w72.cell? ⟨gb180, 0, none⟩ = some (.int .i64 a3_0) := (kC BK180.out 0).trans rfl; have hcz74_1 : w72.cell? ⟨gb180, 1, none⟩ = some (.int .i64 a3_1) := (kC BK180.out 1).trans rfl; have hfz74_0 := kF BK180.out 0; have hfz74_1 := kF BK180.out 1; have hcz75_0 : w72.cell? ⟨gb177, 0, none⟩ = some (.int .i64 a0_0) := (kC BK177.out 0).trans rfl; have hcz75_1 : w72.cell? ⟨gb177, 1, none⟩ = some (.int .i64 a0_1) := (kC BK177.out 1).trans rfl; have hfz75_0 := kF BK177.out 0; have hfz75_1 := kF BK177.out 1) | (go_at_call 116; (with_reducible refine (spec_pgOn.calls a2_0 a2_1 a3_0 a3_1 a0_0 a0_1 false _ A38.out).mono ?_); rintro e w76 ⟨rfl, hb⟩; have n0_ := aM (blk_below (g := gb177) (o := .cells #[.int .i64 a0_0, .int .i64 a0_1] 62 (0, 0)) (by (with_reducible repeat (first | refine kN ?_ _ | refine kD ?_ | refine kA ?_ _)); exact BK177.out) hb); have n1_ := aM (blk_below (g := gb178) (o := .cells #[.int .i64 a1_0, .int .i64 a1_1] 62 (0, 0)) (by (with_reducible repeat (first | refine kN ?_ _ | refine kD ?_ | refine kA ?_ _)); exact BK178.out) hb); have n2_ := aM (blk_below (g := gb179) (o := .cells #[.int .i64 a2_0, .int .i64 a2_1] 62 (0, 0)) (by (with_reducible repeat (first | refine kN ?_ _ | refine kD ?_ | refine kA ?_ _)); exact BK179.out) hb); have n3_ := aM (blk_below (g := gb180) (o := .cells #[.int .i64 a3_0, .int .i64 a3_1] 62 (0, 0)) (by (with_reducible repeat (first | refine kN ?_ _ | refine kD ?_ | refine kA ?_ _)); exact BK180.out) hb); have n4_ := aM (pT (by repeat (first | (with_reducible first | exact HB.out | apply pA | apply pN | apply pD | refine pS ?_ GE177.out | refine pS ?_ GE178.out | refine pS ?_ GE179.out | refine pS ?_ GE180.out) | exact HB.out)) hb); clear BK177; clear BK178; clear BK179; clear BK180; clear HB; have BK177 := n0_; have BK178 := n1_; have BK179 := n2_; have BK180 := n3_; have HB := n4_; clear n0_ n1_ n2_ n3_ n4_; (try clear hb); (try clear hb2); (try clear hk); (try clear hi); have hcz77_0 : w76.cell? ⟨gb179, 0, none⟩ = some (.int .i64 a2_0) := (kC BK179.out 0).trans rfl; have hcz77_1 : w76.cell? ⟨gb179, 1, none⟩ = some (.int .i64 a2_1) := (kC BK179.out 1).trans rfl; have hfz77_0 := kF BK179.out 0; have hfz77_1 := kF BK179.out 1; have hcz78_0 : w76.cell? ⟨gb180, 0, none⟩ = some (.int .i64 a3_0) := (kC BK180.out 0).trans rfl; have hcz78_1 : w76.cell? ⟨gb180, 1, none⟩ = some (.int .i64 a3_1) := (kC BK180.out 1).trans rfl; have hfz78_0 := kF BK180.out 0; have hfz78_1 := kF BK180.out 1; have hcz79_0 : w76.cell? ⟨gb178, 0, none⟩ = some (.int .i64 a1_0) := (kC BK178.out 0).trans rfl; have hcz79_1 : w76.cell? ⟨gb178, 1, none⟩ = some (.int .i64 a1_1) := (kC BK178.out 1).trans rfl; have hfz79_0 := kF BK178.out 0; have hfz79_1 := kF BK178.out 1) | (go_at_call 116; (with_reducible refine (spec_pgOn.calls a2_0 a2_1 a3_0 a3_1 a1_0 a1_1 t184 _ A58.out).mono ?_); rintro e w80 ⟨rfl, hb⟩; have n0_ := aM (blk_below (g := gb177) (o := .cells #[.int .i64 a0_0, .int .i64 a0_1] 62 (0, 0)) (by (with_reducible repeat (first | refine kN ?_ _ | refine kD ?_ | refine kA ?_ _)); exact BK177.out) hb); have n1_ := aM (blk_below (g := gb178) (o := .cells #[.int .i64 a1_0, .int .i64 a1_1] 62 (0, 0)) (by (with_reducible repeat (first | refine kN ?_ _ | refine kD ?_ | refine kA ?_ _)); exact BK178.out) hb); have n2_ := aM (blk_below (g := gb179) (o := .cells #[.int .i64 a2_0, .int .i64 a2_1] 62 (0, 0)) (by (with_reducible repeat (first | refine kN ?_ _ | refine kD ?_ | refine kA ?_ _)); exact BK179.out) hb); have n3_ := aM (blk_below (g := gb180) (o := .cells #[.int .i64 a3_0, .int .i64 a3_1] 62 (0, 0)) (by (with_reducible repeat (first | refine kN ?_ _ | refine kD ?_ | refine kA ?_ _)); exact BK180.out) hb); have n4_ := aM (pT (by repeat (first | (with_reducible first | exact HB.out | apply pA | apply pN | apply pD | refine pS ?_ GE177.out | refine pS ?_ GE178.out | refine pS ?_ GE179.out | refine pS ?_ GE180.out) | exact HB.out)) hb); clear BK177; clear BK178; clear BK179; clear BK180; clear HB; have BK177 := n0_; have BK178 := n1_; have BK179 := n2_; have BK180 := n3_; have HB := n4_; clear n0_ n1_ n2_ n3_ n4_; (try clear hb); (try clear hb2); (try clear hk); (try clear hi)))
     go_meet
     case rel => exact ⟨_, (t184), (by first | rfl | (simp; done) | (simp [*]; done)), H', ⟨by first | omega | exact Nat.le_refl _⟩, ⟨by (with_reducible repeat (first | refine kN ?_ _ | refine kD ?_ | refine kA ?_ _)); exact BK177.out⟩, ⟨by (with_reducible repeat (first | refine kN ?_ _ | refine kD ?_ | refine kA ?_ _)); exact BK178.out⟩, ⟨by (with_reducible repeat (first | refine kN ?_ _ | refine kD ?_ | refine kA ?_ _)); exact BK179.out⟩, ⟨by (with_reducible repeat (first | refine kN ?_ _ | refine kD ?_ | refine kA ?_ _)); exact BK180.out⟩, ⟨by repeat (first | (with_reducible first | exact HB.out | apply pA | apply pN | apply pD | refine pS ?_ GE177.out | refine pS ?_ GE178.out | refine pS ?_ GE179.out | refine pS ?_ GE180.out) | exact HB.out)⟩⟩
 case rest =>
  clear HC5
  try clear c1
  try clear c2
  try clear p2
  try clear c3
  try clear c4
  try clear c5
  try clear c6
  try clear c9
  try clear c11
  try clear c12
  try clear c13
  try clear c14
  try clear c16
  try clear c17
  try clear c19
  try clear c23
  try clear c24
  try clear c25
  try clear c26
  try clear c28
  try clear c29
  try clear c31
  try clear c39
  try clear c40
  try clear c41
  try clear c42
  try clear c44
  try clear c45
  try clear c47
  try clear c59
  try clear c60
  try clear c61
  try clear c63
  try clear c64
  try clear c66
  try clear hcz15_0
  try clear hcz15_1
  try clear hcz18_0
  try clear hcz18_1
  try clear hcz20_0
  try clear hcz20_1
  try clear hcz27_0
  try clear hcz27_1
  try clear hcz30_0
  try clear hcz30_1
  try clear hcz32_0
  try clear hcz32_1
  try clear hcz34_0
  try clear hcz34_1
  try clear hcz35_0
  try clear hcz35_1
  try clear hcz36_0
  try clear hcz36_1
  try clear hcz43_0
  try clear hcz43_1
  try clear hcz46_0
  try clear hcz46_1
  try clear hcz48_0
  try clear hcz48_1
  try clear hcz50_0
  try clear hcz50_1
  try clear hcz51_0
  try clear hcz51_1
  try clear hcz52_0
  try clear hcz52_1
  try clear hcz54_0
  try clear hcz54_1
  try clear hcz55_0
  try clear hcz55_1
  try clear hcz56_0
  try clear hcz56_1
  try clear hcz62_0
  try clear hcz62_1
  try clear hcz65_0
  try clear hcz65_1
  try clear hcz67_0
  try clear hcz67_1
  try clear hcz69_0
  try clear hcz69_1
  try clear hcz70_0
  try clear hcz70_1
  try clear hcz71_0
  try clear hcz71_1
  try clear hcz73_0
  try clear hcz73_1
  try clear hcz74_0
  try clear hcz74_1
  try clear hcz75_0
  try clear hcz75_1
  try clear hcz77_0
  try clear hcz77_1
  try clear hcz78_0
  try clear hcz78_1
  try clear hcz79_0
  try clear hcz79_1
  try clear hfz15_0
  try clear hfz15_1
  try clear hfz18_0
  try clear hfz18_1
  try clear hfz20_0
  try clear hfz20_1
  try clear hfz27_0
  try clear hfz27_1
  try clear hfz30_0
  try clear hfz30_1
  try clear hfz32_0
  try clear hfz32_1
  try clear hfz34_0
  try clear hfz34_1
  try clear hfz35_0
  try clear hfz35_1
  try clear hfz36_0
  try clear hfz36_1
  try clear hfz43_0
  try clear hfz43_1
  try clear hfz46_0
  try clear hfz46_1
  try clear hfz48_0
  try clear hfz48_1
  try clear hfz50_0
  try clear hfz50_1
  try clear hfz51_0
  try clear hfz51_1
  try clear hfz52_0
  try clear hfz52_1
  try clear hfz54_0
  try clear hfz54_1
  try clear hfz55_0
  try clear hfz55_1
  try clear hfz56_0
  try clear hfz56_1
  try clear hfz62_0
  try clear hfz62_1
  try clear hfz65_0
  try clear hfz65_1
  try clear hfz67_0
  try clear hfz67_1
  try clear hfz69_0
  try clear hfz69_1
  try clear hfz70_0
  try clear hfz70_1
  try clear hfz71_0
  try clear hfz71_1
  try clear hfz73_0
  try clear hfz73_1
  try clear hfz74_0
  try clear hfz74_1
  try clear hfz75_0
  try clear hfz75_1
  try clear hfz77_0
  try clear hfz77_1
  try clear hfz78_0
  try clear hfz78_1
  try clear hfz79_0
  try clear hfz79_1
  obtain ⟨kq, x30_4, rfl, HA, HJ4, BK177, BK178, BK179, BK180, HB⟩ := hcut
  cases kq with
  | zero => exact absurd HA.out (by simp [spec_pgMeet.j0])
  | succ kj4 =>
   have H := HA.out
   clear HA
   simp only [spec_pgMeet.j0] at H
   by_cases c81 : x30_4 = true
   ·subst c81
    have H1 : (some true) = some r := by rw [if_pos rfl] at H; exact H
    clear H
    have H := H1
    clear H1
    obtain rfl := Option.some.inj H
    go_wp2
    go_ret
    exact ⟨by first | rfl | (simp [errW_none, errW_some] <;> rfl) | (simp [*, errW_none, errW_some] <;> rfl), by repeat (first | (with_reducible first | exact HB.out | apply pA | apply pN | apply pD | refine pS ?_ GE177.out | refine pS ?_ GE178.out | refine pS ?_ GE179.out | refine pS ?_ GE180.out) | exact HB.out)⟩
   ·replace c81 := Bool.eq_false_iff.mpr c81
    subst c81
    have H1 : ((spec_pgTurn.f a0_0 a0_1 a1_0 a1_1 a2_0 a2_1).bind fun t185 => ((spec_l1Sign.f t185).bind fun t186 => ((spec_pgTurn.f a0_0 a0_1 a1_0 a1_1 a3_0 a3_1).bind fun t187 => ((spec_l1Sign.f t187).bind fun t188 => (if (wrap64 (t186 * t188)) < 0 then ((spec_pgTurn.f a2_0 a2_1 a3_0 a3_1 a0_0 a0_1).bind fun t189 => ((spec_l1Sign.f t189).bind fun t190 => ((spec_pgTurn.f a2_0 a2_1 a3_0 a3_1 a1_0 a1_1).bind fun t191 => ((spec_l1Sign.f t191).bind fun t192 => (some (decide ((wrap64 (t190 * t192)) < 0))))))) else (some false)))))) = some r := by rw [if_neg (show ¬ (false = true) by decide)] at H; exact H
    clear H
    have H := H1
    clear H1
    replace H := oB.mp H
    obtain ⟨t185, A820, H⟩ := H
    replace H : ((spec_l1Sign.f t185).bind fun t186 => ((spec_pgTurn.f a0_0 a0_1 a1_0 a1_1 a3_0 a3_1).bind fun t187 => ((spec_l1Sign.f t187).bind fun t188 => (if (wrap64 (t186 * t188)) < 0 then ((spec_pgTurn.f a2_0 a2_1 a3_0 a3_1 a0_0 a0_1).bind fun t189 => ((spec_l1Sign.f t189).bind fun t190 => ((spec_pgTurn.f a2_0 a2_1 a3_0 a3_1 a1_0 a1_1).bind fun t191 => ((spec_l1Sign.f t191).bind fun t192 => (some (decide ((wrap64 (t190 * t192)) < 0))))))) else (some false))))) = some r := H
    have A82 := aM A820
    clear A820
    replace H := oB.mp H
    obtain ⟨t186, A830, H⟩ := H
    replace H : ((spec_pgTurn.f a0_0 a0_1 a1_0 a1_1 a3_0 a3_1).bind fun t187 => ((spec_l1Sign.f t187).bind fun t188 => (if (wrap64 (t186 * t188)) < 0 then ((spec_pgTurn.f a2_0 a2_1 a3_0 a3_1 a0_0 a0_1).bind fun t189 => ((spec_l1Sign.f t189).bind fun t190 => ((spec_pgTurn.f a2_0 a2_1 a3_0 a3_1 a1_0 a1_1).bind fun t191 => ((spec_l1Sign.f t191).bind fun t192 => (some (decide ((wrap64 (t190 * t192)) < 0))))))) else (some false)))) = some r := H
    have A83 := aM A830
    clear A830
    replace H := oB.mp H
    obtain ⟨t187, A840, H⟩ := H
    replace H : ((spec_l1Sign.f t187).bind fun t188 => (if (wrap64 (t186 * t188)) < 0 then ((spec_pgTurn.f a2_0 a2_1 a3_0 a3_1 a0_0 a0_1).bind fun t189 => ((spec_l1Sign.f t189).bind fun t190 => ((spec_pgTurn.f a2_0 a2_1 a3_0 a3_1 a1_0 a1_1).bind fun t191 => ((spec_l1Sign.f t191).bind fun t192 => (some (decide ((wrap64 (t190 * t192)) < 0))))))) else (some false))) = some r := H
    have A84 := aM A840
    clear A840
    replace H := oB.mp H
    obtain ⟨t188, A850, H⟩ := H
    replace H : (if (wrap64 (t186 * t188)) < 0 then ((spec_pgTurn.f a2_0 a2_1 a3_0 a3_1 a0_0 a0_1).bind fun t189 => ((spec_l1Sign.f t189).bind fun t190 => ((spec_pgTurn.f a2_0 a2_1 a3_0 a3_1 a1_0 a1_1).bind fun t191 => ((spec_l1Sign.f t191).bind fun t192 => (some (decide ((wrap64 (t190 * t192)) < 0))))))) else (some false)) = some r := H
    have A85 := aM A850
    clear A850
    by_cases c86 : (wrap64 (t186 * t188)) < 0
    ·rw [if_pos c86] at H
     have c86b0 : decide ((wrap64 (t186 * t188)) < 0) = true := dE c86
     clear c86
     replace H := oB.mp H
     obtain ⟨t189, A870, H⟩ := H
     replace H : ((spec_l1Sign.f t189).bind fun t190 => ((spec_pgTurn.f a2_0 a2_1 a3_0 a3_1 a1_0 a1_1).bind fun t191 => ((spec_l1Sign.f t191).bind fun t192 => (some (decide ((wrap64 (t190 * t192)) < 0)))))) = some r := H
     have A87 := aM A870
     clear A870
     replace H := oB.mp H
     obtain ⟨t190, A880, H⟩ := H
     replace H : ((spec_pgTurn.f a2_0 a2_1 a3_0 a3_1 a1_0 a1_1).bind fun t191 => ((spec_l1Sign.f t191).bind fun t192 => (some (decide ((wrap64 (t190 * t192)) < 0))))) = some r := H
     have A88 := aM A880
     clear A880
     replace H := oB.mp H
     obtain ⟨t191, A890, H⟩ := H
     replace H : ((spec_l1Sign.f t191).bind fun t192 => (some (decide ((wrap64 (t190 * t192)) < 0)))) = some r := H
     have A89 := aM A890
     clear A890
     replace H := oB.mp H
     obtain ⟨t192, A900, H⟩ := H
     replace H : (some (decide ((wrap64 (t190 * t192)) < 0))) = some r := H
     have A90 := aM A900
     clear A900
     obtain rfl := Option.some.inj H
     try go_wp2
     have n0_ := aM (kD BK177.out)
     have n1_ := aM (kD BK178.out)
     have n2_ := aM (kD BK179.out)
     have n3_ := aM (kD BK180.out)
     have n4_ := aM (pD HB.out)
     clear BK177
     clear BK178
     clear BK179
     clear BK180
     clear HB
     have BK177 := n0_
     have BK178 := n1_
     have BK179 := n2_
     have BK180 := n3_
     have HB := n4_
     clear n0_ n1_ n2_ n3_ n4_
     refine start_ (n := 27) (S := fun w' => w'.cell? ⟨gb177, 0, none⟩ = some (.int .i64 a0_0) ∧ w'.cell? ⟨gb177, 1, none⟩ = some (.int .i64 a0_1) ∧ w'.cell? ⟨gb178, 0, none⟩ = some (.int .i64 a1_0) ∧ w'.cell? ⟨gb178, 1, none⟩ = some (.int .i64 a1_1) ∧ w'.cell? ⟨gb179, 0, none⟩ = some (.int .i64 a2_0) ∧ w'.cell? ⟨gb179, 1, none⟩ = some (.int .i64 a2_1) ∧ w'.cell? ⟨gb180, 0, none⟩ = some (.int .i64 a3_0) ∧ w'.cell? ⟨gb180, 1, none⟩ = some (.int .i64 a3_1)) (ds := []) #[false, false, false, false, false, false, false, false, false, false, false, false, false, false, false, false, false, false, false, false, false, false, false, false, false, false, false] (by kernel_rfl) rfl rfl ⟨(kC BK177.out 0).trans rfl, (kC BK177.out 1).trans rfl, (kC BK178.out 0).trans rfl, (kC BK178.out 1).trans rfl, (kC BK179.out 0).trans rfl, (kC BK179.out 1).trans rfl, (kC BK180.out 0).trans rfl, (kC BK180.out 1).trans rfl⟩ (fun hHeld => ?_); refine with_tabW spec_pgMeet.tab3 spec_pgMeet.bits3 (fun HT_ HW_ => ?_)
     generalize wc.drew = w91 at BK177 BK178 BK179 BK180 HB hHeld ⊢
     refine take_ (i := 0) (N := some 31) (v := ?_) (a' := ?_) #[true, false, false, false, false, false, false, false, false, false, false, false, false, false, false, false, false, false, false, false, false, false, false, false, false, false, false] rfl rfl (take_ofW HT_.out HW_.out (by kernel_rfl)) (fun _ _ _ h => h) (Or.inl ⟨by rfl, ?_⟩) hHeld ?_ ?_
     rotate_left
     ·rintro w' ⟨s0, s1, s2, s3, s4, s5, s6, s7⟩
      go_simp
      with_reducible rfl
     rotate_left
     ·simp only [Act.put, sI, sZ, sS, i64_w, i32_w]
      rfl
     refine take_ (i := 1) (N := some 32) (v := ?_) (a' := ?_) #[true, true, false, false, false, false, false, false, false, false, false, false, false, false, false, false, false, false, false, false, false, false, false, false, false, false, false] rfl rfl (take_ofW HT_.out HW_.out (by kernel_rfl)) (fun _ _ _ h => h) (Or.inl ⟨by rfl, ?_⟩) hHeld ?_ ?_
     rotate_left
     ·rintro w' ⟨s0, s1, s2, s3, s4, s5, s6, s7⟩
      go_simp
      with_reducible rfl
     rotate_left
     ·simp only [Act.put, sI, sZ, sS, i64_w, i32_w]
      rfl
     refine take_ (i := 2) (N := some 33) (v := ?_) (a' := ?_) #[true, true, true, false, false, false, false, false, false, false, false, false, false, false, false, false, false, false, false, false, false, false, false, false, false, false, false] rfl rfl (take_ofW HT_.out HW_.out (by kernel_rfl)) (fun _ _ _ h => h) (Or.inl ⟨by rfl, ?_⟩) hHeld ?_ ?_
     rotate_left
     ·rintro w' ⟨s0, s1, s2, s3, s4, s5, s6, s7⟩
      go_simp
      with_reducible rfl
     rotate_left
     ·simp only [Act.put, sI, sZ, sS, i64_w, i32_w]
      rfl
     refine take_ (i := 5) (N := some 36) (v := ?_) (a' := ?_) #[true, true, true, false, false, true, false, false, false, false, false, false, false, false, false, false, false, false, false, false, false, false, false, false, false, false, false] rfl rfl (take_ofW HT_.out HW_.out (by kernel_rfl)) (fun _ _ _ h => h) (Or.inl ⟨by rfl, ?_⟩) hHeld ?_ ?_
     rotate_left
     ·rintro w' ⟨s0, s1, s2, s3, s4, s5, s6, s7⟩
      go_simp
      with_reducible rfl
     rotate_left
     ·simp only [Act.put, sI, sZ, sS, i64_w, i32_w]
      rfl
     refine take_ (i := 6) (N := some 37) (v := ?_) (a' := ?_) #[true, true, true, false, false, true, true, false, false, false, false, false, false, false, false, false, false, false, false, false, false, false, false, false, false, false, false] rfl rfl (take_ofW HT_.out HW_.out (by kernel_rfl)) (fun _ _ _ h => h) (Or.inl ⟨by rfl, ?_⟩) hHeld ?_ ?_
     rotate_left
     ·rintro w' ⟨s0, s1, s2, s3, s4, s5, s6, s7⟩
      go_simp
      with_reducible rfl
     rotate_left
     ·simp only [Act.put, sI, sZ, sS, i64_w, i32_w]
      rfl
     refine take_ (i := 7) (N := some 38) (v := ?_) (a' := ?_) #[true, true, true, false, false, true, true, true, false, false, false, false, false, false, false, false, false, false, false, false, false, false, false, false, false, false, false] rfl rfl (take_ofW HT_.out HW_.out (by kernel_rfl)) (fun _ _ _ h => h) (Or.inl ⟨by rfl, ?_⟩) hHeld ?_ ?_
     rotate_left
     ·rintro w' ⟨s0, s1, s2, s3, s4, s5, s6, s7⟩
      go_simp
      with_reducible rfl
     rotate_left
     ·simp only [Act.put, sI, sZ, sS, i64_w, i32_w]
      rfl
     refine one_ (i := 3) (N := some 34) #[true, true, true, true, false, true, true, true, false, false, false, false, false, false, false, false, false, false, false, false, false, false, false, false, false, false, false] rfl rfl (one_of HT_.out (by kernel_rfl)) (by decide) (fun K hK => ?_)
     refine goes_ Try.func92 (by kernel_rfl) rfl #[.agg #[.int .i64 a0_0, .int .i64 a0_1], .agg #[.int .i64 a1_0, .int .i64 a1_1], .agg #[.int .i64 a2_0, .int .i64 a2_1]] (by rfl) rfl rfl (by (try simp only [mA, mC, mN]); first | done | rfl | (simp only [lD, lT]; rfl)) ?_
     with_reducible refine (spec_pgTurn.calls a0_0 a0_1 a1_0 a1_1 a2_0 a2_1 t185 _ A82.out).mono ?_
     rintro e w92 ⟨rfl, hb⟩
     refine ⟨_, rfl, ?_⟩
     have n0_ := aM (blk_below (g := gb177) (o := .cells #[.int .i64 a0_0, .int .i64 a0_1] 62 (0, 0)) (by (with_reducible repeat (first | refine kN ?_ _ | refine kD ?_ | refine kA ?_ _)); exact BK177.out) hb)
     have n1_ := aM (blk_below (g := gb178) (o := .cells #[.int .i64 a1_0, .int .i64 a1_1] 62 (0, 0)) (by (with_reducible repeat (first | refine kN ?_ _ | refine kD ?_ | refine kA ?_ _)); exact BK178.out) hb)
     have n2_ := aM (blk_below (g := gb179) (o := .cells #[.int .i64 a2_0, .int .i64 a2_1] 62 (0, 0)) (by (with_reducible repeat (first | refine kN ?_ _ | refine kD ?_ | refine kA ?_ _)); exact BK179.out) hb)
     have n3_ := aM (blk_below (g := gb180) (o := .cells #[.int .i64 a3_0, .int .i64 a3_1] 62 (0, 0)) (by (with_reducible repeat (first | refine kN ?_ _ | refine kD ?_ | refine kA ?_ _)); exact BK180.out) hb)
     have n4_ := aM (pT (by repeat (first | (with_reducible first | exact HB.out | apply pA | apply pN | apply pD | refine pS ?_ GE177.out | refine pS ?_ GE178.out | refine pS ?_ GE179.out | refine pS ?_ GE180.out) | exact HB.out)) hb)
     clear BK177
     clear BK178
     clear BK179
     clear BK180
     clear HB
     have BK177 := n0_
     have BK178 := n1_
     have BK179 := n2_
     have BK180 := n3_
     have HB := n4_
     clear n0_ n1_ n2_ n3_ n4_
     (try clear hb)
     (try clear hb2)
     (try clear hk)
     (try clear hi)
     refine hK.out _ _ ⟨(kC BK177.out 0).trans rfl, (kC BK177.out 1).trans rfl, (kC BK178.out 0).trans rfl, (kC BK178.out 1).trans rfl, (kC BK179.out 0).trans rfl, (kC BK179.out 1).trans rfl, (kC BK180.out 0).trans rfl, (kC BK180.out 1).trans rfl⟩ (fun hHeld => ?_)
     clear hK K
     refine norm_ (a' := ?_) ?_ ?_
     rotate_left
     ·show Act.put _ (some 34) _ = _
      simp only [Act.put, sI, sZ, sS, i64_w, i32_w]
      rfl
     refine one_ (i := 4) (N := some 35) #[true, true, true, true, true, true, true, true, false, false, false, false, false, false, false, false, false, false, false, false, false, false, false, false, false, false, false] rfl rfl (one_of HT_.out (by kernel_rfl)) (by decide) (fun K hK => ?_)
     refine goes_ Try.func80 (by kernel_rfl) rfl #[.int .i64 t185] (by rfl) rfl rfl (by (try simp only [mA, mC, mN]); first | done | rfl | (simp only [lD, lT]; rfl)) ?_
     with_reducible refine (spec_l1Sign.calls t185 t186 _ A83.out).mono ?_
     rintro e w' ⟨rfl, ⟨nd, rfl⟩⟩
     refine ⟨_, rfl, ?_⟩
     refine hK.out _ _ ⟨(kC BK177.out 0).trans rfl, (kC BK177.out 1).trans rfl, (kC BK178.out 0).trans rfl, (kC BK178.out 1).trans rfl, (kC BK179.out 0).trans rfl, (kC BK179.out 1).trans rfl, (kC BK180.out 0).trans rfl, (kC BK180.out 1).trans rfl⟩ (fun hHeld => ?_)
     clear hK K
     refine norm_ (a' := ?_) ?_ ?_
     rotate_left
     ·show Act.put _ (some 35) _ = _
      simp only [Act.put, sI, sZ, sS, i64_w, i32_w]
      rfl
     refine one_ (i := 8) (N := some 39) #[true, true, true, true, true, true, true, true, true, false, false, false, false, false, false, false, false, false, false, false, false, false, false, false, false, false, false] rfl rfl (one_of HT_.out (by kernel_rfl)) (by decide) (fun K hK => ?_)
     refine goes_ Try.func92 (by kernel_rfl) rfl #[.agg #[.int .i64 a0_0, .int .i64 a0_1], .agg #[.int .i64 a1_0, .int .i64 a1_1], .agg #[.int .i64 a3_0, .int .i64 a3_1]] (by rfl) rfl rfl (by (try simp only [mA, mC, mN]); first | done | rfl | (simp only [lD, lT]; rfl)) ?_
     with_reducible refine (spec_pgTurn.calls a0_0 a0_1 a1_0 a1_1 a3_0 a3_1 t187 _ A84.out).mono ?_
     rintro e w93 ⟨rfl, hb⟩
     refine ⟨_, rfl, ?_⟩
     have n0_ := aM (blk_below (g := gb177) (o := .cells #[.int .i64 a0_0, .int .i64 a0_1] 62 (0, 0)) (by (with_reducible repeat (first | refine kN ?_ _ | refine kD ?_ | refine kA ?_ _)); exact BK177.out) hb)
     have n1_ := aM (blk_below (g := gb178) (o := .cells #[.int .i64 a1_0, .int .i64 a1_1] 62 (0, 0)) (by (with_reducible repeat (first | refine kN ?_ _ | refine kD ?_ | refine kA ?_ _)); exact BK178.out) hb)
     have n2_ := aM (blk_below (g := gb179) (o := .cells #[.int .i64 a2_0, .int .i64 a2_1] 62 (0, 0)) (by (with_reducible repeat (first | refine kN ?_ _ | refine kD ?_ | refine kA ?_ _)); exact BK179.out) hb)
     have n3_ := aM (blk_below (g := gb180) (o := .cells #[.int .i64 a3_0, .int .i64 a3_1] 62 (0, 0)) (by (with_reducible repeat (first | refine kN ?_ _ | refine kD ?_ | refine kA ?_ _)); exact BK180.out) hb)
     have n4_ := aM (pT (by repeat (first | (with_reducible first | exact HB.out | apply pA | apply pN | apply pD | refine pS ?_ GE177.out | refine pS ?_ GE178.out | refine pS ?_ GE179.out | refine pS ?_ GE180.out) | exact HB.out)) hb)
     clear BK177
     clear BK178
     clear BK179
     clear BK180
     clear HB
     have BK177 := n0_
     have BK178 := n1_
     have BK179 := n2_
     have BK180 := n3_
     have HB := n4_
     clear n0_ n1_ n2_ n3_ n4_
     (try clear hb)
     (try clear hb2)
     (try clear hk)
     (try clear hi)
     refine hK.out _ _ ⟨(kC BK177.out 0).trans rfl, (kC BK177.out 1).trans rfl, (kC BK178.out 0).trans rfl, (kC BK178.out 1).trans rfl, (kC BK179.out 0).trans rfl, (kC BK179.out 1).trans rfl, (kC BK180.out 0).trans rfl, (kC BK180.out 1).trans rfl⟩ (fun hHeld => ?_)
     clear hK K
     refine norm_ (a' := ?_) ?_ ?_
     rotate_left
     ·show Act.put _ (some 39) _ = _
      simp only [Act.put, sI, sZ, sS, i64_w, i32_w]
      rfl
     refine one_ (i := 9) (N := some 40) #[true, true, true, true, true, true, true, true, true, true, false, false, false, false, false, false, false, false, false, false, false, false, false, false, false, false, false] rfl rfl (one_of HT_.out (by kernel_rfl)) (by decide) (fun K hK => ?_)
     refine goes_ Try.func80 (by kernel_rfl) rfl #[.int .i64 t187] (by rfl) rfl rfl (by (try simp only [mA, mC, mN]); first | done | rfl | (simp only [lD, lT]; rfl)) ?_
     with_reducible refine (spec_l1Sign.calls t187 t188 _ A85.out).mono ?_
     rintro e w' ⟨rfl, ⟨nd, rfl⟩⟩
     refine ⟨_, rfl, ?_⟩
     refine hK.out _ _ ⟨(kC BK177.out 0).trans rfl, (kC BK177.out 1).trans rfl, (kC BK178.out 0).trans rfl, (kC BK178.out 1).trans rfl, (kC BK179.out 0).trans rfl, (kC BK179.out 1).trans rfl, (kC BK180.out 0).trans rfl, (kC BK180.out 1).trans rfl⟩ (fun hHeld => ?_)
     clear hK K
     refine norm_ (a' := ?_) ?_ ?_
     rotate_left
     ·show Act.put _ (some 40) _ = _
      simp only [Act.put, sI, sZ, sS, i64_w, i32_w]
      rfl
     refine pure_ (i := 10) (N := some 41) (v := ?_) (a' := ?_) #[true, true, true, true, true, true, true, true, true, true, true, false, false, false, false, false, false, false, false, false, false, false, false, false, false, false, false] rfl rfl (any_of HT_.out (by kernel_rfl)) (fun _ _ _ h => h) (Or.inl ⟨by rfl, ?_⟩) ?_ ?_
     rotate_left
     ·intro w'
      go_simp
      with_reducible rfl
     rotate_left
     ·simp only [Act.put, sI, sZ, sS, i64_w, i32_w]
      rfl
     refine pure_ (i := 11) (N := some 42) (v := ?_) (a' := ?_) #[true, true, true, true, true, true, true, true, true, true, true, true, false, false, false, false, false, false, false, false, false, false, false, false, false, false, false] rfl rfl (any_of HT_.out (by kernel_rfl)) (fun _ _ _ h => h) (Or.inl ⟨by rfl, ?_⟩) ?_ ?_
     rotate_left
     ·intro w'
      go_simp
      with_reducible rfl
     rotate_left
     ·simp only [Act.put, sI, sZ, sS, i64_w, i32_w]
      rfl
     refine pure_ (i := 12) (N := some 43) (v := ?_) (a' := ?_) #[true, true, true, true, true, true, true, true, true, true, true, true, true, false, false, false, false, false, false, false, false, false, false, false, false, false, false] rfl rfl (any_of HT_.out (by kernel_rfl)) (fun _ _ _ h => h) (Or.inl ⟨by rfl, ?_⟩) ?_ ?_
     rotate_left
     ·intro w'
      go_simp
      with_reducible rfl
     rotate_left
     ·simp only [Act.put, sI, sZ, sS, i64_w, i32_w]
      rfl
     refine take_ (i := 13) (N := some 44) (v := ?_) (a' := ?_) #[true, true, true, true, true, true, true, true, true, true, true, true, true, true, false, false, false, false, false, false, false, false, false, false, false, false, false] rfl rfl (take_ofW HT_.out HW_.out (by kernel_rfl)) (fun _ _ _ h => h) (Or.inl ⟨by rfl, ?_⟩) hHeld ?_ ?_
     rotate_left
     ·rintro w' ⟨s0, s1, s2, s3, s4, s5, s6, s7⟩
      go_simp
      with_reducible rfl
     rotate_left
     ·simp only [Act.put, sI, sZ, sS, i64_w, i32_w]
      rfl
     refine take_ (i := 14) (N := some 45) (v := ?_) (a' := ?_) #[true, true, true, true, true, true, true, true, true, true, true, true, true, true, true, false, false, false, false, false, false, false, false, false, false, false, false] rfl rfl (take_ofW HT_.out HW_.out (by kernel_rfl)) (fun _ _ _ h => h) (Or.inl ⟨by rfl, ?_⟩) hHeld ?_ ?_
     rotate_left
     ·rintro w' ⟨s0, s1, s2, s3, s4, s5, s6, s7⟩
      go_simp
      with_reducible rfl
     rotate_left
     ·simp only [Act.put, sI, sZ, sS, i64_w, i32_w]
      rfl
     refine take_ (i := 15) (N := some 46) (v := ?_) (a' := ?_) #[true, true, true, true, true, true, true, true, true, true, true, true, true, true, true, true, false, false, false, false, false, false, false, false, false, false, false] rfl rfl (take_ofW HT_.out HW_.out (by kernel_rfl)) (fun _ _ _ h => h) (Or.inl ⟨by rfl, ?_⟩) hHeld ?_ ?_
     rotate_left
     ·rintro w' ⟨s0, s1, s2, s3, s4, s5, s6, s7⟩
      go_simp
      with_reducible rfl
     rotate_left
     ·simp only [Act.put, sI, sZ, sS, i64_w, i32_w]
      rfl
     refine take_ (i := 18) (N := some 49) (v := ?_) (a' := ?_) #[true, true, true, true, true, true, true, true, true, true, true, true, true, true, true, true, false, false, true, false, false, false, false, false, false, false, false] rfl rfl (take_ofW HT_.out HW_.out (by kernel_rfl)) (fun _ _ _ h => h) (Or.inl ⟨by rfl, ?_⟩) hHeld ?_ ?_
     rotate_left
     ·rintro w' ⟨s0, s1, s2, s3, s4, s5, s6, s7⟩
      go_simp
      with_reducible rfl
     rotate_left
     ·simp only [Act.put, sI, sZ, sS, i64_w, i32_w]
      rfl
     refine take_ (i := 19) (N := some 50) (v := ?_) (a' := ?_) #[true, true, true, true, true, true, true, true, true, true, true, true, true, true, true, true, false, false, true, true, false, false, false, false, false, false, false] rfl rfl (take_ofW HT_.out HW_.out (by kernel_rfl)) (fun _ _ _ h => h) (Or.inl ⟨by rfl, ?_⟩) hHeld ?_ ?_
     rotate_left
     ·rintro w' ⟨s0, s1, s2, s3, s4, s5, s6, s7⟩
      go_simp
      with_reducible rfl
     rotate_left
     ·simp only [Act.put, sI, sZ, sS, i64_w, i32_w]
      rfl
     refine take_ (i := 20) (N := some 51) (v := ?_) (a' := ?_) #[true, true, true, true, true, true, true, true, true, true, true, true, true, true, true, true, false, false, true, true, true, false, false, false, false, false, false] rfl rfl (take_ofW HT_.out HW_.out (by kernel_rfl)) (fun _ _ _ h => h) (Or.inl ⟨by rfl, ?_⟩) hHeld ?_ ?_
     rotate_left
     ·rintro w' ⟨s0, s1, s2, s3, s4, s5, s6, s7⟩
      go_simp
      with_reducible rfl
     rotate_left
     ·simp only [Act.put, sI, sZ, sS, i64_w, i32_w]
      rfl
     refine one_ (i := 16) (N := some 47) #[true, true, true, true, true, true, true, true, true, true, true, true, true, true, true, true, true, false, true, true, true, false, false, false, false, false, false] rfl rfl (one_of HT_.out (by kernel_rfl)) (by decide) (fun K hK => ?_)
     refine goes_ Try.func92 (by kernel_rfl) rfl #[.agg #[.int .i64 a2_0, .int .i64 a2_1], .agg #[.int .i64 a3_0, .int .i64 a3_1], .agg #[.int .i64 a0_0, .int .i64 a0_1]] (by rfl) rfl rfl (by (try simp only [mA, mC, mN]); first | done | rfl | (simp only [lD, lT]; rfl)) ?_
     with_reducible refine (spec_pgTurn.calls a2_0 a2_1 a3_0 a3_1 a0_0 a0_1 t189 _ A87.out).mono ?_
     rintro e w94 ⟨rfl, hb⟩
     refine ⟨_, rfl, ?_⟩
     have n0_ := aM (blk_below (g := gb177) (o := .cells #[.int .i64 a0_0, .int .i64 a0_1] 62 (0, 0)) (by (with_reducible repeat (first | refine kN ?_ _ | refine kD ?_ | refine kA ?_ _)); exact BK177.out) hb)
     have n1_ := aM (blk_below (g := gb178) (o := .cells #[.int .i64 a1_0, .int .i64 a1_1] 62 (0, 0)) (by (with_reducible repeat (first | refine kN ?_ _ | refine kD ?_ | refine kA ?_ _)); exact BK178.out) hb)
     have n2_ := aM (blk_below (g := gb179) (o := .cells #[.int .i64 a2_0, .int .i64 a2_1] 62 (0, 0)) (by (with_reducible repeat (first | refine kN ?_ _ | refine kD ?_ | refine kA ?_ _)); exact BK179.out) hb)
     have n3_ := aM (blk_below (g := gb180) (o := .cells #[.int .i64 a3_0, .int .i64 a3_1] 62 (0, 0)) (by (with_reducible repeat (first | refine kN ?_ _ | refine kD ?_ | refine kA ?_ _)); exact BK180.out) hb)
     have n4_ := aM (pT (by repeat (first | (with_reducible first | exact HB.out | apply pA | apply pN | apply pD | refine pS ?_ GE177.out | refine pS ?_ GE178.out | refine pS ?_ GE179.out | refine pS ?_ GE180.out) | exact HB.out)) hb)
     clear BK177
     clear BK178
     clear BK179
     clear BK180
     clear HB
     have BK177 := n0_
     have BK178 := n1_
     have BK179 := n2_
     have BK180 := n3_
     have HB := n4_
     clear n0_ n1_ n2_ n3_ n4_
     (try clear hb)
     (try clear hb2)
     (try clear hk)
     (try clear hi)
     refine hK.out _ _ ⟨(kC BK177.out 0).trans rfl, (kC BK177.out 1).trans rfl, (kC BK178.out 0).trans rfl, (kC BK178.out 1).trans rfl, (kC BK179.out 0).trans rfl, (kC BK179.out 1).trans rfl, (kC BK180.out 0).trans rfl, (kC BK180.out 1).trans rfl⟩ (fun hHeld => ?_)
     clear hK K
     refine norm_ (a' := ?_) ?_ ?_
     rotate_left
     ·show Act.put _ (some 47) _ = _
      simp only [Act.put, sI, sZ, sS, i64_w, i32_w]
      rfl
     refine one_ (i := 17) (N := some 48) #[true, true, true, true, true, true, true, true, true, true, true, true, true, true, true, true, true, true, true, true, true, false, false, false, false, false, false] rfl rfl (one_of HT_.out (by kernel_rfl)) (by decide) (fun K hK => ?_)
     refine goes_ Try.func80 (by kernel_rfl) rfl #[.int .i64 t189] (by rfl) rfl rfl (by (try simp only [mA, mC, mN]); first | done | rfl | (simp only [lD, lT]; rfl)) ?_
     with_reducible refine (spec_l1Sign.calls t189 t190 _ A88.out).mono ?_
     rintro e w' ⟨rfl, ⟨nd, rfl⟩⟩
     refine ⟨_, rfl, ?_⟩
     refine hK.out _ _ ⟨(kC BK177.out 0).trans rfl, (kC BK177.out 1).trans rfl, (kC BK178.out 0).trans rfl, (kC BK178.out 1).trans rfl, (kC BK179.out 0).trans rfl, (kC BK179.out 1).trans rfl, (kC BK180.out 0).trans rfl, (kC BK180.out 1).trans rfl⟩ (fun hHeld => ?_)
     clear hK K
     refine norm_ (a' := ?_) ?_ ?_
     rotate_left
     ·show Act.put _ (some 48) _ = _
      simp only [Act.put, sI, sZ, sS, i64_w, i32_w]
      rfl
     refine one_ (i := 21) (N := some 52) #[true, true, true, true, true, true, true, true, true, true, true, true, true, true, true, true, true, true, true, true, true, true, false, false, false, false, false] rfl rfl (one_of HT_.out (by kernel_rfl)) (by decide) (fun K hK => ?_)
     refine goes_ Try.func92 (by kernel_rfl) rfl #[.agg #[.int .i64 a2_0, .int .i64 a2_1], .agg #[.int .i64 a3_0, .int .i64 a3_1], .agg #[.int .i64 a1_0, .int .i64 a1_1]] (by rfl) rfl rfl (by (try simp only [mA, mC, mN]); first | done | rfl | (simp only [lD, lT]; rfl)) ?_
     with_reducible refine (spec_pgTurn.calls a2_0 a2_1 a3_0 a3_1 a1_0 a1_1 t191 _ A89.out).mono ?_
     rintro e w95 ⟨rfl, hb⟩
     refine ⟨_, rfl, ?_⟩
     have n0_ := aM (blk_below (g := gb177) (o := .cells #[.int .i64 a0_0, .int .i64 a0_1] 62 (0, 0)) (by (with_reducible repeat (first | refine kN ?_ _ | refine kD ?_ | refine kA ?_ _)); exact BK177.out) hb)
     have n1_ := aM (blk_below (g := gb178) (o := .cells #[.int .i64 a1_0, .int .i64 a1_1] 62 (0, 0)) (by (with_reducible repeat (first | refine kN ?_ _ | refine kD ?_ | refine kA ?_ _)); exact BK178.out) hb)
     have n2_ := aM (blk_below (g := gb179) (o := .cells #[.int .i64 a2_0, .int .i64 a2_1] 62 (0, 0)) (by (with_reducible repeat (first | refine kN ?_ _ | refine kD ?_ | refine kA ?_ _)); exact BK179.out) hb)
     have n3_ := aM (blk_below (g := gb180) (o := .cells #[.int .i64 a3_0, .int .i64 a3_1] 62 (0, 0)) (by (with_reducible repeat (first | refine kN ?_ _ | refine kD ?_ | refine kA ?_ _)); exact BK180.out) hb)
     have n4_ := aM (pT (by repeat (first | (with_reducible first | exact HB.out | apply pA | apply pN | apply pD | refine pS ?_ GE177.out | refine pS ?_ GE178.out | refine pS ?_ GE179.out | refine pS ?_ GE180.out) | exact HB.out)) hb)
     clear BK177
     clear BK178
     clear BK179
     clear BK180
     clear HB
     have BK177 := n0_
     have BK178 := n1_
     have BK179 := n2_
     have BK180 := n3_
     have HB := n4_
     clear n0_ n1_ n2_ n3_ n4_
     (try clear hb)
     (try clear hb2)
     (try clear hk)
     (try clear hi)
     refine hK.out _ _ ⟨(kC BK177.out 0).trans rfl, (kC BK177.out 1).trans rfl, (kC BK178.out 0).trans rfl, (kC BK178.out 1).trans rfl, (kC BK179.out 0).trans rfl, (kC BK179.out 1).trans rfl, (kC BK180.out 0).trans rfl, (kC BK180.out 1).trans rfl⟩ (fun hHeld => ?_)
     clear hK K
     refine norm_ (a' := ?_) ?_ ?_
     rotate_left
     ·show Act.put _ (some 52) _ = _
      simp only [Act.put, sI, sZ, sS, i64_w, i32_w]
      rfl
     refine one_ (i := 22) (N := some 53) #[true, true, true, true, true, true, true, true, true, true, true, true, true, true, true, true, true, true, true, true, true, true, true, false, false, false, false] rfl rfl (one_of HT_.out (by kernel_rfl)) (by decide) (fun K hK => ?_)
     refine goes_ Try.func80 (by kernel_rfl) rfl #[.int .i64 t191] (by rfl) rfl rfl (by (try simp only [mA, mC, mN]); first | done | rfl | (simp only [lD, lT]; rfl)) ?_
     with_reducible refine (spec_l1Sign.calls t191 t192 _ A90.out).mono ?_
     rintro e w' ⟨rfl, ⟨nd, rfl⟩⟩
     refine ⟨_, rfl, ?_⟩
     refine hK.out _ _ ⟨(kC BK177.out 0).trans rfl, (kC BK177.out 1).trans rfl, (kC BK178.out 0).trans rfl, (kC BK178.out 1).trans rfl, (kC BK179.out 0).trans rfl, (kC BK179.out 1).trans rfl, (kC BK180.out 0).trans rfl, (kC BK180.out 1).trans rfl⟩ (fun hHeld => ?_)
     clear hK K
     refine norm_ (a' := ?_) ?_ ?_
     rotate_left
     ·show Act.put _ (some 53) _ = _
      simp only [Act.put, sI, sZ, sS, i64_w, i32_w]
      rfl
     refine pure_ (i := 23) (N := some 54) (v := ?_) (a' := ?_) #[true, true, true, true, true, true, true, true, true, true, true, true, true, true, true, true, true, true, true, true, true, true, true, true, false, false, false] rfl rfl (any_of HT_.out (by kernel_rfl)) (fun _ _ _ h => h) (Or.inl ⟨by rfl, ?_⟩) ?_ ?_
     rotate_left
     ·intro w'
      go_simp
      with_reducible rfl
     rotate_left
     ·simp only [Act.put, sI, sZ, sS, i64_w, i32_w]
      rfl
     refine pure_ (i := 24) (N := some 55) (v := ?_) (a' := ?_) #[true, true, true, true, true, true, true, true, true, true, true, true, true, true, true, true, true, true, true, true, true, true, true, true, true, false, false] rfl rfl (any_of HT_.out (by kernel_rfl)) (fun _ _ _ h => h) (Or.inl ⟨by rfl, ?_⟩) ?_ ?_
     rotate_left
     ·intro w'
      go_simp
      with_reducible rfl
     rotate_left
     ·simp only [Act.put, sI, sZ, sS, i64_w, i32_w]
      rfl
     refine pure_ (i := 25) (N := some 56) (v := ?_) (a' := ?_) #[true, true, true, true, true, true, true, true, true, true, true, true, true, true, true, true, true, true, true, true, true, true, true, true, true, true, false] rfl rfl (any_of HT_.out (by kernel_rfl)) (fun _ _ _ h => h) (Or.inl ⟨by rfl, ?_⟩) ?_ ?_
     rotate_left
     ·intro w'
      go_simp
      with_reducible rfl
     rotate_left
     ·simp only [Act.put, sI, sZ, sS, i64_w, i32_w]
      rfl
     refine pure_ (i := 26) (N := some 8) (v := ?_) (a' := ?_) #[true, true, true, true, true, true, true, true, true, true, true, true, true, true, true, true, true, true, true, true, true, true, true, true, true, true, true] rfl rfl (any_of HT_.out (by kernel_rfl)) (fun _ _ _ h => h) (Or.inl ⟨by rfl, ?_⟩) ?_ ?_
     rotate_left
     ·intro w'
      go_simp
      with_reducible rfl
     rotate_left
     ·simp only [Act.put, sI, sZ, sS, i64_w, i32_w]
      rfl
     refine done_ (done_of HT_.out (by kernel_rfl)) ?_
     try go_wp2
     go_ret
     exact ⟨by first | rfl | (simp [errW_none, errW_some] <;> rfl) | (simp [*, errW_none, errW_some] <;> rfl), by repeat (first | (with_reducible first | exact HB.out | apply pA | apply pN | apply pD | refine pS ?_ GE177.out | refine pS ?_ GE178.out | refine pS ?_ GE179.out | refine pS ?_ GE180.out) | exact HB.out)⟩
    ·rw [if_neg c86] at H
     have c86b0 : decide ((wrap64 (t186 * t188)) < 0) = false := decide_eq_false c86
     clear c86
     obtain rfl := Option.some.inj H
     try go_wp2
     have n0_ := aM (kD BK177.out)
     have n1_ := aM (kD BK178.out)
     have n2_ := aM (kD BK179.out)
     have n3_ := aM (kD BK180.out)
     have n4_ := aM (pD HB.out)
     clear BK177
     clear BK178
     clear BK179
     clear BK180
     clear HB
     have BK177 := n0_
     have BK178 := n1_
     have BK179 := n2_
     have BK180 := n3_
     have HB := n4_
     clear n0_ n1_ n2_ n3_ n4_
     refine start_ (n := 27) (S := fun w' => w'.cell? ⟨gb177, 0, none⟩ = some (.int .i64 a0_0) ∧ w'.cell? ⟨gb177, 1, none⟩ = some (.int .i64 a0_1) ∧ w'.cell? ⟨gb178, 0, none⟩ = some (.int .i64 a1_0) ∧ w'.cell? ⟨gb178, 1, none⟩ = some (.int .i64 a1_1) ∧ w'.cell? ⟨gb179, 0, none⟩ = some (.int .i64 a2_0) ∧ w'.cell? ⟨gb179, 1, none⟩ = some (.int .i64 a2_1) ∧ w'.cell? ⟨gb180, 0, none⟩ = some (.int .i64 a3_0) ∧ w'.cell? ⟨gb180, 1, none⟩ = some (.int .i64 a3_1)) (ds := []) #[false, false, false, false, false, false, false, false, false, false, false, false, false, false, false, false, false, false, false, false, false, false, false, false, false, false, false] (by kernel_rfl) rfl rfl ⟨(kC BK177.out 0).trans rfl, (kC BK177.out 1).trans rfl, (kC BK178.out 0).trans rfl, (kC BK178.out 1).trans rfl, (kC BK179.out 0).trans rfl, (kC BK179.out 1).trans rfl, (kC BK180.out 0).trans rfl, (kC BK180.out 1).trans rfl⟩ (fun hHeld => ?_); refine with_tabW spec_pgMeet.tab3 spec_pgMeet.bits3 (fun HT_ HW_ => ?_)
     generalize wc.drew = w96 at BK177 BK178 BK179 BK180 HB hHeld ⊢
     refine take_ (i := 0) (N := some 31) (v := ?_) (a' := ?_) #[true, false, false, false, false, false, false, false, false, false, false, false, false, false, false, false, false, false, false, false, false, false, false, false, false, false, false] rfl rfl (take_ofW HT_.out HW_.out (by kernel_rfl)) (fun _ _ _ h => h) (Or.inl ⟨by rfl, ?_⟩) hHeld ?_ ?_
     rotate_left
     ·rintro w' ⟨s0, s1, s2, s3, s4, s5, s6, s7⟩
      go_simp
      with_reducible rfl
     rotate_left
     ·simp only [Act.put, sI, sZ, sS, i64_w, i32_w]
      rfl
     refine take_ (i := 1) (N := some 32) (v := ?_) (a' := ?_) #[true, true, false, false, false, false, false, false, false, false, false, false, false, false, false, false, false, false, false, false, false, false, false, false, false, false, false] rfl rfl (take_ofW HT_.out HW_.out (by kernel_rfl)) (fun _ _ _ h => h) (Or.inl ⟨by rfl, ?_⟩) hHeld ?_ ?_
     rotate_left
     ·rintro w' ⟨s0, s1, s2, s3, s4, s5, s6, s7⟩
      go_simp
      with_reducible rfl
     rotate_left
     ·simp only [Act.put, sI, sZ, sS, i64_w, i32_w]
      rfl
     refine take_ (i := 2) (N := some 33) (v := ?_) (a' := ?_) #[true, true, true, false, false, false, false, false, false, false, false, false, false, false, false, false, false, false, false, false, false, false, false, false, false, false, false] rfl rfl (take_ofW HT_.out HW_.out (by kernel_rfl)) (fun _ _ _ h => h) (Or.inl ⟨by rfl, ?_⟩) hHeld ?_ ?_
     rotate_left
     ·rintro w' ⟨s0, s1, s2, s3, s4, s5, s6, s7⟩
      go_simp
      with_reducible rfl
     rotate_left
     ·simp only [Act.put, sI, sZ, sS, i64_w, i32_w]
      rfl
     refine take_ (i := 5) (N := some 36) (v := ?_) (a' := ?_) #[true, true, true, false, false, true, false, false, false, false, false, false, false, false, false, false, false, false, false, false, false, false, false, false, false, false, false] rfl rfl (take_ofW HT_.out HW_.out (by kernel_rfl)) (fun _ _ _ h => h) (Or.inl ⟨by rfl, ?_⟩) hHeld ?_ ?_
     rotate_left
     ·rintro w' ⟨s0, s1, s2, s3, s4, s5, s6, s7⟩
      go_simp
      with_reducible rfl
     rotate_left
     ·simp only [Act.put, sI, sZ, sS, i64_w, i32_w]
      rfl
     refine take_ (i := 6) (N := some 37) (v := ?_) (a' := ?_) #[true, true, true, false, false, true, true, false, false, false, false, false, false, false, false, false, false, false, false, false, false, false, false, false, false, false, false] rfl rfl (take_ofW HT_.out HW_.out (by kernel_rfl)) (fun _ _ _ h => h) (Or.inl ⟨by rfl, ?_⟩) hHeld ?_ ?_
     rotate_left
     ·rintro w' ⟨s0, s1, s2, s3, s4, s5, s6, s7⟩
      go_simp
      with_reducible rfl
     rotate_left
     ·simp only [Act.put, sI, sZ, sS, i64_w, i32_w]
      rfl
     refine take_ (i := 7) (N := some 38) (v := ?_) (a' := ?_) #[true, true, true, false, false, true, true, true, false, false, false, false, false, false, false, false, false, false, false, false, false, false, false, false, false, false, false] rfl rfl (take_ofW HT_.out HW_.out (by kernel_rfl)) (fun _ _ _ h => h) (Or.inl ⟨by rfl, ?_⟩) hHeld ?_ ?_
     rotate_left
     ·rintro w' ⟨s0, s1, s2, s3, s4, s5, s6, s7⟩
      go_simp
      with_reducible rfl
     rotate_left
     ·simp only [Act.put, sI, sZ, sS, i64_w, i32_w]
      rfl
     refine one_ (i := 3) (N := some 34) #[true, true, true, true, false, true, true, true, false, false, false, false, false, false, false, false, false, false, false, false, false, false, false, false, false, false, false] rfl rfl (one_of HT_.out (by kernel_rfl)) (by decide) (fun K hK => ?_)
     refine goes_ Try.func92 (by kernel_rfl) rfl #[.agg #[.int .i64 a0_0, .int .i64 a0_1], .agg #[.int .i64 a1_0, .int .i64 a1_1], .agg #[.int .i64 a2_0, .int .i64 a2_1]] (by rfl) rfl rfl (by (try simp only [mA, mC, mN]); first | done | rfl | (simp only [lD, lT]; rfl)) ?_
     with_reducible refine (spec_pgTurn.calls a0_0 a0_1 a1_0 a1_1 a2_0 a2_1 t185 _ A82.out).mono ?_
     rintro e w97 ⟨rfl, hb⟩
     refine ⟨_, rfl, ?_⟩
     have n0_ := aM (blk_below (g := gb177) (o := .cells #[.int .i64 a0_0, .int .i64 a0_1] 62 (0, 0)) (by (with_reducible repeat (first | refine kN ?_ _ | refine kD ?_ | refine kA ?_ _)); exact BK177.out) hb)
     have n1_ := aM (blk_below (g := gb178) (o := .cells #[.int .i64 a1_0, .int .i64 a1_1] 62 (0, 0)) (by (with_reducible repeat (first | refine kN ?_ _ | refine kD ?_ | refine kA ?_ _)); exact BK178.out) hb)
     have n2_ := aM (blk_below (g := gb179) (o := .cells #[.int .i64 a2_0, .int .i64 a2_1] 62 (0, 0)) (by (with_reducible repeat (first | refine kN ?_ _ | refine kD ?_ | refine kA ?_ _)); exact BK179.out) hb)
     have n3_ := aM (blk_below (g := gb180) (o := .cells #[.int .i64 a3_0, .int .i64 a3_1] 62 (0, 0)) (by (with_reducible repeat (first | refine kN ?_ _ | refine kD ?_ | refine kA ?_ _)); exact BK180.out) hb)
     have n4_ := aM (pT (by repeat (first | (with_reducible first | exact HB.out | apply pA | apply pN | apply pD | refine pS ?_ GE177.out | refine pS ?_ GE178.out | refine pS ?_ GE179.out | refine pS ?_ GE180.out) | exact HB.out)) hb)
     clear BK177
     clear BK178
     clear BK179
     clear BK180
     clear HB
     have BK177 := n0_
     have BK178 := n1_
     have BK179 := n2_
     have BK180 := n3_
     have HB := n4_
     clear n0_ n1_ n2_ n3_ n4_
     (try clear hb)
     (try clear hb2)
     (try clear hk)
     (try clear hi)
     refine hK.out _ _ ⟨(kC BK177.out 0).trans rfl, (kC BK177.out 1).trans rfl, (kC BK178.out 0).trans rfl, (kC BK178.out 1).trans rfl, (kC BK179.out 0).trans rfl, (kC BK179.out 1).trans rfl, (kC BK180.out 0).trans rfl, (kC BK180.out 1).trans rfl⟩ (fun hHeld => ?_)
     clear hK K
     refine norm_ (a' := ?_) ?_ ?_
     rotate_left
     ·show Act.put _ (some 34) _ = _
      simp only [Act.put, sI, sZ, sS, i64_w, i32_w]
      rfl
     refine one_ (i := 4) (N := some 35) #[true, true, true, true, true, true, true, true, false, false, false, false, false, false, false, false, false, false, false, false, false, false, false, false, false, false, false] rfl rfl (one_of HT_.out (by kernel_rfl)) (by decide) (fun K hK => ?_)
     refine goes_ Try.func80 (by kernel_rfl) rfl #[.int .i64 t185] (by rfl) rfl rfl (by (try simp only [mA, mC, mN]); first | done | rfl | (simp only [lD, lT]; rfl)) ?_
     with_reducible refine (spec_l1Sign.calls t185 t186 _ A83.out).mono ?_
     rintro e w' ⟨rfl, ⟨nd, rfl⟩⟩
     refine ⟨_, rfl, ?_⟩
     refine hK.out _ _ ⟨(kC BK177.out 0).trans rfl, (kC BK177.out 1).trans rfl, (kC BK178.out 0).trans rfl, (kC BK178.out 1).trans rfl, (kC BK179.out 0).trans rfl, (kC BK179.out 1).trans rfl, (kC BK180.out 0).trans rfl, (kC BK180.out 1).trans rfl⟩ (fun hHeld => ?_)
     clear hK K
     refine norm_ (a' := ?_) ?_ ?_
     rotate_left
     ·show Act.put _ (some 35) _ = _
      simp only [Act.put, sI, sZ, sS, i64_w, i32_w]
      rfl
     refine one_ (i := 8) (N := some 39) #[true, true, true, true, true, true, true, true, true, false, false, false, false, false, false, false, false, false, false, false, false, false, false, false, false, false, false] rfl rfl (one_of HT_.out (by kernel_rfl)) (by decide) (fun K hK => ?_)
     refine goes_ Try.func92 (by kernel_rfl) rfl #[.agg #[.int .i64 a0_0, .int .i64 a0_1], .agg #[.int .i64 a1_0, .int .i64 a1_1], .agg #[.int .i64 a3_0, .int .i64 a3_1]] (by rfl) rfl rfl (by (try simp only [mA, mC, mN]); first | done | rfl | (simp only [lD, lT]; rfl)) ?_
     with_reducible refine (spec_pgTurn.calls a0_0 a0_1 a1_0 a1_1 a3_0 a3_1 t187 _ A84.out).mono ?_
     rintro e w98 ⟨rfl, hb⟩
     refine ⟨_, rfl, ?_⟩
     have n0_ := aM (blk_below (g := gb177) (o := .cells #[.int .i64 a0_0, .int .i64 a0_1] 62 (0, 0)) (by (with_reducible repeat (first | refine kN ?_ _ | refine kD ?_ | refine kA ?_ _)); exact BK177.out) hb)
     have n1_ := aM (blk_below (g := gb178) (o := .cells #[.int .i64 a1_0, .int .i64 a1_1] 62 (0, 0)) (by (with_reducible repeat (first | refine kN ?_ _ | refine kD ?_ | refine kA ?_ _)); exact BK178.out) hb)
     have n2_ := aM (blk_below (g := gb179) (o := .cells #[.int .i64 a2_0, .int .i64 a2_1] 62 (0, 0)) (by (with_reducible repeat (first | refine kN ?_ _ | refine kD ?_ | refine kA ?_ _)); exact BK179.out) hb)
     have n3_ := aM (blk_below (g := gb180) (o := .cells #[.int .i64 a3_0, .int .i64 a3_1] 62 (0, 0)) (by (with_reducible repeat (first | refine kN ?_ _ | refine kD ?_ | refine kA ?_ _)); exact BK180.out) hb)
     have n4_ := aM (pT (by repeat (first | (with_reducible first | exact HB.out | apply pA | apply pN | apply pD | refine pS ?_ GE177.out | refine pS ?_ GE178.out | refine pS ?_ GE179.out | refine pS ?_ GE180.out) | exact HB.out)) hb)
     clear BK177
     clear BK178
     clear BK179
     clear BK180
     clear HB
     have BK177 := n0_
     have BK178 := n1_
     have BK179 := n2_
     have BK180 := n3_
     have HB := n4_
     clear n0_ n1_ n2_ n3_ n4_
     (try clear hb)
     (try clear hb2)
     (try clear hk)
     (try clear hi)
     refine hK.out _ _ ⟨(kC BK177.out 0).trans rfl, (kC BK177.out 1).trans rfl, (kC BK178.out 0).trans rfl, (kC BK178.out 1).trans rfl, (kC BK179.out 0).trans rfl, (kC BK179.out 1).trans rfl, (kC BK180.out 0).trans rfl, (kC BK180.out 1).trans rfl⟩ (fun hHeld => ?_)
     clear hK K
     refine norm_ (a' := ?_) ?_ ?_
     rotate_left
     ·show Act.put _ (some 39) _ = _
      simp only [Act.put, sI, sZ, sS, i64_w, i32_w]
      rfl
     refine one_ (i := 9) (N := some 40) #[true, true, true, true, true, true, true, true, true, true, false, false, false, false, false, false, false, false, false, false, false, false, false, false, false, false, false] rfl rfl (one_of HT_.out (by kernel_rfl)) (by decide) (fun K hK => ?_)
     refine goes_ Try.func80 (by kernel_rfl) rfl #[.int .i64 t187] (by rfl) rfl rfl (by (try simp only [mA, mC, mN]); first | done | rfl | (simp only [lD, lT]; rfl)) ?_
     with_reducible refine (spec_l1Sign.calls t187 t188 _ A85.out).mono ?_
     rintro e w' ⟨rfl, ⟨nd, rfl⟩⟩
     refine ⟨_, rfl, ?_⟩
     refine hK.out _ _ ⟨(kC BK177.out 0).trans rfl, (kC BK177.out 1).trans rfl, (kC BK178.out 0).trans rfl, (kC BK178.out 1).trans rfl, (kC BK179.out 0).trans rfl, (kC BK179.out 1).trans rfl, (kC BK180.out 0).trans rfl, (kC BK180.out 1).trans rfl⟩ (fun hHeld => ?_)
     clear hK K
     refine norm_ (a' := ?_) ?_ ?_
     rotate_left
     ·show Act.put _ (some 40) _ = _
      simp only [Act.put, sI, sZ, sS, i64_w, i32_w]
      rfl
     refine pure_ (i := 10) (N := some 41) (v := ?_) (a' := ?_) #[true, true, true, true, true, true, true, true, true, true, true, false, false, false, false, false, false, false, false, false, false, false, false, false, false, false, false] rfl rfl (any_of HT_.out (by kernel_rfl)) (fun _ _ _ h => h) (Or.inl ⟨by rfl, ?_⟩) ?_ ?_
     rotate_left
     ·intro w'
      go_simp
      with_reducible rfl
     rotate_left
     ·simp only [Act.put, sI, sZ, sS, i64_w, i32_w]
      rfl
     refine pure_ (i := 11) (N := some 42) (v := ?_) (a' := ?_) #[true, true, true, true, true, true, true, true, true, true, true, true, false, false, false, false, false, false, false, false, false, false, false, false, false, false, false] rfl rfl (any_of HT_.out (by kernel_rfl)) (fun _ _ _ h => h) (Or.inl ⟨by rfl, ?_⟩) ?_ ?_
     rotate_left
     ·intro w'
      go_simp
      with_reducible rfl
     rotate_left
     ·simp only [Act.put, sI, sZ, sS, i64_w, i32_w]
      rfl
     refine pure_ (i := 12) (N := some 43) (v := ?_) (a' := ?_) #[true, true, true, true, true, true, true, true, true, true, true, true, true, false, false, false, false, false, false, false, false, false, false, false, false, false, false] rfl rfl (any_of HT_.out (by kernel_rfl)) (fun _ _ _ h => h) (Or.inl ⟨by rfl, ?_⟩) ?_ ?_
     rotate_left
     ·intro w'
      go_simp
      with_reducible rfl
     rotate_left
     ·simp only [Act.put, sI, sZ, sS, i64_w, i32_w]
      rfl
     refine pure_ (i := 13) (N := some 44) (v := undef) (a' := ?_) #[true, true, true, true, true, true, true, true, true, true, true, true, true, true, false, false, false, false, false, false, false, false, false, false, false, false, false] rfl rfl (any_of HT_.out (by kernel_rfl)) (fun _ _ _ h => h) (Or.inr ⟨by rfl, rfl⟩) ?_ ?_
     rotate_left
     ·simp only [Act.put, sI, sZ, sS, i64_w, i32_w]
      rfl
     refine pure_ (i := 14) (N := some 45) (v := undef) (a' := ?_) #[true, true, true, true, true, true, true, true, true, true, true, true, true, true, true, false, false, false, false, false, false, false, false, false, false, false, false] rfl rfl (any_of HT_.out (by kernel_rfl)) (fun _ _ _ h => h) (Or.inr ⟨by rfl, rfl⟩) ?_ ?_
     rotate_left
     ·simp only [Act.put, sI, sZ, sS, i64_w, i32_w]
      rfl
     refine pure_ (i := 15) (N := some 46) (v := undef) (a' := ?_) #[true, true, true, true, true, true, true, true, true, true, true, true, true, true, true, true, false, false, false, false, false, false, false, false, false, false, false] rfl rfl (any_of HT_.out (by kernel_rfl)) (fun _ _ _ h => h) (Or.inr ⟨by rfl, rfl⟩) ?_ ?_
     rotate_left
     ·simp only [Act.put, sI, sZ, sS, i64_w, i32_w]
      rfl
     refine pure_ (i := 16) (N := some 47) (v := undef) (a' := ?_) #[true, true, true, true, true, true, true, true, true, true, true, true, true, true, true, true, true, false, false, false, false, false, false, false, false, false, false] rfl rfl (any_of HT_.out (by kernel_rfl)) (fun _ _ _ h => h) (Or.inr ⟨by rfl, rfl⟩) ?_ ?_
     rotate_left
     ·simp only [Act.put, sI, sZ, sS, i64_w, i32_w]
      rfl
     refine pure_ (i := 17) (N := some 48) (v := undef) (a' := ?_) #[true, true, true, true, true, true, true, true, true, true, true, true, true, true, true, true, true, true, false, false, false, false, false, false, false, false, false] rfl rfl (any_of HT_.out (by kernel_rfl)) (fun _ _ _ h => h) (Or.inr ⟨by rfl, rfl⟩) ?_ ?_
     rotate_left
     ·simp only [Act.put, sI, sZ, sS, i64_w, i32_w]
      rfl
     refine pure_ (i := 18) (N := some 49) (v := undef) (a' := ?_) #[true, true, true, true, true, true, true, true, true, true, true, true, true, true, true, true, true, true, true, false, false, false, false, false, false, false, false] rfl rfl (any_of HT_.out (by kernel_rfl)) (fun _ _ _ h => h) (Or.inr ⟨by rfl, rfl⟩) ?_ ?_
     rotate_left
     ·simp only [Act.put, sI, sZ, sS, i64_w, i32_w]
      rfl
     refine pure_ (i := 19) (N := some 50) (v := undef) (a' := ?_) #[true, true, true, true, true, true, true, true, true, true, true, true, true, true, true, true, true, true, true, true, false, false, false, false, false, false, false] rfl rfl (any_of HT_.out (by kernel_rfl)) (fun _ _ _ h => h) (Or.inr ⟨by rfl, rfl⟩) ?_ ?_
     rotate_left
     ·simp only [Act.put, sI, sZ, sS, i64_w, i32_w]
      rfl
     refine pure_ (i := 20) (N := some 51) (v := undef) (a' := ?_) #[true, true, true, true, true, true, true, true, true, true, true, true, true, true, true, true, true, true, true, true, true, false, false, false, false, false, false] rfl rfl (any_of HT_.out (by kernel_rfl)) (fun _ _ _ h => h) (Or.inr ⟨by rfl, rfl⟩) ?_ ?_
     rotate_left
     ·simp only [Act.put, sI, sZ, sS, i64_w, i32_w]
      rfl
     refine pure_ (i := 21) (N := some 52) (v := undef) (a' := ?_) #[true, true, true, true, true, true, true, true, true, true, true, true, true, true, true, true, true, true, true, true, true, true, false, false, false, false, false] rfl rfl (any_of HT_.out (by kernel_rfl)) (fun _ _ _ h => h) (Or.inr ⟨by rfl, rfl⟩) ?_ ?_
     rotate_left
     ·simp only [Act.put, sI, sZ, sS, i64_w, i32_w]
      rfl
     refine pure_ (i := 22) (N := some 53) (v := undef) (a' := ?_) #[true, true, true, true, true, true, true, true, true, true, true, true, true, true, true, true, true, true, true, true, true, true, true, false, false, false, false] rfl rfl (any_of HT_.out (by kernel_rfl)) (fun _ _ _ h => h) (Or.inr ⟨by rfl, rfl⟩) ?_ ?_
     rotate_left
     ·simp only [Act.put, sI, sZ, sS, i64_w, i32_w]
      rfl
     refine pure_ (i := 23) (N := some 54) (v := undef) (a' := ?_) #[true, true, true, true, true, true, true, true, true, true, true, true, true, true, true, true, true, true, true, true, true, true, true, true, false, false, false] rfl rfl (any_of HT_.out (by kernel_rfl)) (fun _ _ _ h => h) (Or.inr ⟨by rfl, rfl⟩) ?_ ?_
     rotate_left
     ·simp only [Act.put, sI, sZ, sS, i64_w, i32_w]
      rfl
     refine pure_ (i := 24) (N := some 55) (v := undef) (a' := ?_) #[true, true, true, true, true, true, true, true, true, true, true, true, true, true, true, true, true, true, true, true, true, true, true, true, true, false, false] rfl rfl (any_of HT_.out (by kernel_rfl)) (fun _ _ _ h => h) (Or.inr ⟨by rfl, rfl⟩) ?_ ?_
     rotate_left
     ·simp only [Act.put, sI, sZ, sS, i64_w, i32_w]
      rfl
     refine pure_ (i := 25) (N := some 56) (v := ?_) (a' := ?_) #[true, true, true, true, true, true, true, true, true, true, true, true, true, true, true, true, true, true, true, true, true, true, true, true, true, true, false] rfl rfl (any_of HT_.out (by kernel_rfl)) (fun _ _ _ h => h) (Or.inl ⟨by rfl, ?_⟩) ?_ ?_
     rotate_left
     ·intro w'
      go_simp
      with_reducible rfl
     rotate_left
     ·simp only [Act.put, sI, sZ, sS, i64_w, i32_w]
      rfl
     refine pure_ (i := 26) (N := some 8) (v := ?_) (a' := ?_) #[true, true, true, true, true, true, true, true, true, true, true, true, true, true, true, true, true, true, true, true, true, true, true, true, true, true, true] rfl rfl (any_of HT_.out (by kernel_rfl)) (fun _ _ _ h => h) (Or.inl ⟨by rfl, ?_⟩) ?_ ?_
     rotate_left
     ·intro w'
      go_simp
      with_reducible rfl
     rotate_left
     ·simp only [Act.put, sI, sZ, sS, i64_w, i32_w]
      rfl
     refine done_ (done_of HT_.out (by kernel_rfl)) ?_
     try go_wp2
     go_ret
     exact ⟨by first | rfl | (simp [errW_none, errW_some] <;> rfl) | (simp [*, errW_none, errW_some] <;> rfl), by repeat (first | (with_reducible first | exact HB.out | apply pA | apply pN | apply pD | refine pS ?_ GE177.out | refine pS ?_ GE178.out | refine pS ?_ GE179.out | refine pS ?_ GE180.out) | exact HB.out)⟩

end Go.Proofs.Ytnlkglbpihgcmaa.X
