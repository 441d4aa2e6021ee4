-- thin
-- short
import Derived.Test.YtiacfkilmknldaaXA
import Derived.Test.YtiacfkilmknldaaX0
import Derived.Test.YtiacfkilmknldaaX8
namespace Go.Proofs.Ytiacfkilmknldaa.X
open Go.RowKit Go.Proofs.Ytiacfkilmknldaa.XW Go.Proofs.YtiacfkilmknldaaW.PrintWords Go.Proofs.YtiacfkilmknldaaW.PrintLast Go.Proofs.YtiacfkilmknldaaW.PrintMore
attribute [local go_sem] max2_int min2_int max_two min_two max_three min_three max_four min_four   -- for this text's walks alone
set_option linter.unusedVariables false
set_option linter.unusedSimpArgs false

def impl_meet.j0 : Nat → Bool → Int → Int → Int → Int → Int → Int → Int → Int → Option (Bool)
 | 0, _, _, _, _, _, _, _, _, _ => none
 | k + 1, x34, x205000, x205001, x206000, x206001, x207000, x207001, x208000, x208001 => if x34 = true then (some true) else ((impl_isOn.f x205000 x205001 x206000 x206001 x207000 x207001).bind fun t216 => (if t216 = true then (some true) else ((impl_isOn.f x205000 x205001 x206000 x206001 x208000 x208001).bind fun t217 => (if t217 = true then (some true) else ((impl_isOn.f x207000 x207001 x208000 x208001 x205000 x205001).bind fun t218 => (if t218 = true then (some true) else ((impl_isOn.f x207000 x207001 x208000 x208001 x206000 x206001).bind fun t219 => (some t219))))))))
def impl_meet.f (k : Nat) (a0_0 : Int) (a0_1 : Int) (a1_0 : Int) (a1_1 : Int) (a2_0 : Int) (a2_1 : Int) (a3_0 : Int) (a3_1 : Int) : Option (Bool) := (impl_turn.f a0_0 a0_1 a1_0 a1_1 a2_0 a2_1).bind fun t208 => ((impl_sign.f t208).bind fun t209 => ((impl_turn.f a0_0 a0_1 a1_0 a1_1 a3_0 a3_1).bind fun t210 => ((impl_sign.f t210).bind fun t211 => (if (wrap64 (t209 * t211)) < 0 then ((impl_turn.f a2_0 a2_1 a3_0 a3_1 a0_0 a0_1).bind fun t212 => ((impl_sign.f t212).bind fun t213 => ((impl_turn.f a2_0 a2_1 a3_0 a3_1 a1_0 a1_1).bind fun t214 => ((impl_sign.f t214).bind fun t215 => (impl_meet.j0 k (decide ((wrap64 (t213 * t215)) < 0)) a0_0 a0_1 a1_0 a1_1 a2_0 a2_1 a3_0 a3_1))))) else (impl_meet.j0 k false a0_0 a0_1 a1_0 a1_1 a2_0 a2_1 a3_0 a3_1)))))
theorem impl_meet.mono_l : ∀ k, (∀ y0 y1 y2 y3 y4 y5 y6 y7 y8, LeO (impl_meet.j0 k y0 y1 y2 y3 y4 y5 y6 y7 y8) (impl_meet.j0 (k + 1) y0 y1 y2 y3 y4 y5 y6 y7 y8))
 | 0 => fun _ _ _ _ _ _ _ _ _ r h => by simp [impl_meet.j0] at h
 | k + 1 => by
  have ih0 := impl_meet.mono_l k
  ·intro y0 y1 y2 y3 y4 y5 y6 y7 y8
   unfold impl_meet.j0
   repeat' first
   | (with_reducible exact ih0 _ _ _ _ _ _ _ _ _)
   | (with_reducible exact LeO.refl _)
   | (with_reducible exact LeO.none _)
   | (with_reducible refine LeO.ite ?_ ?_)
   | (with_reducible refine LeO.bind ?_ (fun _ => ?_))
   | exact ih0 _ _ _ _ _ _ _ _ _
   | exact LeO.none _
   | refine LeO.ite ?_ ?_
   | refine LeO.bind ?_ (fun _ => ?_)
theorem impl_meet.mono : ∀ a0 a1 a2 a3 a4 a5 a6 a7 k, LeO (impl_meet.f k a0 a1 a2 a3 a4 a5 a6 a7) (impl_meet.f (k + 1) a0 a1 a2 a3 a4 a5 a6 a7) := by
 intro a0 a1 a2 a3 a4 a5 a6 a7 k
 have ih0 := impl_meet.mono_l k
 unfold impl_meet.f
 repeat' first
   | (with_reducible exact ih0 _ _ _ _ _ _ _ _ _)
   | (with_reducible exact LeO.refl _)
   | (with_reducible exact LeO.none _)
   | (with_reducible refine LeO.ite ?_ ?_)
   | (with_reducible refine LeO.bind ?_ (fun _ => ?_))
   | exact ih0 _ _ _ _ _ _ _ _ _
   | exact LeO.none _
   | refine LeO.ite ?_ ?_
   | refine LeO.bind ?_ (fun _ => ?_)
def impl_meet.T1 : Bool × List (List Nat × List Nat) := (true, [([], []), ([], []), ([], []), ([0, 1, 2], [0, 1, 2]), ([3, 3], [3]), ([], []), ([], []), ([], []), ([5, 6, 7, 4], [5, 6, 7]), ([8, 8], [8]), ([4, 9], [4, 9]), ([10], [10]), ([11, 9], [11]), ([12], [12]), ([12], [12]), ([12], [12]), ([13, 14, 15, 12, 12], [12, 13, 14, 15]), ([16, 16, 12], [12, 16]), ([12], [12]), ([12], [12]), ([12], [12]), ([18, 19, 20, 17, 12], [12, 18, 19, 20]), ([21, 21, 12], [12, 21]), ([17, 22, 12], [12, 17, 22]), ([23, 12], [12, 23]), ([12, 24], [12, 24])])
def impl_meet.B1 : List Nat := [0, 0, 0, 7, 15, 0, 0, 0, 255, 511, 1023, 2047, 4095, 8191, 8191, 8191, 65535, 131071, 8191, 8191, 8191, 2097151, 4194303, 8388607, 16777215, 33554431]
theorem impl_meet.tab1 : rtab .any (opsOf Try.f139 1) = impl_meet.T1 := by kernel_rfl
theorem impl_meet.bits1 : waitsOk impl_meet.T1.2 impl_meet.B1 = true := by kernel_rfl
set_option maxHeartbeats 8000000 in
set_option maxRecDepth 100000 in
theorem impl_meet.calls (k : Nat) (a0_0 : Int) (a0_1 : Int) (a1_0 : Int) (a1_1 : Int) (a2_0 : Int) (a2_1 : Int) (a3_0 : Int) (a3_1 : Int) (r : Bool) (w : World) (h : impl_meet.f k a0_0 a0_1 a1_0 a1_1 a2_0 a2_1 a3_0 a3_1 = some r) :
  Calls Try.prog 139 #[.agg #[.int .i64 a0_0, .int .i64 a0_1], .agg #[.int .i64 a1_0, .int .i64 a1_1], .agg #[.int .i64 a2_0, .int .i64 a2_1], .agg #[.int .i64 a3_0, .int .i64 a3_1]] w fun e w' => e = .returned (.bool r) ∧ Below w.heap.size w w' := by
 have hu34 := Try.underlying34
 have HB := aM (Below.refl w.heap.size w)
 have H : ((impl_turn.f a0_0 a0_1 a1_0 a1_1 a2_0 a2_1).bind fun t208 => ((impl_sign.f t208).bind fun t209 => ((impl_turn.f a0_0 a0_1 a1_0 a1_1 a3_0 a3_1).bind fun t210 => ((impl_sign.f t210).bind fun t211 => (if (wrap64 (t209 * t211)) < 0 then ((impl_turn.f a2_0 a2_1 a3_0 a3_1 a0_0 a0_1).bind fun t212 => ((impl_sign.f t212).bind fun t213 => ((impl_turn.f a2_0 a2_1 a3_0 a3_1 a1_0 a1_1).bind fun t214 => ((impl_sign.f t214).bind fun t215 => (impl_meet.j0 k (decide ((wrap64 (t213 * t215)) < 0)) a0_0 a0_1 a1_0 a1_1 a2_0 a2_1 a3_0 a3_1))))) else (impl_meet.j0 k false a0_0 a0_1 a1_0 a1_1 a2_0 a2_1 a3_0 a3_1)))))) = some r := h
 clear h
 have HC5 := aM H
 clear H
 go_enter Try.func139, Try.ntmps139
 go_upto_region 1 with (first | ((with_reducible refine gate_dst (N := 4) rfl ?_); refine box_event ?hg (N := 4) ?hd (cs := #[.int .i64 a0_0, .int .i64 a0_1]) (t := 34) ?hr ?_; (case hd => rfl); (case hg => rfl); (case hr => first | (go_simp; done) | (go_simp; rfl)); intro gb204 hg w6 hbox hb; have n0_ := aM (pT bQ hb); have n1_ := aM (hbox); have n2_ := aM ((by rw [hg]; exact (pZ bQ) : w.heap.size ≤ gb204)); have n3_ := aM ((by rw [hg]; exact (pZ bQ) : w.heap.size ≤ gb204)); clear HB; have HB := n0_; have BK204 := n1_; have GW204 := n2_; have GE204 := n3_; clear n0_ n1_ n2_ n3_; clear hb hbox hg) | ((with_reducible refine gate_dst (N := 5) rfl ?_); refine box_event ?hg (N := 5) ?hd (cs := #[.int .i64 a1_0, .int .i64 a1_1]) (t := 34) ?hr ?_; (case hd => rfl); (case hg => rfl); (case hr => first | (go_simp; done) | (go_simp; rfl)); intro gb205 hg w7 hbox hb; have n0_ := aM (blk_below (g := gb204) (o := .cells #[.int .i64 a0_0, .int .i64 a0_1] 34 (0, 0)) (gQ BK204) hb); have n1_ := aM (pT (by repeat (first | (with_reducible first | exact HB.out | apply pA | apply pN | apply pD | refine pS ?_ GE204.out) | exact HB.out)) hb); have n2_ := aM (hbox); have n3_ := aM ((by rw [hg]; exact (pZ (by repeat (first | (with_reducible first | exact HB.out | apply pA | apply pN | apply pD | refine pS ?_ GE204.out) | exact HB.out))) : w.heap.size ≤ gb205)); have n4_ := aM ((by rw [hg]; exact (pZ (by repeat (first | (with_reducible first | exact HB.out | apply pA | apply pN | apply pD | refine pS ?_ GE204.out) | exact HB.out))) : w.heap.size ≤ gb205)); have n5_ := aM ((by rw [hg]; exact nN (blk_lt (g := gb204) (o := .cells #[.int .i64 a0_0, .int .i64 a0_1] 34 (0, 0)) (gQ BK204)) : gb204 ≠ gb205)); have n6_ := aM ((by rw [hg]; exact Nat.ne_of_gt (blk_lt (g := gb204) (o := .cells #[.int .i64 a0_0, .int .i64 a0_1] 34 (0, 0)) (gQ BK204)) : gb205 ≠ gb204)); clear BK204; clear HB; have BK204 := n0_; have HB := n1_; have BK205 := n2_; have GW205 := n3_; have GE205 := n4_; have NB204_205 := n5_; have NB205_204 := n6_; clear n0_ n1_ n2_ n3_ n4_ n5_ n6_; clear hb hbox hg) | ((with_reducible refine gate_dst (N := 6) rfl ?_); refine box_event ?hg (N := 6) ?hd (cs := #[.int .i64 a2_0, .int .i64 a2_1]) (t := 34) ?hr ?_; (case hd => rfl); (case hg => rfl); (case hr => first | (go_simp; done) | (go_simp; rfl)); intro gb206 hg w8 hbox hb; have n0_ := aM (blk_below (g := gb204) (o := .cells #[.int .i64 a0_0, .int .i64 a0_1] 34 (0, 0)) (gQ BK204) hb); have n1_ := aM (blk_below (g := gb205) (o := .cells #[.int .i64 a1_0, .int .i64 a1_1] 34 (0, 0)) (gQ BK205) hb); have n2_ := aM (pT (by repeat (first | (with_reducible first | exact HB.out | apply pA | apply pN | apply pD | refine pS ?_ GE204.out | refine pS ?_ GE205.out) | exact HB.out)) hb); have n3_ := aM (hbox); have n4_ := aM ((by rw [hg]; exact (pZ (by repeat (first | (with_reducible first | exact HB.out | apply pA | apply pN | apply pD | refine pS ?_ GE204.out | refine pS ?_ GE205.out) | exact HB.out))) : w.heap.size ≤ gb206)); have n5_ := aM ((by rw [hg]; exact (pZ (by repeat (first | (with_reducible first | exact HB.out | apply pA | apply pN | apply pD | refine pS ?_ GE204.out | refine pS ?_ GE205.out) | exact HB.out))) : w.heap.size ≤ gb206)); have n6_ := aM ((by rw [hg]; exact nN (blk_lt (g := gb204) (o := .cells #[.int .i64 a0_0, .int .i64 a0_1] 34 (0, 0)) (gQ BK204)) : gb204 ≠ gb206)); have n7_ := aM ((by rw [hg]; exact Nat.ne_of_gt (blk_lt (g := gb204) (o := .cells #[.int .i64 a0_0, .int .i64 a0_1] 34 (0, 0)) (gQ BK204)) : gb206 ≠ gb204)); have n8_ := aM ((by rw [hg]; exact nN (blk_lt (g := gb205) (o := .cells #[.int .i64 a1_0, .int .i64 a1_1] 34 (0, 0)) (gQ BK205)) : gb205 ≠ gb206)); have n9_ := aM ((by rw [hg]; exact Nat.ne_of_gt (blk_lt (g := gb205) (o := .cells #[.int .i64 a1_0, .int .i64 a1_1] 34 (0, 0)) (gQ BK205)) : gb206 ≠ gb205)); clear BK204; clear BK205; clear HB; have BK204 := n0_; have BK205 := n1_; have HB := n2_; have BK206 := n3_; have GW206 := n4_; have GE206 := n5_; have NB204_206 := n6_; have NB206_204 := n7_; have NB205_206 := n8_; have NB206_205 := n9_; clear n0_ n1_ n2_ n3_ n4_ n5_ n6_ n7_ n8_ n9_; clear hb hbox hg) | ((with_reducible refine gate_dst (N := 7) rfl ?_); refine box_event ?hg (N := 7) ?hd (cs := #[.int .i64 a3_0, .int .i64 a3_1]) (t := 34) ?hr ?_; (case hd => rfl); (case hg => rfl); (case hr => first | (go_simp; done) | (go_simp; rfl)); intro gb207 hg w9 hbox hb; have n0_ := aM (blk_below (g := gb204) (o := .cells #[.int .i64 a0_0, .int .i64 a0_1] 34 (0, 0)) (gQ BK204) hb); have n1_ := aM (blk_below (g := gb205) (o := .cells #[.int .i64 a1_0, .int .i64 a1_1] 34 (0, 0)) (gQ BK205) hb); have n2_ := aM (blk_below (g := gb206) (o := .cells #[.int .i64 a2_0, .int .i64 a2_1] 34 (0, 0)) (gQ BK206) hb); have n3_ := aM (pT (by repeat (first | (with_reducible first | exact HB.out | apply pA | apply pN | apply pD | refine pS ?_ GE204.out | refine pS ?_ GE205.out | refine pS ?_ GE206.out) | exact HB.out)) hb); have n4_ := aM (hbox); have n5_ := aM ((by rw [hg]; exact (pZ (by repeat (first | (with_reducible first | exact HB.out | apply pA | apply pN | apply pD | refine pS ?_ GE204.out | refine pS ?_ GE205.out | refine pS ?_ GE206.out) | exact HB.out))) : w.heap.size ≤ gb207)); have n6_ := aM ((by rw [hg]; exact (pZ (by repeat (first | (with_reducible first | exact HB.out | apply pA | apply pN | apply pD | refine pS ?_ GE204.out | refine pS ?_ GE205.out | refine pS ?_ GE206.out) | exact HB.out))) : w.heap.size ≤ gb207)); have n7_ := aM ((by rw [hg]; exact nN (blk_lt (g := gb204) (o := .cells #[.int .i64 a0_0, .int .i64 a0_1] 34 (0, 0)) (gQ BK204)) : gb204 ≠ gb207)); have n8_ := aM ((by rw [hg]; exact Nat.ne_of_gt (blk_lt (g := gb204) (o := .cells #[.int .i64 a0_0, .int .i64 a0_1] 34 (0, 0)) (gQ BK204)) : gb207 ≠ gb204)); have n9_ := aM ((by rw [hg]; exact nN (blk_lt (g := gb205) (o := .cells #[.int .i64 a1_0, .int .i64 a1_1] 34 (0, 0)) (gQ BK205)) : gb205 ≠ gb207)); have n10_ := aM ((by rw [hg]; exact Nat.ne_of_gt (blk_lt (g := gb205) (o := .cells #[.int .i64 a1_0, .int .i64 a1_1] 34 (0, 0)) (gQ BK205)) : gb207 ≠ gb205)); have n11_ := aM ((by rw [hg]; exact nN (blk_lt (g := gb206) (o := .cells #[.int .i64 a2_0, .int .i64 a2_1] 34 (0, 0)) (gQ BK206)) : gb206 ≠ gb207)); have n12_ := aM ((by rw [hg]; exact Nat.ne_of_gt (blk_lt (g := gb206) (o := .cells #[.int .i64 a2_0, .int .i64 a2_1] 34 (0, 0)) (gQ BK206)) : gb207 ≠ gb206)); clear BK204; clear BK205; clear BK206; clear HB; have BK204 := n0_; have BK205 := n1_; have BK206 := n2_; have HB := n3_; have BK207 := n4_; have GW207 := n5_; have GE207 := n6_; have NB204_207 := n7_; have NB207_204 := n8_; have NB205_207 := n9_; have NB207_205 := n10_; have NB206_207 := n11_; have NB207_206 := n12_; clear n0_ n1_ n2_ n3_ n4_ n5_ n6_ n7_ n8_ n9_ n10_ n11_ n12_; clear hb hbox hg))
 (try simp only [Act.put, sI, sZ, sS])
 go_cut [34] (fun v34 wc => ∃ (kq : Nat) (x34_4 : Bool), v34 = .bool x34_4 ∧ Aside0 (impl_meet.j0 kq x34_4 a0_0 a0_1 a1_0 a1_1 a2_0 a2_1 a3_0 a3_1 = some r) ∧ Aside0 (kq ≤ k) ∧ Aside0 (wc.heap[gb204]? = some (.cells #[.int .i64 a0_0, .int .i64 a0_1] 34 (0, 0))) ∧ Aside0 (wc.heap[gb205]? = some (.cells #[.int .i64 a1_0, .int .i64 a1_1] 34 (0, 0))) ∧ Aside0 (wc.heap[gb206]? = some (.cells #[.int .i64 a2_0, .int .i64 a2_1] 34 (0, 0))) ∧ Aside0 (wc.heap[gb207]? = some (.cells #[.int .i64 a3_0, .int .i64 a3_1] 34 (0, 0))) ∧ Aside0 (Below w.heap.size w wc))
 case first =>
  have H := HC5.out
  clear HC5
  replace H := oB.mp H
  obtain ⟨t208, A100, H⟩ := H
  replace H : ((impl_sign.f t208).bind fun t209 => ((impl_turn.f a0_0 a0_1 a1_0 a1_1 a3_0 a3_1).bind fun t210 => ((impl_sign.f t210).bind fun t211 => (if (wrap64 (t209 * t211)) < 0 then ((impl_turn.f a2_0 a2_1 a3_0 a3_1 a0_0 a0_1).bind fun t212 => ((impl_sign.f t212).bind fun t213 => ((impl_turn.f a2_0 a2_1 a3_0 a3_1 a1_0 a1_1).bind fun t214 => ((impl_sign.f t214).bind fun t215 => (impl_meet.j0 k (decide ((wrap64 (t213 * t215)) < 0)) a0_0 a0_1 a1_0 a1_1 a2_0 a2_1 a3_0 a3_1))))) else (impl_meet.j0 k false a0_0 a0_1 a1_0 a1_1 a2_0 a2_1 a3_0 a3_1))))) = some r := H
  have A10 := aM A100
  clear A100
  replace H := oB.mp H
  obtain ⟨t209, A110, H⟩ := H
  replace H : ((impl_turn.f a0_0 a0_1 a1_0 a1_1 a3_0 a3_1).bind fun t210 => ((impl_sign.f t210).bind fun t211 => (if (wrap64 (t209 * t211)) < 0 then ((impl_turn.f a2_0 a2_1 a3_0 a3_1 a0_0 a0_1).bind fun t212 => ((impl_sign.f t212).bind fun t213 => ((impl_turn.f a2_0 a2_1 a3_0 a3_1 a1_0 a1_1).bind fun t214 => ((impl_sign.f t214).bind fun t215 => (impl_meet.j0 k (decide ((wrap64 (t213 * t215)) < 0)) a0_0 a0_1 a1_0 a1_1 a2_0 a2_1 a3_0 a3_1))))) else (impl_meet.j0 k false a0_0 a0_1 a1_0 a1_1 a2_0 a2_1 a3_0 a3_1)))) = some r := H
  have A11 := aM A110
  clear A110
  replace H := oB.mp H
  obtain ⟨t210, A120, H⟩ := H
  replace H : ((impl_sign.f t210).bind fun t211 => (if (wrap64 (t209 * t211)) < 0 then ((impl_turn.f a2_0 a2_1 a3_0 a3_1 a0_0 a0_1).bind fun t212 => ((impl_sign.f t212).bind fun t213 => ((impl_turn.f a2_0 a2_1 a3_0 a3_1 a1_0 a1_1).bind fun t214 => ((impl_sign.f t214).bind fun t215 => (impl_meet.j0 k (decide ((wrap64 (t213 * t215)) < 0)) a0_0 a0_1 a1_0 a1_1 a2_0 a2_1 a3_0 a3_1))))) else (impl_meet.j0 k false a0_0 a0_1 a1_0 a1_1 a2_0 a2_1 a3_0 a3_1))) = some r := H
  have A12 := aM A120
  clear A120
  replace H := oB.mp H
  obtain ⟨t211, A130, H⟩ := H
  replace H : (if (wrap64 (t209 * t211)) < 0 then ((impl_turn.f a2_0 a2_1 a3_0 a3_1 a0_0 a0_1).bind fun t212 => ((impl_sign.f t212).bind fun t213 => ((impl_turn.f a2_0 a2_1 a3_0 a3_1 a1_0 a1_1).bind fun t214 => ((impl_sign.f t214).bind fun t215 => (impl_meet.j0 k (decide ((wrap64 (t213 * t215)) < 0)) a0_0 a0_1 a1_0 a1_1 a2_0 a2_1 a3_0 a3_1))))) else (impl_meet.j0 k false a0_0 a0_1 a1_0 a1_1 a2_0 a2_1 a3_0 a3_1)) = some r := H
  have A13 := aM A130
  clear A130
  by_cases c14 : (wrap64 (t209 * t211)) < 0
  ·rw [if_pos c14] at H
   have c14b0 : decide ((wrap64 (t209 * t211)) < 0) = true := dE c14
   clear c14
   (first | rw [c14b0] | (simp only [i64_w, i32_w]; rw [c14b0]) | skip)
   replace H := oB.mp H
   obtain ⟨t212, A150, H⟩ := H
   replace H : ((impl_sign.f t212).bind fun t213 => ((impl_turn.f a2_0 a2_1 a3_0 a3_1 a1_0 a1_1).bind fun t214 => ((impl_sign.f t214).bind fun t215 => (impl_meet.j0 k (decide ((wrap64 (t213 * t215)) < 0)) a0_0 a0_1 a1_0 a1_1 a2_0 a2_1 a3_0 a3_1)))) = some r := H
   have A15 := aM A150
   clear A150
   replace H := oB.mp H
   obtain ⟨t213, A160, H⟩ := H
   replace H : ((impl_turn.f a2_0 a2_1 a3_0 a3_1 a1_0 a1_1).bind fun t214 => ((impl_sign.f t214).bind fun t215 => (impl_meet.j0 k (decide ((wrap64 (t213 * t215)) < 0)) a0_0 a0_1 a1_0 a1_1 a2_0 a2_1 a3_0 a3_1))) = some r := H
   have A16 := aM A160
   clear A160
   replace H := oB.mp H
   obtain ⟨t214, A170, H⟩ := H
   replace H : ((impl_sign.f t214).bind fun t215 => (impl_meet.j0 k (decide ((wrap64 (t213 * t215)) < 0)) a0_0 a0_1 a1_0 a1_1 a2_0 a2_1 a3_0 a3_1)) = some r := H
   have A17 := aM A170
   clear A170
   replace H := oB.mp H
   obtain ⟨t215, A180, H⟩ := H
   replace H : (impl_meet.j0 k (decide ((wrap64 (t213 * t215)) < 0)) a0_0 a0_1 a1_0 a1_1 a2_0 a2_1 a3_0 a3_1) = some r := H
   have A18 := aM A180
   clear A180
   have H' := aM H
   clear H
   try go_wp2
   have n0_ := aM (kD BK204.out)
   have n1_ := aM (kD BK205.out)
   have n2_ := aM (kD BK206.out)
   have n3_ := aM (kD BK207.out)
   have n4_ := aM (pD HB.out)
   clear BK204
   clear BK205
   clear BK206
   clear BK207
   clear HB
   have BK204 := n0_
   have BK205 := n1_
   have BK206 := n2_
   have BK207 := n3_
   have HB := n4_
   clear n0_ n1_ n2_ n3_ n4_
   refine start_ (n := 26) (S := fun w' => w'.cell? ⟨gb204, 0, none⟩ = some (.int .i64 a0_0) ∧ w'.cell? ⟨gb204, 1, none⟩ = some (.int .i64 a0_1) ∧ w'.cell? ⟨gb205, 0, none⟩ = some (.int .i64 a1_0) ∧ w'.cell? ⟨gb205, 1, none⟩ = some (.int .i64 a1_1) ∧ w'.cell? ⟨gb206, 0, none⟩ = some (.int .i64 a2_0) ∧ w'.cell? ⟨gb206, 1, none⟩ = some (.int .i64 a2_1) ∧ w'.cell? ⟨gb207, 0, none⟩ = some (.int .i64 a3_0) ∧ w'.cell? ⟨gb207, 1, none⟩ = some (.int .i64 a3_1)) (ds := []) #[false, false, false, false, false, false, false, false, false, false, false, false, false, false, false, false, false, false, false, false, false, false, false, false, false, false] kR rfl rfl ⟨(kC BK204.out 0).trans rfl, (kC BK204.out 1).trans rfl, (kC BK205.out 0).trans rfl, (kC BK205.out 1).trans rfl, (kC BK206.out 0).trans rfl, (kC BK206.out 1).trans rfl, (kC BK207.out 0).trans rfl, (kC BK207.out 1).trans rfl⟩ (fun hHeld => ?_); refine with_tabW impl_meet.tab1 impl_meet.bits1 (fun HT_ HW_ => ?_)
   generalize w9.drew = w19 at BK204 BK205 BK206 BK207 HB hHeld ⊢
   refine take_ (i := 0) (N := some 9) (v := ?_) (a' := ?_) #[true, false, false, false, false, false, false, false, false, false, false, false, false, false, false, false, false, false, false, false, false, false, false, false, false, false] rfl rfl (take_ofW HT_.out HW_.out kR) (fun _ _ _ h => h) (Or.inl ⟨by rfl, ?_⟩) hHeld ?_ ?_
   rotate_left
   ·rintro w' ⟨s0, s1, s2, s3, s4, s5, s6, s7⟩
    go_simp
    with_reducible rfl
   rotate_left
   ·simp only [Act.put, sI, sZ, sS, i64_w, i32_w]
    rfl
   refine take_ (i := 1) (N := some 10) (v := ?_) (a' := ?_) #[true, true, false, false, false, false, false, false, false, false, false, false, false, false, false, false, false, false, false, false, false, false, false, false, false, false] rfl rfl (take_ofW HT_.out HW_.out kR) (fun _ _ _ h => h) (Or.inl ⟨by rfl, ?_⟩) hHeld ?_ ?_
   rotate_left
   ·rintro w' ⟨s0, s1, s2, s3, s4, s5, s6, s7⟩
    go_simp
    with_reducible rfl
   rotate_left
   ·simp only [Act.put, sI, sZ, sS, i64_w, i32_w]
    rfl
   refine take_ (i := 2) (N := some 11) (v := ?_) (a' := ?_) #[true, true, true, false, false, false, false, false, false, false, false, false, false, false, false, false, false, false, false, false, false, false, false, false, false, false] rfl rfl (take_ofW HT_.out HW_.out kR) (fun _ _ _ h => h) (Or.inl ⟨by rfl, ?_⟩) hHeld ?_ ?_
   rotate_left
   ·rintro w' ⟨s0, s1, s2, s3, s4, s5, s6, s7⟩
    go_simp
    with_reducible rfl
   rotate_left
   ·simp only [Act.put, sI, sZ, sS, i64_w, i32_w]
    rfl
   refine take_ (i := 5) (N := some 14) (v := ?_) (a' := ?_) #[true, true, true, false, false, true, false, false, false, false, false, false, false, false, false, false, false, false, false, false, false, false, false, false, false, false] rfl rfl (take_ofW HT_.out HW_.out kR) (fun _ _ _ h => h) (Or.inl ⟨by rfl, ?_⟩) hHeld ?_ ?_
   rotate_left
   ·rintro w' ⟨s0, s1, s2, s3, s4, s5, s6, s7⟩
    go_simp
    with_reducible rfl
   rotate_left
   ·simp only [Act.put, sI, sZ, sS, i64_w, i32_w]
    rfl
   refine take_ (i := 6) (N := some 15) (v := ?_) (a' := ?_) #[true, true, true, false, false, true, true, false, false, false, false, false, false, false, false, false, false, false, false, false, false, false, false, false, false, false] rfl rfl (take_ofW HT_.out HW_.out kR) (fun _ _ _ h => h) (Or.inl ⟨by rfl, ?_⟩) hHeld ?_ ?_
   rotate_left
   ·rintro w' ⟨s0, s1, s2, s3, s4, s5, s6, s7⟩
    go_simp
    with_reducible rfl
   rotate_left
   ·simp only [Act.put, sI, sZ, sS, i64_w, i32_w]
    rfl
   refine take_ (i := 7) (N := some 16) (v := ?_) (a' := ?_) #[true, true, true, false, false, true, true, true, false, false, false, false, false, false, false, false, false, false, false, false, false, false, false, false, false, false] rfl rfl (take_ofW HT_.out HW_.out kR) (fun _ _ _ h => h) (Or.inl ⟨by rfl, ?_⟩) hHeld ?_ ?_
   rotate_left
   ·rintro w' ⟨s0, s1, s2, s3, s4, s5, s6, s7⟩
    go_simp
    with_reducible rfl
   rotate_left
   ·simp only [Act.put, sI, sZ, sS, i64_w, i32_w]
    rfl
   refine one_ (i := 3) (N := some 12) #[true, true, true, true, false, true, true, true, false, false, false, false, false, false, false, false, false, false, false, false, false, false, false, false, false, false] rfl rfl (one_of HT_.out kR) (by decide) (fun K hK => ?_)
   refine goes_ Try.func138 kR rfl #[.agg #[.int .i64 a0_0, .int .i64 a0_1], .agg #[.int .i64 a1_0, .int .i64 a1_1], .agg #[.int .i64 a2_0, .int .i64 a2_1]] (by rfl) rfl rfl sQ ?_
   with_reducible refine (impl_turn.calls a0_0 a0_1 a1_0 a1_1 a2_0 a2_1 t208 _ A10.out).mono ?_
   rintro e w20 ⟨rfl, hb⟩
   refine ⟨_, rfl, ?_⟩
   have n0_ := aM (blk_below (g := gb204) (o := .cells #[.int .i64 a0_0, .int .i64 a0_1] 34 (0, 0)) (gQ BK204) hb)
   have n1_ := aM (blk_below (g := gb205) (o := .cells #[.int .i64 a1_0, .int .i64 a1_1] 34 (0, 0)) (gQ BK205) hb)
   have n2_ := aM (blk_below (g := gb206) (o := .cells #[.int .i64 a2_0, .int .i64 a2_1] 34 (0, 0)) (gQ BK206) hb)
   have n3_ := aM (blk_below (g := gb207) (o := .cells #[.int .i64 a3_0, .int .i64 a3_1] 34 (0, 0)) (gQ BK207) hb)
   have n4_ := aM (pT (by repeat (first | (with_reducible first | exact HB.out | apply pA | apply pN | apply pD | refine pS ?_ GE204.out | refine pS ?_ GE205.out | refine pS ?_ GE206.out | refine pS ?_ GE207.out) | exact HB.out)) hb)
   clear BK204
   clear BK205
   clear BK206
   clear BK207
   clear HB
   have BK204 := n0_
   have BK205 := n1_
   have BK206 := n2_
   have BK207 := n3_
   have HB := n4_
   clear n0_ n1_ n2_ n3_ n4_
   (try clear hb)
   (try clear hb2)
   (try clear hk)
   (try clear hi)
   refine hK.out _ _ ⟨(kC BK204.out 0).trans rfl, (kC BK204.out 1).trans rfl, (kC BK205.out 0).trans rfl, (kC BK205.out 1).trans rfl, (kC BK206.out 0).trans rfl, (kC BK206.out 1).trans rfl, (kC BK207.out 0).trans rfl, (kC BK207.out 1).trans rfl⟩ (fun hHeld => ?_)
   clear hK K
   refine norm_ (a' := ?_) ?_ ?_
   rotate_left
   ·show Act.put _ (some 12) _ = _
    simp only [Act.put, sI, sZ, sS, i64_w, i32_w]
    rfl
   refine one_ (i := 4) (N := some 13) #[true, true, true, true, true, true, true, true, false, false, false, false, false, false, false, false, false, false, false, false, false, false, false, false, false, false] rfl rfl (one_of HT_.out kR) (by decide) (fun K hK => ?_)
   refine goes_ Try.func115 kR rfl #[.int .i64 t208] (by rfl) rfl rfl sQ ?_
   with_reducible refine (impl_sign.calls t208 t209 _ A11.out).mono ?_
   rintro e w21 ⟨rfl, hb⟩
   refine ⟨_, rfl, ?_⟩
   have n0_ := aM (blk_below (g := gb204) (o := .cells #[.int .i64 a0_0, .int .i64 a0_1] 34 (0, 0)) (gQ BK204) hb)
   have n1_ := aM (blk_below (g := gb205) (o := .cells #[.int .i64 a1_0, .int .i64 a1_1] 34 (0, 0)) (gQ BK205) hb)
   have n2_ := aM (blk_below (g := gb206) (o := .cells #[.int .i64 a2_0, .int .i64 a2_1] 34 (0, 0)) (gQ BK206) hb)
   have n3_ := aM (blk_below (g := gb207) (o := .cells #[.int .i64 a3_0, .int .i64 a3_1] 34 (0, 0)) (gQ BK207) hb)
   have n4_ := aM (pT (by repeat (first | (with_reducible first | exact HB.out | apply pA | apply pN | apply pD | refine pS ?_ GE204.out | refine pS ?_ GE205.out | refine pS ?_ GE206.out | refine pS ?_ GE207.out) | exact HB.out)) hb)
   clear BK204
   clear BK205
   clear BK206
   clear BK207
   clear HB
   have BK204 := n0_
   have BK205 := n1_
   have BK206 := n2_
   have BK207 := n3_
   have HB := n4_
   clear n0_ n1_ n2_ n3_ n4_
   (try clear hb)
   (try clear hb2)
   (try clear hk)
   (try clear hi)
   refine hK.out _ _ ⟨(kC BK204.out 0).trans rfl, (kC BK204.out 1).trans rfl, (kC BK205.out 0).trans rfl, (kC BK205.out 1).trans rfl, (kC BK206.out 0).trans rfl, (kC BK206.out 1).trans rfl, (kC BK207.out 0).trans rfl, (kC BK207.out 1).trans rfl⟩ (fun hHeld => ?_)
   clear hK K
   refine norm_ (a' := ?_) ?_ ?_
   rotate_left
   ·show Act.put _ (some 13) _ = _
    simp only [Act.put, sI, sZ, sS, i64_w, i32_w]
    rfl
   refine one_ (i := 8) (N := some 17) #[true, true, true, true, true, true, true, true, true, false, false, false, false, false, false, false, false, false, false, false, false, false, false, false, false, false] rfl rfl (one_of HT_.out kR) (by decide) (fun K hK => ?_)
   refine goes_ Try.func138 kR rfl #[.agg #[.int .i64 a0_0, .int .i64 a0_1], .agg #[.int .i64 a1_0, .int .i64 a1_1], .agg #[.int .i64 a3_0, .int .i64 a3_1]] (by rfl) rfl rfl sQ ?_
   with_reducible refine (impl_turn.calls a0_0 a0_1 a1_0 a1_1 a3_0 a3_1 t210 _ A12.out).mono ?_
   rintro e w22 ⟨rfl, hb⟩
   refine ⟨_, rfl, ?_⟩
   have n0_ := aM (blk_below (g := gb204) (o := .cells #[.int .i64 a0_0, .int .i64 a0_1] 34 (0, 0)) (gQ BK204) hb)
   have n1_ := aM (blk_below (g := gb205) (o := .cells #[.int .i64 a1_0, .int .i64 a1_1] 34 (0, 0)) (gQ BK205) hb)
   have n2_ := aM (blk_below (g := gb206) (o := .cells #[.int .i64 a2_0, .int .i64 a2_1] 34 (0, 0)) (gQ BK206) hb)
   have n3_ := aM (blk_below (g := gb207) (o := .cells #[.int .i64 a3_0, .int .i64 a3_1] 34 (0, 0)) (gQ BK207) hb)
   have n4_ := aM (pT (by repeat (first | (with_reducible first | exact HB.out | apply pA | apply pN | apply pD | refine pS ?_ GE204.out | refine pS ?_ GE205.out | refine pS ?_ GE206.out | refine pS ?_ GE207.out) | exact HB.out)) hb)
   clear BK204
   clear BK205
   clear BK206
   clear BK207
   clear HB
   have BK204 := n0_
   have BK205 := n1_
   have BK206 := n2_
   have BK207 := n3_
   have HB := n4_
   clear n0_ n1_ n2_ n3_ n4_
   (try clear hb)
   (try clear hb2)
   (try clear hk)
   (try clear hi)
   refine hK.out _ _ ⟨(kC BK204.out 0).trans rfl, (kC BK204.out 1).trans rfl, (kC BK205.out 0).trans rfl, (kC BK205.out 1).trans rfl, (kC BK206.out 0).trans rfl, (kC BK206.out 1).trans rfl, (kC BK207.out 0).trans rfl, (kC BK207.out 1).trans rfl⟩ (fun hHeld => ?_)
   clear hK K
   refine norm_ (a' := ?_) ?_ ?_
   rotate_left
   ·show Act.put _ (some 17) _ = _
    simp only [Act.put, sI, sZ, sS, i64_w, i32_w]
    rfl
   refine one_ (i := 9) (N := some 18) #[true, true, true, true, true, true, true, true, true, true, false, false, false, false, false, false, false, false, false, false, false, false, false, false, false, false] rfl rfl (one_of HT_.out kR) (by decide) (fun K hK => ?_)
   refine goes_ Try.func115 kR rfl #[.int .i64 t210] (by rfl) rfl rfl sQ ?_
   with_reducible refine (impl_sign.calls t210 t211 _ A13.out).mono ?_
   rintro e w23 ⟨rfl, hb⟩
   refine ⟨_, rfl, ?_⟩
   have n0_ := aM (blk_below (g := gb204) (o := .cells #[.int .i64 a0_0, .int .i64 a0_1] 34 (0, 0)) (gQ BK204) hb)
   have n1_ := aM (blk_below (g := gb205) (o := .cells #[.int .i64 a1_0, .int .i64 a1_1] 34 (0, 0)) (gQ BK205) hb)
   have n2_ := aM (blk_below (g := gb206) (o := .cells #[.int .i64 a2_0, .int .i64 a2_1] 34 (0, 0)) (gQ BK206) hb)
   have n3_ := aM (blk_below (g := gb207) (o := .cells #[.int .i64 a3_0, .int .i64 a3_1] 34 (0, 0)) (gQ BK207) hb)
   have n4_ := aM (pT (by repeat (first | (with_reducible first | exact HB.out | apply pA | apply pN | apply pD | refine pS ?_ GE204.out | refine pS ?_ GE205.out | refine pS ?_ GE206.out | refine pS ?_ GE207.out) | exact HB.out)) hb)
   clear BK204
   clear BK205
   clear BK206
   clear BK207
   clear HB
   have BK204 := n0_
   have BK205 := n1_
   have BK206 := n2_
   have BK207 := n3_
   have HB := n4_
   clear n0_ n1_ n2_ n3_ n4_
   (try clear hb)
   (try clear hb2)
   (try clear hk)
   (try clear hi)
   refine hK.out _ _ ⟨(kC BK204.out 0).trans rfl, (kC BK204.out 1).trans rfl, (kC BK205.out 0).trans rfl, (kC BK205.out 1).trans rfl, (kC BK206.out 0).trans rfl, (kC BK206.out 1).trans rfl, (kC BK207.out 0).trans rfl, (kC BK207.out 1).trans rfl⟩ (fun hHeld => ?_)
   clear hK K
   refine norm_ (a' := ?_) ?_ ?_
   rotate_left
   ·show Act.put _ (some 18) _ = _
    simp only [Act.put, sI, sZ, sS, i64_w, i32_w]
    rfl
   refine pure_ (i := 10) (N := some 19) (v := ?_) (a' := ?_) #[true, true, true, true, true, true, true, true, true, true, true, false, false, false, false, false, false, false, false, false, false, false, false, false, false, false] rfl rfl (any_of HT_.out kR) (fun _ _ _ h => h) (Or.inl ⟨by rfl, ?_⟩) ?_ ?_
   rotate_left
   ·intro w'
    go_simp
    with_reducible rfl
   rotate_left
   ·simp only [Act.put, sI, sZ, sS, i64_w, i32_w]
    rfl
   refine pure_ (i := 11) (N := some 20) (v := ?_) (a' := ?_) #[true, true, true, true, true, true, true, true, true, true, true, true, false, false, false, false, false, false, false, false, false, false, false, false, false, false] rfl rfl (any_of HT_.out kR) (fun _ _ _ h => h) (Or.inl ⟨by rfl, ?_⟩) ?_ ?_
   rotate_left
   ·intro w'
    go_simp
    with_reducible rfl
   rotate_left
   ·simp only [Act.put, sI, sZ, sS, i64_w, i32_w]
    rfl
   refine pure_ (i := 12) (N := some 21) (v := ?_) (a' := ?_) #[true, true, true, true, true, true, true, true, true, true, true, true, true, false, false, false, false, false, false, false, false, false, false, false, false, false] rfl rfl (any_of HT_.out kR) (fun _ _ _ h => h) (Or.inl ⟨by rfl, ?_⟩) ?_ ?_
   rotate_left
   ·intro w'
    go_simp
    with_reducible rfl
   rotate_left
   ·simp only [Act.put, sI, sZ, sS, i64_w, i32_w]
    rfl
   refine take_ (i := 13) (N := some 22) (v := ?_) (a' := ?_) #[true, true, true, true, true, true, true, true, true, true, true, true, true, true, false, false, false, false, false, false, false, false, false, false, false, false] rfl rfl (take_ofW HT_.out HW_.out kR) (fun _ _ _ h => h) (Or.inl ⟨by rfl, ?_⟩) hHeld ?_ ?_
   rotate_left
   ·rintro w' ⟨s0, s1, s2, s3, s4, s5, s6, s7⟩
    go_simp
    with_reducible rfl
   rotate_left
   ·simp only [Act.put, sI, sZ, sS, i64_w, i32_w]
    rfl
   refine take_ (i := 14) (N := some 23) (v := ?_) (a' := ?_) #[true, true, true, true, true, true, true, true, true, true, true, true, true, true, true, false, false, false, false, false, false, false, false, false, false, false] rfl rfl (take_ofW HT_.out HW_.out kR) (fun _ _ _ h => h) (Or.inl ⟨by rfl, ?_⟩) hHeld ?_ ?_
   rotate_left
   ·rintro w' ⟨s0, s1, s2, s3, s4, s5, s6, s7⟩
    go_simp
    with_reducible rfl
   rotate_left
   ·simp only [Act.put, sI, sZ, sS, i64_w, i32_w]
    rfl
   refine take_ (i := 15) (N := some 24) (v := ?_) (a' := ?_) #[true, true, true, true, true, true, true, true, true, true, true, true, true, true, true, true, false, false, false, false, false, false, false, false, false, false] rfl rfl (take_ofW HT_.out HW_.out kR) (fun _ _ _ h => h) (Or.inl ⟨by rfl, ?_⟩) hHeld ?_ ?_
   rotate_left
   ·rintro w' ⟨s0, s1, s2, s3, s4, s5, s6, s7⟩
    go_simp
    with_reducible rfl
   rotate_left
   ·simp only [Act.put, sI, sZ, sS, i64_w, i32_w]
    rfl
   refine take_ (i := 18) (N := some 27) (v := ?_) (a' := ?_) #[true, true, true, true, true, true, true, true, true, true, true, true, true, true, true, true, false, false, true, false, false, false, false, false, false, false] rfl rfl (take_ofW HT_.out HW_.out kR) (fun _ _ _ h => h) (Or.inl ⟨by rfl, ?_⟩) hHeld ?_ ?_
   rotate_left
   ·rintro w' ⟨s0, s1, s2, s3, s4, s5, s6, s7⟩
    go_simp
    with_reducible rfl
   rotate_left
   ·simp only [Act.put, sI, sZ, sS, i64_w, i32_w]
    rfl
   refine take_ (i := 19) (N := some 28) (v := ?_) (a' := ?_) #[true, true, true, true, true, true, true, true, true, true, true, true, true, true, true, true, false, false, true, true, false, false, false, false, false, false] rfl rfl (take_ofW HT_.out HW_.out kR) (fun _ _ _ h => h) (Or.inl ⟨by rfl, ?_⟩) hHeld ?_ ?_
   rotate_left
   ·rintro w' ⟨s0, s1, s2, s3, s4, s5, s6, s7⟩
    go_simp
    with_reducible rfl
   rotate_left
   ·simp only [Act.put, sI, sZ, sS, i64_w, i32_w]
    rfl
   refine take_ (i := 20) (N := some 29) (v := ?_) (a' := ?_) #[true, true, true, true, true, true, true, true, true, true, true, true, true, true, true, true, false, false, true, true, true, false, false, false, false, false] rfl rfl (take_ofW HT_.out HW_.out kR) (fun _ _ _ h => h) (Or.inl ⟨by rfl, ?_⟩) hHeld ?_ ?_
   rotate_left
   ·rintro w' ⟨s0, s1, s2, s3, s4, s5, s6, s7⟩
    go_simp
    with_reducible rfl
   rotate_left
   ·simp only [Act.put, sI, sZ, sS, i64_w, i32_w]
    rfl
   refine one_ (i := 16) (N := some 25) #[true, true, true, true, true, true, true, true, true, true, true, true, true, true, true, true, true, false, true, true, true, false, false, false, false, false] rfl rfl (one_of HT_.out kR) (by decide) (fun K hK => ?_)
   refine goes_ Try.func138 kR rfl #[.agg #[.int .i64 a2_0, .int .i64 a2_1], .agg #[.int .i64 a3_0, .int .i64 a3_1], .agg #[.int .i64 a0_0, .int .i64 a0_1]] (by rfl) rfl rfl sQ ?_
   with_reducible refine (impl_turn.calls a2_0 a2_1 a3_0 a3_1 a0_0 a0_1 t212 _ A15.out).mono ?_
   rintro e w24 ⟨rfl, hb⟩
   refine ⟨_, rfl, ?_⟩
   have n0_ := aM (blk_below (g := gb204) (o := .cells #[.int .i64 a0_0, .int .i64 a0_1] 34 (0, 0)) (gQ BK204) hb)
   have n1_ := aM (blk_below (g := gb205) (o := .cells #[.int .i64 a1_0, .int .i64 a1_1] 34 (0, 0)) (gQ BK205) hb)
   have n2_ := aM (blk_below (g := gb206) (o := .cells #[.int .i64 a2_0, .int .i64 a2_1] 34 (0, 0)) (gQ BK206) hb)
   have n3_ := aM (blk_below (g := gb207) (o := .cells #[.int .i64 a3_0, .int .i64 a3_1] 34 (0, 0)) (gQ BK207) hb)
   have n4_ := aM (pT (by repeat (first | (with_reducible first | exact HB.out | apply pA | apply pN | apply pD | refine pS ?_ GE204.out | refine pS ?_ GE205.out | refine pS ?_ GE206.out | refine pS ?_ GE207.out) | exact HB.out)) hb)
   clear BK204
   clear BK205
   clear BK206
   clear BK207
   clear HB
   have BK204 := n0_
   have BK205 := n1_
   have BK206 := n2_
   have BK207 := n3_
   have HB := n4_
   clear n0_ n1_ n2_ n3_ n4_
   (try clear hb)
   (try clear hb2)
   (try clear hk)
   (try clear hi)
   refine hK.out _ _ ⟨(kC BK204.out 0).trans rfl, (kC BK204.out 1).trans rfl, (kC BK205.out 0).trans rfl, (kC BK205.out 1).trans rfl, (kC BK206.out 0).trans rfl, (kC BK206.out 1).trans rfl, (kC BK207.out 0).trans rfl, (kC BK207.out 1).trans rfl⟩ (fun hHeld => ?_)
   clear hK K
   refine norm_ (a' := ?_) ?_ ?_
   rotate_left
   ·show Act.put _ (some 25) _ = _
    simp only [Act.put, sI, sZ, sS, i64_w, i32_w]
    rfl
   refine one_ (i := 17) (N := some 26) #[true, true, true, true, true, true, true, true, true, true, true, true, true, true, true, true, true, true, true, true, true, false, false, false, false, false] rfl rfl (one_of HT_.out kR) (by decide) (fun K hK => ?_)
   refine goes_ Try.func115 kR rfl #[.int .i64 t212] (by rfl) rfl rfl sQ ?_
   with_reducible refine (impl_sign.calls t212 t213 _ A16.out).mono ?_
   rintro e w25 ⟨rfl, hb⟩
   refine ⟨_, rfl, ?_⟩
   have n0_ := aM (blk_below (g := gb204) (o := .cells #[.int .i64 a0_0, .int .i64 a0_1] 34 (0, 0)) (gQ BK204) hb)
   have n1_ := aM (blk_below (g := gb205) (o := .cells #[.int .i64 a1_0, .int .i64 a1_1] 34 (0, 0)) (gQ BK205) hb)
   have n2_ := aM (blk_below (g := gb206) (o := .cells #[.int .i64 a2_0, .int .i64 a2_1] 34 (0, 0)) (gQ BK206) hb)
   have n3_ := aM (blk_below (g := gb207) (o := .cells #[.int .i64 a3_0, .int .i64 a3_1] 34 (0, 0)) (gQ BK207) hb)
   have n4_ := aM (pT (by repeat (first | (with_reducible first | exact HB.out | apply pA | apply pN | apply pD | refine pS ?_ GE204.out | refine pS ?_ GE205.out | refine pS ?_ GE206.out | refine pS ?_ GE207.out) | exact HB.out)) hb)
   clear BK204
   clear BK205
   clear BK206
   clear BK207
   clear HB
   have BK204 := n0_
   have BK205 := n1_
   have BK206 := n2_
   have BK207 := n3_
   have HB := n4_
   clear n0_ n1_ n2_ n3_ n4_
   (try clear hb)
   (try clear hb2)
   (try clear hk)
   (try clear hi)
   refine hK.out _ _ ⟨(kC BK204.out 0).trans rfl, (kC BK204.out 1).trans rfl, (kC BK205.out 0).trans rfl, (kC BK205.out 1).trans rfl, (kC BK206.out 0).trans rfl, (kC BK206.out 1).trans rfl, (kC BK207.out 0).trans rfl, (kC BK207.out 1).trans rfl⟩ (fun hHeld => ?_)
   clear hK K
   refine norm_ (a' := ?_) ?_ ?_
   rotate_left
   ·show Act.put _ (some 26) _ = _
    simp only [Act.put, sI, sZ, sS, i64_w, i32_w]
    rfl
   refine one_ (i := 21) (N := some 30) #[true, true, true, true, true, true, true, true, true, true, true, true, true, true, true, true, true, true, true, true, true, true, false, false, false, false] rfl rfl (one_of HT_.out kR) (by decide) (fun K hK => ?_)
   refine goes_ Try.func138 kR rfl #[.agg #[.int .i64 a2_0, .int .i64 a2_1], .agg #[.int .i64 a3_0, .int .i64 a3_1], .agg #[.int .i64 a1_0, .int .i64 a1_1]] (by rfl) rfl rfl sQ ?_
   with_reducible refine (impl_turn.calls a2_0 a2_1 a3_0 a3_1 a1_0 a1_1 t214 _ A17.out).mono ?_
   rintro e w26 ⟨rfl, hb⟩
   refine ⟨_, rfl, ?_⟩
   have n0_ := aM (blk_below (g := gb204) (o := .cells #[.int .i64 a0_0, .int .i64 a0_1] 34 (0, 0)) (gQ BK204) hb)
   have n1_ := aM (blk_below (g := gb205) (o := .cells #[.int .i64 a1_0, .int .i64 a1_1] 34 (0, 0)) (gQ BK205) hb)
   have n2_ := aM (blk_below (g := gb206) (o := .cells #[.int .i64 a2_0, .int .i64 a2_1] 34 (0, 0)) (gQ BK206) hb)
   have n3_ := aM (blk_below (g := gb207) (o := .cells #[.int .i64 a3_0, .int .i64 a3_1] 34 (0, 0)) (gQ BK207) hb)
   have n4_ := aM (pT (by repeat (first | (with_reducible first | exact HB.out | apply pA | apply pN | apply pD | refine pS ?_ GE204.out | refine pS ?_ GE205.out | refine pS ?_ GE206.out | refine pS ?_ GE207.out) | exact HB.out)) hb)
   clear BK204
   clear BK205
   clear BK206
   clear BK207
   clear HB
   have BK204 := n0_
   have BK205 := n1_
   have BK206 := n2_
   have BK207 := n3_
   have HB := n4_
   clear n0_ n1_ n2_ n3_ n4_
   (try clear hb)
   (try clear hb2)
   (try clear hk)
   (try clear hi)
   refine hK.out _ _ ⟨(kC BK204.out 0).trans rfl, (kC BK204.out 1).trans rfl, (kC BK205.out 0).trans rfl, (kC BK205.out 1).trans rfl, (kC BK206.out 0).trans rfl, (kC BK206.out 1).trans rfl, (kC BK207.out 0).trans rfl, (kC BK207.out 1).trans rfl⟩ (fun hHeld => ?_)
   clear hK K
   refine norm_ (a' := ?_) ?_ ?_
   rotate_left
   ·show Act.put _ (some 30) _ = _
    simp only [Act.put, sI, sZ, sS, i64_w, i32_w]
    rfl
   refine one_ (i := 22) (N := some 31) #[true, true, true, true, true, true, true, true, true, true, true, true, true, true, true, true, true, true, true, true, true, true, true, false, false, false] rfl rfl (one_of HT_.out kR) (by decide) (fun K hK => ?_)
   refine goes_ Try.func115 kR rfl #[.int .i64 t214] (by rfl) rfl rfl sQ ?_
   with_reducible refine (impl_sign.calls t214 t215 _ A18.out).mono ?_
   rintro e w27 ⟨rfl, hb⟩
   refine ⟨_, rfl, ?_⟩
   have n0_ := aM (blk_below (g := gb204) (o := .cells #[.int .i64 a0_0, .int .i64 a0_1] 34 (0, 0)) (gQ BK204) hb)
   have n1_ := aM (blk_below (g := gb205) (o := .cells #[.int .i64 a1_0, .int .i64 a1_1] 34 (0, 0)) (gQ BK205) hb)
   have n2_ := aM (blk_below (g := gb206) (o := .cells #[.int .i64 a2_0, .int .i64 a2_1] 34 (0, 0)) (gQ BK206) hb)
   have n3_ := aM (blk_below (g := gb207) (o := .cells #[.int .i64 a3_0, .int .i64 a3_1] 34 (0, 0)) (gQ BK207) hb)
   have n4_ := aM (pT (by repeat (first | (with_reducible first | exact HB.out | apply pA | apply pN | apply pD | refine pS ?_ GE204.out | refine pS ?_ GE205.out | refine pS ?_ GE206.out | refine pS ?_ GE207.out) | exact HB.out)) hb)
   clear BK204
   clear BK205
   clear BK206
   clear BK207
   clear HB
   have BK204 := n0_
   have BK205 := n1_
   have BK206 := n2_
   have BK207 := n3_
   have HB := n4_
   clear n0_ n1_ n2_ n3_ n4_
   (try clear hb)
   (try clear hb2)
   (try clear hk)
   (try clear hi)
   refine hK.out _ _ ⟨(kC BK204.out 0).trans rfl, (kC BK204.out 1).trans rfl, (kC BK205.out 0).trans rfl, (kC BK205.out 1).trans rfl, (kC BK206.out 0).trans rfl, (kC BK206.out 1).trans rfl, (kC BK207.out 0).trans rfl, (kC BK207.out 1).trans rfl⟩ (fun hHeld => ?_)
   clear hK K
   refine norm_ (a' := ?_) ?_ ?_
   rotate_left
   ·show Act.put _ (some 31) _ = _
    simp only [Act.put, sI, sZ, sS, i64_w, i32_w]
    rfl
   refine pure_ (i := 23) (N := some 32) (v := ?_) (a' := ?_) #[true, true, true, true, true, true, true, true, true, true, true, true, true, true, true, true, true, true, true, true, true, true, true, true, false, false] rfl rfl (any_of HT_.out kR) (fun _ _ _ h => h) (Or.inl ⟨by rfl, ?_⟩) ?_ ?_
   rotate_left
   ·intro w'
    go_simp
    with_reducible rfl
   rotate_left
   ·simp only [Act.put, sI, sZ, sS, i64_w, i32_w]
    rfl
   refine pure_ (i := 24) (N := some 33) (v := ?_) (a' := ?_) #[true, true, true, true, true, true, true, true, true, true, true, true, true, true, true, true, true, true, true, true, true, true, true, true, true, false] rfl rfl (any_of HT_.out kR) (fun _ _ _ h => h) (Or.inl ⟨by rfl, ?_⟩) ?_ ?_
   rotate_left
   ·intro w'
    go_simp
    with_reducible rfl
   rotate_left
   ·simp only [Act.put, sI, sZ, sS, i64_w, i32_w]
    rfl
   refine pure_ (i := 25) (N := some 34) (v := ?_) (a' := ?_) #[true, true, true, true, true, true, true, true, true, true, true, true, true, true, true, true, true, true, true, true, true, true, true, true, true, true] rfl rfl (any_of HT_.out kR) (fun _ _ _ h => h) (Or.inl ⟨by rfl, ?_⟩) ?_ ?_
   rotate_left
   ·intro w'
    go_simp
    with_reducible rfl
   rotate_left
   ·simp only [Act.put, sI, sZ, sS, i64_w, i32_w]
    rfl
   refine done_ (done_of HT_.out kR) ?_
   try go_wp2
   go_meet
   case rel => exact ⟨_, (decide ((wrap64 (t213 * t215)) < 0)), eQ, H', ⟨by first | omega | exact Nat.le_refl _⟩, ⟨by (with_reducible repeat (first | refine kN ?_ _ | refine kD ?_ | refine kA ?_ _)); exact BK204.out⟩, ⟨by (with_reducible repeat (first | refine kN ?_ _ | refine kD ?_ | refine kA ?_ _)); exact BK205.out⟩, ⟨by (with_reducible repeat (first | refine kN ?_ _ | refine kD ?_ | refine kA ?_ _)); exact BK206.out⟩, ⟨by (with_reducible repeat (first | refine kN ?_ _ | refine kD ?_ | refine kA ?_ _)); exact BK207.out⟩, ⟨by repeat (first | (with_reducible first | exact HB.out | apply pA | apply pN | apply pD | refine pS ?_ GE204.out | refine pS ?_ GE205.out | refine pS ?_ GE206.out | refine pS ?_ GE207.out) | exact HB.out)⟩⟩
  ·rw [if_neg c14] at H
   have c14b0 : decide ((wrap64 (t209 * t211)) < 0) = false := decide_eq_false c14
   clear c14
   (first | rw [c14b0] | (simp only [i64_w, i32_w]; rw [c14b0]) | skip)
   have H' := aM H
   clear H
   try go_wp2
   have n0_ := aM (kD BK204.out)
   have n1_ := aM (kD BK205.out)
   have n2_ := aM (kD BK206.out)
   have n3_ := aM (kD BK207.out)
   have n4_ := aM (pD HB.out)
   clear BK204
   clear BK205
   clear BK206
   clear BK207
   clear HB
   have BK204 := n0_
   have BK205 := n1_
   have BK206 := n2_
   have BK207 := n3_
   have HB := n4_
   clear n0_ n1_ n2_ n3_ n4_
   refine start_ (n := 26) (S := fun w' => w'.cell? ⟨gb204, 0, none⟩ = some (.int .i64 a0_0) ∧ w'.cell? ⟨gb204, 1, none⟩ = some (.int .i64 a0_1) ∧ w'.cell? ⟨gb205, 0, none⟩ = some (.int .i64 a1_0) ∧ w'.cell? ⟨gb205, 1, none⟩ = some (.int .i64 a1_1) ∧ w'.cell? ⟨gb206, 0, none⟩ = some (.int .i64 a2_0) ∧ w'.cell? ⟨gb206, 1, none⟩ = some (.int .i64 a2_1) ∧ w'.cell? ⟨gb207, 0, none⟩ = some (.int .i64 a3_0) ∧ w'.cell? ⟨gb207, 1, none⟩ = some (.int .i64 a3_1)) (ds := []) #[false, false, false, false, false, false, false, false, false, false, false, false, false, false, false, false, false, false, false, false, false, false, false, false, false, false] kR rfl rfl ⟨(kC BK204.out 0).trans rfl, (kC BK204.out 1).trans rfl, (kC BK205.out 0).trans rfl, (kC BK205.out 1).trans rfl, (kC BK206.out 0).trans rfl, (kC BK206.out 1).trans rfl, (kC BK207.out 0).trans rfl, (kC BK207.out 1).trans rfl⟩ (fun hHeld => ?_); refine with_tabW impl_meet.tab1 impl_meet.bits1 (fun HT_ HW_ => ?_)
   generalize w9.drew = w28 at BK204 BK205 BK206 BK207 HB hHeld ⊢
   refine take_ (i := 0) (N := some 9) (v := ?_) (a' := ?_) #[true, false, false, false, false, false, false, false, false, false, false, false, false, false, false, false, false, false, false, false, false, false, false, false, false, false] rfl rfl (take_ofW HT_.out HW_.out kR) (fun _ _ _ h => h) (Or.inl ⟨by rfl, ?_⟩) hHeld ?_ ?_
   rotate_left
   ·rintro w' ⟨s0, s1, s2, s3, s4, s5, s6, s7⟩
    go_simp
    with_reducible rfl
   rotate_left
   ·simp only [Act.put, sI, sZ, sS, i64_w, i32_w]
    rfl
   refine take_ (i := 1) (N := some 10) (v := ?_) (a' := ?_) #[true, true, false, false, false, false, false, false, false, false, false, false, false, false, false, false, false, false, false, false, false, false, false, false, false, false] rfl rfl (take_ofW HT_.out HW_.out kR) (fun _ _ _ h => h) (Or.inl ⟨by rfl, ?_⟩) hHeld ?_ ?_
   rotate_left
   ·rintro w' ⟨s0, s1, s2, s3, s4, s5, s6, s7⟩
    go_simp
    with_reducible rfl
   rotate_left
   ·simp only [Act.put, sI, sZ, sS, i64_w, i32_w]
    rfl
   refine take_ (i := 2) (N := some 11) (v := ?_) (a' := ?_) #[true, true, true, false, false, false, false, false, false, false, false, false, false, false, false, false, false, false, false, false, false, false, false, false, false, false] rfl rfl (take_ofW HT_.out HW_.out kR) (fun _ _ _ h => h) (Or.inl ⟨by rfl, ?_⟩) hHeld ?_ ?_
   rotate_left
   ·rintro w' ⟨s0, s1, s2, s3, s4, s5, s6, s7⟩
    go_simp
    with_reducible rfl
   rotate_left
   ·simp only [Act.put, sI, sZ, sS, i64_w, i32_w]
    rfl
   refine take_ (i := 5) (N := some 14) (v := ?_) (a' := ?_) #[true, true, true, false, false, true, false, false, false, false, false, false, false, false, false, false, false, false, false, false, false, false, false, false, false, false] rfl rfl (take_ofW HT_.out HW_.out kR) (fun _ _ _ h => h) (Or.inl ⟨by rfl, ?_⟩) hHeld ?_ ?_
   rotate_left
   ·rintro w' ⟨s0, s1, s2, s3, s4, s5, s6, s7⟩
    go_simp
    with_reducible rfl
   rotate_left
   ·simp only [Act.put, sI, sZ, sS, i64_w, i32_w]
    rfl
   refine take_ (i := 6) (N := some 15) (v := ?_) (a' := ?_) #[true, true, true, false, false, true, true, false, false, false, false, false, false, false, false, false, false, false, false, false, false, false, false, false, false, false] rfl rfl (take_ofW HT_.out HW_.out kR) (fun _ _ _ h => h) (Or.inl ⟨by rfl, ?_⟩) hHeld ?_ ?_
   rotate_left
   ·rintro w' ⟨s0, s1, s2, s3, s4, s5, s6, s7⟩
    go_simp
    with_reducible rfl
   rotate_left
   ·simp only [Act.put, sI, sZ, sS, i64_w, i32_w]
    rfl
   refine take_ (i := 7) (N := some 16) (v := ?_) (a' := ?_) #[true, true, true, false, false, true, true, true, false, false, false, false, false, false, false, false, false, false, false, false, false, false, false, false, false, false] rfl rfl (take_ofW HT_.out HW_.out kR) (fun _ _ _ h => h) (Or.inl ⟨by rfl, ?_⟩) hHeld ?_ ?_
   rotate_left
   ·rintro w' ⟨s0, s1, s2, s3, s4, s5, s6, s7⟩
    go_simp
    with_reducible rfl
   rotate_left
   ·simp only [Act.put, sI, sZ, sS, i64_w, i32_w]
    rfl
   refine one_ (i := 3) (N := some 12) #[true, true, true, true, false, true, true, true, false, false, false, false, false, false, false, false, false, false, false, false, false, false, false, false, false, false] rfl rfl (one_of HT_.out kR) (by decide) (fun K hK => ?_)
   refine goes_ Try.func138 kR rfl #[.agg #[.int .i64 a0_0, .int .i64 a0_1], .agg #[.int .i64 a1_0, .int .i64 a1_1], .agg #[.int .i64 a2_0, .int .i64 a2_1]] (by rfl) rfl rfl sQ ?_
   with_reducible refine (impl_turn.calls a0_0 a0_1 a1_0 a1_1 a2_0 a2_1 t208 _ A10.out).mono ?_
   rintro e w29 ⟨rfl, hb⟩
   refine ⟨_, rfl, ?_⟩
   have n0_ := aM (blk_below (g := gb204) (o := .cells #[.int .i64 a0_0, .int .i64 a0_1] 34 (0, 0)) (gQ BK204) hb)
   have n1_ := aM (blk_below (g := gb205) (o := .cells #[.int .i64 a1_0, .int .i64 a1_1] 34 (0, 0)) (gQ BK205) hb)
   have n2_ := aM (blk_below (g := gb206) (o := .cells #[.int .i64 a2_0, .int .i64 a2_1] 34 (0, 0)) (gQ BK206) hb)
   have n3_ := aM (blk_below (g := gb207) (o := .cells #[.int .i64 a3_0, .int .i64 a3_1] 34 (0, 0)) (gQ BK207) hb)
   have n4_ := aM (pT (by repeat (first | (with_reducible first | exact HB.out | apply pA | apply pN | apply pD | refine pS ?_ GE204.out | refine pS ?_ GE205.out | refine pS ?_ GE206.out | refine pS ?_ GE207.out) | exact HB.out)) hb)
   clear BK204
   clear BK205
   clear BK206
   clear BK207
   clear HB
   have BK204 := n0_
   have BK205 := n1_
   have BK206 := n2_
   have BK207 := n3_
   have HB := n4_
   clear n0_ n1_ n2_ n3_ n4_
   (try clear hb)
   (try clear hb2)
   (try clear hk)
   (try clear hi)
   refine hK.out _ _ ⟨(kC BK204.out 0).trans rfl, (kC BK204.out 1).trans rfl, (kC BK205.out 0).trans rfl, (kC BK205.out 1).trans rfl, (kC BK206.out 0).trans rfl, (kC BK206.out 1).trans rfl, (kC BK207.out 0).trans rfl, (kC BK207.out 1).trans rfl⟩ (fun hHeld => ?_)
   clear hK K
   refine norm_ (a' := ?_) ?_ ?_
   rotate_left
   ·show Act.put _ (some 12) _ = _
    simp only [Act.put, sI, sZ, sS, i64_w, i32_w]
    rfl
   refine one_ (i := 4) (N := some 13) #[true, true, true, true, true, true, true, true, false, false, false, false, false, false, false, false, false, false, false, false, false, false, false, false, false, false] rfl rfl (one_of HT_.out kR) (by decide) (fun K hK => ?_)
   refine goes_ Try.func115 kR rfl #[.int .i64 t208] (by rfl) rfl rfl sQ ?_
   with_reducible refine (impl_sign.calls t208 t209 _ A11.out).mono ?_
   rintro e w30 ⟨rfl, hb⟩
   refine ⟨_, rfl, ?_⟩
   have n0_ := aM (blk_below (g := gb204) (o := .cells #[.int .i64 a0_0, .int .i64 a0_1] 34 (0, 0)) (gQ BK204) hb)
   have n1_ := aM (blk_below (g := gb205) (o := .cells #[.int .i64 a1_0, .int .i64 a1_1] 34 (0, 0)) (gQ BK205) hb)
   have n2_ := aM (blk_below (g := gb206) (o := .cells #[.int .i64 a2_0, .int .i64 a2_1] 34 (0, 0)) (gQ BK206) hb)
   have n3_ := aM (blk_below (g := gb207) (o := .cells #[.int .i64 a3_0, .int .i64 a3_1] 34 (0, 0)) (gQ BK207) hb)
   have n4_ := aM (pT (by repeat (first | (with_reducible first | exact HB.out | apply pA | apply pN | apply pD | refine pS ?_ GE204.out | refine pS ?_ GE205.out | refine pS ?_ GE206.out | refine pS ?_ GE207.out) | exact HB.out)) hb)
   clear BK204
   clear BK205
   clear BK206
   clear BK207
   clear HB
   have BK204 := n0_
   have BK205 := n1_
   have BK206 := n2_
   have BK207 := n3_
   have HB := n4_
   clear n0_ n1_ n2_ n3_ n4_
   (try clear hb)
   (try clear hb2)
   (try clear hk)
   (try clear hi)
   refine hK.out _ _ ⟨(kC BK204.out 0).trans rfl, (kC BK204.out 1).trans rfl, (kC BK205.out 0).trans rfl, (kC BK205.out 1).trans rfl, (kC BK206.out 0).trans rfl, (kC BK206.out 1).trans rfl, (kC BK207.out 0).trans rfl, (kC BK207.out 1).trans rfl⟩ (fun hHeld => ?_)
   clear hK K
   refine norm_ (a' := ?_) ?_ ?_
   rotate_left
   ·show Act.put _ (some 13) _ = _
    simp only [Act.put, sI, sZ, sS, i64_w, i32_w]
    rfl
   refine one_ (i := 8) (N := some 17) #[true, true, true, true, true, true, true, true, true, false, false, false, false, false, false, false, false, false, false, false, false, false, false, false, false, false] rfl rfl (one_of HT_.out kR) (by decide) (fun K hK => ?_)
   refine goes_ Try.func138 kR rfl #[.agg #[.int .i64 a0_0, .int .i64 a0_1], .agg #[.int .i64 a1_0, .int .i64 a1_1], .agg #[.int .i64 a3_0, .int .i64 a3_1]] (by rfl) rfl rfl sQ ?_
   with_reducible refine (impl_turn.calls a0_0 a0_1 a1_0 a1_1 a3_0 a3_1 t210 _ A12.out).mono ?_
   rintro e w31 ⟨rfl, hb⟩
   refine ⟨_, rfl, ?_⟩
   have n0_ := aM (blk_below (g := gb204) (o := .cells #[.int .i64 a0_0, .int .i64 a0_1] 34 (0, 0)) (gQ BK204) hb)
   have n1_ := aM (blk_below (g := gb205) (o := .cells #[.int .i64 a1_0, .int .i64 a1_1] 34 (0, 0)) (gQ BK205) hb)
   have n2_ := aM (blk_below (g := gb206) (o := .cells #[.int .i64 a2_0, .int .i64 a2_1] 34 (0, 0)) (gQ BK206) hb)
   have n3_ := aM (blk_below (g := gb207) (o := .cells #[.int .i64 a3_0, .int .i64 a3_1] 34 (0, 0)) (gQ BK207) hb)
   have n4_ := aM (pT (by repeat (first | (with_reducible first | exact HB.out | apply pA | apply pN | apply pD | refine pS ?_ GE204.out | refine pS ?_ GE205.out | refine pS ?_ GE206.out | refine pS ?_ GE207.out) | exact HB.out)) hb)
   clear BK204
   clear BK205
   clear BK206
   clear BK207
   clear HB
   have BK204 := n0_
   have BK205 := n1_
   have BK206 := n2_
   have BK207 := n3_
   have HB := n4_
   clear n0_ n1_ n2_ n3_ n4_
   (try clear hb)
   (try clear hb2)
   (try clear hk)
   (try clear hi)
   refine hK.out _ _ ⟨(kC BK204.out 0).trans rfl, (kC BK204.out 1).trans rfl, (kC BK205.out 0).trans rfl, (kC BK205.out 1).trans rfl, (kC BK206.out 0).trans rfl, (kC BK206.out 1).trans rfl, (kC BK207.out 0).trans rfl, (kC BK207.out 1).trans rfl⟩ (fun hHeld => ?_)
   clear hK K
   refine norm_ (a' := ?_) ?_ ?_
   rotate_left
   ·show Act.put _ (some 17) _ = _
    simp only [Act.put, sI, sZ, sS, i64_w, i32_w]
    rfl
   refine one_ (i := 9) (N := some 18) #[true, true, true, true, true, true, true, true, true, true, false, false, false, false, false, false, false, false, false, false, false, false, false, false, false, false] rfl rfl (one_of HT_.out kR) (by decide) (fun K hK => ?_)
   refine goes_ Try.func115 kR rfl #[.int .i64 t210] (by rfl) rfl rfl sQ ?_
   with_reducible refine (impl_sign.calls t210 t211 _ A13.out).mono ?_
   rintro e w32 ⟨rfl, hb⟩
   refine ⟨_, rfl, ?_⟩
   have n0_ := aM (blk_below (g := gb204) (o := .cells #[.int .i64 a0_0, .int .i64 a0_1] 34 (0, 0)) (gQ BK204) hb)
   have n1_ := aM (blk_below (g := gb205) (o := .cells #[.int .i64 a1_0, .int .i64 a1_1] 34 (0, 0)) (gQ BK205) hb)
   have n2_ := aM (blk_below (g := gb206) (o := .cells #[.int .i64 a2_0, .int .i64 a2_1] 34 (0, 0)) (gQ BK206) hb)
   have n3_ := aM (blk_below (g := gb207) (o := .cells #[.int .i64 a3_0, .int .i64 a3_1] 34 (0, 0)) (gQ BK207) hb)
   have n4_ := aM (pT (by repeat (first | (with_reducible first | exact HB.out | apply pA | apply pN | apply pD | refine pS ?_ GE204.out | refine pS ?_ GE205.out | refine pS ?_ GE206.out | refine pS ?_ GE207.out) | exact HB.out)) hb)
   clear BK204
   clear BK205
   clear BK206
   clear BK207
   clear HB
   have BK204 := n0_
   have BK205 := n1_
   have BK206 := n2_
   have BK207 := n3_
   have HB := n4_
   clear n0_ n1_ n2_ n3_ n4_
   (try clear hb)
   (try clear hb2)
   (try clear hk)
   (try clear hi)
   refine hK.out _ _ ⟨(kC BK204.out 0).trans rfl, (kC BK204.out 1).trans rfl, (kC BK205.out 0).trans rfl, (kC BK205.out 1).trans rfl, (kC BK206.out 0).trans rfl, (kC BK206.out 1).trans rfl, (kC BK207.out 0).trans rfl, (kC BK207.out 1).trans rfl⟩ (fun hHeld => ?_)
   clear hK K
   refine norm_ (a' := ?_) ?_ ?_
   rotate_left
   ·show Act.put _ (some 18) _ = _
    simp only [Act.put, sI, sZ, sS, i64_w, i32_w]
    rfl
   refine pure_ (i := 10) (N := some 19) (v := ?_) (a' := ?_) #[true, true, true, true, true, true, true, true, true, true, true, false, false, false, false, false, false, false, false, false, false, false, false, false, false, false] rfl rfl (any_of HT_.out kR) (fun _ _ _ h => h) (Or.inl ⟨by rfl, ?_⟩) ?_ ?_
   rotate_left
   ·intro w'
    go_simp
    with_reducible rfl
   rotate_left
   ·simp only [Act.put, sI, sZ, sS, i64_w, i32_w]
    rfl
   refine pure_ (i := 11) (N := some 20) (v := ?_) (a' := ?_) #[true, true, true, true, true, true, true, true, true, true, true, true, false, false, false, false, false, false, false, false, false, false, false, false, false, false] rfl rfl (any_of HT_.out kR) (fun _ _ _ h => h) (Or.inl ⟨by rfl, ?_⟩) ?_ ?_
   rotate_left
   ·intro w'
    go_simp
    with_reducible rfl
   rotate_left
   ·simp only [Act.put, sI, sZ, sS, i64_w, i32_w]
    rfl
   refine pure_ (i := 12) (N := some 21) (v := ?_) (a' := ?_) #[true, true, true, true, true, true, true, true, true, true, true, true, true, false, false, false, false, false, false, false, false, false, false, false, false, false] rfl rfl (any_of HT_.out kR) (fun _ _ _ h => h) (Or.inl ⟨by rfl, ?_⟩) ?_ ?_
   rotate_left
   ·intro w'
    go_simp
    with_reducible rfl
   rotate_left
   ·simp only [Act.put, sI, sZ, sS, i64_w, i32_w]
    rfl
   refine pure_ (i := 13) (N := some 22) (v := undef) (a' := ?_) #[true, true, true, true, true, true, true, true, true, true, true, true, true, true, false, false, false, false, false, false, false, false, false, false, false, false] rfl rfl (any_of HT_.out kR) (fun _ _ _ h => h) (Or.inr ⟨by rfl, rfl⟩) ?_ ?_
   rotate_left
   ·simp only [Act.put, sI, sZ, sS, i64_w, i32_w]
    rfl
   refine pure_ (i := 14) (N := some 23) (v := undef) (a' := ?_) #[true, true, true, true, true, true, true, true, true, true, true, true, true, true, true, false, false, false, false, false, false, false, false, false, false, false] rfl rfl (any_of HT_.out kR) (fun _ _ _ h => h) (Or.inr ⟨by rfl, rfl⟩) ?_ ?_
   rotate_left
   ·simp only [Act.put, sI, sZ, sS, i64_w, i32_w]
    rfl
   refine pure_ (i := 15) (N := some 24) (v := undef) (a' := ?_) #[true, true, true, true, true, true, true, true, true, true, true, true, true, true, true, true, false, false, false, false, false, false, false, false, false, false] rfl rfl (any_of HT_.out kR) (fun _ _ _ h => h) (Or.inr ⟨by rfl, rfl⟩) ?_ ?_
   rotate_left
   ·simp only [Act.put, sI, sZ, sS, i64_w, i32_w]
    rfl
   refine pure_ (i := 16) (N := some 25) (v := undef) (a' := ?_) #[true, true, true, true, true, true, true, true, true, true, true, true, true, true, true, true, true, false, false, false, false, false, false, false, false, false] rfl rfl (any_of HT_.out kR) (fun _ _ _ h => h) (Or.inr ⟨by rfl, rfl⟩) ?_ ?_
   rotate_left
   ·simp only [Act.put, sI, sZ, sS, i64_w, i32_w]
    rfl
   refine pure_ (i := 17) (N := some 26) (v := undef) (a' := ?_) #[true, true, true, true, true, true, true, true, true, true, true, true, true, true, true, true, true, true, false, false, false, false, false, false, false, false] rfl rfl (any_of HT_.out kR) (fun _ _ _ h => h) (Or.inr ⟨by rfl, rfl⟩) ?_ ?_
   rotate_left
   ·simp only [Act.put, sI, sZ, sS, i64_w, i32_w]
    rfl
   refine pure_ (i := 18) (N := some 27) (v := undef) (a' := ?_) #[true, true, true, true, true, true, true, true, true, true, true, true, true, true, true, true, true, true, true, false, false, false, false, false, false, false] rfl rfl (any_of HT_.out kR) (fun _ _ _ h => h) (Or.inr ⟨by rfl, rfl⟩) ?_ ?_
   rotate_left
   ·simp only [Act.put, sI, sZ, sS, i64_w, i32_w]
    rfl
   refine pure_ (i := 19) (N := some 28) (v := undef) (a' := ?_) #[true, true, true, true, true, true, true, true, true, true, true, true, true, true, true, true, true, true, true, true, false, false, false, false, false, false] rfl rfl (any_of HT_.out kR) (fun _ _ _ h => h) (Or.inr ⟨by rfl, rfl⟩) ?_ ?_
   rotate_left
   ·simp only [Act.put, sI, sZ, sS, i64_w, i32_w]
    rfl
   refine pure_ (i := 20) (N := some 29) (v := undef) (a' := ?_) #[true, true, true, true, true, true, true, true, true, true, true, true, true, true, true, true, true, true, true, true, true, false, false, false, false, false] rfl rfl (any_of HT_.out kR) (fun _ _ _ h => h) (Or.inr ⟨by rfl, rfl⟩) ?_ ?_
   rotate_left
   ·simp only [Act.put, sI, sZ, sS, i64_w, i32_w]
    rfl
   refine pure_ (i := 21) (N := some 30) (v := undef) (a' := ?_) #[true, true, true, true, true, true, true, true, true, true, true, true, true, true, true, true, true, true, true, true, true, true, false, false, false, false] rfl rfl (any_of HT_.out kR) (fun _ _ _ h => h) (Or.inr ⟨by rfl, rfl⟩) ?_ ?_
   rotate_left
   ·simp only [Act.put, sI, sZ, sS, i64_w, i32_w]
    rfl
   refine pure_ (i := 22) (N := some 31) (v := undef) (a' := ?_) #[true, true, true, true, true, true, true, true, true, true, true, true, true, true, true, true, true, true, true, true, true, true, true, false, false, false] rfl rfl (any_of HT_.out kR) (fun _ _ _ h => h) (Or.inr ⟨by rfl, rfl⟩) ?_ ?_
   rotate_left
   ·simp only [Act.put, sI, sZ, sS, i64_w, i32_w]
    rfl
   refine pure_ (i := 23) (N := some 32) (v := undef) (a' := ?_) #[true, true, true, true, true, true, true, true, true, true, true, true, true, true, true, true, true, true, true, true, true, true, true, true, false, false] rfl rfl (any_of HT_.out kR) (fun _ _ _ h => h) (Or.inr ⟨by rfl, rfl⟩) ?_ ?_
   rotate_left
   ·simp only [Act.put, sI, sZ, sS, i64_w, i32_w]
    rfl
   refine pure_ (i := 24) (N := some 33) (v := undef) (a' := ?_) #[true, true, true, true, true, true, true, true, true, true, true, true, true, true, true, true, true, true, true, true, true, true, true, true, true, false] rfl rfl (any_of HT_.out kR) (fun _ _ _ h => h) (Or.inr ⟨by rfl, rfl⟩) ?_ ?_
   rotate_left
   ·simp only [Act.put, sI, sZ, sS, i64_w, i32_w]
    rfl
   refine pure_ (i := 25) (N := some 34) (v := ?_) (a' := ?_) #[true, true, true, true, true, true, true, true, true, true, true, true, true, true, true, true, true, true, true, true, true, true, true, true, true, true] rfl rfl (any_of HT_.out kR) (fun _ _ _ h => h) (Or.inl ⟨by rfl, ?_⟩) ?_ ?_
   rotate_left
   ·intro w'
    go_simp
    with_reducible rfl
   rotate_left
   ·simp only [Act.put, sI, sZ, sS, i64_w, i32_w]
    rfl
   refine done_ (done_of HT_.out kR) ?_
   try go_wp2
   go_meet
   case rel => exact ⟨_, (false), eQ, H', ⟨by first | omega | exact Nat.le_refl _⟩, ⟨by (with_reducible repeat (first | refine kN ?_ _ | refine kD ?_ | refine kA ?_ _)); exact BK204.out⟩, ⟨by (with_reducible repeat (first | refine kN ?_ _ | refine kD ?_ | refine kA ?_ _)); exact BK205.out⟩, ⟨by (with_reducible repeat (first | refine kN ?_ _ | refine kD ?_ | refine kA ?_ _)); exact BK206.out⟩, ⟨by (with_reducible repeat (first | refine kN ?_ _ | refine kD ?_ | refine kA ?_ _)); exact BK207.out⟩, ⟨by repeat (first | (with_reducible first | exact HB.out | apply pA | apply pN | apply pD | refine pS ?_ GE204.out | refine pS ?_ GE205.out | refine pS ?_ GE206.out | refine pS ?_ GE207.out) | exact HB.out)⟩⟩
 case rest =>
  clear HC5
  try clear c1
  try clear p2
  try clear p6
  try clear c11
  try clear c13
  try clear c14
  try clear c14b0
  obtain ⟨kq, x34_4, rfl, HA, HJ4, BK204, BK205, BK206, BK207, HB⟩ := hcut
  cases kq with
  | zero => exact absurd HA.out (by simp [impl_meet.j0])
  | succ kj4 =>
   have H := HA.out
   clear HA
   simp only [impl_meet.j0] at H
   by_cases c33 : x34_4 = true
   ·subst c33
    have H1 : (some true) = some r := by rw [if_pos rfl] at H; exact H
    clear H
    have H := H1
    clear H1
    obtain rfl := Option.some.inj H
    go_wp2
    go_ret
    exact ⟨by first | rfl | (simp [errW_none, errW_some] <;> rfl) | (simp [*, errW_none, errW_some] <;> rfl), by repeat (first | (with_reducible first | exact HB.out | apply pA | apply pN | apply pD | refine pS ?_ GE204.out | refine pS ?_ GE205.out | refine pS ?_ GE206.out | refine pS ?_ GE207.out) | exact HB.out)⟩
   ·replace c33 := Bool.eq_false_iff.mpr c33
    subst c33
    have H1 : ((impl_isOn.f a0_0 a0_1 a1_0 a1_1 a2_0 a2_1).bind fun t216 => (if t216 = true then (some true) else ((impl_isOn.f a0_0 a0_1 a1_0 a1_1 a3_0 a3_1).bind fun t217 => (if t217 = true then (some true) else ((impl_isOn.f a2_0 a2_1 a3_0 a3_1 a0_0 a0_1).bind fun t218 => (if t218 = true then (some true) else ((impl_isOn.f a2_0 a2_1 a3_0 a3_1 a1_0 a1_1).bind fun t219 => (some t219)))))))) = some r := by rw [if_neg (show ¬ (false = true) by decide)] at H; exact H
    clear H
    have H := H1
    clear H1
    replace H := oB.mp H
    obtain ⟨t216, A340, H⟩ := H
    replace H : (if t216 = true then (some true) else ((impl_isOn.f a0_0 a0_1 a1_0 a1_1 a3_0 a3_1).bind fun t217 => (if t217 = true then (some true) else ((impl_isOn.f a2_0 a2_1 a3_0 a3_1 a0_0 a0_1).bind fun t218 => (if t218 = true then (some true) else ((impl_isOn.f a2_0 a2_1 a3_0 a3_1 a1_0 a1_1).bind fun t219 => (some t219))))))) = some r := H
    have A34 := aM A340
    clear A340
    by_cases c35 : t216 = true
    ·subst c35
     have H1 : (some true) = some r := by rw [if_pos rfl] at H; exact H
     clear H
     have H := H1
     clear H1
     obtain rfl := Option.some.inj H
     have hnb36 := NB204_205.out
     have hnc36 := NB205_204.out
     have hnb37 := NB204_206.out
     have hnc37 := NB206_204.out
     have hnb38 := NB204_207.out
     have hnc38 := NB207_204.out
     have hcz39_0 : wc.cell? ⟨gb204, 0, none⟩ = some (.int .i64 a0_0) := (kC BK204.out 0).trans rfl
     have hcz39_1 : wc.cell? ⟨gb204, 1, none⟩ = some (.int .i64 a0_1) := (kC BK204.out 1).trans rfl
     have hfz39_0 := kF BK204.out 0
     have hfz39_1 := kF BK204.out 1
     have hnb40 := NB205_206.out
     have hnc40 := NB206_205.out
     have hnb41 := NB205_207.out
     have hnc41 := NB207_205.out
     have hcz42_0 : wc.cell? ⟨gb205, 0, none⟩ = some (.int .i64 a1_0) := (kC BK205.out 0).trans rfl
     have hcz42_1 : wc.cell? ⟨gb205, 1, none⟩ = some (.int .i64 a1_1) := (kC BK205.out 1).trans rfl
     have hfz42_0 := kF BK205.out 0
     have hfz42_1 := kF BK205.out 1
     have hnb43 := NB206_207.out
     have hnc43 := NB207_206.out
     have hcz44_0 : wc.cell? ⟨gb206, 0, none⟩ = some (.int .i64 a2_0) := (kC BK206.out 0).trans rfl
     have hcz44_1 : wc.cell? ⟨gb206, 1, none⟩ = some (.int .i64 a2_1) := (kC BK206.out 1).trans rfl
     have hfz44_0 := kF BK206.out 0
     have hfz44_1 := kF BK206.out 1
     go_wp2_with (first | ((with_reducible refine gC (f := 141) rfl ?_); refine goesL_ (some 38) rfl rfl Try.func141 kR rfl #[.agg #[.int .i64 a0_0, .int .i64 a0_1], .agg #[.int .i64 a1_0, .int .i64 a1_1], .agg #[.int .i64 a2_0, .int .i64 a2_1]] rfl sQ ?_; (with_reducible refine (impl_isOn.calls a0_0 a0_1 a1_0 a1_1 a2_0 a2_1 true _ A34.out).mono ?_); rintro e w45 ⟨rfl, hb⟩; refine ⟨_, rfl, ?_⟩; have n0_ := aM (blk_below (g := gb204) (o := .cells #[.int .i64 a0_0, .int .i64 a0_1] 34 (0, 0)) (gQ BK204) hb); have n1_ := aM (blk_below (g := gb205) (o := .cells #[.int .i64 a1_0, .int .i64 a1_1] 34 (0, 0)) (gQ BK205) hb); have n2_ := aM (blk_below (g := gb206) (o := .cells #[.int .i64 a2_0, .int .i64 a2_1] 34 (0, 0)) (gQ BK206) hb); have n3_ := aM (blk_below (g := gb207) (o := .cells #[.int .i64 a3_0, .int .i64 a3_1] 34 (0, 0)) (gQ BK207) hb); have n4_ := aM (pT (by repeat (first | (with_reducible first | exact HB.out | apply pA | apply pN | apply pD | refine pS ?_ GE204.out | refine pS ?_ GE205.out | refine pS ?_ GE206.out | refine pS ?_ GE207.out) | exact HB.out)) hb); clear BK204; clear BK205; clear BK206; clear BK207; clear HB; have BK204 := n0_; have BK205 := n1_; have BK206 := n2_; have BK207 := n3_; have HB := n4_; clear n0_ n1_ n2_ n3_ n4_; (try clear hb); (try clear hb2); (try clear hk); (try clear hi)))
     go_ret
     exact ⟨by first | rfl | (simp [errW_none, errW_some] <;> rfl) | (simp [*, errW_none, errW_some] <;> rfl), by repeat (first | (with_reducible first | exact HB.out | apply pA | apply pN | apply pD | refine pS ?_ GE204.out | refine pS ?_ GE205.out | refine pS ?_ GE206.out | refine pS ?_ GE207.out) | exact HB.out)⟩
    ·replace c35 := Bool.eq_false_iff.mpr c35
     subst c35
     have H1 : ((impl_isOn.f a0_0 a0_1 a1_0 a1_1 a3_0 a3_1).bind fun t217 => (if t217 = true then (some true) else ((impl_isOn.f a2_0 a2_1 a3_0 a3_1 a0_0 a0_1).bind fun t218 => (if t218 = true then (some true) else ((impl_isOn.f a2_0 a2_1 a3_0 a3_1 a1_0 a1_1).bind fun t219 => (some t219)))))) = some r := by rw [if_neg (show ¬ (false = true) by decide)] at H; exact H
     clear H
     have H := H1
     clear H1
     replace H := oB.mp H
     obtain ⟨t217, A460, H⟩ := H
     replace H : (if t217 = true then (some true) else ((impl_isOn.f a2_0 a2_1 a3_0 a3_1 a0_0 a0_1).bind fun t218 => (if t218 = true then (some true) else ((impl_isOn.f a2_0 a2_1 a3_0 a3_1 a1_0 a1_1).bind fun t219 => (some t219))))) = some r := H
     have A46 := aM A460
     clear A460
     by_cases c47 : t217 = true
     ·subst c47
      have H1 : (some true) = some r := by rw [if_pos rfl] at H; exact H
      clear H
      have H := H1
      clear H1
      obtain rfl := Option.some.inj H
      have hnb48 := NB204_205.out
      have hnc48 := NB205_204.out
      have hnb49 := NB204_206.out
      have hnc49 := NB206_204.out
      have hnb50 := NB204_207.out
      have hnc50 := NB207_204.out
      have hcz51_0 : wc.cell? ⟨gb204, 0, none⟩ = some (.int .i64 a0_0) := (kC BK204.out 0).trans rfl
      have hcz51_1 : wc.cell? ⟨gb204, 1, none⟩ = some (.int .i64 a0_1) := (kC BK204.out 1).trans rfl
      have hfz51_0 := kF BK204.out 0
      have hfz51_1 := kF BK204.out 1
      have hnb52 := NB205_206.out
      have hnc52 := NB206_205.out
      have hnb53 := NB205_207.out
      have hnc53 := NB207_205.out
      have hcz54_0 : wc.cell? ⟨gb205, 0, none⟩ = some (.int .i64 a1_0) := (kC BK205.out 0).trans rfl
      have hcz54_1 : wc.cell? ⟨gb205, 1, none⟩ = some (.int .i64 a1_1) := (kC BK205.out 1).trans rfl
      have hfz54_0 := kF BK205.out 0
      have hfz54_1 := kF BK205.out 1
      have hnb55 := NB206_207.out
      have hnc55 := NB207_206.out
      have hcz56_0 : wc.cell? ⟨gb206, 0, none⟩ = some (.int .i64 a2_0) := (kC BK206.out 0).trans rfl
      have hcz56_1 : wc.cell? ⟨gb206, 1, none⟩ = some (.int .i64 a2_1) := (kC BK206.out 1).trans rfl
      have hfz56_0 := kF BK206.out 0
      have hfz56_1 := kF BK206.out 1
      go_wp2_with (first | ((with_reducible refine gC (f := 141) rfl ?_); refine goesL_ (some 38) rfl rfl Try.func141 kR rfl #[.agg #[.int .i64 a0_0, .int .i64 a0_1], .agg #[.int .i64 a1_0, .int .i64 a1_1], .agg #[.int .i64 a2_0, .int .i64 a2_1]] rfl sQ ?_; (with_reducible refine (impl_isOn.calls a0_0 a0_1 a1_0 a1_1 a2_0 a2_1 false _ A34.out).mono ?_); rintro e w57 ⟨rfl, hb⟩; refine ⟨_, rfl, ?_⟩; have n0_ := aM (blk_below (g := gb204) (o := .cells #[.int .i64 a0_0, .int .i64 a0_1] 34 (0, 0)) (gQ BK204) hb); have n1_ := aM (blk_below (g := gb205) (o := .cells #[.int .i64 a1_0, .int .i64 a1_1] 34 (0, 0)) (gQ BK205) hb); have n2_ := aM (blk_below (g := gb206) (o := .cells #[.int .i64 a2_0, .int .i64 a2_1] 34 (0, 0)) (gQ BK206) hb); have n3_ := aM (blk_below (g := gb207) (o := .cells #[.int .i64 a3_0, .int .i64 a3_1] 34 (0, 0)) (gQ BK207) hb); have n4_ := aM (pT (by repeat (first | (with_reducible first | exact HB.out | apply pA | apply pN | apply pD | refine pS ?_ GE204.out | refine pS ?_ GE205.out | refine pS ?_ GE206.out | refine pS ?_ GE207.out) | exact HB.out)) hb); clear BK204; clear BK205; clear BK206; clear BK207; clear HB; have BK204 := n0_; have BK205 := n1_; have BK206 := n2_; have BK207 := n3_; have HB := n4_; clear n0_ n1_ n2_ n3_ n4_; (try clear hb); (try clear hb2); (try clear hk); (try clear hi); have hcz58_0 : w57.cell? ⟨gb204, 0, none⟩ = some (.int .i64 a0_0) := (kC BK204.out 0).trans rfl; have hcz58_1 : w57.cell? ⟨gb204, 1, none⟩ = some (.int .i64 a0_1) := (kC BK204.out 1).trans rfl; have hfz58_0 := kF BK204.out 0; have hfz58_1 := kF BK204.out 1; have hcz59_0 : w57.cell? ⟨gb205, 0, none⟩ = some (.int .i64 a1_0) := (kC BK205.out 0).trans rfl; have hcz59_1 : w57.cell? ⟨gb205, 1, none⟩ = some (.int .i64 a1_1) := (kC BK205.out 1).trans rfl; have hfz59_0 := kF BK205.out 0; have hfz59_1 := kF BK205.out 1; have hcz60_0 : w57.cell? ⟨gb207, 0, none⟩ = some (.int .i64 a3_0) := (kC BK207.out 0).trans rfl; have hcz60_1 : w57.cell? ⟨gb207, 1, none⟩ = some (.int .i64 a3_1) := (kC BK207.out 1).trans rfl; have hfz60_0 := kF BK207.out 0; have hfz60_1 := kF BK207.out 1) | (go_at_call 141; (with_reducible refine (impl_isOn.calls a0_0 a0_1 a1_0 a1_1 a3_0 a3_1 true _ A46.out).mono ?_); rintro e w61 ⟨rfl, hb⟩; have n0_ := aM (blk_below (g := gb204) (o := .cells #[.int .i64 a0_0, .int .i64 a0_1] 34 (0, 0)) (gQ BK204) hb); have n1_ := aM (blk_below (g := gb205) (o := .cells #[.int .i64 a1_0, .int .i64 a1_1] 34 (0, 0)) (gQ BK205) hb); have n2_ := aM (blk_below (g := gb206) (o := .cells #[.int .i64 a2_0, .int .i64 a2_1] 34 (0, 0)) (gQ BK206) hb); have n3_ := aM (blk_below (g := gb207) (o := .cells #[.int .i64 a3_0, .int .i64 a3_1] 34 (0, 0)) (gQ BK207) hb); have n4_ := aM (pT (by repeat (first | (with_reducible first | exact HB.out | apply pA | apply pN | apply pD | refine pS ?_ GE204.out | refine pS ?_ GE205.out | refine pS ?_ GE206.out | refine pS ?_ GE207.out) | exact HB.out)) hb); clear BK204; clear BK205; clear BK206; clear BK207; clear HB; have BK204 := n0_; have BK205 := n1_; have BK206 := n2_; have BK207 := n3_; have HB := n4_; clear n0_ n1_ n2_ n3_ n4_; (try clear hb); (try clear hb2); (try clear hk); (try clear hi)))
      go_ret
      exact ⟨by first | rfl | (simp [errW_none, errW_some] <;> rfl) | (simp [*, errW_none, errW_some] <;> rfl), by repeat (first | (with_reducible first | exact HB.out | apply pA | apply pN | apply pD | refine pS ?_ GE204.out | refine pS ?_ GE205.out | refine pS ?_ GE206.out | refine pS ?_ GE207.out) | exact HB.out)⟩
     ·replace c47 := Bool.eq_false_iff.mpr c47
      subst c47
      have H1 : ((impl_isOn.f a2_0 a2_1 a3_0 a3_1 a0_0 a0_1).bind fun t218 => (if t218 = true then (some true) else ((impl_isOn.f a2_0 a2_1 a3_0 a3_1 a1_0 a1_1).bind fun t219 => (some t219)))) = some r := by rw [if_neg (show ¬ (false = true) by decide)] at H; exact H
      clear H
      have H := H1
      clear H1
      replace H := oB.mp H
      obtain ⟨t218, A620, H⟩ := H
      replace H : (if t218 = true then (some true) else ((impl_isOn.f a2_0 a2_1 a3_0 a3_1 a1_0 a1_1).bind fun t219 => (some t219))) = some r := H
      have A62 := aM A620
      clear A620
      by_cases c63 : t218 = true
      ·subst c63
       have H1 : (some true) = some r := by rw [if_pos rfl] at H; exact H
       clear H
       have H := H1
       clear H1
       obtain rfl := Option.some.inj H
       have hnb64 := NB204_205.out
       have hnc64 := NB205_204.out
       have hnb65 := NB204_206.out
       have hnc65 := NB206_204.out
       have hnb66 := NB204_207.out
       have hnc66 := NB207_204.out
       have hcz67_0 : wc.cell? ⟨gb204, 0, none⟩ = some (.int .i64 a0_0) := (kC BK204.out 0).trans rfl
       have hcz67_1 : wc.cell? ⟨gb204, 1, none⟩ = some (.int .i64 a0_1) := (kC BK204.out 1).trans rfl
       have hfz67_0 := kF BK204.out 0
       have hfz67_1 := kF BK204.out 1
       have hnb68 := NB205_206.out
       have hnc68 := NB206_205.out
       have hnb69 := NB205_207.out
       have hnc69 := NB207_205.out
       have hcz70_0 : wc.cell? ⟨gb205, 0, none⟩ = some (.int .i64 a1_0) := (kC BK205.out 0).trans rfl
       have hcz70_1 : wc.cell? ⟨gb205, 1, none⟩ = some (.int .i64 a1_1) := (kC BK205.out 1).trans rfl
       have hfz70_0 := kF BK205.out 0
       have hfz70_1 := kF BK205.out 1
       have hnb71 := NB206_207.out
       have hnc71 := NB207_206.out
       have hcz72_0 : wc.cell? ⟨gb206, 0, none⟩ = some (.int .i64 a2_0) := (kC BK206.out 0).trans rfl
       have hcz72_1 : wc.cell? ⟨gb206, 1, none⟩ = some (.int .i64 a2_1) := (kC BK206.out 1).trans rfl
       have hfz72_0 := kF BK206.out 0
       have hfz72_1 := kF BK206.out 1
       go_wp2_with (first | ((with_reducible refine gC (f := 141) rfl ?_); refine goesL_ (some 38) rfl rfl Try.func141 kR rfl #[.agg #[.int .i64 a0_0, .int .i64 a0_1], .agg #[.int .i64 a1_0, .int .i64 a1_1], .agg #[.int .i64 a2_0, .int .i64 a2_1]] rfl sQ ?_; (with_reducible refine (impl_isOn.calls a0_0 a0_1 a1_0 a1_1 a2_0 a2_1 false _ A34.out).mono ?_); rintro e w73 ⟨rfl, hb⟩; refine ⟨_, rfl, ?_⟩; have n0_ := aM (blk_below (g := gb204) (o := .cells #[.int .i64 a0_0, .int .i64 a0_1] 34 (0, 0)) (gQ BK204) hb); have n1_ := aM (blk_below (g := gb205) (o := .cells #[.int .i64 a1_0, .int .i64 a1_1] 34 (0, 0)) (gQ BK205) hb); have n2_ := aM (blk_below (g := gb206) (o := .cells #[.int .i64 a2_0, .int .i64 a2_1] 34 (0, 0)) (gQ BK206) hb); have n3_ := aM (blk_below (g := gb207) (o := .cells #[.int .i64 a3_0, .int .i64 a3_1] 34 (0, 0)) (gQ BK207) hb); have n4_ := aM (pT (by repeat (first | (with_reducible first | exact HB.out | apply pA | apply pN | apply pD | refine pS ?_ GE204.out | refine pS ?_ GE205.out | refine pS ?_ GE206.out | refine pS ?_ GE207.out) | exact HB.out)) hb); clear BK204; clear BK205; clear BK206; clear BK207; clear HB; have BK204 := n0_; have BK205 := n1_; have BK206 := n2_; have BK207 := n3_; have HB := n4_; clear n0_ n1_ n2_ n3_ n4_; (try clear hb); (try clear hb2); (try clear hk); (try clear hi); have hcz74_0 : w73.cell? ⟨gb204, 0, none⟩ = some (.int .i64 a0_0) := (kC BK204.out 0).trans rfl; have hcz74_1 : w73.cell? ⟨gb204, 1, none⟩ = some (.int .i64 a0_1) := (kC BK204.out 1).trans rfl; have hfz74_0 := kF BK204.out 0; have hfz74_1 := kF BK204.out 1; have hcz75_0 : w73.cell? ⟨gb205, 0, none⟩ = some (.int .i64 a1_0) := (kC BK205.out 0).trans rfl; have hcz75_1 : w73.cell? ⟨gb205, 1, none⟩ = some (.int .i64 a1_1) := (kC BK205.out 1).trans rfl; have hfz75_0 := kF BK205.out 0; have hfz75_1 := kF BK205.out 1; have hcz76_0 : w73.cell? ⟨gb207, 0, none⟩ = some (.int .i64 a3_0) := (kC BK207.out 0).trans rfl; have hcz76_1 : w73.cell? ⟨gb207, 1, none⟩ = some (.int .i64 a3_1) := (kC BK207.out 1).trans rfl; have hfz76_0 := kF BK207.out 0; have hfz76_1 := kF BK207.out 1) | (go_at_call 141; (with_reducible refine (impl_isOn.calls a0_0 a0_1 a1_0 a1_1 a3_0 a3_1 false _ A46.out).mono ?_); rintro e w77 ⟨rfl, hb⟩; have n0_ := aM (blk_below (g := gb204) (o := .cells #[.int .i64 a0_0, .int .i64 a0_1] 34 (0, 0)) (gQ BK204) hb); have n1_ := aM (blk_below (g := gb205) (o := .cells #[.int .i64 a1_0, .int .i64 a1_1] 34 (0, 0)) (gQ BK205) hb); have n2_ := aM (blk_below (g := gb206) (o := .cells #[.int .i64 a2_0, .int .i64 a2_1] 34 (0, 0)) (gQ BK206) hb); have n3_ := aM (blk_below (g := gb207) (o := .cells #[.int .i64 a3_0, .int .i64 a3_1] 34 (0, 0)) (gQ BK207) hb); have n4_ := aM (pT (by repeat (first | (with_reducible first | exact HB.out | apply pA | apply pN | apply pD | refine pS ?_ GE204.out | refine pS ?_ GE205.out | refine pS ?_ GE206.out | refine pS ?_ GE207.out) | exact HB.out)) hb); clear BK204; clear BK205; clear BK206; clear BK207; clear HB; have BK204 := n0_; have BK205 := n1_; have BK206 := n2_; have BK207 := n3_; have HB := n4_; clear n0_ n1_ n2_ n3_ n4_; (try clear hb); (try clear hb2); (try clear hk); (try clear hi); have hcz78_0 : w77.cell? ⟨gb206, 0, none⟩ = some (.int .i64 a2_0) := (kC BK206.out 0).trans rfl; have hcz78_1 : w77.cell? ⟨gb206, 1, none⟩ = some (.int .i64 a2_1) := (kC BK206.out 1).trans rfl; have hfz78_0 := kF BK206.out 0; have hfz78_1 := kF BK206.out 1; have hcz79_0 : w77.cell? ⟨gb207, 0, none⟩ = some (.int .i64 a3_0) := (kC BK207.out 0).trans rfl; have hcz79_1 : w77.cell? ⟨gb207, 1, none⟩ = some (.int .i64 a3_1) := (kC BK207.out 1).trans rfl; have hfz79_0 := kF BK207.out 0; have hfz79_1 := kF BK207.out 1; have hcz80_0 : w77.cell? ⟨gb204, 0, none⟩ = some (.int .i64 a0_0) := (kC BK204.out 0).trans rfl; have hcz80_1 : w77.cell? ⟨gb204, 1, none⟩ = some (.int .i64 a0_1) := (kC BK204.out 1).trans rfl; have hfz80_0 := kF BK204.out 0; have hfz80_1 := kF BK204.out 1) | (go_at_call 141; (with_reducible refine (impl_isOn.calls a2_0 a2_1 a3_0 a3_1 a0_0 a0_1 true _ A62.out).mono ?_); rintro e w81 ⟨rfl, hb⟩; have n0_ := aM (blk_below (g := gb204) (o := .cells #[.int .i64 a0_0, .int .i64 a0_1] 34 (0, 0)) (gQ BK204) hb); have n1_ := aM (blk_below (g := gb205) (o := .cells #[.int .i64 a1_0, .int .i64 a1_1] 34 (0, 0)) (gQ BK205) hb); have n2_ := aM (blk_below (g := gb206) (o := .cells #[.int .i64 a2_0, .int .i64 a2_1] 34 (0, 0)) (gQ BK206) hb); have n3_ := aM (blk_below (g := gb207) (o := .cells #[.int .i64 a3_0, .int .i64 a3_1] 34 (0, 0)) (gQ BK207) hb); have n4_ := aM (pT (by repeat (first | (with_reducible first | exact HB.out | apply pA | apply pN | apply pD | refine pS ?_ GE204.out | refine pS ?_ GE205.out | refine pS ?_ GE206.out | refine pS ?_ GE207.out) | exact HB.out)) hb); clear BK204; clear BK205; clear BK206; clear BK207; clear HB; have BK204 := n0_; have BK205 := n1_; have BK206 := n2_; have BK207 := n3_; have HB := n4_; clear n0_ n1_ n2_ n3_ n4_; (try clear hb); (try clear hb2); (try clear hk); (try clear hi)))
       go_ret
       exact ⟨by first | rfl | (simp [errW_none, errW_some] <;> rfl) | (simp [*, errW_none, errW_some] <;> rfl), by repeat (first | (with_reducible first | exact HB.out | apply pA | apply pN | apply pD | refine pS ?_ GE204.out | refine pS ?_ GE205.out | refine pS ?_ GE206.out | refine pS ?_ GE207.out) | exact HB.out)⟩
      ·replace c63 := Bool.eq_false_iff.mpr c63
       subst c63
       have H1 : ((impl_isOn.f a2_0 a2_1 a3_0 a3_1 a1_0 a1_1).bind fun t219 => (some t219)) = some r := by rw [if_neg (show ¬ (false = true) by decide)] at H; exact H
       clear H
       have H := H1
       clear H1
       replace H := oB.mp H
       obtain ⟨t219, A820, H⟩ := H
       replace H : (some t219) = some r := H
       have A82 := aM A820
       clear A820
       obtain rfl := Option.some.inj H
       have hnb83 := NB204_205.out
       have hnc83 := NB205_204.out
       have hnb84 := NB204_206.out
       have hnc84 := NB206_204.out
       have hnb85 := NB204_207.out
       have hnc85 := NB207_204.out
       have hcz86_0 : wc.cell? ⟨gb204, 0, none⟩ = some (.int .i64 a0_0) := (kC BK204.out 0).trans rfl
       have hcz86_1 : wc.cell? ⟨gb204, 1, none⟩ = some (.int .i64 a0_1) := (kC BK204.out 1).trans rfl
       have hfz86_0 := kF BK204.out 0
       have hfz86_1 := kF BK204.out 1
       have hnb87 := NB205_206.out
       have hnc87 := NB206_205.out
       have hnb88 := NB205_207.out
       have hnc88 := NB207_205.out
       have hcz89_0 : wc.cell? ⟨gb205, 0, none⟩ = some (.int .i64 a1_0) := (kC BK205.out 0).trans rfl
       have hcz89_1 : wc.cell? ⟨gb205, 1, none⟩ = some (.int .i64 a1_1) := (kC BK205.out 1).trans rfl
       have hfz89_0 := kF BK205.out 0
       have hfz89_1 := kF BK205.out 1
       have hnb90 := NB206_207.out
       have hnc90 := NB207_206.out
       have hcz91_0 : wc.cell? ⟨gb206, 0, none⟩ = some (.int .i64 a2_0) := (kC BK206.out 0).trans rfl
       have hcz91_1 : wc.cell? ⟨gb206, 1, none⟩ = some (.int .i64 a2_1) := (kC BK206.out 1).trans rfl
       have hfz91_0 := kF BK206.out 0
       have hfz91_1 := kF BK206.out 1
       go_wp2_with (first | ((with_reducible refine gC (f := 141) rfl ?_); refine goesL_ (some 38) rfl rfl Try.func141 kR rfl #[.agg #[.int .i64 a0_0, .int .i64 a0_1], .agg #[.int .i64 a1_0, .int .i64 a1_1], .agg #[.int .i64 a2_0, .int .i64 a2_1]] rfl sQ ?_; (with_reducible refine (impl_isOn.calls a0_0 a0_1 a1_0 a1_1 a2_0 a2_1 false _ A34.out).mono ?_); rintro e w92 ⟨rfl, hb⟩; refine ⟨_, rfl, ?_⟩; have n0_ := aM (blk_below (g := gb204) (o := .cells #[.int .i64 a0_0, .int .i64 a0_1] 34 (0, 0)) (gQ BK204) hb); have n1_ := aM (blk_below (g := gb205) (o := .cells #[.int .i64 a1_0, .int .i64 a1_1] 34 (0, 0)) (gQ BK205) hb); have n2_ := aM (blk_below (g := gb206) (o := .cells #[.int .i64 a2_0, .int .i64 a2_1] 34 (0, 0)) (gQ BK206) hb); have n3_ := aM (blk_below (g := gb207) (o := .cells #[.int .i64 a3_0, .int .i64 a3_1] 34 (0, 0)) (gQ BK207) hb); have n4_ := aM (pT (by repeat (first | (with_reducible first | exact HB.out | apply pA | apply pN | apply pD | refine pS ?_ GE204.out | refine pS ?_ GE205.out | refine pS ?_ GE206.out | refine pS ?_ GE207.out) | exact HB.out)) hb); clear BK204; clear BK205; clear BK206; clear BK207; clear HB; have BK204 := n0_; have BK205 := n1_; have BK206 := n2_; have BK207 := n3_; have HB := n4_; clear n0_ n1_ n2_ n3_ n4_; (try clear hb); (try clear hb2); (try clear hk); (try clear hi); have hcz93_0 : w92.cell? ⟨gb204, 0, none⟩ = some (.int .i64 a0_0) := (kC BK204.out 0).trans rfl; have hcz93_1 : w92.cell? ⟨gb204, 1, none⟩ = some (.int .i64 a0_1) := (kC BK204.out 1).trans rfl; have hfz93_0 := kF BK204.out 0; have hfz93_1 := kF BK204.out 1; have hcz94_0 : w92.cell? ⟨gb205, 0, none⟩ = some (.int .i64 a1_0) := (kC BK205.out 0).trans rfl; have hcz94_1 : w92.cell? ⟨gb205, 1, none⟩ = some (.int .i64 a1_1) := (kC BK205.out 1).trans rfl; have hfz94_0 := kF BK205.out 0; have hfz94_1 := kF BK205.out 1; have hcz95_0 : w92.cell? ⟨gb207, 0, none⟩ = some (.int .i64 a3_0) := (kC BK207.out 0).trans rfl; have hcz95_1 : w92.cell? ⟨gb207, 1, none⟩ = some (.int .i64 a3_1) := (kC BK207.out 1).trans rfl; have hfz95_0 := kF BK207.out 0; have hfz95_1 := kF BK207.out 1) | (go_at_call 141; (with_reducible refine (impl_isOn.calls a0_0 a0_1 a1_0 a1_1 a3_0 a3_1 false _ A46.out).mono ?_); rintro e w96 ⟨rfl, hb⟩; have n0_ := aM (blk_below (g := gb204) (o := .cells #[.int .i64 a0_0, .int .i64 a0_1] 34 (0, 0)) (gQ BK204) hb); have n1_ := aM (blk_below (g := gb205) (o := .cells #[.int .i64 a1_0, .int .i64 a1_1] 34 (0, 0)) (gQ BK205) hb); have n2_ := aM (blk_below (g := gb206) (o := .cells #[.int .i64 a2_0, .int .i64 a2_1] 34 (0, 0)) (gQ BK206) hb); have n3_ := aM (blk_below (g := gb207) (o := .cells #[.int .i64 a3_0, .int .i64 a3_1] 34 (0, 0)) (gQ BK207) hb); have n4_ := aM (pT (by repeat (first | (with_reducible first | exact HB.out | apply pA | apply pN | apply pD | refine pS ?_ GE204.out | refine pS ?_ GE205.out | refine pS ?_ GE206.out | refine pS ?_ GE207.out) | exact HB.out)) hb); clear BK204; clear BK205; clear BK206; clear BK207; clear HB; have BK204 := n0_; have BK205 := n1_; have BK206 := n2_; have BK207 := n3_; have HB := n4_; clear n0_ n1_ n2_ n3_ n4_; (try clear hb); (try clear hb2); (try clear hk); (try clear hi); have hcz97_0 : w96.cell? ⟨gb206, 0, none⟩ = some (.int .i64 a2_0) := (kC BK206.out 0).trans rfl; have hcz97_1 : w96.cell? ⟨gb206, 1, none⟩ = some (.int .i64 a2_1) := (kC BK206.out 1).trans rfl; have hfz97_0 := kF BK206.out 0; have hfz97_1 := kF BK206.out 1; have hcz98_0 : w96.cell? ⟨gb207, 0, none⟩ = some (.int .i64 a3_0) := (kC BK207.out 0).trans rfl; have hcz98_1 : w96.cell? ⟨gb207, 1, none⟩ = some (.int .i64 a3_1) := (kC BK207.out 1).trans rfl; have hfz98_0 := kF BK207.out 0; have hfz98_1 := kF BK207.out 1; have hcz99_0 : w96.cell? ⟨gb204, 0, none⟩ = some (.int .i64 a0_0) := (kC BK204.out 0).trans rfl; have hcz99_1 : w96.cell? ⟨gb204, 1, none⟩ = some (.int .i64 a0_1) := (kC BK204.out 1).trans rfl; have hfz99_0 := kF BK204.out 0; have hfz99_1 := kF BK204.out 1) | (go_at_call 141; (with_reducible refine (impl_isOn.calls a2_0 a2_1 a3_0 a3_1 a0_0 a0_1 false _ A62.out).mono ?_); rintro e w100 ⟨rfl, hb⟩; have n0_ := aM (blk_below (g := gb204) (o := .cells #[.int .i64 a0_0, .int .i64 a0_1] 34 (0, 0)) (gQ BK204) hb); have n1_ := aM (blk_below (g := gb205) (o := .cells #[.int .i64 a1_0, .int .i64 a1_1] 34 (0, 0)) (gQ BK205) hb); have n2_ := aM (blk_below (g := gb206) (o := .cells #[.int .i64 a2_0, .int .i64 a2_1] 34 (0, 0)) (gQ BK206) hb); have n3_ := aM (blk_below (g := gb207) (o := .cells #[.int .i64 a3_0, .int .i64 a3_1] 34 (0, 0)) (gQ BK207) hb); have n4_ := aM (pT (by repeat (first | (with_reducible first | exact HB.out | apply pA | apply pN | apply pD | refine pS ?_ GE204.out | refine pS ?_ GE205.out | refine pS ?_ GE206.out | refine pS ?_ GE207.out) | exact HB.out)) hb); clear BK204; clear BK205; clear BK206; clear BK207; clear HB; have BK204 := n0_; have BK205 := n1_; have BK206 := n2_; have BK207 := n3_; have HB := n4_; clear n0_ n1_ n2_ n3_ n4_; (try clear hb); (try clear hb2); (try clear hk); (try clear hi); have hcz101_0 : w100.cell? ⟨gb206, 0, none⟩ = some (.int .i64 a2_0) := (kC BK206.out 0).trans rfl; have hcz101_1 : w100.cell? ⟨gb206, 1, none⟩ = some (.int .i64 a2_1) := (kC BK206.out 1).trans rfl; have hfz101_0 := kF BK206.out 0; have hfz101_1 := kF BK206.out 1; have hcz102_0 : w100.cell? ⟨gb207, 0, none⟩ = some (.int .i64 a3_0) := (kC BK207.out 0).trans rfl; have hcz102_1 : w100.cell? ⟨gb207, 1, none⟩ = some (.int .i64 a3_1) := (kC BK207.out 1).trans rfl; have hfz102_0 := kF BK207.out 0; have hfz102_1 := kF BK207.out 1; have hcz103_0 : w100.cell? ⟨gb205, 0, none⟩ = some (.int .i64 a1_0) := (kC BK205.out 0).trans rfl; have hcz103_1 : w100.cell? ⟨gb205, 1, none⟩ = some (.int .i64 a1_1) := (kC BK205.out 1).trans rfl; have hfz103_0 := kF BK205.out 0; have hfz103_1 := kF BK205.out 1) | (go_at_call 141; (with_reducible refine (impl_isOn.calls a2_0 a2_1 a3_0 a3_1 a1_0 a1_1 t219 _ A82.out).mono ?_); rintro e w104 ⟨rfl, hb⟩; have n0_ := aM (blk_below (g := gb204) (o := .cells #[.int .i64 a0_0, .int .i64 a0_1] 34 (0, 0)) (gQ BK204) hb); have n1_ := aM (blk_below (g := gb205) (o := .cells #[.int .i64 a1_0, .int .i64 a1_1] 34 (0, 0)) (gQ BK205) hb); have n2_ := aM (blk_below (g := gb206) (o := .cells #[.int .i64 a2_0, .int .i64 a2_1] 34 (0, 0)) (gQ BK206) hb); have n3_ := aM (blk_below (g := gb207) (o := .cells #[.int .i64 a3_0, .int .i64 a3_1] 34 (0, 0)) (gQ BK207) hb); have n4_ := aM (pT (by repeat (first | (with_reducible first | exact HB.out | apply pA | apply pN | apply pD | refine pS ?_ GE204.out | refine pS ?_ GE205.out | refine pS ?_ GE206.out | refine pS ?_ GE207.out) | exact HB.out)) hb); clear BK204; clear BK205; clear BK206; clear BK207; clear HB; have BK204 := n0_; have BK205 := n1_; have BK206 := n2_; have BK207 := n3_; have HB := n4_; clear n0_ n1_ n2_ n3_ n4_; (try clear hb); (try clear hb2); (try clear hk); (try clear hi)))
       go_ret
       exact ⟨by first | rfl | (simp [errW_none, errW_some] <;> rfl) | (simp [*, errW_none, errW_some] <;> rfl), by repeat (first | (with_reducible first | exact HB.out | apply pA | apply pN | apply pD | refine pS ?_ GE204.out | refine pS ?_ GE205.out | refine pS ?_ GE206.out | refine pS ?_ GE207.out) | exact HB.out)⟩

end Go.Proofs.Ytiacfkilmknldaa.X
