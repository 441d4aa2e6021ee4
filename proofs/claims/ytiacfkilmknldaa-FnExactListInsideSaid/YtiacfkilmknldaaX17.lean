-- thin
-- short
import Derived.Test.YtiacfkilmknldaaXA
import Derived.Test.YtiacfkilmknldaaX0
import Derived.Test.YtiacfkilmknldaaX7
import Derived.Test.YtiacfkilmknldaaX8
namespace Go.Proofs.Ytiacfkilmknldaa.X
open Go.RowKit Go.Proofs.Ytiacfkilmknldaa.XW Go.Proofs.YtiacfkilmknldaaW.PrintWords Go.Proofs.YtiacfkilmknldaaW.PrintLast Go.Proofs.YtiacfkilmknldaaW.PrintMore
attribute [local go_sem] max2_int min2_int max_two min_two max_three min_three max_four min_four   -- for this text's walks alone
set_option linter.unusedVariables false
set_option linter.unusedSimpArgs false

def impl_where.l0 : Nat → List (S_impl_Peg) → Int → List (S_impl_Peg) → Int → Int → Int → Int → Option (Int)
 | 0, _, _, _, _, _, _, _ => none
 | k + 1, x0, x5, x9, x10, x11, x290000, x290001 => if x11 < x10 then (if 0 ≤ x11 then (if x11 < (x9.length : Int) then ((impl_at.f x0 (wrap64 (x11 + 1))).bind fun bt292 => ((impl_isOn.f ((rd_impl_Peg x9 x11).f0) ((rd_impl_Peg x9 x11).f1) bt292.1 bt292.2 x290000 x290001).bind fun t295 => (if t295 = true then (some 0) else (if ((decide (((rd_impl_Peg x9 x11).f1) > x290001)) != (decide (bt292.2 > x290001))) = true then ((impl_turn.f ((rd_impl_Peg x9 x11).f0) ((rd_impl_Peg x9 x11).f1) bt292.1 bt292.2 x290000 x290001).bind fun t296 => (if ((decide (t296 > 0)) == (decide (bt292.2 > ((rd_impl_Peg x9 x11).f1)))) = true then (impl_where.l0 k x0 (wrap64 (-x5)) x9 x10 (wrap64 (x11 + 1)) x290000 x290001) else (impl_where.l0 k x0 x5 x9 x10 (wrap64 (x11 + 1)) x290000 x290001))) else (impl_where.l0 k x0 x5 x9 x10 (wrap64 (x11 + 1)) x290000 x290001))))) else (none)) else (none)) else (some x5)
def impl_where.f (k : Nat) (l0 : List (S_impl_Peg)) (a1_0 : Int) (a1_1 : Int) : Option (Int) := impl_where.l0 k l0 (-1) l0 (l0.length : Int) 0 a1_0 a1_1
theorem impl_where.mono_l : ∀ k, (∀ y0 y1 y2 y3 y4 y5 y6, LeO (impl_where.l0 k y0 y1 y2 y3 y4 y5 y6) (impl_where.l0 (k + 1) y0 y1 y2 y3 y4 y5 y6))
 | 0 => fun _ _ _ _ _ _ _ r h => by simp [impl_where.l0] at h
 | k + 1 => by
  have ih0 := impl_where.mono_l k
  ·intro y0 y1 y2 y3 y4 y5 y6
   unfold impl_where.l0
   repeat' first
   | (with_reducible exact ih0 _ _ _ _ _ _ _)
   | (with_reducible exact LeO.refl _)
   | (with_reducible exact LeO.none _)
   | (with_reducible refine LeO.ite ?_ ?_)
   | (with_reducible refine LeO.bind ?_ (fun _ => ?_))
   | exact ih0 _ _ _ _ _ _ _
   | exact LeO.none _
   | refine LeO.ite ?_ ?_
   | refine LeO.bind ?_ (fun _ => ?_)
theorem impl_where.mono : ∀ a0 a1 a2 k, LeO (impl_where.f k a0 a1 a2) (impl_where.f (k + 1) a0 a1 a2) := by
 intro a0 a1 a2 k
 have ih0 := impl_where.mono_l k
 unfold impl_where.f
 repeat' first
   | (with_reducible exact ih0 _ _ _ _ _ _ _)
   | (with_reducible exact LeO.refl _)
   | (with_reducible exact LeO.none _)
   | (with_reducible refine LeO.ite ?_ ?_)
   | (with_reducible refine LeO.bind ?_ (fun _ => ?_))
   | exact ih0 _ _ _ _ _ _ _
   | exact LeO.none _
   | refine LeO.ite ?_ ?_
   | refine LeO.bind ?_ (fun _ => ?_)
def impl_where.T8 : Bool × List (List Nat × List Nat) := (true, [([], []), ([0], [0]), ([], []), ([2], [2]), ([1, 3], [1, 3]), ([], []), ([5], [5]), ([], []), ([7], [7]), ([6, 8], [6, 8]), ([4, 9], [4, 9]), ([10], [10]), ([11], [11]), ([11], [11]), ([11], [11]), ([12, 13, 14, 11, 11], [11, 12, 13, 14]), ([15, 11], [11, 15]), ([11], [11]), ([17, 11], [11, 17]), ([11], [11]), ([19, 11], [11, 19]), ([18, 20, 11], [11, 18, 20]), ([16, 21, 11], [11, 16, 21]), ([11, 22], [11, 22])])
def impl_where.B8 : List Nat := [0, 1, 0, 4, 15, 0, 32, 0, 128, 480, 1023, 2047, 4095, 4095, 4095, 32767, 65535, 4095, 135167, 4095, 528383, 1970175, 4194303, 8388607]
theorem impl_where.tab8 : rtab .any (opsOf Try.f90 8) = impl_where.T8 := by kernel_rfl
theorem impl_where.bits8 : waitsOk impl_where.T8.2 impl_where.B8 = true := by kernel_rfl
set_option maxHeartbeats 8000000 in
set_option maxRecDepth 100000 in
theorem impl_where.calls (k : Nat) (A0 : Option Addr) (c0 : Nat) (l0 : List (S_impl_Peg)) (a1_0 : Int) (a1_1 : Int) (r : Int) (w : World) (hr0 : Kd.C kd_impl_Peg w A0 l0.length l0) (hc0 : l0.length ≤ c0) (h : impl_where.f k l0 a1_0 a1_1 = some r) :
  Calls Try.prog 90 #[.slice A0 l0.length c0, .agg #[.int .i64 a1_0, .int .i64 a1_1]] w fun e w' => e = .returned (.int .i64 r) ∧ Below w.heap.size w w' := by
 have hu34 := Try.underlying34
 have HR0 := aM hr0
 have HC0 := aM hc0
 clear hr0 hc0
 have HB := aM (Below.refl w.heap.size w)
 have H : (impl_where.l0 k l0 (-1) l0 (l0.length : Int) 0 a1_0 a1_1) = some r := h
 clear h
 have H' := aM H
 clear H
 go_enter Try.func90, Try.ntmps90
 go_wp2_with (first | ((with_reducible refine gate_dst (N := 3) rfl ?_); refine box_event ?hg (N := 3) ?hd (cs := #[.int .i64 a1_0, .int .i64 a1_1]) (t := 34) ?hr ?_; (case hd => rfl); (case hg => rfl); (case hr => first | (go_simp; done) | (go_simp; rfl)); intro gb289 hg w3 hbox hb; have n0_ := aM (pT bQ hb); have n1_ := aM (hbox); have n2_ := aM ((by rw [hg]; exact (pZ bQ) : w.heap.size ≤ gb289)); have n3_ := aM ((by rw [hg]; exact (pZ bQ) : w.heap.size ≤ gb289)); clear HB; have HB := n0_; have BK289 := n1_; have GW289 := n2_; have GE289 := n3_; clear n0_ n1_ n2_ n3_; clear hb hbox hg))
 go_loopg [5, 11] k (fun kq v5 v11 w' => ∃ (x5_1 : Int) (x11_1 : Int), v5 = .int .i64 x5_1 ∧ v11 = .int .i64 x11_1 ∧ Aside0 (impl_where.l0 kq l0 x5_1 l0 (l0.length : Int) x11_1 a1_0 a1_1 = some r) ∧ Aside0 (kq ≤ k) ∧ Aside0 (w'.heap[gb289]? = some (.cells #[.int .i64 a1_0, .int .i64 a1_1] 34 (0, 0))) ∧ Aside0 (Below w.heap.size w w'))
 case atStart => exact ⟨((-1)), (0), eQ, eQ, H', ⟨Nat.le_refl _⟩, ⟨by (with_reducible repeat (first | refine kN ?_ _ | refine kD ?_ | refine kA ?_ _)); exact BK289.out⟩, ⟨by repeat (first | (with_reducible first | exact HB.out | apply pA | apply pN | apply pD | refine pS ?_ GE289.out) | exact HB.out)⟩⟩
 case round =>
  clear H'
  try clear p2
  obtain ⟨x5_1, x11_1, rfl, rfl, HA, HK1, BK289, HB⟩ := hrel
  cases gk with
  | zero => exact absurd HA.out (by simp [impl_where.l0])
  | succ k1 =>
   have H := HA.out
   clear HA
   simp only [impl_where.l0] at H
   by_cases c4 : x11_1 < (l0.length : Int)
   ·rw [if_pos c4] at H
    have c4b0 : decide (x11_1 < (l0.length : Int)) = true := dE c4
    clear c4
    by_cases c5 : 0 ≤ x11_1
    ·rw [if_pos c5] at H
     have c5b0 : decide (0 ≤ x11_1) = true := dE c5
     clear c5
     by_cases c6 : x11_1 < (l0.length : Int)
     ·rw [if_pos c6] at H
      have c6b0 : decide (x11_1 < (l0.length : Int)) = true := dE c6
      clear c6
      replace H := oB.mp H
      obtain ⟨⟨t292, t293⟩, A70, H⟩ := H
      replace H : ((impl_isOn.f ((rd_impl_Peg l0 x11_1).f0) ((rd_impl_Peg l0 x11_1).f1) t292 t293 a1_0 a1_1).bind fun t295 => (if t295 = true then (some 0) else (if ((decide (((rd_impl_Peg l0 x11_1).f1) > a1_1)) != (decide (t293 > a1_1))) = true then ((impl_turn.f ((rd_impl_Peg l0 x11_1).f0) ((rd_impl_Peg l0 x11_1).f1) t292 t293 a1_0 a1_1).bind fun t296 => (if ((decide (t296 > 0)) == (decide (t293 > ((rd_impl_Peg l0 x11_1).f1)))) = true then (impl_where.l0 k1 l0 (wrap64 (-x5_1)) l0 (l0.length : Int) (wrap64 (x11_1 + 1)) a1_0 a1_1) else (impl_where.l0 k1 l0 x5_1 l0 (l0.length : Int) (wrap64 (x11_1 + 1)) a1_0 a1_1))) else (impl_where.l0 k1 l0 x5_1 l0 (l0.length : Int) (wrap64 (x11_1 + 1)) a1_0 a1_1)))) = some r := H
      have A7 := aM A70
      clear A70
      replace H := oB.mp H
      obtain ⟨t295, A80, H⟩ := H
      replace H : (if t295 = true then (some 0) else (if ((decide (((rd_impl_Peg l0 x11_1).f1) > a1_1)) != (decide (t293 > a1_1))) = true then ((impl_turn.f ((rd_impl_Peg l0 x11_1).f0) ((rd_impl_Peg l0 x11_1).f1) t292 t293 a1_0 a1_1).bind fun t296 => (if ((decide (t296 > 0)) == (decide (t293 > ((rd_impl_Peg l0 x11_1).f1)))) = true then (impl_where.l0 k1 l0 (wrap64 (-x5_1)) l0 (l0.length : Int) (wrap64 (x11_1 + 1)) a1_0 a1_1) else (impl_where.l0 k1 l0 x5_1 l0 (l0.length : Int) (wrap64 (x11_1 + 1)) a1_0 a1_1))) else (impl_where.l0 k1 l0 x5_1 l0 (l0.length : Int) (wrap64 (x11_1 + 1)) a1_0 a1_1))) = some r := H
      have A8 := aM A80
      clear A80
      by_cases c9 : t295 = true
      ·subst c9
       have H1 : (some 0) = some r := by rw [if_pos rfl] at H; exact H
       clear H
       have H := H1
       clear H1
       obtain rfl := Option.some.inj H
       have p290 : 0 ≤ (x11_1 : Int) := dT aQ
       have q290 : x11_1 < (l0.length : Int) := dT aQ
       obtain ⟨ad290, e290, hx290_0, hx290_1⟩ := at_impl_Peg HR0.out x11_1 p290 q290
       cases e290
       replace hx290_0 := (HB.out.cell (wB w _ hx290_0)).trans hx290_0
       replace hx290_1 := (HB.out.cell (wB w _ hx290_1)).trans hx290_1
       replace p290 := eq_true p290
       replace q290 := eq_true q290
       go_wp2_with (first | ((with_reducible refine gate_dst (N := 7) rfl ?_); refine box_event ?hg (N := 7) ?hd (cs := #[.int .i64 0, .int .i64 0]) (t := 34) ?hr ?_; (case hd => rfl); (case hg => rfl); (case hr => first | (go_simp; done) | (go_simp; rfl)); intro gb291 hg w10 hbox hb; have n0_ := aM (blk_below (g := gb289) (o := .cells #[.int .i64 a1_0, .int .i64 a1_1] 34 (0, 0)) (gQ BK289) hb); have n1_ := aM (pT (by repeat (first | (with_reducible first | exact HB.out | apply pA | apply pN | apply pD | refine pS ?_ GE289.out) | exact HB.out)) hb); have n2_ := aM (hbox); have n3_ := aM ((by rw [hg]; exact (pZ (by repeat (first | (with_reducible first | exact HB.out | apply pA | apply pN | apply pD | refine pS ?_ GE289.out) | exact HB.out))) : w.heap.size ≤ gb291)); have n4_ := aM ((by rw [hg]; exact (pZ (by repeat (first | (with_reducible first | exact HB.out | apply pA | apply pN | apply pD | refine pS ?_ GE289.out) | exact HB.out))) : w.heap.size ≤ gb291)); have n5_ := aM ((by rw [hg]; exact nN (blk_lt (g := gb289) (o := .cells #[.int .i64 a1_0, .int .i64 a1_1] 34 (0, 0)) (gQ BK289)) : gb289 ≠ gb291)); have n6_ := aM ((by rw [hg]; exact Nat.ne_of_gt (blk_lt (g := gb289) (o := .cells #[.int .i64 a1_0, .int .i64 a1_1] 34 (0, 0)) (gQ BK289)) : gb291 ≠ gb289)); clear BK289; clear HB; have BK289 := n0_; have HB := n1_; have BK291 := n2_; have GW291 := n3_; have GE291 := n4_; have NB289_291 := n5_; have NB291_289 := n6_; clear n0_ n1_ n2_ n3_ n4_ n5_ n6_; clear hb hbox hg; have hnb11 := NB291_289.out; have hnc11 := NB289_291.out; have hcz12_0 : w10.cell? ⟨gb291, 0, none⟩ = some (.int .i64 0) := (kC BK291.out 0).trans rfl; have hcz12_1 : w10.cell? ⟨gb291, 1, none⟩ = some (.int .i64 0) := (kC BK291.out 1).trans rfl; have hfz12_0 := kF BK291.out 0; have hfz12_1 := kF BK291.out 1) | ((with_reducible refine gC (f := 97) rfl ?_); refine goesL_ (some 19) rfl rfl Try.func97 kR rfl #[.slice (some ad290) l0.length c0, .int .i64 (wrap64 (x11_1 + 1))] rfl sQ ?_; (with_reducible refine (impl_at.calls _ _ l0 (wrap64 (x11_1 + 1)) t292 t293 _ ?side1 ?side2 A7.out).mono ?_); (case side1 => exact Kd.C_below HR0.out (by repeat (first | (with_reducible first | exact HB.out | apply pA | apply pN | apply pD | refine pS ?_ GE289.out | refine pS ?_ GE291.out) | exact HB.out))); (case side2 => exact HC0.out); rintro e w13 ⟨rfl, hb⟩; refine ⟨_, rfl, ?_⟩; have n0_ := aM (blk_below (g := gb289) (o := .cells #[.int .i64 a1_0, .int .i64 a1_1] 34 (0, 0)) (by (with_reducible repeat (first | refine kN ?_ _ | refine kD ?_ | refine kA ?_ _)); refine blk_far ?_ NB289_291.out _; (with_reducible repeat (first | refine kN ?_ _ | refine kD ?_ | refine kA ?_ _)); refine blk_far ?_ NB289_291.out _; (with_reducible repeat (first | refine kN ?_ _ | refine kD ?_ | refine kA ?_ _)); exact BK289.out) hb); have n1_ := aM (blk_below (g := gb291) (o := .cells #[.int .i64 ((rd_impl_Peg l0 x11_1).f0), .int .i64 ((rd_impl_Peg l0 x11_1).f1)] 34 (0, 0)) (by (with_reducible repeat (first | refine kN ?_ _ | refine kD ?_ | refine kA ?_ _)); refine blk_put (cs := #[.int .i64 ((rd_impl_Peg l0 x11_1).f0), .int .i64 0]) ?_ 1 _ rfl; (with_reducible repeat (first | refine kN ?_ _ | refine kD ?_ | refine kA ?_ _)); refine blk_put (cs := #[.int .i64 0, .int .i64 0]) ?_ 0 _ rfl; (with_reducible repeat (first | refine kN ?_ _ | refine kD ?_ | refine kA ?_ _)); exact BK291.out) hb); have n2_ := aM (pT (by repeat (first | (with_reducible first | exact HB.out | apply pA | apply pN | apply pD | refine pS ?_ GE289.out | refine pS ?_ GE291.out) | exact HB.out)) hb); clear BK289; clear BK291; clear HB; have BK289 := n0_; have BK291 := n1_; have HB := n2_; clear n0_ n1_ n2_; (try clear hb); (try clear hb2); (try clear hk); (try clear hi)) | ((with_reducible refine gate_dst (N := 8) rfl ?_); refine box_event ?hg (N := 8) ?hd (cs := #[.int .i64 0, .int .i64 0]) (t := 34) ?hr ?_; (case hd => rfl); (case hg => rfl); (case hr => first | (go_simp; done) | (go_simp; rfl)); intro gb294 hg w14 hbox hb; have n0_ := aM (blk_below (g := gb289) (o := .cells #[.int .i64 a1_0, .int .i64 a1_1] 34 (0, 0)) (gQ BK289) hb); have n1_ := aM (blk_below (g := gb291) (o := .cells #[.int .i64 ((rd_impl_Peg l0 x11_1).f0), .int .i64 ((rd_impl_Peg l0 x11_1).f1)] 34 (0, 0)) (gQ BK291) hb); have n2_ := aM (pT (by repeat (first | (with_reducible first | exact HB.out | apply pA | apply pN | apply pD | refine pS ?_ GE289.out | refine pS ?_ GE291.out) | exact HB.out)) hb); have n3_ := aM (hbox); have n4_ := aM ((by rw [hg]; exact (pZ (by repeat (first | (with_reducible first | exact HB.out | apply pA | apply pN | apply pD | refine pS ?_ GE289.out | refine pS ?_ GE291.out) | exact HB.out))) : w.heap.size ≤ gb294)); have n5_ := aM ((by rw [hg]; exact (pZ (by repeat (first | (with_reducible first | exact HB.out | apply pA | apply pN | apply pD | refine pS ?_ GE289.out | refine pS ?_ GE291.out) | exact HB.out))) : w.heap.size ≤ gb294)); have n6_ := aM ((by rw [hg]; exact nN (blk_lt (g := gb289) (o := .cells #[.int .i64 a1_0, .int .i64 a1_1] 34 (0, 0)) (gQ BK289)) : gb289 ≠ gb294)); have n7_ := aM ((by rw [hg]; exact Nat.ne_of_gt (blk_lt (g := gb289) (o := .cells #[.int .i64 a1_0, .int .i64 a1_1] 34 (0, 0)) (gQ BK289)) : gb294 ≠ gb289)); have n8_ := aM ((by rw [hg]; exact nN (blk_lt (g := gb291) (o := .cells #[.int .i64 ((rd_impl_Peg l0 x11_1).f0), .int .i64 ((rd_impl_Peg l0 x11_1).f1)] 34 (0, 0)) (gQ BK291)) : gb291 ≠ gb294)); have n9_ := aM ((by rw [hg]; exact Nat.ne_of_gt (blk_lt (g := gb291) (o := .cells #[.int .i64 ((rd_impl_Peg l0 x11_1).f0), .int .i64 ((rd_impl_Peg l0 x11_1).f1)] 34 (0, 0)) (gQ BK291)) : gb294 ≠ gb291)); clear BK289; clear BK291; clear HB; have BK289 := n0_; have BK291 := n1_; have HB := n2_; have BK294 := n3_; have GW294 := n4_; have GE294 := n5_; have NB289_294 := n6_; have NB294_289 := n7_; have NB291_294 := n8_; have NB294_291 := n9_; clear n0_ n1_ n2_ n3_ n4_ n5_ n6_ n7_ n8_ n9_; clear hb hbox hg; have hnb15 := NB294_289.out; have hnc15 := NB289_294.out; have hnb16 := NB294_291.out; have hnc16 := NB291_294.out; have hcz17_0 : w14.cell? ⟨gb294, 0, none⟩ = some (.int .i64 0) := (kC BK294.out 0).trans rfl; have hcz17_1 : w14.cell? ⟨gb294, 1, none⟩ = some (.int .i64 0) := (kC BK294.out 1).trans rfl; have hfz17_0 := kF BK294.out 0; have hfz17_1 := kF BK294.out 1; have hcz18_0 : w14.cell? ⟨gb291, 0, none⟩ = some (.int .i64 ((rd_impl_Peg l0 x11_1).f0)) := (kC BK291.out 0).trans rfl; have hcz18_1 : w14.cell? ⟨gb291, 1, none⟩ = some (.int .i64 ((rd_impl_Peg l0 x11_1).f1)) := (kC BK291.out 1).trans rfl; have hfz18_0 := kF BK291.out 0; have hfz18_1 := kF BK291.out 1; have hcz19_0 : w14.cell? ⟨gb289, 0, none⟩ = some (.int .i64 a1_0) := (kC BK289.out 0).trans rfl; have hcz19_1 : w14.cell? ⟨gb289, 1, none⟩ = some (.int .i64 a1_1) := (kC BK289.out 1).trans rfl; have hfz19_0 := kF BK289.out 0; have hfz19_1 := kF BK289.out 1) | ((with_reducible refine gC (f := 141) rfl ?_); refine goesL_ (some 23) rfl rfl Try.func141 kR rfl #[.agg #[.int .i64 ((rd_impl_Peg l0 x11_1).f0), .int .i64 ((rd_impl_Peg l0 x11_1).f1)], .agg #[.int .i64 t292, .int .i64 t293], .agg #[.int .i64 a1_0, .int .i64 a1_1]] rfl sQ ?_; (with_reducible refine (impl_isOn.calls ((rd_impl_Peg l0 x11_1).f0) ((rd_impl_Peg l0 x11_1).f1) t292 t293 a1_0 a1_1 true _ A8.out).mono ?_); rintro e w20 ⟨rfl, hb⟩; refine ⟨_, rfl, ?_⟩; have n0_ := aM (blk_below (g := gb289) (o := .cells #[.int .i64 a1_0, .int .i64 a1_1] 34 (0, 0)) (by (with_reducible repeat (first | refine kN ?_ _ | refine kD ?_ | refine kA ?_ _)); refine blk_far ?_ NB289_294.out _; (with_reducible repeat (first | refine kN ?_ _ | refine kD ?_ | refine kA ?_ _)); refine blk_far ?_ NB289_294.out _; (with_reducible repeat (first | refine kN ?_ _ | refine kD ?_ | refine kA ?_ _)); exact BK289.out) hb); have n1_ := aM (blk_below (g := gb291) (o := .cells #[.int .i64 ((rd_impl_Peg l0 x11_1).f0), .int .i64 ((rd_impl_Peg l0 x11_1).f1)] 34 (0, 0)) (by (with_reducible repeat (first | refine kN ?_ _ | refine kD ?_ | refine kA ?_ _)); refine blk_far ?_ NB291_294.out _; (with_reducible repeat (first | refine kN ?_ _ | refine kD ?_ | refine kA ?_ _)); refine blk_far ?_ NB291_294.out _; (with_reducible repeat (first | refine kN ?_ _ | refine kD ?_ | refine kA ?_ _)); exact BK291.out) hb); have n2_ := aM (blk_below (g := gb294) (o := .cells #[.int .i64 t292, .int .i64 t293] 34 (0, 0)) (by (with_reducible repeat (first | refine kN ?_ _ | refine kD ?_ | refine kA ?_ _)); refine blk_put (cs := #[.int .i64 t292, .int .i64 0]) ?_ 1 _ rfl; (with_reducible repeat (first | refine kN ?_ _ | refine kD ?_ | refine kA ?_ _)); refine blk_put (cs := #[.int .i64 0, .int .i64 0]) ?_ 0 _ rfl; (with_reducible repeat (first | refine kN ?_ _ | refine kD ?_ | refine kA ?_ _)); exact BK294.out) hb); have n3_ := aM (pT (by repeat (first | (with_reducible first | exact HB.out | apply pA | apply pN | apply pD | refine pS ?_ GE289.out | refine pS ?_ GE291.out | refine pS ?_ GE294.out) | exact HB.out)) hb); clear BK289; clear BK291; clear BK294; clear HB; have BK289 := n0_; have BK291 := n1_; have BK294 := n2_; have HB := n3_; clear n0_ n1_ n2_ n3_; (try clear hb); (try clear hb2); (try clear hk); (try clear hi)))
       go_ret
       exact ⟨by first | rfl | (simp [errW_none, errW_some] <;> rfl) | (simp [*, errW_none, errW_some] <;> rfl), by repeat (first | (with_reducible first | exact HB.out | apply pA | apply pN | apply pD | refine pS ?_ GE289.out | refine pS ?_ GE291.out | refine pS ?_ GE294.out) | exact HB.out)⟩
      ·replace c9 := Bool.eq_false_iff.mpr c9
       subst c9
       have H1 : (if ((decide (((rd_impl_Peg l0 x11_1).f1) > a1_1)) != (decide (t293 > a1_1))) = true then ((impl_turn.f ((rd_impl_Peg l0 x11_1).f0) ((rd_impl_Peg l0 x11_1).f1) t292 t293 a1_0 a1_1).bind fun t296 => (if ((decide (t296 > 0)) == (decide (t293 > ((rd_impl_Peg l0 x11_1).f1)))) = true then (impl_where.l0 k1 l0 (wrap64 (-x5_1)) l0 (l0.length : Int) (wrap64 (x11_1 + 1)) a1_0 a1_1) else (impl_where.l0 k1 l0 x5_1 l0 (l0.length : Int) (wrap64 (x11_1 + 1)) a1_0 a1_1))) else (impl_where.l0 k1 l0 x5_1 l0 (l0.length : Int) (wrap64 (x11_1 + 1)) a1_0 a1_1)) = some r := by rw [if_neg (show ¬ (false = true) by decide)] at H; exact H
       clear H
       have H := H1
       clear H1
       by_cases c21 : ((decide (((rd_impl_Peg l0 x11_1).f1) > a1_1)) != (decide (t293 > a1_1))) = true
       ·rw [if_pos c21] at H
        have c21b0 : ((decide (((rd_impl_Peg l0 x11_1).f1) > a1_1)) != (decide (t293 > a1_1))) = true := c21
        (try (have c21b1 : decide ((decide (((rd_impl_Peg l0 x11_1).f1) > a1_1)) = (decide (t293 > a1_1))) = false := by simpa using c21))
        (try (have c21b2 : ((decide (((rd_impl_Peg l0 x11_1).f1) > a1_1)) == (decide (t293 > a1_1))) = false := by simpa using c21))
        (try (have c21b3 : ¬ ((decide (((rd_impl_Peg l0 x11_1).f1) > a1_1)) = (decide (t293 > a1_1))) := by simpa using c21))
        clear c21
        replace H := oB.mp H
        obtain ⟨t296, A220, H⟩ := H
        replace H : (if ((decide (t296 > 0)) == (decide (t293 > ((rd_impl_Peg l0 x11_1).f1)))) = true then (impl_where.l0 k1 l0 (wrap64 (-x5_1)) l0 (l0.length : Int) (wrap64 (x11_1 + 1)) a1_0 a1_1) else (impl_where.l0 k1 l0 x5_1 l0 (l0.length : Int) (wrap64 (x11_1 + 1)) a1_0 a1_1)) = some r := H
        have A22 := aM A220
        clear A220
        by_cases c23 : ((decide (t296 > 0)) == (decide (t293 > ((rd_impl_Peg l0 x11_1).f1)))) = true
        ·rw [if_pos c23] at H
         have c23b0 : ((decide (t296 > 0)) == (decide (t293 > ((rd_impl_Peg l0 x11_1).f1)))) = true := c23
         (try (have c23b1 : decide ((decide (t296 > 0)) = (decide (t293 > ((rd_impl_Peg l0 x11_1).f1)))) = true := by simpa using c23))
         (try (have c23b2 : ((decide (t296 > 0)) == (decide (t293 > ((rd_impl_Peg l0 x11_1).f1)))) = true := by simpa using c23))
         clear c23
         have H' := aM H
         clear H
         have p290 : 0 ≤ (x11_1 : Int) := dT aQ
         have q290 : x11_1 < (l0.length : Int) := dT aQ
         obtain ⟨ad290, e290, hx290_0, hx290_1⟩ := at_impl_Peg HR0.out x11_1 p290 q290
         cases e290
         replace hx290_0 := (HB.out.cell (wB w _ hx290_0)).trans hx290_0
         replace hx290_1 := (HB.out.cell (wB w _ hx290_1)).trans hx290_1
         replace p290 := eq_true p290
         replace q290 := eq_true q290
         try go_wp2_with (first | ((with_reducible refine gate_dst (N := 7) rfl ?_); refine box_event ?hg (N := 7) ?hd (cs := #[.int .i64 0, .int .i64 0]) (t := 34) ?hr ?_; (case hd => rfl); (case hg => rfl); (case hr => first | (go_simp; done) | (go_simp; rfl)); intro gb291 hg w24 hbox hb; have n0_ := aM (blk_below (g := gb289) (o := .cells #[.int .i64 a1_0, .int .i64 a1_1] 34 (0, 0)) (gQ BK289) hb); have n1_ := aM (pT (by repeat (first | (with_reducible first | exact HB.out | apply pA | apply pN | apply pD | refine pS ?_ GE289.out) | exact HB.out)) hb); have n2_ := aM (hbox); have n3_ := aM ((by rw [hg]; exact (pZ (by repeat (first | (with_reducible first | exact HB.out | apply pA | apply pN | apply pD | refine pS ?_ GE289.out) | exact HB.out))) : w.heap.size ≤ gb291)); have n4_ := aM ((by rw [hg]; exact (pZ (by repeat (first | (with_reducible first | exact HB.out | apply pA | apply pN | apply pD | refine pS ?_ GE289.out) | exact HB.out))) : w.heap.size ≤ gb291)); have n5_ := aM ((by rw [hg]; exact nN (blk_lt (g := gb289) (o := .cells #[.int .i64 a1_0, .int .i64 a1_1] 34 (0, 0)) (gQ BK289)) : gb289 ≠ gb291)); have n6_ := aM ((by rw [hg]; exact Nat.ne_of_gt (blk_lt (g := gb289) (o := .cells #[.int .i64 a1_0, .int .i64 a1_1] 34 (0, 0)) (gQ BK289)) : gb291 ≠ gb289)); clear BK289; clear HB; have BK289 := n0_; have HB := n1_; have BK291 := n2_; have GW291 := n3_; have GE291 := n4_; have NB289_291 := n5_; have NB291_289 := n6_; clear n0_ n1_ n2_ n3_ n4_ n5_ n6_; clear hb hbox hg; have hnb25 := NB291_289.out; have hnc25 := NB289_291.out; have hcz26_0 : w24.cell? ⟨gb291, 0, none⟩ = some (.int .i64 0) := (kC BK291.out 0).trans rfl; have hcz26_1 : w24.cell? ⟨gb291, 1, none⟩ = some (.int .i64 0) := (kC BK291.out 1).trans rfl; have hfz26_0 := kF BK291.out 0; have hfz26_1 := kF BK291.out 1) | ((with_reducible refine gC (f := 97) rfl ?_); refine goesL_ (some 19) rfl rfl Try.func97 kR rfl #[.slice (some ad290) l0.length c0, .int .i64 (wrap64 (x11_1 + 1))] rfl sQ ?_; (with_reducible refine (impl_at.calls _ _ l0 (wrap64 (x11_1 + 1)) t292 t293 _ ?side1 ?side2 A7.out).mono ?_); (case side1 => exact Kd.C_below HR0.out (by repeat (first | (with_reducible first | exact HB.out | apply pA | apply pN | apply pD | refine pS ?_ GE289.out | refine pS ?_ GE291.out) | exact HB.out))); (case side2 => exact HC0.out); rintro e w27 ⟨rfl, hb⟩; refine ⟨_, rfl, ?_⟩; have n0_ := aM (blk_below (g := gb289) (o := .cells #[.int .i64 a1_0, .int .i64 a1_1] 34 (0, 0)) (by (with_reducible repeat (first | refine kN ?_ _ | refine kD ?_ | refine kA ?_ _)); refine blk_far ?_ NB289_291.out _; (with_reducible repeat (first | refine kN ?_ _ | refine kD ?_ | refine kA ?_ _)); refine blk_far ?_ NB289_291.out _; (with_reducible repeat (first | refine kN ?_ _ | refine kD ?_ | refine kA ?_ _)); exact BK289.out) hb); have n1_ := aM (blk_below (g := gb291) (o := .cells #[.int .i64 ((rd_impl_Peg l0 x11_1).f0), .int .i64 ((rd_impl_Peg l0 x11_1).f1)] 34 (0, 0)) (by (with_reducible repeat (first | refine kN ?_ _ | refine kD ?_ | refine kA ?_ _)); refine blk_put (cs := #[.int .i64 ((rd_impl_Peg l0 x11_1).f0), .int .i64 0]) ?_ 1 _ rfl; (with_reducible repeat (first | refine kN ?_ _ | refine kD ?_ | refine kA ?_ _)); refine blk_put (cs := #[.int .i64 0, .int .i64 0]) ?_ 0 _ rfl; (with_reducible repeat (first | refine kN ?_ _ | refine kD ?_ | refine kA ?_ _)); exact BK291.out) hb); have n2_ := aM (pT (by repeat (first | (with_reducible first | exact HB.out | apply pA | apply pN | apply pD | refine pS ?_ GE289.out | refine pS ?_ GE291.out) | exact HB.out)) hb); clear BK289; clear BK291; clear HB; have BK289 := n0_; have BK291 := n1_; have HB := n2_; clear n0_ n1_ n2_; (try clear hb); (try clear hb2); (try clear hk); (try clear hi)) | ((with_reducible refine gate_dst (N := 8) rfl ?_); refine box_event ?hg (N := 8) ?hd (cs := #[.int .i64 0, .int .i64 0]) (t := 34) ?hr ?_; (case hd => rfl); (case hg => rfl); (case hr => first | (go_simp; done) | (go_simp; rfl)); intro gb294 hg w28 hbox hb; have n0_ := aM (blk_below (g := gb289) (o := .cells #[.int .i64 a1_0, .int .i64 a1_1] 34 (0, 0)) (gQ BK289) hb); have n1_ := aM (blk_below (g := gb291) (o := .cells #[.int .i64 ((rd_impl_Peg l0 x11_1).f0), .int .i64 ((rd_impl_Peg l0 x11_1).f1)] 34 (0, 0)) (gQ BK291) hb); have n2_ := aM (pT (by repeat (first | (with_reducible first | exact HB.out | apply pA | apply pN | apply pD | refine pS ?_ GE289.out | refine pS ?_ GE291.out) | exact HB.out)) hb); have n3_ := aM (hbox); have n4_ := aM ((by rw [hg]; exact (pZ (by repeat (first | (with_reducible first | exact HB.out | apply pA | apply pN | apply pD | refine pS ?_ GE289.out | refine pS ?_ GE291.out) | exact HB.out))) : w.heap.size ≤ gb294)); have n5_ := aM ((by rw [hg]; exact (pZ (by repeat (first | (with_reducible first | exact HB.out | apply pA | apply pN | apply pD | refine pS ?_ GE289.out | refine pS ?_ GE291.out) | exact HB.out))) : w.heap.size ≤ gb294)); have n6_ := aM ((by rw [hg]; exact nN (blk_lt (g := gb289) (o := .cells #[.int .i64 a1_0, .int .i64 a1_1] 34 (0, 0)) (gQ BK289)) : gb289 ≠ gb294)); have n7_ := aM ((by rw [hg]; exact Nat.ne_of_gt (blk_lt (g := gb289) (o := .cells #[.int .i64 a1_0, .int .i64 a1_1] 34 (0, 0)) (gQ BK289)) : gb294 ≠ gb289)); have n8_ := aM ((by rw [hg]; exact nN (blk_lt (g := gb291) (o := .cells #[.int .i64 ((rd_impl_Peg l0 x11_1).f0), .int .i64 ((rd_impl_Peg l0 x11_1).f1)] 34 (0, 0)) (gQ BK291)) : gb291 ≠ gb294)); have n9_ := aM ((by rw [hg]; exact Nat.ne_of_gt (blk_lt (g := gb291) (o := .cells #[.int .i64 ((rd_impl_Peg l0 x11_1).f0), .int .i64 ((rd_impl_Peg l0 x11_1).f1)] 34 (0, 0)) (gQ BK291)) : gb294 ≠ gb291)); clear BK289; clear BK291; clear HB; have BK289 := n0_; have BK291 := n1_; have HB := n2_; have BK294 := n3_; have GW294 := n4_; have GE294 := n5_; have NB289_294 := n6_; have NB294_289 := n7_; have NB291_294 := n8_; have NB294_291 := n9_; clear n0_ n1_ n2_ n3_ n4_ n5_ n6_ n7_ n8_ n9_; clear hb hbox hg; have hnb29 := NB294_289.out; have hnc29 := NB289_294.out; have hnb30 := NB294_291.out; have hnc30 := NB291_294.out; have hcz31_0 : w28.cell? ⟨gb294, 0, none⟩ = some (.int .i64 0) := (kC BK294.out 0).trans rfl; have hcz31_1 : w28.cell? ⟨gb294, 1, none⟩ = some (.int .i64 0) := (kC BK294.out 1).trans rfl; have hfz31_0 := kF BK294.out 0; have hfz31_1 := kF BK294.out 1; have hcz32_0 : w28.cell? ⟨gb291, 0, none⟩ = some (.int .i64 ((rd_impl_Peg l0 x11_1).f0)) := (kC BK291.out 0).trans rfl; have hcz32_1 : w28.cell? ⟨gb291, 1, none⟩ = some (.int .i64 ((rd_impl_Peg l0 x11_1).f1)) := (kC BK291.out 1).trans rfl; have hfz32_0 := kF BK291.out 0; have hfz32_1 := kF BK291.out 1; have hcz33_0 : w28.cell? ⟨gb289, 0, none⟩ = some (.int .i64 a1_0) := (kC BK289.out 0).trans rfl; have hcz33_1 : w28.cell? ⟨gb289, 1, none⟩ = some (.int .i64 a1_1) := (kC BK289.out 1).trans rfl; have hfz33_0 := kF BK289.out 0; have hfz33_1 := kF BK289.out 1) | ((with_reducible refine gC (f := 141) rfl ?_); refine goesL_ (some 23) rfl rfl Try.func141 kR rfl #[.agg #[.int .i64 ((rd_impl_Peg l0 x11_1).f0), .int .i64 ((rd_impl_Peg l0 x11_1).f1)], .agg #[.int .i64 t292, .int .i64 t293], .agg #[.int .i64 a1_0, .int .i64 a1_1]] rfl sQ ?_; (with_reducible refine (impl_isOn.calls ((rd_impl_Peg l0 x11_1).f0) ((rd_impl_Peg l0 x11_1).f1) t292 t293 a1_0 a1_1 false _ A8.out).mono ?_); rintro e w34 ⟨rfl, hb⟩; refine ⟨_, rfl, ?_⟩; have n0_ := aM (blk_below (g := gb289) (o := .cells #[.int .i64 a1_0, .int .i64 a1_1] 34 (0, 0)) (by (with_reducible repeat (first | refine kN ?_ _ | refine kD ?_ | refine kA ?_ _)); refine blk_far ?_ NB289_294.out _; (with_reducible repeat (first | refine kN ?_ _ | refine kD ?_ | refine kA ?_ _)); refine blk_far ?_ NB289_294.out _; (with_reducible repeat (first | refine kN ?_ _ | refine kD ?_ | refine kA ?_ _)); exact BK289.out) hb); have n1_ := aM (blk_below (g := gb291) (o := .cells #[.int .i64 ((rd_impl_Peg l0 x11_1).f0), .int .i64 ((rd_impl_Peg l0 x11_1).f1)] 34 (0, 0)) (by (with_reducible repeat (first | refine kN ?_ _ | refine kD ?_ | refine kA ?_ _)); refine blk_far ?_ NB291_294.out _; (with_reducible repeat (first | refine kN ?_ _ | refine kD ?_ | refine kA ?_ _)); refine blk_far ?_ NB291_294.out _; (with_reducible repeat (first | refine kN ?_ _ | refine kD ?_ | refine kA ?_ _)); exact BK291.out) hb); have n2_ := aM (blk_below (g := gb294) (o := .cells #[.int .i64 t292, .int .i64 t293] 34 (0, 0)) (by (with_reducible repeat (first | refine kN ?_ _ | refine kD ?_ | refine kA ?_ _)); refine blk_put (cs := #[.int .i64 t292, .int .i64 0]) ?_ 1 _ rfl; (with_reducible repeat (first | refine kN ?_ _ | refine kD ?_ | refine kA ?_ _)); refine blk_put (cs := #[.int .i64 0, .int .i64 0]) ?_ 0 _ rfl; (with_reducible repeat (first | refine kN ?_ _ | refine kD ?_ | refine kA ?_ _)); exact BK294.out) hb); have n3_ := aM (pT (by repeat (first | (with_reducible first | exact HB.out | apply pA | apply pN | apply pD | refine pS ?_ GE289.out | refine pS ?_ GE291.out | refine pS ?_ GE294.out) | exact HB.out)) hb); clear BK289; clear BK291; clear BK294; clear HB; have BK289 := n0_; have BK291 := n1_; have BK294 := n2_; have HB := n3_; clear n0_ n1_ n2_ n3_; (try clear hb); (try clear hb2); (try clear hk); (try clear hi)))
         have n0_ := aM (kD BK289.out)
         have n1_ := aM (kD BK291.out)
         have n2_ := aM (kD BK294.out)
         have n3_ := aM (pD HB.out)
         clear BK289
         clear BK291
         clear BK294
         clear HB
         have BK289 := n0_
         have BK291 := n1_
         have BK294 := n2_
         have HB := n3_
         clear n0_ n1_ n2_ n3_
         refine start_ (n := 24) (S := fun w' => w'.cell? ⟨gb291, 0, none⟩ = some (.int .i64 ((rd_impl_Peg l0 x11_1).f0)) ∧ w'.cell? ⟨gb291, 1, none⟩ = some (.int .i64 ((rd_impl_Peg l0 x11_1).f1)) ∧ w'.cell? ⟨gb289, 0, none⟩ = some (.int .i64 a1_0) ∧ w'.cell? ⟨gb289, 1, none⟩ = some (.int .i64 a1_1) ∧ w'.cell? ⟨gb294, 0, none⟩ = some (.int .i64 t292) ∧ w'.cell? ⟨gb294, 1, none⟩ = some (.int .i64 t293)) (ds := []) #[false, false, false, false, false, false, false, false, false, false, false, false, false, false, false, false, false, false, false, false, false, false, false, false] kR rfl rfl ⟨(kC BK291.out 0).trans rfl, (kC BK291.out 1).trans rfl, (kC BK289.out 0).trans rfl, (kC BK289.out 1).trans rfl, (kC BK294.out 0).trans rfl, (kC BK294.out 1).trans rfl⟩ (fun hHeld => ?_); refine with_tabW impl_where.tab8 impl_where.bits8 (fun HT_ HW_ => ?_)
         generalize w34.drew = w35 at BK289 BK291 BK294 HB hHeld ⊢
         refine pure_ (i := 0) (N := some 24) (v := ?_) (a' := ?_) #[true, false, false, false, false, false, false, false, false, false, false, false, false, false, false, false, false, false, false, false, false, false, false, false] rfl rfl (any_of HT_.out kR) (fun _ _ _ h => h) (Or.inl ⟨by rfl, ?_⟩) ?_ ?_
         rotate_left
         ·intro w'
          go_simp
          with_reducible rfl
         rotate_left
         ·simp only [Act.put, sI, sZ, sS, i64_w, i32_w]
          rfl
         refine pure_ (i := 2) (N := some 26) (v := ?_) (a' := ?_) #[true, false, true, false, false, false, false, false, false, false, false, false, false, false, false, false, false, false, false, false, false, false, false, false] rfl rfl (any_of HT_.out kR) (fun _ _ _ h => h) (Or.inl ⟨by rfl, ?_⟩) ?_ ?_
         rotate_left
         ·intro w'
          go_simp
          with_reducible rfl
         rotate_left
         ·simp only [Act.put, sI, sZ, sS, i64_w, i32_w]
          rfl
         refine pure_ (i := 5) (N := some 29) (v := ?_) (a' := ?_) #[true, false, true, false, false, true, false, false, false, false, false, false, false, false, false, false, false, false, false, false, false, false, false, false] rfl rfl (any_of HT_.out kR) (fun _ _ _ h => h) (Or.inl ⟨by rfl, ?_⟩) ?_ ?_
         rotate_left
         ·intro w'
          go_simp
          with_reducible rfl
         rotate_left
         ·simp only [Act.put, sI, sZ, sS, i64_w, i32_w]
          rfl
         refine pure_ (i := 7) (N := some 31) (v := ?_) (a' := ?_) #[true, false, true, false, false, true, false, true, false, false, false, false, false, false, false, false, false, false, false, false, false, false, false, false] rfl rfl (any_of HT_.out kR) (fun _ _ _ h => h) (Or.inl ⟨by rfl, ?_⟩) ?_ ?_
         rotate_left
         ·intro w'
          go_simp
          with_reducible rfl
         rotate_left
         ·simp only [Act.put, sI, sZ, sS, i64_w, i32_w]
          rfl
         refine take_ (i := 1) (N := some 25) (v := ?_) (a' := ?_) #[true, true, true, false, false, true, false, true, false, false, false, false, false, false, false, false, false, false, false, false, false, false, false, false] rfl rfl (take_ofW HT_.out HW_.out kR) (fun _ _ _ h => h) (Or.inl ⟨by rfl, ?_⟩) hHeld ?_ ?_
         rotate_left
         ·rintro w' ⟨s0, s1, s2, s3, s4, s5⟩
          go_simp
          with_reducible rfl
         rotate_left
         ·simp only [Act.put, sI, sZ, sS, i64_w, i32_w]
          rfl
         refine take_ (i := 3) (N := some 27) (v := ?_) (a' := ?_) #[true, true, true, true, false, true, false, true, false, false, false, false, false, false, false, false, false, false, false, false, false, false, false, false] rfl rfl (take_ofW HT_.out HW_.out kR) (fun _ _ _ h => h) (Or.inl ⟨by rfl, ?_⟩) hHeld ?_ ?_
         rotate_left
         ·rintro w' ⟨s0, s1, s2, s3, s4, s5⟩
          go_simp
          with_reducible rfl
         rotate_left
         ·simp only [Act.put, sI, sZ, sS, i64_w, i32_w]
          rfl
         refine pure_ (i := 4) (N := some 28) (v := ?_) (a' := ?_) #[true, true, true, true, true, true, false, true, false, false, false, false, false, false, false, false, false, false, false, false, false, false, false, false] rfl rfl (any_of HT_.out kR) (fun _ _ _ h => h) (Or.inl ⟨by rfl, ?_⟩) ?_ ?_
         rotate_left
         ·intro w'
          go_simp
          with_reducible rfl
         rotate_left
         ·simp only [Act.put, sI, sZ, sS, i64_w, i32_w]
          rfl
         refine take_ (i := 6) (N := some 30) (v := ?_) (a' := ?_) #[true, true, true, true, true, true, true, true, false, false, false, false, false, false, false, false, false, false, false, false, false, false, false, false] rfl rfl (take_ofW HT_.out HW_.out kR) (fun _ _ _ h => h) (Or.inl ⟨by rfl, ?_⟩) hHeld ?_ ?_
         rotate_left
         ·rintro w' ⟨s0, s1, s2, s3, s4, s5⟩
          go_simp
          with_reducible rfl
         rotate_left
         ·simp only [Act.put, sI, sZ, sS, i64_w, i32_w]
          rfl
         refine take_ (i := 8) (N := some 32) (v := ?_) (a' := ?_) #[true, true, true, true, true, true, true, true, true, false, false, false, false, false, false, false, false, false, false, false, false, false, false, false] rfl rfl (take_ofW HT_.out HW_.out kR) (fun _ _ _ h => h) (Or.inl ⟨by rfl, ?_⟩) hHeld ?_ ?_
         rotate_left
         ·rintro w' ⟨s0, s1, s2, s3, s4, s5⟩
          go_simp
          with_reducible rfl
         rotate_left
         ·simp only [Act.put, sI, sZ, sS, i64_w, i32_w]
          rfl
         refine pure_ (i := 9) (N := some 33) (v := ?_) (a' := ?_) #[true, true, true, true, true, true, true, true, true, true, false, false, false, false, false, false, false, false, false, false, false, false, false, false] rfl rfl (any_of HT_.out kR) (fun _ _ _ h => h) (Or.inl ⟨by rfl, ?_⟩) ?_ ?_
         rotate_left
         ·intro w'
          go_simp
          with_reducible rfl
         rotate_left
         ·simp only [Act.put, sI, sZ, sS, i64_w, i32_w]
          rfl
         refine pure_ (i := 10) (N := some 34) (v := ?_) (a' := ?_) #[true, true, true, true, true, true, true, true, true, true, true, false, false, false, false, false, false, false, false, false, false, false, false, false] rfl rfl (any_of HT_.out kR) (fun _ _ _ h => h) (Or.inl ⟨by rfl, ?_⟩) ?_ ?_
         rotate_left
         ·intro w'
          go_simp
          with_reducible rfl
         rotate_left
         ·simp only [Act.put, sI, sZ, sS, i64_w, i32_w]
          rfl
         refine pure_ (i := 11) (N := some 35) (v := ?_) (a' := ?_) #[true, true, true, true, true, true, true, true, true, true, true, true, false, false, false, false, false, false, false, false, false, false, false, false] rfl rfl (any_of HT_.out kR) (fun _ _ _ h => h) (Or.inl ⟨by rfl, ?_⟩) ?_ ?_
         rotate_left
         ·intro w'
          go_simp
          with_reducible rfl
         rotate_left
         ·simp only [Act.put, sI, sZ, sS, i64_w, i32_w]
          rfl
         refine pure_ (i := 17) (N := some 41) (v := ?_) (a' := ?_) #[true, true, true, true, true, true, true, true, true, true, true, true, false, false, false, false, false, true, false, false, false, false, false, false] rfl rfl (any_of HT_.out kR) (fun _ _ _ h => h) (Or.inl ⟨by rfl, ?_⟩) ?_ ?_
         rotate_left
         ·intro w'
          go_simp
          with_reducible rfl
         rotate_left
         ·simp only [Act.put, sI, sZ, sS, i64_w, i32_w]
          rfl
         refine pure_ (i := 19) (N := some 43) (v := ?_) (a' := ?_) #[true, true, true, true, true, true, true, true, true, true, true, true, false, false, false, false, false, true, false, true, false, false, false, false] rfl rfl (any_of HT_.out kR) (fun _ _ _ h => h) (Or.inl ⟨by rfl, ?_⟩) ?_ ?_
         rotate_left
         ·intro w'
          go_simp
          with_reducible rfl
         rotate_left
         ·simp only [Act.put, sI, sZ, sS, i64_w, i32_w]
          rfl
         refine take_ (i := 12) (N := some 36) (v := ?_) (a' := ?_) #[true, true, true, true, true, true, true, true, true, true, true, true, true, false, false, false, false, true, false, true, false, false, false, false] rfl rfl (take_ofW HT_.out HW_.out kR) (fun _ _ _ h => h) (Or.inl ⟨by rfl, ?_⟩) hHeld ?_ ?_
         rotate_left
         ·rintro w' ⟨s0, s1, s2, s3, s4, s5⟩
          go_simp
          with_reducible rfl
         rotate_left
         ·simp only [Act.put, sI, sZ, sS, i64_w, i32_w]
          rfl
         refine take_ (i := 13) (N := some 37) (v := ?_) (a' := ?_) #[true, true, true, true, true, true, true, true, true, true, true, true, true, true, false, false, false, true, false, true, false, false, false, false] rfl rfl (take_ofW HT_.out HW_.out kR) (fun _ _ _ h => h) (Or.inl ⟨by rfl, ?_⟩) hHeld ?_ ?_
         rotate_left
         ·rintro w' ⟨s0, s1, s2, s3, s4, s5⟩
          go_simp
          with_reducible rfl
         rotate_left
         ·simp only [Act.put, sI, sZ, sS, i64_w, i32_w]
          rfl
         refine take_ (i := 14) (N := some 38) (v := ?_) (a' := ?_) #[true, true, true, true, true, true, true, true, true, true, true, true, true, true, true, false, false, true, false, true, false, false, false, false] rfl rfl (take_ofW HT_.out HW_.out kR) (fun _ _ _ h => h) (Or.inl ⟨by rfl, ?_⟩) hHeld ?_ ?_
         rotate_left
         ·rintro w' ⟨s0, s1, s2, s3, s4, s5⟩
          go_simp
          with_reducible rfl
         rotate_left
         ·simp only [Act.put, sI, sZ, sS, i64_w, i32_w]
          rfl
         refine take_ (i := 18) (N := some 42) (v := ?_) (a' := ?_) #[true, true, true, true, true, true, true, true, true, true, true, true, true, true, true, false, false, true, true, true, false, false, false, false] rfl rfl (take_ofW HT_.out HW_.out kR) (fun _ _ _ h => h) (Or.inl ⟨by rfl, ?_⟩) hHeld ?_ ?_
         rotate_left
         ·rintro w' ⟨s0, s1, s2, s3, s4, s5⟩
          go_simp
          with_reducible rfl
         rotate_left
         ·simp only [Act.put, sI, sZ, sS, i64_w, i32_w]
          rfl
         refine take_ (i := 20) (N := some 44) (v := ?_) (a' := ?_) #[true, true, true, true, true, true, true, true, true, true, true, true, true, true, true, false, false, true, true, true, true, false, false, false] rfl rfl (take_ofW HT_.out HW_.out kR) (fun _ _ _ h => h) (Or.inl ⟨by rfl, ?_⟩) hHeld ?_ ?_
         rotate_left
         ·rintro w' ⟨s0, s1, s2, s3, s4, s5⟩
          go_simp
          with_reducible rfl
         rotate_left
         ·simp only [Act.put, sI, sZ, sS, i64_w, i32_w]
          rfl
         refine pure_ (i := 21) (N := some 45) (v := ?_) (a' := ?_) #[true, true, true, true, true, true, true, true, true, true, true, true, true, true, true, false, false, true, true, true, true, true, false, false] rfl rfl (any_of HT_.out kR) (fun _ _ _ h => h) (Or.inl ⟨by rfl, ?_⟩) ?_ ?_
         rotate_left
         ·intro w'
          go_simp
          with_reducible rfl
         rotate_left
         ·simp only [Act.put, sI, sZ, sS, i64_w, i32_w]
          rfl
         refine one_ (i := 15) (N := some 39) #[true, true, true, true, true, true, true, true, true, true, true, true, true, true, true, true, false, true, true, true, true, true, false, false] rfl rfl (one_of HT_.out kR) (by decide) (fun K hK => ?_)
         refine goes_ Try.func138 kR rfl #[.agg #[.int .i64 ((rd_impl_Peg l0 x11_1).f0), .int .i64 ((rd_impl_Peg l0 x11_1).f1)], .agg #[.int .i64 t292, .int .i64 t293], .agg #[.int .i64 a1_0, .int .i64 a1_1]] (by rfl) rfl rfl sQ ?_
         with_reducible refine (impl_turn.calls ((rd_impl_Peg l0 x11_1).f0) ((rd_impl_Peg l0 x11_1).f1) t292 t293 a1_0 a1_1 t296 _ A22.out).mono ?_
         rintro e w36 ⟨rfl, hb⟩
         refine ⟨_, rfl, ?_⟩
         have n0_ := aM (blk_below (g := gb289) (o := .cells #[.int .i64 a1_0, .int .i64 a1_1] 34 (0, 0)) (gQ BK289) hb)
         have n1_ := aM (blk_below (g := gb291) (o := .cells #[.int .i64 ((rd_impl_Peg l0 x11_1).f0), .int .i64 ((rd_impl_Peg l0 x11_1).f1)] 34 (0, 0)) (gQ BK291) hb)
         have n2_ := aM (blk_below (g := gb294) (o := .cells #[.int .i64 t292, .int .i64 t293] 34 (0, 0)) (gQ BK294) hb)
         have n3_ := aM (pT (by repeat (first | (with_reducible first | exact HB.out | apply pA | apply pN | apply pD | refine pS ?_ GE289.out | refine pS ?_ GE291.out | refine pS ?_ GE294.out) | exact HB.out)) hb)
         clear BK289
         clear BK291
         clear BK294
         clear HB
         have BK289 := n0_
         have BK291 := n1_
         have BK294 := n2_
         have HB := n3_
         clear n0_ n1_ n2_ n3_
         (try clear hb)
         (try clear hb2)
         (try clear hk)
         (try clear hi)
         refine hK.out _ _ ⟨(kC BK291.out 0).trans rfl, (kC BK291.out 1).trans rfl, (kC BK289.out 0).trans rfl, (kC BK289.out 1).trans rfl, (kC BK294.out 0).trans rfl, (kC BK294.out 1).trans rfl⟩ (fun hHeld => ?_)
         clear hK K
         refine norm_ (a' := ?_) ?_ ?_
         rotate_left
         ·show Act.put _ (some 39) _ = _
          simp only [Act.put, sI, sZ, sS, i64_w, i32_w]
          rfl
         refine pure_ (i := 16) (N := some 40) (v := ?_) (a' := ?_) #[true, true, true, true, true, true, true, true, true, true, true, true, true, true, true, true, true, true, true, true, true, true, false, false] rfl rfl (any_of HT_.out kR) (fun _ _ _ h => h) (Or.inl ⟨by rfl, ?_⟩) ?_ ?_
         rotate_left
         ·intro w'
          go_simp
          with_reducible rfl
         rotate_left
         ·simp only [Act.put, sI, sZ, sS, i64_w, i32_w]
          rfl
         refine pure_ (i := 22) (N := some 46) (v := ?_) (a' := ?_) #[true, true, true, true, true, true, true, true, true, true, true, true, true, true, true, true, true, true, true, true, true, true, true, false] rfl rfl (any_of HT_.out kR) (fun _ _ _ h => h) (Or.inl ⟨by rfl, ?_⟩) ?_ ?_
         rotate_left
         ·intro w'
          go_simp
          with_reducible rfl
         rotate_left
         ·simp only [Act.put, sI, sZ, sS, i64_w, i32_w]
          rfl
         refine pure_ (i := 23) (N := some 47) (v := ?_) (a' := ?_) #[true, true, true, true, true, true, true, true, true, true, true, true, true, true, true, true, true, true, true, true, true, true, true, true] rfl rfl (any_of HT_.out kR) (fun _ _ _ h => h) (Or.inl ⟨by rfl, ?_⟩) ?_ ?_
         rotate_left
         ·intro w'
          go_simp
          with_reducible rfl
         rotate_left
         ·simp only [Act.put, sI, sZ, sS, i64_w, i32_w]
          rfl
         refine done_ (done_of HT_.out kR) ?_
         try go_wp2
         go_roundg k1
         case measure => have := HK1.out; omega
         case rel => exact ⟨(wrap64 (-x5_1)), (wrap64 (x11_1 + 1)), eQ, eQ, H', ⟨by have := HK1.out; omega⟩, ⟨by (with_reducible repeat (first | refine kN ?_ _ | refine kD ?_ | refine kA ?_ _)); exact BK289.out⟩, ⟨by repeat (first | (with_reducible first | exact HB.out | apply pA | apply pN | apply pD | refine pS ?_ GE289.out | refine pS ?_ GE291.out | refine pS ?_ GE294.out) | exact HB.out)⟩⟩
        ·rw [if_neg c23] at H
         have c23b0 : ((decide (t296 > 0)) == (decide (t293 > ((rd_impl_Peg l0 x11_1).f1)))) = false := by simpa using c23
         (try (have c23b1 : decide ((decide (t296 > 0)) = (decide (t293 > ((rd_impl_Peg l0 x11_1).f1)))) = false := by simpa using c23))
         (try (have c23b2 : ((decide (t296 > 0)) == (decide (t293 > ((rd_impl_Peg l0 x11_1).f1)))) = false := by simpa using c23))
         (try (have c23b3 : ¬ ((decide (t296 > 0)) = (decide (t293 > ((rd_impl_Peg l0 x11_1).f1)))) := by simpa using c23))
         clear c23
         have H' := aM H
         clear H
         have p290 : 0 ≤ (x11_1 : Int) := dT aQ
         have q290 : x11_1 < (l0.length : Int) := dT aQ
         obtain ⟨ad290, e290, hx290_0, hx290_1⟩ := at_impl_Peg HR0.out x11_1 p290 q290
         cases e290
         replace hx290_0 := (HB.out.cell (wB w _ hx290_0)).trans hx290_0
         replace hx290_1 := (HB.out.cell (wB w _ hx290_1)).trans hx290_1
         replace p290 := eq_true p290
         replace q290 := eq_true q290
         try go_wp2_with (first | ((with_reducible refine gate_dst (N := 7) rfl ?_); refine box_event ?hg (N := 7) ?hd (cs := #[.int .i64 0, .int .i64 0]) (t := 34) ?hr ?_; (case hd => rfl); (case hg => rfl); (case hr => first | (go_simp; done) | (go_simp; rfl)); intro gb291 hg w37 hbox hb; have n0_ := aM (blk_below (g := gb289) (o := .cells #[.int .i64 a1_0, .int .i64 a1_1] 34 (0, 0)) (gQ BK289) hb); have n1_ := aM (pT (by repeat (first | (with_reducible first | exact HB.out | apply pA | apply pN | apply pD | refine pS ?_ GE289.out) | exact HB.out)) hb); have n2_ := aM (hbox); have n3_ := aM ((by rw [hg]; exact (pZ (by repeat (first | (with_reducible first | exact HB.out | apply pA | apply pN | apply pD | refine pS ?_ GE289.out) | exact HB.out))) : w.heap.size ≤ gb291)); have n4_ := aM ((by rw [hg]; exact (pZ (by repeat (first | (with_reducible first | exact HB.out | apply pA | apply pN | apply pD | refine pS ?_ GE289.out) | exact HB.out))) : w.heap.size ≤ gb291)); have n5_ := aM ((by rw [hg]; exact nN (blk_lt (g := gb289) (o := .cells #[.int .i64 a1_0, .int .i64 a1_1] 34 (0, 0)) (gQ BK289)) : gb289 ≠ gb291)); have n6_ := aM ((by rw [hg]; exact Nat.ne_of_gt (blk_lt (g := gb289) (o := .cells #[.int .i64 a1_0, .int .i64 a1_1] 34 (0, 0)) (gQ BK289)) : gb291 ≠ gb289)); clear BK289; clear HB; have BK289 := n0_; have HB := n1_; have BK291 := n2_; have GW291 := n3_; have GE291 := n4_; have NB289_291 := n5_; have NB291_289 := n6_; clear n0_ n1_ n2_ n3_ n4_ n5_ n6_; clear hb hbox hg; have hnb38 := NB291_289.out; have hnc38 := NB289_291.out; have hcz39_0 : w37.cell? ⟨gb291, 0, none⟩ = some (.int .i64 0) := (kC BK291.out 0).trans rfl; have hcz39_1 : w37.cell? ⟨gb291, 1, none⟩ = some (.int .i64 0) := (kC BK291.out 1).trans rfl; have hfz39_0 := kF BK291.out 0; have hfz39_1 := kF BK291.out 1) | ((with_reducible refine gC (f := 97) rfl ?_); refine goesL_ (some 19) rfl rfl Try.func97 kR rfl #[.slice (some ad290) l0.length c0, .int .i64 (wrap64 (x11_1 + 1))] rfl sQ ?_; (with_reducible refine (impl_at.calls _ _ l0 (wrap64 (x11_1 + 1)) t292 t293 _ ?side1 ?side2 A7.out).mono ?_); (case side1 => exact Kd.C_below HR0.out (by repeat (first | (with_reducible first | exact HB.out | apply pA | apply pN | apply pD | refine pS ?_ GE289.out | refine pS ?_ GE291.out) | exact HB.out))); (case side2 => exact HC0.out); rintro e w40 ⟨rfl, hb⟩; refine ⟨_, rfl, ?_⟩; have n0_ := aM (blk_below (g := gb289) (o := .cells #[.int .i64 a1_0, .int .i64 a1_1] 34 (0, 0)) (by (with_reducible repeat (first | refine kN ?_ _ | refine kD ?_ | refine kA ?_ _)); refine blk_far ?_ NB289_291.out _; (with_reducible repeat (first | refine kN ?_ _ | refine kD ?_ | refine kA ?_ _)); refine blk_far ?_ NB289_291.out _; (with_reducible repeat (first | refine kN ?_ _ | refine kD ?_ | refine kA ?_ _)); exact BK289.out) hb); have n1_ := aM (blk_below (g := gb291) (o := .cells #[.int .i64 ((rd_impl_Peg l0 x11_1).f0), .int .i64 ((rd_impl_Peg l0 x11_1).f1)] 34 (0, 0)) (by (with_reducible repeat (first | refine kN ?_ _ | refine kD ?_ | refine kA ?_ _)); refine blk_put (cs := #[.int .i64 ((rd_impl_Peg l0 x11_1).f0), .int .i64 0]) ?_ 1 _ rfl; (with_reducible repeat (first | refine kN ?_ _ | refine kD ?_ | refine kA ?_ _)); refine blk_put (cs := #[.int .i64 0, .int .i64 0]) ?_ 0 _ rfl; (with_reducible repeat (first | refine kN ?_ _ | refine kD ?_ | refine kA ?_ _)); exact BK291.out) hb); have n2_ := aM (pT (by repeat (first | (with_reducible first | exact HB.out | apply pA | apply pN | apply pD | refine pS ?_ GE289.out | refine pS ?_ GE291.out) | exact HB.out)) hb); clear BK289; clear BK291; clear HB; have BK289 := n0_; have BK291 := n1_; have HB := n2_; clear n0_ n1_ n2_; (try clear hb); (try clear hb2); (try clear hk); (try clear hi)) | ((with_reducible refine gate_dst (N := 8) rfl ?_); refine box_event ?hg (N := 8) ?hd (cs := #[.int .i64 0, .int .i64 0]) (t := 34) ?hr ?_; (case hd => rfl); (case hg => rfl); (case hr => first | (go_simp; done) | (go_simp; rfl)); intro gb294 hg w41 hbox hb; have n0_ := aM (blk_below (g := gb289) (o := .cells #[.int .i64 a1_0, .int .i64 a1_1] 34 (0, 0)) (gQ BK289) hb); have n1_ := aM (blk_below (g := gb291) (o := .cells #[.int .i64 ((rd_impl_Peg l0 x11_1).f0), .int .i64 ((rd_impl_Peg l0 x11_1).f1)] 34 (0, 0)) (gQ BK291) hb); have n2_ := aM (pT (by repeat (first | (with_reducible first | exact HB.out | apply pA | apply pN | apply pD | refine pS ?_ GE289.out | refine pS ?_ GE291.out) | exact HB.out)) hb); have n3_ := aM (hbox); have n4_ := aM ((by rw [hg]; exact (pZ (by repeat (first | (with_reducible first | exact HB.out | apply pA | apply pN | apply pD | refine pS ?_ GE289.out | refine pS ?_ GE291.out) | exact HB.out))) : w.heap.size ≤ gb294)); have n5_ := aM ((by rw [hg]; exact (pZ (by repeat (first | (with_reducible first | exact HB.out | apply pA | apply pN | apply pD | refine pS ?_ GE289.out | refine pS ?_ GE291.out) | exact HB.out))) : w.heap.size ≤ gb294)); have n6_ := aM ((by rw [hg]; exact nN (blk_lt (g := gb289) (o := .cells #[.int .i64 a1_0, .int .i64 a1_1] 34 (0, 0)) (gQ BK289)) : gb289 ≠ gb294)); have n7_ := aM ((by rw [hg]; exact Nat.ne_of_gt (blk_lt (g := gb289) (o := .cells #[.int .i64 a1_0, .int .i64 a1_1] 34 (0, 0)) (gQ BK289)) : gb294 ≠ gb289)); have n8_ := aM ((by rw [hg]; exact nN (blk_lt (g := gb291) (o := .cells #[.int .i64 ((rd_impl_Peg l0 x11_1).f0), .int .i64 ((rd_impl_Peg l0 x11_1).f1)] 34 (0, 0)) (gQ BK291)) : gb291 ≠ gb294)); have n9_ := aM ((by rw [hg]; exact Nat.ne_of_gt (blk_lt (g := gb291) (o := .cells #[.int .i64 ((rd_impl_Peg l0 x11_1).f0), .int .i64 ((rd_impl_Peg l0 x11_1).f1)] 34 (0, 0)) (gQ BK291)) : gb294 ≠ gb291)); clear BK289; clear BK291; clear HB; have BK289 := n0_; have BK291 := n1_; have HB := n2_; have BK294 := n3_; have GW294 := n4_; have GE294 := n5_; have NB289_294 := n6_; have NB294_289 := n7_; have NB291_294 := n8_; have NB294_291 := n9_; clear n0_ n1_ n2_ n3_ n4_ n5_ n6_ n7_ n8_ n9_; clear hb hbox hg; have hnb42 := NB294_289.out; have hnc42 := NB289_294.out; have hnb43 := NB294_291.out; have hnc43 := NB291_294.out; have hcz44_0 : w41.cell? ⟨gb294, 0, none⟩ = some (.int .i64 0) := (kC BK294.out 0).trans rfl; have hcz44_1 : w41.cell? ⟨gb294, 1, none⟩ = some (.int .i64 0) := (kC BK294.out 1).trans rfl; have hfz44_0 := kF BK294.out 0; have hfz44_1 := kF BK294.out 1; have hcz45_0 : w41.cell? ⟨gb291, 0, none⟩ = some (.int .i64 ((rd_impl_Peg l0 x11_1).f0)) := (kC BK291.out 0).trans rfl; have hcz45_1 : w41.cell? ⟨gb291, 1, none⟩ = some (.int .i64 ((rd_impl_Peg l0 x11_1).f1)) := (kC BK291.out 1).trans rfl; have hfz45_0 := kF BK291.out 0; have hfz45_1 := kF BK291.out 1; have hcz46_0 : w41.cell? ⟨gb289, 0, none⟩ = some (.int .i64 a1_0) := (kC BK289.out 0).trans rfl; have hcz46_1 : w41.cell? ⟨gb289, 1, none⟩ = some (.int .i64 a1_1) := (kC BK289.out 1).trans rfl; have hfz46_0 := kF BK289.out 0; have hfz46_1 := kF BK289.out 1) | ((with_reducible refine gC (f := 141) rfl ?_); refine goesL_ (some 23) rfl rfl Try.func141 kR rfl #[.agg #[.int .i64 ((rd_impl_Peg l0 x11_1).f0), .int .i64 ((rd_impl_Peg l0 x11_1).f1)], .agg #[.int .i64 t292, .int .i64 t293], .agg #[.int .i64 a1_0, .int .i64 a1_1]] rfl sQ ?_; (with_reducible refine (impl_isOn.calls ((rd_impl_Peg l0 x11_1).f0) ((rd_impl_Peg l0 x11_1).f1) t292 t293 a1_0 a1_1 false _ A8.out).mono ?_); rintro e w47 ⟨rfl, hb⟩; refine ⟨_, rfl, ?_⟩; have n0_ := aM (blk_below (g := gb289) (o := .cells #[.int .i64 a1_0, .int .i64 a1_1] 34 (0, 0)) (by (with_reducible repeat (first | refine kN ?_ _ | refine kD ?_ | refine kA ?_ _)); refine blk_far ?_ NB289_294.out _; (with_reducible repeat (first | refine kN ?_ _ | refine kD ?_ | refine kA ?_ _)); refine blk_far ?_ NB289_294.out _; (with_reducible repeat (first | refine kN ?_ _ | refine kD ?_ | refine kA ?_ _)); exact BK289.out) hb); have n1_ := aM (blk_below (g := gb291) (o := .cells #[.int .i64 ((rd_impl_Peg l0 x11_1).f0), .int .i64 ((rd_impl_Peg l0 x11_1).f1)] 34 (0, 0)) (by (with_reducible repeat (first | refine kN ?_ _ | refine kD ?_ | refine kA ?_ _)); refine blk_far ?_ NB291_294.out _; (with_reducible repeat (first | refine kN ?_ _ | refine kD ?_ | refine kA ?_ _)); refine blk_far ?_ NB291_294.out _; (with_reducible repeat (first | refine kN ?_ _ | refine kD ?_ | refine kA ?_ _)); exact BK291.out) hb); have n2_ := aM (blk_below (g := gb294) (o := .cells #[.int .i64 t292, .int .i64 t293] 34 (0, 0)) (by (with_reducible repeat (first | refine kN ?_ _ | refine kD ?_ | refine kA ?_ _)); refine blk_put (cs := #[.int .i64 t292, .int .i64 0]) ?_ 1 _ rfl; (with_reducible repeat (first | refine kN ?_ _ | refine kD ?_ | refine kA ?_ _)); refine blk_put (cs := #[.int .i64 0, .int .i64 0]) ?_ 0 _ rfl; (with_reducible repeat (first | refine kN ?_ _ | refine kD ?_ | refine kA ?_ _)); exact BK294.out) hb); have n3_ := aM (pT (by repeat (first | (with_reducible first | exact HB.out | apply pA | apply pN | apply pD | refine pS ?_ GE289.out | refine pS ?_ GE291.out | refine pS ?_ GE294.out) | exact HB.out)) hb); clear BK289; clear BK291; clear BK294; clear HB; have BK289 := n0_; have BK291 := n1_; have BK294 := n2_; have HB := n3_; clear n0_ n1_ n2_ n3_; (try clear hb); (try clear hb2); (try clear hk); (try clear hi)))
         have n0_ := aM (kD BK289.out)
         have n1_ := aM (kD BK291.out)
         have n2_ := aM (kD BK294.out)
         have n3_ := aM (pD HB.out)
         clear BK289
         clear BK291
         clear BK294
         clear HB
         have BK289 := n0_
         have BK291 := n1_
         have BK294 := n2_
         have HB := n3_
         clear n0_ n1_ n2_ n3_
         refine start_ (n := 24) (S := fun w' => w'.cell? ⟨gb291, 0, none⟩ = some (.int .i64 ((rd_impl_Peg l0 x11_1).f0)) ∧ w'.cell? ⟨gb291, 1, none⟩ = some (.int .i64 ((rd_impl_Peg l0 x11_1).f1)) ∧ w'.cell? ⟨gb289, 0, none⟩ = some (.int .i64 a1_0) ∧ w'.cell? ⟨gb289, 1, none⟩ = some (.int .i64 a1_1) ∧ w'.cell? ⟨gb294, 0, none⟩ = some (.int .i64 t292) ∧ w'.cell? ⟨gb294, 1, none⟩ = some (.int .i64 t293)) (ds := []) #[false, false, false, false, false, false, false, false, false, false, false, false, false, false, false, false, false, false, false, false, false, false, false, false] kR rfl rfl ⟨(kC BK291.out 0).trans rfl, (kC BK291.out 1).trans rfl, (kC BK289.out 0).trans rfl, (kC BK289.out 1).trans rfl, (kC BK294.out 0).trans rfl, (kC BK294.out 1).trans rfl⟩ (fun hHeld => ?_); refine with_tabW impl_where.tab8 impl_where.bits8 (fun HT_ HW_ => ?_)
         generalize w47.drew = w48 at BK289 BK291 BK294 HB hHeld ⊢
         refine pure_ (i := 0) (N := some 24) (v := ?_) (a' := ?_) #[true, false, false, false, false, false, false, false, false, false, false, false, false, false, false, false, false, false, false, false, false, false, false, false] rfl rfl (any_of HT_.out kR) (fun _ _ _ h => h) (Or.inl ⟨by rfl, ?_⟩) ?_ ?_
         rotate_left
         ·intro w'
          go_simp
          with_reducible rfl
         rotate_left
         ·simp only [Act.put, sI, sZ, sS, i64_w, i32_w]
          rfl
         refine pure_ (i := 2) (N := some 26) (v := ?_) (a' := ?_) #[true, false, true, false, false, false, false, false, false, false, false, false, false, false, false, false, false, false, false, false, false, false, false, false] rfl rfl (any_of HT_.out kR) (fun _ _ _ h => h) (Or.inl ⟨by rfl, ?_⟩) ?_ ?_
         rotate_left
         ·intro w'
          go_simp
          with_reducible rfl
         rotate_left
         ·simp only [Act.put, sI, sZ, sS, i64_w, i32_w]
          rfl
         refine pure_ (i := 5) (N := some 29) (v := ?_) (a' := ?_) #[true, false, true, false, false, true, false, false, false, false, false, false, false, false, false, false, false, false, false, false, false, false, false, false] rfl rfl (any_of HT_.out kR) (fun _ _ _ h => h) (Or.inl ⟨by rfl, ?_⟩) ?_ ?_
         rotate_left
         ·intro w'
          go_simp
          with_reducible rfl
         rotate_left
         ·simp only [Act.put, sI, sZ, sS, i64_w, i32_w]
          rfl
         refine pure_ (i := 7) (N := some 31) (v := ?_) (a' := ?_) #[true, false, true, false, false, true, false, true, false, false, false, false, false, false, false, false, false, false, false, false, false, false, false, false] rfl rfl (any_of HT_.out kR) (fun _ _ _ h => h) (Or.inl ⟨by rfl, ?_⟩) ?_ ?_
         rotate_left
         ·intro w'
          go_simp
          with_reducible rfl
         rotate_left
         ·simp only [Act.put, sI, sZ, sS, i64_w, i32_w]
          rfl
         refine take_ (i := 1) (N := some 25) (v := ?_) (a' := ?_) #[true, true, true, false, false, true, false, true, false, false, false, false, false, false, false, false, false, false, false, false, false, false, false, false] rfl rfl (take_ofW HT_.out HW_.out kR) (fun _ _ _ h => h) (Or.inl ⟨by rfl, ?_⟩) hHeld ?_ ?_
         rotate_left
         ·rintro w' ⟨s0, s1, s2, s3, s4, s5⟩
          go_simp
          with_reducible rfl
         rotate_left
         ·simp only [Act.put, sI, sZ, sS, i64_w, i32_w]
          rfl
         refine take_ (i := 3) (N := some 27) (v := ?_) (a' := ?_) #[true, true, true, true, false, true, false, true, false, false, false, false, false, false, false, false, false, false, false, false, false, false, false, false] rfl rfl (take_ofW HT_.out HW_.out kR) (fun _ _ _ h => h) (Or.inl ⟨by rfl, ?_⟩) hHeld ?_ ?_
         rotate_left
         ·rintro w' ⟨s0, s1, s2, s3, s4, s5⟩
          go_simp
          with_reducible rfl
         rotate_left
         ·simp only [Act.put, sI, sZ, sS, i64_w, i32_w]
          rfl
         refine pure_ (i := 4) (N := some 28) (v := ?_) (a' := ?_) #[true, true, true, true, true, true, false, true, false, false, false, false, false, false, false, false, false, false, false, false, false, false, false, false] rfl rfl (any_of HT_.out kR) (fun _ _ _ h => h) (Or.inl ⟨by rfl, ?_⟩) ?_ ?_
         rotate_left
         ·intro w'
          go_simp
          with_reducible rfl
         rotate_left
         ·simp only [Act.put, sI, sZ, sS, i64_w, i32_w]
          rfl
         refine take_ (i := 6) (N := some 30) (v := ?_) (a' := ?_) #[true, true, true, true, true, true, true, true, false, false, false, false, false, false, false, false, false, false, false, false, false, false, false, false] rfl rfl (take_ofW HT_.out HW_.out kR) (fun _ _ _ h => h) (Or.inl ⟨by rfl, ?_⟩) hHeld ?_ ?_
         rotate_left
         ·rintro w' ⟨s0, s1, s2, s3, s4, s5⟩
          go_simp
          with_reducible rfl
         rotate_left
         ·simp only [Act.put, sI, sZ, sS, i64_w, i32_w]
          rfl
         refine take_ (i := 8) (N := some 32) (v := ?_) (a' := ?_) #[true, true, true, true, true, true, true, true, true, false, false, false, false, false, false, false, false, false, false, false, false, false, false, false] rfl rfl (take_ofW HT_.out HW_.out kR) (fun _ _ _ h => h) (Or.inl ⟨by rfl, ?_⟩) hHeld ?_ ?_
         rotate_left
         ·rintro w' ⟨s0, s1, s2, s3, s4, s5⟩
          go_simp
          with_reducible rfl
         rotate_left
         ·simp only [Act.put, sI, sZ, sS, i64_w, i32_w]
          rfl
         refine pure_ (i := 9) (N := some 33) (v := ?_) (a' := ?_) #[true, true, true, true, true, true, true, true, true, true, false, false, false, false, false, false, false, false, false, false, false, false, false, false] rfl rfl (any_of HT_.out kR) (fun _ _ _ h => h) (Or.inl ⟨by rfl, ?_⟩) ?_ ?_
         rotate_left
         ·intro w'
          go_simp
          with_reducible rfl
         rotate_left
         ·simp only [Act.put, sI, sZ, sS, i64_w, i32_w]
          rfl
         refine pure_ (i := 10) (N := some 34) (v := ?_) (a' := ?_) #[true, true, true, true, true, true, true, true, true, true, true, false, false, false, false, false, false, false, false, false, false, false, false, false] rfl rfl (any_of HT_.out kR) (fun _ _ _ h => h) (Or.inl ⟨by rfl, ?_⟩) ?_ ?_
         rotate_left
         ·intro w'
          go_simp
          with_reducible rfl
         rotate_left
         ·simp only [Act.put, sI, sZ, sS, i64_w, i32_w]
          rfl
         refine pure_ (i := 11) (N := some 35) (v := ?_) (a' := ?_) #[true, true, true, true, true, true, true, true, true, true, true, true, false, false, false, false, false, false, false, false, false, false, false, false] rfl rfl (any_of HT_.out kR) (fun _ _ _ h => h) (Or.inl ⟨by rfl, ?_⟩) ?_ ?_
         rotate_left
         ·intro w'
          go_simp
          with_reducible rfl
         rotate_left
         ·simp only [Act.put, sI, sZ, sS, i64_w, i32_w]
          rfl
         refine pure_ (i := 17) (N := some 41) (v := ?_) (a' := ?_) #[true, true, true, true, true, true, true, true, true, true, true, true, false, false, false, false, false, true, false, false, false, false, false, false] rfl rfl (any_of HT_.out kR) (fun _ _ _ h => h) (Or.inl ⟨by rfl, ?_⟩) ?_ ?_
         rotate_left
         ·intro w'
          go_simp
          with_reducible rfl
         rotate_left
         ·simp only [Act.put, sI, sZ, sS, i64_w, i32_w]
          rfl
         refine pure_ (i := 19) (N := some 43) (v := ?_) (a' := ?_) #[true, true, true, true, true, true, true, true, true, true, true, true, false, false, false, false, false, true, false, true, false, false, false, false] rfl rfl (any_of HT_.out kR) (fun _ _ _ h => h) (Or.inl ⟨by rfl, ?_⟩) ?_ ?_
         rotate_left
         ·intro w'
          go_simp
          with_reducible rfl
         rotate_left
         ·simp only [Act.put, sI, sZ, sS, i64_w, i32_w]
          rfl
         refine take_ (i := 12) (N := some 36) (v := ?_) (a' := ?_) #[true, true, true, true, true, true, true, true, true, true, true, true, true, false, false, false, false, true, false, true, false, false, false, false] rfl rfl (take_ofW HT_.out HW_.out kR) (fun _ _ _ h => h) (Or.inl ⟨by rfl, ?_⟩) hHeld ?_ ?_
         rotate_left
         ·rintro w' ⟨s0, s1, s2, s3, s4, s5⟩
          go_simp
          with_reducible rfl
         rotate_left
         ·simp only [Act.put, sI, sZ, sS, i64_w, i32_w]
          rfl
         refine take_ (i := 13) (N := some 37) (v := ?_) (a' := ?_) #[true, true, true, true, true, true, true, true, true, true, true, true, true, true, false, false, false, true, false, true, false, false, false, false] rfl rfl (take_ofW HT_.out HW_.out kR) (fun _ _ _ h => h) (Or.inl ⟨by rfl, ?_⟩) hHeld ?_ ?_
         rotate_left
         ·rintro w' ⟨s0, s1, s2, s3, s4, s5⟩
          go_simp
          with_reducible rfl
         rotate_left
         ·simp only [Act.put, sI, sZ, sS, i64_w, i32_w]
          rfl
         refine take_ (i := 14) (N := some 38) (v := ?_) (a' := ?_) #[true, true, true, true, true, true, true, true, true, true, true, true, true, true, true, false, false, true, false, true, false, false, false, false] rfl rfl (take_ofW HT_.out HW_.out kR) (fun _ _ _ h => h) (Or.inl ⟨by rfl, ?_⟩) hHeld ?_ ?_
         rotate_left
         ·rintro w' ⟨s0, s1, s2, s3, s4, s5⟩
          go_simp
          with_reducible rfl
         rotate_left
         ·simp only [Act.put, sI, sZ, sS, i64_w, i32_w]
          rfl
         refine take_ (i := 18) (N := some 42) (v := ?_) (a' := ?_) #[true, true, true, true, true, true, true, true, true, true, true, true, true, true, true, false, false, true, true, true, false, false, false, false] rfl rfl (take_ofW HT_.out HW_.out kR) (fun _ _ _ h => h) (Or.inl ⟨by rfl, ?_⟩) hHeld ?_ ?_
         rotate_left
         ·rintro w' ⟨s0, s1, s2, s3, s4, s5⟩
          go_simp
          with_reducible rfl
         rotate_left
         ·simp only [Act.put, sI, sZ, sS, i64_w, i32_w]
          rfl
         refine take_ (i := 20) (N := some 44) (v := ?_) (a' := ?_) #[true, true, true, true, true, true, true, true, true, true, true, true, true, true, true, false, false, true, true, true, true, false, false, false] rfl rfl (take_ofW HT_.out HW_.out kR) (fun _ _ _ h => h) (Or.inl ⟨by rfl, ?_⟩) hHeld ?_ ?_
         rotate_left
         ·rintro w' ⟨s0, s1, s2, s3, s4, s5⟩
          go_simp
          with_reducible rfl
         rotate_left
         ·simp only [Act.put, sI, sZ, sS, i64_w, i32_w]
          rfl
         refine pure_ (i := 21) (N := some 45) (v := ?_) (a' := ?_) #[true, true, true, true, true, true, true, true, true, true, true, true, true, true, true, false, false, true, true, true, true, true, false, false] rfl rfl (any_of HT_.out kR) (fun _ _ _ h => h) (Or.inl ⟨by rfl, ?_⟩) ?_ ?_
         rotate_left
         ·intro w'
          go_simp
          with_reducible rfl
         rotate_left
         ·simp only [Act.put, sI, sZ, sS, i64_w, i32_w]
          rfl
         refine one_ (i := 15) (N := some 39) #[true, true, true, true, true, true, true, true, true, true, true, true, true, true, true, true, false, true, true, true, true, true, false, false] rfl rfl (one_of HT_.out kR) (by decide) (fun K hK => ?_)
         refine goes_ Try.func138 kR rfl #[.agg #[.int .i64 ((rd_impl_Peg l0 x11_1).f0), .int .i64 ((rd_impl_Peg l0 x11_1).f1)], .agg #[.int .i64 t292, .int .i64 t293], .agg #[.int .i64 a1_0, .int .i64 a1_1]] (by rfl) rfl rfl sQ ?_
         with_reducible refine (impl_turn.calls ((rd_impl_Peg l0 x11_1).f0) ((rd_impl_Peg l0 x11_1).f1) t292 t293 a1_0 a1_1 t296 _ A22.out).mono ?_
         rintro e w49 ⟨rfl, hb⟩
         refine ⟨_, rfl, ?_⟩
         have n0_ := aM (blk_below (g := gb289) (o := .cells #[.int .i64 a1_0, .int .i64 a1_1] 34 (0, 0)) (gQ BK289) hb)
         have n1_ := aM (blk_below (g := gb291) (o := .cells #[.int .i64 ((rd_impl_Peg l0 x11_1).f0), .int .i64 ((rd_impl_Peg l0 x11_1).f1)] 34 (0, 0)) (gQ BK291) hb)
         have n2_ := aM (blk_below (g := gb294) (o := .cells #[.int .i64 t292, .int .i64 t293] 34 (0, 0)) (gQ BK294) hb)
         have n3_ := aM (pT (by repeat (first | (with_reducible first | exact HB.out | apply pA | apply pN | apply pD | refine pS ?_ GE289.out | refine pS ?_ GE291.out | refine pS ?_ GE294.out) | exact HB.out)) hb)
         clear BK289
         clear BK291
         clear BK294
         clear HB
         have BK289 := n0_
         have BK291 := n1_
         have BK294 := n2_
         have HB := n3_
         clear n0_ n1_ n2_ n3_
         (try clear hb)
         (try clear hb2)
         (try clear hk)
         (try clear hi)
         refine hK.out _ _ ⟨(kC BK291.out 0).trans rfl, (kC BK291.out 1).trans rfl, (kC BK289.out 0).trans rfl, (kC BK289.out 1).trans rfl, (kC BK294.out 0).trans rfl, (kC BK294.out 1).trans rfl⟩ (fun hHeld => ?_)
         clear hK K
         refine norm_ (a' := ?_) ?_ ?_
         rotate_left
         ·show Act.put _ (some 39) _ = _
          simp only [Act.put, sI, sZ, sS, i64_w, i32_w]
          rfl
         refine pure_ (i := 16) (N := some 40) (v := ?_) (a' := ?_) #[true, true, true, true, true, true, true, true, true, true, true, true, true, true, true, true, true, true, true, true, true, true, false, false] rfl rfl (any_of HT_.out kR) (fun _ _ _ h => h) (Or.inl ⟨by rfl, ?_⟩) ?_ ?_
         rotate_left
         ·intro w'
          go_simp
          with_reducible rfl
         rotate_left
         ·simp only [Act.put, sI, sZ, sS, i64_w, i32_w]
          rfl
         refine pure_ (i := 22) (N := some 46) (v := ?_) (a' := ?_) #[true, true, true, true, true, true, true, true, true, true, true, true, true, true, true, true, true, true, true, true, true, true, true, false] rfl rfl (any_of HT_.out kR) (fun _ _ _ h => h) (Or.inl ⟨by rfl, ?_⟩) ?_ ?_
         rotate_left
         ·intro w'
          go_simp
          with_reducible rfl
         rotate_left
         ·simp only [Act.put, sI, sZ, sS, i64_w, i32_w]
          rfl
         refine pure_ (i := 23) (N := some 47) (v := ?_) (a' := ?_) #[true, true, true, true, true, true, true, true, true, true, true, true, true, true, true, true, true, true, true, true, true, true, true, true] rfl rfl (any_of HT_.out kR) (fun _ _ _ h => h) (Or.inl ⟨by rfl, ?_⟩) ?_ ?_
         rotate_left
         ·intro w'
          go_simp
          with_reducible rfl
         rotate_left
         ·simp only [Act.put, sI, sZ, sS, i64_w, i32_w]
          rfl
         refine done_ (done_of HT_.out kR) ?_
         try go_wp2
         go_roundg k1
         case measure => have := HK1.out; omega
         case rel => exact ⟨(x5_1), (wrap64 (x11_1 + 1)), eQ, eQ, H', ⟨by have := HK1.out; omega⟩, ⟨by (with_reducible repeat (first | refine kN ?_ _ | refine kD ?_ | refine kA ?_ _)); exact BK289.out⟩, ⟨by repeat (first | (with_reducible first | exact HB.out | apply pA | apply pN | apply pD | refine pS ?_ GE289.out | refine pS ?_ GE291.out | refine pS ?_ GE294.out) | exact HB.out)⟩⟩
       ·rw [if_neg c21] at H
        have c21b0 : ((decide (((rd_impl_Peg l0 x11_1).f1) > a1_1)) != (decide (t293 > a1_1))) = false := by simpa using c21
        (try (have c21b1 : decide ((decide (((rd_impl_Peg l0 x11_1).f1) > a1_1)) = (decide (t293 > a1_1))) = true := by simpa using c21))
        (try (have c21b2 : ((decide (((rd_impl_Peg l0 x11_1).f1) > a1_1)) == (decide (t293 > a1_1))) = true := by simpa using c21))
        clear c21
        have H' := aM H
        clear H
        have p290 : 0 ≤ (x11_1 : Int) := dT aQ
        have q290 : x11_1 < (l0.length : Int) := dT aQ
        obtain ⟨ad290, e290, hx290_0, hx290_1⟩ := at_impl_Peg HR0.out x11_1 p290 q290
        cases e290
        replace hx290_0 := (HB.out.cell (wB w _ hx290_0)).trans hx290_0
        replace hx290_1 := (HB.out.cell (wB w _ hx290_1)).trans hx290_1
        replace p290 := eq_true p290
        replace q290 := eq_true q290
        try go_wp2_with (first | ((with_reducible refine gate_dst (N := 7) rfl ?_); refine box_event ?hg (N := 7) ?hd (cs := #[.int .i64 0, .int .i64 0]) (t := 34) ?hr ?_; (case hd => rfl); (case hg => rfl); (case hr => first | (go_simp; done) | (go_simp; rfl)); intro gb291 hg w50 hbox hb; have n0_ := aM (blk_below (g := gb289) (o := .cells #[.int .i64 a1_0, .int .i64 a1_1] 34 (0, 0)) (gQ BK289) hb); have n1_ := aM (pT (by repeat (first | (with_reducible first | exact HB.out | apply pA | apply pN | apply pD | refine pS ?_ GE289.out) | exact HB.out)) hb); have n2_ := aM (hbox); have n3_ := aM ((by rw [hg]; exact (pZ (by repeat (first | (with_reducible first | exact HB.out | apply pA | apply pN | apply pD | refine pS ?_ GE289.out) | exact HB.out))) : w.heap.size ≤ gb291)); have n4_ := aM ((by rw [hg]; exact (pZ (by repeat (first | (with_reducible first | exact HB.out | apply pA | apply pN | apply pD | refine pS ?_ GE289.out) | exact HB.out))) : w.heap.size ≤ gb291)); have n5_ := aM ((by rw [hg]; exact nN (blk_lt (g := gb289) (o := .cells #[.int .i64 a1_0, .int .i64 a1_1] 34 (0, 0)) (gQ BK289)) : gb289 ≠ gb291)); have n6_ := aM ((by rw [hg]; exact Nat.ne_of_gt (blk_lt (g := gb289) (o := .cells #[.int .i64 a1_0, .int .i64 a1_1] 34 (0, 0)) (gQ BK289)) : gb291 ≠ gb289)); clear BK289; clear HB; have BK289 := n0_; have HB := n1_; have BK291 := n2_; have GW291 := n3_; have GE291 := n4_; have NB289_291 := n5_; have NB291_289 := n6_; clear n0_ n1_ n2_ n3_ n4_ n5_ n6_; clear hb hbox hg; have hnb51 := NB291_289.out; have hnc51 := NB289_291.out; have hcz52_0 : w50.cell? ⟨gb291, 0, none⟩ = some (.int .i64 0) := (kC BK291.out 0).trans rfl; have hcz52_1 : w50.cell? ⟨gb291, 1, none⟩ = some (.int .i64 0) := (kC BK291.out 1).trans rfl; have hfz52_0 := kF BK291.out 0; have hfz52_1 := kF BK291.out 1) | ((with_reducible refine gC (f := 97) rfl ?_); refine goesL_ (some 19) rfl rfl Try.func97 kR rfl #[.slice (some ad290) l0.length c0, .int .i64 (wrap64 (x11_1 + 1))] rfl sQ ?_; (with_reducible refine (impl_at.calls _ _ l0 (wrap64 (x11_1 + 1)) t292 t293 _ ?side1 ?side2 A7.out).mono ?_); (case side1 => exact Kd.C_below HR0.out (by repeat (first | (with_reducible first | exact HB.out | apply pA | apply pN | apply pD | refine pS ?_ GE289.out | refine pS ?_ GE291.out) | exact HB.out))); (case side2 => exact HC0.out); rintro e w53 ⟨rfl, hb⟩; refine ⟨_, rfl, ?_⟩; have n0_ := aM (blk_below (g := gb289) (o := .cells #[.int .i64 a1_0, .int .i64 a1_1] 34 (0, 0)) (by (with_reducible repeat (first | refine kN ?_ _ | refine kD ?_ | refine kA ?_ _)); refine blk_far ?_ NB289_291.out _; (with_reducible repeat (first | refine kN ?_ _ | refine kD ?_ | refine kA ?_ _)); refine blk_far ?_ NB289_291.out _; (with_reducible repeat (first | refine kN ?_ _ | refine kD ?_ | refine kA ?_ _)); exact BK289.out) hb); have n1_ := aM (blk_below (g := gb291) (o := .cells #[.int .i64 ((rd_impl_Peg l0 x11_1).f0), .int .i64 ((rd_impl_Peg l0 x11_1).f1)] 34 (0, 0)) (by (with_reducible repeat (first | refine kN ?_ _ | refine kD ?_ | refine kA ?_ _)); refine blk_put (cs := #[.int .i64 ((rd_impl_Peg l0 x11_1).f0), .int .i64 0]) ?_ 1 _ rfl; (with_reducible repeat (first | refine kN ?_ _ | refine kD ?_ | refine kA ?_ _)); refine blk_put (cs := #[.int .i64 0, .int .i64 0]) ?_ 0 _ rfl; (with_reducible repeat (first | refine kN ?_ _ | refine kD ?_ | refine kA ?_ _)); exact BK291.out) hb); have n2_ := aM (pT (by repeat (first | (with_reducible first | exact HB.out | apply pA | apply pN | apply pD | refine pS ?_ GE289.out | refine pS ?_ GE291.out) | exact HB.out)) hb); clear BK289; clear BK291; clear HB; have BK289 := n0_; have BK291 := n1_; have HB := n2_; clear n0_ n1_ n2_; (try clear hb); (try clear hb2); (try clear hk); (try clear hi)) | ((with_reducible refine gate_dst (N := 8) rfl ?_); refine box_event ?hg (N := 8) ?hd (cs := #[.int .i64 0, .int .i64 0]) (t := 34) ?hr ?_; (case hd => rfl); (case hg => rfl); (case hr => first | (go_simp; done) | (go_simp; rfl)); intro gb294 hg w54 hbox hb; have n0_ := aM (blk_below (g := gb289) (o := .cells #[.int .i64 a1_0, .int .i64 a1_1] 34 (0, 0)) (gQ BK289) hb); have n1_ := aM (blk_below (g := gb291) (o := .cells #[.int .i64 ((rd_impl_Peg l0 x11_1).f0), .int .i64 ((rd_impl_Peg l0 x11_1).f1)] 34 (0, 0)) (gQ BK291) hb); have n2_ := aM (pT (by repeat (first | (with_reducible first | exact HB.out | apply pA | apply pN | apply pD | refine pS ?_ GE289.out | refine pS ?_ GE291.out) | exact HB.out)) hb); have n3_ := aM (hbox); have n4_ := aM ((by rw [hg]; exact (pZ (by repeat (first | (with_reducible first | exact HB.out | apply pA | apply pN | apply pD | refine pS ?_ GE289.out | refine pS ?_ GE291.out) | exact HB.out))) : w.heap.size ≤ gb294)); have n5_ := aM ((by rw [hg]; exact (pZ (by repeat (first | (with_reducible first | exact HB.out | apply pA | apply pN | apply pD | refine pS ?_ GE289.out | refine pS ?_ GE291.out) | exact HB.out))) : w.heap.size ≤ gb294)); have n6_ := aM ((by rw [hg]; exact nN (blk_lt (g := gb289) (o := .cells #[.int .i64 a1_0, .int .i64 a1_1] 34 (0, 0)) (gQ BK289)) : gb289 ≠ gb294)); have n7_ := aM ((by rw [hg]; exact Nat.ne_of_gt (blk_lt (g := gb289) (o := .cells #[.int .i64 a1_0, .int .i64 a1_1] 34 (0, 0)) (gQ BK289)) : gb294 ≠ gb289)); have n8_ := aM ((by rw [hg]; exact nN (blk_lt (g := gb291) (o := .cells #[.int .i64 ((rd_impl_Peg l0 x11_1).f0), .int .i64 ((rd_impl_Peg l0 x11_1).f1)] 34 (0, 0)) (gQ BK291)) : gb291 ≠ gb294)); have n9_ := aM ((by rw [hg]; exact Nat.ne_of_gt (blk_lt (g := gb291) (o := .cells #[.int .i64 ((rd_impl_Peg l0 x11_1).f0), .int .i64 ((rd_impl_Peg l0 x11_1).f1)] 34 (0, 0)) (gQ BK291)) : gb294 ≠ gb291)); clear BK289; clear BK291; clear HB; have BK289 := n0_; have BK291 := n1_; have HB := n2_; have BK294 := n3_; have GW294 := n4_; have GE294 := n5_; have NB289_294 := n6_; have NB294_289 := n7_; have NB291_294 := n8_; have NB294_291 := n9_; clear n0_ n1_ n2_ n3_ n4_ n5_ n6_ n7_ n8_ n9_; clear hb hbox hg; have hnb55 := NB294_289.out; have hnc55 := NB289_294.out; have hnb56 := NB294_291.out; have hnc56 := NB291_294.out; have hcz57_0 : w54.cell? ⟨gb294, 0, none⟩ = some (.int .i64 0) := (kC BK294.out 0).trans rfl; have hcz57_1 : w54.cell? ⟨gb294, 1, none⟩ = some (.int .i64 0) := (kC BK294.out 1).trans rfl; have hfz57_0 := kF BK294.out 0; have hfz57_1 := kF BK294.out 1; have hcz58_0 : w54.cell? ⟨gb291, 0, none⟩ = some (.int .i64 ((rd_impl_Peg l0 x11_1).f0)) := (kC BK291.out 0).trans rfl; have hcz58_1 : w54.cell? ⟨gb291, 1, none⟩ = some (.int .i64 ((rd_impl_Peg l0 x11_1).f1)) := (kC BK291.out 1).trans rfl; have hfz58_0 := kF BK291.out 0; have hfz58_1 := kF BK291.out 1; have hcz59_0 : w54.cell? ⟨gb289, 0, none⟩ = some (.int .i64 a1_0) := (kC BK289.out 0).trans rfl; have hcz59_1 : w54.cell? ⟨gb289, 1, none⟩ = some (.int .i64 a1_1) := (kC BK289.out 1).trans rfl; have hfz59_0 := kF BK289.out 0; have hfz59_1 := kF BK289.out 1) | ((with_reducible refine gC (f := 141) rfl ?_); refine goesL_ (some 23) rfl rfl Try.func141 kR rfl #[.agg #[.int .i64 ((rd_impl_Peg l0 x11_1).f0), .int .i64 ((rd_impl_Peg l0 x11_1).f1)], .agg #[.int .i64 t292, .int .i64 t293], .agg #[.int .i64 a1_0, .int .i64 a1_1]] rfl sQ ?_; (with_reducible refine (impl_isOn.calls ((rd_impl_Peg l0 x11_1).f0) ((rd_impl_Peg l0 x11_1).f1) t292 t293 a1_0 a1_1 false _ A8.out).mono ?_); rintro e w60 ⟨rfl, hb⟩; refine ⟨_, rfl, ?_⟩; have n0_ := aM (blk_below (g := gb289) (o := .cells #[.int .i64 a1_0, .int .i64 a1_1] 34 (0, 0)) (by (with_reducible repeat (first | refine kN ?_ _ | refine kD ?_ | refine kA ?_ _)); refine blk_far ?_ NB289_294.out _; (with_reducible repeat (first | refine kN ?_ _ | refine kD ?_ | refine kA ?_ _)); refine blk_far ?_ NB289_294.out _; (with_reducible repeat (first | refine kN ?_ _ | refine kD ?_ | refine kA ?_ _)); exact BK289.out) hb); have n1_ := aM (blk_below (g := gb291) (o := .cells #[.int .i64 ((rd_impl_Peg l0 x11_1).f0), .int .i64 ((rd_impl_Peg l0 x11_1).f1)] 34 (0, 0)) (by (with_reducible repeat (first | refine kN ?_ _ | refine kD ?_ | refine kA ?_ _)); refine blk_far ?_ NB291_294.out _; (with_reducible repeat (first | refine kN ?_ _ | refine kD ?_ | refine kA ?_ _)); refine blk_far ?_ NB291_294.out _; (with_reducible repeat (first | refine kN ?_ _ | refine kD ?_ | refine kA ?_ _)); exact BK291.out) hb); have n2_ := aM (blk_below (g := gb294) (o := .cells #[.int .i64 t292, .int .i64 t293] 34 (0, 0)) (by (with_reducible repeat (first | refine kN ?_ _ | refine kD ?_ | refine kA ?_ _)); refine blk_put (cs := #[.int .i64 t292, .int .i64 0]) ?_ 1 _ rfl; (with_reducible repeat (first | refine kN ?_ _ | refine kD ?_ | refine kA ?_ _)); refine blk_put (cs := #[.int .i64 0, .int .i64 0]) ?_ 0 _ rfl; (with_reducible repeat (first | refine kN ?_ _ | refine kD ?_ | refine kA ?_ _)); exact BK294.out) hb); have n3_ := aM (pT (by repeat (first | (with_reducible first | exact HB.out | apply pA | apply pN | apply pD | refine pS ?_ GE289.out | refine pS ?_ GE291.out | refine pS ?_ GE294.out) | exact HB.out)) hb); clear BK289; clear BK291; clear BK294; clear HB; have BK289 := n0_; have BK291 := n1_; have BK294 := n2_; have HB := n3_; clear n0_ n1_ n2_ n3_; (try clear hb); (try clear hb2); (try clear hk); (try clear hi)))
        have n0_ := aM (kD BK289.out)
        have n1_ := aM (kD BK291.out)
        have n2_ := aM (kD BK294.out)
        have n3_ := aM (pD HB.out)
        clear BK289
        clear BK291
        clear BK294
        clear HB
        have BK289 := n0_
        have BK291 := n1_
        have BK294 := n2_
        have HB := n3_
        clear n0_ n1_ n2_ n3_
        refine start_ (n := 24) (S := fun w' => w'.cell? ⟨gb291, 0, none⟩ = some (.int .i64 ((rd_impl_Peg l0 x11_1).f0)) ∧ w'.cell? ⟨gb291, 1, none⟩ = some (.int .i64 ((rd_impl_Peg l0 x11_1).f1)) ∧ w'.cell? ⟨gb289, 0, none⟩ = some (.int .i64 a1_0) ∧ w'.cell? ⟨gb289, 1, none⟩ = some (.int .i64 a1_1) ∧ w'.cell? ⟨gb294, 0, none⟩ = some (.int .i64 t292) ∧ w'.cell? ⟨gb294, 1, none⟩ = some (.int .i64 t293)) (ds := []) #[false, false, false, false, false, false, false, false, false, false, false, false, false, false, false, false, false, false, false, false, false, false, false, false] kR rfl rfl ⟨(kC BK291.out 0).trans rfl, (kC BK291.out 1).trans rfl, (kC BK289.out 0).trans rfl, (kC BK289.out 1).trans rfl, (kC BK294.out 0).trans rfl, (kC BK294.out 1).trans rfl⟩ (fun hHeld => ?_); refine with_tabW impl_where.tab8 impl_where.bits8 (fun HT_ HW_ => ?_)
        generalize w60.drew = w61 at BK289 BK291 BK294 HB hHeld ⊢
        refine pure_ (i := 0) (N := some 24) (v := ?_) (a' := ?_) #[true, false, false, false, false, false, false, false, false, false, false, false, false, false, false, false, false, false, false, false, false, false, false, false] rfl rfl (any_of HT_.out kR) (fun _ _ _ h => h) (Or.inl ⟨by rfl, ?_⟩) ?_ ?_
        rotate_left
        ·intro w'
         go_simp
         with_reducible rfl
        rotate_left
        ·simp only [Act.put, sI, sZ, sS, i64_w, i32_w]
         rfl
        refine pure_ (i := 2) (N := some 26) (v := ?_) (a' := ?_) #[true, false, true, false, false, false, false, false, false, false, false, false, false, false, false, false, false, false, false, false, false, false, false, false] rfl rfl (any_of HT_.out kR) (fun _ _ _ h => h) (Or.inl ⟨by rfl, ?_⟩) ?_ ?_
        rotate_left
        ·intro w'
         go_simp
         with_reducible rfl
        rotate_left
        ·simp only [Act.put, sI, sZ, sS, i64_w, i32_w]
         rfl
        refine pure_ (i := 5) (N := some 29) (v := ?_) (a' := ?_) #[true, false, true, false, false, true, false, false, false, false, false, false, false, false, false, false, false, false, false, false, false, false, false, false] rfl rfl (any_of HT_.out kR) (fun _ _ _ h => h) (Or.inl ⟨by rfl, ?_⟩) ?_ ?_
        rotate_left
        ·intro w'
         go_simp
         with_reducible rfl
        rotate_left
        ·simp only [Act.put, sI, sZ, sS, i64_w, i32_w]
         rfl
        refine pure_ (i := 7) (N := some 31) (v := ?_) (a' := ?_) #[true, false, true, false, false, true, false, true, false, false, false, false, false, false, false, false, false, false, false, false, false, false, false, false] rfl rfl (any_of HT_.out kR) (fun _ _ _ h => h) (Or.inl ⟨by rfl, ?_⟩) ?_ ?_
        rotate_left
        ·intro w'
         go_simp
         with_reducible rfl
        rotate_left
        ·simp only [Act.put, sI, sZ, sS, i64_w, i32_w]
         rfl
        refine take_ (i := 1) (N := some 25) (v := ?_) (a' := ?_) #[true, true, true, false, false, true, false, true, false, false, false, false, false, false, false, false, false, false, false, false, false, false, false, false] rfl rfl (take_ofW HT_.out HW_.out kR) (fun _ _ _ h => h) (Or.inl ⟨by rfl, ?_⟩) hHeld ?_ ?_
        rotate_left
        ·rintro w' ⟨s0, s1, s2, s3, s4, s5⟩
         go_simp
         with_reducible rfl
        rotate_left
        ·simp only [Act.put, sI, sZ, sS, i64_w, i32_w]
         rfl
        refine take_ (i := 3) (N := some 27) (v := ?_) (a' := ?_) #[true, true, true, true, false, true, false, true, false, false, false, false, false, false, false, false, false, false, false, false, false, false, false, false] rfl rfl (take_ofW HT_.out HW_.out kR) (fun _ _ _ h => h) (Or.inl ⟨by rfl, ?_⟩) hHeld ?_ ?_
        rotate_left
        ·rintro w' ⟨s0, s1, s2, s3, s4, s5⟩
         go_simp
         with_reducible rfl
        rotate_left
        ·simp only [Act.put, sI, sZ, sS, i64_w, i32_w]
         rfl
        refine pure_ (i := 4) (N := some 28) (v := ?_) (a' := ?_) #[true, true, true, true, true, true, false, true, false, false, false, false, false, false, false, false, false, false, false, false, false, false, false, false] rfl rfl (any_of HT_.out kR) (fun _ _ _ h => h) (Or.inl ⟨by rfl, ?_⟩) ?_ ?_
        rotate_left
        ·intro w'
         go_simp
         with_reducible rfl
        rotate_left
        ·simp only [Act.put, sI, sZ, sS, i64_w, i32_w]
         rfl
        refine take_ (i := 6) (N := some 30) (v := ?_) (a' := ?_) #[true, true, true, true, true, true, true, true, false, false, false, false, false, false, false, false, false, false, false, false, false, false, false, false] rfl rfl (take_ofW HT_.out HW_.out kR) (fun _ _ _ h => h) (Or.inl ⟨by rfl, ?_⟩) hHeld ?_ ?_
        rotate_left
        ·rintro w' ⟨s0, s1, s2, s3, s4, s5⟩
         go_simp
         with_reducible rfl
        rotate_left
        ·simp only [Act.put, sI, sZ, sS, i64_w, i32_w]
         rfl
        refine take_ (i := 8) (N := some 32) (v := ?_) (a' := ?_) #[true, true, true, true, true, true, true, true, true, false, false, false, false, false, false, false, false, false, false, false, false, false, false, false] rfl rfl (take_ofW HT_.out HW_.out kR) (fun _ _ _ h => h) (Or.inl ⟨by rfl, ?_⟩) hHeld ?_ ?_
        rotate_left
        ·rintro w' ⟨s0, s1, s2, s3, s4, s5⟩
         go_simp
         with_reducible rfl
        rotate_left
        ·simp only [Act.put, sI, sZ, sS, i64_w, i32_w]
         rfl
        refine pure_ (i := 9) (N := some 33) (v := ?_) (a' := ?_) #[true, true, true, true, true, true, true, true, true, true, false, false, false, false, false, false, false, false, false, false, false, false, false, false] rfl rfl (any_of HT_.out kR) (fun _ _ _ h => h) (Or.inl ⟨by rfl, ?_⟩) ?_ ?_
        rotate_left
        ·intro w'
         go_simp
         with_reducible rfl
        rotate_left
        ·simp only [Act.put, sI, sZ, sS, i64_w, i32_w]
         rfl
        refine pure_ (i := 10) (N := some 34) (v := ?_) (a' := ?_) #[true, true, true, true, true, true, true, true, true, true, true, false, false, false, false, false, false, false, false, false, false, false, false, false] rfl rfl (any_of HT_.out kR) (fun _ _ _ h => h) (Or.inl ⟨by rfl, ?_⟩) ?_ ?_
        rotate_left
        ·intro w'
         go_simp
         with_reducible rfl
        rotate_left
        ·simp only [Act.put, sI, sZ, sS, i64_w, i32_w]
         rfl
        refine pure_ (i := 11) (N := some 35) (v := ?_) (a' := ?_) #[true, true, true, true, true, true, true, true, true, true, true, true, false, false, false, false, false, false, false, false, false, false, false, false] rfl rfl (any_of HT_.out kR) (fun _ _ _ h => h) (Or.inl ⟨by rfl, ?_⟩) ?_ ?_
        rotate_left
        ·intro w'
         go_simp
         with_reducible rfl
        rotate_left
        ·simp only [Act.put, sI, sZ, sS, i64_w, i32_w]
         rfl
        refine pure_ (i := 12) (N := some 36) (v := undef) (a' := ?_) #[true, true, true, true, true, true, true, true, true, true, true, true, true, false, false, false, false, false, false, false, false, false, false, false] rfl rfl (any_of HT_.out kR) (fun _ _ _ h => h) (Or.inr ⟨by rfl, rfl⟩) ?_ ?_
        rotate_left
        ·simp only [Act.put, sI, sZ, sS, i64_w, i32_w]
         rfl
        refine pure_ (i := 13) (N := some 37) (v := undef) (a' := ?_) #[true, true, true, true, true, true, true, true, true, true, true, true, true, true, false, false, false, false, false, false, false, false, false, false] rfl rfl (any_of HT_.out kR) (fun _ _ _ h => h) (Or.inr ⟨by rfl, rfl⟩) ?_ ?_
        rotate_left
        ·simp only [Act.put, sI, sZ, sS, i64_w, i32_w]
         rfl
        refine pure_ (i := 14) (N := some 38) (v := undef) (a' := ?_) #[true, true, true, true, true, true, true, true, true, true, true, true, true, true, true, false, false, false, false, false, false, false, false, false] rfl rfl (any_of HT_.out kR) (fun _ _ _ h => h) (Or.inr ⟨by rfl, rfl⟩) ?_ ?_
        rotate_left
        ·simp only [Act.put, sI, sZ, sS, i64_w, i32_w]
         rfl
        refine pure_ (i := 15) (N := some 39) (v := undef) (a' := ?_) #[true, true, true, true, true, true, true, true, true, true, true, true, true, true, true, true, false, false, false, false, false, false, false, false] rfl rfl (any_of HT_.out kR) (fun _ _ _ h => h) (Or.inr ⟨by rfl, rfl⟩) ?_ ?_
        rotate_left
        ·simp only [Act.put, sI, sZ, sS, i64_w, i32_w]
         rfl
        refine pure_ (i := 16) (N := some 40) (v := undef) (a' := ?_) #[true, true, true, true, true, true, true, true, true, true, true, true, true, true, true, true, true, false, false, false, false, false, false, false] rfl rfl (any_of HT_.out kR) (fun _ _ _ h => h) (Or.inr ⟨by rfl, rfl⟩) ?_ ?_
        rotate_left
        ·simp only [Act.put, sI, sZ, sS, i64_w, i32_w]
         rfl
        refine pure_ (i := 17) (N := some 41) (v := undef) (a' := ?_) #[true, true, true, true, true, true, true, true, true, true, true, true, true, true, true, true, true, true, false, false, false, false, false, false] rfl rfl (any_of HT_.out kR) (fun _ _ _ h => h) (Or.inr ⟨by rfl, rfl⟩) ?_ ?_
        rotate_left
        ·simp only [Act.put, sI, sZ, sS, i64_w, i32_w]
         rfl
        refine pure_ (i := 18) (N := some 42) (v := undef) (a' := ?_) #[true, true, true, true, true, true, true, true, true, true, true, true, true, true, true, true, true, true, true, false, false, false, false, false] rfl rfl (any_of HT_.out kR) (fun _ _ _ h => h) (Or.inr ⟨by rfl, rfl⟩) ?_ ?_
        rotate_left
        ·simp only [Act.put, sI, sZ, sS, i64_w, i32_w]
         rfl
        refine pure_ (i := 19) (N := some 43) (v := undef) (a' := ?_) #[true, true, true, true, true, true, true, true, true, true, true, true, true, true, true, true, true, true, true, true, false, false, false, false] rfl rfl (any_of HT_.out kR) (fun _ _ _ h => h) (Or.inr ⟨by rfl, rfl⟩) ?_ ?_
        rotate_left
        ·simp only [Act.put, sI, sZ, sS, i64_w, i32_w]
         rfl
        refine pure_ (i := 20) (N := some 44) (v := undef) (a' := ?_) #[true, true, true, true, true, true, true, true, true, true, true, true, true, true, true, true, true, true, true, true, true, false, false, false] rfl rfl (any_of HT_.out kR) (fun _ _ _ h => h) (Or.inr ⟨by rfl, rfl⟩) ?_ ?_
        rotate_left
        ·simp only [Act.put, sI, sZ, sS, i64_w, i32_w]
         rfl
        refine pure_ (i := 21) (N := some 45) (v := undef) (a' := ?_) #[true, true, true, true, true, true, true, true, true, true, true, true, true, true, true, true, true, true, true, true, true, true, false, false] rfl rfl (any_of HT_.out kR) (fun _ _ _ h => h) (Or.inr ⟨by rfl, rfl⟩) ?_ ?_
        rotate_left
        ·simp only [Act.put, sI, sZ, sS, i64_w, i32_w]
         rfl
        refine pure_ (i := 22) (N := some 46) (v := undef) (a' := ?_) #[true, true, true, true, true, true, true, true, true, true, true, true, true, true, true, true, true, true, true, true, true, true, true, false] rfl rfl (any_of HT_.out kR) (fun _ _ _ h => h) (Or.inr ⟨by rfl, rfl⟩) ?_ ?_
        rotate_left
        ·simp only [Act.put, sI, sZ, sS, i64_w, i32_w]
         rfl
        refine pure_ (i := 23) (N := some 47) (v := ?_) (a' := ?_) #[true, true, true, true, true, true, true, true, true, true, true, true, true, true, true, true, true, true, true, true, true, true, true, true] rfl rfl (any_of HT_.out kR) (fun _ _ _ h => h) (Or.inl ⟨by rfl, ?_⟩) ?_ ?_
        rotate_left
        ·intro w'
         go_simp
         with_reducible rfl
        rotate_left
        ·simp only [Act.put, sI, sZ, sS, i64_w, i32_w]
         rfl
        refine done_ (done_of HT_.out kR) ?_
        try go_wp2
        go_roundg k1
        case measure => have := HK1.out; omega
        case rel => exact ⟨(x5_1), (wrap64 (x11_1 + 1)), eQ, eQ, H', ⟨by have := HK1.out; omega⟩, ⟨by (with_reducible repeat (first | refine kN ?_ _ | refine kD ?_ | refine kA ?_ _)); exact BK289.out⟩, ⟨by repeat (first | (with_reducible first | exact HB.out | apply pA | apply pN | apply pD | refine pS ?_ GE289.out | refine pS ?_ GE291.out | refine pS ?_ GE294.out) | exact HB.out)⟩⟩
     ·rw [if_neg c6] at H
      exact absurd H (by simp)
    ·rw [if_neg c5] at H
     exact absurd H (by simp)
   ·rw [if_neg c4] at H
    have c4b0 : decide (x11_1 < (l0.length : Int)) = false := decide_eq_false c4
    clear c4
    obtain rfl := Option.some.inj H
    go_wp2
    go_ret
    exact ⟨by first | rfl | (simp [errW_none, errW_some] <;> rfl) | (simp [*, errW_none, errW_some] <;> rfl), by repeat (first | (with_reducible first | exact HB.out | apply pA | apply pN | apply pD | refine pS ?_ GE289.out) | exact HB.out)⟩

end Go.Proofs.Ytiacfkilmknldaa.X
