-- thin
-- short
import Derived.Test.YtnlkglbpihgcmaaXA
import Derived.Test.YtnlkglbpihgcmaaX0
import Derived.Test.YtnlkglbpihgcmaaX13
import Derived.Test.YtnlkglbpihgcmaaX30
namespace Go.Proofs.Ytnlkglbpihgcmaa.X
open Go.RowKit Go.Proofs.Ytnlkglbpihgcmaa.XW Go.Proofs.YtnlkglbpihgcmaaW.PrintWords Go.Proofs.YtnlkglbpihgcmaaW.PrintLast Go.Proofs.YtnlkglbpihgcmaaW.PrintMore
attribute [local go_sem] max2_int min2_int max_two min_two max_three min_three max_four min_four   -- for this text's walks alone
set_option linter.unusedVariables false
set_option linter.unusedSimpArgs false

def impl_BoxOfThree.f (k : Nat) (l0 : List (S_impl_Peg)) : Option (Int × Int × Int × Int × Bool) := (impl_isThree.f k l0).bind fun t553 => (if t553 = true then ((impl_box.f k l0).bind fun bt554 => (some (bt554.1, bt554.2.1, bt554.2.2.1, bt554.2.2.2, true))) else (some (0, 0, 0, 0, false)))
theorem impl_BoxOfThree.mono : ∀ a0 k, LeO (impl_BoxOfThree.f k a0) (impl_BoxOfThree.f (k + 1) a0) := by
 intro a0 k
 unfold impl_BoxOfThree.f
 repeat' first
   | (with_reducible exact impl_box.mono _ _)
   | (with_reducible exact impl_isThree.mono _ _)
   | (with_reducible exact LeO.refl _)
   | (with_reducible exact LeO.none _)
   | (with_reducible refine LeO.ite ?_ ?_)
   | (with_reducible refine LeO.bind ?_ (fun _ => ?_))
   | exact impl_box.mono _ _
   | exact impl_isThree.mono _ _
   | exact LeO.none _
   | refine LeO.ite ?_ ?_
   | refine LeO.bind ?_ (fun _ => ?_)
set_option maxHeartbeats 8000000 in
set_option maxRecDepth 100000 in
theorem impl_BoxOfThree.calls (k : Nat) (A0 : Option Addr) (c0 : Nat) (l0 : List (S_impl_Peg)) (r1 : Int) (r2 : Int) (r3 : Int) (r4 : Int) (r5 : Bool) (w : World) (hr0 : Kd.C kd_impl_Peg w A0 l0.length l0) (hc0 : l0.length ≤ c0) (h : impl_BoxOfThree.f k l0 = some (r1, r2, r3, r4, r5)) :
  Calls Try.prog 48 #[.slice A0 l0.length c0] w fun e w' => e = .returned (.tuple #[.agg #[.int .i64 r1, .int .i64 r2], .agg #[.int .i64 r3, .int .i64 r4], .bool r5]) ∧ Below w.heap.size w w' := by
 have hu62 := Try.underlying62
 have HR0 := aM hr0
 have HC0 := aM hc0
 clear hr0 hc0
 have HB := aM (Below.refl w.heap.size w)
 have H : ((impl_isThree.f k l0).bind fun t553 => (if t553 = true then ((impl_box.f k l0).bind fun bt554 => (some (bt554.1, bt554.2.1, bt554.2.2.1, bt554.2.2.2, true))) else (some (0, 0, 0, 0, false)))) = some (r1, r2, r3, r4, r5) := h
 clear h
 replace H := oB.mp H
 obtain ⟨t553, A20, H⟩ := H
 replace H : (if t553 = true then ((impl_box.f k l0).bind fun bt554 => (some (bt554.1, bt554.2.1, bt554.2.2.1, bt554.2.2.2, true))) else (some (0, 0, 0, 0, false))) = some (r1, r2, r3, r4, r5) := H
 have A2 := aM A20
 clear A20
 by_cases c3 : t553 = true
 ·subst c3
  have H1 : ((impl_box.f k l0).bind fun bt554 => (some (bt554.1, bt554.2.1, bt554.2.2.1, bt554.2.2.2, true))) = some (r1, r2, r3, r4, r5) := by rw [if_pos rfl] at H; exact H
  clear H
  have H := H1
  clear H1
  replace H := oB.mp H
  obtain ⟨⟨t554, t555, t556, t557⟩, A40, H⟩ := H
  replace H : (some (t554, t555, t556, t557, true)) = some (r1, r2, r3, r4, r5) := H
  have A4 := aM A40
  clear A40
  simp only [Option.some.injEq, Prod.mk.injEq] at H
  obtain ⟨rfl, rfl, rfl, rfl, rfl⟩ := H
  go_enter Try.func48, Try.ntmps48
  try go_wp2_with (first | ((with_reducible refine gate_dst (N := 2) rfl ?_); refine box_event ?hg (N := 2) ?hd (cs := #[.int .i64 0, .int .i64 0]) (t := 62) ?hr ?_; (case hd => rfl); (case hg => rfl); (case hr => first | (go_simp; done) | (go_simp; rfl)); intro gb551 hg w5 hbox hb; have n0_ := aM (pT (by repeat (first | (with_reducible first | exact HB.out | apply pA | apply pN | apply pD) | exact HB.out)) hb); have n1_ := aM (hbox); have n2_ := aM ((by rw [hg]; exact (pZ (by repeat (first | (with_reducible first | exact HB.out | apply pA | apply pN | apply pD) | exact HB.out))) : w.heap.size ≤ gb551)); have n3_ := aM ((by rw [hg]; exact (pZ (by repeat (first | (with_reducible first | exact HB.out | apply pA | apply pN | apply pD) | exact HB.out))) : w.heap.size ≤ gb551)); clear HB; have HB := n0_; have BK551 := n1_; have GW551 := n2_; have GE551 := n3_; clear n0_ n1_ n2_ n3_; clear hb hbox hg) | ((with_reducible refine gate_dst (N := 3) rfl ?_); refine box_event ?hg (N := 3) ?hd (cs := #[.int .i64 0, .int .i64 0]) (t := 62) ?hr ?_; (case hd => rfl); (case hg => rfl); (case hr => first | (go_simp; done) | (go_simp; rfl)); intro gb552 hg w6 hbox hb; have n0_ := aM (blk_below (g := gb551) (o := .cells #[.int .i64 0, .int .i64 0] 62 (0, 0)) (by (with_reducible repeat (first | refine kN ?_ _ | refine kD ?_ | refine kA ?_ _)); exact BK551.out) hb); have n1_ := aM (pT (by repeat (first | (with_reducible first | exact HB.out | apply pA | apply pN | apply pD | refine pS ?_ GE551.out) | exact HB.out)) hb); have n2_ := aM (hbox); have n3_ := aM ((by rw [hg]; exact (pZ (by repeat (first | (with_reducible first | exact HB.out | apply pA | apply pN | apply pD | refine pS ?_ GE551.out) | exact HB.out))) : w.heap.size ≤ gb552)); have n4_ := aM ((by rw [hg]; exact (pZ (by repeat (first | (with_reducible first | exact HB.out | apply pA | apply pN | apply pD | refine pS ?_ GE551.out) | exact HB.out))) : w.heap.size ≤ gb552)); have n5_ := aM ((by rw [hg]; exact nN (blk_lt (g := gb551) (o := .cells #[.int .i64 0, .int .i64 0] 62 (0, 0)) (by (with_reducible repeat (first | refine kN ?_ _ | refine kD ?_ | refine kA ?_ _)); exact BK551.out)) : gb551 ≠ gb552)); have n6_ := aM ((by rw [hg]; exact Nat.ne_of_gt (blk_lt (g := gb551) (o := .cells #[.int .i64 0, .int .i64 0] 62 (0, 0)) (by (with_reducible repeat (first | refine kN ?_ _ | refine kD ?_ | refine kA ?_ _)); exact BK551.out)) : gb552 ≠ gb551)); clear BK551; clear HB; have BK551 := n0_; have HB := n1_; have BK552 := n2_; have GW552 := n3_; have GE552 := n4_; have NB551_552 := n5_; have NB552_551 := n6_; clear n0_ n1_ n2_ n3_ n4_ n5_ n6_; clear hb hbox hg) | ((with_reducible refine gC (f := 64) rfl ?_); refine goesL_ (some 8) rfl rfl Try.func64 (by kernel_rfl) rfl #[.slice A0 l0.length c0] rfl (by (try simp only [mA, mC, mN]); first | done | rfl | (simp only [lD, lT]; rfl)) ?_; (with_reducible refine (impl_isThree.calls k _ _ l0 true _ ?side1 ?side2 A2.out).mono ?_); (case side1 => repeat (first | exact (Kd.C_below HR0.out HB.out) | (with_reducible refine cA ?_ _) | (with_reducible refine cN ?_ _) | (with_reducible refine cD ?_))); (case side2 => exact HC0.out); rintro e w7 ⟨rfl, hb⟩; refine ⟨_, rfl, ?_⟩; have n0_ := aM (blk_below (g := gb551) (o := .cells #[.int .i64 0, .int .i64 0] 62 (0, 0)) (by (with_reducible repeat (first | refine kN ?_ _ | refine kD ?_ | refine kA ?_ _)); exact BK551.out) hb); have n1_ := aM (blk_below (g := gb552) (o := .cells #[.int .i64 0, .int .i64 0] 62 (0, 0)) (by (with_reducible repeat (first | refine kN ?_ _ | refine kD ?_ | refine kA ?_ _)); exact BK552.out) hb); have n2_ := aM (pT (by repeat (first | (with_reducible first | exact HB.out | apply pA | apply pN | apply pD | refine pS ?_ GE551.out | refine pS ?_ GE552.out) | exact HB.out)) hb); clear BK551; clear BK552; clear HB; have BK551 := n0_; have BK552 := n1_; have HB := n2_; clear n0_ n1_ n2_; (try clear hb); (try clear hb2); (try clear hk); (try clear hi)) | ((with_reducible refine gC (f := 86) rfl ?_); refine goesL_ (some 14) rfl rfl Try.func86 (by kernel_rfl) rfl #[.slice A0 l0.length c0] rfl (by (try simp only [mA, mC, mN]); first | done | rfl | (simp only [lD, lT]; rfl)) ?_; (with_reducible refine (impl_box.calls k _ _ l0 t554 t555 t556 t557 _ ?side1 ?side2 A4.out).mono ?_); (case side1 => repeat (first | exact (Kd.C_below HR0.out HB.out) | (with_reducible refine cA ?_ _) | (with_reducible refine cN ?_ _) | (with_reducible refine cD ?_))); (case side2 => exact HC0.out); rintro e w8 ⟨rfl, hb⟩; refine ⟨_, rfl, ?_⟩; have n0_ := aM (blk_below (g := gb551) (o := .cells #[.int .i64 0, .int .i64 0] 62 (0, 0)) (by (with_reducible repeat (first | refine kN ?_ _ | refine kD ?_ | refine kA ?_ _)); exact BK551.out) hb); have n1_ := aM (blk_below (g := gb552) (o := .cells #[.int .i64 0, .int .i64 0] 62 (0, 0)) (by (with_reducible repeat (first | refine kN ?_ _ | refine kD ?_ | refine kA ?_ _)); exact BK552.out) hb); have n2_ := aM (pT (by repeat (first | (with_reducible first | exact HB.out | apply pA | apply pN | apply pD | refine pS ?_ GE551.out | refine pS ?_ GE552.out) | exact HB.out)) hb); clear BK551; clear BK552; clear HB; have BK551 := n0_; have BK552 := n1_; have HB := n2_; clear n0_ n1_ n2_; (try clear hb); (try clear hb2); (try clear hk); (try clear hi)) | ((with_reducible refine gate_dst (N := 5) rfl ?_); refine box_event ?hg (N := 5) ?hd (cs := #[.int .i64 0, .int .i64 0]) (t := 62) ?hr ?_; (case hd => rfl); (case hg => rfl); (case hr => first | (go_simp; done) | (go_simp; rfl)); intro gb558 hg w9 hbox hb; have n0_ := aM (blk_below (g := gb551) (o := .cells #[.int .i64 0, .int .i64 0] 62 (0, 0)) (by (with_reducible repeat (first | refine kN ?_ _ | refine kD ?_ | refine kA ?_ _)); exact BK551.out) hb); have n1_ := aM (blk_below (g := gb552) (o := .cells #[.int .i64 0, .int .i64 0] 62 (0, 0)) (by (with_reducible repeat (first | refine kN ?_ _ | refine kD ?_ | refine kA ?_ _)); exact BK552.out) hb); have n2_ := aM (pT (by repeat (first | (with_reducible first | exact HB.out | apply pA | apply pN | apply pD | refine pS ?_ GE551.out | refine pS ?_ GE552.out) | exact HB.out)) hb); have n3_ := aM (hbox); have n4_ := aM ((by rw [hg]; exact (pZ (by repeat (first | (with_reducible first | exact HB.out | apply pA | apply pN | apply pD | refine pS ?_ GE551.out | refine pS ?_ GE552.out) | exact HB.out))) : w.heap.size ≤ gb558)); have n5_ := aM ((by rw [hg]; exact (pZ (by repeat (first | (with_reducible first | exact HB.out | apply pA | apply pN | apply pD | refine pS ?_ GE551.out | refine pS ?_ GE552.out) | exact HB.out))) : w.heap.size ≤ gb558)); have n6_ := aM ((by rw [hg]; exact nN (blk_lt (g := gb551) (o := .cells #[.int .i64 0, .int .i64 0] 62 (0, 0)) (by (with_reducible repeat (first | refine kN ?_ _ | refine kD ?_ | refine kA ?_ _)); exact BK551.out)) : gb551 ≠ gb558)); have n7_ := aM ((by rw [hg]; exact Nat.ne_of_gt (blk_lt (g := gb551) (o := .cells #[.int .i64 0, .int .i64 0] 62 (0, 0)) (by (with_reducible repeat (first | refine kN ?_ _ | refine kD ?_ | refine kA ?_ _)); exact BK551.out)) : gb558 ≠ gb551)); have n8_ := aM ((by rw [hg]; exact nN (blk_lt (g := gb552) (o := .cells #[.int .i64 0, .int .i64 0] 62 (0, 0)) (by (with_reducible repeat (first | refine kN ?_ _ | refine kD ?_ | refine kA ?_ _)); exact BK552.out)) : gb552 ≠ gb558)); have n9_ := aM ((by rw [hg]; exact Nat.ne_of_gt (blk_lt (g := gb552) (o := .cells #[.int .i64 0, .int .i64 0] 62 (0, 0)) (by (with_reducible repeat (first | refine kN ?_ _ | refine kD ?_ | refine kA ?_ _)); exact BK552.out)) : gb558 ≠ gb552)); clear BK551; clear BK552; clear HB; have BK551 := n0_; have BK552 := n1_; have HB := n2_; have BK558 := n3_; have GW558 := n4_; have GE558 := n5_; have NB551_558 := n6_; have NB558_551 := n7_; have NB552_558 := n8_; have NB558_552 := n9_; clear n0_ n1_ n2_ n3_ n4_ n5_ n6_ n7_ n8_ n9_; clear hb hbox hg) | ((with_reducible refine gate_dst (N := 6) rfl ?_); refine box_event ?hg (N := 6) ?hd (cs := #[.int .i64 0, .int .i64 0]) (t := 62) ?hr ?_; (case hd => rfl); (case hg => rfl); (case hr => first | (go_simp; done) | (go_simp; rfl)); intro gb559 hg w10 hbox hb; have n0_ := aM (blk_below (g := gb551) (o := .cells #[.int .i64 0, .int .i64 0] 62 (0, 0)) (by (with_reducible repeat (first | refine kN ?_ _ | refine kD ?_ | refine kA ?_ _)); exact BK551.out) hb); have n1_ := aM (blk_below (g := gb552) (o := .cells #[.int .i64 0, .int .i64 0] 62 (0, 0)) (by (with_reducible repeat (first | refine kN ?_ _ | refine kD ?_ | refine kA ?_ _)); exact BK552.out) hb); have n2_ := aM (blk_below (g := gb558) (o := .cells #[.int .i64 0, .int .i64 0] 62 (0, 0)) (by (with_reducible repeat (first | refine kN ?_ _ | refine kD ?_ | refine kA ?_ _)); exact BK558.out) hb); have n3_ := aM (pT (by repeat (first | (with_reducible first | exact HB.out | apply pA | apply pN | apply pD | refine pS ?_ GE551.out | refine pS ?_ GE552.out | refine pS ?_ GE558.out) | exact HB.out)) hb); have n4_ := aM (hbox); have n5_ := aM ((by rw [hg]; exact (pZ (by repeat (first | (with_reducible first | exact HB.out | apply pA | apply pN | apply pD | refine pS ?_ GE551.out | refine pS ?_ GE552.out | refine pS ?_ GE558.out) | exact HB.out))) : w.heap.size ≤ gb559)); have n6_ := aM ((by rw [hg]; exact (pZ (by repeat (first | (with_reducible first | exact HB.out | apply pA | apply pN | apply pD | refine pS ?_ GE551.out | refine pS ?_ GE552.out | refine pS ?_ GE558.out) | exact HB.out))) : w.heap.size ≤ gb559)); have n7_ := aM ((by rw [hg]; exact nN (blk_lt (g := gb551) (o := .cells #[.int .i64 0, .int .i64 0] 62 (0, 0)) (by (with_reducible repeat (first | refine kN ?_ _ | refine kD ?_ | refine kA ?_ _)); exact BK551.out)) : gb551 ≠ gb559)); have n8_ := aM ((by rw [hg]; exact Nat.ne_of_gt (blk_lt (g := gb551) (o := .cells #[.int .i64 0, .int .i64 0] 62 (0, 0)) (by (with_reducible repeat (first | refine kN ?_ _ | refine kD ?_ | refine kA ?_ _)); exact BK551.out)) : gb559 ≠ gb551)); have n9_ := aM ((by rw [hg]; exact nN (blk_lt (g := gb552) (o := .cells #[.int .i64 0, .int .i64 0] 62 (0, 0)) (by (with_reducible repeat (first | refine kN ?_ _ | refine kD ?_ | refine kA ?_ _)); exact BK552.out)) : gb552 ≠ gb559)); have n10_ := aM ((by rw [hg]; exact Nat.ne_of_gt (blk_lt (g := gb552) (o := .cells #[.int .i64 0, .int .i64 0] 62 (0, 0)) (by (with_reducible repeat (first | refine kN ?_ _ | refine kD ?_ | refine kA ?_ _)); exact BK552.out)) : gb559 ≠ gb552)); have n11_ := aM ((by rw [hg]; exact nN (blk_lt (g := gb558) (o := .cells #[.int .i64 0, .int .i64 0] 62 (0, 0)) (by (with_reducible repeat (first | refine kN ?_ _ | refine kD ?_ | refine kA ?_ _)); exact BK558.out)) : gb558 ≠ gb559)); have n12_ := aM ((by rw [hg]; exact Nat.ne_of_gt (blk_lt (g := gb558) (o := .cells #[.int .i64 0, .int .i64 0] 62 (0, 0)) (by (with_reducible repeat (first | refine kN ?_ _ | refine kD ?_ | refine kA ?_ _)); exact BK558.out)) : gb559 ≠ gb558)); clear BK551; clear BK552; clear BK558; clear HB; have BK551 := n0_; have BK552 := n1_; have BK558 := n2_; have HB := n3_; have BK559 := n4_; have GW559 := n5_; have GE559 := n6_; have NB551_559 := n7_; have NB559_551 := n8_; have NB552_559 := n9_; have NB559_552 := n10_; have NB558_559 := n11_; have NB559_558 := n12_; clear n0_ n1_ n2_ n3_ n4_ n5_ n6_ n7_ n8_ n9_ n10_ n11_ n12_; clear hb hbox hg; have hnb11 := NB558_551.out; have hnc11 := NB551_558.out; have hnb12 := NB558_552.out; have hnc12 := NB552_558.out; have hnb13 := NB558_559.out; have hnc13 := NB559_558.out; have hcz14_0 : w10.cell? ⟨gb558, 0, none⟩ = some (.int .i64 0) := (kC BK558.out 0).trans rfl; have hcz14_1 : w10.cell? ⟨gb558, 1, none⟩ = some (.int .i64 0) := (kC BK558.out 1).trans rfl; have hfz14_0 := kF BK558.out 0; have hfz14_1 := kF BK558.out 1; have hnb15 := NB559_551.out; have hnc15 := NB551_559.out; have hnb16 := NB559_552.out; have hnc16 := NB552_559.out; have hcz17_0 : w10.cell? ⟨gb559, 0, none⟩ = some (.int .i64 0) := (kC BK559.out 0).trans rfl; have hcz17_1 : w10.cell? ⟨gb559, 1, none⟩ = some (.int .i64 0) := (kC BK559.out 1).trans rfl; have hfz17_0 := kF BK559.out 0; have hfz17_1 := kF BK559.out 1))
  have n0_ : Aside0 (((((w10.setCell ⟨gb558, 0, none⟩ (.int .i64 t554)).setCell ⟨gb558, 1, none⟩ (.int .i64 t555)).setCell ⟨gb559, 0, none⟩ (.int .i64 t556)).setCell ⟨gb559, 1, none⟩ (.int .i64 t557)).heap[gb551]? = some (.cells #[.int .i64 0, .int .i64 0] 62 (0, 0))) := ⟨by (with_reducible repeat (first | refine kN ?_ _ | refine kD ?_ | refine kA ?_ _)); refine blk_far ?_ NB551_559.out _; (with_reducible repeat (first | refine kN ?_ _ | refine kD ?_ | refine kA ?_ _)); refine blk_far ?_ NB551_559.out _; (with_reducible repeat (first | refine kN ?_ _ | refine kD ?_ | refine kA ?_ _)); refine blk_far ?_ NB551_558.out _; (with_reducible repeat (first | refine kN ?_ _ | refine kD ?_ | refine kA ?_ _)); refine blk_far ?_ NB551_558.out _; (with_reducible repeat (first | refine kN ?_ _ | refine kD ?_ | refine kA ?_ _)); exact BK551.out⟩
  have n1_ : Aside0 (((((w10.setCell ⟨gb558, 0, none⟩ (.int .i64 t554)).setCell ⟨gb558, 1, none⟩ (.int .i64 t555)).setCell ⟨gb559, 0, none⟩ (.int .i64 t556)).setCell ⟨gb559, 1, none⟩ (.int .i64 t557)).heap[gb552]? = some (.cells #[.int .i64 0, .int .i64 0] 62 (0, 0))) := ⟨by (with_reducible repeat (first | refine kN ?_ _ | refine kD ?_ | refine kA ?_ _)); refine blk_far ?_ NB552_559.out _; (with_reducible repeat (first | refine kN ?_ _ | refine kD ?_ | refine kA ?_ _)); refine blk_far ?_ NB552_559.out _; (with_reducible repeat (first | refine kN ?_ _ | refine kD ?_ | refine kA ?_ _)); refine blk_far ?_ NB552_558.out _; (with_reducible repeat (first | refine kN ?_ _ | refine kD ?_ | refine kA ?_ _)); refine blk_far ?_ NB552_558.out _; (with_reducible repeat (first | refine kN ?_ _ | refine kD ?_ | refine kA ?_ _)); exact BK552.out⟩
  have n2_ : Aside0 (((((w10.setCell ⟨gb558, 0, none⟩ (.int .i64 t554)).setCell ⟨gb558, 1, none⟩ (.int .i64 t555)).setCell ⟨gb559, 0, none⟩ (.int .i64 t556)).setCell ⟨gb559, 1, none⟩ (.int .i64 t557)).heap[gb558]? = some (.cells #[.int .i64 t554, .int .i64 t555] 62 (0, 0))) := ⟨by (with_reducible repeat (first | refine kN ?_ _ | refine kD ?_ | refine kA ?_ _)); refine blk_far ?_ NB558_559.out _; (with_reducible repeat (first | refine kN ?_ _ | refine kD ?_ | refine kA ?_ _)); refine blk_far ?_ NB558_559.out _; (with_reducible repeat (first | refine kN ?_ _ | refine kD ?_ | refine kA ?_ _)); refine blk_put (cs := #[.int .i64 t554, .int .i64 0]) ?_ 1 _ rfl; (with_reducible repeat (first | refine kN ?_ _ | refine kD ?_ | refine kA ?_ _)); refine blk_put (cs := #[.int .i64 0, .int .i64 0]) ?_ 0 _ rfl; (with_reducible repeat (first | refine kN ?_ _ | refine kD ?_ | refine kA ?_ _)); exact BK558.out⟩
  have n3_ : Aside0 (((((w10.setCell ⟨gb558, 0, none⟩ (.int .i64 t554)).setCell ⟨gb558, 1, none⟩ (.int .i64 t555)).setCell ⟨gb559, 0, none⟩ (.int .i64 t556)).setCell ⟨gb559, 1, none⟩ (.int .i64 t557)).heap[gb559]? = some (.cells #[.int .i64 t556, .int .i64 t557] 62 (0, 0))) := ⟨by (with_reducible repeat (first | refine kN ?_ _ | refine kD ?_ | refine kA ?_ _)); refine blk_put (cs := #[.int .i64 t556, .int .i64 0]) ?_ 1 _ rfl; (with_reducible repeat (first | refine kN ?_ _ | refine kD ?_ | refine kA ?_ _)); refine blk_put (cs := #[.int .i64 0, .int .i64 0]) ?_ 0 _ rfl; (with_reducible repeat (first | refine kN ?_ _ | refine kD ?_ | refine kA ?_ _)); refine blk_far ?_ NB559_558.out _; (with_reducible repeat (first | refine kN ?_ _ | refine kD ?_ | refine kA ?_ _)); refine blk_far ?_ NB559_558.out _; (with_reducible repeat (first | refine kN ?_ _ | refine kD ?_ | refine kA ?_ _)); exact BK559.out⟩
  have n4_ : Aside0 (Below w.heap.size w ((((w10.setCell ⟨gb558, 0, none⟩ (.int .i64 t554)).setCell ⟨gb558, 1, none⟩ (.int .i64 t555)).setCell ⟨gb559, 0, none⟩ (.int .i64 t556)).setCell ⟨gb559, 1, none⟩ (.int .i64 t557))) := ⟨by repeat (first | (with_reducible first | exact HB.out | apply pA | apply pN | apply pD | refine pS ?_ GE551.out | refine pS ?_ GE552.out | refine pS ?_ GE558.out | refine pS ?_ GE559.out) | exact HB.out)⟩
  (try clear BK551)
  (try clear BK552)
  (try clear BK558)
  (try clear BK559)
  (try clear HB)
  generalize ((((w10.setCell ⟨gb558, 0, none⟩ (.int .i64 t554)).setCell ⟨gb558, 1, none⟩ (.int .i64 t555)).setCell ⟨gb559, 0, none⟩ (.int .i64 t556)).setCell ⟨gb559, 1, none⟩ (.int .i64 t557)) = w18 at n0_ n1_ n2_ n3_ n4_ ⊢
  have BK551 := n0_
  have BK552 := n1_
  have BK558 := n2_
  have BK559 := n3_
  have HB := n4_
  clear n0_ n1_ n2_ n3_ n4_
  have n0_ := aM (kD BK551.out)
  have n1_ := aM (kD BK552.out)
  have n2_ := aM (kD BK558.out)
  have n3_ := aM (kD BK559.out)
  have n4_ := aM (pD HB.out)
  clear BK551
  clear BK552
  clear BK558
  clear BK559
  clear HB
  have BK551 := n0_
  have BK552 := n1_
  have BK558 := n2_
  have BK559 := n3_
  have HB := n4_
  clear n0_ n1_ n2_ n3_ n4_
  refine start_ (n := 5) (S := fun w' => w'.cell? ⟨gb558, 0, none⟩ = some (.int .i64 t554) ∧ w'.cell? ⟨gb558, 1, none⟩ = some (.int .i64 t555) ∧ w'.cell? ⟨gb559, 0, none⟩ = some (.int .i64 t556) ∧ w'.cell? ⟨gb559, 1, none⟩ = some (.int .i64 t557)) (ds := []) #[false, false, false, false, false] (by kernel_rfl) rfl rfl ⟨(kC BK558.out 0).trans rfl, (kC BK558.out 1).trans rfl, (kC BK559.out 0).trans rfl, (kC BK559.out 1).trans rfl⟩ (fun hHeld => ?_)
  generalize w18.drew = w19 at BK551 BK552 BK558 BK559 HB hHeld ⊢
  refine take_ (i := 0) (N := some 17) (v := ?_) (a' := ?_) #[true, false, false, false, false] rfl rfl (by kernel_rfl) (fun _ _ _ h => h) (Or.inl ⟨by rfl, ?_⟩) hHeld ?_ ?_
  rotate_left
  ·rintro w' ⟨s0, s1, s2, s3⟩
   go_simp
   with_reducible rfl
  rotate_left
  ·simp only [Act.put, sI, sZ, sS, i64_w, i32_w]
   rfl
  refine take_ (i := 1) (N := some 18) (v := ?_) (a' := ?_) #[true, true, false, false, false] rfl rfl (by kernel_rfl) (fun _ _ _ h => h) (Or.inl ⟨by rfl, ?_⟩) hHeld ?_ ?_
  rotate_left
  ·rintro w' ⟨s0, s1, s2, s3⟩
   go_simp
   with_reducible rfl
  rotate_left
  ·simp only [Act.put, sI, sZ, sS, i64_w, i32_w]
   rfl
  refine one_ (i := 2) (N := none) #[true, true, true, false, false] rfl rfl (by kernel_rfl) (by decide) (fun K hK => ?_)
  have hs20 : w19.cell? ⟨gb551, 0, none⟩ = some (.int .i64 0) := (kC BK551.out 0).trans rfl
  have hfs20 := kF BK551.out 0
  have hns20_1 := NB552_551.out
  have hns20_2 := NB558_551.out
  have hns20_3 := NB559_551.out
  have hms20_1 := NB551_552.out
  have hms20_2 := NB551_558.out
  have hms20_3 := NB551_559.out
  have hs21 : w19.cell? ⟨gb551, 1, none⟩ = some (.int .i64 0) := (kC BK551.out 1).trans rfl
  have hfs21 := kF BK551.out 1
  have hns21_1 := NB552_551.out
  have hns21_2 := NB558_551.out
  have hns21_3 := NB559_551.out
  have hms21_1 := NB551_552.out
  have hms21_2 := NB551_558.out
  have hms21_3 := NB551_559.out
  refine skip_ (w1 := ?_) (by rfl) rfl ?_ ?_
  rotate_left
  ·go_simp
   rfl
  refine hK.out _ _ ⟨((cell_far (p := ⟨gb551, _, none⟩) NB558_551.out _).trans (((cell_far (p := ⟨gb551, _, none⟩) NB558_551.out _).trans (hHeld.1)))), ((cell_far (p := ⟨gb551, _, none⟩) NB558_551.out _).trans (((cell_far (p := ⟨gb551, _, none⟩) NB558_551.out _).trans (hHeld.2.1)))), ((cell_far (p := ⟨gb551, _, none⟩) NB559_551.out _).trans (((cell_far (p := ⟨gb551, _, none⟩) NB559_551.out _).trans (hHeld.2.2.1)))), ((cell_far (p := ⟨gb551, _, none⟩) NB559_551.out _).trans (((cell_far (p := ⟨gb551, _, none⟩) NB559_551.out _).trans (hHeld.2.2.2))))⟩ (fun hHeld => ?_)
  clear hK K
  refine one_ (i := 3) (N := none) #[true, true, true, true, false] rfl rfl (by kernel_rfl) (by decide) (fun K hK => ?_)
  have hs22 : w19.cell? ⟨gb552, 0, none⟩ = some (.int .i64 0) := (kC BK552.out 0).trans rfl
  have hfs22 := kF BK552.out 0
  have hns22_0 := NB551_552.out
  have hns22_2 := NB558_552.out
  have hns22_3 := NB559_552.out
  have hms22_0 := NB552_551.out
  have hms22_2 := NB552_558.out
  have hms22_3 := NB552_559.out
  have hs23 : w19.cell? ⟨gb552, 1, none⟩ = some (.int .i64 0) := (kC BK552.out 1).trans rfl
  have hfs23 := kF BK552.out 1
  have hns23_0 := NB551_552.out
  have hns23_2 := NB558_552.out
  have hns23_3 := NB559_552.out
  have hms23_0 := NB552_551.out
  have hms23_2 := NB552_558.out
  have hms23_3 := NB552_559.out
  refine skip_ (w1 := ?_) (by rfl) rfl ?_ ?_
  rotate_left
  ·go_simp
   rfl
  refine hK.out _ _ ⟨((cell_far (p := ⟨gb552, _, none⟩) NB558_552.out _).trans (((cell_far (p := ⟨gb552, _, none⟩) NB558_552.out _).trans (hHeld.1)))), ((cell_far (p := ⟨gb552, _, none⟩) NB558_552.out _).trans (((cell_far (p := ⟨gb552, _, none⟩) NB558_552.out _).trans (hHeld.2.1)))), ((cell_far (p := ⟨gb552, _, none⟩) NB559_552.out _).trans (((cell_far (p := ⟨gb552, _, none⟩) NB559_552.out _).trans (hHeld.2.2.1)))), ((cell_far (p := ⟨gb552, _, none⟩) NB559_552.out _).trans (((cell_far (p := ⟨gb552, _, none⟩) NB559_552.out _).trans (hHeld.2.2.2))))⟩ (fun hHeld => ?_)
  clear hK K
  refine pure_ (i := 4) (N := some 4) (v := ?_) (a' := ?_) #[true, true, true, true, true] rfl rfl (by kernel_rfl) (fun _ _ _ h => h) (Or.inl ⟨by rfl, ?_⟩) ?_ ?_
  rotate_left
  ·intro w'
   go_simp
   with_reducible rfl
  rotate_left
  ·simp only [Act.put, sI, sZ, sS, i64_w, i32_w]
   rfl
  refine done_ (by kernel_rfl) ?_
  try go_wp2
  refine bodyPost_ret (results_list (rs := [.cell 2 62, .cell 3 62, .tmp 4]) rfl (by simp) (.cell gb551 62 #[.int .i64 t554, .int .i64 t555] (0, 0) _ rfl (by (with_reducible repeat (first | refine kN ?_ _ | refine kD ?_ | refine kA ?_ _)); refine blk_far ?_ NB551_552.out _; (with_reducible repeat (first | refine kN ?_ _ | refine kD ?_ | refine kA ?_ _)); refine blk_far ?_ NB551_552.out _; (with_reducible repeat (first | refine kN ?_ _ | refine kD ?_ | refine kA ?_ _)); refine blk_put (cs := #[.int .i64 t554, .int .i64 0]) ?_ 1 _ rfl; (with_reducible repeat (first | refine kN ?_ _ | refine kD ?_ | refine kA ?_ _)); refine blk_put (cs := #[.int .i64 0, .int .i64 0]) ?_ 0 _ rfl; (with_reducible repeat (first | refine kN ?_ _ | refine kD ?_ | refine kA ?_ _)); exact BK551.out) Try.underlying62 rfl (by kernel_rfl) (.cell gb552 62 #[.int .i64 t556, .int .i64 t557] (0, 0) _ rfl (by (with_reducible repeat (first | refine kN ?_ _ | refine kD ?_ | refine kA ?_ _)); refine blk_put (cs := #[.int .i64 t556, .int .i64 0]) ?_ 1 _ rfl; (with_reducible repeat (first | refine kN ?_ _ | refine kD ?_ | refine kA ?_ _)); refine blk_put (cs := #[.int .i64 0, .int .i64 0]) ?_ 0 _ rfl; (with_reducible repeat (first | refine kN ?_ _ | refine kD ?_ | refine kA ?_ _)); refine blk_far ?_ NB552_551.out _; (with_reducible repeat (first | refine kN ?_ _ | refine kD ?_ | refine kA ?_ _)); refine blk_far ?_ NB552_551.out _; (with_reducible repeat (first | refine kN ?_ _ | refine kD ?_ | refine kA ?_ _)); exact BK552.out) Try.underlying62 rfl (by kernel_rfl) (.tmp .nil)))) rfl ?_
  exact ⟨by first | rfl | (simp [errW_none, errW_some] <;> rfl) | (simp [*, errW_none, errW_some] <;> rfl), by repeat (first | (with_reducible first | exact HB.out | apply pA | apply pN | apply pD | refine pS ?_ GE551.out | refine pS ?_ GE552.out | refine pS ?_ GE558.out | refine pS ?_ GE559.out) | exact HB.out)⟩
 ·replace c3 := Bool.eq_false_iff.mpr c3
  subst c3
  have H1 : (some (0, 0, 0, 0, false)) = some (r1, r2, r3, r4, r5) := by rw [if_neg (show ¬ (false = true) by decide)] at H; exact H
  clear H
  have H := H1
  clear H1
  simp only [Option.some.injEq, Prod.mk.injEq] at H
  obtain ⟨rfl, rfl, rfl, rfl, rfl⟩ := H
  go_enter Try.func48, Try.ntmps48
  go_wp2_with (first | ((with_reducible refine gate_dst (N := 2) rfl ?_); refine box_event ?hg (N := 2) ?hd (cs := #[.int .i64 0, .int .i64 0]) (t := 62) ?hr ?_; (case hd => rfl); (case hg => rfl); (case hr => first | (go_simp; done) | (go_simp; rfl)); intro gb551 hg w24 hbox hb; have n0_ := aM (pT (by repeat (first | (with_reducible first | exact HB.out | apply pA | apply pN | apply pD) | exact HB.out)) hb); have n1_ := aM (hbox); have n2_ := aM ((by rw [hg]; exact (pZ (by repeat (first | (with_reducible first | exact HB.out | apply pA | apply pN | apply pD) | exact HB.out))) : w.heap.size ≤ gb551)); have n3_ := aM ((by rw [hg]; exact (pZ (by repeat (first | (with_reducible first | exact HB.out | apply pA | apply pN | apply pD) | exact HB.out))) : w.heap.size ≤ gb551)); clear HB; have HB := n0_; have BK551 := n1_; have GW551 := n2_; have GE551 := n3_; clear n0_ n1_ n2_ n3_; clear hb hbox hg) | ((with_reducible refine gate_dst (N := 3) rfl ?_); refine box_event ?hg (N := 3) ?hd (cs := #[.int .i64 0, .int .i64 0]) (t := 62) ?hr ?_; (case hd => rfl); (case hg => rfl); (case hr => first | (go_simp; done) | (go_simp; rfl)); intro gb552 hg w25 hbox hb; have n0_ := aM (blk_below (g := gb551) (o := .cells #[.int .i64 0, .int .i64 0] 62 (0, 0)) (by (with_reducible repeat (first | refine kN ?_ _ | refine kD ?_ | refine kA ?_ _)); exact BK551.out) hb); have n1_ := aM (pT (by repeat (first | (with_reducible first | exact HB.out | apply pA | apply pN | apply pD | refine pS ?_ GE551.out) | exact HB.out)) hb); have n2_ := aM (hbox); have n3_ := aM ((by rw [hg]; exact (pZ (by repeat (first | (with_reducible first | exact HB.out | apply pA | apply pN | apply pD | refine pS ?_ GE551.out) | exact HB.out))) : w.heap.size ≤ gb552)); have n4_ := aM ((by rw [hg]; exact (pZ (by repeat (first | (with_reducible first | exact HB.out | apply pA | apply pN | apply pD | refine pS ?_ GE551.out) | exact HB.out))) : w.heap.size ≤ gb552)); have n5_ := aM ((by rw [hg]; exact nN (blk_lt (g := gb551) (o := .cells #[.int .i64 0, .int .i64 0] 62 (0, 0)) (by (with_reducible repeat (first | refine kN ?_ _ | refine kD ?_ | refine kA ?_ _)); exact BK551.out)) : gb551 ≠ gb552)); have n6_ := aM ((by rw [hg]; exact Nat.ne_of_gt (blk_lt (g := gb551) (o := .cells #[.int .i64 0, .int .i64 0] 62 (0, 0)) (by (with_reducible repeat (first | refine kN ?_ _ | refine kD ?_ | refine kA ?_ _)); exact BK551.out)) : gb552 ≠ gb551)); clear BK551; clear HB; have BK551 := n0_; have HB := n1_; have BK552 := n2_; have GW552 := n3_; have GE552 := n4_; have NB551_552 := n5_; have NB552_551 := n6_; clear n0_ n1_ n2_ n3_ n4_ n5_ n6_; clear hb hbox hg) | ((with_reducible refine gC (f := 64) rfl ?_); refine goesL_ (some 8) rfl rfl Try.func64 (by kernel_rfl) rfl #[.slice A0 l0.length c0] rfl (by (try simp only [mA, mC, mN]); first | done | rfl | (simp only [lD, lT]; rfl)) ?_; (with_reducible refine (impl_isThree.calls k _ _ l0 false _ ?side1 ?side2 A2.out).mono ?_); (case side1 => repeat (first | exact (Kd.C_below HR0.out HB.out) | (with_reducible refine cA ?_ _) | (with_reducible refine cN ?_ _) | (with_reducible refine cD ?_))); (case side2 => exact HC0.out); rintro e w26 ⟨rfl, hb⟩; refine ⟨_, rfl, ?_⟩; have n0_ := aM (blk_below (g := gb551) (o := .cells #[.int .i64 0, .int .i64 0] 62 (0, 0)) (by (with_reducible repeat (first | refine kN ?_ _ | refine kD ?_ | refine kA ?_ _)); exact BK551.out) hb); have n1_ := aM (blk_below (g := gb552) (o := .cells #[.int .i64 0, .int .i64 0] 62 (0, 0)) (by (with_reducible repeat (first | refine kN ?_ _ | refine kD ?_ | refine kA ?_ _)); exact BK552.out) hb); have n2_ := aM (pT (by repeat (first | (with_reducible first | exact HB.out | apply pA | apply pN | apply pD | refine pS ?_ GE551.out | refine pS ?_ GE552.out) | exact HB.out)) hb); clear BK551; clear BK552; clear HB; have BK551 := n0_; have BK552 := n1_; have HB := n2_; clear n0_ n1_ n2_; (try clear hb); (try clear hb2); (try clear hk); (try clear hi); have hnb27 := NB551_552.out; have hnc27 := NB552_551.out; have hcz28_0 : w26.cell? ⟨gb551, 0, none⟩ = some (.int .i64 0) := (kC BK551.out 0).trans rfl; have hcz28_1 : w26.cell? ⟨gb551, 1, none⟩ = some (.int .i64 0) := (kC BK551.out 1).trans rfl; have hfz28_0 := kF BK551.out 0; have hfz28_1 := kF BK551.out 1; have hcz29_0 : w26.cell? ⟨gb552, 0, none⟩ = some (.int .i64 0) := (kC BK552.out 0).trans rfl; have hcz29_1 : w26.cell? ⟨gb552, 1, none⟩ = some (.int .i64 0) := (kC BK552.out 1).trans rfl; have hfz29_0 := kF BK552.out 0; have hfz29_1 := kF BK552.out 1))
  refine bodyPost_ret (results_list (rs := [.cell 2 62, .cell 3 62, .tmp 4]) rfl (by simp) (.cell gb551 62 #[.int .i64 0, .int .i64 0] (0, 0) _ rfl (by (with_reducible repeat (first | refine kN ?_ _ | refine kD ?_ | refine kA ?_ _)); refine blk_far ?_ NB551_552.out _; (with_reducible repeat (first | refine kN ?_ _ | refine kD ?_ | refine kA ?_ _)); refine blk_far ?_ NB551_552.out _; (with_reducible repeat (first | refine kN ?_ _ | refine kD ?_ | refine kA ?_ _)); refine blk_put (cs := #[.int .i64 0, .int .i64 0]) ?_ 1 _ rfl; (with_reducible repeat (first | refine kN ?_ _ | refine kD ?_ | refine kA ?_ _)); refine blk_put (cs := #[.int .i64 0, .int .i64 0]) ?_ 0 _ rfl; (with_reducible repeat (first | refine kN ?_ _ | refine kD ?_ | refine kA ?_ _)); exact BK551.out) Try.underlying62 rfl (by kernel_rfl) (.cell gb552 62 #[.int .i64 0, .int .i64 0] (0, 0) _ rfl (by (with_reducible repeat (first | refine kN ?_ _ | refine kD ?_ | refine kA ?_ _)); refine blk_put (cs := #[.int .i64 0, .int .i64 0]) ?_ 1 _ rfl; (with_reducible repeat (first | refine kN ?_ _ | refine kD ?_ | refine kA ?_ _)); refine blk_put (cs := #[.int .i64 0, .int .i64 0]) ?_ 0 _ rfl; (with_reducible repeat (first | refine kN ?_ _ | refine kD ?_ | refine kA ?_ _)); refine blk_far ?_ NB552_551.out _; (with_reducible repeat (first | refine kN ?_ _ | refine kD ?_ | refine kA ?_ _)); refine blk_far ?_ NB552_551.out _; (with_reducible repeat (first | refine kN ?_ _ | refine kD ?_ | refine kA ?_ _)); exact BK552.out) Try.underlying62 rfl (by kernel_rfl) (.tmp .nil)))) rfl ?_
  exact ⟨by first | rfl | (simp [errW_none, errW_some] <;> rfl) | (simp [*, errW_none, errW_some] <;> rfl), by repeat (first | (with_reducible first | exact HB.out | apply pA | apply pN | apply pD | refine pS ?_ GE551.out | refine pS ?_ GE552.out) | exact HB.out)⟩

end Go.Proofs.Ytnlkglbpihgcmaa.X
