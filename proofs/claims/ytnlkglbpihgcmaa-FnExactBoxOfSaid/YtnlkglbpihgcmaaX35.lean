-- thin
-- short
import Derived.Test.YtnlkglbpihgcmaaXA
import Derived.Test.YtnlkglbpihgcmaaX0
import Derived.Test.YtnlkglbpihgcmaaX7
import Derived.Test.YtnlkglbpihgcmaaX11
import Derived.Test.YtnlkglbpihgcmaaX22
import Derived.Test.YtnlkglbpihgcmaaX28
import Derived.Test.YtnlkglbpihgcmaaX30
namespace Go.Proofs.Ytnlkglbpihgcmaa.X
open Go.RowKit Go.Proofs.Ytnlkglbpihgcmaa.XW Go.Proofs.YtnlkglbpihgcmaaW.PrintWords Go.Proofs.YtnlkglbpihgcmaaW.PrintLast Go.Proofs.YtnlkglbpihgcmaaW.PrintMore
attribute [local go_sem] max2_int min2_int max_two min_two max_three min_three max_four min_four   -- for this text's walks alone
set_option linter.unusedVariables false
set_option linter.unusedSimpArgs false

def spec_wiRange.l0 : Nat → Int → Int → Int → Int → List (S_impl_Peg) → Int → Int → Option (Int × Int)
 | 0, _, _, _, _, _, _, _ => none
 | k + 1, x1, x2, x8, x9, x27, x28, x29 => if x29 < x28 then (if 0 ≤ x29 then (if x29 < (x27.length : Int) then ((spec_l1Least.f x8 (wrap64 ((wrap64 (x1 * ((rd_impl_Peg x27 x29).f0))) + (wrap64 (x2 * ((rd_impl_Peg x27 x29).f1)))))).bind fun t618 => ((spec_l1Most.f x9 (wrap64 ((wrap64 (x1 * ((rd_impl_Peg x27 x29).f0))) + (wrap64 (x2 * ((rd_impl_Peg x27 x29).f1)))))).bind fun t619 => (spec_wiRange.l0 k x1 x2 t618 t619 x27 x28 (wrap64 (x29 + 1))))) else (none)) else (none)) else (some (x8, x9))
def spec_wiRange.f (k : Nat) (l0 : List (S_impl_Peg)) (a1 : Int) (a2 : Int) : Option (Int × Int) := if 0 < (l0.length : Int) then (spec_wiRange.l0 k a1 a2 (wrap64 ((wrap64 (a1 * ((rd_impl_Peg l0 0).f0))) + (wrap64 (a2 * ((rd_impl_Peg l0 0).f1))))) (wrap64 ((wrap64 (a1 * ((rd_impl_Peg l0 0).f0))) + (wrap64 (a2 * ((rd_impl_Peg l0 0).f1))))) l0 (l0.length : Int) 0) else (none)
theorem spec_wiRange.mono_l : ∀ k, (∀ y0 y1 y2 y3 y4 y5 y6, LeO (spec_wiRange.l0 k y0 y1 y2 y3 y4 y5 y6) (spec_wiRange.l0 (k + 1) y0 y1 y2 y3 y4 y5 y6))
 | 0 => fun _ _ _ _ _ _ _ r h => by simp [spec_wiRange.l0] at h
 | k + 1 => by
  have ih0 := spec_wiRange.mono_l k
  ·intro y0 y1 y2 y3 y4 y5 y6
   unfold spec_wiRange.l0
   repeat' first
   | (with_reducible exact ih0 _ _ _ _ _ _ _)
   | (with_reducible exact LeO.refl _)
   | (with_reducible exact LeO.none _)
   | (with_reducible refine LeO.ite ?_ ?_)
   | (with_reducible refine LeO.bind ?_ (fun _ => ?_))
   | exact ih0 _ _ _ _ _ _ _
   | exact LeO.none _
   | refine LeO.ite ?_ ?_
   | refine LeO.bind ?_ (fun _ => ?_)
theorem spec_wiRange.mono : ∀ a0 a1 a2 k, LeO (spec_wiRange.f k a0 a1 a2) (spec_wiRange.f (k + 1) a0 a1 a2) := by
 intro a0 a1 a2 k
 have ih0 := spec_wiRange.mono_l k
 unfold spec_wiRange.f
 repeat' first
   | (with_reducible exact ih0 _ _ _ _ _ _ _)
   | (with_reducible exact LeO.refl _)
   | (with_reducible exact LeO.none _)
   | (with_reducible refine LeO.ite ?_ ?_)
   | (with_reducible refine LeO.bind ?_ (fun _ => ?_))
   | exact ih0 _ _ _ _ _ _ _
   | exact LeO.none _
   | refine LeO.ite ?_ ?_
   | refine LeO.bind ?_ (fun _ => ?_)
set_option maxHeartbeats 8000000 in
set_option maxRecDepth 100000 in
theorem spec_wiRange.calls (k : Nat) (A0 : Option Addr) (c0 : Nat) (l0 : List (S_impl_Peg)) (a1 : Int) (a2 : Int) (r1 : Int) (r2 : Int) (w : World) (hr0 : Kd.C kd_impl_Peg w A0 l0.length l0) (hc0 : l0.length ≤ c0) (h : spec_wiRange.f k l0 a1 a2 = some (r1, r2)) :
  Calls Try.prog 89 #[.slice A0 l0.length c0, .int .i64 a1, .int .i64 a2] w fun e w' => e = .returned (.tuple #[.int .i64 r1, .int .i64 r2]) ∧ Below w.heap.size w w' := by
 have hu62 := Try.underlying62
 have HR0 := aM hr0
 have HC0 := aM hc0
 clear hr0 hc0
 have HB := aM (Below.refl w.heap.size w)
 have H : (if 0 < (l0.length : Int) then (spec_wiRange.l0 k a1 a2 (wrap64 ((wrap64 (a1 * ((rd_impl_Peg l0 0).f0))) + (wrap64 (a2 * ((rd_impl_Peg l0 0).f1))))) (wrap64 ((wrap64 (a1 * ((rd_impl_Peg l0 0).f0))) + (wrap64 (a2 * ((rd_impl_Peg l0 0).f1))))) l0 (l0.length : Int) 0) else (none)) = some (r1, r2) := h
 clear h
 by_cases c4 : 0 < (l0.length : Int)
 ·rw [if_pos c4] at H
  have c4b0 : decide (0 < (l0.length : Int)) = true := dE c4
  have c4b1 : decide (0 < l0.length) = true := dE (by omega)
  clear c4
  have H' := aM H
  clear H
  have p614 : 0 ≤ (0 : Int) := (by omega)
  have q614 : 0 < (l0.length : Int) := dT (by first | (with_reducible assumption) | assumption)
  obtain ⟨ad614, e614, hx614_0, hx614_1⟩ := at_impl_Peg HR0.out 0 p614 q614
  cases e614
  have qi614 : (0 < l0.length) = True := eq_true (by omega)
  (try rw [show ((0 : Int)).toNat = 0 from rfl] at hx614_0)
  (try rw [show 0 * 2 = 0 from rfl] at hx614_0)
  (try rw [Addr.add_zero'] at hx614_0)
  (try rw [show ((0 : Int)).toNat = 0 from rfl] at hx614_1)
  (try rw [show 0 * 2 = 0 from rfl] at hx614_1)
  (try rw [Addr.add_zero'] at hx614_1)
  replace p614 := eq_true p614
  replace q614 := eq_true q614
  have p615 : 0 ≤ (0 : Int) := (by omega)
  have q615 : 0 < (l0.length : Int) := dT (by first | (with_reducible assumption) | assumption)
  obtain ⟨ad615, e615, hx615_0, hx615_1⟩ := at_impl_Peg HR0.out 0 p615 q615
  obtain rfl : ad614 = ad615 := (by injection e615)
  have qi615 : (0 < l0.length) = True := eq_true (by omega)
  (try rw [show ((0 : Int)).toNat = 0 from rfl] at hx615_0)
  (try rw [show 0 * 2 = 0 from rfl] at hx615_0)
  (try rw [Addr.add_zero'] at hx615_0)
  (try rw [show ((0 : Int)).toNat = 0 from rfl] at hx615_1)
  (try rw [show 0 * 2 = 0 from rfl] at hx615_1)
  (try rw [Addr.add_zero'] at hx615_1)
  replace p615 := eq_true p615
  replace q615 := eq_true q615
  go_enter Try.func89, Try.ntmps89
  go_wp2
  repeat (go_quiet (fail); try go_wp2)
  go_loopg [8, 9, 29] k (fun kq v8 v9 v29 w' => ∃ (x8_1 : Int) (x9_1 : Int) (x29_1 : Int), v8 = .int .i64 x8_1 ∧ v9 = .int .i64 x9_1 ∧ v29 = .int .i64 x29_1 ∧ Aside0 (spec_wiRange.l0 kq a1 a2 x8_1 x9_1 l0 (l0.length : Int) x29_1 = some (r1, r2)) ∧ Aside0 (kq ≤ k) ∧ Aside0 (Below w.heap.size w w'))
  case atStart => exact ⟨(wrap64 ((wrap64 (a1 * ((rd_impl_Peg l0 0).f0))) + (wrap64 (a2 * ((rd_impl_Peg l0 0).f1))))), (wrap64 ((wrap64 (a1 * ((rd_impl_Peg l0 0).f0))) + (wrap64 (a2 * ((rd_impl_Peg l0 0).f1))))), (0), (by first | rfl | (simp; done) | (simp [*]; done)), (by first | rfl | (simp; done) | (simp [*]; done)), (by first | rfl | (simp; done) | (simp [*]; done)), H', ⟨Nat.le_refl _⟩, ⟨by repeat (first | (with_reducible first | exact HB.out | apply pA | apply pN | apply pD) | exact HB.out)⟩⟩
  case round =>
   clear H'
   try clear p2
   try clear c4
   try clear c4b0
   try clear c4b1
   try clear hx614_0
   try clear hx614_1
   try clear hx615_0
   try clear hx615_1
   try clear p614
   try clear p615
   try clear q614
   try clear q615
   obtain ⟨x8_1, x9_1, x29_1, rfl, rfl, rfl, HA, HK1, HB⟩ := hrel
   cases gk with
   | zero => exact absurd HA.out (by simp [spec_wiRange.l0])
   | succ k1 =>
    have H := HA.out
    clear HA
    simp only [spec_wiRange.l0] at H
    by_cases c5 : x29_1 < (l0.length : Int)
    ·rw [if_pos c5] at H
     have c5b0 : decide (x29_1 < (l0.length : Int)) = true := dE c5
     clear c5
     by_cases c6 : 0 ≤ x29_1
     ·rw [if_pos c6] at H
      have c6b0 : decide (0 ≤ x29_1) = true := dE c6
      clear c6
      by_cases c7 : x29_1 < (l0.length : Int)
      ·rw [if_pos c7] at H
       have c7b0 : decide (x29_1 < (l0.length : Int)) = true := dE c7
       clear c7
       replace H := oB.mp H
       obtain ⟨t618, A80, H⟩ := H
       replace H : ((spec_l1Most.f x9_1 (wrap64 ((wrap64 (a1 * ((rd_impl_Peg l0 x29_1).f0))) + (wrap64 (a2 * ((rd_impl_Peg l0 x29_1).f1)))))).bind fun t619 => (spec_wiRange.l0 k1 a1 a2 t618 t619 l0 (l0.length : Int) (wrap64 (x29_1 + 1)))) = some (r1, r2) := H
       have A8 := aM A80
       clear A80
       replace H := oB.mp H
       obtain ⟨t619, A90, H⟩ := H
       replace H : (spec_wiRange.l0 k1 a1 a2 t618 t619 l0 (l0.length : Int) (wrap64 (x29_1 + 1))) = some (r1, r2) := H
       have A9 := aM A90
       clear A90
       have H' := aM H
       clear H
       have p616 : 0 ≤ (x29_1 : Int) := dT (by first | (with_reducible assumption) | assumption)
       have q616 : x29_1 < (l0.length : Int) := dT (by first | (with_reducible assumption) | assumption)
       obtain ⟨ad616, e616, hx616_0, hx616_1⟩ := at_impl_Peg HR0.out x29_1 p616 q616
       obtain rfl : ad614 = ad616 := (by injection e616)
       replace hx616_0 := (HB.out.cell (wB w _ hx616_0)).trans hx616_0
       replace hx616_1 := (HB.out.cell (wB w _ hx616_1)).trans hx616_1
       replace p616 := eq_true p616
       replace q616 := eq_true q616
       go_wp2_with (first | ((with_reducible refine gate_dst (N := 11) rfl ?_); refine box_event ?hg (N := 11) ?hd (cs := #[.int .i64 0, .int .i64 0]) (t := 62) ?hr ?_; (case hd => rfl); (case hg => rfl); (case hr => first | (go_simp; done) | (go_simp; rfl)); intro gb617 hg w10 hbox hb; have n0_ := aM (pT (by repeat (first | (with_reducible first | exact HB.out | apply pA | apply pN | apply pD) | exact HB.out)) hb); have n1_ := aM (hbox); have n2_ := aM ((by rw [hg]; exact (pZ (by repeat (first | (with_reducible first | exact HB.out | apply pA | apply pN | apply pD) | exact HB.out))) : w.heap.size ≤ gb617)); have n3_ := aM ((by rw [hg]; exact (pZ (by repeat (first | (with_reducible first | exact HB.out | apply pA | apply pN | apply pD) | exact HB.out))) : w.heap.size ≤ gb617)); clear HB; have HB := n0_; have BK617 := n1_; have GW617 := n2_; have GE617 := n3_; clear n0_ n1_ n2_ n3_; clear hb hbox hg; have hcz11_0 : w10.cell? ⟨gb617, 0, none⟩ = some (.int .i64 0) := (kC BK617.out 0).trans rfl; have hcz11_1 : w10.cell? ⟨gb617, 1, none⟩ = some (.int .i64 0) := (kC BK617.out 1).trans rfl; have hfz11_0 := kF BK617.out 0; have hfz11_1 := kF BK617.out 1) | (go_at_call 85; (with_reducible refine (spec_l1Least.calls x8_1 (wrap64 ((wrap64 (a1 * ((rd_impl_Peg l0 x29_1).f0))) + (wrap64 (a2 * ((rd_impl_Peg l0 x29_1).f1))))) t618 _ A8.out).mono ?_); rintro e w' ⟨rfl, ⟨nd, rfl⟩⟩; (try first | exact ⟨rfl, _, World.drewN_drewN _ _ _⟩ | exact ⟨rfl, _, Eq.trans (World.drewN_drewN _ _ _) (congrArg (World.drewN _) (Nat.add_assoc _ _ _))⟩)) | (go_at_call 79; (with_reducible refine (spec_l1Most.calls x9_1 (wrap64 ((wrap64 (a1 * ((rd_impl_Peg l0 x29_1).f0))) + (wrap64 (a2 * ((rd_impl_Peg l0 x29_1).f1))))) t619 _ A9.out).mono ?_); rintro e w' ⟨rfl, ⟨nd, rfl⟩⟩; (try first | exact ⟨rfl, _, World.drewN_drewN _ _ _⟩ | exact ⟨rfl, _, Eq.trans (World.drewN_drewN _ _ _) (congrArg (World.drewN _) (Nat.add_assoc _ _ _))⟩)))
       repeat (go_quiet (first | ((with_reducible refine gate_dst (N := 11) rfl ?_); refine box_event ?hg (N := 11) ?hd (cs := #[.int .i64 0, .int .i64 0]) (t := 62) ?hr ?_; (case hd => rfl); (case hg => rfl); (case hr => first | (go_simp; done) | (go_simp; rfl)); intro gb617 hg w10 hbox hb; have n0_ := aM (pT (by repeat (first | (with_reducible first | exact HB.out | apply pA | apply pN | apply pD) | exact HB.out)) hb); have n1_ := aM (hbox); have n2_ := aM ((by rw [hg]; exact (pZ (by repeat (first | (with_reducible first | exact HB.out | apply pA | apply pN | apply pD) | exact HB.out))) : w.heap.size ≤ gb617)); have n3_ := aM ((by rw [hg]; exact (pZ (by repeat (first | (with_reducible first | exact HB.out | apply pA | apply pN | apply pD) | exact HB.out))) : w.heap.size ≤ gb617)); clear HB; have HB := n0_; have BK617 := n1_; have GW617 := n2_; have GE617 := n3_; clear n0_ n1_ n2_ n3_; clear hb hbox hg; have hcz11_0 : w10.cell? ⟨gb617, 0, none⟩ = some (.int .i64 0) := (kC BK617.out 0).trans rfl; have hcz11_1 : w10.cell? ⟨gb617, 1, none⟩ = some (.int .i64 0) := (kC BK617.out 1).trans rfl; have hfz11_0 := kF BK617.out 0; have hfz11_1 := kF BK617.out 1) | (go_at_call 85; (with_reducible refine (spec_l1Least.calls x8_1 (wrap64 ((wrap64 (a1 * ((rd_impl_Peg l0 x29_1).f0))) + (wrap64 (a2 * ((rd_impl_Peg l0 x29_1).f1))))) t618 _ A8.out).mono ?_); rintro e w' ⟨rfl, ⟨nd, rfl⟩⟩; (try first | exact ⟨rfl, _, World.drewN_drewN _ _ _⟩ | exact ⟨rfl, _, Eq.trans (World.drewN_drewN _ _ _) (congrArg (World.drewN _) (Nat.add_assoc _ _ _))⟩)) | (go_at_call 79; (with_reducible refine (spec_l1Most.calls x9_1 (wrap64 ((wrap64 (a1 * ((rd_impl_Peg l0 x29_1).f0))) + (wrap64 (a2 * ((rd_impl_Peg l0 x29_1).f1))))) t619 _ A9.out).mono ?_); rintro e w' ⟨rfl, ⟨nd, rfl⟩⟩; (try first | exact ⟨rfl, _, World.drewN_drewN _ _ _⟩ | exact ⟨rfl, _, Eq.trans (World.drewN_drewN _ _ _) (congrArg (World.drewN _) (Nat.add_assoc _ _ _))⟩))); try go_wp2_with (first | ((with_reducible refine gate_dst (N := 11) rfl ?_); refine box_event ?hg (N := 11) ?hd (cs := #[.int .i64 0, .int .i64 0]) (t := 62) ?hr ?_; (case hd => rfl); (case hg => rfl); (case hr => first | (go_simp; done) | (go_simp; rfl)); intro gb617 hg w10 hbox hb; have n0_ := aM (pT (by repeat (first | (with_reducible first | exact HB.out | apply pA | apply pN | apply pD) | exact HB.out)) hb); have n1_ := aM (hbox); have n2_ := aM ((by rw [hg]; exact (pZ (by repeat (first | (with_reducible first | exact HB.out | apply pA | apply pN | apply pD) | exact HB.out))) : w.heap.size ≤ gb617)); have n3_ := aM ((by rw [hg]; exact (pZ (by repeat (first | (with_reducible first | exact HB.out | apply pA | apply pN | apply pD) | exact HB.out))) : w.heap.size ≤ gb617)); clear HB; have HB := n0_; have BK617 := n1_; have GW617 := n2_; have GE617 := n3_; clear n0_ n1_ n2_ n3_; clear hb hbox hg; have hcz11_0 : w10.cell? ⟨gb617, 0, none⟩ = some (.int .i64 0) := (kC BK617.out 0).trans rfl; have hcz11_1 : w10.cell? ⟨gb617, 1, none⟩ = some (.int .i64 0) := (kC BK617.out 1).trans rfl; have hfz11_0 := kF BK617.out 0; have hfz11_1 := kF BK617.out 1) | (go_at_call 85; (with_reducible refine (spec_l1Least.calls x8_1 (wrap64 ((wrap64 (a1 * ((rd_impl_Peg l0 x29_1).f0))) + (wrap64 (a2 * ((rd_impl_Peg l0 x29_1).f1))))) t618 _ A8.out).mono ?_); rintro e w' ⟨rfl, ⟨nd, rfl⟩⟩; (try first | exact ⟨rfl, _, World.drewN_drewN _ _ _⟩ | exact ⟨rfl, _, Eq.trans (World.drewN_drewN _ _ _) (congrArg (World.drewN _) (Nat.add_assoc _ _ _))⟩)) | (go_at_call 79; (with_reducible refine (spec_l1Most.calls x9_1 (wrap64 ((wrap64 (a1 * ((rd_impl_Peg l0 x29_1).f0))) + (wrap64 (a2 * ((rd_impl_Peg l0 x29_1).f1))))) t619 _ A9.out).mono ?_); rintro e w' ⟨rfl, ⟨nd, rfl⟩⟩; (try first | exact ⟨rfl, _, World.drewN_drewN _ _ _⟩ | exact ⟨rfl, _, Eq.trans (World.drewN_drewN _ _ _) (congrArg (World.drewN _) (Nat.add_assoc _ _ _))⟩))))
       go_roundg k1
       case measure => have := HK1.out; omega
       case rel => exact ⟨(t618), (t619), (wrap64 (x29_1 + 1)), (by first | rfl | (simp; done) | (simp [*]; done)), (by first | rfl | (simp; done) | (simp [*]; done)), (by first | rfl | (simp; done) | (simp [*]; done)), H', ⟨by have := HK1.out; omega⟩, ⟨by repeat (first | (with_reducible first | exact HB.out | apply pA | apply pN | apply pD | refine pS ?_ GE617.out) | exact HB.out)⟩⟩
      ·rw [if_neg c7] at H
       exact absurd H (by simp)
     ·rw [if_neg c6] at H
      exact absurd H (by simp)
    ·rw [if_neg c5] at H
     have c5b0 : decide (x29_1 < (l0.length : Int)) = false := decide_eq_false c5
     clear c5
     simp only [Option.some.injEq, Prod.mk.injEq] at H
     obtain ⟨rfl, rfl⟩ := H
     go_wp2
     repeat (go_quiet (fail); try go_wp2)
     go_ret2
     exact ⟨by first | rfl | (simp [errW_none, errW_some] <;> rfl) | (simp [*, errW_none, errW_some] <;> rfl), by repeat (first | (with_reducible first | exact HB.out | apply pA | apply pN | apply pD) | exact HB.out)⟩
 ·rw [if_neg c4] at H
  exact absurd H (by simp)

def spec_BoxOf.f (k : Nat) (l0 : List (S_impl_Peg)) : Option (Int × Int × Int × Int × Bool) := (spec_pgGood.f k l0).bind fun t622 => (if t622 = true then ((spec_wiRange.f k l0 1 0).bind fun bt623 => ((spec_wiRange.f k l0 0 1).bind fun bt625 => (some (bt623.1, bt625.1, bt623.2, bt625.2, true)))) else (some (0, 0, 0, 0, false)))
theorem spec_BoxOf.mono : ∀ a0 k, LeO (spec_BoxOf.f k a0) (spec_BoxOf.f (k + 1) a0) := by
 intro a0 k
 unfold spec_BoxOf.f
 repeat' first
   | (with_reducible exact spec_pgGood.mono _ _)
   | (with_reducible exact spec_wiRange.mono _ _ _ _)
   | (with_reducible exact LeO.refl _)
   | (with_reducible exact LeO.none _)
   | (with_reducible refine LeO.ite ?_ ?_)
   | (with_reducible refine LeO.bind ?_ (fun _ => ?_))
   | exact spec_pgGood.mono _ _
   | exact spec_wiRange.mono _ _ _ _
   | exact LeO.none _
   | refine LeO.ite ?_ ?_
   | refine LeO.bind ?_ (fun _ => ?_)
set_option maxHeartbeats 8000000 in
set_option maxRecDepth 100000 in
theorem spec_BoxOf.calls (k : Nat) (A0 : Option Addr) (c0 : Nat) (l0 : List (S_impl_Peg)) (r1 : Int) (r2 : Int) (r3 : Int) (r4 : Int) (r5 : Bool) (w : World) (hr0 : Kd.C kd_impl_Peg w A0 l0.length l0) (hc0 : l0.length ≤ c0) (h : spec_BoxOf.f k l0 = some (r1, r2, r3, r4, r5)) :
  Calls Try.prog 52 #[.slice A0 l0.length c0] w fun e w' => e = .returned (.tuple #[.agg #[.int .i64 r1, .int .i64 r2], .agg #[.int .i64 r3, .int .i64 r4], .bool r5]) ∧ Below w.heap.size w w' := by
 have hu62 := Try.underlying62
 have HR0 := aM hr0
 have HC0 := aM hc0
 clear hr0 hc0
 have HB := aM (Below.refl w.heap.size w)
 have H : ((spec_pgGood.f k l0).bind fun t622 => (if t622 = true then ((spec_wiRange.f k l0 1 0).bind fun bt623 => ((spec_wiRange.f k l0 0 1).bind fun bt625 => (some (bt623.1, bt625.1, bt623.2, bt625.2, true)))) else (some (0, 0, 0, 0, false)))) = some (r1, r2, r3, r4, r5) := h
 clear h
 replace H := oB.mp H
 obtain ⟨t622, A20, H⟩ := H
 replace H : (if t622 = true then ((spec_wiRange.f k l0 1 0).bind fun bt623 => ((spec_wiRange.f k l0 0 1).bind fun bt625 => (some (bt623.1, bt625.1, bt623.2, bt625.2, true)))) else (some (0, 0, 0, 0, false))) = some (r1, r2, r3, r4, r5) := H
 have A2 := aM A20
 clear A20
 by_cases c3 : t622 = true
 ·subst c3
  have H1 : ((spec_wiRange.f k l0 1 0).bind fun bt623 => ((spec_wiRange.f k l0 0 1).bind fun bt625 => (some (bt623.1, bt625.1, bt623.2, bt625.2, true)))) = some (r1, r2, r3, r4, r5) := by rw [if_pos rfl] at H; exact H
  clear H
  have H := H1
  clear H1
  replace H := oB.mp H
  obtain ⟨⟨t623, t624⟩, A40, H⟩ := H
  replace H : ((spec_wiRange.f k l0 0 1).bind fun bt625 => (some (t623, bt625.1, t624, bt625.2, true))) = some (r1, r2, r3, r4, r5) := H
  have A4 := aM A40
  clear A40
  replace H := oB.mp H
  obtain ⟨⟨t625, t626⟩, A50, H⟩ := H
  replace H : (some (t623, t625, t624, t626, true)) = some (r1, r2, r3, r4, r5) := H
  have A5 := aM A50
  clear A50
  simp only [Option.some.injEq, Prod.mk.injEq] at H
  obtain ⟨rfl, rfl, rfl, rfl, rfl⟩ := H
  go_enter Try.func52, Try.ntmps52
  go_wp2_with (first | ((with_reducible refine gate_dst (N := 2) rfl ?_); refine box_event ?hg (N := 2) ?hd (cs := #[.int .i64 0, .int .i64 0]) (t := 62) ?hr ?_; (case hd => rfl); (case hg => rfl); (case hr => first | (go_simp; done) | (go_simp; rfl)); intro gb620 hg w6 hbox hb; have n0_ := aM (pT (by repeat (first | (with_reducible first | exact HB.out | apply pA | apply pN | apply pD) | exact HB.out)) hb); have n1_ := aM (hbox); have n2_ := aM ((by rw [hg]; exact (pZ (by repeat (first | (with_reducible first | exact HB.out | apply pA | apply pN | apply pD) | exact HB.out))) : w.heap.size ≤ gb620)); have n3_ := aM ((by rw [hg]; exact (pZ (by repeat (first | (with_reducible first | exact HB.out | apply pA | apply pN | apply pD) | exact HB.out))) : w.heap.size ≤ gb620)); clear HB; have HB := n0_; have BK620 := n1_; have GW620 := n2_; have GE620 := n3_; clear n0_ n1_ n2_ n3_; clear hb hbox hg) | ((with_reducible refine gate_dst (N := 3) rfl ?_); refine box_event ?hg (N := 3) ?hd (cs := #[.int .i64 0, .int .i64 0]) (t := 62) ?hr ?_; (case hd => rfl); (case hg => rfl); (case hr => first | (go_simp; done) | (go_simp; rfl)); intro gb621 hg w7 hbox hb; have n0_ := aM (blk_below (g := gb620) (o := .cells #[.int .i64 0, .int .i64 0] 62 (0, 0)) (by (with_reducible repeat (first | refine kN ?_ _ | refine kD ?_ | refine kA ?_ _)); exact BK620.out) hb); have n1_ := aM (pT (by repeat (first | (with_reducible first | exact HB.out | apply pA | apply pN | apply pD | refine pS ?_ GE620.out) | exact HB.out)) hb); have n2_ := aM (hbox); have n3_ := aM ((by rw [hg]; exact (pZ (by repeat (first | (with_reducible first | exact HB.out | apply pA | apply pN | apply pD | refine pS ?_ GE620.out) | exact HB.out))) : w.heap.size ≤ gb621)); have n4_ := aM ((by rw [hg]; exact (pZ (by repeat (first | (with_reducible first | exact HB.out | apply pA | apply pN | apply pD | refine pS ?_ GE620.out) | exact HB.out))) : w.heap.size ≤ gb621)); have n5_ := aM ((by rw [hg]; exact nN (blk_lt (g := gb620) (o := .cells #[.int .i64 0, .int .i64 0] 62 (0, 0)) (by (with_reducible repeat (first | refine kN ?_ _ | refine kD ?_ | refine kA ?_ _)); exact BK620.out)) : gb620 ≠ gb621)); have n6_ := aM ((by rw [hg]; exact Nat.ne_of_gt (blk_lt (g := gb620) (o := .cells #[.int .i64 0, .int .i64 0] 62 (0, 0)) (by (with_reducible repeat (first | refine kN ?_ _ | refine kD ?_ | refine kA ?_ _)); exact BK620.out)) : gb621 ≠ gb620)); clear BK620; clear HB; have BK620 := n0_; have HB := n1_; have BK621 := n2_; have GW621 := n3_; have GE621 := n4_; have NB620_621 := n5_; have NB621_620 := n6_; clear n0_ n1_ n2_ n3_ n4_ n5_ n6_; clear hb hbox hg) | ((with_reducible refine gC (f := 55) rfl ?_); refine goesL_ (some 10) rfl rfl Try.func55 (by kernel_rfl) rfl #[.slice A0 l0.length c0] rfl (by (try simp only [mA, mC, mN]); first | done | rfl | (simp only [lD, lT]; rfl)) ?_; (with_reducible refine (spec_pgGood.calls k _ _ l0 true _ ?side1 ?side2 A2.out).mono ?_); (case side1 => repeat (first | exact (Kd.C_below HR0.out HB.out) | (with_reducible refine cA ?_ _) | (with_reducible refine cN ?_ _) | (with_reducible refine cD ?_))); (case side2 => exact HC0.out); rintro e w8 ⟨rfl, hb⟩; refine ⟨_, rfl, ?_⟩; have n0_ := aM (blk_below (g := gb620) (o := .cells #[.int .i64 0, .int .i64 0] 62 (0, 0)) (by (with_reducible repeat (first | refine kN ?_ _ | refine kD ?_ | refine kA ?_ _)); exact BK620.out) hb); have n1_ := aM (blk_below (g := gb621) (o := .cells #[.int .i64 0, .int .i64 0] 62 (0, 0)) (by (with_reducible repeat (first | refine kN ?_ _ | refine kD ?_ | refine kA ?_ _)); exact BK621.out) hb); have n2_ := aM (pT (by repeat (first | (with_reducible first | exact HB.out | apply pA | apply pN | apply pD | refine pS ?_ GE620.out | refine pS ?_ GE621.out) | exact HB.out)) hb); clear BK620; clear BK621; clear HB; have BK620 := n0_; have BK621 := n1_; have HB := n2_; clear n0_ n1_ n2_; (try clear hb); (try clear hb2); (try clear hk); (try clear hi)) | ((with_reducible refine gC (f := 89) rfl ?_); refine goesL_ (some 16) rfl rfl Try.func89 (by kernel_rfl) rfl #[.slice A0 l0.length c0, .int .i64 1, .int .i64 0] rfl (by (try simp only [mA, mC, mN]); first | done | rfl | (simp only [lD, lT]; rfl)) ?_; (with_reducible refine (spec_wiRange.calls k _ _ l0 1 0 t623 t624 _ ?side1 ?side2 A4.out).mono ?_); (case side1 => repeat (first | exact (Kd.C_below HR0.out HB.out) | (with_reducible refine cA ?_ _) | (with_reducible refine cN ?_ _) | (with_reducible refine cD ?_))); (case side2 => exact HC0.out); rintro e w9 ⟨rfl, hb⟩; refine ⟨_, rfl, ?_⟩; have n0_ := aM (blk_below (g := gb620) (o := .cells #[.int .i64 0, .int .i64 0] 62 (0, 0)) (by (with_reducible repeat (first | refine kN ?_ _ | refine kD ?_ | refine kA ?_ _)); exact BK620.out) hb); have n1_ := aM (blk_below (g := gb621) (o := .cells #[.int .i64 0, .int .i64 0] 62 (0, 0)) (by (with_reducible repeat (first | refine kN ?_ _ | refine kD ?_ | refine kA ?_ _)); exact BK621.out) hb); have n2_ := aM (pT (by repeat (first | (with_reducible first | exact HB.out | apply pA | apply pN | apply pD | refine pS ?_ GE620.out | refine pS ?_ GE621.out) | exact HB.out)) hb); clear BK620; clear BK621; clear HB; have BK620 := n0_; have BK621 := n1_; have HB := n2_; clear n0_ n1_ n2_; (try clear hb); (try clear hb2); (try clear hk); (try clear hi)) | ((with_reducible refine gC (f := 89) rfl ?_); refine goesL_ (some 21) rfl rfl Try.func89 (by kernel_rfl) rfl #[.slice A0 l0.length c0, .int .i64 0, .int .i64 1] rfl (by (try simp only [mA, mC, mN]); first | done | rfl | (simp only [lD, lT]; rfl)) ?_; (with_reducible refine (spec_wiRange.calls k _ _ l0 0 1 t625 t626 _ ?side1 ?side2 A5.out).mono ?_); (case side1 => repeat (first | exact (Kd.C_below HR0.out HB.out) | (with_reducible refine cA ?_ _) | (with_reducible refine cN ?_ _) | (with_reducible refine cD ?_))); (case side2 => exact HC0.out); rintro e w10 ⟨rfl, hb⟩; refine ⟨_, rfl, ?_⟩; have n0_ := aM (blk_below (g := gb620) (o := .cells #[.int .i64 0, .int .i64 0] 62 (0, 0)) (by (with_reducible repeat (first | refine kN ?_ _ | refine kD ?_ | refine kA ?_ _)); exact BK620.out) hb); have n1_ := aM (blk_below (g := gb621) (o := .cells #[.int .i64 0, .int .i64 0] 62 (0, 0)) (by (with_reducible repeat (first | refine kN ?_ _ | refine kD ?_ | refine kA ?_ _)); exact BK621.out) hb); have n2_ := aM (pT (by repeat (first | (with_reducible first | exact HB.out | apply pA | apply pN | apply pD | refine pS ?_ GE620.out | refine pS ?_ GE621.out) | exact HB.out)) hb); clear BK620; clear BK621; clear HB; have BK620 := n0_; have BK621 := n1_; have HB := n2_; clear n0_ n1_ n2_; (try clear hb); (try clear hb2); (try clear hk); (try clear hi); have hnb11 := NB620_621.out; have hnc11 := NB621_620.out; have hcz12_0 : w10.cell? ⟨gb620, 0, none⟩ = some (.int .i64 0) := (kC BK620.out 0).trans rfl; have hcz12_1 : w10.cell? ⟨gb620, 1, none⟩ = some (.int .i64 0) := (kC BK620.out 1).trans rfl; have hfz12_0 := kF BK620.out 0; have hfz12_1 := kF BK620.out 1; have hcz13_0 : w10.cell? ⟨gb621, 0, none⟩ = some (.int .i64 0) := (kC BK621.out 0).trans rfl; have hcz13_1 : w10.cell? ⟨gb621, 1, none⟩ = some (.int .i64 0) := (kC BK621.out 1).trans rfl; have hfz13_0 := kF BK621.out 0; have hfz13_1 := kF BK621.out 1))
  refine bodyPost_ret (results_list (rs := [.cell 2 62, .cell 3 62, .tmp 4]) rfl (by simp) (.cell gb620 62 #[.int .i64 t623, .int .i64 t625] (0, 0) _ rfl (by (with_reducible repeat (first | refine kN ?_ _ | refine kD ?_ | refine kA ?_ _)); refine blk_far ?_ NB620_621.out _; (with_reducible repeat (first | refine kN ?_ _ | refine kD ?_ | refine kA ?_ _)); refine blk_far ?_ NB620_621.out _; (with_reducible repeat (first | refine kN ?_ _ | refine kD ?_ | refine kA ?_ _)); refine blk_put (cs := #[.int .i64 t623, .int .i64 0]) ?_ 1 _ rfl; (with_reducible repeat (first | refine kN ?_ _ | refine kD ?_ | refine kA ?_ _)); refine blk_put (cs := #[.int .i64 0, .int .i64 0]) ?_ 0 _ rfl; (with_reducible repeat (first | refine kN ?_ _ | refine kD ?_ | refine kA ?_ _)); exact BK620.out) Try.underlying62 rfl (by kernel_rfl) (.cell gb621 62 #[.int .i64 t624, .int .i64 t626] (0, 0) _ rfl (by (with_reducible repeat (first | refine kN ?_ _ | refine kD ?_ | refine kA ?_ _)); refine blk_put (cs := #[.int .i64 t624, .int .i64 0]) ?_ 1 _ rfl; (with_reducible repeat (first | refine kN ?_ _ | refine kD ?_ | refine kA ?_ _)); refine blk_put (cs := #[.int .i64 0, .int .i64 0]) ?_ 0 _ rfl; (with_reducible repeat (first | refine kN ?_ _ | refine kD ?_ | refine kA ?_ _)); refine blk_far ?_ NB621_620.out _; (with_reducible repeat (first | refine kN ?_ _ | refine kD ?_ | refine kA ?_ _)); refine blk_far ?_ NB621_620.out _; (with_reducible repeat (first | refine kN ?_ _ | refine kD ?_ | refine kA ?_ _)); exact BK621.out) Try.underlying62 rfl (by kernel_rfl) (.tmp .nil)))) rfl ?_
  exact ⟨by first | rfl | (simp [errW_none, errW_some] <;> rfl) | (simp [*, errW_none, errW_some] <;> rfl), by repeat (first | (with_reducible first | exact HB.out | apply pA | apply pN | apply pD | refine pS ?_ GE620.out | refine pS ?_ GE621.out) | exact HB.out)⟩
 ·replace c3 := Bool.eq_false_iff.mpr c3
  subst c3
  have H1 : (some (0, 0, 0, 0, false)) = some (r1, r2, r3, r4, r5) := by rw [if_neg (show ¬ (false = true) by decide)] at H; exact H
  clear H
  have H := H1
  clear H1
  simp only [Option.some.injEq, Prod.mk.injEq] at H
  obtain ⟨rfl, rfl, rfl, rfl, rfl⟩ := H
  go_enter Try.func52, Try.ntmps52
  go_wp2_with (first | ((with_reducible refine gate_dst (N := 2) rfl ?_); refine box_event ?hg (N := 2) ?hd (cs := #[.int .i64 0, .int .i64 0]) (t := 62) ?hr ?_; (case hd => rfl); (case hg => rfl); (case hr => first | (go_simp; done) | (go_simp; rfl)); intro gb620 hg w14 hbox hb; have n0_ := aM (pT (by repeat (first | (with_reducible first | exact HB.out | apply pA | apply pN | apply pD) | exact HB.out)) hb); have n1_ := aM (hbox); have n2_ := aM ((by rw [hg]; exact (pZ (by repeat (first | (with_reducible first | exact HB.out | apply pA | apply pN | apply pD) | exact HB.out))) : w.heap.size ≤ gb620)); have n3_ := aM ((by rw [hg]; exact (pZ (by repeat (first | (with_reducible first | exact HB.out | apply pA | apply pN | apply pD) | exact HB.out))) : w.heap.size ≤ gb620)); clear HB; have HB := n0_; have BK620 := n1_; have GW620 := n2_; have GE620 := n3_; clear n0_ n1_ n2_ n3_; clear hb hbox hg) | ((with_reducible refine gate_dst (N := 3) rfl ?_); refine box_event ?hg (N := 3) ?hd (cs := #[.int .i64 0, .int .i64 0]) (t := 62) ?hr ?_; (case hd => rfl); (case hg => rfl); (case hr => first | (go_simp; done) | (go_simp; rfl)); intro gb621 hg w15 hbox hb; have n0_ := aM (blk_below (g := gb620) (o := .cells #[.int .i64 0, .int .i64 0] 62 (0, 0)) (by (with_reducible repeat (first | refine kN ?_ _ | refine kD ?_ | refine kA ?_ _)); exact BK620.out) hb); have n1_ := aM (pT (by repeat (first | (with_reducible first | exact HB.out | apply pA | apply pN | apply pD | refine pS ?_ GE620.out) | exact HB.out)) hb); have n2_ := aM (hbox); have n3_ := aM ((by rw [hg]; exact (pZ (by repeat (first | (with_reducible first | exact HB.out | apply pA | apply pN | apply pD | refine pS ?_ GE620.out) | exact HB.out))) : w.heap.size ≤ gb621)); have n4_ := aM ((by rw [hg]; exact (pZ (by repeat (first | (with_reducible first | exact HB.out | apply pA | apply pN | apply pD | refine pS ?_ GE620.out) | exact HB.out))) : w.heap.size ≤ gb621)); have n5_ := aM ((by rw [hg]; exact nN (blk_lt (g := gb620) (o := .cells #[.int .i64 0, .int .i64 0] 62 (0, 0)) (by (with_reducible repeat (first | refine kN ?_ _ | refine kD ?_ | refine kA ?_ _)); exact BK620.out)) : gb620 ≠ gb621)); have n6_ := aM ((by rw [hg]; exact Nat.ne_of_gt (blk_lt (g := gb620) (o := .cells #[.int .i64 0, .int .i64 0] 62 (0, 0)) (by (with_reducible repeat (first | refine kN ?_ _ | refine kD ?_ | refine kA ?_ _)); exact BK620.out)) : gb621 ≠ gb620)); clear BK620; clear HB; have BK620 := n0_; have HB := n1_; have BK621 := n2_; have GW621 := n3_; have GE621 := n4_; have NB620_621 := n5_; have NB621_620 := n6_; clear n0_ n1_ n2_ n3_ n4_ n5_ n6_; clear hb hbox hg) | ((with_reducible refine gC (f := 55) rfl ?_); refine goesL_ (some 10) rfl rfl Try.func55 (by kernel_rfl) rfl #[.slice A0 l0.length c0] rfl (by (try simp only [mA, mC, mN]); first | done | rfl | (simp only [lD, lT]; rfl)) ?_; (with_reducible refine (spec_pgGood.calls k _ _ l0 false _ ?side1 ?side2 A2.out).mono ?_); (case side1 => repeat (first | exact (Kd.C_below HR0.out HB.out) | (with_reducible refine cA ?_ _) | (with_reducible refine cN ?_ _) | (with_reducible refine cD ?_))); (case side2 => exact HC0.out); rintro e w16 ⟨rfl, hb⟩; refine ⟨_, rfl, ?_⟩; have n0_ := aM (blk_below (g := gb620) (o := .cells #[.int .i64 0, .int .i64 0] 62 (0, 0)) (by (with_reducible repeat (first | refine kN ?_ _ | refine kD ?_ | refine kA ?_ _)); exact BK620.out) hb); have n1_ := aM (blk_below (g := gb621) (o := .cells #[.int .i64 0, .int .i64 0] 62 (0, 0)) (by (with_reducible repeat (first | refine kN ?_ _ | refine kD ?_ | refine kA ?_ _)); exact BK621.out) hb); have n2_ := aM (pT (by repeat (first | (with_reducible first | exact HB.out | apply pA | apply pN | apply pD | refine pS ?_ GE620.out | refine pS ?_ GE621.out) | exact HB.out)) hb); clear BK620; clear BK621; clear HB; have BK620 := n0_; have BK621 := n1_; have HB := n2_; clear n0_ n1_ n2_; (try clear hb); (try clear hb2); (try clear hk); (try clear hi); have hnb17 := NB620_621.out; have hnc17 := NB621_620.out; have hcz18_0 : w16.cell? ⟨gb620, 0, none⟩ = some (.int .i64 0) := (kC BK620.out 0).trans rfl; have hcz18_1 : w16.cell? ⟨gb620, 1, none⟩ = some (.int .i64 0) := (kC BK620.out 1).trans rfl; have hfz18_0 := kF BK620.out 0; have hfz18_1 := kF BK620.out 1; have hcz19_0 : w16.cell? ⟨gb621, 0, none⟩ = some (.int .i64 0) := (kC BK621.out 0).trans rfl; have hcz19_1 : w16.cell? ⟨gb621, 1, none⟩ = some (.int .i64 0) := (kC BK621.out 1).trans rfl; have hfz19_0 := kF BK621.out 0; have hfz19_1 := kF BK621.out 1))
  refine bodyPost_ret (results_list (rs := [.cell 2 62, .cell 3 62, .tmp 4]) rfl (by simp) (.cell gb620 62 #[.int .i64 0, .int .i64 0] (0, 0) _ rfl (by (with_reducible repeat (first | refine kN ?_ _ | refine kD ?_ | refine kA ?_ _)); refine blk_far ?_ NB620_621.out _; (with_reducible repeat (first | refine kN ?_ _ | refine kD ?_ | refine kA ?_ _)); refine blk_far ?_ NB620_621.out _; (with_reducible repeat (first | refine kN ?_ _ | refine kD ?_ | refine kA ?_ _)); refine blk_put (cs := #[.int .i64 0, .int .i64 0]) ?_ 1 _ rfl; (with_reducible repeat (first | refine kN ?_ _ | refine kD ?_ | refine kA ?_ _)); refine blk_put (cs := #[.int .i64 0, .int .i64 0]) ?_ 0 _ rfl; (with_reducible repeat (first | refine kN ?_ _ | refine kD ?_ | refine kA ?_ _)); exact BK620.out) Try.underlying62 rfl (by kernel_rfl) (.cell gb621 62 #[.int .i64 0, .int .i64 0] (0, 0) _ rfl (by (with_reducible repeat (first | refine kN ?_ _ | refine kD ?_ | refine kA ?_ _)); refine blk_put (cs := #[.int .i64 0, .int .i64 0]) ?_ 1 _ rfl; (with_reducible repeat (first | refine kN ?_ _ | refine kD ?_ | refine kA ?_ _)); refine blk_put (cs := #[.int .i64 0, .int .i64 0]) ?_ 0 _ rfl; (with_reducible repeat (first | refine kN ?_ _ | refine kD ?_ | refine kA ?_ _)); refine blk_far ?_ NB621_620.out _; (with_reducible repeat (first | refine kN ?_ _ | refine kD ?_ | refine kA ?_ _)); refine blk_far ?_ NB621_620.out _; (with_reducible repeat (first | refine kN ?_ _ | refine kD ?_ | refine kA ?_ _)); exact BK621.out) Try.underlying62 rfl (by kernel_rfl) (.tmp .nil)))) rfl ?_
  exact ⟨by first | rfl | (simp [errW_none, errW_some] <;> rfl) | (simp [*, errW_none, errW_some] <;> rfl), by repeat (first | (with_reducible first | exact HB.out | apply pA | apply pN | apply pD | refine pS ?_ GE620.out | refine pS ?_ GE621.out) | exact HB.out)⟩

def impl_BoxOf.f (k : Nat) (l0 : List (S_impl_Peg)) : Option (Int × Int × Int × Int × Bool) := (impl_IsPolygon.f k l0).bind fun t629 => (if t629 = true then ((impl_box.f k l0).bind fun bt630 => (some (bt630.1, bt630.2.1, bt630.2.2.1, bt630.2.2.2, true))) else (some (0, 0, 0, 0, false)))
theorem impl_BoxOf.mono : ∀ a0 k, LeO (impl_BoxOf.f k a0) (impl_BoxOf.f (k + 1) a0) := by
 intro a0 k
 unfold impl_BoxOf.f
 repeat' first
   | (with_reducible exact impl_IsPolygon.mono _ _)
   | (with_reducible exact impl_box.mono _ _)
   | (with_reducible exact LeO.refl _)
   | (with_reducible exact LeO.none _)
   | (with_reducible refine LeO.ite ?_ ?_)
   | (with_reducible refine LeO.bind ?_ (fun _ => ?_))
   | exact impl_IsPolygon.mono _ _
   | exact impl_box.mono _ _
   | exact LeO.none _
   | refine LeO.ite ?_ ?_
   | refine LeO.bind ?_ (fun _ => ?_)
set_option maxHeartbeats 8000000 in
set_option maxRecDepth 100000 in
theorem impl_BoxOf.calls (k : Nat) (A0 : Option Addr) (c0 : Nat) (l0 : List (S_impl_Peg)) (r1 : Int) (r2 : Int) (r3 : Int) (r4 : Int) (r5 : Bool) (w : World) (hr0 : Kd.C kd_impl_Peg w A0 l0.length l0) (hc0 : l0.length ≤ c0) (h : impl_BoxOf.f k l0 = some (r1, r2, r3, r4, r5)) :
  Calls Try.prog 53 #[.slice A0 l0.length c0] w fun e w' => e = .returned (.tuple #[.agg #[.int .i64 r1, .int .i64 r2], .agg #[.int .i64 r3, .int .i64 r4], .bool r5]) ∧ Below w.heap.size w w' := by
 have hu62 := Try.underlying62
 have HR0 := aM hr0
 have HC0 := aM hc0
 clear hr0 hc0
 have HB := aM (Below.refl w.heap.size w)
 have H : ((impl_IsPolygon.f k l0).bind fun t629 => (if t629 = true then ((impl_box.f k l0).bind fun bt630 => (some (bt630.1, bt630.2.1, bt630.2.2.1, bt630.2.2.2, true))) else (some (0, 0, 0, 0, false)))) = some (r1, r2, r3, r4, r5) := h
 clear h
 replace H := oB.mp H
 obtain ⟨t629, A20, H⟩ := H
 replace H : (if t629 = true then ((impl_box.f k l0).bind fun bt630 => (some (bt630.1, bt630.2.1, bt630.2.2.1, bt630.2.2.2, true))) else (some (0, 0, 0, 0, false))) = some (r1, r2, r3, r4, r5) := H
 have A2 := aM A20
 clear A20
 by_cases c3 : t629 = true
 ·subst c3
  have H1 : ((impl_box.f k l0).bind fun bt630 => (some (bt630.1, bt630.2.1, bt630.2.2.1, bt630.2.2.2, true))) = some (r1, r2, r3, r4, r5) := by rw [if_pos rfl] at H; exact H
  clear H
  have H := H1
  clear H1
  replace H := oB.mp H
  obtain ⟨⟨t630, t631, t632, t633⟩, A40, H⟩ := H
  replace H : (some (t630, t631, t632, t633, true)) = some (r1, r2, r3, r4, r5) := H
  have A4 := aM A40
  clear A40
  simp only [Option.some.injEq, Prod.mk.injEq] at H
  obtain ⟨rfl, rfl, rfl, rfl, rfl⟩ := H
  go_enter Try.func53, Try.ntmps53
  try go_wp2_with (first | ((with_reducible refine gate_dst (N := 2) rfl ?_); refine box_event ?hg (N := 2) ?hd (cs := #[.int .i64 0, .int .i64 0]) (t := 62) ?hr ?_; (case hd => rfl); (case hg => rfl); (case hr => first | (go_simp; done) | (go_simp; rfl)); intro gb627 hg w5 hbox hb; have n0_ := aM (pT (by repeat (first | (with_reducible first | exact HB.out | apply pA | apply pN | apply pD) | exact HB.out)) hb); have n1_ := aM (hbox); have n2_ := aM ((by rw [hg]; exact (pZ (by repeat (first | (with_reducible first | exact HB.out | apply pA | apply pN | apply pD) | exact HB.out))) : w.heap.size ≤ gb627)); have n3_ := aM ((by rw [hg]; exact (pZ (by repeat (first | (with_reducible first | exact HB.out | apply pA | apply pN | apply pD) | exact HB.out))) : w.heap.size ≤ gb627)); clear HB; have HB := n0_; have BK627 := n1_; have GW627 := n2_; have GE627 := n3_; clear n0_ n1_ n2_ n3_; clear hb hbox hg) | ((with_reducible refine gate_dst (N := 3) rfl ?_); refine box_event ?hg (N := 3) ?hd (cs := #[.int .i64 0, .int .i64 0]) (t := 62) ?hr ?_; (case hd => rfl); (case hg => rfl); (case hr => first | (go_simp; done) | (go_simp; rfl)); intro gb628 hg w6 hbox hb; have n0_ := aM (blk_below (g := gb627) (o := .cells #[.int .i64 0, .int .i64 0] 62 (0, 0)) (by (with_reducible repeat (first | refine kN ?_ _ | refine kD ?_ | refine kA ?_ _)); exact BK627.out) hb); have n1_ := aM (pT (by repeat (first | (with_reducible first | exact HB.out | apply pA | apply pN | apply pD | refine pS ?_ GE627.out) | exact HB.out)) hb); have n2_ := aM (hbox); have n3_ := aM ((by rw [hg]; exact (pZ (by repeat (first | (with_reducible first | exact HB.out | apply pA | apply pN | apply pD | refine pS ?_ GE627.out) | exact HB.out))) : w.heap.size ≤ gb628)); have n4_ := aM ((by rw [hg]; exact (pZ (by repeat (first | (with_reducible first | exact HB.out | apply pA | apply pN | apply pD | refine pS ?_ GE627.out) | exact HB.out))) : w.heap.size ≤ gb628)); have n5_ := aM ((by rw [hg]; exact nN (blk_lt (g := gb627) (o := .cells #[.int .i64 0, .int .i64 0] 62 (0, 0)) (by (with_reducible repeat (first | refine kN ?_ _ | refine kD ?_ | refine kA ?_ _)); exact BK627.out)) : gb627 ≠ gb628)); have n6_ := aM ((by rw [hg]; exact Nat.ne_of_gt (blk_lt (g := gb627) (o := .cells #[.int .i64 0, .int .i64 0] 62 (0, 0)) (by (with_reducible repeat (first | refine kN ?_ _ | refine kD ?_ | refine kA ?_ _)); exact BK627.out)) : gb628 ≠ gb627)); clear BK627; clear HB; have BK627 := n0_; have HB := n1_; have BK628 := n2_; have GW628 := n3_; have GE628 := n4_; have NB627_628 := n5_; have NB628_627 := n6_; clear n0_ n1_ n2_ n3_ n4_ n5_ n6_; clear hb hbox hg) | ((with_reducible refine gC (f := 23) rfl ?_); refine goesL_ (some 8) rfl rfl Try.func23 (by kernel_rfl) rfl #[.slice A0 l0.length c0] rfl (by (try simp only [mA, mC, mN]); first | done | rfl | (simp only [lD, lT]; rfl)) ?_; (with_reducible refine (impl_IsPolygon.calls k _ _ l0 true _ ?side1 ?side2 A2.out).mono ?_); (case side1 => repeat (first | exact (Kd.C_below HR0.out HB.out) | (with_reducible refine cA ?_ _) | (with_reducible refine cN ?_ _) | (with_reducible refine cD ?_))); (case side2 => exact HC0.out); rintro e w7 ⟨rfl, hb⟩; refine ⟨_, rfl, ?_⟩; have n0_ := aM (blk_below (g := gb627) (o := .cells #[.int .i64 0, .int .i64 0] 62 (0, 0)) (by (with_reducible repeat (first | refine kN ?_ _ | refine kD ?_ | refine kA ?_ _)); exact BK627.out) hb); have n1_ := aM (blk_below (g := gb628) (o := .cells #[.int .i64 0, .int .i64 0] 62 (0, 0)) (by (with_reducible repeat (first | refine kN ?_ _ | refine kD ?_ | refine kA ?_ _)); exact BK628.out) hb); have n2_ := aM (pT (by repeat (first | (with_reducible first | exact HB.out | apply pA | apply pN | apply pD | refine pS ?_ GE627.out | refine pS ?_ GE628.out) | exact HB.out)) hb); clear BK627; clear BK628; clear HB; have BK627 := n0_; have BK628 := n1_; have HB := n2_; clear n0_ n1_ n2_; (try clear hb); (try clear hb2); (try clear hk); (try clear hi)) | ((with_reducible refine gC (f := 86) rfl ?_); refine goesL_ (some 14) rfl rfl Try.func86 (by kernel_rfl) rfl #[.slice A0 l0.length c0] rfl (by (try simp only [mA, mC, mN]); first | done | rfl | (simp only [lD, lT]; rfl)) ?_; (with_reducible refine (impl_box.calls k _ _ l0 t630 t631 t632 t633 _ ?side1 ?side2 A4.out).mono ?_); (case side1 => repeat (first | exact (Kd.C_below HR0.out HB.out) | (with_reducible refine cA ?_ _) | (with_reducible refine cN ?_ _) | (with_reducible refine cD ?_))); (case side2 => exact HC0.out); rintro e w8 ⟨rfl, hb⟩; refine ⟨_, rfl, ?_⟩; have n0_ := aM (blk_below (g := gb627) (o := .cells #[.int .i64 0, .int .i64 0] 62 (0, 0)) (by (with_reducible repeat (first | refine kN ?_ _ | refine kD ?_ | refine kA ?_ _)); exact BK627.out) hb); have n1_ := aM (blk_below (g := gb628) (o := .cells #[.int .i64 0, .int .i64 0] 62 (0, 0)) (by (with_reducible repeat (first | refine kN ?_ _ | refine kD ?_ | refine kA ?_ _)); exact BK628.out) hb); have n2_ := aM (pT (by repeat (first | (with_reducible first | exact HB.out | apply pA | apply pN | apply pD | refine pS ?_ GE627.out | refine pS ?_ GE628.out) | exact HB.out)) hb); clear BK627; clear BK628; clear HB; have BK627 := n0_; have BK628 := n1_; have HB := n2_; clear n0_ n1_ n2_; (try clear hb); (try clear hb2); (try clear hk); (try clear hi)) | ((with_reducible refine gate_dst (N := 5) rfl ?_); refine box_event ?hg (N := 5) ?hd (cs := #[.int .i64 0, .int .i64 0]) (t := 62) ?hr ?_; (case hd => rfl); (case hg => rfl); (case hr => first | (go_simp; done) | (go_simp; rfl)); intro gb634 hg w9 hbox hb; have n0_ := aM (blk_below (g := gb627) (o := .cells #[.int .i64 0, .int .i64 0] 62 (0, 0)) (by (with_reducible repeat (first | refine kN ?_ _ | refine kD ?_ | refine kA ?_ _)); exact BK627.out) hb); have n1_ := aM (blk_below (g := gb628) (o := .cells #[.int .i64 0, .int .i64 0] 62 (0, 0)) (by (with_reducible repeat (first | refine kN ?_ _ | refine kD ?_ | refine kA ?_ _)); exact BK628.out) hb); have n2_ := aM (pT (by repeat (first | (with_reducible first | exact HB.out | apply pA | apply pN | apply pD | refine pS ?_ GE627.out | refine pS ?_ GE628.out) | exact HB.out)) hb); have n3_ := aM (hbox); have n4_ := aM ((by rw [hg]; exact (pZ (by repeat (first | (with_reducible first | exact HB.out | apply pA | apply pN | apply pD | refine pS ?_ GE627.out | refine pS ?_ GE628.out) | exact HB.out))) : w.heap.size ≤ gb634)); have n5_ := aM ((by rw [hg]; exact (pZ (by repeat (first | (with_reducible first | exact HB.out | apply pA | apply pN | apply pD | refine pS ?_ GE627.out | refine pS ?_ GE628.out) | exact HB.out))) : w.heap.size ≤ gb634)); have n6_ := aM ((by rw [hg]; exact nN (blk_lt (g := gb627) (o := .cells #[.int .i64 0, .int .i64 0] 62 (0, 0)) (by (with_reducible repeat (first | refine kN ?_ _ | refine kD ?_ | refine kA ?_ _)); exact BK627.out)) : gb627 ≠ gb634)); have n7_ := aM ((by rw [hg]; exact Nat.ne_of_gt (blk_lt (g := gb627) (o := .cells #[.int .i64 0, .int .i64 0] 62 (0, 0)) (by (with_reducible repeat (first | refine kN ?_ _ | refine kD ?_ | refine kA ?_ _)); exact BK627.out)) : gb634 ≠ gb627)); have n8_ := aM ((by rw [hg]; exact nN (blk_lt (g := gb628) (o := .cells #[.int .i64 0, .int .i64 0] 62 (0, 0)) (by (with_reducible repeat (first | refine kN ?_ _ | refine kD ?_ | refine kA ?_ _)); exact BK628.out)) : gb628 ≠ gb634)); have n9_ := aM ((by rw [hg]; exact Nat.ne_of_gt (blk_lt (g := gb628) (o := .cells #[.int .i64 0, .int .i64 0] 62 (0, 0)) (by (with_reducible repeat (first | refine kN ?_ _ | refine kD ?_ | refine kA ?_ _)); exact BK628.out)) : gb634 ≠ gb628)); clear BK627; clear BK628; clear HB; have BK627 := n0_; have BK628 := n1_; have HB := n2_; have BK634 := n3_; have GW634 := n4_; have GE634 := n5_; have NB627_634 := n6_; have NB634_627 := n7_; have NB628_634 := n8_; have NB634_628 := n9_; clear n0_ n1_ n2_ n3_ n4_ n5_ n6_ n7_ n8_ n9_; clear hb hbox hg) | ((with_reducible refine gate_dst (N := 6) rfl ?_); refine box_event ?hg (N := 6) ?hd (cs := #[.int .i64 0, .int .i64 0]) (t := 62) ?hr ?_; (case hd => rfl); (case hg => rfl); (case hr => first | (go_simp; done) | (go_simp; rfl)); intro gb635 hg w10 hbox hb; have n0_ := aM (blk_below (g := gb627) (o := .cells #[.int .i64 0, .int .i64 0] 62 (0, 0)) (by (with_reducible repeat (first | refine kN ?_ _ | refine kD ?_ | refine kA ?_ _)); exact BK627.out) hb); have n1_ := aM (blk_below (g := gb628) (o := .cells #[.int .i64 0, .int .i64 0] 62 (0, 0)) (by (with_reducible repeat (first | refine kN ?_ _ | refine kD ?_ | refine kA ?_ _)); exact BK628.out) hb); have n2_ := aM (blk_below (g := gb634) (o := .cells #[.int .i64 0, .int .i64 0] 62 (0, 0)) (by (with_reducible repeat (first | refine kN ?_ _ | refine kD ?_ | refine kA ?_ _)); exact BK634.out) hb); have n3_ := aM (pT (by repeat (first | (with_reducible first | exact HB.out | apply pA | apply pN | apply pD | refine pS ?_ GE627.out | refine pS ?_ GE628.out | refine pS ?_ GE634.out) | exact HB.out)) hb); have n4_ := aM (hbox); have n5_ := aM ((by rw [hg]; exact (pZ (by repeat (first | (with_reducible first | exact HB.out | apply pA | apply pN | apply pD | refine pS ?_ GE627.out | refine pS ?_ GE628.out | refine pS ?_ GE634.out) | exact HB.out))) : w.heap.size ≤ gb635)); have n6_ := aM ((by rw [hg]; exact (pZ (by repeat (first | (with_reducible first | exact HB.out | apply pA | apply pN | apply pD | refine pS ?_ GE627.out | refine pS ?_ GE628.out | refine pS ?_ GE634.out) | exact HB.out))) : w.heap.size ≤ gb635)); have n7_ := aM ((by rw [hg]; exact nN (blk_lt (g := gb627) (o := .cells #[.int .i64 0, .int .i64 0] 62 (0, 0)) (by (with_reducible repeat (first | refine kN ?_ _ | refine kD ?_ | refine kA ?_ _)); exact BK627.out)) : gb627 ≠ gb635)); have n8_ := aM ((by rw [hg]; exact Nat.ne_of_gt (blk_lt (g := gb627) (o := .cells #[.int .i64 0, .int .i64 0] 62 (0, 0)) (by (with_reducible repeat (first | refine kN ?_ _ | refine kD ?_ | refine kA ?_ _)); exact BK627.out)) : gb635 ≠ gb627)); have n9_ := aM ((by rw [hg]; exact nN (blk_lt (g := gb628) (o := .cells #[.int .i64 0, .int .i64 0] 62 (0, 0)) (by (with_reducible repeat (first | refine kN ?_ _ | refine kD ?_ | refine kA ?_ _)); exact BK628.out)) : gb628 ≠ gb635)); have n10_ := aM ((by rw [hg]; exact Nat.ne_of_gt (blk_lt (g := gb628) (o := .cells #[.int .i64 0, .int .i64 0] 62 (0, 0)) (by (with_reducible repeat (first | refine kN ?_ _ | refine kD ?_ | refine kA ?_ _)); exact BK628.out)) : gb635 ≠ gb628)); have n11_ := aM ((by rw [hg]; exact nN (blk_lt (g := gb634) (o := .cells #[.int .i64 0, .int .i64 0] 62 (0, 0)) (by (with_reducible repeat (first | refine kN ?_ _ | refine kD ?_ | refine kA ?_ _)); exact BK634.out)) : gb634 ≠ gb635)); have n12_ := aM ((by rw [hg]; exact Nat.ne_of_gt (blk_lt (g := gb634) (o := .cells #[.int .i64 0, .int .i64 0] 62 (0, 0)) (by (with_reducible repeat (first | refine kN ?_ _ | refine kD ?_ | refine kA ?_ _)); exact BK634.out)) : gb635 ≠ gb634)); clear BK627; clear BK628; clear BK634; clear HB; have BK627 := n0_; have BK628 := n1_; have BK634 := n2_; have HB := n3_; have BK635 := n4_; have GW635 := n5_; have GE635 := n6_; have NB627_635 := n7_; have NB635_627 := n8_; have NB628_635 := n9_; have NB635_628 := n10_; have NB634_635 := n11_; have NB635_634 := n12_; clear n0_ n1_ n2_ n3_ n4_ n5_ n6_ n7_ n8_ n9_ n10_ n11_ n12_; clear hb hbox hg; have hnb11 := NB634_627.out; have hnc11 := NB627_634.out; have hnb12 := NB634_628.out; have hnc12 := NB628_634.out; have hnb13 := NB634_635.out; have hnc13 := NB635_634.out; have hcz14_0 : w10.cell? ⟨gb634, 0, none⟩ = some (.int .i64 0) := (kC BK634.out 0).trans rfl; have hcz14_1 : w10.cell? ⟨gb634, 1, none⟩ = some (.int .i64 0) := (kC BK634.out 1).trans rfl; have hfz14_0 := kF BK634.out 0; have hfz14_1 := kF BK634.out 1; have hnb15 := NB635_627.out; have hnc15 := NB627_635.out; have hnb16 := NB635_628.out; have hnc16 := NB628_635.out; have hcz17_0 : w10.cell? ⟨gb635, 0, none⟩ = some (.int .i64 0) := (kC BK635.out 0).trans rfl; have hcz17_1 : w10.cell? ⟨gb635, 1, none⟩ = some (.int .i64 0) := (kC BK635.out 1).trans rfl; have hfz17_0 := kF BK635.out 0; have hfz17_1 := kF BK635.out 1))
  have n0_ : Aside0 (((((w10.setCell ⟨gb634, 0, none⟩ (.int .i64 t630)).setCell ⟨gb634, 1, none⟩ (.int .i64 t631)).setCell ⟨gb635, 0, none⟩ (.int .i64 t632)).setCell ⟨gb635, 1, none⟩ (.int .i64 t633)).heap[gb627]? = some (.cells #[.int .i64 0, .int .i64 0] 62 (0, 0))) := ⟨by (with_reducible repeat (first | refine kN ?_ _ | refine kD ?_ | refine kA ?_ _)); refine blk_far ?_ NB627_635.out _; (with_reducible repeat (first | refine kN ?_ _ | refine kD ?_ | refine kA ?_ _)); refine blk_far ?_ NB627_635.out _; (with_reducible repeat (first | refine kN ?_ _ | refine kD ?_ | refine kA ?_ _)); refine blk_far ?_ NB627_634.out _; (with_reducible repeat (first | refine kN ?_ _ | refine kD ?_ | refine kA ?_ _)); refine blk_far ?_ NB627_634.out _; (with_reducible repeat (first | refine kN ?_ _ | refine kD ?_ | refine kA ?_ _)); exact BK627.out⟩
  have n1_ : Aside0 (((((w10.setCell ⟨gb634, 0, none⟩ (.int .i64 t630)).setCell ⟨gb634, 1, none⟩ (.int .i64 t631)).setCell ⟨gb635, 0, none⟩ (.int .i64 t632)).setCell ⟨gb635, 1, none⟩ (.int .i64 t633)).heap[gb628]? = some (.cells #[.int .i64 0, .int .i64 0] 62 (0, 0))) := ⟨by (with_reducible repeat (first | refine kN ?_ _ | refine kD ?_ | refine kA ?_ _)); refine blk_far ?_ NB628_635.out _; (with_reducible repeat (first | refine kN ?_ _ | refine kD ?_ | refine kA ?_ _)); refine blk_far ?_ NB628_635.out _; (with_reducible repeat (first | refine kN ?_ _ | refine kD ?_ | refine kA ?_ _)); refine blk_far ?_ NB628_634.out _; (with_reducible repeat (first | refine kN ?_ _ | refine kD ?_ | refine kA ?_ _)); refine blk_far ?_ NB628_634.out _; (with_reducible repeat (first | refine kN ?_ _ | refine kD ?_ | refine kA ?_ _)); exact BK628.out⟩
  have n2_ : Aside0 (((((w10.setCell ⟨gb634, 0, none⟩ (.int .i64 t630)).setCell ⟨gb634, 1, none⟩ (.int .i64 t631)).setCell ⟨gb635, 0, none⟩ (.int .i64 t632)).setCell ⟨gb635, 1, none⟩ (.int .i64 t633)).heap[gb634]? = some (.cells #[.int .i64 t630, .int .i64 t631] 62 (0, 0))) := ⟨by (with_reducible repeat (first | refine kN ?_ _ | refine kD ?_ | refine kA ?_ _)); refine blk_far ?_ NB634_635.out _; (with_reducible repeat (first | refine kN ?_ _ | refine kD ?_ | refine kA ?_ _)); refine blk_far ?_ NB634_635.out _; (with_reducible repeat (first | refine kN ?_ _ | refine kD ?_ | refine kA ?_ _)); refine blk_put (cs := #[.int .i64 t630, .int .i64 0]) ?_ 1 _ rfl; (with_reducible repeat (first | refine kN ?_ _ | refine kD ?_ | refine kA ?_ _)); refine blk_put (cs := #[.int .i64 0, .int .i64 0]) ?_ 0 _ rfl; (with_reducible repeat (first | refine kN ?_ _ | refine kD ?_ | refine kA ?_ _)); exact BK634.out⟩
  have n3_ : Aside0 (((((w10.setCell ⟨gb634, 0, none⟩ (.int .i64 t630)).setCell ⟨gb634, 1, none⟩ (.int .i64 t631)).setCell ⟨gb635, 0, none⟩ (.int .i64 t632)).setCell ⟨gb635, 1, none⟩ (.int .i64 t633)).heap[gb635]? = some (.cells #[.int .i64 t632, .int .i64 t633] 62 (0, 0))) := ⟨by (with_reducible repeat (first | refine kN ?_ _ | refine kD ?_ | refine kA ?_ _)); refine blk_put (cs := #[.int .i64 t632, .int .i64 0]) ?_ 1 _ rfl; (with_reducible repeat (first | refine kN ?_ _ | refine kD ?_ | refine kA ?_ _)); refine blk_put (cs := #[.int .i64 0, .int .i64 0]) ?_ 0 _ rfl; (with_reducible repeat (first | refine kN ?_ _ | refine kD ?_ | refine kA ?_ _)); refine blk_far ?_ NB635_634.out _; (with_reducible repeat (first | refine kN ?_ _ | refine kD ?_ | refine kA ?_ _)); refine blk_far ?_ NB635_634.out _; (with_reducible repeat (first | refine kN ?_ _ | refine kD ?_ | refine kA ?_ _)); exact BK635.out⟩
  have n4_ : Aside0 (Below w.heap.size w ((((w10.setCell ⟨gb634, 0, none⟩ (.int .i64 t630)).setCell ⟨gb634, 1, none⟩ (.int .i64 t631)).setCell ⟨gb635, 0, none⟩ (.int .i64 t632)).setCell ⟨gb635, 1, none⟩ (.int .i64 t633))) := ⟨by repeat (first | (with_reducible first | exact HB.out | apply pA | apply pN | apply pD | refine pS ?_ GE627.out | refine pS ?_ GE628.out | refine pS ?_ GE634.out | refine pS ?_ GE635.out) | exact HB.out)⟩
  (try clear BK627)
  (try clear BK628)
  (try clear BK634)
  (try clear BK635)
  (try clear HB)
  generalize ((((w10.setCell ⟨gb634, 0, none⟩ (.int .i64 t630)).setCell ⟨gb634, 1, none⟩ (.int .i64 t631)).setCell ⟨gb635, 0, none⟩ (.int .i64 t632)).setCell ⟨gb635, 1, none⟩ (.int .i64 t633)) = w18 at n0_ n1_ n2_ n3_ n4_ ⊢
  have BK627 := n0_
  have BK628 := n1_
  have BK634 := n2_
  have BK635 := n3_
  have HB := n4_
  clear n0_ n1_ n2_ n3_ n4_
  have n0_ := aM (kD BK627.out)
  have n1_ := aM (kD BK628.out)
  have n2_ := aM (kD BK634.out)
  have n3_ := aM (kD BK635.out)
  have n4_ := aM (pD HB.out)
  clear BK627
  clear BK628
  clear BK634
  clear BK635
  clear HB
  have BK627 := n0_
  have BK628 := n1_
  have BK634 := n2_
  have BK635 := n3_
  have HB := n4_
  clear n0_ n1_ n2_ n3_ n4_
  refine start_ (n := 5) (S := fun w' => w'.cell? ⟨gb634, 0, none⟩ = some (.int .i64 t630) ∧ w'.cell? ⟨gb634, 1, none⟩ = some (.int .i64 t631) ∧ w'.cell? ⟨gb635, 0, none⟩ = some (.int .i64 t632) ∧ w'.cell? ⟨gb635, 1, none⟩ = some (.int .i64 t633)) (ds := []) #[false, false, false, false, false] (by kernel_rfl) rfl rfl ⟨(kC BK634.out 0).trans rfl, (kC BK634.out 1).trans rfl, (kC BK635.out 0).trans rfl, (kC BK635.out 1).trans rfl⟩ (fun hHeld => ?_)
  generalize w18.drew = w19 at BK627 BK628 BK634 BK635 HB hHeld ⊢
  refine take_ (i := 0) (N := some 17) (v := ?_) (a' := ?_) #[true, false, false, false, false] rfl rfl (by kernel_rfl) (fun _ _ _ h => h) (Or.inl ⟨by rfl, ?_⟩) hHeld ?_ ?_
  rotate_left
  ·rintro w' ⟨s0, s1, s2, s3⟩
   go_simp
   with_reducible rfl
  rotate_left
  ·simp only [Act.put, sI, sZ, sS, i64_w, i32_w]
   rfl
  refine take_ (i := 1) (N := some 18) (v := ?_) (a' := ?_) #[true, true, false, false, false] rfl rfl (by kernel_rfl) (fun _ _ _ h => h) (Or.inl ⟨by rfl, ?_⟩) hHeld ?_ ?_
  rotate_left
  ·rintro w' ⟨s0, s1, s2, s3⟩
   go_simp
   with_reducible rfl
  rotate_left
  ·simp only [Act.put, sI, sZ, sS, i64_w, i32_w]
   rfl
  refine one_ (i := 2) (N := none) #[true, true, true, false, false] rfl rfl (by kernel_rfl) (by decide) (fun K hK => ?_)
  have hs20 : w19.cell? ⟨gb627, 0, none⟩ = some (.int .i64 0) := (kC BK627.out 0).trans rfl
  have hfs20 := kF BK627.out 0
  have hns20_1 := NB628_627.out
  have hns20_2 := NB634_627.out
  have hns20_3 := NB635_627.out
  have hms20_1 := NB627_628.out
  have hms20_2 := NB627_634.out
  have hms20_3 := NB627_635.out
  have hs21 : w19.cell? ⟨gb627, 1, none⟩ = some (.int .i64 0) := (kC BK627.out 1).trans rfl
  have hfs21 := kF BK627.out 1
  have hns21_1 := NB628_627.out
  have hns21_2 := NB634_627.out
  have hns21_3 := NB635_627.out
  have hms21_1 := NB627_628.out
  have hms21_2 := NB627_634.out
  have hms21_3 := NB627_635.out
  refine skip_ (w1 := ?_) (by rfl) rfl ?_ ?_
  rotate_left
  ·go_simp
   rfl
  refine hK.out _ _ ⟨((cell_far (p := ⟨gb627, _, none⟩) NB634_627.out _).trans (((cell_far (p := ⟨gb627, _, none⟩) NB634_627.out _).trans (hHeld.1)))), ((cell_far (p := ⟨gb627, _, none⟩) NB634_627.out _).trans (((cell_far (p := ⟨gb627, _, none⟩) NB634_627.out _).trans (hHeld.2.1)))), ((cell_far (p := ⟨gb627, _, none⟩) NB635_627.out _).trans (((cell_far (p := ⟨gb627, _, none⟩) NB635_627.out _).trans (hHeld.2.2.1)))), ((cell_far (p := ⟨gb627, _, none⟩) NB635_627.out _).trans (((cell_far (p := ⟨gb627, _, none⟩) NB635_627.out _).trans (hHeld.2.2.2))))⟩ (fun hHeld => ?_)
  clear hK K
  refine one_ (i := 3) (N := none) #[true, true, true, true, false] rfl rfl (by kernel_rfl) (by decide) (fun K hK => ?_)
  have hs22 : w19.cell? ⟨gb628, 0, none⟩ = some (.int .i64 0) := (kC BK628.out 0).trans rfl
  have hfs22 := kF BK628.out 0
  have hns22_0 := NB627_628.out
  have hns22_2 := NB634_628.out
  have hns22_3 := NB635_628.out
  have hms22_0 := NB628_627.out
  have hms22_2 := NB628_634.out
  have hms22_3 := NB628_635.out
  have hs23 : w19.cell? ⟨gb628, 1, none⟩ = some (.int .i64 0) := (kC BK628.out 1).trans rfl
  have hfs23 := kF BK628.out 1
  have hns23_0 := NB627_628.out
  have hns23_2 := NB634_628.out
  have hns23_3 := NB635_628.out
  have hms23_0 := NB628_627.out
  have hms23_2 := NB628_634.out
  have hms23_3 := NB628_635.out
  refine skip_ (w1 := ?_) (by rfl) rfl ?_ ?_
  rotate_left
  ·go_simp
   rfl
  refine hK.out _ _ ⟨((cell_far (p := ⟨gb628, _, none⟩) NB634_628.out _).trans (((cell_far (p := ⟨gb628, _, none⟩) NB634_628.out _).trans (hHeld.1)))), ((cell_far (p := ⟨gb628, _, none⟩) NB634_628.out _).trans (((cell_far (p := ⟨gb628, _, none⟩) NB634_628.out _).trans (hHeld.2.1)))), ((cell_far (p := ⟨gb628, _, none⟩) NB635_628.out _).trans (((cell_far (p := ⟨gb628, _, none⟩) NB635_628.out _).trans (hHeld.2.2.1)))), ((cell_far (p := ⟨gb628, _, none⟩) NB635_628.out _).trans (((cell_far (p := ⟨gb628, _, none⟩) NB635_628.out _).trans (hHeld.2.2.2))))⟩ (fun hHeld => ?_)
  clear hK K
  refine pure_ (i := 4) (N := some 4) (v := ?_) (a' := ?_) #[true, true, true, true, true] rfl rfl (by kernel_rfl) (fun _ _ _ h => h) (Or.inl ⟨by rfl, ?_⟩) ?_ ?_
  rotate_left
  ·intro w'
   go_simp
   with_reducible rfl
  rotate_left
  ·simp only [Act.put, sI, sZ, sS, i64_w, i32_w]
   rfl
  refine done_ (by kernel_rfl) ?_
  try go_wp2
  refine bodyPost_ret (results_list (rs := [.cell 2 62, .cell 3 62, .tmp 4]) rfl (by simp) (.cell gb627 62 #[.int .i64 t630, .int .i64 t631] (0, 0) _ rfl (by (with_reducible repeat (first | refine kN ?_ _ | refine kD ?_ | refine kA ?_ _)); refine blk_far ?_ NB627_628.out _; (with_reducible repeat (first | refine kN ?_ _ | refine kD ?_ | refine kA ?_ _)); refine blk_far ?_ NB627_628.out _; (with_reducible repeat (first | refine kN ?_ _ | refine kD ?_ | refine kA ?_ _)); refine blk_put (cs := #[.int .i64 t630, .int .i64 0]) ?_ 1 _ rfl; (with_reducible repeat (first | refine kN ?_ _ | refine kD ?_ | refine kA ?_ _)); refine blk_put (cs := #[.int .i64 0, .int .i64 0]) ?_ 0 _ rfl; (with_reducible repeat (first | refine kN ?_ _ | refine kD ?_ | refine kA ?_ _)); exact BK627.out) Try.underlying62 rfl (by kernel_rfl) (.cell gb628 62 #[.int .i64 t632, .int .i64 t633] (0, 0) _ rfl (by (with_reducible repeat (first | refine kN ?_ _ | refine kD ?_ | refine kA ?_ _)); refine blk_put (cs := #[.int .i64 t632, .int .i64 0]) ?_ 1 _ rfl; (with_reducible repeat (first | refine kN ?_ _ | refine kD ?_ | refine kA ?_ _)); refine blk_put (cs := #[.int .i64 0, .int .i64 0]) ?_ 0 _ rfl; (with_reducible repeat (first | refine kN ?_ _ | refine kD ?_ | refine kA ?_ _)); refine blk_far ?_ NB628_627.out _; (with_reducible repeat (first | refine kN ?_ _ | refine kD ?_ | refine kA ?_ _)); refine blk_far ?_ NB628_627.out _; (with_reducible repeat (first | refine kN ?_ _ | refine kD ?_ | refine kA ?_ _)); exact BK628.out) Try.underlying62 rfl (by kernel_rfl) (.tmp .nil)))) rfl ?_
  exact ⟨by first | rfl | (simp [errW_none, errW_some] <;> rfl) | (simp [*, errW_none, errW_some] <;> rfl), by repeat (first | (with_reducible first | exact HB.out | apply pA | apply pN | apply pD | refine pS ?_ GE627.out | refine pS ?_ GE628.out | refine pS ?_ GE634.out | refine pS ?_ GE635.out) | exact HB.out)⟩
 ·replace c3 := Bool.eq_false_iff.mpr c3
  subst c3
  have H1 : (some (0, 0, 0, 0, false)) = some (r1, r2, r3, r4, r5) := by rw [if_neg (show ¬ (false = true) by decide)] at H; exact H
  clear H
  have H := H1
  clear H1
  simp only [Option.some.injEq, Prod.mk.injEq] at H
  obtain ⟨rfl, rfl, rfl, rfl, rfl⟩ := H
  go_enter Try.func53, Try.ntmps53
  go_wp2_with (first | ((with_reducible refine gate_dst (N := 2) rfl ?_); refine box_event ?hg (N := 2) ?hd (cs := #[.int .i64 0, .int .i64 0]) (t := 62) ?hr ?_; (case hd => rfl); (case hg => rfl); (case hr => first | (go_simp; done) | (go_simp; rfl)); intro gb627 hg w24 hbox hb; have n0_ := aM (pT (by repeat (first | (with_reducible first | exact HB.out | apply pA | apply pN | apply pD) | exact HB.out)) hb); have n1_ := aM (hbox); have n2_ := aM ((by rw [hg]; exact (pZ (by repeat (first | (with_reducible first | exact HB.out | apply pA | apply pN | apply pD) | exact HB.out))) : w.heap.size ≤ gb627)); have n3_ := aM ((by rw [hg]; exact (pZ (by repeat (first | (with_reducible first | exact HB.out | apply pA | apply pN | apply pD) | exact HB.out))) : w.heap.size ≤ gb627)); clear HB; have HB := n0_; have BK627 := n1_; have GW627 := n2_; have GE627 := n3_; clear n0_ n1_ n2_ n3_; clear hb hbox hg) | ((with_reducible refine gate_dst (N := 3) rfl ?_); refine box_event ?hg (N := 3) ?hd (cs := #[.int .i64 0, .int .i64 0]) (t := 62) ?hr ?_; (case hd => rfl); (case hg => rfl); (case hr => first | (go_simp; done) | (go_simp; rfl)); intro gb628 hg w25 hbox hb; have n0_ := aM (blk_below (g := gb627) (o := .cells #[.int .i64 0, .int .i64 0] 62 (0, 0)) (by (with_reducible repeat (first | refine kN ?_ _ | refine kD ?_ | refine kA ?_ _)); exact BK627.out) hb); have n1_ := aM (pT (by repeat (first | (with_reducible first | exact HB.out | apply pA | apply pN | apply pD | refine pS ?_ GE627.out) | exact HB.out)) hb); have n2_ := aM (hbox); have n3_ := aM ((by rw [hg]; exact (pZ (by repeat (first | (with_reducible first | exact HB.out | apply pA | apply pN | apply pD | refine pS ?_ GE627.out) | exact HB.out))) : w.heap.size ≤ gb628)); have n4_ := aM ((by rw [hg]; exact (pZ (by repeat (first | (with_reducible first | exact HB.out | apply pA | apply pN | apply pD | refine pS ?_ GE627.out) | exact HB.out))) : w.heap.size ≤ gb628)); have n5_ := aM ((by rw [hg]; exact nN (blk_lt (g := gb627) (o := .cells #[.int .i64 0, .int .i64 0] 62 (0, 0)) (by (with_reducible repeat (first | refine kN ?_ _ | refine kD ?_ | refine kA ?_ _)); exact BK627.out)) : gb627 ≠ gb628)); have n6_ := aM ((by rw [hg]; exact Nat.ne_of_gt (blk_lt (g := gb627) (o := .cells #[.int .i64 0, .int .i64 0] 62 (0, 0)) (by (with_reducible repeat (first | refine kN ?_ _ | refine kD ?_ | refine kA ?_ _)); exact BK627.out)) : gb628 ≠ gb627)); clear BK627; clear HB; have BK627 := n0_; have HB := n1_; have BK628 := n2_; have GW628 := n3_; have GE628 := n4_; have NB627_628 := n5_; have NB628_627 := n6_; clear n0_ n1_ n2_ n3_ n4_ n5_ n6_; clear hb hbox hg) | ((with_reducible refine gC (f := 23) rfl ?_); refine goesL_ (some 8) rfl rfl Try.func23 (by kernel_rfl) rfl #[.slice A0 l0.length c0] rfl (by (try simp only [mA, mC, mN]); first | done | rfl | (simp only [lD, lT]; rfl)) ?_; (with_reducible refine (impl_IsPolygon.calls k _ _ l0 false _ ?side1 ?side2 A2.out).mono ?_); (case side1 => repeat (first | exact (Kd.C_below HR0.out HB.out) | (with_reducible refine cA ?_ _) | (with_reducible refine cN ?_ _) | (with_reducible refine cD ?_))); (case side2 => exact HC0.out); rintro e w26 ⟨rfl, hb⟩; refine ⟨_, rfl, ?_⟩; have n0_ := aM (blk_below (g := gb627) (o := .cells #[.int .i64 0, .int .i64 0] 62 (0, 0)) (by (with_reducible repeat (first | refine kN ?_ _ | refine kD ?_ | refine kA ?_ _)); exact BK627.out) hb); have n1_ := aM (blk_below (g := gb628) (o := .cells #[.int .i64 0, .int .i64 0] 62 (0, 0)) (by (with_reducible repeat (first | refine kN ?_ _ | refine kD ?_ | refine kA ?_ _)); exact BK628.out) hb); have n2_ := aM (pT (by repeat (first | (with_reducible first | exact HB.out | apply pA | apply pN | apply pD | refine pS ?_ GE627.out | refine pS ?_ GE628.out) | exact HB.out)) hb); clear BK627; clear BK628; clear HB; have BK627 := n0_; have BK628 := n1_; have HB := n2_; clear n0_ n1_ n2_; (try clear hb); (try clear hb2); (try clear hk); (try clear hi); have hnb27 := NB627_628.out; have hnc27 := NB628_627.out; have hcz28_0 : w26.cell? ⟨gb627, 0, none⟩ = some (.int .i64 0) := (kC BK627.out 0).trans rfl; have hcz28_1 : w26.cell? ⟨gb627, 1, none⟩ = some (.int .i64 0) := (kC BK627.out 1).trans rfl; have hfz28_0 := kF BK627.out 0; have hfz28_1 := kF BK627.out 1; have hcz29_0 : w26.cell? ⟨gb628, 0, none⟩ = some (.int .i64 0) := (kC BK628.out 0).trans rfl; have hcz29_1 : w26.cell? ⟨gb628, 1, none⟩ = some (.int .i64 0) := (kC BK628.out 1).trans rfl; have hfz29_0 := kF BK628.out 0; have hfz29_1 := kF BK628.out 1))
  refine bodyPost_ret (results_list (rs := [.cell 2 62, .cell 3 62, .tmp 4]) rfl (by simp) (.cell gb627 62 #[.int .i64 0, .int .i64 0] (0, 0) _ rfl (by (with_reducible repeat (first | refine kN ?_ _ | refine kD ?_ | refine kA ?_ _)); refine blk_far ?_ NB627_628.out _; (with_reducible repeat (first | refine kN ?_ _ | refine kD ?_ | refine kA ?_ _)); refine blk_far ?_ NB627_628.out _; (with_reducible repeat (first | refine kN ?_ _ | refine kD ?_ | refine kA ?_ _)); refine blk_put (cs := #[.int .i64 0, .int .i64 0]) ?_ 1 _ rfl; (with_reducible repeat (first | refine kN ?_ _ | refine kD ?_ | refine kA ?_ _)); refine blk_put (cs := #[.int .i64 0, .int .i64 0]) ?_ 0 _ rfl; (with_reducible repeat (first | refine kN ?_ _ | refine kD ?_ | refine kA ?_ _)); exact BK627.out) Try.underlying62 rfl (by kernel_rfl) (.cell gb628 62 #[.int .i64 0, .int .i64 0] (0, 0) _ rfl (by (with_reducible repeat (first | refine kN ?_ _ | refine kD ?_ | refine kA ?_ _)); refine blk_put (cs := #[.int .i64 0, .int .i64 0]) ?_ 1 _ rfl; (with_reducible repeat (first | refine kN ?_ _ | refine kD ?_ | refine kA ?_ _)); refine blk_put (cs := #[.int .i64 0, .int .i64 0]) ?_ 0 _ rfl; (with_reducible repeat (first | refine kN ?_ _ | refine kD ?_ | refine kA ?_ _)); refine blk_far ?_ NB628_627.out _; (with_reducible repeat (first | refine kN ?_ _ | refine kD ?_ | refine kA ?_ _)); refine blk_far ?_ NB628_627.out _; (with_reducible repeat (first | refine kN ?_ _ | refine kD ?_ | refine kA ?_ _)); exact BK628.out) Try.underlying62 rfl (by kernel_rfl) (.tmp .nil)))) rfl ?_
  exact ⟨by first | rfl | (simp [errW_none, errW_some] <;> rfl) | (simp [*, errW_none, errW_some] <;> rfl), by repeat (first | (with_reducible first | exact HB.out | apply pA | apply pN | apply pD | refine pS ?_ GE627.out | refine pS ?_ GE628.out) | exact HB.out)⟩

end Go.Proofs.Ytnlkglbpihgcmaa.X
