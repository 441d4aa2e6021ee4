-- thin
-- short
import Derived.Test.YtiacfkilmknldaaXA
import Derived.Test.YtiacfkilmknldaaX0
import Derived.Test.YtiacfkilmknldaaX7
import Derived.Test.YtiacfkilmknldaaX10
namespace Go.Proofs.Ytiacfkilmknldaa.X
open Go.RowKit Go.Proofs.Ytiacfkilmknldaa.XW Go.Proofs.YtiacfkilmknldaaW.PrintWords Go.Proofs.YtiacfkilmknldaaW.PrintLast Go.Proofs.YtiacfkilmknldaaW.PrintMore
attribute [local go_sem] max2_int min2_int max_two min_two max_three min_three max_four min_four   -- for this text's walks alone
set_option linter.unusedVariables false
set_option linter.unusedSimpArgs false

def impl_isThree.f (k : Nat) (l0 : List (S_impl_Peg)) : Option (Bool) := if (l0.length : Int) = 3 then ((impl_IsPolygon.f k l0).bind fun t372 => (some t372)) else (some false)
theorem impl_isThree.mono : ∀ a0 k, LeO (impl_isThree.f k a0) (impl_isThree.f (k + 1) a0) := by
 intro a0 k
 unfold impl_isThree.f
 repeat' first
   | (with_reducible exact impl_IsPolygon.mono _ _)
   | (with_reducible exact LeO.refl _)
   | (with_reducible exact LeO.none _)
   | (with_reducible refine LeO.ite ?_ ?_)
   | (with_reducible refine LeO.bind ?_ (fun _ => ?_))
   | exact impl_IsPolygon.mono _ _
   | exact LeO.none _
   | refine LeO.ite ?_ ?_
   | refine LeO.bind ?_ (fun _ => ?_)
set_option maxHeartbeats 8000000 in
set_option maxRecDepth 100000 in
theorem impl_isThree.calls (k : Nat) (A0 : Option Addr) (c0 : Nat) (l0 : List (S_impl_Peg)) (r : Bool) (w : World) (hr0 : Kd.C kd_impl_Peg w A0 l0.length l0) (hc0 : l0.length ≤ c0) (h : impl_isThree.f k l0 = some r) :
  Calls Try.prog 96 #[.slice A0 l0.length c0] w fun e w' => e = .returned (.bool r) ∧ Below w.heap.size w w' := by
 have HR0 := aM hr0
 have HC0 := aM hc0
 clear hr0 hc0
 have HB := aM (Below.refl w.heap.size w)
 have H : (if (l0.length : Int) = 3 then ((impl_IsPolygon.f k l0).bind fun t372 => (some t372)) else (some false)) = some r := h
 clear h
 by_cases c2 : (l0.length : Int) = 3
 ·rw [if_pos c2] at H
  have c2b0 : ((l0.length : Int) == 3) = true := beq_iff_eq.mpr c2
  have c2b1 : ((l0.length : Int) != 3) = false := bne_eq_false_iff_eq.mpr c2
  clear c2
  replace H := oB.mp H
  obtain ⟨t372, A30, H⟩ := H
  replace H : (some t372) = some r := H
  have A3 := aM A30
  clear A30
  obtain rfl := Option.some.inj H
  go_enter Try.func96, Try.ntmps96
  go_wp2_with (first | (go_at_call 85; (with_reducible refine (impl_IsPolygon.calls k _ _ l0 t372 _ ?side1 ?side2 A3.out).mono ?_); (case side1 => repeat (first | exact HR0.out | (with_reducible refine cA ?_ _) | (with_reducible refine cN ?_ _) | (with_reducible refine cD ?_))); (case side2 => exact HC0.out); rintro e w4 ⟨rfl, hb⟩; have n0_ := aM (pT bQ hb); clear HB; have HB := n0_; clear n0_; (try clear hb); (try clear hb2); (try clear hk); (try clear hi)))
  go_ret
  exact ⟨by first | rfl | (simp [errW_none, errW_some] <;> rfl) | (simp [*, errW_none, errW_some] <;> rfl), bQ⟩
 ·rw [if_neg c2] at H
  have c2b0 : ((l0.length : Int) == 3) = false := beq_eq_false_iff_ne.mpr c2
  have c2b1 : ((l0.length : Int) != 3) = true := bne_iff_ne.mpr c2
  obtain rfl := Option.some.inj H
  go_enter Try.func96, Try.ntmps96
  go_wp2
  go_ret
  exact ⟨by first | rfl | (simp [errW_none, errW_some] <;> rfl) | (simp [*, errW_none, errW_some] <;> rfl), bQ⟩

def impl_Peg_plus.f (a0_0 : Int) (a0_1 : Int) (a1_0 : Int) (a1_1 : Int) : Option (Int × Int) := some (wrap64 (a0_0 + a1_0), wrap64 (a0_1 + a1_1))
set_option maxHeartbeats 8000000 in
set_option maxRecDepth 100000 in
theorem impl_Peg_plus.calls (a0_0 : Int) (a0_1 : Int) (a1_0 : Int) (a1_1 : Int) (r1 : Int) (r2 : Int) (w : World) (h : impl_Peg_plus.f a0_0 a0_1 a1_0 a1_1 = some (r1, r2)) :
  Calls Try.prog 98 #[.agg #[.int .i64 a0_0, .int .i64 a0_1], .agg #[.int .i64 a1_0, .int .i64 a1_1]] w fun e w' => e = .returned (.agg #[.int .i64 r1, .int .i64 r2]) ∧ Below w.heap.size w w' := by
 have hu34 := Try.underlying34
 have HB := aM (Below.refl w.heap.size w)
 have H : (some (wrap64 (a0_0 + a1_0), wrap64 (a0_1 + a1_1))) = some (r1, r2) := h
 clear h
 simp only [Option.some.injEq, Prod.mk.injEq] at H
 obtain ⟨rfl, rfl⟩ := H
 go_enter Try.func98, Try.ntmps98
 go_wp2_with (first | ((with_reducible refine gate_dst (N := 2) rfl ?_); refine box_event ?hg (N := 2) ?hd (cs := #[.int .i64 a0_0, .int .i64 a0_1]) (t := 34) ?hr ?_; (case hd => rfl); (case hg => rfl); (case hr => first | (go_simp; done) | (go_simp; rfl)); intro gb373 hg w3 hbox hb; have n0_ := aM (pT bQ hb); have n1_ := aM (hbox); have n2_ := aM ((by rw [hg]; exact (pZ bQ) : w.heap.size ≤ gb373)); have n3_ := aM ((by rw [hg]; exact (pZ bQ) : w.heap.size ≤ gb373)); clear HB; have HB := n0_; have BK373 := n1_; have GW373 := n2_; have GE373 := n3_; clear n0_ n1_ n2_ n3_; clear hb hbox hg) | ((with_reducible refine gate_dst (N := 3) rfl ?_); refine box_event ?hg (N := 3) ?hd (cs := #[.int .i64 a1_0, .int .i64 a1_1]) (t := 34) ?hr ?_; (case hd => rfl); (case hg => rfl); (case hr => first | (go_simp; done) | (go_simp; rfl)); intro gb374 hg w4 hbox hb; have n0_ := aM (blk_below (g := gb373) (o := .cells #[.int .i64 a0_0, .int .i64 a0_1] 34 (0, 0)) (gQ BK373) hb); have n1_ := aM (pT (by repeat (first | (with_reducible first | exact HB.out | apply pA | apply pN | apply pD | refine pS ?_ GE373.out) | exact HB.out)) hb); have n2_ := aM (hbox); have n3_ := aM ((by rw [hg]; exact (pZ (by repeat (first | (with_reducible first | exact HB.out | apply pA | apply pN | apply pD | refine pS ?_ GE373.out) | exact HB.out))) : w.heap.size ≤ gb374)); have n4_ := aM ((by rw [hg]; exact (pZ (by repeat (first | (with_reducible first | exact HB.out | apply pA | apply pN | apply pD | refine pS ?_ GE373.out) | exact HB.out))) : w.heap.size ≤ gb374)); have n5_ := aM ((by rw [hg]; exact nN (blk_lt (g := gb373) (o := .cells #[.int .i64 a0_0, .int .i64 a0_1] 34 (0, 0)) (gQ BK373)) : gb373 ≠ gb374)); have n6_ := aM ((by rw [hg]; exact Nat.ne_of_gt (blk_lt (g := gb373) (o := .cells #[.int .i64 a0_0, .int .i64 a0_1] 34 (0, 0)) (gQ BK373)) : gb374 ≠ gb373)); clear BK373; clear HB; have BK373 := n0_; have HB := n1_; have BK374 := n2_; have GW374 := n3_; have GE374 := n4_; have NB373_374 := n5_; have NB374_373 := n6_; clear n0_ n1_ n2_ n3_ n4_ n5_ n6_; clear hb hbox hg) | ((with_reducible refine gate_dst (N := 4) rfl ?_); refine box_event ?hg (N := 4) ?hd (cs := #[.int .i64 0, .int .i64 0]) (t := 34) ?hr ?_; (case hd => rfl); (case hg => rfl); (case hr => first | (go_simp; done) | (go_simp; rfl)); intro gb375 hg w5 hbox hb; have n0_ := aM (blk_below (g := gb373) (o := .cells #[.int .i64 a0_0, .int .i64 a0_1] 34 (0, 0)) (gQ BK373) hb); have n1_ := aM (blk_below (g := gb374) (o := .cells #[.int .i64 a1_0, .int .i64 a1_1] 34 (0, 0)) (gQ BK374) hb); have n2_ := aM (pT (by repeat (first | (with_reducible first | exact HB.out | apply pA | apply pN | apply pD | refine pS ?_ GE373.out | refine pS ?_ GE374.out) | exact HB.out)) hb); have n3_ := aM (hbox); have n4_ := aM ((by rw [hg]; exact (pZ (by repeat (first | (with_reducible first | exact HB.out | apply pA | apply pN | apply pD | refine pS ?_ GE373.out | refine pS ?_ GE374.out) | exact HB.out))) : w.heap.size ≤ gb375)); have n5_ := aM ((by rw [hg]; exact (pZ (by repeat (first | (with_reducible first | exact HB.out | apply pA | apply pN | apply pD | refine pS ?_ GE373.out | refine pS ?_ GE374.out) | exact HB.out))) : w.heap.size ≤ gb375)); have n6_ := aM ((by rw [hg]; exact nN (blk_lt (g := gb373) (o := .cells #[.int .i64 a0_0, .int .i64 a0_1] 34 (0, 0)) (gQ BK373)) : gb373 ≠ gb375)); have n7_ := aM ((by rw [hg]; exact Nat.ne_of_gt (blk_lt (g := gb373) (o := .cells #[.int .i64 a0_0, .int .i64 a0_1] 34 (0, 0)) (gQ BK373)) : gb375 ≠ gb373)); have n8_ := aM ((by rw [hg]; exact nN (blk_lt (g := gb374) (o := .cells #[.int .i64 a1_0, .int .i64 a1_1] 34 (0, 0)) (gQ BK374)) : gb374 ≠ gb375)); have n9_ := aM ((by rw [hg]; exact Nat.ne_of_gt (blk_lt (g := gb374) (o := .cells #[.int .i64 a1_0, .int .i64 a1_1] 34 (0, 0)) (gQ BK374)) : gb375 ≠ gb374)); clear BK373; clear BK374; clear HB; have BK373 := n0_; have BK374 := n1_; have HB := n2_; have BK375 := n3_; have GW375 := n4_; have GE375 := n5_; have NB373_375 := n6_; have NB375_373 := n7_; have NB374_375 := n8_; have NB375_374 := n9_; clear n0_ n1_ n2_ n3_ n4_ n5_ n6_ n7_ n8_ n9_; clear hb hbox hg; have hnb6 := NB373_374.out; have hnc6 := NB374_373.out; have hnb7 := NB373_375.out; have hnc7 := NB375_373.out; have hcz8_0 : w5.cell? ⟨gb373, 0, none⟩ = some (.int .i64 a0_0) := (kC BK373.out 0).trans rfl; have hcz8_1 : w5.cell? ⟨gb373, 1, none⟩ = some (.int .i64 a0_1) := (kC BK373.out 1).trans rfl; have hfz8_0 := kF BK373.out 0; have hfz8_1 := kF BK373.out 1; have hnb9 := NB374_375.out; have hnc9 := NB375_374.out; have hcz10_0 : w5.cell? ⟨gb374, 0, none⟩ = some (.int .i64 a1_0) := (kC BK374.out 0).trans rfl; have hcz10_1 : w5.cell? ⟨gb374, 1, none⟩ = some (.int .i64 a1_1) := (kC BK374.out 1).trans rfl; have hfz10_0 := kF BK374.out 0; have hfz10_1 := kF BK374.out 1; have hcz11_0 : w5.cell? ⟨gb375, 0, none⟩ = some (.int .i64 0) := (kC BK375.out 0).trans rfl; have hcz11_1 : w5.cell? ⟨gb375, 1, none⟩ = some (.int .i64 0) := (kC BK375.out 1).trans rfl; have hfz11_0 := kF BK375.out 0; have hfz11_1 := kF BK375.out 1))
 refine bodyPost_ret (results_cell_row rfl _ _ gb375 34 #[.int .i64 (wrap64 (a0_0 + a1_0)), .int .i64 (wrap64 (a0_1 + a1_1))] (0, 0) _ rfl (by (with_reducible repeat (first | refine kN ?_ _ | refine kD ?_ | refine kA ?_ _)); refine blk_put (cs := #[.int .i64 (wrap64 (a0_0 + a1_0)), .int .i64 0]) ?_ 1 _ rfl; (with_reducible repeat (first | refine kN ?_ _ | refine kD ?_ | refine kA ?_ _)); refine blk_put (cs := #[.int .i64 0, .int .i64 0]) ?_ 0 _ rfl; (with_reducible repeat (first | refine kN ?_ _ | refine kD ?_ | refine kA ?_ _)); exact BK375.out) Try.underlying34 rfl kR) rfl ?_
 exact ⟨by first | rfl | (simp [errW_none, errW_some] <;> rfl) | (simp [*, errW_none, errW_some] <;> rfl), by repeat (first | (with_reducible first | exact HB.out | apply pA | apply pN | apply pD | refine pS ?_ GE373.out | refine pS ?_ GE374.out | refine pS ?_ GE375.out) | exact HB.out)⟩

def impl_MiddleThree.l0 : Nat → List (S_impl_Peg) → List (S_impl_Peg) → Int → Int → Option ((List (S_impl_Peg)) × Bool)
 | 0, _, _, _, _ => none
 | k + 1, x0, x4, x12, x13 => if x13 < x12 then ((impl_at.f x0 (wrap64 (x13 + 1))).bind fun bt380 => ((impl_at.f x0 (wrap64 (x13 + 2))).bind fun bt382 => ((impl_Peg_plus.f bt380.1 bt380.2 bt382.1 bt382.2).bind fun bt384 => (if (Int.tmod bt384.1 2) = 0 then (if (Int.tmod bt384.2 2) = 0 then (if x4.length < 8796093022208 then (impl_MiddleThree.l0 k x0 (x4 ++ [(⟨wrap64 (Int.tdiv bt384.1 2), wrap64 (Int.tdiv bt384.2 2)⟩ : S_impl_Peg)]) x12 (wrap64 (x13 + 1))) else (none)) else (some (([] : List (S_impl_Peg)), false))) else (some (([] : List (S_impl_Peg)), false)))))) else (some (x4, true))
def impl_MiddleThree.f (k : Nat) (l0 : List (S_impl_Peg)) : Option ((List (S_impl_Peg)) × Bool) := (impl_isThree.f k l0).bind fun t376 => (if t376 = true then (impl_MiddleThree.l0 k l0 (([] : List (S_impl_Peg))) (l0.length : Int) 0) else (some (([] : List (S_impl_Peg)), false)))
theorem impl_MiddleThree.mono_l : ∀ k, (∀ y0 y1 y2 y3, LeO (impl_MiddleThree.l0 k y0 y1 y2 y3) (impl_MiddleThree.l0 (k + 1) y0 y1 y2 y3))
 | 0 => fun _ _ _ _ r h => by simp [impl_MiddleThree.l0] at h
 | k + 1 => by
  have ih0 := impl_MiddleThree.mono_l k
  ·intro y0 y1 y2 y3
   unfold impl_MiddleThree.l0
   repeat' first
   | (with_reducible exact ih0 _ _ _ _)
   | (with_reducible exact impl_isThree.mono _ _)
   | (with_reducible exact LeO.refl _)
   | (with_reducible exact LeO.none _)
   | (with_reducible refine LeO.ite ?_ ?_)
   | (with_reducible refine LeO.bind ?_ (fun _ => ?_))
   | exact ih0 _ _ _ _
   | exact impl_isThree.mono _ _
   | exact LeO.none _
   | refine LeO.ite ?_ ?_
   | refine LeO.bind ?_ (fun _ => ?_)
theorem impl_MiddleThree.mono : ∀ a0 k, LeO (impl_MiddleThree.f k a0) (impl_MiddleThree.f (k + 1) a0) := by
 intro a0 k
 have ih0 := impl_MiddleThree.mono_l k
 unfold impl_MiddleThree.f
 repeat' first
   | (with_reducible exact ih0 _ _ _ _)
   | (with_reducible exact impl_isThree.mono _ _)
   | (with_reducible exact LeO.refl _)
   | (with_reducible exact LeO.none _)
   | (with_reducible refine LeO.ite ?_ ?_)
   | (with_reducible refine LeO.bind ?_ (fun _ => ?_))
   | exact ih0 _ _ _ _
   | exact impl_isThree.mono _ _
   | exact LeO.none _
   | refine LeO.ite ?_ ?_
   | refine LeO.bind ?_ (fun _ => ?_)
set_option maxHeartbeats 8000000 in
set_option maxRecDepth 100000 in
theorem impl_MiddleThree.calls (k : Nat) (A0 : Option Addr) (c0 : Nat) (l0 : List (S_impl_Peg)) (r1 : List (S_impl_Peg)) (r2 : Bool) (w : World) (hr0 : Kd.C kd_impl_Peg w A0 l0.length l0) (hc0 : l0.length ≤ c0) (h : impl_MiddleThree.f k l0 = some (r1, r2)) :
  Calls Try.prog 40 #[.slice A0 l0.length c0] w fun e w' => ∃ v0_ : Value, e = .returned (.tuple #[v0_, .bool r2]) ∧ Kd.R kd_impl_Peg 34 w' w.heap.size (fun _ => True) v0_ r1 ∧ Below w.heap.size w w' := by
 have hu34 := Try.underlying34
 have HR0 := aM hr0
 have HC0 := aM hc0
 clear hr0 hc0
 have HB := aM (Below.refl w.heap.size w)
 have H : ((impl_isThree.f k l0).bind fun t376 => (if t376 = true then (impl_MiddleThree.l0 k l0 (([] : List (S_impl_Peg))) (l0.length : Int) 0) else (some (([] : List (S_impl_Peg)), false)))) = some (r1, r2) := h
 clear h
 replace H := oB.mp H
 obtain ⟨t376, A20, H⟩ := H
 replace H : (if t376 = true then (impl_MiddleThree.l0 k l0 (([] : List (S_impl_Peg))) (l0.length : Int) 0) else (some (([] : List (S_impl_Peg)), false))) = some (r1, r2) := H
 have A2 := aM A20
 clear A20
 by_cases c3 : t376 = true
 ·subst c3
  have H1 : (impl_MiddleThree.l0 k l0 (([] : List (S_impl_Peg))) (l0.length : Int) 0) = some (r1, r2) := by rw [if_pos rfl] at H; exact H
  clear H
  have H := H1
  clear H1
  obtain ⟨y377, hy377⟩ : ∃ y_ : List (S_impl_Peg), y_ = (([] : List (S_impl_Peg))) := ⟨_, rfl⟩
  replace H : (impl_MiddleThree.l0 k l0 y377 (l0.length : Int) 0) = some (r1, r2) := by first | (rw [hy377]; with_reducible exact H) | (have H2_ := (Option.bind_some _ _).symm.trans H; rw [hy377]; with_reducible exact H2_) | (have H2_ := (Option.bind_some _ _).symm.trans H; with_reducible exact H2_) | with_reducible exact H | (rw [hy377]; exact H) | exact H
  have Ny377 := aM hy377
  clear hy377
  have H' := aM H
  clear H
  go_enter Try.func40, Try.ntmps40
  go_wp2_with (first | ((with_reducible refine gC (f := 96) rfl ?_); refine goesL_ (some 8) rfl rfl Try.func96 kR rfl #[.slice A0 l0.length c0] rfl sQ ?_; (with_reducible refine (impl_isThree.calls k _ _ l0 true _ ?side1 ?side2 A2.out).mono ?_); (case side1 => repeat (first | exact HR0.out | (with_reducible refine cA ?_ _) | (with_reducible refine cN ?_ _) | (with_reducible refine cD ?_))); (case side2 => exact HC0.out); rintro e w4 ⟨rfl, hb⟩; refine ⟨_, rfl, ?_⟩; have n0_ := aM (pT bQ hb); clear HB; have HB := n0_; clear n0_; (try clear hb); (try clear hb2); (try clear hk); (try clear hi)) | ((with_reducible refine gate_dst (N := 10) rfl ?_); refine Kd.R_lit kd_impl_Peg _ 34 ?hg (N := 10) ?hd (xs := ([] : List (S_impl_Peg))) (inner := []) (ok := fun _ => True) (okp := fun _ => True) ?hr ?hp (fun _ hk => hk) trivial (Below.refl _ _) (Nat.le_refl _) (by simp) ?_; (case hd => rfl); (case hg => rfl); (case hr => first | (go_simp; done) | (go_simp; rfl)); (case hp => exact (Reps.none _ _)); intro v378 w5 ho6 hb hg_ hnew_; clear hg_ hnew_; (first | rw [← Ny377.out] at ho6 | (simp only [Int.reduceToNat] at ho6; rw [← Ny377.out] at ho6)); have n0_ := aM (Kd.R_lower ho6 (pZ bQ)); have n1_ := aM (pT bQ hb); clear HB; have HO379 := n0_; have HB := n1_; clear n0_ n1_; clear hb ho6))
  go_loopg [4, 13] k (fun kq v4 v13 w' => ∃ (x4_1 : List (S_impl_Peg)) (x13_1 : Int), v13 = .int .i64 x13_1 ∧ Aside0 (impl_MiddleThree.l0 kq l0 x4_1 (l0.length : Int) x13_1 = some (r1, r2)) ∧ Aside0 (kq ≤ k) ∧ Aside0 (Kd.R kd_impl_Peg 34 w' w.heap.size (fun _ => True) v4 x4_1) ∧ Aside0 (Below w.heap.size w w'))
  case atStart => exact ⟨(y377), (0), eQ, H', ⟨Nat.le_refl _⟩, ⟨by (with_reducible repeat (first | apply rA | apply rN | apply rD)); exact HO379.out⟩, ⟨bQ⟩⟩
  case round =>
   clear H'
   try clear p2
   try clear c3
   try clear c4
   obtain ⟨x4_1, x13_1, rfl, HA, HK1, HO_4, HB⟩ := hrel
   cases gk with
   | zero => exact absurd HA.out (by simp [impl_MiddleThree.l0])
   | succ k1 =>
    have H := HA.out
    clear HA
    simp only [impl_MiddleThree.l0] at H
    by_cases c7 : x13_1 < (l0.length : Int)
    ·rw [if_pos c7] at H
     have c7b0 : decide (x13_1 < (l0.length : Int)) = true := dE c7
     clear c7
     replace H := oB.mp H
     obtain ⟨⟨t380, t381⟩, A80, H⟩ := H
     replace H : ((impl_at.f l0 (wrap64 (x13_1 + 2))).bind fun bt382 => ((impl_Peg_plus.f t380 t381 bt382.1 bt382.2).bind fun bt384 => (if (Int.tmod bt384.1 2) = 0 then (if (Int.tmod bt384.2 2) = 0 then (if x4_1.length < 8796093022208 then (impl_MiddleThree.l0 k1 l0 (x4_1 ++ [(⟨wrap64 (Int.tdiv bt384.1 2), wrap64 (Int.tdiv bt384.2 2)⟩ : S_impl_Peg)]) (l0.length : Int) (wrap64 (x13_1 + 1))) else (none)) else (some (([] : List (S_impl_Peg)), false))) else (some (([] : List (S_impl_Peg)), false))))) = some (r1, r2) := H
     have A8 := aM A80
     clear A80
     replace H := oB.mp H
     obtain ⟨⟨t382, t383⟩, A90, H⟩ := H
     replace H : ((impl_Peg_plus.f t380 t381 t382 t383).bind fun bt384 => (if (Int.tmod bt384.1 2) = 0 then (if (Int.tmod bt384.2 2) = 0 then (if x4_1.length < 8796093022208 then (impl_MiddleThree.l0 k1 l0 (x4_1 ++ [(⟨wrap64 (Int.tdiv bt384.1 2), wrap64 (Int.tdiv bt384.2 2)⟩ : S_impl_Peg)]) (l0.length : Int) (wrap64 (x13_1 + 1))) else (none)) else (some (([] : List (S_impl_Peg)), false))) else (some (([] : List (S_impl_Peg)), false)))) = some (r1, r2) := H
     have A9 := aM A90
     clear A90
     replace H := oB.mp H
     obtain ⟨⟨t384, t385⟩, A100, H⟩ := H
     replace H : (if (Int.tmod t384 2) = 0 then (if (Int.tmod t385 2) = 0 then (if x4_1.length < 8796093022208 then (impl_MiddleThree.l0 k1 l0 (x4_1 ++ [(⟨wrap64 (Int.tdiv t384 2), wrap64 (Int.tdiv t385 2)⟩ : S_impl_Peg)]) (l0.length : Int) (wrap64 (x13_1 + 1))) else (none)) else (some (([] : List (S_impl_Peg)), false))) else (some (([] : List (S_impl_Peg)), false))) = some (r1, r2) := H
     have A10 := aM A100
     clear A100
     by_cases c11 : (Int.tmod t384 2) = 0
     ·rw [if_pos c11] at H
      have c11b0 : ((Int.tmod t384 2) == 0) = true := beq_iff_eq.mpr c11
      have c11b1 : ((Int.tmod t384 2) != 0) = false := bne_eq_false_iff_eq.mpr c11
      clear c11
      by_cases c12 : (Int.tmod t385 2) = 0
      ·rw [if_pos c12] at H
       have c12b0 : ((Int.tmod t385 2) == 0) = true := beq_iff_eq.mpr c12
       have c12b1 : ((Int.tmod t385 2) != 0) = false := bne_eq_false_iff_eq.mpr c12
       clear c12
       by_cases c13 : x4_1.length < 8796093022208
       ·rw [if_pos c13] at H
        have LMc13 := aM c13
        clear c13
        obtain ⟨y387, hy387⟩ : ∃ y_ : List (S_impl_Peg), y_ = (x4_1 ++ [(⟨wrap64 (Int.tdiv t384 2), wrap64 (Int.tdiv t385 2)⟩ : S_impl_Peg)]) := ⟨_, rfl⟩
        replace H : (impl_MiddleThree.l0 k1 l0 y387 (l0.length : Int) (wrap64 (x13_1 + 1))) = some (r1, r2) := by first | (rw [hy387]; with_reducible exact H) | (have H2_ := (Option.bind_some _ _).symm.trans H; rw [hy387]; with_reducible exact H2_) | (have H2_ := (Option.bind_some _ _).symm.trans H; with_reducible exact H2_) | with_reducible exact H | (rw [hy387]; exact H) | exact H
        have Ny387 := aM hy387
        clear hy387
        have H' := aM H
        clear H
        go_wp2_with (first | ((with_reducible refine gC (f := 97) rfl ?_); refine goesL_ (some 19) rfl rfl Try.func97 kR rfl #[.slice A0 l0.length c0, .int .i64 (wrap64 (x13_1 + 1))] rfl sQ ?_; (with_reducible refine (impl_at.calls _ _ l0 (wrap64 (x13_1 + 1)) t380 t381 _ ?side1 ?side2 A8.out).mono ?_); (case side1 => repeat (first | exact (Kd.C_below HR0.out HB.out) | (with_reducible refine cA ?_ _) | (with_reducible refine cN ?_ _) | (with_reducible refine cD ?_))); (case side2 => exact HC0.out); rintro e w14 ⟨rfl, hb⟩; refine ⟨_, rfl, ?_⟩; have n0_ := aM (Kd.R_below (rQ HO_4) hb); have n1_ := aM (pT bQ hb); clear HO_4; clear HB; have HO_4 := n0_; have HB := n1_; clear n0_ n1_; (try clear hb); (try clear hb2); (try clear hk); (try clear hi)) | ((with_reducible refine gC (f := 97) rfl ?_); refine goesL_ (some 23) rfl rfl Try.func97 kR rfl #[.slice A0 l0.length c0, .int .i64 (wrap64 (x13_1 + 2))] rfl sQ ?_; (with_reducible refine (impl_at.calls _ _ l0 (wrap64 (x13_1 + 2)) t382 t383 _ ?side1 ?side2 A9.out).mono ?_); (case side1 => repeat (first | exact (Kd.C_below HR0.out HB.out) | (with_reducible refine cA ?_ _) | (with_reducible refine cN ?_ _) | (with_reducible refine cD ?_))); (case side2 => exact HC0.out); rintro e w15 ⟨rfl, hb⟩; refine ⟨_, rfl, ?_⟩; have n0_ := aM (Kd.R_below (rQ HO_4) hb); have n1_ := aM (pT bQ hb); clear HO_4; clear HB; have HO_4 := n0_; have HB := n1_; clear n0_ n1_; (try clear hb); (try clear hb2); (try clear hk); (try clear hi)) | ((with_reducible refine gC (f := 98) rfl ?_); refine goesL_ (some 24) rfl rfl Try.func98 kR rfl #[.agg #[.int .i64 t380, .int .i64 t381], .agg #[.int .i64 t382, .int .i64 t383]] rfl sQ ?_; (with_reducible refine (impl_Peg_plus.calls t380 t381 t382 t383 t384 t385 _ A10.out).mono ?_); rintro e w16 ⟨rfl, hb⟩; refine ⟨_, rfl, ?_⟩; have n0_ := aM (Kd.R_below (rQ HO_4) hb); have n1_ := aM (pT bQ hb); clear HO_4; clear HB; have HO_4 := n0_; have HB := n1_; clear n0_ n1_; (try clear hb); (try clear hb2); (try clear hk); (try clear hi)) | ((with_reducible refine gate_dst (N := 6) rfl ?_); refine box_event ?hg (N := 6) ?hd (cs := #[.int .i64 0, .int .i64 0]) (t := 34) ?hr ?_; (case hd => rfl); (case hg => rfl); (case hr => first | (go_simp; done) | (go_simp; rfl)); intro gb386 hg w17 hbox hb; have n0_ := aM (Kd.R_below (Kd.R_elderB (rQ HO_4) gb386 (Nat.le_of_eq hg.symm)) hb); have n1_ := aM (pT bQ hb); have n2_ := aM (hbox); have n3_ := aM ((by rw [hg]; exact (pZ bQ) : w.heap.size ≤ gb386)); have n4_ := aM ((by rw [hg]; exact (pZ bQ) : w.heap.size ≤ gb386)); clear HO_4; clear HB; have HO_4 := n0_; have HB := n1_; have BK386 := n2_; have GW386 := n3_; have GE386 := n4_; clear n0_ n1_ n2_ n3_ n4_; clear hb hbox hg; have hcz18_0 : w17.cell? ⟨gb386, 0, none⟩ = some (.int .i64 0) := (kC BK386.out 0).trans rfl; have hcz18_1 : w17.cell? ⟨gb386, 1, none⟩ = some (.int .i64 0) := (kC BK386.out 1).trans rfl; have hfz18_0 := kF BK386.out 0; have hfz18_1 := kF BK386.out 1) | ((with_reducible refine gate_builtin (b := .append) (xs := #[.tmp 35, .tmp 43]) rfl ?_); at_builtin; refine Kd.R_append kd_impl_Peg (w0 := w) w.heap.size rfl (.tmp 35) (.tmp 43) 26 34 (.agg #[(.int .i64 0), (.int .i64 0)]) 16 rfl Try.underlying26 info34 rfl (by decide) (by omega) u4 x4_1 (⟨wrap64 (Int.tdiv t384 2), wrap64 (Int.tdiv t385 2)⟩ : S_impl_Peg) [.int .i64 (wrap64 (Int.tdiv t384 2)), .int .i64 (wrap64 (Int.tdiv t385 2))] (fun k_ => k_ ≠ gb386) (fun _ => False) rfl (by first | (go_simp; done) | (go_simp; rfl)) ?aP (fun _ hk => hk.elim) ?aF ?aO ?aB ?aS ?aL ?_; (case aP => exact kd_impl_Peg_mkM _ _ _ (⟨wrap64 (Int.tdiv t384 2), wrap64 (Int.tdiv t385 2)⟩ : S_impl_Peg)); (case aB => exact (by repeat (first | (with_reducible first | exact HB.out | apply pA | apply pN | apply pD | refine pS ?_ GE386.out) | exact HB.out))); (case aF => exact (fun k_ hk => Kd.freshB (g := gb386) (o := .cells #[.int .i64 t384, .int .i64 t385] 34 (0, 0)) (by (with_reducible repeat (first | refine kN ?_ _ | refine kD ?_ | refine kA ?_ _)); refine blk_put (cs := #[.int .i64 t384, .int .i64 0]) ?_ 1 _ rfl; (with_reducible repeat (first | refine kN ?_ _ | refine kD ?_ | refine kA ?_ _)); refine blk_put (cs := #[.int .i64 0, .int .i64 0]) ?_ 0 _ rfl; (with_reducible repeat (first | refine kN ?_ _ | refine kD ?_ | refine kA ?_ _)); exact BK386.out) k_ hk)); (case aO => exact (by (with_reducible repeat (first | apply rA | apply rN | apply rD)); exact Kd.R_mono (Kd.R_far (p := ⟨gb386, 1, none⟩) (Kd.R_far (p := ⟨gb386, 0, none⟩) (Kd.R_mono HO_4.out (fun k_ hk => (⟨hk, hk.2⟩ : _ ∧ k_ ≠ gb386))) (fun _ hk => hk.2) (.int .i64 t384)) (fun _ hk => hk.2) (.int .i64 t385)) (fun _ hk => hk.1.2))); (case aS => exact (pZ (by repeat (first | (with_reducible first | exact HB.out | apply pA | apply pN | apply pD | refine pS ?_ GE386.out) | exact HB.out)))); (case aL => have := LMc13.out; omega); intro v388 w19 ho hb hg hat; rw [← Ny387.out] at ho; have n0_ := aM (blk_grown (g := gb386) (o := .cells #[.int .i64 t384, .int .i64 t385] 34 (0, 0)) (by (with_reducible repeat (first | refine kN ?_ _ | refine kD ?_ | refine kA ?_ _)); refine blk_put (cs := #[.int .i64 t384, .int .i64 0]) ?_ 1 _ rfl; (with_reducible repeat (first | refine kN ?_ _ | refine kD ?_ | refine kA ?_ _)); refine blk_put (cs := #[.int .i64 0, .int .i64 0]) ?_ 0 _ rfl; (with_reducible repeat (first | refine kN ?_ _ | refine kD ?_ | refine kA ?_ _)); exact BK386.out) hg (Kd.R_away HO_4.out (fun _ hk => hk.2))); have n1_ := aM (hb); have n2_ := aM (ho); clear BK386; clear HB; clear HO_4; have BK386 := n0_; have HB := n1_; have HO389 := n2_; clear n0_ n1_ n2_; clear ho hb hg hat))
        go_roundg k1
        case measure => have := HK1.out; omega
        case rel => exact ⟨(y387), (wrap64 (x13_1 + 1)), eQ, H', ⟨by have := HK1.out; omega⟩, ⟨by (with_reducible repeat (first | apply rA | apply rN | apply rD)); exact Kd.R_mono HO389.out (fun _ hk => trivial)⟩, ⟨by repeat (first | (with_reducible first | exact HB.out | apply pA | apply pN | apply pD | refine pS ?_ GE386.out) | exact HB.out)⟩⟩
       ·rw [if_neg c13] at H
        exact absurd H (by simp)
      ·rw [if_neg c12] at H
       have c12b0 : ((Int.tmod t385 2) == 0) = false := beq_eq_false_iff_ne.mpr c12
       have c12b1 : ((Int.tmod t385 2) != 0) = true := bne_iff_ne.mpr c12
       simp only [Option.some.injEq, Prod.mk.injEq] at H
       obtain ⟨rfl, rfl⟩ := H
       go_wp2_with (first | ((with_reducible refine gC (f := 97) rfl ?_); refine goesL_ (some 19) rfl rfl Try.func97 kR rfl #[.slice A0 l0.length c0, .int .i64 (wrap64 (x13_1 + 1))] rfl sQ ?_; (with_reducible refine (impl_at.calls _ _ l0 (wrap64 (x13_1 + 1)) t380 t381 _ ?side1 ?side2 A8.out).mono ?_); (case side1 => repeat (first | exact (Kd.C_below HR0.out HB.out) | (with_reducible refine cA ?_ _) | (with_reducible refine cN ?_ _) | (with_reducible refine cD ?_))); (case side2 => exact HC0.out); rintro e w20 ⟨rfl, hb⟩; refine ⟨_, rfl, ?_⟩; have n0_ := aM (Kd.R_below (rQ HO_4) hb); have n1_ := aM (pT bQ hb); clear HO_4; clear HB; have HO_4 := n0_; have HB := n1_; clear n0_ n1_; (try clear hb); (try clear hb2); (try clear hk); (try clear hi)) | ((with_reducible refine gC (f := 97) rfl ?_); refine goesL_ (some 23) rfl rfl Try.func97 kR rfl #[.slice A0 l0.length c0, .int .i64 (wrap64 (x13_1 + 2))] rfl sQ ?_; (with_reducible refine (impl_at.calls _ _ l0 (wrap64 (x13_1 + 2)) t382 t383 _ ?side1 ?side2 A9.out).mono ?_); (case side1 => repeat (first | exact (Kd.C_below HR0.out HB.out) | (with_reducible refine cA ?_ _) | (with_reducible refine cN ?_ _) | (with_reducible refine cD ?_))); (case side2 => exact HC0.out); rintro e w21 ⟨rfl, hb⟩; refine ⟨_, rfl, ?_⟩; have n0_ := aM (Kd.R_below (rQ HO_4) hb); have n1_ := aM (pT bQ hb); clear HO_4; clear HB; have HO_4 := n0_; have HB := n1_; clear n0_ n1_; (try clear hb); (try clear hb2); (try clear hk); (try clear hi)) | ((with_reducible refine gC (f := 98) rfl ?_); refine goesL_ (some 24) rfl rfl Try.func98 kR rfl #[.agg #[.int .i64 t380, .int .i64 t381], .agg #[.int .i64 t382, .int .i64 t383]] rfl sQ ?_; (with_reducible refine (impl_Peg_plus.calls t380 t381 t382 t383 t384 t385 _ A10.out).mono ?_); rintro e w22 ⟨rfl, hb⟩; refine ⟨_, rfl, ?_⟩; have n0_ := aM (Kd.R_below (rQ HO_4) hb); have n1_ := aM (pT bQ hb); clear HO_4; clear HB; have HO_4 := n0_; have HB := n1_; clear n0_ n1_; (try clear hb); (try clear hb2); (try clear hk); (try clear hi)) | ((with_reducible refine gate_dst (N := 6) rfl ?_); refine box_event ?hg (N := 6) ?hd (cs := #[.int .i64 0, .int .i64 0]) (t := 34) ?hr ?_; (case hd => rfl); (case hg => rfl); (case hr => first | (go_simp; done) | (go_simp; rfl)); intro gb386 hg w23 hbox hb; have n0_ := aM (Kd.R_below (Kd.R_elderB (rQ HO_4) gb386 (Nat.le_of_eq hg.symm)) hb); have n1_ := aM (pT bQ hb); have n2_ := aM (hbox); have n3_ := aM ((by rw [hg]; exact (pZ bQ) : w.heap.size ≤ gb386)); have n4_ := aM ((by rw [hg]; exact (pZ bQ) : w.heap.size ≤ gb386)); clear HO_4; clear HB; have HO_4 := n0_; have HB := n1_; have BK386 := n2_; have GW386 := n3_; have GE386 := n4_; clear n0_ n1_ n2_ n3_ n4_; clear hb hbox hg; have hcz24_0 : w23.cell? ⟨gb386, 0, none⟩ = some (.int .i64 0) := (kC BK386.out 0).trans rfl; have hcz24_1 : w23.cell? ⟨gb386, 1, none⟩ = some (.int .i64 0) := (kC BK386.out 1).trans rfl; have hfz24_0 := kF BK386.out 0; have hfz24_1 := kF BK386.out 1))
       go_ret2
       exact ⟨_, by first | rfl | (simp [errW_none, errW_some] <;> rfl) | (simp [*, errW_none, errW_some] <;> rfl), by first | exact Kd.R_nil _ _ _ _ _ | exact Kd.N_nil _ _ _ _ _ | exact Kd.V_nil _ _ _ _ _ | exact Kd.Q_nil _ _ _ _ _ | exact Kd.S_nil _ _ _ _ _, by repeat (first | (with_reducible first | exact HB.out | apply pA | apply pN | apply pD | refine pS ?_ GE386.out) | exact HB.out)⟩
     ·rw [if_neg c11] at H
      have c11b0 : ((Int.tmod t384 2) == 0) = false := beq_eq_false_iff_ne.mpr c11
      have c11b1 : ((Int.tmod t384 2) != 0) = true := bne_iff_ne.mpr c11
      simp only [Option.some.injEq, Prod.mk.injEq] at H
      obtain ⟨rfl, rfl⟩ := H
      go_wp2_with (first | ((with_reducible refine gC (f := 97) rfl ?_); refine goesL_ (some 19) rfl rfl Try.func97 kR rfl #[.slice A0 l0.length c0, .int .i64 (wrap64 (x13_1 + 1))] rfl sQ ?_; (with_reducible refine (impl_at.calls _ _ l0 (wrap64 (x13_1 + 1)) t380 t381 _ ?side1 ?side2 A8.out).mono ?_); (case side1 => repeat (first | exact (Kd.C_below HR0.out HB.out) | (with_reducible refine cA ?_ _) | (with_reducible refine cN ?_ _) | (with_reducible refine cD ?_))); (case side2 => exact HC0.out); rintro e w25 ⟨rfl, hb⟩; refine ⟨_, rfl, ?_⟩; have n0_ := aM (Kd.R_below (rQ HO_4) hb); have n1_ := aM (pT bQ hb); clear HO_4; clear HB; have HO_4 := n0_; have HB := n1_; clear n0_ n1_; (try clear hb); (try clear hb2); (try clear hk); (try clear hi)) | ((with_reducible refine gC (f := 97) rfl ?_); refine goesL_ (some 23) rfl rfl Try.func97 kR rfl #[.slice A0 l0.length c0, .int .i64 (wrap64 (x13_1 + 2))] rfl sQ ?_; (with_reducible refine (impl_at.calls _ _ l0 (wrap64 (x13_1 + 2)) t382 t383 _ ?side1 ?side2 A9.out).mono ?_); (case side1 => repeat (first | exact (Kd.C_below HR0.out HB.out) | (with_reducible refine cA ?_ _) | (with_reducible refine cN ?_ _) | (with_reducible refine cD ?_))); (case side2 => exact HC0.out); rintro e w26 ⟨rfl, hb⟩; refine ⟨_, rfl, ?_⟩; have n0_ := aM (Kd.R_below (rQ HO_4) hb); have n1_ := aM (pT bQ hb); clear HO_4; clear HB; have HO_4 := n0_; have HB := n1_; clear n0_ n1_; (try clear hb); (try clear hb2); (try clear hk); (try clear hi)) | ((with_reducible refine gC (f := 98) rfl ?_); refine goesL_ (some 24) rfl rfl Try.func98 kR rfl #[.agg #[.int .i64 t380, .int .i64 t381], .agg #[.int .i64 t382, .int .i64 t383]] rfl sQ ?_; (with_reducible refine (impl_Peg_plus.calls t380 t381 t382 t383 t384 t385 _ A10.out).mono ?_); rintro e w27 ⟨rfl, hb⟩; refine ⟨_, rfl, ?_⟩; have n0_ := aM (Kd.R_below (rQ HO_4) hb); have n1_ := aM (pT bQ hb); clear HO_4; clear HB; have HO_4 := n0_; have HB := n1_; clear n0_ n1_; (try clear hb); (try clear hb2); (try clear hk); (try clear hi)) | ((with_reducible refine gate_dst (N := 6) rfl ?_); refine box_event ?hg (N := 6) ?hd (cs := #[.int .i64 0, .int .i64 0]) (t := 34) ?hr ?_; (case hd => rfl); (case hg => rfl); (case hr => first | (go_simp; done) | (go_simp; rfl)); intro gb386 hg w28 hbox hb; have n0_ := aM (Kd.R_below (Kd.R_elderB (rQ HO_4) gb386 (Nat.le_of_eq hg.symm)) hb); have n1_ := aM (pT bQ hb); have n2_ := aM (hbox); have n3_ := aM ((by rw [hg]; exact (pZ bQ) : w.heap.size ≤ gb386)); have n4_ := aM ((by rw [hg]; exact (pZ bQ) : w.heap.size ≤ gb386)); clear HO_4; clear HB; have HO_4 := n0_; have HB := n1_; have BK386 := n2_; have GW386 := n3_; have GE386 := n4_; clear n0_ n1_ n2_ n3_ n4_; clear hb hbox hg; have hcz29_0 : w28.cell? ⟨gb386, 0, none⟩ = some (.int .i64 0) := (kC BK386.out 0).trans rfl; have hcz29_1 : w28.cell? ⟨gb386, 1, none⟩ = some (.int .i64 0) := (kC BK386.out 1).trans rfl; have hfz29_0 := kF BK386.out 0; have hfz29_1 := kF BK386.out 1))
      go_ret2
      exact ⟨_, by first | rfl | (simp [errW_none, errW_some] <;> rfl) | (simp [*, errW_none, errW_some] <;> rfl), by first | exact Kd.R_nil _ _ _ _ _ | exact Kd.N_nil _ _ _ _ _ | exact Kd.V_nil _ _ _ _ _ | exact Kd.Q_nil _ _ _ _ _ | exact Kd.S_nil _ _ _ _ _, by repeat (first | (with_reducible first | exact HB.out | apply pA | apply pN | apply pD | refine pS ?_ GE386.out) | exact HB.out)⟩
    ·rw [if_neg c7] at H
     have c7b0 : decide (x13_1 < (l0.length : Int)) = false := decide_eq_false c7
     clear c7
     simp only [Option.some.injEq, Prod.mk.injEq] at H
     obtain ⟨rfl, rfl⟩ := H
     go_wp2
     go_ret2
     exact ⟨_, by first | rfl | (simp [errW_none, errW_some] <;> rfl) | (simp [*, errW_none, errW_some] <;> rfl), by (with_reducible repeat (first | apply rA | apply rN | apply rD)); exact HO_4.out, bQ⟩
 ·replace c3 := Bool.eq_false_iff.mpr c3
  subst c3
  have H1 : (some (([] : List (S_impl_Peg)), false)) = some (r1, r2) := by rw [if_neg (show ¬ (false = true) by decide)] at H; exact H
  clear H
  have H := H1
  clear H1
  simp only [Option.some.injEq, Prod.mk.injEq] at H
  obtain ⟨rfl, rfl⟩ := H
  go_enter Try.func40, Try.ntmps40
  go_wp2_with (first | ((with_reducible refine gC (f := 96) rfl ?_); refine goesL_ (some 8) rfl rfl Try.func96 kR rfl #[.slice A0 l0.length c0] rfl sQ ?_; (with_reducible refine (impl_isThree.calls k _ _ l0 false _ ?side1 ?side2 A2.out).mono ?_); (case side1 => repeat (first | exact HR0.out | (with_reducible refine cA ?_ _) | (with_reducible refine cN ?_ _) | (with_reducible refine cD ?_))); (case side2 => exact HC0.out); rintro e w30 ⟨rfl, hb⟩; refine ⟨_, rfl, ?_⟩; have n0_ := aM (pT bQ hb); clear HB; have HB := n0_; clear n0_; (try clear hb); (try clear hb2); (try clear hk); (try clear hi)))
  go_ret2
  exact ⟨_, by first | rfl | (simp [errW_none, errW_some] <;> rfl) | (simp [*, errW_none, errW_some] <;> rfl), by first | exact Kd.R_nil _ _ _ _ _ | exact Kd.N_nil _ _ _ _ _ | exact Kd.V_nil _ _ _ _ _ | exact Kd.Q_nil _ _ _ _ _ | exact Kd.S_nil _ _ _ _ _, bQ⟩

end Go.Proofs.Ytiacfkilmknldaa.X
