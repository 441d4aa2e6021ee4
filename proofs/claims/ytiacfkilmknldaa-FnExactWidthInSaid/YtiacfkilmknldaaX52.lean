-- thin
-- short
import Derived.Test.YtiacfkilmknldaaXA
import Derived.Test.YtiacfkilmknldaaX0
import Derived.Test.YtiacfkilmknldaaX51
namespace Go.Proofs.Ytiacfkilmknldaa.X
open Go.RowKit Go.Proofs.Ytiacfkilmknldaa.XW Go.Proofs.YtiacfkilmknldaaW.PrintWords Go.Proofs.YtiacfkilmknldaaW.PrintLast Go.Proofs.YtiacfkilmknldaaW.PrintMore
attribute [local go_sem] max2_int min2_int max_two min_two max_three min_three max_four min_four   -- for this text's walks alone
set_option linter.unusedVariables false
set_option linter.unusedSimpArgs false

def impl_extent.l0 : Nat → Int → Int → List (S_impl_Peg) → Int → Int → Int → Int → Option (Int × Int)
 | 0, _, _, _, _, _, _, _ => none
 | k + 1, x6, x7, x16, x17, x18, x894000, x894001 => if x18 < x17 then (if 0 ≤ x18 then (if x18 < (x16.length : Int) then ((impl_value.f x894000 x894001 ((rd_impl_Peg x16 x18).f0) ((rd_impl_Peg x16 x18).f1)).bind fun t898 => ((impl_value.f x894000 x894001 ((rd_impl_Peg x16 x18).f0) ((rd_impl_Peg x16 x18).f1)).bind fun t899 => (impl_extent.l0 k (mn x6 t898) (mx x7 t899) x16 x17 (wrap64 (x18 + 1)) x894000 x894001))) else (none)) else (none)) else (some (x6, x7))
def impl_extent.f (k : Nat) (l0 : List (S_impl_Peg)) (a1_0 : Int) (a1_1 : Int) : Option (Int × Int) := if 0 < (l0.length : Int) then ((impl_value.f a1_0 a1_1 ((rd_impl_Peg l0 0).f0) ((rd_impl_Peg l0 0).f1)).bind fun t895 => (impl_extent.l0 k t895 t895 l0 (l0.length : Int) 0 a1_0 a1_1)) else (none)
theorem impl_extent.mono_l : ∀ k, (∀ y0 y1 y2 y3 y4 y5 y6, LeO (impl_extent.l0 k y0 y1 y2 y3 y4 y5 y6) (impl_extent.l0 (k + 1) y0 y1 y2 y3 y4 y5 y6))
 | 0 => fun _ _ _ _ _ _ _ r h => by simp [impl_extent.l0] at h
 | k + 1 => by
  have ih0 := impl_extent.mono_l k
  ·intro y0 y1 y2 y3 y4 y5 y6
   unfold impl_extent.l0
   repeat' first
   | (with_reducible exact ih0 _ _ _ _ _ _ _)
   | (with_reducible exact LeO.refl _)
   | (with_reducible exact LeO.none _)
   | (with_reducible refine LeO.ite ?_ ?_)
   | (with_reducible refine LeO.bind ?_ (fun _ => ?_))
   | exact ih0 _ _ _ _ _ _ _
   | exact LeO.none _
   | refine LeO.ite ?_ ?_
   | refine LeO.bind ?_ (fun _ => ?_)
theorem impl_extent.mono : ∀ a0 a1 a2 k, LeO (impl_extent.f k a0 a1 a2) (impl_extent.f (k + 1) a0 a1 a2) := by
 intro a0 a1 a2 k
 have ih0 := impl_extent.mono_l k
 unfold impl_extent.f
 repeat' first
   | (with_reducible exact ih0 _ _ _ _ _ _ _)
   | (with_reducible exact LeO.refl _)
   | (with_reducible exact LeO.none _)
   | (with_reducible refine LeO.ite ?_ ?_)
   | (with_reducible refine LeO.bind ?_ (fun _ => ?_))
   | exact ih0 _ _ _ _ _ _ _
   | exact LeO.none _
   | refine LeO.ite ?_ ?_
   | refine LeO.bind ?_ (fun _ => ?_)
def impl_extent.T6 : Bool × List (List Nat × List Nat) := (true, [([], []), ([], []), ([], []), ([1, 2], [1, 2]), ([0, 3], [0, 3]), ([], []), ([], []), ([], []), ([6, 7, 3], [6, 7]), ([5, 8], [5, 8]), ([4, 8, 0, 1, 2, 3, 4], [0, 4]), ([9, 10, 0, 1, 2, 3, 4, 5, 6, 7, 8, 9, 10], [5, 9])])
def impl_extent.B6 : List Nat := [0, 0, 0, 6, 15, 0, 0, 0, 206, 494, 479, 2047]
theorem impl_extent.tab6 : rtab .any (opsOf Try.f149 6) = impl_extent.T6 := by kernel_rfl
theorem impl_extent.bits6 : waitsOk impl_extent.T6.2 impl_extent.B6 = true := by kernel_rfl
set_option maxHeartbeats 8000000 in
set_option maxRecDepth 100000 in
theorem impl_extent.calls (k : Nat) (A0 : Option Addr) (c0 : Nat) (l0 : List (S_impl_Peg)) (a1_0 : Int) (a1_1 : Int) (r1 : Int) (r2 : Int) (w : World) (hr0 : Kd.C kd_impl_Peg w A0 l0.length l0) (hc0 : l0.length ≤ c0) (h : impl_extent.f k l0 a1_0 a1_1 = some (r1, r2)) :
  Calls Try.prog 149 #[.slice A0 l0.length c0, .agg #[.int .i64 a1_0, .int .i64 a1_1]] w fun e w' => e = .returned (.tuple #[.int .i64 r1, .int .i64 r2]) ∧ Below w.heap.size w w' := by
 have hu34 := Try.underlying34
 have HR0 := aM hr0
 have HC0 := aM hc0
 clear hr0 hc0
 have HB := aM (Below.refl w.heap.size w)
 have H : (if 0 < (l0.length : Int) then ((impl_value.f a1_0 a1_1 ((rd_impl_Peg l0 0).f0) ((rd_impl_Peg l0 0).f1)).bind fun t895 => (impl_extent.l0 k t895 t895 l0 (l0.length : Int) 0 a1_0 a1_1)) else (none)) = some (r1, r2) := h
 clear h
 by_cases c3 : 0 < (l0.length : Int)
 ·rw [if_pos c3] at H
  have c3b0 : decide (0 < (l0.length : Int)) = true := dE c3
  have c3b1 : decide (0 < l0.length) = true := dE (by omega)
  clear c3
  replace H := oB.mp H
  obtain ⟨t895, A40, H⟩ := H
  replace H : (impl_extent.l0 k t895 t895 l0 (l0.length : Int) 0 a1_0 a1_1) = some (r1, r2) := H
  have A4 := aM A40
  clear A40
  have H' := aM H
  clear H
  go_enter Try.func149, Try.ntmps149
  try go_wp2_with (first | ((with_reducible refine gate_dst (N := 3) rfl ?_); refine box_event ?hg (N := 3) ?hd (cs := #[.int .i64 a1_0, .int .i64 a1_1]) (t := 34) ?hr ?_; (case hd => rfl); (case hg => rfl); (case hr => first | (go_simp; done) | (go_simp; rfl)); intro gb893 hg w5 hbox hb; have n0_ := aM (pT (by repeat (first | (with_reducible first | exact HB.out | apply pA | apply pN | apply pD) | exact HB.out)) hb); have n1_ := aM (hbox); have n2_ := aM ((by rw [hg]; exact (pZ (by repeat (first | (with_reducible first | exact HB.out | apply pA | apply pN | apply pD) | exact HB.out))) : w.heap.size ≤ gb893)); have n3_ := aM ((by rw [hg]; exact (pZ (by repeat (first | (with_reducible first | exact HB.out | apply pA | apply pN | apply pD) | exact HB.out))) : w.heap.size ≤ gb893)); clear HB; have HB := n0_; have BK893 := n1_; have GW893 := n2_; have GE893 := n3_; clear n0_ n1_ n2_ n3_; clear hb hbox hg))
  have n0_ := aM (kD BK893.out)
  have n1_ := aM (pD HB.out)
  clear BK893
  clear HB
  have BK893 := n0_
  have HB := n1_
  clear n0_ n1_
  have p894 : 0 ≤ (0 : Int) := (by omega)
  have q894 : 0 < (l0.length : Int) := dT (by first | (with_reducible assumption) | assumption)
  obtain ⟨ad894, e894, hx894_0, hx894_1⟩ := at_impl_Peg HR0.out 0 p894 q894
  have hw894_1 := hx894_1
  (try rw [show ((0 : Int)).toNat = 0 from rfl] at hw894_1)
  (try rw [show 0 * 2 = 0 from rfl] at hw894_1)
  (try rw [Addr.add_zero'] at hw894_1)
  have hw894_0 := hx894_0
  (try rw [show ((0 : Int)).toNat = 0 from rfl] at hw894_0)
  (try rw [show 0 * 2 = 0 from rfl] at hw894_0)
  (try rw [Addr.add_zero'] at hw894_0)
  cases e894
  have qi894 : (0 < l0.length) = True := eq_true (by omega)
  (try rw [show ((0 : Int)).toNat = 0 from rfl] at hx894_0)
  (try rw [show 0 * 2 = 0 from rfl] at hx894_0)
  (try rw [Addr.add_zero'] at hx894_0)
  (try rw [show ((0 : Int)).toNat = 0 from rfl] at hx894_1)
  (try rw [show 0 * 2 = 0 from rfl] at hx894_1)
  (try rw [Addr.add_zero'] at hx894_1)
  replace hx894_0 := (HB.out.cell (wB w _ hx894_0)).trans hx894_0
  replace hx894_1 := (HB.out.cell (wB w _ hx894_1)).trans hx894_1
  replace p894 := eq_true p894
  replace q894 := eq_true q894
  refine start_ (n := 6) (S := fun w' => w'.cell? ⟨gb893, 0, none⟩ = some (.int .i64 a1_0) ∧ w'.cell? ⟨gb893, 1, none⟩ = some (.int .i64 a1_1) ∧ w'.cell? ad894 = some (.int .i64 ((rd_impl_Peg l0 0).f0)) ∧ w'.cell? ⟨ad894.block, ad894.off + 1, none⟩ = some (.int .i64 ((rd_impl_Peg l0 0).f1))) (ds := []) #[false, false, false, false, false, false] (by kernel_rfl) rfl rfl ⟨(kC BK893.out 0).trans rfl, (kC BK893.out 1).trans rfl, ((HB.out.cell (wB w _ hw894_0)).trans hw894_0), ((HB.out.cell (wB w _ hw894_1)).trans hw894_1)⟩ (fun hHeld => ?_)
  generalize w5.drew = w6 at BK893 HB hx894_0 hx894_1 hHeld ⊢
  refine pure_ (i := 1) (N := some 11) (v := ?_) (a' := ?_) #[false, true, false, false, false, false] rfl rfl (by kernel_rfl) (fun _ _ _ h => h) (Or.inl ⟨by rfl, ?_⟩) ?_ ?_
  rotate_left
  ·intro w'
   go_simp
   with_reducible rfl
  rotate_left
  ·simp only [Act.put, sI, sZ, sS, i64_w, i32_w]
   rfl
  refine pure_ (i := 2) (N := some 12) (v := ?_) (a' := ?_) #[false, true, true, false, false, false] rfl rfl (by kernel_rfl) (fun _ _ _ h => h) (Or.inl ⟨by rfl, ?_⟩) ?_ ?_
  rotate_left
  ·intro w'
   go_simp
   with_reducible rfl
  rotate_left
  ·simp only [Act.put, sI, sZ, sS, i64_w, i32_w]
   rfl
  refine take_ (i := 0) (N := some 10) (v := ?_) (a' := ?_) #[true, true, true, false, false, false] rfl rfl (by kernel_rfl) (fun _ _ _ h => h) (Or.inl ⟨by rfl, ?_⟩) hHeld ?_ ?_
  rotate_left
  ·rintro w' ⟨s0, s1, s2, s3⟩
   go_simp
   with_reducible rfl
  rotate_left
  ·simp only [Act.put, sI, sZ, sS, i64_w, i32_w]
   rfl
  refine take_ (i := 3) (N := some 13) (v := ?_) (a' := ?_) #[true, true, true, true, false, false] rfl rfl (by kernel_rfl) (fun _ _ _ h => h) (Or.inl ⟨by rfl, ?_⟩) hHeld ?_ ?_
  rotate_left
  ·rintro w' ⟨s0, s1, s2, s3⟩
   go_simp
   with_reducible rfl
  rotate_left
  ·simp only [Act.put, sI, sZ, sS, i64_w, i32_w]
   rfl
  refine one_ (i := 4) (N := some 14) #[true, true, true, true, true, false] rfl rfl (by kernel_rfl) (by decide) (fun K hK => ?_)
  refine goes_ Try.func154 (by kernel_rfl) rfl #[.agg #[.int .i64 a1_0, .int .i64 a1_1], .agg #[.int .i64 ((rd_impl_Peg l0 0).f0), .int .i64 ((rd_impl_Peg l0 0).f1)]] (by rfl) rfl rfl (by (try simp only [mA, mC, mN]); first | done | rfl | (simp only [lD, lT]; rfl)) ?_
  with_reducible refine (impl_value.calls a1_0 a1_1 ((rd_impl_Peg l0 0).f0) ((rd_impl_Peg l0 0).f1) t895 _ A4.out).mono ?_
  rintro e w7 ⟨rfl, hb⟩
  refine ⟨_, rfl, ?_⟩
  have n0_ := aM (blk_below (g := gb893) (o := .cells #[.int .i64 a1_0, .int .i64 a1_1] 34 (0, 0)) (by (with_reducible repeat (first | refine kN ?_ _ | refine kD ?_ | refine kA ?_ _)); exact BK893.out) hb)
  have n1_ := aM (pT (by repeat (first | (with_reducible first | exact HB.out | apply pA | apply pN | apply pD | refine pS ?_ GE893.out) | exact HB.out)) hb)
  clear BK893
  clear HB
  have BK893 := n0_
  have HB := n1_
  clear n0_ n1_
  (try clear hb)
  (try clear hb2)
  (try clear hk)
  (try clear hi)
  refine hK.out _ _ ⟨(kC BK893.out 0).trans rfl, (kC BK893.out 1).trans rfl, ((HB.out.cell (wB w _ hw894_0)).trans hw894_0), ((HB.out.cell (wB w _ hw894_1)).trans hw894_1)⟩ (fun hHeld => ?_)
  clear hK K
  refine norm_ (a' := ?_) ?_ ?_
  rotate_left
  ·show Act.put _ (some 14) _ = _
   simp only [Act.put, sI, sZ, sS, i64_w, i32_w]
   rfl
  refine pure_ (i := 5) (N := some 6) (v := ?_) (a' := ?_) #[true, true, true, true, true, true] rfl rfl (by kernel_rfl) (fun _ _ _ h => h) (Or.inl ⟨by rfl, ?_⟩) ?_ ?_
  rotate_left
  ·intro w'
   go_simp
   with_reducible rfl
  rotate_left
  ·simp only [Act.put, sI, sZ, sS, i64_w, i32_w]
   rfl
  refine done_ (by kernel_rfl) ?_
  try go_wp2
  go_loopg [6, 7, 18] k (fun kq v6 v7 v18 w' => ∃ (x6_1 : Int) (x7_1 : Int) (x18_1 : Int), v6 = .int .i64 x6_1 ∧ v7 = .int .i64 x7_1 ∧ v18 = .int .i64 x18_1 ∧ Aside0 (impl_extent.l0 kq x6_1 x7_1 l0 (l0.length : Int) x18_1 a1_0 a1_1 = some (r1, r2)) ∧ Aside0 (kq ≤ k) ∧ Aside0 (w'.heap[gb893]? = some (.cells #[.int .i64 a1_0, .int .i64 a1_1] 34 (0, 0))) ∧ Aside0 (Below w.heap.size w w'))
  case atStart => exact ⟨(t895), (t895), (0), (by first | rfl | (simp; done) | (simp [*]; done)), (by first | rfl | (simp; done) | (simp [*]; done)), (by first | rfl | (simp; done) | (simp [*]; done)), H', ⟨Nat.le_refl _⟩, ⟨by (with_reducible repeat (first | refine kN ?_ _ | refine kD ?_ | refine kA ?_ _)); exact BK893.out⟩, ⟨by repeat (first | (with_reducible first | exact HB.out | apply pA | apply pN | apply pD | refine pS ?_ GE893.out) | exact HB.out)⟩⟩
  case round =>
   clear H'
   try clear c1
   try clear p2
   try clear c3
   try clear c3b0
   try clear c3b1
   try clear hx894_0
   try clear hx894_1
   try clear p894
   try clear q894
   obtain ⟨x6_1, x7_1, x18_1, rfl, rfl, rfl, HA, HK1, BK893, HB⟩ := hrel
   cases gk with
   | zero => exact absurd HA.out (by simp [impl_extent.l0])
   | succ k1 =>
    have H := HA.out
    clear HA
    simp only [impl_extent.l0] at H
    by_cases c8 : x18_1 < (l0.length : Int)
    ·rw [if_pos c8] at H
     have c8b0 : decide (x18_1 < (l0.length : Int)) = true := dE c8
     clear c8
     by_cases c9 : 0 ≤ x18_1
     ·rw [if_pos c9] at H
      have c9b0 : decide (0 ≤ x18_1) = true := dE c9
      clear c9
      by_cases c10 : x18_1 < (l0.length : Int)
      ·rw [if_pos c10] at H
       have c10b0 : decide (x18_1 < (l0.length : Int)) = true := dE c10
       clear c10
       replace H := oB.mp H
       obtain ⟨t898, A110, H⟩ := H
       replace H : ((impl_value.f a1_0 a1_1 ((rd_impl_Peg l0 x18_1).f0) ((rd_impl_Peg l0 x18_1).f1)).bind fun t899 => (impl_extent.l0 k1 (mn x6_1 t898) (mx x7_1 t899) l0 (l0.length : Int) (wrap64 (x18_1 + 1)) a1_0 a1_1)) = some (r1, r2) := H
       have A11 := aM A110
       clear A110
       obtain ⟨ji12, hji12⟩ : ∃ j_ : Int, (mn x6_1 t898) = j_ := ⟨_, rfl⟩
       replace H : ((impl_value.f a1_0 a1_1 ((rd_impl_Peg l0 x18_1).f0) ((rd_impl_Peg l0 x18_1).f1)).bind fun t899 => (impl_extent.l0 k1 ji12 (mx x7_1 t899) l0 (l0.length : Int) (wrap64 (x18_1 + 1)) a1_0 a1_1)) = some (r1, r2) := by first | (rw [hji12] at H; exact H) | (simp only [hji12] at H ⊢; exact H)
       (try rw [hji12] at A11)
       have hji12_ : (if t898 < x6_1 then t898 else x6_1) = ji12 := hji12
       replace H := oB.mp H
       obtain ⟨t899, A130, H⟩ := H
       replace H : (impl_extent.l0 k1 ji12 (mx x7_1 t899) l0 (l0.length : Int) (wrap64 (x18_1 + 1)) a1_0 a1_1) = some (r1, r2) := H
       have A13 := aM A130
       clear A130
       obtain ⟨ji14, hji14⟩ : ∃ j_ : Int, (mx x7_1 t899) = j_ := ⟨_, rfl⟩
       replace H : (impl_extent.l0 k1 ji12 ji14 l0 (l0.length : Int) (wrap64 (x18_1 + 1)) a1_0 a1_1) = some (r1, r2) := by first | (rw [hji14] at H; exact H) | (simp only [hji14] at H ⊢; exact H)
       (try rw [hji14] at A11)
       (try rw [hji14] at A13)
       have hji14_ : (if x7_1 < t899 then t899 else x7_1) = ji14 := hji14
       have H' := aM H
       clear H
       have p896 : 0 ≤ (x18_1 : Int) := dT (by first | (with_reducible assumption) | assumption)
       have q896 : x18_1 < (l0.length : Int) := dT (by first | (with_reducible assumption) | assumption)
       obtain ⟨ad896, e896, hx896_0, hx896_1⟩ := at_impl_Peg HR0.out x18_1 p896 q896
       obtain rfl : ad894 = ad896 := (by injection e896)
       replace hx896_0 := (HB.out.cell (wB w _ hx896_0)).trans hx896_0
       replace hx896_1 := (HB.out.cell (wB w _ hx896_1)).trans hx896_1
       replace p896 := eq_true p896
       replace q896 := eq_true q896
       try go_wp2_with (first | ((with_reducible refine gate_dst (N := 9) rfl ?_); refine box_event ?hg (N := 9) ?hd (cs := #[.int .i64 0, .int .i64 0]) (t := 34) ?hr ?_; (case hd => rfl); (case hg => rfl); (case hr => first | (go_simp; done) | (go_simp; rfl)); intro gb897 hg w15 hbox hb; have n0_ := aM (blk_below (g := gb893) (o := .cells #[.int .i64 a1_0, .int .i64 a1_1] 34 (0, 0)) (by (with_reducible repeat (first | refine kN ?_ _ | refine kD ?_ | refine kA ?_ _)); exact BK893.out) hb); have n1_ := aM (pT (by repeat (first | (with_reducible first | exact HB.out | apply pA | apply pN | apply pD | refine pS ?_ GE893.out) | exact HB.out)) hb); have n2_ := aM (hbox); have n3_ := aM ((by rw [hg]; exact (pZ (by repeat (first | (with_reducible first | exact HB.out | apply pA | apply pN | apply pD | refine pS ?_ GE893.out) | exact HB.out))) : w.heap.size ≤ gb897)); have n4_ := aM ((by rw [hg]; exact (pZ (by repeat (first | (with_reducible first | exact HB.out | apply pA | apply pN | apply pD | refine pS ?_ GE893.out) | exact HB.out))) : w.heap.size ≤ gb897)); have n5_ := aM ((by rw [hg]; exact nN (blk_lt (g := gb893) (o := .cells #[.int .i64 a1_0, .int .i64 a1_1] 34 (0, 0)) (by (with_reducible repeat (first | refine kN ?_ _ | refine kD ?_ | refine kA ?_ _)); exact BK893.out)) : gb893 ≠ gb897)); have n6_ := aM ((by rw [hg]; exact Nat.ne_of_gt (blk_lt (g := gb893) (o := .cells #[.int .i64 a1_0, .int .i64 a1_1] 34 (0, 0)) (by (with_reducible repeat (first | refine kN ?_ _ | refine kD ?_ | refine kA ?_ _)); exact BK893.out)) : gb897 ≠ gb893)); clear BK893; clear HB; have BK893 := n0_; have HB := n1_; have BK897 := n2_; have GW897 := n3_; have GE897 := n4_; have NB893_897 := n5_; have NB897_893 := n6_; clear n0_ n1_ n2_ n3_ n4_ n5_ n6_; clear hb hbox hg; have hnb16 := NB897_893.out; have hnc16 := NB893_897.out; have hcz17_0 : w15.cell? ⟨gb897, 0, none⟩ = some (.int .i64 0) := (kC BK897.out 0).trans rfl; have hcz17_1 : w15.cell? ⟨gb897, 1, none⟩ = some (.int .i64 0) := (kC BK897.out 1).trans rfl; have hfz17_0 := kF BK897.out 0; have hfz17_1 := kF BK897.out 1))
       have n0_ : Aside0 (((w15.setCell ⟨gb897, 0, none⟩ (.int .i64 ((rd_impl_Peg l0 x18_1).f0))).setCell ⟨gb897, 1, none⟩ (.int .i64 ((rd_impl_Peg l0 x18_1).f1))).heap[gb893]? = some (.cells #[.int .i64 a1_0, .int .i64 a1_1] 34 (0, 0))) := ⟨by (with_reducible repeat (first | refine kN ?_ _ | refine kD ?_ | refine kA ?_ _)); refine blk_far ?_ NB893_897.out _; (with_reducible repeat (first | refine kN ?_ _ | refine kD ?_ | refine kA ?_ _)); refine blk_far ?_ NB893_897.out _; (with_reducible repeat (first | refine kN ?_ _ | refine kD ?_ | refine kA ?_ _)); exact BK893.out⟩
       have n1_ : Aside0 (((w15.setCell ⟨gb897, 0, none⟩ (.int .i64 ((rd_impl_Peg l0 x18_1).f0))).setCell ⟨gb897, 1, none⟩ (.int .i64 ((rd_impl_Peg l0 x18_1).f1))).heap[gb897]? = some (.cells #[.int .i64 ((rd_impl_Peg l0 x18_1).f0), .int .i64 ((rd_impl_Peg l0 x18_1).f1)] 34 (0, 0))) := ⟨by (with_reducible repeat (first | refine kN ?_ _ | refine kD ?_ | refine kA ?_ _)); refine blk_put (cs := #[.int .i64 ((rd_impl_Peg l0 x18_1).f0), .int .i64 0]) ?_ 1 _ rfl; (with_reducible repeat (first | refine kN ?_ _ | refine kD ?_ | refine kA ?_ _)); refine blk_put (cs := #[.int .i64 0, .int .i64 0]) ?_ 0 _ rfl; (with_reducible repeat (first | refine kN ?_ _ | refine kD ?_ | refine kA ?_ _)); exact BK897.out⟩
       have n2_ : Aside0 (Below w.heap.size w ((w15.setCell ⟨gb897, 0, none⟩ (.int .i64 ((rd_impl_Peg l0 x18_1).f0))).setCell ⟨gb897, 1, none⟩ (.int .i64 ((rd_impl_Peg l0 x18_1).f1)))) := ⟨by repeat (first | (with_reducible first | exact HB.out | apply pA | apply pN | apply pD | refine pS ?_ GE893.out | refine pS ?_ GE897.out) | exact HB.out)⟩
       (try clear BK893)
       (try clear BK897)
       (try clear HB)
       generalize ((w15.setCell ⟨gb897, 0, none⟩ (.int .i64 ((rd_impl_Peg l0 x18_1).f0))).setCell ⟨gb897, 1, none⟩ (.int .i64 ((rd_impl_Peg l0 x18_1).f1))) = w18 at n0_ n1_ n2_ ⊢
       have BK893 := n0_
       have BK897 := n1_
       have HB := n2_
       clear n0_ n1_ n2_
       have n0_ := aM (kD BK893.out)
       have n1_ := aM (kD BK897.out)
       have n2_ := aM (pD HB.out)
       clear BK893
       clear BK897
       clear HB
       have BK893 := n0_
       have BK897 := n1_
       have HB := n2_
       clear n0_ n1_ n2_
       refine start_ (n := 12) (S := fun w' => w'.cell? ⟨gb893, 0, none⟩ = some (.int .i64 a1_0) ∧ w'.cell? ⟨gb893, 1, none⟩ = some (.int .i64 a1_1) ∧ w'.cell? ⟨gb897, 0, none⟩ = some (.int .i64 ((rd_impl_Peg l0 x18_1).f0)) ∧ w'.cell? ⟨gb897, 1, none⟩ = some (.int .i64 ((rd_impl_Peg l0 x18_1).f1))) (ds := []) #[false, false, false, false, false, false, false, false, false, false, false, false] (by kernel_rfl) rfl rfl ⟨(kC BK893.out 0).trans rfl, (kC BK893.out 1).trans rfl, (kC BK897.out 0).trans rfl, (kC BK897.out 1).trans rfl⟩ (fun hHeld => ?_); refine with_tabW impl_extent.tab6 impl_extent.bits6 (fun HT_ HW_ => ?_)
       generalize w18.drew = w19 at BK893 BK897 HB hHeld ⊢
       refine pure_ (i := 0) (N := some 22) (v := ?_) (a' := ?_) #[true, false, false, false, false, false, false, false, false, false, false, false] rfl rfl (any_of HT_.out (by kernel_rfl)) (fun _ _ _ h => h) (Or.inl ⟨by rfl, ?_⟩) ?_ ?_
       rotate_left
       ·intro w'
        go_simp
        with_reducible rfl
       rotate_left
       ·simp only [Act.put, sI, sZ, sS, i64_w, i32_w]
        rfl
       refine pure_ (i := 5) (N := some 27) (v := ?_) (a' := ?_) #[true, false, false, false, false, true, false, false, false, false, false, false] rfl rfl (any_of HT_.out (by kernel_rfl)) (fun _ _ _ h => h) (Or.inl ⟨by rfl, ?_⟩) ?_ ?_
       rotate_left
       ·intro w'
        go_simp
        with_reducible rfl
       rotate_left
       ·simp only [Act.put, sI, sZ, sS, i64_w, i32_w]
        rfl
       refine take_ (i := 1) (N := some 23) (v := ?_) (a' := ?_) #[true, true, false, false, false, true, false, false, false, false, false, false] rfl rfl (take_ofW HT_.out HW_.out (by kernel_rfl)) (fun _ _ _ h => h) (Or.inl ⟨by rfl, ?_⟩) hHeld ?_ ?_
       rotate_left
       ·rintro w' ⟨s0, s1, s2, s3⟩
        go_simp
        with_reducible rfl
       rotate_left
       ·simp only [Act.put, sI, sZ, sS, i64_w, i32_w]
        rfl
       refine take_ (i := 2) (N := some 24) (v := ?_) (a' := ?_) #[true, true, true, false, false, true, false, false, false, false, false, false] rfl rfl (take_ofW HT_.out HW_.out (by kernel_rfl)) (fun _ _ _ h => h) (Or.inl ⟨by rfl, ?_⟩) hHeld ?_ ?_
       rotate_left
       ·rintro w' ⟨s0, s1, s2, s3⟩
        go_simp
        with_reducible rfl
       rotate_left
       ·simp only [Act.put, sI, sZ, sS, i64_w, i32_w]
        rfl
       refine take_ (i := 6) (N := some 28) (v := ?_) (a' := ?_) #[true, true, true, false, false, true, true, false, false, false, false, false] rfl rfl (take_ofW HT_.out HW_.out (by kernel_rfl)) (fun _ _ _ h => h) (Or.inl ⟨by rfl, ?_⟩) hHeld ?_ ?_
       rotate_left
       ·rintro w' ⟨s0, s1, s2, s3⟩
        go_simp
        with_reducible rfl
       rotate_left
       ·simp only [Act.put, sI, sZ, sS, i64_w, i32_w]
        rfl
       refine take_ (i := 7) (N := some 29) (v := ?_) (a' := ?_) #[true, true, true, false, false, true, true, true, false, false, false, false] rfl rfl (take_ofW HT_.out HW_.out (by kernel_rfl)) (fun _ _ _ h => h) (Or.inl ⟨by rfl, ?_⟩) hHeld ?_ ?_
       rotate_left
       ·rintro w' ⟨s0, s1, s2, s3⟩
        go_simp
        with_reducible rfl
       rotate_left
       ·simp only [Act.put, sI, sZ, sS, i64_w, i32_w]
        rfl
       refine one_ (i := 3) (N := some 25) #[true, true, true, true, false, true, true, true, false, false, false, false] rfl rfl (one_of HT_.out (by kernel_rfl)) (by decide) (fun K hK => ?_)
       refine goes_ Try.func154 (by kernel_rfl) rfl #[.agg #[.int .i64 a1_0, .int .i64 a1_1], .agg #[.int .i64 ((rd_impl_Peg l0 x18_1).f0), .int .i64 ((rd_impl_Peg l0 x18_1).f1)]] (by rfl) rfl rfl (by (try simp only [mA, mC, mN]); first | done | rfl | (simp only [lD, lT]; rfl)) ?_
       with_reducible refine (impl_value.calls a1_0 a1_1 ((rd_impl_Peg l0 x18_1).f0) ((rd_impl_Peg l0 x18_1).f1) t898 _ A11.out).mono ?_
       rintro e w20 ⟨rfl, hb⟩
       refine ⟨_, rfl, ?_⟩
       have n0_ := aM (blk_below (g := gb893) (o := .cells #[.int .i64 a1_0, .int .i64 a1_1] 34 (0, 0)) (by (with_reducible repeat (first | refine kN ?_ _ | refine kD ?_ | refine kA ?_ _)); exact BK893.out) hb)
       have n1_ := aM (blk_below (g := gb897) (o := .cells #[.int .i64 ((rd_impl_Peg l0 x18_1).f0), .int .i64 ((rd_impl_Peg l0 x18_1).f1)] 34 (0, 0)) (by (with_reducible repeat (first | refine kN ?_ _ | refine kD ?_ | refine kA ?_ _)); exact BK897.out) hb)
       have n2_ := aM (pT (by repeat (first | (with_reducible first | exact HB.out | apply pA | apply pN | apply pD | refine pS ?_ GE893.out | refine pS ?_ GE897.out) | exact HB.out)) hb)
       clear BK893
       clear BK897
       clear HB
       have BK893 := n0_
       have BK897 := n1_
       have HB := n2_
       clear n0_ n1_ n2_
       (try clear hb)
       (try clear hb2)
       (try clear hk)
       (try clear hi)
       refine hK.out _ _ ⟨(kC BK893.out 0).trans rfl, (kC BK893.out 1).trans rfl, (kC BK897.out 0).trans rfl, (kC BK897.out 1).trans rfl⟩ (fun hHeld => ?_)
       clear hK K
       refine norm_ (a' := ?_) ?_ ?_
       rotate_left
       ·show Act.put _ (some 25) _ = _
        simp only [Act.put, sI, sZ, sS, i64_w, i32_w]
        rfl
       refine pure_ (i := 4) (N := some 26) (v := ?_) (a' := ?_) #[true, true, true, true, true, true, true, true, false, false, false, false] rfl rfl (any_of HT_.out (by kernel_rfl)) (fun _ _ _ h => h) (Or.inl ⟨by rfl, ?_⟩) ?_ ?_
       rotate_left
       ·intro w'
        go_simp
        with_reducible rfl
       rotate_left
       ·simp only [Act.put, sI, sZ, sS, i64_w, i32_w]
        rfl
       refine one_ (i := 8) (N := some 30) #[true, true, true, true, true, true, true, true, true, false, false, false] rfl rfl (one_of HT_.out (by kernel_rfl)) (by decide) (fun K hK => ?_)
       refine goes_ Try.func154 (by kernel_rfl) rfl #[.agg #[.int .i64 a1_0, .int .i64 a1_1], .agg #[.int .i64 ((rd_impl_Peg l0 x18_1).f0), .int .i64 ((rd_impl_Peg l0 x18_1).f1)]] (by rfl) rfl rfl (by (try simp only [mA, mC, mN]); first | done | rfl | (simp only [lD, lT]; rfl)) ?_
       with_reducible refine (impl_value.calls a1_0 a1_1 ((rd_impl_Peg l0 x18_1).f0) ((rd_impl_Peg l0 x18_1).f1) t899 _ A13.out).mono ?_
       rintro e w21 ⟨rfl, hb⟩
       refine ⟨_, rfl, ?_⟩
       have n0_ := aM (blk_below (g := gb893) (o := .cells #[.int .i64 a1_0, .int .i64 a1_1] 34 (0, 0)) (by (with_reducible repeat (first | refine kN ?_ _ | refine kD ?_ | refine kA ?_ _)); exact BK893.out) hb)
       have n1_ := aM (blk_below (g := gb897) (o := .cells #[.int .i64 ((rd_impl_Peg l0 x18_1).f0), .int .i64 ((rd_impl_Peg l0 x18_1).f1)] 34 (0, 0)) (by (with_reducible repeat (first | refine kN ?_ _ | refine kD ?_ | refine kA ?_ _)); exact BK897.out) hb)
       have n2_ := aM (pT (by repeat (first | (with_reducible first | exact HB.out | apply pA | apply pN | apply pD | refine pS ?_ GE893.out | refine pS ?_ GE897.out) | exact HB.out)) hb)
       clear BK893
       clear BK897
       clear HB
       have BK893 := n0_
       have BK897 := n1_
       have HB := n2_
       clear n0_ n1_ n2_
       (try clear hb)
       (try clear hb2)
       (try clear hk)
       (try clear hi)
       refine hK.out _ _ ⟨(kC BK893.out 0).trans rfl, (kC BK893.out 1).trans rfl, (kC BK897.out 0).trans rfl, (kC BK897.out 1).trans rfl⟩ (fun hHeld => ?_)
       clear hK K
       refine norm_ (a' := ?_) ?_ ?_
       rotate_left
       ·show Act.put _ (some 30) _ = _
        simp only [Act.put, sI, sZ, sS, i64_w, i32_w]
        rfl
       refine pure_ (i := 9) (N := some 31) (v := ?_) (a' := ?_) #[true, true, true, true, true, true, true, true, true, true, false, false] rfl rfl (any_of HT_.out (by kernel_rfl)) (fun _ _ _ h => h) (Or.inl ⟨by rfl, ?_⟩) ?_ ?_
       rotate_left
       ·intro w'
        go_simp
        with_reducible rfl
       rotate_left
       ·simp only [Act.put, sI, sZ, sS, i64_w, i32_w]
        rfl
       refine pure_ (i := 10) (N := some 6) (v := ?_) (a' := ?_) #[true, true, true, true, true, true, true, true, true, true, true, false] rfl rfl (any_of HT_.out (by kernel_rfl)) (fun _ _ _ h => h) (Or.inl ⟨by rfl, ?_⟩) ?_ ?_
       rotate_left
       ·intro w'
        go_simp
        with_reducible rfl
       rotate_left
       ·simp only [Act.put, sI, sZ, sS, i64_w, i32_w]
        rfl
       refine pure_ (i := 11) (N := some 7) (v := ?_) (a' := ?_) #[true, true, true, true, true, true, true, true, true, true, true, true] rfl rfl (any_of HT_.out (by kernel_rfl)) (fun _ _ _ h => h) (Or.inl ⟨by rfl, ?_⟩) ?_ ?_
       rotate_left
       ·intro w'
        go_simp
        with_reducible rfl
       rotate_left
       ·simp only [Act.put, sI, sZ, sS, i64_w, i32_w]
        rfl
       refine done_ (done_of HT_.out (by kernel_rfl)) ?_
       try go_wp2
       go_roundg k1
       case measure => have := HK1.out; omega
       case rel => exact ⟨(ji12), (ji14), (wrap64 (x18_1 + 1)), (by first | rfl | (simp; done) | (simp only [← hji12] <;> (first | rfl | simp)) | (simp [*]; done)), (by first | rfl | (simp; done) | (simp only [← hji14] <;> (first | rfl | simp)) | (simp [*]; done)), (by first | rfl | (simp; done) | (simp [*]; done)), H', ⟨by have := HK1.out; omega⟩, ⟨by (with_reducible repeat (first | refine kN ?_ _ | refine kD ?_ | refine kA ?_ _)); exact BK893.out⟩, ⟨by repeat (first | (with_reducible first | exact HB.out | apply pA | apply pN | apply pD | refine pS ?_ GE893.out | refine pS ?_ GE897.out) | exact HB.out)⟩⟩
      ·rw [if_neg c10] at H
       exact absurd H (by simp)
     ·rw [if_neg c9] at H
      exact absurd H (by simp)
    ·rw [if_neg c8] at H
     have c8b0 : decide (x18_1 < (l0.length : Int)) = false := decide_eq_false c8
     clear c8
     simp only [Option.some.injEq, Prod.mk.injEq] at H
     obtain ⟨rfl, rfl⟩ := H
     go_wp2
     go_ret2
     exact ⟨by first | rfl | (simp [errW_none, errW_some] <;> rfl) | (simp [*, errW_none, errW_some] <;> rfl), by repeat (first | (with_reducible first | exact HB.out | apply pA | apply pN | apply pD | refine pS ?_ GE893.out) | exact HB.out)⟩
 ·rw [if_neg c3] at H
  exact absurd H (by simp)

def impl_width.f (k : Nat) (l0 : List (S_impl_Peg)) (a1_0 : Int) (a1_1 : Int) : Option (Int) := (impl_extent.f k l0 a1_0 a1_1).bind fun bt901 => (some (wrap64 (bt901.2 - bt901.1)))
theorem impl_width.mono : ∀ a0 a1 a2 k, LeO (impl_width.f k a0 a1 a2) (impl_width.f (k + 1) a0 a1 a2) := by
 intro a0 a1 a2 k
 unfold impl_width.f
 repeat' first
   | (with_reducible exact impl_extent.mono _ _ _ _)
   | (with_reducible exact LeO.refl _)
   | (with_reducible exact LeO.none _)
   | (with_reducible refine LeO.ite ?_ ?_)
   | (with_reducible refine LeO.bind ?_ (fun _ => ?_))
   | exact impl_extent.mono _ _ _ _
   | exact LeO.none _
   | refine LeO.ite ?_ ?_
   | refine LeO.bind ?_ (fun _ => ?_)
set_option maxHeartbeats 8000000 in
set_option maxRecDepth 100000 in
theorem impl_width.calls (k : Nat) (A0 : Option Addr) (c0 : Nat) (l0 : List (S_impl_Peg)) (a1_0 : Int) (a1_1 : Int) (r : Int) (w : World) (hr0 : Kd.C kd_impl_Peg w A0 l0.length l0) (hc0 : l0.length ≤ c0) (h : impl_width.f k l0 a1_0 a1_1 = some r) :
  Calls Try.prog 130 #[.slice A0 l0.length c0, .agg #[.int .i64 a1_0, .int .i64 a1_1]] w fun e w' => e = .returned (.int .i64 r) ∧ Below w.heap.size w w' := by
 have hu34 := Try.underlying34
 have HR0 := aM hr0
 have HC0 := aM hc0
 clear hr0 hc0
 have HB := aM (Below.refl w.heap.size w)
 have H : ((impl_extent.f k l0 a1_0 a1_1).bind fun bt901 => (some (wrap64 (bt901.2 - bt901.1)))) = some r := h
 clear h
 replace H := oB.mp H
 obtain ⟨⟨t901, t902⟩, A30, H⟩ := H
 replace H : (some (wrap64 (t902 - t901))) = some r := H
 have A3 := aM A30
 clear A30
 obtain rfl := Option.some.inj H
 go_enter Try.func130, Try.ntmps130
 go_wp2_with (first | ((with_reducible refine gate_dst (N := 3) rfl ?_); refine box_event ?hg (N := 3) ?hd (cs := #[.int .i64 a1_0, .int .i64 a1_1]) (t := 34) ?hr ?_; (case hd => rfl); (case hg => rfl); (case hr => first | (go_simp; done) | (go_simp; rfl)); intro gb900 hg w4 hbox hb; have n0_ := aM (pT (by repeat (first | (with_reducible first | exact HB.out | apply pA | apply pN | apply pD) | exact HB.out)) hb); have n1_ := aM (hbox); have n2_ := aM ((by rw [hg]; exact (pZ (by repeat (first | (with_reducible first | exact HB.out | apply pA | apply pN | apply pD) | exact HB.out))) : w.heap.size ≤ gb900)); have n3_ := aM ((by rw [hg]; exact (pZ (by repeat (first | (with_reducible first | exact HB.out | apply pA | apply pN | apply pD) | exact HB.out))) : w.heap.size ≤ gb900)); clear HB; have HB := n0_; have BK900 := n1_; have GW900 := n2_; have GE900 := n3_; clear n0_ n1_ n2_ n3_; clear hb hbox hg; have hcz5_0 : w4.cell? ⟨gb900, 0, none⟩ = some (.int .i64 a1_0) := (kC BK900.out 0).trans rfl; have hcz5_1 : w4.cell? ⟨gb900, 1, none⟩ = some (.int .i64 a1_1) := (kC BK900.out 1).trans rfl; have hfz5_0 := kF BK900.out 0; have hfz5_1 := kF BK900.out 1) | ((with_reducible refine gC (f := 149) rfl ?_); refine goesL_ (some 10) rfl rfl Try.func149 (by kernel_rfl) rfl #[.slice A0 l0.length c0, .agg #[.int .i64 a1_0, .int .i64 a1_1]] rfl (by (try simp only [mA, mC, mN]); first | done | rfl | (simp only [lD, lT]; rfl)) ?_; (with_reducible refine (impl_extent.calls k _ _ l0 a1_0 a1_1 t901 t902 _ ?side1 ?side2 A3.out).mono ?_); (case side1 => repeat (first | exact (Kd.C_below HR0.out HB.out) | (with_reducible refine cA ?_ _) | (with_reducible refine cN ?_ _) | (with_reducible refine cD ?_))); (case side2 => exact HC0.out); rintro e w6 ⟨rfl, hb⟩; refine ⟨_, rfl, ?_⟩; have n0_ := aM (blk_below (g := gb900) (o := .cells #[.int .i64 a1_0, .int .i64 a1_1] 34 (0, 0)) (by (with_reducible repeat (first | refine kN ?_ _ | refine kD ?_ | refine kA ?_ _)); exact BK900.out) hb); have n1_ := aM (pT (by repeat (first | (with_reducible first | exact HB.out | apply pA | apply pN | apply pD | refine pS ?_ GE900.out) | exact HB.out)) hb); clear BK900; clear HB; have BK900 := n0_; have HB := n1_; clear n0_ n1_; (try clear hb); (try clear hb2); (try clear hk); (try clear hi)))
 go_ret
 exact ⟨by first | rfl | (simp [errW_none, errW_some] <;> rfl) | (simp [*, errW_none, errW_some] <;> rfl), by repeat (first | (with_reducible first | exact HB.out | apply pA | apply pN | apply pD | refine pS ?_ GE900.out) | exact HB.out)⟩

def impl_WidthIn.f (k : Nat) (l0 : List (S_impl_Peg)) (a1 : Int) (a2 : Int) : Option (Int × Bool) := (impl_isWide.f k l0 a1 a2).bind fun t903 => (if t903 = true then ((impl_width.f k l0 a1 a2).bind fun t904 => (some (t904, true))) else (some (0, false)))
theorem impl_WidthIn.mono : ∀ a0 a1 a2 k, LeO (impl_WidthIn.f k a0 a1 a2) (impl_WidthIn.f (k + 1) a0 a1 a2) := by
 intro a0 a1 a2 k
 unfold impl_WidthIn.f
 repeat' first
   | (with_reducible exact impl_isWide.mono _ _ _ _)
   | (with_reducible exact impl_width.mono _ _ _ _)
   | (with_reducible exact LeO.refl _)
   | (with_reducible exact LeO.none _)
   | (with_reducible refine LeO.ite ?_ ?_)
   | (with_reducible refine LeO.bind ?_ (fun _ => ?_))
   | exact impl_isWide.mono _ _ _ _
   | exact impl_width.mono _ _ _ _
   | exact LeO.none _
   | refine LeO.ite ?_ ?_
   | refine LeO.bind ?_ (fun _ => ?_)
set_option maxHeartbeats 8000000 in
set_option maxRecDepth 100000 in
theorem impl_WidthIn.calls (k : Nat) (A0 : Option Addr) (c0 : Nat) (l0 : List (S_impl_Peg)) (a1 : Int) (a2 : Int) (r1 : Int) (r2 : Bool) (w : World) (hr0 : Kd.C kd_impl_Peg w A0 l0.length l0) (hc0 : l0.length ≤ c0) (h : impl_WidthIn.f k l0 a1 a2 = some (r1, r2)) :
  Calls Try.prog 71 #[.slice A0 l0.length c0, .int .i64 a1, .int .i64 a2] w fun e w' => e = .returned (.tuple #[.int .i64 r1, .bool r2]) ∧ Below w.heap.size w w' := by
 have hu34 := Try.underlying34
 have HR0 := aM hr0
 have HC0 := aM hc0
 clear hr0 hc0
 have HB := aM (Below.refl w.heap.size w)
 have H : ((impl_isWide.f k l0 a1 a2).bind fun t903 => (if t903 = true then ((impl_width.f k l0 a1 a2).bind fun t904 => (some (t904, true))) else (some (0, false)))) = some (r1, r2) := h
 clear h
 replace H := oB.mp H
 obtain ⟨t903, A40, H⟩ := H
 replace H : (if t903 = true then ((impl_width.f k l0 a1 a2).bind fun t904 => (some (t904, true))) else (some (0, false))) = some (r1, r2) := H
 have A4 := aM A40
 clear A40
 by_cases c5 : t903 = true
 ·subst c5
  have H1 : ((impl_width.f k l0 a1 a2).bind fun t904 => (some (t904, true))) = some (r1, r2) := by rw [if_pos rfl] at H; exact H
  clear H
  have H := H1
  clear H1
  replace H := oB.mp H
  obtain ⟨t904, A60, H⟩ := H
  replace H : (some (t904, true)) = some (r1, r2) := H
  have A6 := aM A60
  clear A60
  simp only [Option.some.injEq, Prod.mk.injEq] at H
  obtain ⟨rfl, rfl⟩ := H
  go_enter Try.func71, Try.ntmps71
  go_wp2_with (first | ((with_reducible refine gC (f := 129) rfl ?_); refine goesL_ (some 11) rfl rfl Try.func129 (by kernel_rfl) rfl #[.slice A0 l0.length c0, .int .i64 a1, .int .i64 a2] rfl (by (try simp only [mA, mC, mN]); first | done | rfl | (simp only [lD, lT]; rfl)) ?_; (with_reducible refine (impl_isWide.calls k _ _ l0 a1 a2 true _ ?side1 ?side2 A4.out).mono ?_); (case side1 => repeat (first | exact HR0.out | (with_reducible refine cA ?_ _) | (with_reducible refine cN ?_ _) | (with_reducible refine cD ?_))); (case side2 => exact HC0.out); rintro e w7 ⟨rfl, hb⟩; refine ⟨_, rfl, ?_⟩; have n0_ := aM (pT (by repeat (first | (with_reducible first | exact HB.out | apply pA | apply pN | apply pD) | exact HB.out)) hb); clear HB; have HB := n0_; clear n0_; (try clear hb); (try clear hb2); (try clear hk); (try clear hi)) | ((with_reducible refine gC (f := 130) rfl ?_); refine goesL_ (some 17) rfl rfl Try.func130 (by kernel_rfl) rfl #[.slice A0 l0.length c0, .agg #[.int .i64 a1, .int .i64 a2]] rfl (by (try simp only [mA, mC, mN]); first | done | rfl | (simp only [lD, lT]; rfl)) ?_; (with_reducible refine (impl_width.calls k _ _ l0 a1 a2 t904 _ ?side1 ?side2 A6.out).mono ?_); (case side1 => repeat (first | exact (Kd.C_below HR0.out HB.out) | (with_reducible refine cA ?_ _) | (with_reducible refine cN ?_ _) | (with_reducible refine cD ?_))); (case side2 => exact HC0.out); rintro e w8 ⟨rfl, hb⟩; refine ⟨_, rfl, ?_⟩; have n0_ := aM (pT (by repeat (first | (with_reducible first | exact HB.out | apply pA | apply pN | apply pD) | exact HB.out)) hb); clear HB; have HB := n0_; clear n0_; (try clear hb); (try clear hb2); (try clear hk); (try clear hi)))
  go_ret2
  exact ⟨by first | rfl | (simp [errW_none, errW_some] <;> rfl) | (simp [*, errW_none, errW_some] <;> rfl), by repeat (first | (with_reducible first | exact HB.out | apply pA | apply pN | apply pD) | exact HB.out)⟩
 ·replace c5 := Bool.eq_false_iff.mpr c5
  subst c5
  have H1 : (some (0, false)) = some (r1, r2) := by rw [if_neg (show ¬ (false = true) by decide)] at H; exact H
  clear H
  have H := H1
  clear H1
  simp only [Option.some.injEq, Prod.mk.injEq] at H
  obtain ⟨rfl, rfl⟩ := H
  go_enter Try.func71, Try.ntmps71
  go_wp2_with (first | ((with_reducible refine gC (f := 129) rfl ?_); refine goesL_ (some 11) rfl rfl Try.func129 (by kernel_rfl) rfl #[.slice A0 l0.length c0, .int .i64 a1, .int .i64 a2] rfl (by (try simp only [mA, mC, mN]); first | done | rfl | (simp only [lD, lT]; rfl)) ?_; (with_reducible refine (impl_isWide.calls k _ _ l0 a1 a2 false _ ?side1 ?side2 A4.out).mono ?_); (case side1 => repeat (first | exact HR0.out | (with_reducible refine cA ?_ _) | (with_reducible refine cN ?_ _) | (with_reducible refine cD ?_))); (case side2 => exact HC0.out); rintro e w9 ⟨rfl, hb⟩; refine ⟨_, rfl, ?_⟩; have n0_ := aM (pT (by repeat (first | (with_reducible first | exact HB.out | apply pA | apply pN | apply pD) | exact HB.out)) hb); clear HB; have HB := n0_; clear n0_; (try clear hb); (try clear hb2); (try clear hk); (try clear hi)))
  go_ret2
  exact ⟨by first | rfl | (simp [errW_none, errW_some] <;> rfl) | (simp [*, errW_none, errW_some] <;> rfl), by repeat (first | (with_reducible first | exact HB.out | apply pA | apply pN | apply pD) | exact HB.out)⟩

end Go.Proofs.Ytiacfkilmknldaa.X
