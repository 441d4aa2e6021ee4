-- thin
-- short
import Derived.Test.YtnlkglbpihgcmaaXA
import Derived.Test.YtnlkglbpihgcmaaX0
namespace Go.Proofs.Ytnlkglbpihgcmaa.X
open Go.RowKit Go.Proofs.Ytnlkglbpihgcmaa.XW Go.Proofs.YtnlkglbpihgcmaaW.PrintWords Go.Proofs.YtnlkglbpihgcmaaW.PrintLast Go.Proofs.YtnlkglbpihgcmaaW.PrintMore
attribute [local go_sem] max2_int min2_int max_two min_two max_three min_three max_four min_four   -- for this text's walks alone
set_option linter.unusedVariables false
set_option linter.unusedSimpArgs false

def impl_box.l0 : Nat → List (S_impl_Peg) → Int → Int → Int → Int → Int → Int → Option (Int × Int × Int × Int)
 | 0, _, _, _, _, _, _, _ => none
 | k + 1, x14, x15, x16, x548000, x548001, x549000, x549001 => if x16 < x15 then (if 0 ≤ x16 then (if x16 < (x14.length : Int) then (impl_box.l0 k x14 x15 (wrap64 (x16 + 1)) (mn x548000 ((rd_impl_Peg x14 x16).f0)) (mn x548001 ((rd_impl_Peg x14 x16).f1)) (mx x549000 ((rd_impl_Peg x14 x16).f0)) (mx x549001 ((rd_impl_Peg x14 x16).f1))) else (none)) else (none)) else (some (x548000, x548001, x549000, x549001))
def impl_box.f (k : Nat) (l0 : List (S_impl_Peg)) : Option (Int × Int × Int × Int) := if 0 < (l0.length : Int) then (impl_box.l0 k l0 (l0.length : Int) 0 ((rd_impl_Peg l0 0).f0) ((rd_impl_Peg l0 0).f1) ((rd_impl_Peg l0 0).f0) ((rd_impl_Peg l0 0).f1)) else (none)
theorem impl_box.mono_l : ∀ k, (∀ y0 y1 y2 y3 y4 y5 y6, LeO (impl_box.l0 k y0 y1 y2 y3 y4 y5 y6) (impl_box.l0 (k + 1) y0 y1 y2 y3 y4 y5 y6))
 | 0 => fun _ _ _ _ _ _ _ r h => by simp [impl_box.l0] at h
 | k + 1 => by
  have ih0 := impl_box.mono_l k
  ·intro y0 y1 y2 y3 y4 y5 y6
   unfold impl_box.l0
   repeat' first
   | (with_reducible exact ih0 _ _ _ _ _ _ _)
   | (with_reducible exact LeO.refl _)
   | (with_reducible exact LeO.none _)
   | (with_reducible refine LeO.ite ?_ ?_)
   | (with_reducible refine LeO.bind ?_ (fun _ => ?_))
   | exact ih0 _ _ _ _ _ _ _
   | exact LeO.none _
   | refine LeO.ite ?_ ?_
   | refine LeO.bind ?_ (fun _ => ?_)
theorem impl_box.mono : ∀ a0 k, LeO (impl_box.f k a0) (impl_box.f (k + 1) a0) := by
 intro a0 k
 have ih0 := impl_box.mono_l k
 unfold impl_box.f
 repeat' first
   | (with_reducible exact ih0 _ _ _ _ _ _ _)
   | (with_reducible exact LeO.refl _)
   | (with_reducible exact LeO.none _)
   | (with_reducible refine LeO.ite ?_ ?_)
   | (with_reducible refine LeO.bind ?_ (fun _ => ?_))
   | exact ih0 _ _ _ _ _ _ _
   | exact LeO.none _
   | refine LeO.ite ?_ ?_
   | refine LeO.bind ?_ (fun _ => ?_)
def impl_box.T1 : Bool × List (List Nat × List Nat) := (true, [([], []), ([0], [0]), ([1], [1]), ([], []), ([3], [3]), ([4], [4]), ([], []), ([], []), ([6, 2, 0, 1, 2, 6, 7], [2, 6]), ([7, 5, 8, 0, 1, 2, 3, 4, 5, 6, 7, 8], [5, 7])])
def impl_box.B1 : List Nat := [0, 1, 3, 0, 8, 24, 0, 0, 199, 511]
theorem impl_box.tab1 : rtab .any (opsOf Try.f86 1) = impl_box.T1 := by kernel_rfl
theorem impl_box.bits1 : waitsOk impl_box.T1.2 impl_box.B1 = true := by kernel_rfl
set_option maxHeartbeats 8000000 in
set_option maxRecDepth 100000 in
theorem impl_box.calls (k : Nat) (A0 : Option Addr) (c0 : Nat) (l0 : List (S_impl_Peg)) (r1 : Int) (r2 : Int) (r3 : Int) (r4 : Int) (w : World) (hr0 : Kd.C kd_impl_Peg w A0 l0.length l0) (hc0 : l0.length ≤ c0) (h : impl_box.f k l0 = some (r1, r2, r3, r4)) :
  Calls Try.prog 86 #[.slice A0 l0.length c0] w fun e w' => e = .returned (.tuple #[.agg #[.int .i64 r1, .int .i64 r2], .agg #[.int .i64 r3, .int .i64 r4]]) ∧ Below w.heap.size w w' := by
 have hu62 := Try.underlying62
 have HR0 := aM hr0
 have HC0 := aM hc0
 clear hr0 hc0
 have HB := aM (Below.refl w.heap.size w)
 have H : (if 0 < (l0.length : Int) then (impl_box.l0 k l0 (l0.length : Int) 0 ((rd_impl_Peg l0 0).f0) ((rd_impl_Peg l0 0).f1) ((rd_impl_Peg l0 0).f0) ((rd_impl_Peg l0 0).f1)) else (none)) = some (r1, r2, r3, r4) := h
 clear h
 by_cases c2 : 0 < (l0.length : Int)
 ·rw [if_pos c2] at H
  have c2b0 : decide (0 < (l0.length : Int)) = true := dE c2
  have c2b1 : decide (0 < l0.length) = true := dE (by omega)
  clear c2
  have H' := aM H
  clear H
  go_enter Try.func86, Try.ntmps86
  try go_wp2_with (first | ((with_reducible refine gate_dst (N := 2) rfl ?_); refine box_event ?hg (N := 2) ?hd (cs := #[.int .i64 0, .int .i64 0]) (t := 62) ?hr ?_; (case hd => rfl); (case hg => rfl); (case hr => first | (go_simp; done) | (go_simp; rfl)); intro gb543 hg w3 hbox hb; have n0_ := aM (pT (by repeat (first | (with_reducible first | exact HB.out | apply pA | apply pN | apply pD) | exact HB.out)) hb); have n1_ := aM (hbox); have n2_ := aM ((by rw [hg]; exact (pZ (by repeat (first | (with_reducible first | exact HB.out | apply pA | apply pN | apply pD) | exact HB.out))) : w.heap.size ≤ gb543)); have n3_ := aM ((by rw [hg]; exact (pZ (by repeat (first | (with_reducible first | exact HB.out | apply pA | apply pN | apply pD) | exact HB.out))) : w.heap.size ≤ gb543)); clear HB; have HB := n0_; have BK543 := n1_; have GW543 := n2_; have GE543 := n3_; clear n0_ n1_ n2_ n3_; clear hb hbox hg) | ((with_reducible refine gate_dst (N := 3) rfl ?_); refine box_event ?hg (N := 3) ?hd (cs := #[.int .i64 0, .int .i64 0]) (t := 62) ?hr ?_; (case hd => rfl); (case hg => rfl); (case hr => first | (go_simp; done) | (go_simp; rfl)); intro gb544 hg w4 hbox hb; have n0_ := aM (blk_below (g := gb543) (o := .cells #[.int .i64 0, .int .i64 0] 62 (0, 0)) (by (with_reducible repeat (first | refine kN ?_ _ | refine kD ?_ | refine kA ?_ _)); exact BK543.out) hb); have n1_ := aM (pT (by repeat (first | (with_reducible first | exact HB.out | apply pA | apply pN | apply pD | refine pS ?_ GE543.out) | exact HB.out)) hb); have n2_ := aM (hbox); have n3_ := aM ((by rw [hg]; exact (pZ (by repeat (first | (with_reducible first | exact HB.out | apply pA | apply pN | apply pD | refine pS ?_ GE543.out) | exact HB.out))) : w.heap.size ≤ gb544)); have n4_ := aM ((by rw [hg]; exact (pZ (by repeat (first | (with_reducible first | exact HB.out | apply pA | apply pN | apply pD | refine pS ?_ GE543.out) | exact HB.out))) : w.heap.size ≤ gb544)); have n5_ := aM ((by rw [hg]; exact nN (blk_lt (g := gb543) (o := .cells #[.int .i64 0, .int .i64 0] 62 (0, 0)) (by (with_reducible repeat (first | refine kN ?_ _ | refine kD ?_ | refine kA ?_ _)); exact BK543.out)) : gb543 ≠ gb544)); have n6_ := aM ((by rw [hg]; exact Nat.ne_of_gt (blk_lt (g := gb543) (o := .cells #[.int .i64 0, .int .i64 0] 62 (0, 0)) (by (with_reducible repeat (first | refine kN ?_ _ | refine kD ?_ | refine kA ?_ _)); exact BK543.out)) : gb544 ≠ gb543)); clear BK543; clear HB; have BK543 := n0_; have HB := n1_; have BK544 := n2_; have GW544 := n3_; have GE544 := n4_; have NB543_544 := n5_; have NB544_543 := n6_; clear n0_ n1_ n2_ n3_ n4_ n5_ n6_; clear hb hbox hg))
  have n0_ := aM (kD BK543.out)
  have n1_ := aM (kD BK544.out)
  have n2_ := aM (pD HB.out)
  clear BK543
  clear BK544
  clear HB
  have BK543 := n0_
  have BK544 := n1_
  have HB := n2_
  clear n0_ n1_ n2_
  have p545 : 0 ≤ (0 : Int) := (by omega)
  have q545 : 0 < (l0.length : Int) := dT (by first | (with_reducible assumption) | assumption)
  obtain ⟨ad545, e545, hx545_0, hx545_1⟩ := at_impl_Peg HR0.out 0 p545 q545
  have hw545_1 := hx545_1
  (try rw [show ((0 : Int)).toNat = 0 from rfl] at hw545_1)
  (try rw [show 0 * 2 = 0 from rfl] at hw545_1)
  (try rw [Addr.add_zero'] at hw545_1)
  have hw545_0 := hx545_0
  (try rw [show ((0 : Int)).toNat = 0 from rfl] at hw545_0)
  (try rw [show 0 * 2 = 0 from rfl] at hw545_0)
  (try rw [Addr.add_zero'] at hw545_0)
  cases e545
  have qi545 : (0 < l0.length) = True := eq_true (by omega)
  (try rw [show ((0 : Int)).toNat = 0 from rfl] at hx545_0)
  (try rw [show 0 * 2 = 0 from rfl] at hx545_0)
  (try rw [Addr.add_zero'] at hx545_0)
  (try rw [show ((0 : Int)).toNat = 0 from rfl] at hx545_1)
  (try rw [show 0 * 2 = 0 from rfl] at hx545_1)
  (try rw [Addr.add_zero'] at hx545_1)
  replace hx545_0 := (HB.out.cell (wB w _ hx545_0)).trans hx545_0
  replace hx545_1 := (HB.out.cell (wB w _ hx545_1)).trans hx545_1
  replace p545 := eq_true p545
  replace q545 := eq_true q545
  have p546 : 0 ≤ (0 : Int) := (by omega)
  have q546 : 0 < (l0.length : Int) := dT (by first | (with_reducible assumption) | assumption)
  obtain ⟨ad546, e546, hx546_0, hx546_1⟩ := at_impl_Peg HR0.out 0 p546 q546
  have hw546_1 := hx546_1
  (try rw [show ((0 : Int)).toNat = 0 from rfl] at hw546_1)
  (try rw [show 0 * 2 = 0 from rfl] at hw546_1)
  (try rw [Addr.add_zero'] at hw546_1)
  have hw546_0 := hx546_0
  (try rw [show ((0 : Int)).toNat = 0 from rfl] at hw546_0)
  (try rw [show 0 * 2 = 0 from rfl] at hw546_0)
  (try rw [Addr.add_zero'] at hw546_0)
  obtain rfl : ad545 = ad546 := (by injection e546)
  have qi546 : (0 < l0.length) = True := eq_true (by omega)
  (try rw [show ((0 : Int)).toNat = 0 from rfl] at hx546_0)
  (try rw [show 0 * 2 = 0 from rfl] at hx546_0)
  (try rw [Addr.add_zero'] at hx546_0)
  (try rw [show ((0 : Int)).toNat = 0 from rfl] at hx546_1)
  (try rw [show 0 * 2 = 0 from rfl] at hx546_1)
  (try rw [Addr.add_zero'] at hx546_1)
  replace hx546_0 := (HB.out.cell (wB w _ hx546_0)).trans hx546_0
  replace hx546_1 := (HB.out.cell (wB w _ hx546_1)).trans hx546_1
  replace p546 := eq_true p546
  replace q546 := eq_true q546
  refine start_ (n := 10) (S := fun w' => w'.cell? ad545 = some (.int .i64 ((rd_impl_Peg l0 0).f0)) ∧ w'.cell? ⟨ad545.block, ad545.off + 1, none⟩ = some (.int .i64 ((rd_impl_Peg l0 0).f1)) ∧ w'.cell? ad545 = some (.int .i64 ((rd_impl_Peg l0 0).f0)) ∧ w'.cell? ⟨ad545.block, ad545.off + 1, none⟩ = some (.int .i64 ((rd_impl_Peg l0 0).f1))) (ds := []) #[false, false, false, false, false, false, false, false, false, false] (by kernel_rfl) rfl rfl ⟨((HB.out.cell (wB w _ hw545_0)).trans hw545_0), ((HB.out.cell (wB w _ hw545_1)).trans hw545_1), ((HB.out.cell (wB w _ hw546_0)).trans hw546_0), ((HB.out.cell (wB w _ hw546_1)).trans hw546_1)⟩ (fun hHeld => ?_); refine with_tabW impl_box.tab1 impl_box.bits1 (fun HT_ HW_ => ?_)
  generalize w4.drew = w5 at BK543 BK544 HB hx545_0 hx545_1 hx546_0 hx546_1 hHeld ⊢
  refine pure_ (i := 0) (N := some 8) (v := ?_) (a' := ?_) #[true, false, false, false, false, false, false, false, false, false] rfl rfl (any_of HT_.out (by kernel_rfl)) (fun _ _ _ h => h) (Or.inl ⟨by rfl, ?_⟩) ?_ ?_
  rotate_left
  ·intro w'
   go_simp
   with_reducible rfl
  rotate_left
  ·simp only [Act.put, sI, sZ, sS, i64_w, i32_w]
   rfl
  refine pure_ (i := 1) (N := some 9) (v := ?_) (a' := ?_) #[true, true, false, false, false, false, false, false, false, false] rfl rfl (any_of HT_.out (by kernel_rfl)) (fun _ _ _ h => h) (Or.inl ⟨by rfl, ?_⟩) ?_ ?_
  rotate_left
  ·intro w'
   go_simp
   with_reducible rfl
  rotate_left
  ·simp only [Act.put, sI, sZ, sS, i64_w, i32_w]
   rfl
  refine pure_ (i := 3) (N := some 11) (v := ?_) (a' := ?_) #[true, true, false, true, false, false, false, false, false, false] rfl rfl (any_of HT_.out (by kernel_rfl)) (fun _ _ _ h => h) (Or.inl ⟨by rfl, ?_⟩) ?_ ?_
  rotate_left
  ·intro w'
   go_simp
   with_reducible rfl
  rotate_left
  ·simp only [Act.put, sI, sZ, sS, i64_w, i32_w]
   rfl
  refine pure_ (i := 4) (N := some 12) (v := ?_) (a' := ?_) #[true, true, false, true, true, false, false, false, false, false] rfl rfl (any_of HT_.out (by kernel_rfl)) (fun _ _ _ h => h) (Or.inl ⟨by rfl, ?_⟩) ?_ ?_
  rotate_left
  ·intro w'
   go_simp
   with_reducible rfl
  rotate_left
  ·simp only [Act.put, sI, sZ, sS, i64_w, i32_w]
   rfl
  refine take_ (i := 2) (N := some 10) (v := ?_) (a' := ?_) #[true, true, true, true, true, false, false, false, false, false] rfl rfl (take_ofW HT_.out HW_.out (by kernel_rfl)) (fun _ _ _ h => h) (Or.inl ⟨by rfl, ?_⟩) hHeld ?_ ?_
  rotate_left
  ·rintro w' ⟨s0, s1, s2, s3⟩
   go_simp
   with_reducible rfl
  rotate_left
  ·simp only [Act.put, sI, sZ, sS, i64_w, i32_w]
   rfl
  refine take_ (i := 5) (N := some 13) (v := ?_) (a' := ?_) #[true, true, true, true, true, true, false, false, false, false] rfl rfl (take_ofW HT_.out HW_.out (by kernel_rfl)) (fun _ _ _ h => h) (Or.inl ⟨by rfl, ?_⟩) hHeld ?_ ?_
  rotate_left
  ·rintro w' ⟨s0, s1, s2, s3⟩
   go_simp
   with_reducible rfl
  rotate_left
  ·simp only [Act.put, sI, sZ, sS, i64_w, i32_w]
   rfl
  refine join_ (σ := Nat × Nat) 2 #[true, true, true, true, true, true, true, true, false, false] (fun s_ => [(4, .pointer (some ⟨s_.1, 0, none⟩)), (5, .pointer (some ⟨s_.2, 0, none⟩))]) (fun s_ w' => (w'.cell? ad545 = some (.int .i64 ((rd_impl_Peg l0 0).f0)) ∧ w'.cell? ⟨ad545.block, ad545.off + 1, none⟩ = some (.int .i64 ((rd_impl_Peg l0 0).f1)) ∧ w'.cell? ad545 = some (.int .i64 ((rd_impl_Peg l0 0).f0)) ∧ w'.cell? ⟨ad545.block, ad545.off + 1, none⟩ = some (.int .i64 ((rd_impl_Peg l0 0).f1))) ∧ (w'.heap[gb543]? = some (.cells #[.int .i64 0, .int .i64 0] 62 (0, 0))) ∧ (w'.heap[gb544]? = some (.cells #[.int .i64 0, .int .i64 0] 62 (0, 0))) ∧ (w'.heap[s_.1]? = some (.cells #[.int .i64 0, .int .i64 0] 62 (0, 0))) ∧ (w'.heap[s_.2]? = some (.cells #[.int .i64 0, .int .i64 0] 62 (0, 0))) ∧ (w.heap.size ≤ s_.1) ∧ (w.heap.size ≤ s_.1) ∧ (gb543 ≠ s_.1) ∧ (s_.1 ≠ gb543) ∧ (gb544 ≠ s_.1) ∧ (s_.1 ≠ gb544) ∧ (s_.2 ≠ s_.1) ∧ (s_.1 ≠ s_.2) ∧ (w.heap.size ≤ s_.2) ∧ (w.heap.size ≤ s_.2) ∧ (gb543 ≠ s_.2) ∧ (s_.2 ≠ gb543) ∧ (gb544 ≠ s_.2) ∧ (s_.2 ≠ gb544) ∧ (Below w.heap.size w w')) ?_ ?_
  rotate_left
  ·intro hCont
   refine two_ (i := 6) (j := 7) (Ni := some 4) (Nj := some 5) #[true, true, true, true, true, true, true, false, false, false] #[true, true, true, true, true, true, false, true, false, false] rfl rfl rfl rfl (two_of HT_.out (by kernel_rfl)) (by decide) (by decide) (fun K hK => ?_) (fun K hK => ?_)
   ·skip
    refine box_step ?hg (N := 4) ?hd (cs := #[.int .i64 0, .int .i64 0]) (t := 62) ?hr ?_; (case hd => rfl); (case hg => rfl); (case hr => first | (go_simp; done) | (go_simp; rfl))
    intro gb547 hg w6 hbox hb
    have n0_ := aM (blk_below (g := gb543) (o := .cells #[.int .i64 0, .int .i64 0] 62 (0, 0)) (by (with_reducible repeat (first | refine kN ?_ _ | refine kD ?_ | refine kA ?_ _)); exact BK543.out) hb)
    have n1_ := aM (blk_below (g := gb544) (o := .cells #[.int .i64 0, .int .i64 0] 62 (0, 0)) (by (with_reducible repeat (first | refine kN ?_ _ | refine kD ?_ | refine kA ?_ _)); exact BK544.out) hb)
    have n2_ := aM (pT (by repeat (first | (with_reducible first | exact HB.out | apply pA | apply pN | apply pD | refine pS ?_ GE543.out | refine pS ?_ GE544.out) | exact HB.out)) hb)
    have n3_ := aM (hbox)
    have n4_ := aM ((by rw [hg]; exact (pZ (by repeat (first | (with_reducible first | exact HB.out | apply pA | apply pN | apply pD | refine pS ?_ GE543.out | refine pS ?_ GE544.out) | exact HB.out))) : w.heap.size ≤ gb547))
    have n5_ := aM ((by rw [hg]; exact (pZ (by repeat (first | (with_reducible first | exact HB.out | apply pA | apply pN | apply pD | refine pS ?_ GE543.out | refine pS ?_ GE544.out) | exact HB.out))) : w.heap.size ≤ gb547))
    have n6_ := aM ((by rw [hg]; exact nN (blk_lt (g := gb543) (o := .cells #[.int .i64 0, .int .i64 0] 62 (0, 0)) (by (with_reducible repeat (first | refine kN ?_ _ | refine kD ?_ | refine kA ?_ _)); exact BK543.out)) : gb543 ≠ gb547))
    have n7_ := aM ((by rw [hg]; exact Nat.ne_of_gt (blk_lt (g := gb543) (o := .cells #[.int .i64 0, .int .i64 0] 62 (0, 0)) (by (with_reducible repeat (first | refine kN ?_ _ | refine kD ?_ | refine kA ?_ _)); exact BK543.out)) : gb547 ≠ gb543))
    have n8_ := aM ((by rw [hg]; exact nN (blk_lt (g := gb544) (o := .cells #[.int .i64 0, .int .i64 0] 62 (0, 0)) (by (with_reducible repeat (first | refine kN ?_ _ | refine kD ?_ | refine kA ?_ _)); exact BK544.out)) : gb544 ≠ gb547))
    have n9_ := aM ((by rw [hg]; exact Nat.ne_of_gt (blk_lt (g := gb544) (o := .cells #[.int .i64 0, .int .i64 0] 62 (0, 0)) (by (with_reducible repeat (first | refine kN ?_ _ | refine kD ?_ | refine kA ?_ _)); exact BK544.out)) : gb547 ≠ gb544))
    clear BK543
    clear BK544
    clear HB
    have BK543 := n0_
    have BK544 := n1_
    have HB := n2_
    have BK547 := n3_
    have GW547 := n4_
    have GE547 := n5_
    have NB543_547 := n6_
    have NB547_543 := n7_
    have NB544_547 := n8_
    have NB547_544 := n9_
    clear n0_ n1_ n2_ n3_ n4_ n5_ n6_ n7_ n8_ n9_
    clear hb hbox hg
    refine hK.out _ _ ⟨((HB.out.cell (wB w _ hw545_0)).trans hw545_0), ((HB.out.cell (wB w _ hw545_1)).trans hw545_1), ((HB.out.cell (wB w _ hw546_0)).trans hw546_0), ((HB.out.cell (wB w _ hw546_1)).trans hw546_1)⟩ (fun hHeld => ?_)
    clear hK K
    refine norm_ (a' := ?_) ?_ ?_
    rotate_left
    ·show Act.put _ (some 4) _ = _
     simp only [Act.put, sI, sZ, sS, i64_w, i32_w]
     rfl
    refine one_ (i := 7) (N := some 5) #[true, true, true, true, true, true, true, true, false, false] rfl rfl (one_of HT_.out (by kernel_rfl)) (by decide) (fun K hK => ?_)
    refine box_step ?hg (N := 5) ?hd (cs := #[.int .i64 0, .int .i64 0]) (t := 62) ?hr ?_; (case hd => rfl); (case hg => rfl); (case hr => first | (go_simp; done) | (go_simp; rfl))
    intro gb548 hg w7 hbox hb
    have n0_ := aM (blk_below (g := gb543) (o := .cells #[.int .i64 0, .int .i64 0] 62 (0, 0)) (by (with_reducible repeat (first | refine kN ?_ _ | refine kD ?_ | refine kA ?_ _)); exact BK543.out) hb)
    have n1_ := aM (blk_below (g := gb544) (o := .cells #[.int .i64 0, .int .i64 0] 62 (0, 0)) (by (with_reducible repeat (first | refine kN ?_ _ | refine kD ?_ | refine kA ?_ _)); exact BK544.out) hb)
    have n2_ := aM (blk_below (g := gb547) (o := .cells #[.int .i64 0, .int .i64 0] 62 (0, 0)) (by (with_reducible repeat (first | refine kN ?_ _ | refine kD ?_ | refine kA ?_ _)); exact BK547.out) hb)
    have n3_ := aM (pT (by repeat (first | (with_reducible first | exact HB.out | apply pA | apply pN | apply pD | refine pS ?_ GE543.out | refine pS ?_ GE544.out | refine pS ?_ GE547.out) | exact HB.out)) hb)
    have n4_ := aM (hbox)
    have n5_ := aM ((by rw [hg]; exact (pZ (by repeat (first | (with_reducible first | exact HB.out | apply pA | apply pN | apply pD | refine pS ?_ GE543.out | refine pS ?_ GE544.out | refine pS ?_ GE547.out) | exact HB.out))) : w.heap.size ≤ gb548))
    have n6_ := aM ((by rw [hg]; exact (pZ (by repeat (first | (with_reducible first | exact HB.out | apply pA | apply pN | apply pD | refine pS ?_ GE543.out | refine pS ?_ GE544.out | refine pS ?_ GE547.out) | exact HB.out))) : w.heap.size ≤ gb548))
    have n7_ := aM ((by rw [hg]; exact nN (blk_lt (g := gb543) (o := .cells #[.int .i64 0, .int .i64 0] 62 (0, 0)) (by (with_reducible repeat (first | refine kN ?_ _ | refine kD ?_ | refine kA ?_ _)); exact BK543.out)) : gb543 ≠ gb548))
    have n8_ := aM ((by rw [hg]; exact Nat.ne_of_gt (blk_lt (g := gb543) (o := .cells #[.int .i64 0, .int .i64 0] 62 (0, 0)) (by (with_reducible repeat (first | refine kN ?_ _ | refine kD ?_ | refine kA ?_ _)); exact BK543.out)) : gb548 ≠ gb543))
    have n9_ := aM ((by rw [hg]; exact nN (blk_lt (g := gb544) (o := .cells #[.int .i64 0, .int .i64 0] 62 (0, 0)) (by (with_reducible repeat (first | refine kN ?_ _ | refine kD ?_ | refine kA ?_ _)); exact BK544.out)) : gb544 ≠ gb548))
    have n10_ := aM ((by rw [hg]; exact Nat.ne_of_gt (blk_lt (g := gb544) (o := .cells #[.int .i64 0, .int .i64 0] 62 (0, 0)) (by (with_reducible repeat (first | refine kN ?_ _ | refine kD ?_ | refine kA ?_ _)); exact BK544.out)) : gb548 ≠ gb544))
    have n11_ := aM ((by rw [hg]; exact nN (blk_lt (g := gb547) (o := .cells #[.int .i64 0, .int .i64 0] 62 (0, 0)) (by (with_reducible repeat (first | refine kN ?_ _ | refine kD ?_ | refine kA ?_ _)); exact BK547.out)) : gb547 ≠ gb548))
    have n12_ := aM ((by rw [hg]; exact Nat.ne_of_gt (blk_lt (g := gb547) (o := .cells #[.int .i64 0, .int .i64 0] 62 (0, 0)) (by (with_reducible repeat (first | refine kN ?_ _ | refine kD ?_ | refine kA ?_ _)); exact BK547.out)) : gb548 ≠ gb547))
    clear BK543
    clear BK544
    clear BK547
    clear HB
    have BK543 := n0_
    have BK544 := n1_
    have BK547 := n2_
    have HB := n3_
    have BK548 := n4_
    have GW548 := n5_
    have GE548 := n6_
    have NB543_548 := n7_
    have NB548_543 := n8_
    have NB544_548 := n9_
    have NB548_544 := n10_
    have NB547_548 := n11_
    have NB548_547 := n12_
    clear n0_ n1_ n2_ n3_ n4_ n5_ n6_ n7_ n8_ n9_ n10_ n11_ n12_
    clear hb hbox hg
    refine hK.out _ _ ⟨((HB.out.cell (wB w _ hw545_0)).trans hw545_0), ((HB.out.cell (wB w _ hw545_1)).trans hw545_1), ((HB.out.cell (wB w _ hw546_0)).trans hw546_0), ((HB.out.cell (wB w _ hw546_1)).trans hw546_1)⟩ (fun hHeld => ?_)
    clear hK K
    refine norm_ (a' := ?_) ?_ ?_
    rotate_left
    ·show Act.put _ (some 5) _ = _
     simp only [Act.put, sI, sZ, sS, i64_w, i32_w]
     rfl
    exact norm_ (by simp only [putAll, Act.put, sI, sZ, sS]) (hCont (gb547, gb548) _ ⟨hHeld, (by (with_reducible repeat (first | refine kN ?_ _ | refine kD ?_ | refine kA ?_ _)); exact BK543.out), (by (with_reducible repeat (first | refine kN ?_ _ | refine kD ?_ | refine kA ?_ _)); exact BK544.out), (by (with_reducible repeat (first | refine kN ?_ _ | refine kD ?_ | refine kA ?_ _)); exact BK547.out), (by (with_reducible repeat (first | refine kN ?_ _ | refine kD ?_ | refine kA ?_ _)); exact BK548.out), GW547.out, GE547.out, NB543_547.out, NB547_543.out, NB544_547.out, NB547_544.out, NB548_547.out, NB547_548.out, GW548.out, GE548.out, NB543_548.out, NB548_543.out, NB544_548.out, NB548_544.out, (by repeat (first | (with_reducible first | exact HB.out | apply pA | apply pN | apply pD | refine pS ?_ GE543.out | refine pS ?_ GE544.out | refine pS ?_ GE547.out | refine pS ?_ GE548.out) | exact HB.out))⟩)
   ·skip
    refine box_step ?hg (N := 5) ?hd (cs := #[.int .i64 0, .int .i64 0]) (t := 62) ?hr ?_; (case hd => rfl); (case hg => rfl); (case hr => first | (go_simp; done) | (go_simp; rfl))
    intro gb548 hg w6 hbox hb
    have n0_ := aM (blk_below (g := gb543) (o := .cells #[.int .i64 0, .int .i64 0] 62 (0, 0)) (by (with_reducible repeat (first | refine kN ?_ _ | refine kD ?_ | refine kA ?_ _)); exact BK543.out) hb)
    have n1_ := aM (blk_below (g := gb544) (o := .cells #[.int .i64 0, .int .i64 0] 62 (0, 0)) (by (with_reducible repeat (first | refine kN ?_ _ | refine kD ?_ | refine kA ?_ _)); exact BK544.out) hb)
    have n2_ := aM (pT (by repeat (first | (with_reducible first | exact HB.out | apply pA | apply pN | apply pD | refine pS ?_ GE543.out | refine pS ?_ GE544.out) | exact HB.out)) hb)
    have n3_ := aM (hbox)
    have n4_ := aM ((by rw [hg]; exact (pZ (by repeat (first | (with_reducible first | exact HB.out | apply pA | apply pN | apply pD | refine pS ?_ GE543.out | refine pS ?_ GE544.out) | exact HB.out))) : w.heap.size ≤ gb548))
    have n5_ := aM ((by rw [hg]; exact (pZ (by repeat (first | (with_reducible first | exact HB.out | apply pA | apply pN | apply pD | refine pS ?_ GE543.out | refine pS ?_ GE544.out) | exact HB.out))) : w.heap.size ≤ gb548))
    have n6_ := aM ((by rw [hg]; exact nN (blk_lt (g := gb543) (o := .cells #[.int .i64 0, .int .i64 0] 62 (0, 0)) (by (with_reducible repeat (first | refine kN ?_ _ | refine kD ?_ | refine kA ?_ _)); exact BK543.out)) : gb543 ≠ gb548))
    have n7_ := aM ((by rw [hg]; exact Nat.ne_of_gt (blk_lt (g := gb543) (o := .cells #[.int .i64 0, .int .i64 0] 62 (0, 0)) (by (with_reducible repeat (first | refine kN ?_ _ | refine kD ?_ | refine kA ?_ _)); exact BK543.out)) : gb548 ≠ gb543))
    have n8_ := aM ((by rw [hg]; exact nN (blk_lt (g := gb544) (o := .cells #[.int .i64 0, .int .i64 0] 62 (0, 0)) (by (with_reducible repeat (first | refine kN ?_ _ | refine kD ?_ | refine kA ?_ _)); exact BK544.out)) : gb544 ≠ gb548))
    have n9_ := aM ((by rw [hg]; exact Nat.ne_of_gt (blk_lt (g := gb544) (o := .cells #[.int .i64 0, .int .i64 0] 62 (0, 0)) (by (with_reducible repeat (first | refine kN ?_ _ | refine kD ?_ | refine kA ?_ _)); exact BK544.out)) : gb548 ≠ gb544))
    clear BK543
    clear BK544
    clear HB
    have BK543 := n0_
    have BK544 := n1_
    have HB := n2_
    have BK548 := n3_
    have GW548 := n4_
    have GE548 := n5_
    have NB543_548 := n6_
    have NB548_543 := n7_
    have NB544_548 := n8_
    have NB548_544 := n9_
    clear n0_ n1_ n2_ n3_ n4_ n5_ n6_ n7_ n8_ n9_
    clear hb hbox hg
    refine hK.out _ _ ⟨((HB.out.cell (wB w _ hw545_0)).trans hw545_0), ((HB.out.cell (wB w _ hw545_1)).trans hw545_1), ((HB.out.cell (wB w _ hw546_0)).trans hw546_0), ((HB.out.cell (wB w _ hw546_1)).trans hw546_1)⟩ (fun hHeld => ?_)
    clear hK K
    refine norm_ (a' := ?_) ?_ ?_
    rotate_left
    ·show Act.put _ (some 5) _ = _
     simp only [Act.put, sI, sZ, sS, i64_w, i32_w]
     rfl
    refine one_ (i := 6) (N := some 4) #[true, true, true, true, true, true, true, true, false, false] rfl rfl (one_of HT_.out (by kernel_rfl)) (by decide) (fun K hK => ?_)
    refine box_step ?hg (N := 4) ?hd (cs := #[.int .i64 0, .int .i64 0]) (t := 62) ?hr ?_; (case hd => rfl); (case hg => rfl); (case hr => first | (go_simp; done) | (go_simp; rfl))
    intro gb547 hg w7 hbox hb
    have n0_ := aM (blk_below (g := gb543) (o := .cells #[.int .i64 0, .int .i64 0] 62 (0, 0)) (by (with_reducible repeat (first | refine kN ?_ _ | refine kD ?_ | refine kA ?_ _)); exact BK543.out) hb)
    have n1_ := aM (blk_below (g := gb544) (o := .cells #[.int .i64 0, .int .i64 0] 62 (0, 0)) (by (with_reducible repeat (first | refine kN ?_ _ | refine kD ?_ | refine kA ?_ _)); exact BK544.out) hb)
    have n2_ := aM (blk_below (g := gb548) (o := .cells #[.int .i64 0, .int .i64 0] 62 (0, 0)) (by (with_reducible repeat (first | refine kN ?_ _ | refine kD ?_ | refine kA ?_ _)); exact BK548.out) hb)
    have n3_ := aM (pT (by repeat (first | (with_reducible first | exact HB.out | apply pA | apply pN | apply pD | refine pS ?_ GE543.out | refine pS ?_ GE544.out | refine pS ?_ GE548.out) | exact HB.out)) hb)
    have n4_ := aM (hbox)
    have n5_ := aM ((by rw [hg]; exact (pZ (by repeat (first | (with_reducible first | exact HB.out | apply pA | apply pN | apply pD | refine pS ?_ GE543.out | refine pS ?_ GE544.out | refine pS ?_ GE548.out) | exact HB.out))) : w.heap.size ≤ gb547))
    have n6_ := aM ((by rw [hg]; exact (pZ (by repeat (first | (with_reducible first | exact HB.out | apply pA | apply pN | apply pD | refine pS ?_ GE543.out | refine pS ?_ GE544.out | refine pS ?_ GE548.out) | exact HB.out))) : w.heap.size ≤ gb547))
    have n7_ := aM ((by rw [hg]; exact nN (blk_lt (g := gb543) (o := .cells #[.int .i64 0, .int .i64 0] 62 (0, 0)) (by (with_reducible repeat (first | refine kN ?_ _ | refine kD ?_ | refine kA ?_ _)); exact BK543.out)) : gb543 ≠ gb547))
    have n8_ := aM ((by rw [hg]; exact Nat.ne_of_gt (blk_lt (g := gb543) (o := .cells #[.int .i64 0, .int .i64 0] 62 (0, 0)) (by (with_reducible repeat (first | refine kN ?_ _ | refine kD ?_ | refine kA ?_ _)); exact BK543.out)) : gb547 ≠ gb543))
    have n9_ := aM ((by rw [hg]; exact nN (blk_lt (g := gb544) (o := .cells #[.int .i64 0, .int .i64 0] 62 (0, 0)) (by (with_reducible repeat (first | refine kN ?_ _ | refine kD ?_ | refine kA ?_ _)); exact BK544.out)) : gb544 ≠ gb547))
    have n10_ := aM ((by rw [hg]; exact Nat.ne_of_gt (blk_lt (g := gb544) (o := .cells #[.int .i64 0, .int .i64 0] 62 (0, 0)) (by (with_reducible repeat (first | refine kN ?_ _ | refine kD ?_ | refine kA ?_ _)); exact BK544.out)) : gb547 ≠ gb544))
    have n11_ := aM ((by rw [hg]; exact nN (blk_lt (g := gb548) (o := .cells #[.int .i64 0, .int .i64 0] 62 (0, 0)) (by (with_reducible repeat (first | refine kN ?_ _ | refine kD ?_ | refine kA ?_ _)); exact BK548.out)) : gb548 ≠ gb547))
    have n12_ := aM ((by rw [hg]; exact Nat.ne_of_gt (blk_lt (g := gb548) (o := .cells #[.int .i64 0, .int .i64 0] 62 (0, 0)) (by (with_reducible repeat (first | refine kN ?_ _ | refine kD ?_ | refine kA ?_ _)); exact BK548.out)) : gb547 ≠ gb548))
    clear BK543
    clear BK544
    clear BK548
    clear HB
    have BK543 := n0_
    have BK544 := n1_
    have BK548 := n2_
    have HB := n3_
    have BK547 := n4_
    have GW547 := n5_
    have GE547 := n6_
    have NB543_547 := n7_
    have NB547_543 := n8_
    have NB544_547 := n9_
    have NB547_544 := n10_
    have NB548_547 := n11_
    have NB547_548 := n12_
    clear n0_ n1_ n2_ n3_ n4_ n5_ n6_ n7_ n8_ n9_ n10_ n11_ n12_
    clear hb hbox hg
    refine hK.out _ _ ⟨((HB.out.cell (wB w _ hw545_0)).trans hw545_0), ((HB.out.cell (wB w _ hw545_1)).trans hw545_1), ((HB.out.cell (wB w _ hw546_0)).trans hw546_0), ((HB.out.cell (wB w _ hw546_1)).trans hw546_1)⟩ (fun hHeld => ?_)
    clear hK K
    refine norm_ (a' := ?_) ?_ ?_
    rotate_left
    ·show Act.put _ (some 4) _ = _
     simp only [Act.put, sI, sZ, sS, i64_w, i32_w]
     rfl
    exact norm_ (by simp only [putAll, Act.put, sI, sZ, sS]) (hCont (gb547, gb548) _ ⟨hHeld, (by (with_reducible repeat (first | refine kN ?_ _ | refine kD ?_ | refine kA ?_ _)); exact BK543.out), (by (with_reducible repeat (first | refine kN ?_ _ | refine kD ?_ | refine kA ?_ _)); exact BK544.out), (by (with_reducible repeat (first | refine kN ?_ _ | refine kD ?_ | refine kA ?_ _)); exact BK547.out), (by (with_reducible repeat (first | refine kN ?_ _ | refine kD ?_ | refine kA ?_ _)); exact BK548.out), GW547.out, GE547.out, NB543_547.out, NB547_543.out, NB544_547.out, NB547_544.out, NB548_547.out, NB547_548.out, GW548.out, GE548.out, NB543_548.out, NB548_543.out, NB544_548.out, NB548_544.out, (by repeat (first | (with_reducible first | exact HB.out | apply pA | apply pN | apply pD | refine pS ?_ GE543.out | refine pS ?_ GE544.out | refine pS ?_ GE548.out | refine pS ?_ GE547.out) | exact HB.out))⟩)
  rintro ⟨gb547, gb548⟩ w8 ⟨hS_, h0_, h1_, h2_, h3_, h4_, h5_, h6_, h7_, h8_, h9_, h10_, h11_, h12_, h13_, h14_, h15_, h16_, h17_, h18_⟩
  have n0_ : Aside0 (w8.heap[gb543]? = some (.cells #[.int .i64 0, .int .i64 0] 62 (0, 0))) := ⟨h0_⟩
  have n1_ : Aside0 (w8.heap[gb544]? = some (.cells #[.int .i64 0, .int .i64 0] 62 (0, 0))) := ⟨h1_⟩
  have n2_ : Aside0 (w8.heap[gb547]? = some (.cells #[.int .i64 0, .int .i64 0] 62 (0, 0))) := ⟨h2_⟩
  have n3_ : Aside0 (w8.heap[gb548]? = some (.cells #[.int .i64 0, .int .i64 0] 62 (0, 0))) := ⟨h3_⟩
  have n4_ : Aside0 (w.heap.size ≤ gb547) := ⟨h4_⟩
  have n5_ : Aside0 (w.heap.size ≤ gb547) := ⟨h5_⟩
  have n6_ : Aside0 (gb543 ≠ gb547) := ⟨h6_⟩
  have n7_ : Aside0 (gb547 ≠ gb543) := ⟨h7_⟩
  have n8_ : Aside0 (gb544 ≠ gb547) := ⟨h8_⟩
  have n9_ : Aside0 (gb547 ≠ gb544) := ⟨h9_⟩
  have n10_ : Aside0 (gb548 ≠ gb547) := ⟨h10_⟩
  have n11_ : Aside0 (gb547 ≠ gb548) := ⟨h11_⟩
  have n12_ : Aside0 (w.heap.size ≤ gb548) := ⟨h12_⟩
  have n13_ : Aside0 (w.heap.size ≤ gb548) := ⟨h13_⟩
  have n14_ : Aside0 (gb543 ≠ gb548) := ⟨h14_⟩
  have n15_ : Aside0 (gb548 ≠ gb543) := ⟨h15_⟩
  have n16_ : Aside0 (gb544 ≠ gb548) := ⟨h16_⟩
  have n17_ : Aside0 (gb548 ≠ gb544) := ⟨h17_⟩
  have n18_ : Aside0 (Below w.heap.size w w8) := ⟨h18_⟩
  clear BK543
  clear BK544
  clear HB
  clear h0_ h1_ h2_ h3_ h4_ h5_ h6_ h7_ h8_ h9_ h10_ h11_ h12_ h13_ h14_ h15_ h16_ h17_ h18_
  have BK543 := n0_
  have BK544 := n1_
  have BK547 := n2_
  have BK548 := n3_
  have GW547 := n4_
  have GE547 := n5_
  have NB543_547 := n6_
  have NB547_543 := n7_
  have NB544_547 := n8_
  have NB547_544 := n9_
  have NB548_547 := n10_
  have NB547_548 := n11_
  have GW548 := n12_
  have GE548 := n13_
  have NB543_548 := n14_
  have NB548_543 := n15_
  have NB544_548 := n16_
  have NB548_544 := n17_
  have HB := n18_
  clear n0_ n1_ n2_ n3_ n4_ n5_ n6_ n7_ n8_ n9_ n10_ n11_ n12_ n13_ n14_ n15_ n16_ n17_ n18_
  have hHeld : w8.cell? ad545 = some (.int .i64 ((rd_impl_Peg l0 0).f0)) ∧ w8.cell? ⟨ad545.block, ad545.off + 1, none⟩ = some (.int .i64 ((rd_impl_Peg l0 0).f1)) ∧ w8.cell? ad545 = some (.int .i64 ((rd_impl_Peg l0 0).f0)) ∧ w8.cell? ⟨ad545.block, ad545.off + 1, none⟩ = some (.int .i64 ((rd_impl_Peg l0 0).f1)) := hS_
  refine norm_ (a' := ?_) ?_ ?_
  rotate_left
  ·simp only [putAll, Act.put, sI, sZ, sS]
   rfl
  refine one_ (i := 8) (N := none) #[true, true, true, true, true, true, true, true, true, false] rfl rfl (one_of HT_.out (by kernel_rfl)) (by decide) (fun K hK => ?_)
  have hs9 : w8.cell? ⟨gb547, 0, none⟩ = some (.int .i64 0) := (kC BK547.out 0).trans rfl
  have hfs9 := kF BK547.out 0
  have hns9_0 := NB543_547.out
  have hns9_1 := NB544_547.out
  have hns9_3 := NB548_547.out
  have hms9_0 := NB547_543.out
  have hms9_1 := NB547_544.out
  have hms9_3 := NB547_548.out
  have hs10 : w8.cell? ⟨gb547, 1, none⟩ = some (.int .i64 0) := (kC BK547.out 1).trans rfl
  have hfs10 := kF BK547.out 1
  have hns10_0 := NB543_547.out
  have hns10_1 := NB544_547.out
  have hns10_3 := NB548_547.out
  have hms10_0 := NB547_543.out
  have hms10_1 := NB547_544.out
  have hms10_3 := NB547_548.out
  refine skip_ (w1 := ?_) (by rfl) rfl ?_ ?_
  rotate_left
  ·go_simp
   rfl
  refine hK.out _ _ ⟨((cell_far (p := ⟨gb547, _, none⟩) (by first | exact nN (nL (by have := wB _ _ hw545_0; first | rwa [add_block] at this | exact this) GW547.out) | (rw [add_block]; exact nN (nL (by have := wB _ _ hw545_0; first | rwa [add_block] at this | exact this) GW547.out)) | (show (Addr.add _ _).block ≠ _; rw [add_block]; exact nN (nL (by have := wB _ _ hw545_0; first | rwa [add_block] at this | exact this) GW547.out)) | (dsimp only; exact nN (nL (by have := wB _ _ hw545_0; first | rwa [add_block] at this | exact this) GW547.out))) _).trans (((cell_far (p := ⟨gb547, _, none⟩) (by first | exact nN (nL (by have := wB _ _ hw545_0; first | rwa [add_block] at this | exact this) GW547.out) | (rw [add_block]; exact nN (nL (by have := wB _ _ hw545_0; first | rwa [add_block] at this | exact this) GW547.out)) | (show (Addr.add _ _).block ≠ _; rw [add_block]; exact nN (nL (by have := wB _ _ hw545_0; first | rwa [add_block] at this | exact this) GW547.out)) | (dsimp only; exact nN (nL (by have := wB _ _ hw545_0; first | rwa [add_block] at this | exact this) GW547.out))) _).trans (hHeld.1)))), ((cell_far (p := ⟨gb547, _, none⟩) (by first | exact nN (nL (by have := wB _ _ hw545_1; first | rwa [add_block] at this | exact this) GW547.out) | (rw [add_block]; exact nN (nL (by have := wB _ _ hw545_1; first | rwa [add_block] at this | exact this) GW547.out)) | (show (Addr.add _ _).block ≠ _; rw [add_block]; exact nN (nL (by have := wB _ _ hw545_1; first | rwa [add_block] at this | exact this) GW547.out)) | (dsimp only; exact nN (nL (by have := wB _ _ hw545_1; first | rwa [add_block] at this | exact this) GW547.out))) _).trans (((cell_far (p := ⟨gb547, _, none⟩) (by first | exact nN (nL (by have := wB _ _ hw545_1; first | rwa [add_block] at this | exact this) GW547.out) | (rw [add_block]; exact nN (nL (by have := wB _ _ hw545_1; first | rwa [add_block] at this | exact this) GW547.out)) | (show (Addr.add _ _).block ≠ _; rw [add_block]; exact nN (nL (by have := wB _ _ hw545_1; first | rwa [add_block] at this | exact this) GW547.out)) | (dsimp only; exact nN (nL (by have := wB _ _ hw545_1; first | rwa [add_block] at this | exact this) GW547.out))) _).trans (hHeld.2.1)))), ((cell_far (p := ⟨gb547, _, none⟩) (by first | exact nN (nL (by have := wB _ _ hw546_0; first | rwa [add_block] at this | exact this) GW547.out) | (rw [add_block]; exact nN (nL (by have := wB _ _ hw546_0; first | rwa [add_block] at this | exact this) GW547.out)) | (show (Addr.add _ _).block ≠ _; rw [add_block]; exact nN (nL (by have := wB _ _ hw546_0; first | rwa [add_block] at this | exact this) GW547.out)) | (dsimp only; exact nN (nL (by have := wB _ _ hw546_0; first | rwa [add_block] at this | exact this) GW547.out))) _).trans (((cell_far (p := ⟨gb547, _, none⟩) (by first | exact nN (nL (by have := wB _ _ hw546_0; first | rwa [add_block] at this | exact this) GW547.out) | (rw [add_block]; exact nN (nL (by have := wB _ _ hw546_0; first | rwa [add_block] at this | exact this) GW547.out)) | (show (Addr.add _ _).block ≠ _; rw [add_block]; exact nN (nL (by have := wB _ _ hw546_0; first | rwa [add_block] at this | exact this) GW547.out)) | (dsimp only; exact nN (nL (by have := wB _ _ hw546_0; first | rwa [add_block] at this | exact this) GW547.out))) _).trans (hHeld.2.2.1)))), ((cell_far (p := ⟨gb547, _, none⟩) (by first | exact nN (nL (by have := wB _ _ hw546_1; first | rwa [add_block] at this | exact this) GW547.out) | (rw [add_block]; exact nN (nL (by have := wB _ _ hw546_1; first | rwa [add_block] at this | exact this) GW547.out)) | (show (Addr.add _ _).block ≠ _; rw [add_block]; exact nN (nL (by have := wB _ _ hw546_1; first | rwa [add_block] at this | exact this) GW547.out)) | (dsimp only; exact nN (nL (by have := wB _ _ hw546_1; first | rwa [add_block] at this | exact this) GW547.out))) _).trans (((cell_far (p := ⟨gb547, _, none⟩) (by first | exact nN (nL (by have := wB _ _ hw546_1; first | rwa [add_block] at this | exact this) GW547.out) | (rw [add_block]; exact nN (nL (by have := wB _ _ hw546_1; first | rwa [add_block] at this | exact this) GW547.out)) | (show (Addr.add _ _).block ≠ _; rw [add_block]; exact nN (nL (by have := wB _ _ hw546_1; first | rwa [add_block] at this | exact this) GW547.out)) | (dsimp only; exact nN (nL (by have := wB _ _ hw546_1; first | rwa [add_block] at this | exact this) GW547.out))) _).trans (hHeld.2.2.2))))⟩ (fun hHeld => ?_)
  clear hK K
  refine one_ (i := 9) (N := none) #[true, true, true, true, true, true, true, true, true, true] rfl rfl (one_of HT_.out (by kernel_rfl)) (by decide) (fun K hK => ?_)
  have hs11 : w8.cell? ⟨gb548, 0, none⟩ = some (.int .i64 0) := (kC BK548.out 0).trans rfl
  have hfs11 := kF BK548.out 0
  have hns11_0 := NB543_548.out
  have hns11_1 := NB544_548.out
  have hns11_2 := NB547_548.out
  have hms11_0 := NB548_543.out
  have hms11_1 := NB548_544.out
  have hms11_2 := NB548_547.out
  have hs12 : w8.cell? ⟨gb548, 1, none⟩ = some (.int .i64 0) := (kC BK548.out 1).trans rfl
  have hfs12 := kF BK548.out 1
  have hns12_0 := NB543_548.out
  have hns12_1 := NB544_548.out
  have hns12_2 := NB547_548.out
  have hms12_0 := NB548_543.out
  have hms12_1 := NB548_544.out
  have hms12_2 := NB548_547.out
  refine skip_ (w1 := ?_) (by rfl) rfl ?_ ?_
  rotate_left
  ·go_simp
   rfl
  refine hK.out _ _ ⟨((cell_far (p := ⟨gb548, _, none⟩) (by first | exact nN (nL (by have := wB _ _ hw545_0; first | rwa [add_block] at this | exact this) GW548.out) | (rw [add_block]; exact nN (nL (by have := wB _ _ hw545_0; first | rwa [add_block] at this | exact this) GW548.out)) | (show (Addr.add _ _).block ≠ _; rw [add_block]; exact nN (nL (by have := wB _ _ hw545_0; first | rwa [add_block] at this | exact this) GW548.out)) | (dsimp only; exact nN (nL (by have := wB _ _ hw545_0; first | rwa [add_block] at this | exact this) GW548.out))) _).trans (((cell_far (p := ⟨gb548, _, none⟩) (by first | exact nN (nL (by have := wB _ _ hw545_0; first | rwa [add_block] at this | exact this) GW548.out) | (rw [add_block]; exact nN (nL (by have := wB _ _ hw545_0; first | rwa [add_block] at this | exact this) GW548.out)) | (show (Addr.add _ _).block ≠ _; rw [add_block]; exact nN (nL (by have := wB _ _ hw545_0; first | rwa [add_block] at this | exact this) GW548.out)) | (dsimp only; exact nN (nL (by have := wB _ _ hw545_0; first | rwa [add_block] at this | exact this) GW548.out))) _).trans (hHeld.1)))), ((cell_far (p := ⟨gb548, _, none⟩) (by first | exact nN (nL (by have := wB _ _ hw545_1; first | rwa [add_block] at this | exact this) GW548.out) | (rw [add_block]; exact nN (nL (by have := wB _ _ hw545_1; first | rwa [add_block] at this | exact this) GW548.out)) | (show (Addr.add _ _).block ≠ _; rw [add_block]; exact nN (nL (by have := wB _ _ hw545_1; first | rwa [add_block] at this | exact this) GW548.out)) | (dsimp only; exact nN (nL (by have := wB _ _ hw545_1; first | rwa [add_block] at this | exact this) GW548.out))) _).trans (((cell_far (p := ⟨gb548, _, none⟩) (by first | exact nN (nL (by have := wB _ _ hw545_1; first | rwa [add_block] at this | exact this) GW548.out) | (rw [add_block]; exact nN (nL (by have := wB _ _ hw545_1; first | rwa [add_block] at this | exact this) GW548.out)) | (show (Addr.add _ _).block ≠ _; rw [add_block]; exact nN (nL (by have := wB _ _ hw545_1; first | rwa [add_block] at this | exact this) GW548.out)) | (dsimp only; exact nN (nL (by have := wB _ _ hw545_1; first | rwa [add_block] at this | exact this) GW548.out))) _).trans (hHeld.2.1)))), ((cell_far (p := ⟨gb548, _, none⟩) (by first | exact nN (nL (by have := wB _ _ hw546_0; first | rwa [add_block] at this | exact this) GW548.out) | (rw [add_block]; exact nN (nL (by have := wB _ _ hw546_0; first | rwa [add_block] at this | exact this) GW548.out)) | (show (Addr.add _ _).block ≠ _; rw [add_block]; exact nN (nL (by have := wB _ _ hw546_0; first | rwa [add_block] at this | exact this) GW548.out)) | (dsimp only; exact nN (nL (by have := wB _ _ hw546_0; first | rwa [add_block] at this | exact this) GW548.out))) _).trans (((cell_far (p := ⟨gb548, _, none⟩) (by first | exact nN (nL (by have := wB _ _ hw546_0; first | rwa [add_block] at this | exact this) GW548.out) | (rw [add_block]; exact nN (nL (by have := wB _ _ hw546_0; first | rwa [add_block] at this | exact this) GW548.out)) | (show (Addr.add _ _).block ≠ _; rw [add_block]; exact nN (nL (by have := wB _ _ hw546_0; first | rwa [add_block] at this | exact this) GW548.out)) | (dsimp only; exact nN (nL (by have := wB _ _ hw546_0; first | rwa [add_block] at this | exact this) GW548.out))) _).trans (hHeld.2.2.1)))), ((cell_far (p := ⟨gb548, _, none⟩) (by first | exact nN (nL (by have := wB _ _ hw546_1; first | rwa [add_block] at this | exact this) GW548.out) | (rw [add_block]; exact nN (nL (by have := wB _ _ hw546_1; first | rwa [add_block] at this | exact this) GW548.out)) | (show (Addr.add _ _).block ≠ _; rw [add_block]; exact nN (nL (by have := wB _ _ hw546_1; first | rwa [add_block] at this | exact this) GW548.out)) | (dsimp only; exact nN (nL (by have := wB _ _ hw546_1; first | rwa [add_block] at this | exact this) GW548.out))) _).trans (((cell_far (p := ⟨gb548, _, none⟩) (by first | exact nN (nL (by have := wB _ _ hw546_1; first | rwa [add_block] at this | exact this) GW548.out) | (rw [add_block]; exact nN (nL (by have := wB _ _ hw546_1; first | rwa [add_block] at this | exact this) GW548.out)) | (show (Addr.add _ _).block ≠ _; rw [add_block]; exact nN (nL (by have := wB _ _ hw546_1; first | rwa [add_block] at this | exact this) GW548.out)) | (dsimp only; exact nN (nL (by have := wB _ _ hw546_1; first | rwa [add_block] at this | exact this) GW548.out))) _).trans (hHeld.2.2.2))))⟩ (fun hHeld => ?_)
  clear hK K
  refine done_ (done_of HT_.out (by kernel_rfl)) ?_
  try go_wp2
  go_loopg [16] k (fun kq v16 w' => ∃ (x16_1 : Int) (x548000_1 : Int) (x548001_1 : Int) (x549000_1 : Int) (x549001_1 : Int), v16 = .int .i64 x16_1 ∧ Aside0 (impl_box.l0 kq l0 (l0.length : Int) x16_1 x548000_1 x548001_1 x549000_1 x549001_1 = some (r1, r2, r3, r4)) ∧ Aside0 (kq ≤ k) ∧ Aside0 (w'.heap[gb543]? = some (.cells #[.int .i64 0, .int .i64 0] 62 (0, 0))) ∧ Aside0 (w'.heap[gb544]? = some (.cells #[.int .i64 0, .int .i64 0] 62 (0, 0))) ∧ Aside0 (w'.heap[gb547]? = some (.cells #[.int .i64 x548000_1, .int .i64 x548001_1] 62 (0, 0))) ∧ Aside0 (w'.heap[gb548]? = some (.cells #[.int .i64 x549000_1, .int .i64 x549001_1] 62 (0, 0))) ∧ Aside0 (Below w.heap.size w w'))
  case atStart => exact ⟨(0), ((rd_impl_Peg l0 0).f0), ((rd_impl_Peg l0 0).f1), ((rd_impl_Peg l0 0).f0), ((rd_impl_Peg l0 0).f1), (by first | rfl | (simp; done) | (simp [*]; done)), H', ⟨Nat.le_refl _⟩, ⟨by (with_reducible repeat (first | refine kN ?_ _ | refine kD ?_ | refine kA ?_ _)); refine blk_far ?_ NB543_548.out _; (with_reducible repeat (first | refine kN ?_ _ | refine kD ?_ | refine kA ?_ _)); refine blk_far ?_ NB543_548.out _; (with_reducible repeat (first | refine kN ?_ _ | refine kD ?_ | refine kA ?_ _)); refine blk_far ?_ NB543_547.out _; (with_reducible repeat (first | refine kN ?_ _ | refine kD ?_ | refine kA ?_ _)); refine blk_far ?_ NB543_547.out _; (with_reducible repeat (first | refine kN ?_ _ | refine kD ?_ | refine kA ?_ _)); exact BK543.out⟩, ⟨by (with_reducible repeat (first | refine kN ?_ _ | refine kD ?_ | refine kA ?_ _)); refine blk_far ?_ NB544_548.out _; (with_reducible repeat (first | refine kN ?_ _ | refine kD ?_ | refine kA ?_ _)); refine blk_far ?_ NB544_548.out _; (with_reducible repeat (first | refine kN ?_ _ | refine kD ?_ | refine kA ?_ _)); refine blk_far ?_ NB544_547.out _; (with_reducible repeat (first | refine kN ?_ _ | refine kD ?_ | refine kA ?_ _)); refine blk_far ?_ NB544_547.out _; (with_reducible repeat (first | refine kN ?_ _ | refine kD ?_ | refine kA ?_ _)); exact BK544.out⟩, ⟨by (with_reducible repeat (first | refine kN ?_ _ | refine kD ?_ | refine kA ?_ _)); refine blk_far ?_ NB547_548.out _; (with_reducible repeat (first | refine kN ?_ _ | refine kD ?_ | refine kA ?_ _)); refine blk_far ?_ NB547_548.out _; (with_reducible repeat (first | refine kN ?_ _ | refine kD ?_ | refine kA ?_ _)); refine blk_put (cs := #[.int .i64 ((rd_impl_Peg l0 0).f0), .int .i64 0]) ?_ 1 _ rfl; (with_reducible repeat (first | refine kN ?_ _ | refine kD ?_ | refine kA ?_ _)); refine blk_put (cs := #[.int .i64 0, .int .i64 0]) ?_ 0 _ rfl; (with_reducible repeat (first | refine kN ?_ _ | refine kD ?_ | refine kA ?_ _)); exact BK547.out⟩, ⟨by (with_reducible repeat (first | refine kN ?_ _ | refine kD ?_ | refine kA ?_ _)); refine blk_put (cs := #[.int .i64 ((rd_impl_Peg l0 0).f0), .int .i64 0]) ?_ 1 _ rfl; (with_reducible repeat (first | refine kN ?_ _ | refine kD ?_ | refine kA ?_ _)); refine blk_put (cs := #[.int .i64 0, .int .i64 0]) ?_ 0 _ rfl; (with_reducible repeat (first | refine kN ?_ _ | refine kD ?_ | refine kA ?_ _)); refine blk_far ?_ NB548_547.out _; (with_reducible repeat (first | refine kN ?_ _ | refine kD ?_ | refine kA ?_ _)); refine blk_far ?_ NB548_547.out _; (with_reducible repeat (first | refine kN ?_ _ | refine kD ?_ | refine kA ?_ _)); exact BK548.out⟩, ⟨by repeat (first | (with_reducible first | exact HB.out | apply pA | apply pN | apply pD | refine pS ?_ GE543.out | refine pS ?_ GE544.out | refine pS ?_ GE547.out | refine pS ?_ GE548.out) | exact HB.out)⟩⟩
  case round =>
   clear H'
   try clear c2
   try clear c2b0
   try clear c2b1
   try clear p2
   try clear p5
   try clear q5
   try clear hx5
   try clear qi5
   try clear c8
   try clear hx545_0
   try clear hx545_1
   try clear hx546_0
   try clear hx546_1
   try clear p545
   try clear p546
   try clear q545
   try clear q546
   obtain ⟨x16_1, x548000_1, x548001_1, x549000_1, x549001_1, rfl, HA, HK1, BK543, BK544, BK547, BK548, HB⟩ := hrel
   cases gk with
   | zero => exact absurd HA.out (by simp [impl_box.l0])
   | succ k1 =>
    have H := HA.out
    clear HA
    simp only [impl_box.l0] at H
    by_cases c13 : x16_1 < (l0.length : Int)
    ·rw [if_pos c13] at H
     have c13b0 : decide (x16_1 < (l0.length : Int)) = true := dE c13
     clear c13
     by_cases c14 : 0 ≤ x16_1
     ·rw [if_pos c14] at H
      have c14b0 : decide (0 ≤ x16_1) = true := dE c14
      clear c14
      by_cases c15 : x16_1 < (l0.length : Int)
      ·rw [if_pos c15] at H
       have c15b0 : decide (x16_1 < (l0.length : Int)) = true := dE c15
       clear c15
       obtain ⟨ji16, hji16⟩ : ∃ j_ : Int, (mn x548000_1 ((rd_impl_Peg l0 x16_1).f0)) = j_ := ⟨_, rfl⟩
       replace H : (impl_box.l0 k1 l0 (l0.length : Int) (wrap64 (x16_1 + 1)) ji16 (mn x548001_1 ((rd_impl_Peg l0 x16_1).f1)) (mx x549000_1 ((rd_impl_Peg l0 x16_1).f0)) (mx x549001_1 ((rd_impl_Peg l0 x16_1).f1))) = some (r1, r2, r3, r4) := by first | (rw [hji16] at H; exact H) | (simp only [hji16] at H ⊢; exact H)
       have hji16_ : (if ((rd_impl_Peg l0 x16_1).f0) < x548000_1 then ((rd_impl_Peg l0 x16_1).f0) else x548000_1) = ji16 := hji16
       obtain ⟨ji17, hji17⟩ : ∃ j_ : Int, (mn x548001_1 ((rd_impl_Peg l0 x16_1).f1)) = j_ := ⟨_, rfl⟩
       replace H : (impl_box.l0 k1 l0 (l0.length : Int) (wrap64 (x16_1 + 1)) ji16 ji17 (mx x549000_1 ((rd_impl_Peg l0 x16_1).f0)) (mx x549001_1 ((rd_impl_Peg l0 x16_1).f1))) = some (r1, r2, r3, r4) := by first | (rw [hji17] at H; exact H) | (simp only [hji17] at H ⊢; exact H)
       have hji17_ : (if ((rd_impl_Peg l0 x16_1).f1) < x548001_1 then ((rd_impl_Peg l0 x16_1).f1) else x548001_1) = ji17 := hji17
       obtain ⟨ji18, hji18⟩ : ∃ j_ : Int, (mx x549000_1 ((rd_impl_Peg l0 x16_1).f0)) = j_ := ⟨_, rfl⟩
       replace H : (impl_box.l0 k1 l0 (l0.length : Int) (wrap64 (x16_1 + 1)) ji16 ji17 ji18 (mx x549001_1 ((rd_impl_Peg l0 x16_1).f1))) = some (r1, r2, r3, r4) := by first | (rw [hji18] at H; exact H) | (simp only [hji18] at H ⊢; exact H)
       have hji18_ : (if x549000_1 < ((rd_impl_Peg l0 x16_1).f0) then ((rd_impl_Peg l0 x16_1).f0) else x549000_1) = ji18 := hji18
       obtain ⟨ji19, hji19⟩ : ∃ j_ : Int, (mx x549001_1 ((rd_impl_Peg l0 x16_1).f1)) = j_ := ⟨_, rfl⟩
       replace H : (impl_box.l0 k1 l0 (l0.length : Int) (wrap64 (x16_1 + 1)) ji16 ji17 ji18 ji19) = some (r1, r2, r3, r4) := by first | (rw [hji19] at H; exact H) | (simp only [hji19] at H ⊢; exact H)
       have hji19_ : (if x549001_1 < ((rd_impl_Peg l0 x16_1).f1) then ((rd_impl_Peg l0 x16_1).f1) else x549001_1) = ji19 := hji19
       have H' := aM H
       clear H
       have p549 : 0 ≤ (x16_1 : Int) := dT (by first | (with_reducible assumption) | assumption)
       have q549 : x16_1 < (l0.length : Int) := dT (by first | (with_reducible assumption) | assumption)
       obtain ⟨ad549, e549, hx549_0, hx549_1⟩ := at_impl_Peg HR0.out x16_1 p549 q549
       obtain rfl : ad545 = ad549 := (by injection e549)
       replace hx549_0 := (HB.out.cell (wB w _ hx549_0)).trans hx549_0
       replace hx549_1 := (HB.out.cell (wB w _ hx549_1)).trans hx549_1
       replace p549 := eq_true p549
       replace q549 := eq_true q549
       go_wp2_with (first | ((with_reducible refine gate_dst (N := 7) rfl ?_); refine box_event ?hg (N := 7) ?hd (cs := #[.int .i64 0, .int .i64 0]) (t := 62) ?hr ?_; (case hd => rfl); (case hg => rfl); (case hr => first | (go_simp; done) | (go_simp; rfl)); intro gb550 hg w20 hbox hb; have n0_ := aM (blk_below (g := gb543) (o := .cells #[.int .i64 0, .int .i64 0] 62 (0, 0)) (by (with_reducible repeat (first | refine kN ?_ _ | refine kD ?_ | refine kA ?_ _)); exact BK543.out) hb); have n1_ := aM (blk_below (g := gb544) (o := .cells #[.int .i64 0, .int .i64 0] 62 (0, 0)) (by (with_reducible repeat (first | refine kN ?_ _ | refine kD ?_ | refine kA ?_ _)); exact BK544.out) hb); have n2_ := aM (blk_below (g := gb547) (o := .cells #[.int .i64 x548000_1, .int .i64 x548001_1] 62 (0, 0)) (by (with_reducible repeat (first | refine kN ?_ _ | refine kD ?_ | refine kA ?_ _)); exact BK547.out) hb); have n3_ := aM (blk_below (g := gb548) (o := .cells #[.int .i64 x549000_1, .int .i64 x549001_1] 62 (0, 0)) (by (with_reducible repeat (first | refine kN ?_ _ | refine kD ?_ | refine kA ?_ _)); exact BK548.out) hb); have n4_ := aM (pT (by repeat (first | (with_reducible first | exact HB.out | apply pA | apply pN | apply pD | refine pS ?_ GE543.out | refine pS ?_ GE544.out | refine pS ?_ GE547.out | refine pS ?_ GE548.out) | exact HB.out)) hb); have n5_ := aM (hbox); have n6_ := aM ((by rw [hg]; exact (pZ (by repeat (first | (with_reducible first | exact HB.out | apply pA | apply pN | apply pD | refine pS ?_ GE543.out | refine pS ?_ GE544.out | refine pS ?_ GE547.out | refine pS ?_ GE548.out) | exact HB.out))) : w.heap.size ≤ gb550)); have n7_ := aM ((by rw [hg]; exact (pZ (by repeat (first | (with_reducible first | exact HB.out | apply pA | apply pN | apply pD | refine pS ?_ GE543.out | refine pS ?_ GE544.out | refine pS ?_ GE547.out | refine pS ?_ GE548.out) | exact HB.out))) : w.heap.size ≤ gb550)); have n8_ := aM ((by rw [hg]; exact nN (blk_lt (g := gb543) (o := .cells #[.int .i64 0, .int .i64 0] 62 (0, 0)) (by (with_reducible repeat (first | refine kN ?_ _ | refine kD ?_ | refine kA ?_ _)); exact BK543.out)) : gb543 ≠ gb550)); have n9_ := aM ((by rw [hg]; exact Nat.ne_of_gt (blk_lt (g := gb543) (o := .cells #[.int .i64 0, .int .i64 0] 62 (0, 0)) (by (with_reducible repeat (first | refine kN ?_ _ | refine kD ?_ | refine kA ?_ _)); exact BK543.out)) : gb550 ≠ gb543)); have n10_ := aM ((by rw [hg]; exact nN (blk_lt (g := gb544) (o := .cells #[.int .i64 0, .int .i64 0] 62 (0, 0)) (by (with_reducible repeat (first | refine kN ?_ _ | refine kD ?_ | refine kA ?_ _)); exact BK544.out)) : gb544 ≠ gb550)); have n11_ := aM ((by rw [hg]; exact Nat.ne_of_gt (blk_lt (g := gb544) (o := .cells #[.int .i64 0, .int .i64 0] 62 (0, 0)) (by (with_reducible repeat (first | refine kN ?_ _ | refine kD ?_ | refine kA ?_ _)); exact BK544.out)) : gb550 ≠ gb544)); have n12_ := aM ((by rw [hg]; exact nN (blk_lt (g := gb547) (o := .cells #[.int .i64 x548000_1, .int .i64 x548001_1] 62 (0, 0)) (by (with_reducible repeat (first | refine kN ?_ _ | refine kD ?_ | refine kA ?_ _)); exact BK547.out)) : gb547 ≠ gb550)); have n13_ := aM ((by rw [hg]; exact Nat.ne_of_gt (blk_lt (g := gb547) (o := .cells #[.int .i64 x548000_1, .int .i64 x548001_1] 62 (0, 0)) (by (with_reducible repeat (first | refine kN ?_ _ | refine kD ?_ | refine kA ?_ _)); exact BK547.out)) : gb550 ≠ gb547)); have n14_ := aM ((by rw [hg]; exact nN (blk_lt (g := gb548) (o := .cells #[.int .i64 x549000_1, .int .i64 x549001_1] 62 (0, 0)) (by (with_reducible repeat (first | refine kN ?_ _ | refine kD ?_ | refine kA ?_ _)); exact BK548.out)) : gb548 ≠ gb550)); have n15_ := aM ((by rw [hg]; exact Nat.ne_of_gt (blk_lt (g := gb548) (o := .cells #[.int .i64 x549000_1, .int .i64 x549001_1] 62 (0, 0)) (by (with_reducible repeat (first | refine kN ?_ _ | refine kD ?_ | refine kA ?_ _)); exact BK548.out)) : gb550 ≠ gb548)); clear BK543; clear BK544; clear BK547; clear BK548; clear HB; have BK543 := n0_; have BK544 := n1_; have BK547 := n2_; have BK548 := n3_; have HB := n4_; have BK550 := n5_; have GW550 := n6_; have GE550 := n7_; have NB543_550 := n8_; have NB550_543 := n9_; have NB544_550 := n10_; have NB550_544 := n11_; have NB547_550 := n12_; have NB550_547 := n13_; have NB548_550 := n14_; have NB550_548 := n15_; clear n0_ n1_ n2_ n3_ n4_ n5_ n6_ n7_ n8_ n9_ n10_ n11_ n12_ n13_ n14_ n15_; clear hb hbox hg; have hnb21 := NB550_543.out; have hnc21 := NB543_550.out; have hnb22 := NB550_544.out; have hnc22 := NB544_550.out; have hnb23 := NB550_547.out; have hnc23 := NB547_550.out; have hnb24 := NB550_548.out; have hnc24 := NB548_550.out; have hcz25_0 : w20.cell? ⟨gb550, 0, none⟩ = some (.int .i64 0) := (kC BK550.out 0).trans rfl; have hcz25_1 : w20.cell? ⟨gb550, 1, none⟩ = some (.int .i64 0) := (kC BK550.out 1).trans rfl; have hfz25_0 := kF BK550.out 0; have hfz25_1 := kF BK550.out 1; have hnb26 := NB547_543.out; have hnc26 := NB543_547.out; have hnb27 := NB547_544.out; have hnc27 := NB544_547.out; have hnb28 := NB547_548.out; have hnc28 := NB548_547.out; have hcz29_0 : w20.cell? ⟨gb547, 0, none⟩ = some (.int .i64 x548000_1) := (kC BK547.out 0).trans rfl; have hcz29_1 : w20.cell? ⟨gb547, 1, none⟩ = some (.int .i64 x548001_1) := (kC BK547.out 1).trans rfl; have hfz29_0 := kF BK547.out 0; have hfz29_1 := kF BK547.out 1; have hnb30 := NB548_543.out; have hnc30 := NB543_548.out; have hnb31 := NB548_544.out; have hnc31 := NB544_548.out; have hcz32_0 : w20.cell? ⟨gb548, 0, none⟩ = some (.int .i64 x549000_1) := (kC BK548.out 0).trans rfl; have hcz32_1 : w20.cell? ⟨gb548, 1, none⟩ = some (.int .i64 x549001_1) := (kC BK548.out 1).trans rfl; have hfz32_0 := kF BK548.out 0; have hfz32_1 := kF BK548.out 1))
       go_roundg k1
       case measure => have := HK1.out; omega
       case rel => exact ⟨(wrap64 (x16_1 + 1)), (ji16), (ji17), (ji18), (ji19), (by first | rfl | (simp; done) | (simp [*]; done)), H', ⟨by have := HK1.out; omega⟩, ⟨by (with_reducible repeat (first | refine kN ?_ _ | refine kD ?_ | refine kA ?_ _)); refine blk_far ?_ NB543_548.out _; (with_reducible repeat (first | refine kN ?_ _ | refine kD ?_ | refine kA ?_ _)); refine blk_far ?_ NB543_548.out _; (with_reducible repeat (first | refine kN ?_ _ | refine kD ?_ | refine kA ?_ _)); refine blk_far ?_ NB543_547.out _; (with_reducible repeat (first | refine kN ?_ _ | refine kD ?_ | refine kA ?_ _)); refine blk_far ?_ NB543_547.out _; (with_reducible repeat (first | refine kN ?_ _ | refine kD ?_ | refine kA ?_ _)); refine blk_far ?_ NB543_550.out _; (with_reducible repeat (first | refine kN ?_ _ | refine kD ?_ | refine kA ?_ _)); refine blk_far ?_ NB543_550.out _; (with_reducible repeat (first | refine kN ?_ _ | refine kD ?_ | refine kA ?_ _)); exact BK543.out⟩, ⟨by (with_reducible repeat (first | refine kN ?_ _ | refine kD ?_ | refine kA ?_ _)); refine blk_far ?_ NB544_548.out _; (with_reducible repeat (first | refine kN ?_ _ | refine kD ?_ | refine kA ?_ _)); refine blk_far ?_ NB544_548.out _; (with_reducible repeat (first | refine kN ?_ _ | refine kD ?_ | refine kA ?_ _)); refine blk_far ?_ NB544_547.out _; (with_reducible repeat (first | refine kN ?_ _ | refine kD ?_ | refine kA ?_ _)); refine blk_far ?_ NB544_547.out _; (with_reducible repeat (first | refine kN ?_ _ | refine kD ?_ | refine kA ?_ _)); refine blk_far ?_ NB544_550.out _; (with_reducible repeat (first | refine kN ?_ _ | refine kD ?_ | refine kA ?_ _)); refine blk_far ?_ NB544_550.out _; (with_reducible repeat (first | refine kN ?_ _ | refine kD ?_ | refine kA ?_ _)); exact BK544.out⟩, ⟨by (with_reducible repeat (first | refine kN ?_ _ | refine kD ?_ | refine kA ?_ _)); refine blk_far ?_ NB547_548.out _; (with_reducible repeat (first | refine kN ?_ _ | refine kD ?_ | refine kA ?_ _)); refine blk_far ?_ NB547_548.out _; (with_reducible repeat (first | refine kN ?_ _ | refine kD ?_ | refine kA ?_ _)); refine blk_put (cs := #[.int .i64 ji16, .int .i64 x548001_1]) ?_ 1 _ rfl; (with_reducible repeat (first | refine kN ?_ _ | refine kD ?_ | refine kA ?_ _)); refine blk_put (cs := #[.int .i64 x548000_1, .int .i64 x548001_1]) ?_ 0 _ rfl; (with_reducible repeat (first | refine kN ?_ _ | refine kD ?_ | refine kA ?_ _)); refine blk_far ?_ NB547_550.out _; (with_reducible repeat (first | refine kN ?_ _ | refine kD ?_ | refine kA ?_ _)); refine blk_far ?_ NB547_550.out _; (with_reducible repeat (first | refine kN ?_ _ | refine kD ?_ | refine kA ?_ _)); exact BK547.out⟩, ⟨by (with_reducible repeat (first | refine kN ?_ _ | refine kD ?_ | refine kA ?_ _)); refine blk_put (cs := #[.int .i64 ji18, .int .i64 x549001_1]) ?_ 1 _ rfl; (with_reducible repeat (first | refine kN ?_ _ | refine kD ?_ | refine kA ?_ _)); refine blk_put (cs := #[.int .i64 x549000_1, .int .i64 x549001_1]) ?_ 0 _ rfl; (with_reducible repeat (first | refine kN ?_ _ | refine kD ?_ | refine kA ?_ _)); refine blk_far ?_ NB548_547.out _; (with_reducible repeat (first | refine kN ?_ _ | refine kD ?_ | refine kA ?_ _)); refine blk_far ?_ NB548_547.out _; (with_reducible repeat (first | refine kN ?_ _ | refine kD ?_ | refine kA ?_ _)); refine blk_far ?_ NB548_550.out _; (with_reducible repeat (first | refine kN ?_ _ | refine kD ?_ | refine kA ?_ _)); refine blk_far ?_ NB548_550.out _; (with_reducible repeat (first | refine kN ?_ _ | refine kD ?_ | refine kA ?_ _)); exact BK548.out⟩, ⟨by repeat (first | (with_reducible first | exact HB.out | apply pA | apply pN | apply pD | refine pS ?_ GE543.out | refine pS ?_ GE544.out | refine pS ?_ GE547.out | refine pS ?_ GE548.out | refine pS ?_ GE550.out) | exact HB.out)⟩⟩
      ·rw [if_neg c15] at H
       exact absurd H (by simp)
     ·rw [if_neg c14] at H
      exact absurd H (by simp)
    ·rw [if_neg c13] at H
     have c13b0 : decide (x16_1 < (l0.length : Int)) = false := decide_eq_false c13
     clear c13
     simp only [Option.some.injEq, Prod.mk.injEq] at H
     obtain ⟨rfl, rfl, rfl, rfl⟩ := H
     try go_wp2
     have n0_ := aM (kD BK543.out)
     have n1_ := aM (kD BK544.out)
     have n2_ := aM (kD BK547.out)
     have n3_ := aM (kD BK548.out)
     have n4_ := aM (pD HB.out)
     clear BK543
     clear BK544
     clear BK547
     clear BK548
     clear HB
     have BK543 := n0_
     have BK544 := n1_
     have BK547 := n2_
     have BK548 := n3_
     have HB := n4_
     clear n0_ n1_ n2_ n3_ n4_
     refine start_ (n := 4) (S := fun w' => w'.cell? ⟨gb547, 0, none⟩ = some (.int .i64 x548000_1) ∧ w'.cell? ⟨gb547, 1, none⟩ = some (.int .i64 x548001_1) ∧ w'.cell? ⟨gb548, 0, none⟩ = some (.int .i64 x549000_1) ∧ w'.cell? ⟨gb548, 1, none⟩ = some (.int .i64 x549001_1)) (ds := []) #[false, false, false, false] (by kernel_rfl) rfl rfl ⟨(kC BK547.out 0).trans rfl, (kC BK547.out 1).trans rfl, (kC BK548.out 0).trans rfl, (kC BK548.out 1).trans rfl⟩ (fun hHeld => ?_)
     generalize wr.drew = w33 at BK543 BK544 BK547 BK548 HB hHeld ⊢
     refine take_ (i := 0) (N := some 43) (v := ?_) (a' := ?_) #[true, false, false, false] rfl rfl (by kernel_rfl) (fun _ _ _ h => h) (Or.inl ⟨by rfl, ?_⟩) hHeld ?_ ?_
     rotate_left
     ·rintro w' ⟨s0, s1, s2, s3⟩
      go_simp
      with_reducible rfl
     rotate_left
     ·simp only [Act.put, sI, sZ, sS, i64_w, i32_w]
      rfl
     refine take_ (i := 1) (N := some 44) (v := ?_) (a' := ?_) #[true, true, false, false] rfl rfl (by kernel_rfl) (fun _ _ _ h => h) (Or.inl ⟨by rfl, ?_⟩) hHeld ?_ ?_
     rotate_left
     ·rintro w' ⟨s0, s1, s2, s3⟩
      go_simp
      with_reducible rfl
     rotate_left
     ·simp only [Act.put, sI, sZ, sS, i64_w, i32_w]
      rfl
     refine one_ (i := 2) (N := none) #[true, true, true, false] rfl rfl (by kernel_rfl) (by decide) (fun K hK => ?_)
     have hs34 : w33.cell? ⟨gb543, 0, none⟩ = some (.int .i64 0) := (kC BK543.out 0).trans rfl
     have hfs34 := kF BK543.out 0
     have hns34_1 := NB544_543.out
     have hns34_2 := NB547_543.out
     have hns34_3 := NB548_543.out
     have hms34_1 := NB543_544.out
     have hms34_2 := NB543_547.out
     have hms34_3 := NB543_548.out
     have hs35 : w33.cell? ⟨gb543, 1, none⟩ = some (.int .i64 0) := (kC BK543.out 1).trans rfl
     have hfs35 := kF BK543.out 1
     have hns35_1 := NB544_543.out
     have hns35_2 := NB547_543.out
     have hns35_3 := NB548_543.out
     have hms35_1 := NB543_544.out
     have hms35_2 := NB543_547.out
     have hms35_3 := NB543_548.out
     refine skip_ (w1 := ?_) (by rfl) rfl ?_ ?_
     rotate_left
     ·go_simp
      rfl
     refine hK.out _ _ ⟨((cell_far (p := ⟨gb543, _, none⟩) NB547_543.out _).trans (((cell_far (p := ⟨gb543, _, none⟩) NB547_543.out _).trans (hHeld.1)))), ((cell_far (p := ⟨gb543, _, none⟩) NB547_543.out _).trans (((cell_far (p := ⟨gb543, _, none⟩) NB547_543.out _).trans (hHeld.2.1)))), ((cell_far (p := ⟨gb543, _, none⟩) NB548_543.out _).trans (((cell_far (p := ⟨gb543, _, none⟩) NB548_543.out _).trans (hHeld.2.2.1)))), ((cell_far (p := ⟨gb543, _, none⟩) NB548_543.out _).trans (((cell_far (p := ⟨gb543, _, none⟩) NB548_543.out _).trans (hHeld.2.2.2))))⟩ (fun hHeld => ?_)
     clear hK K
     refine one_ (i := 3) (N := none) #[true, true, true, true] rfl rfl (by kernel_rfl) (by decide) (fun K hK => ?_)
     have hs36 : w33.cell? ⟨gb544, 0, none⟩ = some (.int .i64 0) := (kC BK544.out 0).trans rfl
     have hfs36 := kF BK544.out 0
     have hns36_0 := NB543_544.out
     have hns36_2 := NB547_544.out
     have hns36_3 := NB548_544.out
     have hms36_0 := NB544_543.out
     have hms36_2 := NB544_547.out
     have hms36_3 := NB544_548.out
     have hs37 : w33.cell? ⟨gb544, 1, none⟩ = some (.int .i64 0) := (kC BK544.out 1).trans rfl
     have hfs37 := kF BK544.out 1
     have hns37_0 := NB543_544.out
     have hns37_2 := NB547_544.out
     have hns37_3 := NB548_544.out
     have hms37_0 := NB544_543.out
     have hms37_2 := NB544_547.out
     have hms37_3 := NB544_548.out
     refine skip_ (w1 := ?_) (by rfl) rfl ?_ ?_
     rotate_left
     ·go_simp
      rfl
     refine hK.out _ _ ⟨((cell_far (p := ⟨gb544, _, none⟩) NB547_544.out _).trans (((cell_far (p := ⟨gb544, _, none⟩) NB547_544.out _).trans (hHeld.1)))), ((cell_far (p := ⟨gb544, _, none⟩) NB547_544.out _).trans (((cell_far (p := ⟨gb544, _, none⟩) NB547_544.out _).trans (hHeld.2.1)))), ((cell_far (p := ⟨gb544, _, none⟩) NB548_544.out _).trans (((cell_far (p := ⟨gb544, _, none⟩) NB548_544.out _).trans (hHeld.2.2.1)))), ((cell_far (p := ⟨gb544, _, none⟩) NB548_544.out _).trans (((cell_far (p := ⟨gb544, _, none⟩) NB548_544.out _).trans (hHeld.2.2.2))))⟩ (fun hHeld => ?_)
     clear hK K
     refine done_ (by kernel_rfl) ?_
     try go_wp2
     refine bodyPost_ret (results_cc rfl _ _ gb543 gb544 62 62 #[.int .i64 x548000_1, .int .i64 x548001_1] #[.int .i64 x549000_1, .int .i64 x549001_1] (0, 0) (0, 0) _ _ rfl (by (with_reducible repeat (first | refine kN ?_ _ | refine kD ?_ | refine kA ?_ _)); refine blk_far ?_ NB543_544.out _; (with_reducible repeat (first | refine kN ?_ _ | refine kD ?_ | refine kA ?_ _)); refine blk_far ?_ NB543_544.out _; (with_reducible repeat (first | refine kN ?_ _ | refine kD ?_ | refine kA ?_ _)); refine blk_put (cs := #[.int .i64 x548000_1, .int .i64 0]) ?_ 1 _ rfl; (with_reducible repeat (first | refine kN ?_ _ | refine kD ?_ | refine kA ?_ _)); refine blk_put (cs := #[.int .i64 0, .int .i64 0]) ?_ 0 _ rfl; (with_reducible repeat (first | refine kN ?_ _ | refine kD ?_ | refine kA ?_ _)); exact BK543.out) Try.underlying62 rfl (by kernel_rfl) rfl (by (with_reducible repeat (first | refine kN ?_ _ | refine kD ?_ | refine kA ?_ _)); refine blk_put (cs := #[.int .i64 x549000_1, .int .i64 0]) ?_ 1 _ rfl; (with_reducible repeat (first | refine kN ?_ _ | refine kD ?_ | refine kA ?_ _)); refine blk_put (cs := #[.int .i64 0, .int .i64 0]) ?_ 0 _ rfl; (with_reducible repeat (first | refine kN ?_ _ | refine kD ?_ | refine kA ?_ _)); refine blk_far ?_ NB544_543.out _; (with_reducible repeat (first | refine kN ?_ _ | refine kD ?_ | refine kA ?_ _)); refine blk_far ?_ NB544_543.out _; (with_reducible repeat (first | refine kN ?_ _ | refine kD ?_ | refine kA ?_ _)); exact BK544.out) Try.underlying62 rfl (by kernel_rfl)) rfl ?_
     exact ⟨by first | rfl | (simp [errW_none, errW_some] <;> rfl) | (simp [*, errW_none, errW_some] <;> rfl), by repeat (first | (with_reducible first | exact HB.out | apply pA | apply pN | apply pD | refine pS ?_ GE543.out | refine pS ?_ GE544.out | refine pS ?_ GE547.out | refine pS ?_ GE548.out) | exact HB.out)⟩
 ·rw [if_neg c2] at H
  exact absurd H (by simp)

end Go.Proofs.Ytnlkglbpihgcmaa.X
