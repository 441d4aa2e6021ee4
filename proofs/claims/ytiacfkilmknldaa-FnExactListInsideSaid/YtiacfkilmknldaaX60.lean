-- thin
-- short
import Derived.Test.YtiacfkilmknldaaXA
import Derived.Test.YtiacfkilmknldaaX0
namespace Go.Proofs.Ytiacfkilmknldaa.X
open Go.RowKit Go.Proofs.Ytiacfkilmknldaa.XW Go.Proofs.YtiacfkilmknldaaW.PrintWords Go.Proofs.YtiacfkilmknldaaW.PrintLast Go.Proofs.YtiacfkilmknldaaW.PrintMore
attribute [local go_sem] max2_int min2_int max_two min_two max_three min_three max_four min_four   -- for this text's walks alone
set_option linter.unusedVariables false
set_option linter.unusedSimpArgs false

def impl_box.l0 : Nat → List (S_impl_Peg) → Int → Int → Int → Int → Int → Int → Option (Int × Int × Int × Int)
 | 0, _, _, _, _, _, _, _ => none
 | k + 1, x14, x15, x16, x1004000, x1004001, x1005000, x1005001 => if x16 < x15 then (if 0 ≤ x16 then (if x16 < (x14.length : Int) then (impl_box.l0 k x14 x15 (wrap64 (x16 + 1)) (mn x1004000 ((rd_impl_Peg x14 x16).f0)) (mn x1004001 ((rd_impl_Peg x14 x16).f1)) (mx x1005000 ((rd_impl_Peg x14 x16).f0)) (mx x1005001 ((rd_impl_Peg x14 x16).f1))) else (none)) else (none)) else (some (x1004000, x1004001, x1005000, x1005001))
def impl_box.f (k : Nat) (l0 : List (S_impl_Peg)) : Option (Int × Int × Int × Int) := if 0 < (l0.length : Int) then (impl_box.l0 k l0 (l0.length : Int) 0 ((rd_impl_Peg l0 0).f0) ((rd_impl_Peg l0 0).f1) ((rd_impl_Peg l0 0).f0) ((rd_impl_Peg l0 0).f1)) else (none)
theorem impl_box.mono_l : ∀ k, (∀ y0 y1 y2 y3 y4 y5 y6, LeO (impl_box.l0 k y0 y1 y2 y3 y4 y5 y6) (impl_box.l0 (k + 1) y0 y1 y2 y3 y4 y5 y6))
 | 0 => fun _ _ _ _ _ _ _ r h => by simp [impl_box.l0] at h
 | k + 1 => by
  have ih0 := impl_box.mono_l k
  ·intro y0 y1 y2 y3 y4 y5 y6
   unfold impl_box.l0
   repeat' first
   | (with_reducible exact ih0 _ _ _ _ _ _ _)
   | (with_reducible exact LeO.refl _)
   | (with_reducible exact LeO.none _)
   | (with_reducible refine LeO.ite ?_ ?_)
   | (with_reducible refine LeO.bind ?_ (fun _ => ?_))
   | exact ih0 _ _ _ _ _ _ _
   | exact LeO.none _
   | refine LeO.ite ?_ ?_
   | refine LeO.bind ?_ (fun _ => ?_)
theorem impl_box.mono : ∀ a0 k, LeO (impl_box.f k a0) (impl_box.f (k + 1) a0) := by
 intro a0 k
 have ih0 := impl_box.mono_l k
 unfold impl_box.f
 repeat' first
   | (with_reducible exact ih0 _ _ _ _ _ _ _)
   | (with_reducible exact LeO.refl _)
   | (with_reducible exact LeO.none _)
   | (with_reducible refine LeO.ite ?_ ?_)
   | (with_reducible refine LeO.bind ?_ (fun _ => ?_))
   | exact ih0 _ _ _ _ _ _ _
   | exact LeO.none _
   | refine LeO.ite ?_ ?_
   | refine LeO.bind ?_ (fun _ => ?_)
def impl_box.T1 : Bool × List (List Nat × List Nat) := (true, [([], []), ([0], [0]), ([1], [1]), ([], []), ([3], [3]), ([4], [4]), ([], []), ([], []), ([6, 2, 0, 1, 2, 6, 7], [2, 6]), ([7, 5, 8, 0, 1, 2, 3, 4, 5, 6, 7, 8], [5, 7])])
def impl_box.B1 : List Nat := [0, 1, 3, 0, 8, 24, 0, 0, 199, 511]
theorem impl_box.tab1 : rtab .any (opsOf Try.f133 1) = impl_box.T1 := by kernel_rfl
theorem impl_box.bits1 : waitsOk impl_box.T1.2 impl_box.B1 = true := by kernel_rfl
set_option maxHeartbeats 8000000 in
set_option maxRecDepth 100000 in
theorem impl_box.calls (k : Nat) (A0 : Option Addr) (c0 : Nat) (l0 : List (S_impl_Peg)) (r1 : Int) (r2 : Int) (r3 : Int) (r4 : Int) (w : World) (hr0 : Kd.C kd_impl_Peg w A0 l0.length l0) (hc0 : l0.length ≤ c0) (h : impl_box.f k l0 = some (r1, r2, r3, r4)) :
  Calls Try.prog 133 #[.slice A0 l0.length c0] w fun e w' => e = .returned (.tuple #[.agg #[.int .i64 r1, .int .i64 r2], .agg #[.int .i64 r3, .int .i64 r4]]) ∧ Below w.heap.size w w' := by
 have hu34 := Try.underlying34
 have HR0 := aM hr0
 have HC0 := aM hc0
 clear hr0 hc0
 have HB := aM (Below.refl w.heap.size w)
 have H : (if 0 < (l0.length : Int) then (impl_box.l0 k l0 (l0.length : Int) 0 ((rd_impl_Peg l0 0).f0) ((rd_impl_Peg l0 0).f1) ((rd_impl_Peg l0 0).f0) ((rd_impl_Peg l0 0).f1)) else (none)) = some (r1, r2, r3, r4) := h
 clear h
 by_cases c2 : 0 < (l0.length : Int)
 ·rw [if_pos c2] at H
  have c2b0 : decide (0 < (l0.length : Int)) = true := dE c2
  have c2b1 : decide (0 < l0.length) = true := dE (by omega)
  clear c2
  have H' := aM H
  clear H
  go_enter Try.func133, Try.ntmps133
  try go_wp2_with (first | ((with_reducible refine gate_dst (N := 2) rfl ?_); refine box_event ?hg (N := 2) ?hd (cs := #[.int .i64 0, .int .i64 0]) (t := 34) ?hr ?_; (case hd => rfl); (case hg => rfl); (case hr => first | (go_simp; done) | (go_simp; rfl)); intro gb999 hg w3 hbox hb; have n0_ := aM (pT bQ hb); have n1_ := aM (hbox); have n2_ := aM ((by rw [hg]; exact (pZ bQ) : w.heap.size ≤ gb999)); have n3_ := aM ((by rw [hg]; exact (pZ bQ) : w.heap.size ≤ gb999)); clear HB; have HB := n0_; have BK999 := n1_; have GW999 := n2_; have GE999 := n3_; clear n0_ n1_ n2_ n3_; clear hb hbox hg) | ((with_reducible refine gate_dst (N := 3) rfl ?_); refine box_event ?hg (N := 3) ?hd (cs := #[.int .i64 0, .int .i64 0]) (t := 34) ?hr ?_; (case hd => rfl); (case hg => rfl); (case hr => first | (go_simp; done) | (go_simp; rfl)); intro gb1000 hg w4 hbox hb; have n0_ := aM (blk_below (g := gb999) (o := .cells #[.int .i64 0, .int .i64 0] 34 (0, 0)) (gQ BK999) hb); have n1_ := aM (pT (by repeat (first | (with_reducible first | exact HB.out | apply pA | apply pN | apply pD | refine pS ?_ GE999.out) | exact HB.out)) hb); have n2_ := aM (hbox); have n3_ := aM ((by rw [hg]; exact (pZ (by repeat (first | (with_reducible first | exact HB.out | apply pA | apply pN | apply pD | refine pS ?_ GE999.out) | exact HB.out))) : w.heap.size ≤ gb1000)); have n4_ := aM ((by rw [hg]; exact (pZ (by repeat (first | (with_reducible first | exact HB.out | apply pA | apply pN | apply pD | refine pS ?_ GE999.out) | exact HB.out))) : w.heap.size ≤ gb1000)); have n5_ := aM ((by rw [hg]; exact nN (blk_lt (g := gb999) (o := .cells #[.int .i64 0, .int .i64 0] 34 (0, 0)) (gQ BK999)) : gb999 ≠ gb1000)); have n6_ := aM ((by rw [hg]; exact Nat.ne_of_gt (blk_lt (g := gb999) (o := .cells #[.int .i64 0, .int .i64 0] 34 (0, 0)) (gQ BK999)) : gb1000 ≠ gb999)); clear BK999; clear HB; have BK999 := n0_; have HB := n1_; have BK1000 := n2_; have GW1000 := n3_; have GE1000 := n4_; have NB999_1000 := n5_; have NB1000_999 := n6_; clear n0_ n1_ n2_ n3_ n4_ n5_ n6_; clear hb hbox hg))
  have n0_ := aM (kD BK999.out)
  have n1_ := aM (kD BK1000.out)
  have n2_ := aM (pD HB.out)
  clear BK999
  clear BK1000
  clear HB
  have BK999 := n0_
  have BK1000 := n1_
  have HB := n2_
  clear n0_ n1_ n2_
  have p1001 : 0 ≤ (0 : Int) := (by omega)
  have q1001 : 0 < (l0.length : Int) := dT aQ
  obtain ⟨ad1001, e1001, hx1001_0, hx1001_1⟩ := at_impl_Peg HR0.out 0 p1001 q1001
  have hw1001_1 := hx1001_1
  (try rw [show ((0 : Int)).toNat = 0 from rfl] at hw1001_1)
  (try rw [show 0 * 2 = 0 from rfl] at hw1001_1)
  (try rw [Addr.add_zero'] at hw1001_1)
  have hw1001_0 := hx1001_0
  (try rw [show ((0 : Int)).toNat = 0 from rfl] at hw1001_0)
  (try rw [show 0 * 2 = 0 from rfl] at hw1001_0)
  (try rw [Addr.add_zero'] at hw1001_0)
  cases e1001
  have qi1001 : (0 < l0.length) = True := eq_true (by omega)
  (try rw [show ((0 : Int)).toNat = 0 from rfl] at hx1001_0)
  (try rw [show 0 * 2 = 0 from rfl] at hx1001_0)
  (try rw [Addr.add_zero'] at hx1001_0)
  (try rw [show ((0 : Int)).toNat = 0 from rfl] at hx1001_1)
  (try rw [show 0 * 2 = 0 from rfl] at hx1001_1)
  (try rw [Addr.add_zero'] at hx1001_1)
  replace hx1001_0 := (HB.out.cell (wB w _ hx1001_0)).trans hx1001_0
  replace hx1001_1 := (HB.out.cell (wB w _ hx1001_1)).trans hx1001_1
  replace p1001 := eq_true p1001
  replace q1001 := eq_true q1001
  have p1002 : 0 ≤ (0 : Int) := (by omega)
  have q1002 : 0 < (l0.length : Int) := dT aQ
  obtain ⟨ad1002, e1002, hx1002_0, hx1002_1⟩ := at_impl_Peg HR0.out 0 p1002 q1002
  have hw1002_1 := hx1002_1
  (try rw [show ((0 : Int)).toNat = 0 from rfl] at hw1002_1)
  (try rw [show 0 * 2 = 0 from rfl] at hw1002_1)
  (try rw [Addr.add_zero'] at hw1002_1)
  have hw1002_0 := hx1002_0
  (try rw [show ((0 : Int)).toNat = 0 from rfl] at hw1002_0)
  (try rw [show 0 * 2 = 0 from rfl] at hw1002_0)
  (try rw [Addr.add_zero'] at hw1002_0)
  obtain rfl : ad1001 = ad1002 := (by injection e1002)
  have qi1002 : (0 < l0.length) = True := eq_true (by omega)
  (try rw [show ((0 : Int)).toNat = 0 from rfl] at hx1002_0)
  (try rw [show 0 * 2 = 0 from rfl] at hx1002_0)
  (try rw [Addr.add_zero'] at hx1002_0)
  (try rw [show ((0 : Int)).toNat = 0 from rfl] at hx1002_1)
  (try rw [show 0 * 2 = 0 from rfl] at hx1002_1)
  (try rw [Addr.add_zero'] at hx1002_1)
  replace hx1002_0 := (HB.out.cell (wB w _ hx1002_0)).trans hx1002_0
  replace hx1002_1 := (HB.out.cell (wB w _ hx1002_1)).trans hx1002_1
  replace p1002 := eq_true p1002
  replace q1002 := eq_true q1002
  refine start_ (n := 10) (S := fun w' => w'.cell? ad1001 = some (.int .i64 ((rd_impl_Peg l0 0).f0)) ∧ w'.cell? ⟨ad1001.block, ad1001.off + 1, none⟩ = some (.int .i64 ((rd_impl_Peg l0 0).f1)) ∧ w'.cell? ad1001 = some (.int .i64 ((rd_impl_Peg l0 0).f0)) ∧ w'.cell? ⟨ad1001.block, ad1001.off + 1, none⟩ = some (.int .i64 ((rd_impl_Peg l0 0).f1))) (ds := []) #[false, false, false, false, false, false, false, false, false, false] kR rfl rfl ⟨((HB.out.cell (wB w _ hw1001_0)).trans hw1001_0), ((HB.out.cell (wB w _ hw1001_1)).trans hw1001_1), ((HB.out.cell (wB w _ hw1002_0)).trans hw1002_0), ((HB.out.cell (wB w _ hw1002_1)).trans hw1002_1)⟩ (fun hHeld => ?_); refine with_tabW impl_box.tab1 impl_box.bits1 (fun HT_ HW_ => ?_)
  generalize w4.drew = w5 at BK999 BK1000 HB hx1001_0 hx1001_1 hx1002_0 hx1002_1 hHeld ⊢
  refine pure_ (i := 0) (N := some 8) (v := ?_) (a' := ?_) #[true, false, false, false, false, false, false, false, false, false] rfl rfl (any_of HT_.out kR) (fun _ _ _ h => h) (Or.inl ⟨by rfl, ?_⟩) ?_ ?_
  rotate_left
  ·intro w'
   go_simp
   with_reducible rfl
  rotate_left
  ·simp only [Act.put, sI, sZ, sS, i64_w, i32_w]
   rfl
  refine pure_ (i := 1) (N := some 9) (v := ?_) (a' := ?_) #[true, true, false, false, false, false, false, false, false, false] rfl rfl (any_of HT_.out kR) (fun _ _ _ h => h) (Or.inl ⟨by rfl, ?_⟩) ?_ ?_
  rotate_left
  ·intro w'
   go_simp
   with_reducible rfl
  rotate_left
  ·simp only [Act.put, sI, sZ, sS, i64_w, i32_w]
   rfl
  refine pure_ (i := 3) (N := some 11) (v := ?_) (a' := ?_) #[true, true, false, true, false, false, false, false, false, false] rfl rfl (any_of HT_.out kR) (fun _ _ _ h => h) (Or.inl ⟨by rfl, ?_⟩) ?_ ?_
  rotate_left
  ·intro w'
   go_simp
   with_reducible rfl
  rotate_left
  ·simp only [Act.put, sI, sZ, sS, i64_w, i32_w]
   rfl
  refine pure_ (i := 4) (N := some 12) (v := ?_) (a' := ?_) #[true, true, false, true, true, false, false, false, false, false] rfl rfl (any_of HT_.out kR) (fun _ _ _ h => h) (Or.inl ⟨by rfl, ?_⟩) ?_ ?_
  rotate_left
  ·intro w'
   go_simp
   with_reducible rfl
  rotate_left
  ·simp only [Act.put, sI, sZ, sS, i64_w, i32_w]
   rfl
  refine take_ (i := 2) (N := some 10) (v := ?_) (a' := ?_) #[true, true, true, true, true, false, false, false, false, false] rfl rfl (take_ofW HT_.out HW_.out kR) (fun _ _ _ h => h) (Or.inl ⟨by rfl, ?_⟩) hHeld ?_ ?_
  rotate_left
  ·rintro w' ⟨s0, s1, s2, s3⟩
   go_simp
   with_reducible rfl
  rotate_left
  ·simp only [Act.put, sI, sZ, sS, i64_w, i32_w]
   rfl
  refine take_ (i := 5) (N := some 13) (v := ?_) (a' := ?_) #[true, true, true, true, true, true, false, false, false, false] rfl rfl (take_ofW HT_.out HW_.out kR) (fun _ _ _ h => h) (Or.inl ⟨by rfl, ?_⟩) hHeld ?_ ?_
  rotate_left
  ·rintro w' ⟨s0, s1, s2, s3⟩
   go_simp
   with_reducible rfl
  rotate_left
  ·simp only [Act.put, sI, sZ, sS, i64_w, i32_w]
   rfl
  refine join_ (σ := Nat × Nat) 2 #[true, true, true, true, true, true, true, true, false, false] (fun s_ => [(4, .pointer (some ⟨s_.1, 0, none⟩)), (5, .pointer (some ⟨s_.2, 0, none⟩))]) (fun s_ w' => (w'.cell? ad1001 = some (.int .i64 ((rd_impl_Peg l0 0).f0)) ∧ w'.cell? ⟨ad1001.block, ad1001.off + 1, none⟩ = some (.int .i64 ((rd_impl_Peg l0 0).f1)) ∧ w'.cell? ad1001 = some (.int .i64 ((rd_impl_Peg l0 0).f0)) ∧ w'.cell? ⟨ad1001.block, ad1001.off + 1, none⟩ = some (.int .i64 ((rd_impl_Peg l0 0).f1))) ∧ (w'.heap[gb1000]? = some (.cells #[.int .i64 0, .int .i64 0] 34 (0, 0))) ∧ (w'.heap[s_.1]? = some (.cells #[.int .i64 0, .int .i64 0] 34 (0, 0))) ∧ (w'.heap[s_.2]? = some (.cells #[.int .i64 0, .int .i64 0] 34 (0, 0))) ∧ (w'.heap[gb999]? = some (.cells #[.int .i64 0, .int .i64 0] 34 (0, 0))) ∧ (w.heap.size ≤ s_.1) ∧ (w.heap.size ≤ s_.1) ∧ (gb1000 ≠ s_.1) ∧ (s_.1 ≠ gb1000) ∧ (s_.2 ≠ s_.1) ∧ (s_.1 ≠ s_.2) ∧ (gb999 ≠ s_.1) ∧ (s_.1 ≠ gb999) ∧ (w.heap.size ≤ s_.2) ∧ (w.heap.size ≤ s_.2) ∧ (gb1000 ≠ s_.2) ∧ (s_.2 ≠ gb1000) ∧ (gb999 ≠ s_.2) ∧ (s_.2 ≠ gb999) ∧ (Below w.heap.size w w')) ?_ ?_
  rotate_left
  ·intro hCont
   refine two_ (i := 6) (j := 7) (Ni := some 4) (Nj := some 5) #[true, true, true, true, true, true, true, false, false, false] #[true, true, true, true, true, true, false, true, false, false] rfl rfl rfl rfl (two_of HT_.out kR) (by decide) (by decide) (fun K hK => ?_) (fun K hK => ?_)
   ·skip
    refine box_step ?hg (N := 4) ?hd (cs := #[.int .i64 0, .int .i64 0]) (t := 34) ?hr ?_; (case hd => rfl); (case hg => rfl); (case hr => first | (go_simp; done) | (go_simp; rfl))
    intro gb1003 hg w6 hbox hb
    have n0_ := aM (blk_below (g := gb999) (o := .cells #[.int .i64 0, .int .i64 0] 34 (0, 0)) (gQ BK999) hb)
    have n1_ := aM (blk_below (g := gb1000) (o := .cells #[.int .i64 0, .int .i64 0] 34 (0, 0)) (gQ BK1000) hb)
    have n2_ := aM (pT (by repeat (first | (with_reducible first | exact HB.out | apply pA | apply pN | apply pD | refine pS ?_ GE999.out | refine pS ?_ GE1000.out) | exact HB.out)) hb)
    have n3_ := aM (hbox)
    have n4_ := aM ((by rw [hg]; exact (pZ (by repeat (first | (with_reducible first | exact HB.out | apply pA | apply pN | apply pD | refine pS ?_ GE999.out | refine pS ?_ GE1000.out) | exact HB.out))) : w.heap.size ≤ gb1003))
    have n5_ := aM ((by rw [hg]; exact (pZ (by repeat (first | (with_reducible first | exact HB.out | apply pA | apply pN | apply pD | refine pS ?_ GE999.out | refine pS ?_ GE1000.out) | exact HB.out))) : w.heap.size ≤ gb1003))
    have n6_ := aM ((by rw [hg]; exact nN (blk_lt (g := gb999) (o := .cells #[.int .i64 0, .int .i64 0] 34 (0, 0)) (gQ BK999)) : gb999 ≠ gb1003))
    have n7_ := aM ((by rw [hg]; exact Nat.ne_of_gt (blk_lt (g := gb999) (o := .cells #[.int .i64 0, .int .i64 0] 34 (0, 0)) (gQ BK999)) : gb1003 ≠ gb999))
    have n8_ := aM ((by rw [hg]; exact nN (blk_lt (g := gb1000) (o := .cells #[.int .i64 0, .int .i64 0] 34 (0, 0)) (gQ BK1000)) : gb1000 ≠ gb1003))
    have n9_ := aM ((by rw [hg]; exact Nat.ne_of_gt (blk_lt (g := gb1000) (o := .cells #[.int .i64 0, .int .i64 0] 34 (0, 0)) (gQ BK1000)) : gb1003 ≠ gb1000))
    clear BK999
    clear BK1000
    clear HB
    have BK999 := n0_
    have BK1000 := n1_
    have HB := n2_
    have BK1003 := n3_
    have GW1003 := n4_
    have GE1003 := n5_
    have NB999_1003 := n6_
    have NB1003_999 := n7_
    have NB1000_1003 := n8_
    have NB1003_1000 := n9_
    clear n0_ n1_ n2_ n3_ n4_ n5_ n6_ n7_ n8_ n9_
    clear hb hbox hg
    refine hK.out _ _ ⟨((HB.out.cell (wB w _ hw1001_0)).trans hw1001_0), ((HB.out.cell (wB w _ hw1001_1)).trans hw1001_1), ((HB.out.cell (wB w _ hw1002_0)).trans hw1002_0), ((HB.out.cell (wB w _ hw1002_1)).trans hw1002_1)⟩ (fun hHeld => ?_)
    clear hK K
    refine norm_ (a' := ?_) ?_ ?_
    rotate_left
    ·show Act.put _ (some 4) _ = _
     simp only [Act.put, sI, sZ, sS, i64_w, i32_w]
     rfl
    refine one_ (i := 7) (N := some 5) #[true, true, true, true, true, true, true, true, false, false] rfl rfl (one_of HT_.out kR) (by decide) (fun K hK => ?_)
    refine box_step ?hg (N := 5) ?hd (cs := #[.int .i64 0, .int .i64 0]) (t := 34) ?hr ?_; (case hd => rfl); (case hg => rfl); (case hr => first | (go_simp; done) | (go_simp; rfl))
    intro gb1004 hg w7 hbox hb
    have n0_ := aM (blk_below (g := gb999) (o := .cells #[.int .i64 0, .int .i64 0] 34 (0, 0)) (gQ BK999) hb)
    have n1_ := aM (blk_below (g := gb1000) (o := .cells #[.int .i64 0, .int .i64 0] 34 (0, 0)) (gQ BK1000) hb)
    have n2_ := aM (blk_below (g := gb1003) (o := .cells #[.int .i64 0, .int .i64 0] 34 (0, 0)) (gQ BK1003) hb)
    have n3_ := aM (pT (by repeat (first | (with_reducible first | exact HB.out | apply pA | apply pN | apply pD | refine pS ?_ GE999.out | refine pS ?_ GE1000.out | refine pS ?_ GE1003.out) | exact HB.out)) hb)
    have n4_ := aM (hbox)
    have n5_ := aM ((by rw [hg]; exact (pZ (by repeat (first | (with_reducible first | exact HB.out | apply pA | apply pN | apply pD | refine pS ?_ GE999.out | refine pS ?_ GE1000.out | refine pS ?_ GE1003.out) | exact HB.out))) : w.heap.size ≤ gb1004))
    have n6_ := aM ((by rw [hg]; exact (pZ (by repeat (first | (with_reducible first | exact HB.out | apply pA | apply pN | apply pD | refine pS ?_ GE999.out | refine pS ?_ GE1000.out | refine pS ?_ GE1003.out) | exact HB.out))) : w.heap.size ≤ gb1004))
    have n7_ := aM ((by rw [hg]; exact nN (blk_lt (g := gb999) (o := .cells #[.int .i64 0, .int .i64 0] 34 (0, 0)) (gQ BK999)) : gb999 ≠ gb1004))
    have n8_ := aM ((by rw [hg]; exact Nat.ne_of_gt (blk_lt (g := gb999) (o := .cells #[.int .i64 0, .int .i64 0] 34 (0, 0)) (gQ BK999)) : gb1004 ≠ gb999))
    have n9_ := aM ((by rw [hg]; exact nN (blk_lt (g := gb1000) (o := .cells #[.int .i64 0, .int .i64 0] 34 (0, 0)) (gQ BK1000)) : gb1000 ≠ gb1004))
    have n10_ := aM ((by rw [hg]; exact Nat.ne_of_gt (blk_lt (g := gb1000) (o := .cells #[.int .i64 0, .int .i64 0] 34 (0, 0)) (gQ BK1000)) : gb1004 ≠ gb1000))
    have n11_ := aM ((by rw [hg]; exact nN (blk_lt (g := gb1003) (o := .cells #[.int .i64 0, .int .i64 0] 34 (0, 0)) (gQ BK1003)) : gb1003 ≠ gb1004))
    have n12_ := aM ((by rw [hg]; exact Nat.ne_of_gt (blk_lt (g := gb1003) (o := .cells #[.int .i64 0, .int .i64 0] 34 (0, 0)) (gQ BK1003)) : gb1004 ≠ gb1003))
    clear BK999
    clear BK1000
    clear BK1003
    clear HB
    have BK999 := n0_
    have BK1000 := n1_
    have BK1003 := n2_
    have HB := n3_
    have BK1004 := n4_
    have GW1004 := n5_
    have GE1004 := n6_
    have NB999_1004 := n7_
    have NB1004_999 := n8_
    have NB1000_1004 := n9_
    have NB1004_1000 := n10_
    have NB1003_1004 := n11_
    have NB1004_1003 := n12_
    clear n0_ n1_ n2_ n3_ n4_ n5_ n6_ n7_ n8_ n9_ n10_ n11_ n12_
    clear hb hbox hg
    refine hK.out _ _ ⟨((HB.out.cell (wB w _ hw1001_0)).trans hw1001_0), ((HB.out.cell (wB w _ hw1001_1)).trans hw1001_1), ((HB.out.cell (wB w _ hw1002_0)).trans hw1002_0), ((HB.out.cell (wB w _ hw1002_1)).trans hw1002_1)⟩ (fun hHeld => ?_)
    clear hK K
    refine norm_ (a' := ?_) ?_ ?_
    rotate_left
    ·show Act.put _ (some 5) _ = _
     simp only [Act.put, sI, sZ, sS, i64_w, i32_w]
     rfl
    exact norm_ (by simp only [putAll, Act.put, sI, sZ, sS]) (hCont (gb1003, gb1004) _ ⟨hHeld, (gQ BK1000), (gQ BK1003), (gQ BK1004), (gQ BK999), GW1003.out, GE1003.out, NB1000_1003.out, NB1003_1000.out, NB1004_1003.out, NB1003_1004.out, NB999_1003.out, NB1003_999.out, GW1004.out, GE1004.out, NB1000_1004.out, NB1004_1000.out, NB999_1004.out, NB1004_999.out, (by repeat (first | (with_reducible first | exact HB.out | apply pA | apply pN | apply pD | refine pS ?_ GE999.out | refine pS ?_ GE1000.out | refine pS ?_ GE1003.out | refine pS ?_ GE1004.out) | exact HB.out))⟩)
   ·skip
    refine box_step ?hg (N := 5) ?hd (cs := #[.int .i64 0, .int .i64 0]) (t := 34) ?hr ?_; (case hd => rfl); (case hg => rfl); (case hr => first | (go_simp; done) | (go_simp; rfl))
    intro gb1004 hg w6 hbox hb
    have n0_ := aM (blk_below (g := gb999) (o := .cells #[.int .i64 0, .int .i64 0] 34 (0, 0)) (gQ BK999) hb)
    have n1_ := aM (blk_below (g := gb1000) (o := .cells #[.int .i64 0, .int .i64 0] 34 (0, 0)) (gQ BK1000) hb)
    have n2_ := aM (pT (by repeat (first | (with_reducible first | exact HB.out | apply pA | apply pN | apply pD | refine pS ?_ GE999.out | refine pS ?_ GE1000.out) | exact HB.out)) hb)
    have n3_ := aM (hbox)
    have n4_ := aM ((by rw [hg]; exact (pZ (by repeat (first | (with_reducible first | exact HB.out | apply pA | apply pN | apply pD | refine pS ?_ GE999.out | refine pS ?_ GE1000.out) | exact HB.out))) : w.heap.size ≤ gb1004))
    have n5_ := aM ((by rw [hg]; exact (pZ (by repeat (first | (with_reducible first | exact HB.out | apply pA | apply pN | apply pD | refine pS ?_ GE999.out | refine pS ?_ GE1000.out) | exact HB.out))) : w.heap.size ≤ gb1004))
    have n6_ := aM ((by rw [hg]; exact nN (blk_lt (g := gb999) (o := .cells #[.int .i64 0, .int .i64 0] 34 (0, 0)) (gQ BK999)) : gb999 ≠ gb1004))
    have n7_ := aM ((by rw [hg]; exact Nat.ne_of_gt (blk_lt (g := gb999) (o := .cells #[.int .i64 0, .int .i64 0] 34 (0, 0)) (gQ BK999)) : gb1004 ≠ gb999))
    have n8_ := aM ((by rw [hg]; exact nN (blk_lt (g := gb1000) (o := .cells #[.int .i64 0, .int .i64 0] 34 (0, 0)) (gQ BK1000)) : gb1000 ≠ gb1004))
    have n9_ := aM ((by rw [hg]; exact Nat.ne_of_gt (blk_lt (g := gb1000) (o := .cells #[.int .i64 0, .int .i64 0] 34 (0, 0)) (gQ BK1000)) : gb1004 ≠ gb1000))
    clear BK999
    clear BK1000
    clear HB
    have BK999 := n0_
    have BK1000 := n1_
    have HB := n2_
    have BK1004 := n3_
    have GW1004 := n4_
    have GE1004 := n5_
    have NB999_1004 := n6_
    have NB1004_999 := n7_
    have NB1000_1004 := n8_
    have NB1004_1000 := n9_
    clear n0_ n1_ n2_ n3_ n4_ n5_ n6_ n7_ n8_ n9_
    clear hb hbox hg
    refine hK.out _ _ ⟨((HB.out.cell (wB w _ hw1001_0)).trans hw1001_0), ((HB.out.cell (wB w _ hw1001_1)).trans hw1001_1), ((HB.out.cell (wB w _ hw1002_0)).trans hw1002_0), ((HB.out.cell (wB w _ hw1002_1)).trans hw1002_1)⟩ (fun hHeld => ?_)
    clear hK K
    refine norm_ (a' := ?_) ?_ ?_
    rotate_left
    ·show Act.put _ (some 5) _ = _
     simp only [Act.put, sI, sZ, sS, i64_w, i32_w]
     rfl
    refine one_ (i := 6) (N := some 4) #[true, true, true, true, true, true, true, true, false, false] rfl rfl (one_of HT_.out kR) (by decide) (fun K hK => ?_)
    refine box_step ?hg (N := 4) ?hd (cs := #[.int .i64 0, .int .i64 0]) (t := 34) ?hr ?_; (case hd => rfl); (case hg => rfl); (case hr => first | (go_simp; done) | (go_simp; rfl))
    intro gb1003 hg w7 hbox hb
    have n0_ := aM (blk_below (g := gb999) (o := .cells #[.int .i64 0, .int .i64 0] 34 (0, 0)) (gQ BK999) hb)
    have n1_ := aM (blk_below (g := gb1000) (o := .cells #[.int .i64 0, .int .i64 0] 34 (0, 0)) (gQ BK1000) hb)
    have n2_ := aM (blk_below (g := gb1004) (o := .cells #[.int .i64 0, .int .i64 0] 34 (0, 0)) (gQ BK1004) hb)
    have n3_ := aM (pT (by repeat (first | (with_reducible first | exact HB.out | apply pA | apply pN | apply pD | refine pS ?_ GE999.out | refine pS ?_ GE1000.out | refine pS ?_ GE1004.out) | exact HB.out)) hb)
    have n4_ := aM (hbox)
    have n5_ := aM ((by rw [hg]; exact (pZ (by repeat (first | (with_reducible first | exact HB.out | apply pA | apply pN | apply pD | refine pS ?_ GE999.out | refine pS ?_ GE1000.out | refine pS ?_ GE1004.out) | exact HB.out))) : w.heap.size ≤ gb1003))
    have n6_ := aM ((by rw [hg]; exact (pZ (by repeat (first | (with_reducible first | exact HB.out | apply pA | apply pN | apply pD | refine pS ?_ GE999.out | refine pS ?_ GE1000.out | refine pS ?_ GE1004.out) | exact HB.out))) : w.heap.size ≤ gb1003))
    have n7_ := aM ((by rw [hg]; exact nN (blk_lt (g := gb999) (o := .cells #[.int .i64 0, .int .i64 0] 34 (0, 0)) (gQ BK999)) : gb999 ≠ gb1003))
    have n8_ := aM ((by rw [hg]; exact Nat.ne_of_gt (blk_lt (g := gb999) (o := .cells #[.int .i64 0, .int .i64 0] 34 (0, 0)) (gQ BK999)) : gb1003 ≠ gb999))
    have n9_ := aM ((by rw [hg]; exact nN (blk_lt (g := gb1000) (o := .cells #[.int .i64 0, .int .i64 0] 34 (0, 0)) (gQ BK1000)) : gb1000 ≠ gb1003))
    have n10_ := aM ((by rw [hg]; exact Nat.ne_of_gt (blk_lt (g := gb1000) (o := .cells #[.int .i64 0, .int .i64 0] 34 (0, 0)) (gQ BK1000)) : gb1003 ≠ gb1000))
    have n11_ := aM ((by rw [hg]; exact nN (blk_lt (g := gb1004) (o := .cells #[.int .i64 0, .int .i64 0] 34 (0, 0)) (gQ BK1004)) : gb1004 ≠ gb1003))
    have n12_ := aM ((by rw [hg]; exact Nat.ne_of_gt (blk_lt (g := gb1004) (o := .cells #[.int .i64 0, .int .i64 0] 34 (0, 0)) (gQ BK1004)) : gb1003 ≠ gb1004))
    clear BK999
    clear BK1000
    clear BK1004
    clear HB
    have BK999 := n0_
    have BK1000 := n1_
    have BK1004 := n2_
    have HB := n3_
    have BK1003 := n4_
    have GW1003 := n5_
    have GE1003 := n6_
    have NB999_1003 := n7_
    have NB1003_999 := n8_
    have NB1000_1003 := n9_
    have NB1003_1000 := n10_
    have NB1004_1003 := n11_
    have NB1003_1004 := n12_
    clear n0_ n1_ n2_ n3_ n4_ n5_ n6_ n7_ n8_ n9_ n10_ n11_ n12_
    clear hb hbox hg
    refine hK.out _ _ ⟨((HB.out.cell (wB w _ hw1001_0)).trans hw1001_0), ((HB.out.cell (wB w _ hw1001_1)).trans hw1001_1), ((HB.out.cell (wB w _ hw1002_0)).trans hw1002_0), ((HB.out.cell (wB w _ hw1002_1)).trans hw1002_1)⟩ (fun hHeld => ?_)
    clear hK K
    refine norm_ (a' := ?_) ?_ ?_
    rotate_left
    ·show Act.put _ (some 4) _ = _
     simp only [Act.put, sI, sZ, sS, i64_w, i32_w]
     rfl
    exact norm_ (by simp only [putAll, Act.put, sI, sZ, sS]) (hCont (gb1003, gb1004) _ ⟨hHeld, (gQ BK1000), (gQ BK1003), (gQ BK1004), (gQ BK999), GW1003.out, GE1003.out, NB1000_1003.out, NB1003_1000.out, NB1004_1003.out, NB1003_1004.out, NB999_1003.out, NB1003_999.out, GW1004.out, GE1004.out, NB1000_1004.out, NB1004_1000.out, NB999_1004.out, NB1004_999.out, (by repeat (first | (with_reducible first | exact HB.out | apply pA | apply pN | apply pD | refine pS ?_ GE999.out | refine pS ?_ GE1000.out | refine pS ?_ GE1004.out | refine pS ?_ GE1003.out) | exact HB.out))⟩)
  rintro ⟨gb1003, gb1004⟩ w8 ⟨hS_, h0_, h1_, h2_, h3_, h4_, h5_, h6_, h7_, h8_, h9_, h10_, h11_, h12_, h13_, h14_, h15_, h16_, h17_, h18_⟩
  have n0_ : Aside0 (w8.heap[gb1000]? = some (.cells #[.int .i64 0, .int .i64 0] 34 (0, 0))) := ⟨h0_⟩
  have n1_ : Aside0 (w8.heap[gb1003]? = some (.cells #[.int .i64 0, .int .i64 0] 34 (0, 0))) := ⟨h1_⟩
  have n2_ : Aside0 (w8.heap[gb1004]? = some (.cells #[.int .i64 0, .int .i64 0] 34 (0, 0))) := ⟨h2_⟩
  have n3_ : Aside0 (w8.heap[gb999]? = some (.cells #[.int .i64 0, .int .i64 0] 34 (0, 0))) := ⟨h3_⟩
  have n4_ : Aside0 (w.heap.size ≤ gb1003) := ⟨h4_⟩
  have n5_ : Aside0 (w.heap.size ≤ gb1003) := ⟨h5_⟩
  have n6_ : Aside0 (gb1000 ≠ gb1003) := ⟨h6_⟩
  have n7_ : Aside0 (gb1003 ≠ gb1000) := ⟨h7_⟩
  have n8_ : Aside0 (gb1004 ≠ gb1003) := ⟨h8_⟩
  have n9_ : Aside0 (gb1003 ≠ gb1004) := ⟨h9_⟩
  have n10_ : Aside0 (gb999 ≠ gb1003) := ⟨h10_⟩
  have n11_ : Aside0 (gb1003 ≠ gb999) := ⟨h11_⟩
  have n12_ : Aside0 (w.heap.size ≤ gb1004) := ⟨h12_⟩
  have n13_ : Aside0 (w.heap.size ≤ gb1004) := ⟨h13_⟩
  have n14_ : Aside0 (gb1000 ≠ gb1004) := ⟨h14_⟩
  have n15_ : Aside0 (gb1004 ≠ gb1000) := ⟨h15_⟩
  have n16_ : Aside0 (gb999 ≠ gb1004) := ⟨h16_⟩
  have n17_ : Aside0 (gb1004 ≠ gb999) := ⟨h17_⟩
  have n18_ : Aside0 (Below w.heap.size w w8) := ⟨h18_⟩
  clear BK999
  clear BK1000
  clear HB
  clear h0_ h1_ h2_ h3_ h4_ h5_ h6_ h7_ h8_ h9_ h10_ h11_ h12_ h13_ h14_ h15_ h16_ h17_ h18_
  have BK1000 := n0_
  have BK1003 := n1_
  have BK1004 := n2_
  have BK999 := n3_
  have GW1003 := n4_
  have GE1003 := n5_
  have NB1000_1003 := n6_
  have NB1003_1000 := n7_
  have NB1004_1003 := n8_
  have NB1003_1004 := n9_
  have NB999_1003 := n10_
  have NB1003_999 := n11_
  have GW1004 := n12_
  have GE1004 := n13_
  have NB1000_1004 := n14_
  have NB1004_1000 := n15_
  have NB999_1004 := n16_
  have NB1004_999 := n17_
  have HB := n18_
  clear n0_ n1_ n2_ n3_ n4_ n5_ n6_ n7_ n8_ n9_ n10_ n11_ n12_ n13_ n14_ n15_ n16_ n17_ n18_
  have hHeld : w8.cell? ad1001 = some (.int .i64 ((rd_impl_Peg l0 0).f0)) ∧ w8.cell? ⟨ad1001.block, ad1001.off + 1, none⟩ = some (.int .i64 ((rd_impl_Peg l0 0).f1)) ∧ w8.cell? ad1001 = some (.int .i64 ((rd_impl_Peg l0 0).f0)) ∧ w8.cell? ⟨ad1001.block, ad1001.off + 1, none⟩ = some (.int .i64 ((rd_impl_Peg l0 0).f1)) := hS_
  refine norm_ (a' := ?_) ?_ ?_
  rotate_left
  ·simp only [putAll, Act.put, sI, sZ, sS]
   rfl
  refine one_ (i := 8) (N := none) #[true, true, true, true, true, true, true, true, true, false] rfl rfl (one_of HT_.out kR) (by decide) (fun K hK => ?_)
  have hs9 : w8.cell? ⟨gb1003, 0, none⟩ = some (.int .i64 0) := (kC BK1003.out 0).trans rfl
  have hfs9 := kF BK1003.out 0
  have hns9_0 := NB999_1003.out
  have hns9_1 := NB1000_1003.out
  have hns9_3 := NB1004_1003.out
  have hms9_0 := NB1003_999.out
  have hms9_1 := NB1003_1000.out
  have hms9_3 := NB1003_1004.out
  have hs10 : w8.cell? ⟨gb1003, 1, none⟩ = some (.int .i64 0) := (kC BK1003.out 1).trans rfl
  have hfs10 := kF BK1003.out 1
  have hns10_0 := NB999_1003.out
  have hns10_1 := NB1000_1003.out
  have hns10_3 := NB1004_1003.out
  have hms10_0 := NB1003_999.out
  have hms10_1 := NB1003_1000.out
  have hms10_3 := NB1003_1004.out
  refine skip_ (w1 := ?_) (by rfl) rfl ?_ ?_
  rotate_left
  ·go_simp
   rfl
  refine hK.out _ _ ⟨((cell_far (p := ⟨gb1003, _, none⟩) (by first | exact nN (nL (by have := wB _ _ hw1001_0; first | rwa [add_block] at this | exact this) GW1003.out) | (rw [add_block]; exact nN (nL (by have := wB _ _ hw1001_0; first | rwa [add_block] at this | exact this) GW1003.out)) | (show (Addr.add _ _).block ≠ _; rw [add_block]; exact nN (nL (by have := wB _ _ hw1001_0; first | rwa [add_block] at this | exact this) GW1003.out)) | (dsimp only; exact nN (nL (by have := wB _ _ hw1001_0; first | rwa [add_block] at this | exact this) GW1003.out))) _).trans (((cell_far (p := ⟨gb1003, _, none⟩) (by first | exact nN (nL (by have := wB _ _ hw1001_0; first | rwa [add_block] at this | exact this) GW1003.out) | (rw [add_block]; exact nN (nL (by have := wB _ _ hw1001_0; first | rwa [add_block] at this | exact this) GW1003.out)) | (show (Addr.add _ _).block ≠ _; rw [add_block]; exact nN (nL (by have := wB _ _ hw1001_0; first | rwa [add_block] at this | exact this) GW1003.out)) | (dsimp only; exact nN (nL (by have := wB _ _ hw1001_0; first | rwa [add_block] at this | exact this) GW1003.out))) _).trans (hHeld.1)))), ((cell_far (p := ⟨gb1003, _, none⟩) (by first | exact nN (nL (by have := wB _ _ hw1001_1; first | rwa [add_block] at this | exact this) GW1003.out) | (rw [add_block]; exact nN (nL (by have := wB _ _ hw1001_1; first | rwa [add_block] at this | exact this) GW1003.out)) | (show (Addr.add _ _).block ≠ _; rw [add_block]; exact nN (nL (by have := wB _ _ hw1001_1; first | rwa [add_block] at this | exact this) GW1003.out)) | (dsimp only; exact nN (nL (by have := wB _ _ hw1001_1; first | rwa [add_block] at this | exact this) GW1003.out))) _).trans (((cell_far (p := ⟨gb1003, _, none⟩) (by first | exact nN (nL (by have := wB _ _ hw1001_1; first | rwa [add_block] at this | exact this) GW1003.out) | (rw [add_block]; exact nN (nL (by have := wB _ _ hw1001_1; first | rwa [add_block] at this | exact this) GW1003.out)) | (show (Addr.add _ _).block ≠ _; rw [add_block]; exact nN (nL (by have := wB _ _ hw1001_1; first | rwa [add_block] at this | exact this) GW1003.out)) | (dsimp only; exact nN (nL (by have := wB _ _ hw1001_1; first | rwa [add_block] at this | exact this) GW1003.out))) _).trans (hHeld.2.1)))), ((cell_far (p := ⟨gb1003, _, none⟩) (by first | exact nN (nL (by have := wB _ _ hw1002_0; first | rwa [add_block] at this | exact this) GW1003.out) | (rw [add_block]; exact nN (nL (by have := wB _ _ hw1002_0; first | rwa [add_block] at this | exact this) GW1003.out)) | (show (Addr.add _ _).block ≠ _; rw [add_block]; exact nN (nL (by have := wB _ _ hw1002_0; first | rwa [add_block] at this | exact this) GW1003.out)) | (dsimp only; exact nN (nL (by have := wB _ _ hw1002_0; first | rwa [add_block] at this | exact this) GW1003.out))) _).trans (((cell_far (p := ⟨gb1003, _, none⟩) (by first | exact nN (nL (by have := wB _ _ hw1002_0; first | rwa [add_block] at this | exact this) GW1003.out) | (rw [add_block]; exact nN (nL (by have := wB _ _ hw1002_0; first | rwa [add_block] at this | exact this) GW1003.out)) | (show (Addr.add _ _).block ≠ _; rw [add_block]; exact nN (nL (by have := wB _ _ hw1002_0; first | rwa [add_block] at this | exact this) GW1003.out)) | (dsimp only; exact nN (nL (by have := wB _ _ hw1002_0; first | rwa [add_block] at this | exact this) GW1003.out))) _).trans (hHeld.2.2.1)))), ((cell_far (p := ⟨gb1003, _, none⟩) (by first | exact nN (nL (by have := wB _ _ hw1002_1; first | rwa [add_block] at this | exact this) GW1003.out) | (rw [add_block]; exact nN (nL (by have := wB _ _ hw1002_1; first | rwa [add_block] at this | exact this) GW1003.out)) | (show (Addr.add _ _).block ≠ _; rw [add_block]; exact nN (nL (by have := wB _ _ hw1002_1; first | rwa [add_block] at this | exact this) GW1003.out)) | (dsimp only; exact nN (nL (by have := wB _ _ hw1002_1; first | rwa [add_block] at this | exact this) GW1003.out))) _).trans (((cell_far (p := ⟨gb1003, _, none⟩) (by first | exact nN (nL (by have := wB _ _ hw1002_1; first | rwa [add_block] at this | exact this) GW1003.out) | (rw [add_block]; exact nN (nL (by have := wB _ _ hw1002_1; first | rwa [add_block] at this | exact this) GW1003.out)) | (show (Addr.add _ _).block ≠ _; rw [add_block]; exact nN (nL (by have := wB _ _ hw1002_1; first | rwa [add_block] at this | exact this) GW1003.out)) | (dsimp only; exact nN (nL (by have := wB _ _ hw1002_1; first | rwa [add_block] at this | exact this) GW1003.out))) _).trans (hHeld.2.2.2))))⟩ (fun hHeld => ?_)
  clear hK K
  refine one_ (i := 9) (N := none) #[true, true, true, true, true, true, true, true, true, true] rfl rfl (one_of HT_.out kR) (by decide) (fun K hK => ?_)
  have hs11 : w8.cell? ⟨gb1004, 0, none⟩ = some (.int .i64 0) := (kC BK1004.out 0).trans rfl
  have hfs11 := kF BK1004.out 0
  have hns11_0 := NB999_1004.out
  have hns11_1 := NB1000_1004.out
  have hns11_2 := NB1003_1004.out
  have hms11_0 := NB1004_999.out
  have hms11_1 := NB1004_1000.out
  have hms11_2 := NB1004_1003.out
  have hs12 : w8.cell? ⟨gb1004, 1, none⟩ = some (.int .i64 0) := (kC BK1004.out 1).trans rfl
  have hfs12 := kF BK1004.out 1
  have hns12_0 := NB999_1004.out
  have hns12_1 := NB1000_1004.out
  have hns12_2 := NB1003_1004.out
  have hms12_0 := NB1004_999.out
  have hms12_1 := NB1004_1000.out
  have hms12_2 := NB1004_1003.out
  refine skip_ (w1 := ?_) (by rfl) rfl ?_ ?_
  rotate_left
  ·go_simp
   rfl
  refine hK.out _ _ ⟨((cell_far (p := ⟨gb1004, _, none⟩) (by first | exact nN (nL (by have := wB _ _ hw1001_0; first | rwa [add_block] at this | exact this) GW1004.out) | (rw [add_block]; exact nN (nL (by have := wB _ _ hw1001_0; first | rwa [add_block] at this | exact this) GW1004.out)) | (show (Addr.add _ _).block ≠ _; rw [add_block]; exact nN (nL (by have := wB _ _ hw1001_0; first | rwa [add_block] at this | exact this) GW1004.out)) | (dsimp only; exact nN (nL (by have := wB _ _ hw1001_0; first | rwa [add_block] at this | exact this) GW1004.out))) _).trans (((cell_far (p := ⟨gb1004, _, none⟩) (by first | exact nN (nL (by have := wB _ _ hw1001_0; first | rwa [add_block] at this | exact this) GW1004.out) | (rw [add_block]; exact nN (nL (by have := wB _ _ hw1001_0; first | rwa [add_block] at this | exact this) GW1004.out)) | (show (Addr.add _ _).block ≠ _; rw [add_block]; exact nN (nL (by have := wB _ _ hw1001_0; first | rwa [add_block] at this | exact this) GW1004.out)) | (dsimp only; exact nN (nL (by have := wB _ _ hw1001_0; first | rwa [add_block] at this | exact this) GW1004.out))) _).trans (hHeld.1)))), ((cell_far (p := ⟨gb1004, _, none⟩) (by first | exact nN (nL (by have := wB _ _ hw1001_1; first | rwa [add_block] at this | exact this) GW1004.out) | (rw [add_block]; exact nN (nL (by have := wB _ _ hw1001_1; first | rwa [add_block] at this | exact this) GW1004.out)) | (show (Addr.add _ _).block ≠ _; rw [add_block]; exact nN (nL (by have := wB _ _ hw1001_1; first | rwa [add_block] at this | exact this) GW1004.out)) | (dsimp only; exact nN (nL (by have := wB _ _ hw1001_1; first | rwa [add_block] at this | exact this) GW1004.out))) _).trans (((cell_far (p := ⟨gb1004, _, none⟩) (by first | exact nN (nL (by have := wB _ _ hw1001_1; first | rwa [add_block] at this | exact this) GW1004.out) | (rw [add_block]; exact nN (nL (by have := wB _ _ hw1001_1; first | rwa [add_block] at this | exact this) GW1004.out)) | (show (Addr.add _ _).block ≠ _; rw [add_block]; exact nN (nL (by have := wB _ _ hw1001_1; first | rwa [add_block] at this | exact this) GW1004.out)) | (dsimp only; exact nN (nL (by have := wB _ _ hw1001_1; first | rwa [add_block] at this | exact this) GW1004.out))) _).trans (hHeld.2.1)))), ((cell_far (p := ⟨gb1004, _, none⟩) (by first | exact nN (nL (by have := wB _ _ hw1002_0; first | rwa [add_block] at this | exact this) GW1004.out) | (rw [add_block]; exact nN (nL (by have := wB _ _ hw1002_0; first | rwa [add_block] at this | exact this) GW1004.out)) | (show (Addr.add _ _).block ≠ _; rw [add_block]; exact nN (nL (by have := wB _ _ hw1002_0; first | rwa [add_block] at this | exact this) GW1004.out)) | (dsimp only; exact nN (nL (by have := wB _ _ hw1002_0; first | rwa [add_block] at this | exact this) GW1004.out))) _).trans (((cell_far (p := ⟨gb1004, _, none⟩) (by first | exact nN (nL (by have := wB _ _ hw1002_0; first | rwa [add_block] at this | exact this) GW1004.out) | (rw [add_block]; exact nN (nL (by have := wB _ _ hw1002_0; first | rwa [add_block] at this | exact this) GW1004.out)) | (show (Addr.add _ _).block ≠ _; rw [add_block]; exact nN (nL (by have := wB _ _ hw1002_0; first | rwa [add_block] at this | exact this) GW1004.out)) | (dsimp only; exact nN (nL (by have := wB _ _ hw1002_0; first | rwa [add_block] at this | exact this) GW1004.out))) _).trans (hHeld.2.2.1)))), ((cell_far (p := ⟨gb1004, _, none⟩) (by first | exact nN (nL (by have := wB _ _ hw1002_1; first | rwa [add_block] at this | exact this) GW1004.out) | (rw [add_block]; exact nN (nL (by have := wB _ _ hw1002_1; first | rwa [add_block] at this | exact this) GW1004.out)) | (show (Addr.add _ _).block ≠ _; rw [add_block]; exact nN (nL (by have := wB _ _ hw1002_1; first | rwa [add_block] at this | exact this) GW1004.out)) | (dsimp only; exact nN (nL (by have := wB _ _ hw1002_1; first | rwa [add_block] at this | exact this) GW1004.out))) _).trans (((cell_far (p := ⟨gb1004, _, none⟩) (by first | exact nN (nL (by have := wB _ _ hw1002_1; first | rwa [add_block] at this | exact this) GW1004.out) | (rw [add_block]; exact nN (nL (by have := wB _ _ hw1002_1; first | rwa [add_block] at this | exact this) GW1004.out)) | (show (Addr.add _ _).block ≠ _; rw [add_block]; exact nN (nL (by have := wB _ _ hw1002_1; first | rwa [add_block] at this | exact this) GW1004.out)) | (dsimp only; exact nN (nL (by have := wB _ _ hw1002_1; first | rwa [add_block] at this | exact this) GW1004.out))) _).trans (hHeld.2.2.2))))⟩ (fun hHeld => ?_)
  clear hK K
  refine done_ (done_of HT_.out kR) ?_
  try go_wp2
  go_loopg [16] k (fun kq v16 w' => ∃ (x16_1 : Int) (x1004000_1 : Int) (x1004001_1 : Int) (x1005000_1 : Int) (x1005001_1 : Int), v16 = .int .i64 x16_1 ∧ Aside0 (impl_box.l0 kq l0 (l0.length : Int) x16_1 x1004000_1 x1004001_1 x1005000_1 x1005001_1 = some (r1, r2, r3, r4)) ∧ Aside0 (kq ≤ k) ∧ Aside0 (w'.heap[gb999]? = some (.cells #[.int .i64 0, .int .i64 0] 34 (0, 0))) ∧ Aside0 (w'.heap[gb1000]? = some (.cells #[.int .i64 0, .int .i64 0] 34 (0, 0))) ∧ Aside0 (w'.heap[gb1003]? = some (.cells #[.int .i64 x1004000_1, .int .i64 x1004001_1] 34 (0, 0))) ∧ Aside0 (w'.heap[gb1004]? = some (.cells #[.int .i64 x1005000_1, .int .i64 x1005001_1] 34 (0, 0))) ∧ Aside0 (Below w.heap.size w w'))
  case atStart => exact ⟨(0), ((rd_impl_Peg l0 0).f0), ((rd_impl_Peg l0 0).f1), ((rd_impl_Peg l0 0).f0), ((rd_impl_Peg l0 0).f1), eQ, H', ⟨Nat.le_refl _⟩, ⟨by (with_reducible repeat (first | refine kN ?_ _ | refine kD ?_ | refine kA ?_ _)); refine blk_far ?_ NB999_1004.out _; (with_reducible repeat (first | refine kN ?_ _ | refine kD ?_ | refine kA ?_ _)); refine blk_far ?_ NB999_1004.out _; (with_reducible repeat (first | refine kN ?_ _ | refine kD ?_ | refine kA ?_ _)); refine blk_far ?_ NB999_1003.out _; (with_reducible repeat (first | refine kN ?_ _ | refine kD ?_ | refine kA ?_ _)); refine blk_far ?_ NB999_1003.out _; (with_reducible repeat (first | refine kN ?_ _ | refine kD ?_ | refine kA ?_ _)); exact BK999.out⟩, ⟨by (with_reducible repeat (first | refine kN ?_ _ | refine kD ?_ | refine kA ?_ _)); refine blk_far ?_ NB1000_1004.out _; (with_reducible repeat (first | refine kN ?_ _ | refine kD ?_ | refine kA ?_ _)); refine blk_far ?_ NB1000_1004.out _; (with_reducible repeat (first | refine kN ?_ _ | refine kD ?_ | refine kA ?_ _)); refine blk_far ?_ NB1000_1003.out _; (with_reducible repeat (first | refine kN ?_ _ | refine kD ?_ | refine kA ?_ _)); refine blk_far ?_ NB1000_1003.out _; (with_reducible repeat (first | refine kN ?_ _ | refine kD ?_ | refine kA ?_ _)); exact BK1000.out⟩, ⟨by (with_reducible repeat (first | refine kN ?_ _ | refine kD ?_ | refine kA ?_ _)); refine blk_far ?_ NB1003_1004.out _; (with_reducible repeat (first | refine kN ?_ _ | refine kD ?_ | refine kA ?_ _)); refine blk_far ?_ NB1003_1004.out _; (with_reducible repeat (first | refine kN ?_ _ | refine kD ?_ | refine kA ?_ _)); refine blk_put (cs := #[.int .i64 ((rd_impl_Peg l0 0).f0), .int .i64 0]) ?_ 1 _ rfl; (with_reducible repeat (first | refine kN ?_ _ | refine kD ?_ | refine kA ?_ _)); refine blk_put (cs := #[.int .i64 0, .int .i64 0]) ?_ 0 _ rfl; (with_reducible repeat (first | refine kN ?_ _ | refine kD ?_ | refine kA ?_ _)); exact BK1003.out⟩, ⟨by (with_reducible repeat (first | refine kN ?_ _ | refine kD ?_ | refine kA ?_ _)); refine blk_put (cs := #[.int .i64 ((rd_impl_Peg l0 0).f0), .int .i64 0]) ?_ 1 _ rfl; (with_reducible repeat (first | refine kN ?_ _ | refine kD ?_ | refine kA ?_ _)); refine blk_put (cs := #[.int .i64 0, .int .i64 0]) ?_ 0 _ rfl; (with_reducible repeat (first | refine kN ?_ _ | refine kD ?_ | refine kA ?_ _)); refine blk_far ?_ NB1004_1003.out _; (with_reducible repeat (first | refine kN ?_ _ | refine kD ?_ | refine kA ?_ _)); refine blk_far ?_ NB1004_1003.out _; (with_reducible repeat (first | refine kN ?_ _ | refine kD ?_ | refine kA ?_ _)); exact BK1004.out⟩, ⟨by repeat (first | (with_reducible first | exact HB.out | apply pA | apply pN | apply pD | refine pS ?_ GE999.out | refine pS ?_ GE1000.out | refine pS ?_ GE1003.out | refine pS ?_ GE1004.out) | exact HB.out)⟩⟩
  case round =>
   clear H'
   try clear c1
   try clear p1
   try clear q1
   try clear hx1
   try clear qi1
   try clear c2
   try clear c2b0
   try clear c2b1
   try clear p2
   try clear p10
   try clear q10
   try clear hx10
   try clear qi10
   try clear hx1001_0
   try clear hx1001_1
   try clear hx1002_0
   try clear hx1002_1
   try clear p1001
   try clear p1002
   try clear q1001
   try clear q1002
   obtain ⟨x16_1, x1004000_1, x1004001_1, x1005000_1, x1005001_1, rfl, HA, HK1, BK999, BK1000, BK1003, BK1004, HB⟩ := hrel
   cases gk with
   | zero => exact absurd HA.out (by simp [impl_box.l0])
   | succ k1 =>
    have H := HA.out
    clear HA
    simp only [impl_box.l0] at H
    by_cases c13 : x16_1 < (l0.length : Int)
    ·rw [if_pos c13] at H
     have c13b0 : decide (x16_1 < (l0.length : Int)) = true := dE c13
     clear c13
     by_cases c14 : 0 ≤ x16_1
     ·rw [if_pos c14] at H
      have c14b0 : decide (0 ≤ x16_1) = true := dE c14
      clear c14
      by_cases c15 : x16_1 < (l0.length : Int)
      ·rw [if_pos c15] at H
       have c15b0 : decide (x16_1 < (l0.length : Int)) = true := dE c15
       clear c15
       obtain ⟨ji16, hji16⟩ : ∃ j_ : Int, (mn x1004000_1 ((rd_impl_Peg l0 x16_1).f0)) = j_ := ⟨_, rfl⟩
       replace H : (impl_box.l0 k1 l0 (l0.length : Int) (wrap64 (x16_1 + 1)) ji16 (mn x1004001_1 ((rd_impl_Peg l0 x16_1).f1)) (mx x1005000_1 ((rd_impl_Peg l0 x16_1).f0)) (mx x1005001_1 ((rd_impl_Peg l0 x16_1).f1))) = some (r1, r2, r3, r4) := by first | (rw [hji16] at H; exact H) | (simp only [hji16] at H ⊢; exact H)
       have hji16_ : (if ((rd_impl_Peg l0 x16_1).f0) < x1004000_1 then ((rd_impl_Peg l0 x16_1).f0) else x1004000_1) = ji16 := hji16
       obtain ⟨ji17, hji17⟩ : ∃ j_ : Int, (mn x1004001_1 ((rd_impl_Peg l0 x16_1).f1)) = j_ := ⟨_, rfl⟩
       replace H : (impl_box.l0 k1 l0 (l0.length : Int) (wrap64 (x16_1 + 1)) ji16 ji17 (mx x1005000_1 ((rd_impl_Peg l0 x16_1).f0)) (mx x1005001_1 ((rd_impl_Peg l0 x16_1).f1))) = some (r1, r2, r3, r4) := by first | (rw [hji17] at H; exact H) | (simp only [hji17] at H ⊢; exact H)
       have hji17_ : (if ((rd_impl_Peg l0 x16_1).f1) < x1004001_1 then ((rd_impl_Peg l0 x16_1).f1) else x1004001_1) = ji17 := hji17
       obtain ⟨ji18, hji18⟩ : ∃ j_ : Int, (mx x1005000_1 ((rd_impl_Peg l0 x16_1).f0)) = j_ := ⟨_, rfl⟩
       replace H : (impl_box.l0 k1 l0 (l0.length : Int) (wrap64 (x16_1 + 1)) ji16 ji17 ji18 (mx x1005001_1 ((rd_impl_Peg l0 x16_1).f1))) = some (r1, r2, r3, r4) := by first | (rw [hji18] at H; exact H) | (simp only [hji18] at H ⊢; exact H)
       have hji18_ : (if x1005000_1 < ((rd_impl_Peg l0 x16_1).f0) then ((rd_impl_Peg l0 x16_1).f0) else x1005000_1) = ji18 := hji18
       obtain ⟨ji19, hji19⟩ : ∃ j_ : Int, (mx x1005001_1 ((rd_impl_Peg l0 x16_1).f1)) = j_ := ⟨_, rfl⟩
       replace H : (impl_box.l0 k1 l0 (l0.length : Int) (wrap64 (x16_1 + 1)) ji16 ji17 ji18 ji19) = some (r1, r2, r3, r4) := by first | (rw [hji19] at H; exact H) | (simp only [hji19] at H ⊢; exact H)
       have hji19_ : (if x1005001_1 < ((rd_impl_Peg l0 x16_1).f1) then ((rd_impl_Peg l0 x16_1).f1) else x1005001_1) = ji19 := hji19
       have H' := aM H
       clear H
       have p1005 : 0 ≤ (x16_1 : Int) := dT aQ
       have q1005 : x16_1 < (l0.length : Int) := dT aQ
       obtain ⟨ad1005, e1005, hx1005_0, hx1005_1⟩ := at_impl_Peg HR0.out x16_1 p1005 q1005
       obtain rfl : ad1001 = ad1005 := (by injection e1005)
       replace hx1005_0 := (HB.out.cell (wB w _ hx1005_0)).trans hx1005_0
       replace hx1005_1 := (HB.out.cell (wB w _ hx1005_1)).trans hx1005_1
       replace p1005 := eq_true p1005
       replace q1005 := eq_true q1005
       go_wp2_with (first | ((with_reducible refine gate_dst (N := 7) rfl ?_); refine box_event ?hg (N := 7) ?hd (cs := #[.int .i64 0, .int .i64 0]) (t := 34) ?hr ?_; (case hd => rfl); (case hg => rfl); (case hr => first | (go_simp; done) | (go_simp; rfl)); intro gb1006 hg w20 hbox hb; have n0_ := aM (blk_below (g := gb999) (o := .cells #[.int .i64 0, .int .i64 0] 34 (0, 0)) (gQ BK999) hb); have n1_ := aM (blk_below (g := gb1000) (o := .cells #[.int .i64 0, .int .i64 0] 34 (0, 0)) (gQ BK1000) hb); have n2_ := aM (blk_below (g := gb1003) (o := .cells #[.int .i64 x1004000_1, .int .i64 x1004001_1] 34 (0, 0)) (gQ BK1003) hb); have n3_ := aM (blk_below (g := gb1004) (o := .cells #[.int .i64 x1005000_1, .int .i64 x1005001_1] 34 (0, 0)) (gQ BK1004) hb); have n4_ := aM (pT (by repeat (first | (with_reducible first | exact HB.out | apply pA | apply pN | apply pD | refine pS ?_ GE999.out | refine pS ?_ GE1000.out | refine pS ?_ GE1003.out | refine pS ?_ GE1004.out) | exact HB.out)) hb); have n5_ := aM (hbox); have n6_ := aM ((by rw [hg]; exact (pZ (by repeat (first | (with_reducible first | exact HB.out | apply pA | apply pN | apply pD | refine pS ?_ GE999.out | refine pS ?_ GE1000.out | refine pS ?_ GE1003.out | refine pS ?_ GE1004.out) | exact HB.out))) : w.heap.size ≤ gb1006)); have n7_ := aM ((by rw [hg]; exact (pZ (by repeat (first | (with_reducible first | exact HB.out | apply pA | apply pN | apply pD | refine pS ?_ GE999.out | refine pS ?_ GE1000.out | refine pS ?_ GE1003.out | refine pS ?_ GE1004.out) | exact HB.out))) : w.heap.size ≤ gb1006)); have n8_ := aM ((by rw [hg]; exact nN (blk_lt (g := gb999) (o := .cells #[.int .i64 0, .int .i64 0] 34 (0, 0)) (gQ BK999)) : gb999 ≠ gb1006)); have n9_ := aM ((by rw [hg]; exact Nat.ne_of_gt (blk_lt (g := gb999) (o := .cells #[.int .i64 0, .int .i64 0] 34 (0, 0)) (gQ BK999)) : gb1006 ≠ gb999)); have n10_ := aM ((by rw [hg]; exact nN (blk_lt (g := gb1000) (o := .cells #[.int .i64 0, .int .i64 0] 34 (0, 0)) (gQ BK1000)) : gb1000 ≠ gb1006)); have n11_ := aM ((by rw [hg]; exact Nat.ne_of_gt (blk_lt (g := gb1000) (o := .cells #[.int .i64 0, .int .i64 0] 34 (0, 0)) (gQ BK1000)) : gb1006 ≠ gb1000)); have n12_ := aM ((by rw [hg]; exact nN (blk_lt (g := gb1003) (o := .cells #[.int .i64 x1004000_1, .int .i64 x1004001_1] 34 (0, 0)) (gQ BK1003)) : gb1003 ≠ gb1006)); have n13_ := aM ((by rw [hg]; exact Nat.ne_of_gt (blk_lt (g := gb1003) (o := .cells #[.int .i64 x1004000_1, .int .i64 x1004001_1] 34 (0, 0)) (gQ BK1003)) : gb1006 ≠ gb1003)); have n14_ := aM ((by rw [hg]; exact nN (blk_lt (g := gb1004) (o := .cells #[.int .i64 x1005000_1, .int .i64 x1005001_1] 34 (0, 0)) (gQ BK1004)) : gb1004 ≠ gb1006)); have n15_ := aM ((by rw [hg]; exact Nat.ne_of_gt (blk_lt (g := gb1004) (o := .cells #[.int .i64 x1005000_1, .int .i64 x1005001_1] 34 (0, 0)) (gQ BK1004)) : gb1006 ≠ gb1004)); clear BK999; clear BK1000; clear BK1003; clear BK1004; clear HB; have BK999 := n0_; have BK1000 := n1_; have BK1003 := n2_; have BK1004 := n3_; have HB := n4_; have BK1006 := n5_; have GW1006 := n6_; have GE1006 := n7_; have NB999_1006 := n8_; have NB1006_999 := n9_; have NB1000_1006 := n10_; have NB1006_1000 := n11_; have NB1003_1006 := n12_; have NB1006_1003 := n13_; have NB1004_1006 := n14_; have NB1006_1004 := n15_; clear n0_ n1_ n2_ n3_ n4_ n5_ n6_ n7_ n8_ n9_ n10_ n11_ n12_ n13_ n14_ n15_; clear hb hbox hg; have hnb21 := NB1006_999.out; have hnc21 := NB999_1006.out; have hnb22 := NB1006_1000.out; have hnc22 := NB1000_1006.out; have hnb23 := NB1006_1003.out; have hnc23 := NB1003_1006.out; have hnb24 := NB1006_1004.out; have hnc24 := NB1004_1006.out; have hcz25_0 : w20.cell? ⟨gb1006, 0, none⟩ = some (.int .i64 0) := (kC BK1006.out 0).trans rfl; have hcz25_1 : w20.cell? ⟨gb1006, 1, none⟩ = some (.int .i64 0) := (kC BK1006.out 1).trans rfl; have hfz25_0 := kF BK1006.out 0; have hfz25_1 := kF BK1006.out 1; have hnb26 := NB1003_999.out; have hnc26 := NB999_1003.out; have hnb27 := NB1003_1000.out; have hnc27 := NB1000_1003.out; have hnb28 := NB1003_1004.out; have hnc28 := NB1004_1003.out; have hcz29_0 : w20.cell? ⟨gb1003, 0, none⟩ = some (.int .i64 x1004000_1) := (kC BK1003.out 0).trans rfl; have hcz29_1 : w20.cell? ⟨gb1003, 1, none⟩ = some (.int .i64 x1004001_1) := (kC BK1003.out 1).trans rfl; have hfz29_0 := kF BK1003.out 0; have hfz29_1 := kF BK1003.out 1; have hnb30 := NB1004_999.out; have hnc30 := NB999_1004.out; have hnb31 := NB1004_1000.out; have hnc31 := NB1000_1004.out; have hcz32_0 : w20.cell? ⟨gb1004, 0, none⟩ = some (.int .i64 x1005000_1) := (kC BK1004.out 0).trans rfl; have hcz32_1 : w20.cell? ⟨gb1004, 1, none⟩ = some (.int .i64 x1005001_1) := (kC BK1004.out 1).trans rfl; have hfz32_0 := kF BK1004.out 0; have hfz32_1 := kF BK1004.out 1))
       go_roundg k1
       case measure => have := HK1.out; omega
       case rel => exact ⟨(wrap64 (x16_1 + 1)), (ji16), (ji17), (ji18), (ji19), eQ, H', ⟨by have := HK1.out; omega⟩, ⟨by (with_reducible repeat (first | refine kN ?_ _ | refine kD ?_ | refine kA ?_ _)); refine blk_far ?_ NB999_1004.out _; (with_reducible repeat (first | refine kN ?_ _ | refine kD ?_ | refine kA ?_ _)); refine blk_far ?_ NB999_1004.out _; (with_reducible repeat (first | refine kN ?_ _ | refine kD ?_ | refine kA ?_ _)); refine blk_far ?_ NB999_1003.out _; (with_reducible repeat (first | refine kN ?_ _ | refine kD ?_ | refine kA ?_ _)); refine blk_far ?_ NB999_1003.out _; (with_reducible repeat (first | refine kN ?_ _ | refine kD ?_ | refine kA ?_ _)); refine blk_far ?_ NB999_1006.out _; (with_reducible repeat (first | refine kN ?_ _ | refine kD ?_ | refine kA ?_ _)); refine blk_far ?_ NB999_1006.out _; (with_reducible repeat (first | refine kN ?_ _ | refine kD ?_ | refine kA ?_ _)); exact BK999.out⟩, ⟨by (with_reducible repeat (first | refine kN ?_ _ | refine kD ?_ | refine kA ?_ _)); refine blk_far ?_ NB1000_1004.out _; (with_reducible repeat (first | refine kN ?_ _ | refine kD ?_ | refine kA ?_ _)); refine blk_far ?_ NB1000_1004.out _; (with_reducible repeat (first | refine kN ?_ _ | refine kD ?_ | refine kA ?_ _)); refine blk_far ?_ NB1000_1003.out _; (with_reducible repeat (first | refine kN ?_ _ | refine kD ?_ | refine kA ?_ _)); refine blk_far ?_ NB1000_1003.out _; (with_reducible repeat (first | refine kN ?_ _ | refine kD ?_ | refine kA ?_ _)); refine blk_far ?_ NB1000_1006.out _; (with_reducible repeat (first | refine kN ?_ _ | refine kD ?_ | refine kA ?_ _)); refine blk_far ?_ NB1000_1006.out _; (with_reducible repeat (first | refine kN ?_ _ | refine kD ?_ | refine kA ?_ _)); exact BK1000.out⟩, ⟨by (with_reducible repeat (first | refine kN ?_ _ | refine kD ?_ | refine kA ?_ _)); refine blk_far ?_ NB1003_1004.out _; (with_reducible repeat (first | refine kN ?_ _ | refine kD ?_ | refine kA ?_ _)); refine blk_far ?_ NB1003_1004.out _; (with_reducible repeat (first | refine kN ?_ _ | refine kD ?_ | refine kA ?_ _)); refine blk_put (cs := #[.int .i64 ji16, .int .i64 x1004001_1]) ?_ 1 _ rfl; (with_reducible repeat (first | refine kN ?_ _ | refine kD ?_ | refine kA ?_ _)); refine blk_put (cs := #[.int .i64 x1004000_1, .int .i64 x1004001_1]) ?_ 0 _ rfl; (with_reducible repeat (first | refine kN ?_ _ | refine kD ?_ | refine kA ?_ _)); refine blk_far ?_ NB1003_1006.out _; (with_reducible repeat (first | refine kN ?_ _ | refine kD ?_ | refine kA ?_ _)); refine blk_far ?_ NB1003_1006.out _; (with_reducible repeat (first | refine kN ?_ _ | refine kD ?_ | refine kA ?_ _)); exact BK1003.out⟩, ⟨by (with_reducible repeat (first | refine kN ?_ _ | refine kD ?_ | refine kA ?_ _)); refine blk_put (cs := #[.int .i64 ji18, .int .i64 x1005001_1]) ?_ 1 _ rfl; (with_reducible repeat (first | refine kN ?_ _ | refine kD ?_ | refine kA ?_ _)); refine blk_put (cs := #[.int .i64 x1005000_1, .int .i64 x1005001_1]) ?_ 0 _ rfl; (with_reducible repeat (first | refine kN ?_ _ | refine kD ?_ | refine kA ?_ _)); refine blk_far ?_ NB1004_1003.out _; (with_reducible repeat (first | refine kN ?_ _ | refine kD ?_ | refine kA ?_ _)); refine blk_far ?_ NB1004_1003.out _; (with_reducible repeat (first | refine kN ?_ _ | refine kD ?_ | refine kA ?_ _)); refine blk_far ?_ NB1004_1006.out _; (with_reducible repeat (first | refine kN ?_ _ | refine kD ?_ | refine kA ?_ _)); refine blk_far ?_ NB1004_1006.out _; (with_reducible repeat (first | refine kN ?_ _ | refine kD ?_ | refine kA ?_ _)); exact BK1004.out⟩, ⟨by repeat (first | (with_reducible first | exact HB.out | apply pA | apply pN | apply pD | refine pS ?_ GE999.out | refine pS ?_ GE1000.out | refine pS ?_ GE1003.out | refine pS ?_ GE1004.out | refine pS ?_ GE1006.out) | exact HB.out)⟩⟩
      ·rw [if_neg c15] at H
       exact absurd H (by simp)
     ·rw [if_neg c14] at H
      exact absurd H (by simp)
    ·rw [if_neg c13] at H
     have c13b0 : decide (x16_1 < (l0.length : Int)) = false := decide_eq_false c13
     clear c13
     simp only [Option.some.injEq, Prod.mk.injEq] at H
     obtain ⟨rfl, rfl, rfl, rfl⟩ := H
     try go_wp2
     have n0_ := aM (kD BK999.out)
     have n1_ := aM (kD BK1000.out)
     have n2_ := aM (kD BK1003.out)
     have n3_ := aM (kD BK1004.out)
     have n4_ := aM (pD HB.out)
     clear BK999
     clear BK1000
     clear BK1003
     clear BK1004
     clear HB
     have BK999 := n0_
     have BK1000 := n1_
     have BK1003 := n2_
     have BK1004 := n3_
     have HB := n4_
     clear n0_ n1_ n2_ n3_ n4_
     refine start_ (n := 4) (S := fun w' => w'.cell? ⟨gb1003, 0, none⟩ = some (.int .i64 x1004000_1) ∧ w'.cell? ⟨gb1003, 1, none⟩ = some (.int .i64 x1004001_1) ∧ w'.cell? ⟨gb1004, 0, none⟩ = some (.int .i64 x1005000_1) ∧ w'.cell? ⟨gb1004, 1, none⟩ = some (.int .i64 x1005001_1)) (ds := []) #[false, false, false, false] kR rfl rfl ⟨(kC BK1003.out 0).trans rfl, (kC BK1003.out 1).trans rfl, (kC BK1004.out 0).trans rfl, (kC BK1004.out 1).trans rfl⟩ (fun hHeld => ?_)
     generalize wr.drew = w33 at BK999 BK1000 BK1003 BK1004 HB hHeld ⊢
     refine take_ (i := 0) (N := some 43) (v := ?_) (a' := ?_) #[true, false, false, false] rfl rfl kR (fun _ _ _ h => h) (Or.inl ⟨by rfl, ?_⟩) hHeld ?_ ?_
     rotate_left
     ·rintro w' ⟨s0, s1, s2, s3⟩
      go_simp
      with_reducible rfl
     rotate_left
     ·simp only [Act.put, sI, sZ, sS, i64_w, i32_w]
      rfl
     refine take_ (i := 1) (N := some 44) (v := ?_) (a' := ?_) #[true, true, false, false] rfl rfl kR (fun _ _ _ h => h) (Or.inl ⟨by rfl, ?_⟩) hHeld ?_ ?_
     rotate_left
     ·rintro w' ⟨s0, s1, s2, s3⟩
      go_simp
      with_reducible rfl
     rotate_left
     ·simp only [Act.put, sI, sZ, sS, i64_w, i32_w]
      rfl
     refine one_ (i := 2) (N := none) #[true, true, true, false] rfl rfl kR (by decide) (fun K hK => ?_)
     have hs34 : w33.cell? ⟨gb999, 0, none⟩ = some (.int .i64 0) := (kC BK999.out 0).trans rfl
     have hfs34 := kF BK999.out 0
     have hns34_1 := NB1000_999.out
     have hns34_2 := NB1003_999.out
     have hns34_3 := NB1004_999.out
     have hms34_1 := NB999_1000.out
     have hms34_2 := NB999_1003.out
     have hms34_3 := NB999_1004.out
     have hs35 : w33.cell? ⟨gb999, 1, none⟩ = some (.int .i64 0) := (kC BK999.out 1).trans rfl
     have hfs35 := kF BK999.out 1
     have hns35_1 := NB1000_999.out
     have hns35_2 := NB1003_999.out
     have hns35_3 := NB1004_999.out
     have hms35_1 := NB999_1000.out
     have hms35_2 := NB999_1003.out
     have hms35_3 := NB999_1004.out
     refine skip_ (w1 := ?_) (by rfl) rfl ?_ ?_
     rotate_left
     ·go_simp
      rfl
     refine hK.out _ _ ⟨((cell_far (p := ⟨gb999, _, none⟩) NB1003_999.out _).trans (((cell_far (p := ⟨gb999, _, none⟩) NB1003_999.out _).trans (hHeld.1)))), ((cell_far (p := ⟨gb999, _, none⟩) NB1003_999.out _).trans (((cell_far (p := ⟨gb999, _, none⟩) NB1003_999.out _).trans (hHeld.2.1)))), ((cell_far (p := ⟨gb999, _, none⟩) NB1004_999.out _).trans (((cell_far (p := ⟨gb999, _, none⟩) NB1004_999.out _).trans (hHeld.2.2.1)))), ((cell_far (p := ⟨gb999, _, none⟩) NB1004_999.out _).trans (((cell_far (p := ⟨gb999, _, none⟩) NB1004_999.out _).trans (hHeld.2.2.2))))⟩ (fun hHeld => ?_)
     clear hK K
     refine one_ (i := 3) (N := none) #[true, true, true, true] rfl rfl kR (by decide) (fun K hK => ?_)
     have hs36 : w33.cell? ⟨gb1000, 0, none⟩ = some (.int .i64 0) := (kC BK1000.out 0).trans rfl
     have hfs36 := kF BK1000.out 0
     have hns36_0 := NB999_1000.out
     have hns36_2 := NB1003_1000.out
     have hns36_3 := NB1004_1000.out
     have hms36_0 := NB1000_999.out
     have hms36_2 := NB1000_1003.out
     have hms36_3 := NB1000_1004.out
     have hs37 : w33.cell? ⟨gb1000, 1, none⟩ = some (.int .i64 0) := (kC BK1000.out 1).trans rfl
     have hfs37 := kF BK1000.out 1
     have hns37_0 := NB999_1000.out
     have hns37_2 := NB1003_1000.out
     have hns37_3 := NB1004_1000.out
     have hms37_0 := NB1000_999.out
     have hms37_2 := NB1000_1003.out
     have hms37_3 := NB1000_1004.out
     refine skip_ (w1 := ?_) (by rfl) rfl ?_ ?_
     rotate_left
     ·go_simp
      rfl
     refine hK.out _ _ ⟨((cell_far (p := ⟨gb1000, _, none⟩) NB1003_1000.out _).trans (((cell_far (p := ⟨gb1000, _, none⟩) NB1003_1000.out _).trans (hHeld.1)))), ((cell_far (p := ⟨gb1000, _, none⟩) NB1003_1000.out _).trans (((cell_far (p := ⟨gb1000, _, none⟩) NB1003_1000.out _).trans (hHeld.2.1)))), ((cell_far (p := ⟨gb1000, _, none⟩) NB1004_1000.out _).trans (((cell_far (p := ⟨gb1000, _, none⟩) NB1004_1000.out _).trans (hHeld.2.2.1)))), ((cell_far (p := ⟨gb1000, _, none⟩) NB1004_1000.out _).trans (((cell_far (p := ⟨gb1000, _, none⟩) NB1004_1000.out _).trans (hHeld.2.2.2))))⟩ (fun hHeld => ?_)
     clear hK K
     refine done_ kR ?_
     try go_wp2
     refine bodyPost_ret (results_cc rfl _ _ gb999 gb1000 34 34 #[.int .i64 x1004000_1, .int .i64 x1004001_1] #[.int .i64 x1005000_1, .int .i64 x1005001_1] (0, 0) (0, 0) _ _ rfl (by (with_reducible repeat (first | refine kN ?_ _ | refine kD ?_ | refine kA ?_ _)); refine blk_far ?_ NB999_1000.out _; (with_reducible repeat (first | refine kN ?_ _ | refine kD ?_ | refine kA ?_ _)); refine blk_far ?_ NB999_1000.out _; (with_reducible repeat (first | refine kN ?_ _ | refine kD ?_ | refine kA ?_ _)); refine blk_put (cs := #[.int .i64 x1004000_1, .int .i64 0]) ?_ 1 _ rfl; (with_reducible repeat (first | refine kN ?_ _ | refine kD ?_ | refine kA ?_ _)); refine blk_put (cs := #[.int .i64 0, .int .i64 0]) ?_ 0 _ rfl; (with_reducible repeat (first | refine kN ?_ _ | refine kD ?_ | refine kA ?_ _)); exact BK999.out) Try.underlying34 rfl kR rfl (by (with_reducible repeat (first | refine kN ?_ _ | refine kD ?_ | refine kA ?_ _)); refine blk_put (cs := #[.int .i64 x1005000_1, .int .i64 0]) ?_ 1 _ rfl; (with_reducible repeat (first | refine kN ?_ _ | refine kD ?_ | refine kA ?_ _)); refine blk_put (cs := #[.int .i64 0, .int .i64 0]) ?_ 0 _ rfl; (with_reducible repeat (first | refine kN ?_ _ | refine kD ?_ | refine kA ?_ _)); refine blk_far ?_ NB1000_999.out _; (with_reducible repeat (first | refine kN ?_ _ | refine kD ?_ | refine kA ?_ _)); refine blk_far ?_ NB1000_999.out _; (with_reducible repeat (first | refine kN ?_ _ | refine kD ?_ | refine kA ?_ _)); exact BK1000.out) Try.underlying34 rfl kR) rfl ?_
     exact ⟨by first | rfl | (simp [errW_none, errW_some] <;> rfl) | (simp [*, errW_none, errW_some] <;> rfl), by repeat (first | (with_reducible first | exact HB.out | apply pA | apply pN | apply pD | refine pS ?_ GE999.out | refine pS ?_ GE1000.out | refine pS ?_ GE1003.out | refine pS ?_ GE1004.out) | exact HB.out)⟩
 ·rw [if_neg c2] at H
  exact absurd H (by simp)

end Go.Proofs.Ytiacfkilmknldaa.X
