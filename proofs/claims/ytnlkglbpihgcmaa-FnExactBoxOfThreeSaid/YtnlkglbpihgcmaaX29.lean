-- thin
-- short
import Derived.Test.YtnlkglbpihgcmaaXA
import Derived.Test.YtnlkglbpihgcmaaX0
import Derived.Test.YtnlkglbpihgcmaaX13
import Derived.Test.YtnlkglbpihgcmaaX22
import Derived.Test.YtnlkglbpihgcmaaX28
namespace Go.Proofs.Ytnlkglbpihgcmaa.X
open Go.RowKit Go.Proofs.Ytnlkglbpihgcmaa.XW Go.Proofs.YtnlkglbpihgcmaaW.PrintWords Go.Proofs.YtnlkglbpihgcmaaW.PrintLast Go.Proofs.YtnlkglbpihgcmaaW.PrintMore
attribute [local go_sem] max2_int min2_int max_two min_two max_three min_three max_four min_four   -- for this text's walks alone
set_option linter.unusedVariables false
set_option linter.unusedSimpArgs false

def spec_BoxOfThree.l0 : Nat → List (S_impl_Peg) → Int → Int → Int → Int → Int → Int → Option (Int × Int × Int × Int × Bool)
 | 0, _, _, _, _, _, _, _ => none
 | k + 1, x20, x21, x22, x536000, x536001, x537000, x537001 => if x22 < x21 then (if 0 ≤ x22 then (if x22 < (x20.length : Int) then ((spec_l1Least.f x536000 ((rd_impl_Peg x20 x22).f0)).bind fun t539 => ((spec_l1Least.f x536001 ((rd_impl_Peg x20 x22).f1)).bind fun t540 => ((spec_l1Most.f x537000 ((rd_impl_Peg x20 x22).f0)).bind fun t541 => ((spec_l1Most.f x537001 ((rd_impl_Peg x20 x22).f1)).bind fun t542 => (spec_BoxOfThree.l0 k x20 x21 (wrap64 (x22 + 1)) t539 t540 t541 t542))))) else (none)) else (none)) else (some (x536000, x536001, x537000, x537001, true))
def spec_BoxOfThree.f (k : Nat) (l0 : List (S_impl_Peg)) : Option (Int × Int × Int × Int × Bool) := (spec_trThree.f k l0).bind fun t532 => (if t532 = true then (if 0 < (l0.length : Int) then (spec_BoxOfThree.l0 k l0 (l0.length : Int) 0 ((rd_impl_Peg l0 0).f0) ((rd_impl_Peg l0 0).f1) ((rd_impl_Peg l0 0).f0) ((rd_impl_Peg l0 0).f1)) else (none)) else (some (0, 0, 0, 0, false)))
theorem spec_BoxOfThree.mono_l : ∀ k, (∀ y0 y1 y2 y3 y4 y5 y6, LeO (spec_BoxOfThree.l0 k y0 y1 y2 y3 y4 y5 y6) (spec_BoxOfThree.l0 (k + 1) y0 y1 y2 y3 y4 y5 y6))
 | 0 => fun _ _ _ _ _ _ _ r h => by simp [spec_BoxOfThree.l0] at h
 | k + 1 => by
  have ih0 := spec_BoxOfThree.mono_l k
  ·intro y0 y1 y2 y3 y4 y5 y6
   unfold spec_BoxOfThree.l0
   repeat' first
   | (with_reducible exact ih0 _ _ _ _ _ _ _)
   | (with_reducible exact spec_trThree.mono _ _)
   | (with_reducible exact LeO.refl _)
   | (with_reducible exact LeO.none _)
   | (with_reducible refine LeO.ite ?_ ?_)
   | (with_reducible refine LeO.bind ?_ (fun _ => ?_))
   | exact ih0 _ _ _ _ _ _ _
   | exact spec_trThree.mono _ _
   | exact LeO.none _
   | refine LeO.ite ?_ ?_
   | refine LeO.bind ?_ (fun _ => ?_)
theorem spec_BoxOfThree.mono : ∀ a0 k, LeO (spec_BoxOfThree.f k a0) (spec_BoxOfThree.f (k + 1) a0) := by
 intro a0 k
 have ih0 := spec_BoxOfThree.mono_l k
 unfold spec_BoxOfThree.f
 repeat' first
   | (with_reducible exact ih0 _ _ _ _ _ _ _)
   | (with_reducible exact spec_trThree.mono _ _)
   | (with_reducible exact LeO.refl _)
   | (with_reducible exact LeO.none _)
   | (with_reducible refine LeO.ite ?_ ?_)
   | (with_reducible refine LeO.bind ?_ (fun _ => ?_))
   | exact ih0 _ _ _ _ _ _ _
   | exact spec_trThree.mono _ _
   | exact LeO.none _
   | refine LeO.ite ?_ ?_
   | refine LeO.bind ?_ (fun _ => ?_)
def spec_BoxOfThree.T3 : Bool × List (List Nat × List Nat) := (true, [([], []), ([0], [0]), ([1], [1]), ([], []), ([3], [3]), ([4], [4]), ([], []), ([], []), ([6, 2, 0, 1, 2, 6, 7], [2, 6]), ([7, 5, 8, 0, 1, 2, 3, 4, 5, 6, 7, 8], [5, 7])])
def spec_BoxOfThree.B3 : List Nat := [0, 1, 3, 0, 8, 24, 0, 0, 199, 511]
theorem spec_BoxOfThree.tab3 : rtab .any (opsOf Try.f47 3) = spec_BoxOfThree.T3 := by kernel_rfl
theorem spec_BoxOfThree.bits3 : waitsOk spec_BoxOfThree.T3.2 spec_BoxOfThree.B3 = true := by kernel_rfl
def spec_BoxOfThree.T7 : Bool × List (List Nat × List Nat) := (true, [([], []), ([0], [0]), ([], []), ([2], [2]), ([1, 3], [1, 3]), ([], []), ([5], [5]), ([], []), ([7], [7]), ([6, 8, 4], [6, 8]), ([4, 9], [4, 9]), ([10, 9, 0, 1, 2, 3, 4, 5, 6, 7, 8, 9, 10], [10])])
def spec_BoxOfThree.B7 : List Nat := [0, 1, 0, 4, 15, 0, 32, 0, 128, 511, 1023, 2047]
theorem spec_BoxOfThree.tab7 : rtab .any (opsOf Try.f47 7) = spec_BoxOfThree.T7 := by kernel_rfl
theorem spec_BoxOfThree.bits7 : waitsOk spec_BoxOfThree.T7.2 spec_BoxOfThree.B7 = true := by kernel_rfl
def spec_BoxOfThree.T8 : Bool × List (List Nat × List Nat) := (true, [([], []), ([0], [0]), ([], []), ([2], [2]), ([1, 3], [1, 3]), ([], []), ([5], [5]), ([], []), ([7], [7]), ([6, 8, 4], [6, 8]), ([4, 9], [4, 9]), ([10, 9, 0, 1, 2, 3, 4, 5, 6, 7, 8, 9, 10], [10])])
def spec_BoxOfThree.B8 : List Nat := [0, 1, 0, 4, 15, 0, 32, 0, 128, 511, 1023, 2047]
theorem spec_BoxOfThree.tab8 : rtab .any (opsOf Try.f47 8) = spec_BoxOfThree.T8 := by kernel_rfl
theorem spec_BoxOfThree.bits8 : waitsOk spec_BoxOfThree.T8.2 spec_BoxOfThree.B8 = true := by kernel_rfl
set_option maxHeartbeats 8000000 in
set_option maxRecDepth 100000 in
theorem spec_BoxOfThree.calls (k : Nat) (A0 : Option Addr) (c0 : Nat) (l0 : List (S_impl_Peg)) (r1 : Int) (r2 : Int) (r3 : Int) (r4 : Int) (r5 : Bool) (w : World) (hr0 : Kd.C kd_impl_Peg w A0 l0.length l0) (hc0 : l0.length ≤ c0) (h : spec_BoxOfThree.f k l0 = some (r1, r2, r3, r4, r5)) :
  Calls Try.prog 47 #[.slice A0 l0.length c0] w fun e w' => e = .returned (.tuple #[.agg #[.int .i64 r1, .int .i64 r2], .agg #[.int .i64 r3, .int .i64 r4], .bool r5]) ∧ Below w.heap.size w w' := by
 have hu62 := Try.underlying62
 have HR0 := aM hr0
 have HC0 := aM hc0
 clear hr0 hc0
 have HB := aM (Below.refl w.heap.size w)
 have H : ((spec_trThree.f k l0).bind fun t532 => (if t532 = true then (if 0 < (l0.length : Int) then (spec_BoxOfThree.l0 k l0 (l0.length : Int) 0 ((rd_impl_Peg l0 0).f0) ((rd_impl_Peg l0 0).f1) ((rd_impl_Peg l0 0).f0) ((rd_impl_Peg l0 0).f1)) else (none)) else (some (0, 0, 0, 0, false)))) = some (r1, r2, r3, r4, r5) := h
 clear h
 replace H := oB.mp H
 obtain ⟨t532, A20, H⟩ := H
 replace H : (if t532 = true then (if 0 < (l0.length : Int) then (spec_BoxOfThree.l0 k l0 (l0.length : Int) 0 ((rd_impl_Peg l0 0).f0) ((rd_impl_Peg l0 0).f1) ((rd_impl_Peg l0 0).f0) ((rd_impl_Peg l0 0).f1)) else (none)) else (some (0, 0, 0, 0, false))) = some (r1, r2, r3, r4, r5) := H
 have A2 := aM A20
 clear A20
 by_cases c3 : t532 = true
 ·subst c3
  have H1 : (if 0 < (l0.length : Int) then (spec_BoxOfThree.l0 k l0 (l0.length : Int) 0 ((rd_impl_Peg l0 0).f0) ((rd_impl_Peg l0 0).f1) ((rd_impl_Peg l0 0).f0) ((rd_impl_Peg l0 0).f1)) else (none)) = some (r1, r2, r3, r4, r5) := by rw [if_pos rfl] at H; exact H
  clear H
  have H := H1
  clear H1
  by_cases c4 : 0 < (l0.length : Int)
  ·rw [if_pos c4] at H
   have c4b0 : decide (0 < (l0.length : Int)) = true := dE c4
   have c4b1 : decide (0 < l0.length) = true := dE (by omega)
   clear c4
   have H' := aM H
   clear H
   go_enter Try.func47, Try.ntmps47
   try go_wp2_with (first | ((with_reducible refine gate_dst (N := 2) rfl ?_); refine box_event ?hg (N := 2) ?hd (cs := #[.int .i64 0, .int .i64 0]) (t := 62) ?hr ?_; (case hd => rfl); (case hg => rfl); (case hr => first | (go_simp; done) | (go_simp; rfl)); intro gb530 hg w5 hbox hb; have n0_ := aM (pT (by repeat (first | (with_reducible first | exact HB.out | apply pA | apply pN | apply pD) | exact HB.out)) hb); have n1_ := aM (hbox); have n2_ := aM ((by rw [hg]; exact (pZ (by repeat (first | (with_reducible first | exact HB.out | apply pA | apply pN | apply pD) | exact HB.out))) : w.heap.size ≤ gb530)); have n3_ := aM ((by rw [hg]; exact (pZ (by repeat (first | (with_reducible first | exact HB.out | apply pA | apply pN | apply pD) | exact HB.out))) : w.heap.size ≤ gb530)); clear HB; have HB := n0_; have BK530 := n1_; have GW530 := n2_; have GE530 := n3_; clear n0_ n1_ n2_ n3_; clear hb hbox hg) | ((with_reducible refine gate_dst (N := 3) rfl ?_); refine box_event ?hg (N := 3) ?hd (cs := #[.int .i64 0, .int .i64 0]) (t := 62) ?hr ?_; (case hd => rfl); (case hg => rfl); (case hr => first | (go_simp; done) | (go_simp; rfl)); intro gb531 hg w6 hbox hb; have n0_ := aM (blk_below (g := gb530) (o := .cells #[.int .i64 0, .int .i64 0] 62 (0, 0)) (by (with_reducible repeat (first | refine kN ?_ _ | refine kD ?_ | refine kA ?_ _)); exact BK530.out) hb); have n1_ := aM (pT (by repeat (first | (with_reducible first | exact HB.out | apply pA | apply pN | apply pD | refine pS ?_ GE530.out) | exact HB.out)) hb); have n2_ := aM (hbox); have n3_ := aM ((by rw [hg]; exact (pZ (by repeat (first | (with_reducible first | exact HB.out | apply pA | apply pN | apply pD | refine pS ?_ GE530.out) | exact HB.out))) : w.heap.size ≤ gb531)); have n4_ := aM ((by rw [hg]; exact (pZ (by repeat (first | (with_reducible first | exact HB.out | apply pA | apply pN | apply pD | refine pS ?_ GE530.out) | exact HB.out))) : w.heap.size ≤ gb531)); have n5_ := aM ((by rw [hg]; exact nN (blk_lt (g := gb530) (o := .cells #[.int .i64 0, .int .i64 0] 62 (0, 0)) (by (with_reducible repeat (first | refine kN ?_ _ | refine kD ?_ | refine kA ?_ _)); exact BK530.out)) : gb530 ≠ gb531)); have n6_ := aM ((by rw [hg]; exact Nat.ne_of_gt (blk_lt (g := gb530) (o := .cells #[.int .i64 0, .int .i64 0] 62 (0, 0)) (by (with_reducible repeat (first | refine kN ?_ _ | refine kD ?_ | refine kA ?_ _)); exact BK530.out)) : gb531 ≠ gb530)); clear BK530; clear HB; have BK530 := n0_; have HB := n1_; have BK531 := n2_; have GW531 := n3_; have GE531 := n4_; have NB530_531 := n5_; have NB531_530 := n6_; clear n0_ n1_ n2_ n3_ n4_ n5_ n6_; clear hb hbox hg) | ((with_reducible refine gC (f := 63) rfl ?_); refine goesL_ (some 10) rfl rfl Try.func63 (by kernel_rfl) rfl #[.slice A0 l0.length c0] rfl (by (try simp only [mA, mC, mN]); first | done | rfl | (simp only [lD, lT]; rfl)) ?_; (with_reducible refine (spec_trThree.calls k _ _ l0 true _ ?side1 ?side2 A2.out).mono ?_); (case side1 => repeat (first | exact (Kd.C_below HR0.out HB.out) | (with_reducible refine cA ?_ _) | (with_reducible refine cN ?_ _) | (with_reducible refine cD ?_))); (case side2 => exact HC0.out); rintro e w7 ⟨rfl, hb⟩; refine ⟨_, rfl, ?_⟩; have n0_ := aM (blk_below (g := gb530) (o := .cells #[.int .i64 0, .int .i64 0] 62 (0, 0)) (by (with_reducible repeat (first | refine kN ?_ _ | refine kD ?_ | refine kA ?_ _)); exact BK530.out) hb); have n1_ := aM (blk_below (g := gb531) (o := .cells #[.int .i64 0, .int .i64 0] 62 (0, 0)) (by (with_reducible repeat (first | refine kN ?_ _ | refine kD ?_ | refine kA ?_ _)); exact BK531.out) hb); have n2_ := aM (pT (by repeat (first | (with_reducible first | exact HB.out | apply pA | apply pN | apply pD | refine pS ?_ GE530.out | refine pS ?_ GE531.out) | exact HB.out)) hb); clear BK530; clear BK531; clear HB; have BK530 := n0_; have BK531 := n1_; have HB := n2_; clear n0_ n1_ n2_; (try clear hb); (try clear hb2); (try clear hk); (try clear hi)))
   have n0_ := aM (kD BK530.out)
   have n1_ := aM (kD BK531.out)
   have n2_ := aM (pD HB.out)
   clear BK530
   clear BK531
   clear HB
   have BK530 := n0_
   have BK531 := n1_
   have HB := n2_
   clear n0_ n1_ n2_
   have p533 : 0 ≤ (0 : Int) := (by omega)
   have q533 : 0 < (l0.length : Int) := dT (by first | (with_reducible assumption) | assumption)
   obtain ⟨ad533, e533, hx533_0, hx533_1⟩ := at_impl_Peg HR0.out 0 p533 q533
   have hw533_1 := hx533_1
   (try rw [show ((0 : Int)).toNat = 0 from rfl] at hw533_1)
   (try rw [show 0 * 2 = 0 from rfl] at hw533_1)
   (try rw [Addr.add_zero'] at hw533_1)
   have hw533_0 := hx533_0
   (try rw [show ((0 : Int)).toNat = 0 from rfl] at hw533_0)
   (try rw [show 0 * 2 = 0 from rfl] at hw533_0)
   (try rw [Addr.add_zero'] at hw533_0)
   cases e533
   have qi533 : (0 < l0.length) = True := eq_true (by omega)
   (try rw [show ((0 : Int)).toNat = 0 from rfl] at hx533_0)
   (try rw [show 0 * 2 = 0 from rfl] at hx533_0)
   (try rw [Addr.add_zero'] at hx533_0)
   (try rw [show ((0 : Int)).toNat = 0 from rfl] at hx533_1)
   (try rw [show 0 * 2 = 0 from rfl] at hx533_1)
   (try rw [Addr.add_zero'] at hx533_1)
   replace hx533_0 := (HB.out.cell (wB w _ hx533_0)).trans hx533_0
   replace hx533_1 := (HB.out.cell (wB w _ hx533_1)).trans hx533_1
   replace p533 := eq_true p533
   replace q533 := eq_true q533
   have p534 : 0 ≤ (0 : Int) := (by omega)
   have q534 : 0 < (l0.length : Int) := dT (by first | (with_reducible assumption) | assumption)
   obtain ⟨ad534, e534, hx534_0, hx534_1⟩ := at_impl_Peg HR0.out 0 p534 q534
   have hw534_1 := hx534_1
   (try rw [show ((0 : Int)).toNat = 0 from rfl] at hw534_1)
   (try rw [show 0 * 2 = 0 from rfl] at hw534_1)
   (try rw [Addr.add_zero'] at hw534_1)
   have hw534_0 := hx534_0
   (try rw [show ((0 : Int)).toNat = 0 from rfl] at hw534_0)
   (try rw [show 0 * 2 = 0 from rfl] at hw534_0)
   (try rw [Addr.add_zero'] at hw534_0)
   obtain rfl : ad533 = ad534 := (by injection e534)
   have qi534 : (0 < l0.length) = True := eq_true (by omega)
   (try rw [show ((0 : Int)).toNat = 0 from rfl] at hx534_0)
   (try rw [show 0 * 2 = 0 from rfl] at hx534_0)
   (try rw [Addr.add_zero'] at hx534_0)
   (try rw [show ((0 : Int)).toNat = 0 from rfl] at hx534_1)
   (try rw [show 0 * 2 = 0 from rfl] at hx534_1)
   (try rw [Addr.add_zero'] at hx534_1)
   replace hx534_0 := (HB.out.cell (wB w _ hx534_0)).trans hx534_0
   replace hx534_1 := (HB.out.cell (wB w _ hx534_1)).trans hx534_1
   replace p534 := eq_true p534
   replace q534 := eq_true q534
   refine start_ (n := 10) (S := fun w' => w'.cell? ad533 = some (.int .i64 ((rd_impl_Peg l0 0).f0)) ∧ w'.cell? ⟨ad533.block, ad533.off + 1, none⟩ = some (.int .i64 ((rd_impl_Peg l0 0).f1)) ∧ w'.cell? ad533 = some (.int .i64 ((rd_impl_Peg l0 0).f0)) ∧ w'.cell? ⟨ad533.block, ad533.off + 1, none⟩ = some (.int .i64 ((rd_impl_Peg l0 0).f1))) (ds := []) #[false, false, false, false, false, false, false, false, false, false] (by kernel_rfl) rfl rfl ⟨((HB.out.cell (wB w _ hw533_0)).trans hw533_0), ((HB.out.cell (wB w _ hw533_1)).trans hw533_1), ((HB.out.cell (wB w _ hw534_0)).trans hw534_0), ((HB.out.cell (wB w _ hw534_1)).trans hw534_1)⟩ (fun hHeld => ?_); refine with_tabW spec_BoxOfThree.tab3 spec_BoxOfThree.bits3 (fun HT_ HW_ => ?_)
   generalize w7.drew = w8 at BK530 BK531 HB hx533_0 hx533_1 hx534_0 hx534_1 hHeld ⊢
   refine pure_ (i := 0) (N := some 14) (v := ?_) (a' := ?_) #[true, false, false, false, false, false, false, false, false, false] rfl rfl (any_of HT_.out (by kernel_rfl)) (fun _ _ _ h => h) (Or.inl ⟨by rfl, ?_⟩) ?_ ?_
   rotate_left
   ·intro w'
    go_simp
    with_reducible rfl
   rotate_left
   ·simp only [Act.put, sI, sZ, sS, i64_w, i32_w]
    rfl
   refine pure_ (i := 1) (N := some 15) (v := ?_) (a' := ?_) #[true, true, false, false, false, false, false, false, false, false] rfl rfl (any_of HT_.out (by kernel_rfl)) (fun _ _ _ h => h) (Or.inl ⟨by rfl, ?_⟩) ?_ ?_
   rotate_left
   ·intro w'
    go_simp
    with_reducible rfl
   rotate_left
   ·simp only [Act.put, sI, sZ, sS, i64_w, i32_w]
    rfl
   refine pure_ (i := 3) (N := some 17) (v := ?_) (a' := ?_) #[true, true, false, true, false, false, false, false, false, false] rfl rfl (any_of HT_.out (by kernel_rfl)) (fun _ _ _ h => h) (Or.inl ⟨by rfl, ?_⟩) ?_ ?_
   rotate_left
   ·intro w'
    go_simp
    with_reducible rfl
   rotate_left
   ·simp only [Act.put, sI, sZ, sS, i64_w, i32_w]
    rfl
   refine pure_ (i := 4) (N := some 18) (v := ?_) (a' := ?_) #[true, true, false, true, true, false, false, false, false, false] rfl rfl (any_of HT_.out (by kernel_rfl)) (fun _ _ _ h => h) (Or.inl ⟨by rfl, ?_⟩) ?_ ?_
   rotate_left
   ·intro w'
    go_simp
    with_reducible rfl
   rotate_left
   ·simp only [Act.put, sI, sZ, sS, i64_w, i32_w]
    rfl
   refine take_ (i := 2) (N := some 16) (v := ?_) (a' := ?_) #[true, true, true, true, true, false, false, false, false, false] rfl rfl (take_ofW HT_.out HW_.out (by kernel_rfl)) (fun _ _ _ h => h) (Or.inl ⟨by rfl, ?_⟩) hHeld ?_ ?_
   rotate_left
   ·rintro w' ⟨s0, s1, s2, s3⟩
    go_simp
    with_reducible rfl
   rotate_left
   ·simp only [Act.put, sI, sZ, sS, i64_w, i32_w]
    rfl
   refine take_ (i := 5) (N := some 19) (v := ?_) (a' := ?_) #[true, true, true, true, true, true, false, false, false, false] rfl rfl (take_ofW HT_.out HW_.out (by kernel_rfl)) (fun _ _ _ h => h) (Or.inl ⟨by rfl, ?_⟩) hHeld ?_ ?_
   rotate_left
   ·rintro w' ⟨s0, s1, s2, s3⟩
    go_simp
    with_reducible rfl
   rotate_left
   ·simp only [Act.put, sI, sZ, sS, i64_w, i32_w]
    rfl
   refine join_ (σ := Nat × Nat) 2 #[true, true, true, true, true, true, true, true, false, false] (fun s_ => [(5, .pointer (some ⟨s_.1, 0, none⟩)), (6, .pointer (some ⟨s_.2, 0, none⟩))]) (fun s_ w' => (w'.cell? ad533 = some (.int .i64 ((rd_impl_Peg l0 0).f0)) ∧ w'.cell? ⟨ad533.block, ad533.off + 1, none⟩ = some (.int .i64 ((rd_impl_Peg l0 0).f1)) ∧ w'.cell? ad533 = some (.int .i64 ((rd_impl_Peg l0 0).f0)) ∧ w'.cell? ⟨ad533.block, ad533.off + 1, none⟩ = some (.int .i64 ((rd_impl_Peg l0 0).f1))) ∧ (w'.heap[gb530]? = some (.cells #[.int .i64 0, .int .i64 0] 62 (0, 0))) ∧ (w'.heap[gb531]? = some (.cells #[.int .i64 0, .int .i64 0] 62 (0, 0))) ∧ (w'.heap[s_.1]? = some (.cells #[.int .i64 0, .int .i64 0] 62 (0, 0))) ∧ (w'.heap[s_.2]? = some (.cells #[.int .i64 0, .int .i64 0] 62 (0, 0))) ∧ (w.heap.size ≤ s_.1) ∧ (w.heap.size ≤ s_.1) ∧ (gb530 ≠ s_.1) ∧ (s_.1 ≠ gb530) ∧ (gb531 ≠ s_.1) ∧ (s_.1 ≠ gb531) ∧ (s_.2 ≠ s_.1) ∧ (s_.1 ≠ s_.2) ∧ (w.heap.size ≤ s_.2) ∧ (w.heap.size ≤ s_.2) ∧ (gb530 ≠ s_.2) ∧ (s_.2 ≠ gb530) ∧ (gb531 ≠ s_.2) ∧ (s_.2 ≠ gb531) ∧ (Below w.heap.size w w')) ?_ ?_
   rotate_left
   ·intro hCont
    refine two_ (i := 6) (j := 7) (Ni := some 5) (Nj := some 6) #[true, true, true, true, true, true, true, false, false, false] #[true, true, true, true, true, true, false, true, false, false] rfl rfl rfl rfl (two_of HT_.out (by kernel_rfl)) (by decide) (by decide) (fun K hK => ?_) (fun K hK => ?_)
    ·skip
     refine box_step ?hg (N := 5) ?hd (cs := #[.int .i64 0, .int .i64 0]) (t := 62) ?hr ?_; (case hd => rfl); (case hg => rfl); (case hr => first | (go_simp; done) | (go_simp; rfl))
     intro gb535 hg w9 hbox hb
     have n0_ := aM (blk_below (g := gb530) (o := .cells #[.int .i64 0, .int .i64 0] 62 (0, 0)) (by (with_reducible repeat (first | refine kN ?_ _ | refine kD ?_ | refine kA ?_ _)); exact BK530.out) hb)
     have n1_ := aM (blk_below (g := gb531) (o := .cells #[.int .i64 0, .int .i64 0] 62 (0, 0)) (by (with_reducible repeat (first | refine kN ?_ _ | refine kD ?_ | refine kA ?_ _)); exact BK531.out) hb)
     have n2_ := aM (pT (by repeat (first | (with_reducible first | exact HB.out | apply pA | apply pN | apply pD | refine pS ?_ GE530.out | refine pS ?_ GE531.out) | exact HB.out)) hb)
     have n3_ := aM (hbox)
     have n4_ := aM ((by rw [hg]; exact (pZ (by repeat (first | (with_reducible first | exact HB.out | apply pA | apply pN | apply pD | refine pS ?_ GE530.out | refine pS ?_ GE531.out) | exact HB.out))) : w.heap.size ≤ gb535))
     have n5_ := aM ((by rw [hg]; exact (pZ (by repeat (first | (with_reducible first | exact HB.out | apply pA | apply pN | apply pD | refine pS ?_ GE530.out | refine pS ?_ GE531.out) | exact HB.out))) : w.heap.size ≤ gb535))
     have n6_ := aM ((by rw [hg]; exact nN (blk_lt (g := gb530) (o := .cells #[.int .i64 0, .int .i64 0] 62 (0, 0)) (by (with_reducible repeat (first | refine kN ?_ _ | refine kD ?_ | refine kA ?_ _)); exact BK530.out)) : gb530 ≠ gb535))
     have n7_ := aM ((by rw [hg]; exact Nat.ne_of_gt (blk_lt (g := gb530) (o := .cells #[.int .i64 0, .int .i64 0] 62 (0, 0)) (by (with_reducible repeat (first | refine kN ?_ _ | refine kD ?_ | refine kA ?_ _)); exact BK530.out)) : gb535 ≠ gb530))
     have n8_ := aM ((by rw [hg]; exact nN (blk_lt (g := gb531) (o := .cells #[.int .i64 0, .int .i64 0] 62 (0, 0)) (by (with_reducible repeat (first | refine kN ?_ _ | refine kD ?_ | refine kA ?_ _)); exact BK531.out)) : gb531 ≠ gb535))
     have n9_ := aM ((by rw [hg]; exact Nat.ne_of_gt (blk_lt (g := gb531) (o := .cells #[.int .i64 0, .int .i64 0] 62 (0, 0)) (by (with_reducible repeat (first | refine kN ?_ _ | refine kD ?_ | refine kA ?_ _)); exact BK531.out)) : gb535 ≠ gb531))
     clear BK530
     clear BK531
     clear HB
     have BK530 := n0_
     have BK531 := n1_
     have HB := n2_
     have BK535 := n3_
     have GW535 := n4_
     have GE535 := n5_
     have NB530_535 := n6_
     have NB535_530 := n7_
     have NB531_535 := n8_
     have NB535_531 := n9_
     clear n0_ n1_ n2_ n3_ n4_ n5_ n6_ n7_ n8_ n9_
     clear hb hbox hg
     refine hK.out _ _ ⟨((HB.out.cell (wB w _ hw533_0)).trans hw533_0), ((HB.out.cell (wB w _ hw533_1)).trans hw533_1), ((HB.out.cell (wB w _ hw534_0)).trans hw534_0), ((HB.out.cell (wB w _ hw534_1)).trans hw534_1)⟩ (fun hHeld => ?_)
     clear hK K
     refine norm_ (a' := ?_) ?_ ?_
     rotate_left
     ·show Act.put _ (some 5) _ = _
      simp only [Act.put, sI, sZ, sS, i64_w, i32_w]
      rfl
     refine one_ (i := 7) (N := some 6) #[true, true, true, true, true, true, true, true, false, false] rfl rfl (one_of HT_.out (by kernel_rfl)) (by decide) (fun K hK => ?_)
     refine box_step ?hg (N := 6) ?hd (cs := #[.int .i64 0, .int .i64 0]) (t := 62) ?hr ?_; (case hd => rfl); (case hg => rfl); (case hr => first | (go_simp; done) | (go_simp; rfl))
     intro gb536 hg w10 hbox hb
     have n0_ := aM (blk_below (g := gb530) (o := .cells #[.int .i64 0, .int .i64 0] 62 (0, 0)) (by (with_reducible repeat (first | refine kN ?_ _ | refine kD ?_ | refine kA ?_ _)); exact BK530.out) hb)
     have n1_ := aM (blk_below (g := gb531) (o := .cells #[.int .i64 0, .int .i64 0] 62 (0, 0)) (by (with_reducible repeat (first | refine kN ?_ _ | refine kD ?_ | refine kA ?_ _)); exact BK531.out) hb)
     have n2_ := aM (blk_below (g := gb535) (o := .cells #[.int .i64 0, .int .i64 0] 62 (0, 0)) (by (with_reducible repeat (first | refine kN ?_ _ | refine kD ?_ | refine kA ?_ _)); exact BK535.out) hb)
     have n3_ := aM (pT (by repeat (first | (with_reducible first | exact HB.out | apply pA | apply pN | apply pD | refine pS ?_ GE530.out | refine pS ?_ GE531.out | refine pS ?_ GE535.out) | exact HB.out)) hb)
     have n4_ := aM (hbox)
     have n5_ := aM ((by rw [hg]; exact (pZ (by repeat (first | (with_reducible first | exact HB.out | apply pA | apply pN | apply pD | refine pS ?_ GE530.out | refine pS ?_ GE531.out | refine pS ?_ GE535.out) | exact HB.out))) : w.heap.size ≤ gb536))
     have n6_ := aM ((by rw [hg]; exact (pZ (by repeat (first | (with_reducible first | exact HB.out | apply pA | apply pN | apply pD | refine pS ?_ GE530.out | refine pS ?_ GE531.out | refine pS ?_ GE535.out) | exact HB.out))) : w.heap.size ≤ gb536))
     have n7_ := aM ((by rw [hg]; exact nN (blk_lt (g := gb530) (o := .cells #[.int .i64 0, .int .i64 0] 62 (0, 0)) (by (with_reducible repeat (first | refine kN ?_ _ | refine kD ?_ | refine kA ?_ _)); exact BK530.out)) : gb530 ≠ gb536))
     have n8_ := aM ((by rw [hg]; exact Nat.ne_of_gt (blk_lt (g := gb530) (o := .cells #[.int .i64 0, .int .i64 0] 62 (0, 0)) (by (with_reducible repeat (first | refine kN ?_ _ | refine kD ?_ | refine kA ?_ _)); exact BK530.out)) : gb536 ≠ gb530))
     have n9_ := aM ((by rw [hg]; exact nN (blk_lt (g := gb531) (o := .cells #[.int .i64 0, .int .i64 0] 62 (0, 0)) (by (with_reducible repeat (first | refine kN ?_ _ | refine kD ?_ | refine kA ?_ _)); exact BK531.out)) : gb531 ≠ gb536))
     have n10_ := aM ((by rw [hg]; exact Nat.ne_of_gt (blk_lt (g := gb531) (o := .cells #[.int .i64 0, .int .i64 0] 62 (0, 0)) (by (with_reducible repeat (first | refine kN ?_ _ | refine kD ?_ | refine kA ?_ _)); exact BK531.out)) : gb536 ≠ gb531))
     have n11_ := aM ((by rw [hg]; exact nN (blk_lt (g := gb535) (o := .cells #[.int .i64 0, .int .i64 0] 62 (0, 0)) (by (with_reducible repeat (first | refine kN ?_ _ | refine kD ?_ | refine kA ?_ _)); exact BK535.out)) : gb535 ≠ gb536))
     have n12_ := aM ((by rw [hg]; exact Nat.ne_of_gt (blk_lt (g := gb535) (o := .cells #[.int .i64 0, .int .i64 0] 62 (0, 0)) (by (with_reducible repeat (first | refine kN ?_ _ | refine kD ?_ | refine kA ?_ _)); exact BK535.out)) : gb536 ≠ gb535))
     clear BK530
     clear BK531
     clear BK535
     clear HB
     have BK530 := n0_
     have BK531 := n1_
     have BK535 := n2_
     have HB := n3_
     have BK536 := n4_
     have GW536 := n5_
     have GE536 := n6_
     have NB530_536 := n7_
     have NB536_530 := n8_
     have NB531_536 := n9_
     have NB536_531 := n10_
     have NB535_536 := n11_
     have NB536_535 := n12_
     clear n0_ n1_ n2_ n3_ n4_ n5_ n6_ n7_ n8_ n9_ n10_ n11_ n12_
     clear hb hbox hg
     refine hK.out _ _ ⟨((HB.out.cell (wB w _ hw533_0)).trans hw533_0), ((HB.out.cell (wB w _ hw533_1)).trans hw533_1), ((HB.out.cell (wB w _ hw534_0)).trans hw534_0), ((HB.out.cell (wB w _ hw534_1)).trans hw534_1)⟩ (fun hHeld => ?_)
     clear hK K
     refine norm_ (a' := ?_) ?_ ?_
     rotate_left
     ·show Act.put _ (some 6) _ = _
      simp only [Act.put, sI, sZ, sS, i64_w, i32_w]
      rfl
     exact norm_ (by simp only [putAll, Act.put, sI, sZ, sS]) (hCont (gb535, gb536) _ ⟨hHeld, (by (with_reducible repeat (first | refine kN ?_ _ | refine kD ?_ | refine kA ?_ _)); exact BK530.out), (by (with_reducible repeat (first | refine kN ?_ _ | refine kD ?_ | refine kA ?_ _)); exact BK531.out), (by (with_reducible repeat (first | refine kN ?_ _ | refine kD ?_ | refine kA ?_ _)); exact BK535.out), (by (with_reducible repeat (first | refine kN ?_ _ | refine kD ?_ | refine kA ?_ _)); exact BK536.out), GW535.out, GE535.out, NB530_535.out, NB535_530.out, NB531_535.out, NB535_531.out, NB536_535.out, NB535_536.out, GW536.out, GE536.out, NB530_536.out, NB536_530.out, NB531_536.out, NB536_531.out, (by repeat (first | (with_reducible first | exact HB.out | apply pA | apply pN | apply pD | refine pS ?_ GE530.out | refine pS ?_ GE531.out | refine pS ?_ GE535.out | refine pS ?_ GE536.out) | exact HB.out))⟩)
    ·skip
     refine box_step ?hg (N := 6) ?hd (cs := #[.int .i64 0, .int .i64 0]) (t := 62) ?hr ?_; (case hd => rfl); (case hg => rfl); (case hr => first | (go_simp; done) | (go_simp; rfl))
     intro gb536 hg w9 hbox hb
     have n0_ := aM (blk_below (g := gb530) (o := .cells #[.int .i64 0, .int .i64 0] 62 (0, 0)) (by (with_reducible repeat (first | refine kN ?_ _ | refine kD ?_ | refine kA ?_ _)); exact BK530.out) hb)
     have n1_ := aM (blk_below (g := gb531) (o := .cells #[.int .i64 0, .int .i64 0] 62 (0, 0)) (by (with_reducible repeat (first | refine kN ?_ _ | refine kD ?_ | refine kA ?_ _)); exact BK531.out) hb)
     have n2_ := aM (pT (by repeat (first | (with_reducible first | exact HB.out | apply pA | apply pN | apply pD | refine pS ?_ GE530.out | refine pS ?_ GE531.out) | exact HB.out)) hb)
     have n3_ := aM (hbox)
     have n4_ := aM ((by rw [hg]; exact (pZ (by repeat (first | (with_reducible first | exact HB.out | apply pA | apply pN | apply pD | refine pS ?_ GE530.out | refine pS ?_ GE531.out) | exact HB.out))) : w.heap.size ≤ gb536))
     have n5_ := aM ((by rw [hg]; exact (pZ (by repeat (first | (with_reducible first | exact HB.out | apply pA | apply pN | apply pD | refine pS ?_ GE530.out | refine pS ?_ GE531.out) | exact HB.out))) : w.heap.size ≤ gb536))
     have n6_ := aM ((by rw [hg]; exact nN (blk_lt (g := gb530) (o := .cells #[.int .i64 0, .int .i64 0] 62 (0, 0)) (by (with_reducible repeat (first | refine kN ?_ _ | refine kD ?_ | refine kA ?_ _)); exact BK530.out)) : gb530 ≠ gb536))
     have n7_ := aM ((by rw [hg]; exact Nat.ne_of_gt (blk_lt (g := gb530) (o := .cells #[.int .i64 0, .int .i64 0] 62 (0, 0)) (by (with_reducible repeat (first | refine kN ?_ _ | refine kD ?_ | refine kA ?_ _)); exact BK530.out)) : gb536 ≠ gb530))
     have n8_ := aM ((by rw [hg]; exact nN (blk_lt (g := gb531) (o := .cells #[.int .i64 0, .int .i64 0] 62 (0, 0)) (by (with_reducible repeat (first | refine kN ?_ _ | refine kD ?_ | refine kA ?_ _)); exact BK531.out)) : gb531 ≠ gb536))
     have n9_ := aM ((by rw [hg]; exact Nat.ne_of_gt (blk_lt (g := gb531) (o := .cells #[.int .i64 0, .int .i64 0] 62 (0, 0)) (by (with_reducible repeat (first | refine kN ?_ _ | refine kD ?_ | refine kA ?_ _)); exact BK531.out)) : gb536 ≠ gb531))
     clear BK530
     clear BK531
     clear HB
     have BK530 := n0_
     have BK531 := n1_
     have HB := n2_
     have BK536 := n3_
     have GW536 := n4_
     have GE536 := n5_
     have NB530_536 := n6_
     have NB536_530 := n7_
     have NB531_536 := n8_
     have NB536_531 := n9_
     clear n0_ n1_ n2_ n3_ n4_ n5_ n6_ n7_ n8_ n9_
     clear hb hbox hg
     refine hK.out _ _ ⟨((HB.out.cell (wB w _ hw533_0)).trans hw533_0), ((HB.out.cell (wB w _ hw533_1)).trans hw533_1), ((HB.out.cell (wB w _ hw534_0)).trans hw534_0), ((HB.out.cell (wB w _ hw534_1)).trans hw534_1)⟩ (fun hHeld => ?_)
     clear hK K
     refine norm_ (a' := ?_) ?_ ?_
     rotate_left
     ·show Act.put _ (some 6) _ = _
      simp only [Act.put, sI, sZ, sS, i64_w, i32_w]
      rfl
     refine one_ (i := 6) (N := some 5) #[true, true, true, true, true, true, true, true, false, false] rfl rfl (one_of HT_.out (by kernel_rfl)) (by decide) (fun K hK => ?_)
     refine box_step ?hg (N := 5) ?hd (cs := #[.int .i64 0, .int .i64 0]) (t := 62) ?hr ?_; (case hd => rfl); (case hg => rfl); (case hr => first | (go_simp; done) | (go_simp; rfl))
     intro gb535 hg w10 hbox hb
     have n0_ := aM (blk_below (g := gb530) (o := .cells #[.int .i64 0, .int .i64 0] 62 (0, 0)) (by (with_reducible repeat (first | refine kN ?_ _ | refine kD ?_ | refine kA ?_ _)); exact BK530.out) hb)
     have n1_ := aM (blk_below (g := gb531) (o := .cells #[.int .i64 0, .int .i64 0] 62 (0, 0)) (by (with_reducible repeat (first | refine kN ?_ _ | refine kD ?_ | refine kA ?_ _)); exact BK531.out) hb)
     have n2_ := aM (blk_below (g := gb536) (o := .cells #[.int .i64 0, .int .i64 0] 62 (0, 0)) (by (with_reducible repeat (first | refine kN ?_ _ | refine kD ?_ | refine kA ?_ _)); exact BK536.out) hb)
     have n3_ := aM (pT (by repeat (first | (with_reducible first | exact HB.out | apply pA | apply pN | apply pD | refine pS ?_ GE530.out | refine pS ?_ GE531.out | refine pS ?_ GE536.out) | exact HB.out)) hb)
     have n4_ := aM (hbox)
     have n5_ := aM ((by rw [hg]; exact (pZ (by repeat (first | (with_reducible first | exact HB.out | apply pA | apply pN | apply pD | refine pS ?_ GE530.out | refine pS ?_ GE531.out | refine pS ?_ GE536.out) | exact HB.out))) : w.heap.size ≤ gb535))
     have n6_ := aM ((by rw [hg]; exact (pZ (by repeat (first | (with_reducible first | exact HB.out | apply pA | apply pN | apply pD | refine pS ?_ GE530.out | refine pS ?_ GE531.out | refine pS ?_ GE536.out) | exact HB.out))) : w.heap.size ≤ gb535))
     have n7_ := aM ((by rw [hg]; exact nN (blk_lt (g := gb530) (o := .cells #[.int .i64 0, .int .i64 0] 62 (0, 0)) (by (with_reducible repeat (first | refine kN ?_ _ | refine kD ?_ | refine kA ?_ _)); exact BK530.out)) : gb530 ≠ gb535))
     have n8_ := aM ((by rw [hg]; exact Nat.ne_of_gt (blk_lt (g := gb530) (o := .cells #[.int .i64 0, .int .i64 0] 62 (0, 0)) (by (with_reducible repeat (first | refine kN ?_ _ | refine kD ?_ | refine kA ?_ _)); exact BK530.out)) : gb535 ≠ gb530))
     have n9_ := aM ((by rw [hg]; exact nN (blk_lt (g := gb531) (o := .cells #[.int .i64 0, .int .i64 0] 62 (0, 0)) (by (with_reducible repeat (first | refine kN ?_ _ | refine kD ?_ | refine kA ?_ _)); exact BK531.out)) : gb531 ≠ gb535))
     have n10_ := aM ((by rw [hg]; exact Nat.ne_of_gt (blk_lt (g := gb531) (o := .cells #[.int .i64 0, .int .i64 0] 62 (0, 0)) (by (with_reducible repeat (first | refine kN ?_ _ | refine kD ?_ | refine kA ?_ _)); exact BK531.out)) : gb535 ≠ gb531))
     have n11_ := aM ((by rw [hg]; exact nN (blk_lt (g := gb536) (o := .cells #[.int .i64 0, .int .i64 0] 62 (0, 0)) (by (with_reducible repeat (first | refine kN ?_ _ | refine kD ?_ | refine kA ?_ _)); exact BK536.out)) : gb536 ≠ gb535))
     have n12_ := aM ((by rw [hg]; exact Nat.ne_of_gt (blk_lt (g := gb536) (o := .cells #[.int .i64 0, .int .i64 0] 62 (0, 0)) (by (with_reducible repeat (first | refine kN ?_ _ | refine kD ?_ | refine kA ?_ _)); exact BK536.out)) : gb535 ≠ gb536))
     clear BK530
     clear BK531
     clear BK536
     clear HB
     have BK530 := n0_
     have BK531 := n1_
     have BK536 := n2_
     have HB := n3_
     have BK535 := n4_
     have GW535 := n5_
     have GE535 := n6_
     have NB530_535 := n7_
     have NB535_530 := n8_
     have NB531_535 := n9_
     have NB535_531 := n10_
     have NB536_535 := n11_
     have NB535_536 := n12_
     clear n0_ n1_ n2_ n3_ n4_ n5_ n6_ n7_ n8_ n9_ n10_ n11_ n12_
     clear hb hbox hg
     refine hK.out _ _ ⟨((HB.out.cell (wB w _ hw533_0)).trans hw533_0), ((HB.out.cell (wB w _ hw533_1)).trans hw533_1), ((HB.out.cell (wB w _ hw534_0)).trans hw534_0), ((HB.out.cell (wB w _ hw534_1)).trans hw534_1)⟩ (fun hHeld => ?_)
     clear hK K
     refine norm_ (a' := ?_) ?_ ?_
     rotate_left
     ·show Act.put _ (some 5) _ = _
      simp only [Act.put, sI, sZ, sS, i64_w, i32_w]
      rfl
     exact norm_ (by simp only [putAll, Act.put, sI, sZ, sS]) (hCont (gb535, gb536) _ ⟨hHeld, (by (with_reducible repeat (first | refine kN ?_ _ | refine kD ?_ | refine kA ?_ _)); exact BK530.out), (by (with_reducible repeat (first | refine kN ?_ _ | refine kD ?_ | refine kA ?_ _)); exact BK531.out), (by (with_reducible repeat (first | refine kN ?_ _ | refine kD ?_ | refine kA ?_ _)); exact BK535.out), (by (with_reducible repeat (first | refine kN ?_ _ | refine kD ?_ | refine kA ?_ _)); exact BK536.out), GW535.out, GE535.out, NB530_535.out, NB535_530.out, NB531_535.out, NB535_531.out, NB536_535.out, NB535_536.out, GW536.out, GE536.out, NB530_536.out, NB536_530.out, NB531_536.out, NB536_531.out, (by repeat (first | (with_reducible first | exact HB.out | apply pA | apply pN | apply pD | refine pS ?_ GE530.out | refine pS ?_ GE531.out | refine pS ?_ GE536.out | refine pS ?_ GE535.out) | exact HB.out))⟩)
   rintro ⟨gb535, gb536⟩ w11 ⟨hS_, h0_, h1_, h2_, h3_, h4_, h5_, h6_, h7_, h8_, h9_, h10_, h11_, h12_, h13_, h14_, h15_, h16_, h17_, h18_⟩
   have n0_ : Aside0 (w11.heap[gb530]? = some (.cells #[.int .i64 0, .int .i64 0] 62 (0, 0))) := ⟨h0_⟩
   have n1_ : Aside0 (w11.heap[gb531]? = some (.cells #[.int .i64 0, .int .i64 0] 62 (0, 0))) := ⟨h1_⟩
   have n2_ : Aside0 (w11.heap[gb535]? = some (.cells #[.int .i64 0, .int .i64 0] 62 (0, 0))) := ⟨h2_⟩
   have n3_ : Aside0 (w11.heap[gb536]? = some (.cells #[.int .i64 0, .int .i64 0] 62 (0, 0))) := ⟨h3_⟩
   have n4_ : Aside0 (w.heap.size ≤ gb535) := ⟨h4_⟩
   have n5_ : Aside0 (w.heap.size ≤ gb535) := ⟨h5_⟩
   have n6_ : Aside0 (gb530 ≠ gb535) := ⟨h6_⟩
   have n7_ : Aside0 (gb535 ≠ gb530) := ⟨h7_⟩
   have n8_ : Aside0 (gb531 ≠ gb535) := ⟨h8_⟩
   have n9_ : Aside0 (gb535 ≠ gb531) := ⟨h9_⟩
   have n10_ : Aside0 (gb536 ≠ gb535) := ⟨h10_⟩
   have n11_ : Aside0 (gb535 ≠ gb536) := ⟨h11_⟩
   have n12_ : Aside0 (w.heap.size ≤ gb536) := ⟨h12_⟩
   have n13_ : Aside0 (w.heap.size ≤ gb536) := ⟨h13_⟩
   have n14_ : Aside0 (gb530 ≠ gb536) := ⟨h14_⟩
   have n15_ : Aside0 (gb536 ≠ gb530) := ⟨h15_⟩
   have n16_ : Aside0 (gb531 ≠ gb536) := ⟨h16_⟩
   have n17_ : Aside0 (gb536 ≠ gb531) := ⟨h17_⟩
   have n18_ : Aside0 (Below w.heap.size w w11) := ⟨h18_⟩
   clear BK530
   clear BK531
   clear HB
   clear h0_ h1_ h2_ h3_ h4_ h5_ h6_ h7_ h8_ h9_ h10_ h11_ h12_ h13_ h14_ h15_ h16_ h17_ h18_
   have BK530 := n0_
   have BK531 := n1_
   have BK535 := n2_
   have BK536 := n3_
   have GW535 := n4_
   have GE535 := n5_
   have NB530_535 := n6_
   have NB535_530 := n7_
   have NB531_535 := n8_
   have NB535_531 := n9_
   have NB536_535 := n10_
   have NB535_536 := n11_
   have GW536 := n12_
   have GE536 := n13_
   have NB530_536 := n14_
   have NB536_530 := n15_
   have NB531_536 := n16_
   have NB536_531 := n17_
   have HB := n18_
   clear n0_ n1_ n2_ n3_ n4_ n5_ n6_ n7_ n8_ n9_ n10_ n11_ n12_ n13_ n14_ n15_ n16_ n17_ n18_
   have hHeld : w11.cell? ad533 = some (.int .i64 ((rd_impl_Peg l0 0).f0)) ∧ w11.cell? ⟨ad533.block, ad533.off + 1, none⟩ = some (.int .i64 ((rd_impl_Peg l0 0).f1)) ∧ w11.cell? ad533 = some (.int .i64 ((rd_impl_Peg l0 0).f0)) ∧ w11.cell? ⟨ad533.block, ad533.off + 1, none⟩ = some (.int .i64 ((rd_impl_Peg l0 0).f1)) := hS_
   refine norm_ (a' := ?_) ?_ ?_
   rotate_left
   ·simp only [putAll, Act.put, sI, sZ, sS]
    rfl
   refine one_ (i := 8) (N := none) #[true, true, true, true, true, true, true, true, true, false] rfl rfl (one_of HT_.out (by kernel_rfl)) (by decide) (fun K hK => ?_)
   have hs12 : w11.cell? ⟨gb535, 0, none⟩ = some (.int .i64 0) := (kC BK535.out 0).trans rfl
   have hfs12 := kF BK535.out 0
   have hns12_0 := NB530_535.out
   have hns12_1 := NB531_535.out
   have hns12_3 := NB536_535.out
   have hms12_0 := NB535_530.out
   have hms12_1 := NB535_531.out
   have hms12_3 := NB535_536.out
   have hs13 : w11.cell? ⟨gb535, 1, none⟩ = some (.int .i64 0) := (kC BK535.out 1).trans rfl
   have hfs13 := kF BK535.out 1
   have hns13_0 := NB530_535.out
   have hns13_1 := NB531_535.out
   have hns13_3 := NB536_535.out
   have hms13_0 := NB535_530.out
   have hms13_1 := NB535_531.out
   have hms13_3 := NB535_536.out
   refine skip_ (w1 := ?_) (by rfl) rfl ?_ ?_
   rotate_left
   ·go_simp
    rfl
   refine hK.out _ _ ⟨((cell_far (p := ⟨gb535, _, none⟩) (by first | exact nN (nL (by have := wB _ _ hw533_0; first | rwa [add_block] at this | exact this) GW535.out) | (rw [add_block]; exact nN (nL (by have := wB _ _ hw533_0; first | rwa [add_block] at this | exact this) GW535.out)) | (show (Addr.add _ _).block ≠ _; rw [add_block]; exact nN (nL (by have := wB _ _ hw533_0; first | rwa [add_block] at this | exact this) GW535.out)) | (dsimp only; exact nN (nL (by have := wB _ _ hw533_0; first | rwa [add_block] at this | exact this) GW535.out))) _).trans (((cell_far (p := ⟨gb535, _, none⟩) (by first | exact nN (nL (by have := wB _ _ hw533_0; first | rwa [add_block] at this | exact this) GW535.out) | (rw [add_block]; exact nN (nL (by have := wB _ _ hw533_0; first | rwa [add_block] at this | exact this) GW535.out)) | (show (Addr.add _ _).block ≠ _; rw [add_block]; exact nN (nL (by have := wB _ _ hw533_0; first | rwa [add_block] at this | exact this) GW535.out)) | (dsimp only; exact nN (nL (by have := wB _ _ hw533_0; first | rwa [add_block] at this | exact this) GW535.out))) _).trans (hHeld.1)))), ((cell_far (p := ⟨gb535, _, none⟩) (by first | exact nN (nL (by have := wB _ _ hw533_1; first | rwa [add_block] at this | exact this) GW535.out) | (rw [add_block]; exact nN (nL (by have := wB _ _ hw533_1; first | rwa [add_block] at this | exact this) GW535.out)) | (show (Addr.add _ _).block ≠ _; rw [add_block]; exact nN (nL (by have := wB _ _ hw533_1; first | rwa [add_block] at this | exact this) GW535.out)) | (dsimp only; exact nN (nL (by have := wB _ _ hw533_1; first | rwa [add_block] at this | exact this) GW535.out))) _).trans (((cell_far (p := ⟨gb535, _, none⟩) (by first | exact nN (nL (by have := wB _ _ hw533_1; first | rwa [add_block] at this | exact this) GW535.out) | (rw [add_block]; exact nN (nL (by have := wB _ _ hw533_1; first | rwa [add_block] at this | exact this) GW535.out)) | (show (Addr.add _ _).block ≠ _; rw [add_block]; exact nN (nL (by have := wB _ _ hw533_1; first | rwa [add_block] at this | exact this) GW535.out)) | (dsimp only; exact nN (nL (by have := wB _ _ hw533_1; first | rwa [add_block] at this | exact this) GW535.out))) _).trans (hHeld.2.1)))), ((cell_far (p := ⟨gb535, _, none⟩) (by first | exact nN (nL (by have := wB _ _ hw534_0; first | rwa [add_block] at this | exact this) GW535.out) | (rw [add_block]; exact nN (nL (by have := wB _ _ hw534_0; first | rwa [add_block] at this | exact this) GW535.out)) | (show (Addr.add _ _).block ≠ _; rw [add_block]; exact nN (nL (by have := wB _ _ hw534_0; first | rwa [add_block] at this | exact this) GW535.out)) | (dsimp only; exact nN (nL (by have := wB _ _ hw534_0; first | rwa [add_block] at this | exact this) GW535.out))) _).trans (((cell_far (p := ⟨gb535, _, none⟩) (by first | exact nN (nL (by have := wB _ _ hw534_0; first | rwa [add_block] at this | exact this) GW535.out) | (rw [add_block]; exact nN (nL (by have := wB _ _ hw534_0; first | rwa [add_block] at this | exact this) GW535.out)) | (show (Addr.add _ _).block ≠ _; rw [add_block]; exact nN (nL (by have := wB _ _ hw534_0; first | rwa [add_block] at this | exact this) GW535.out)) | (dsimp only; exact nN (nL (by have := wB _ _ hw534_0; first | rwa [add_block] at this | exact this) GW535.out))) _).trans (hHeld.2.2.1)))), ((cell_far (p := ⟨gb535, _, none⟩) (by first | exact nN (nL (by have := wB _ _ hw534_1; first | rwa [add_block] at this | exact this) GW535.out) | (rw [add_block]; exact nN (nL (by have := wB _ _ hw534_1; first | rwa [add_block] at this | exact this) GW535.out)) | (show (Addr.add _ _).block ≠ _; rw [add_block]; exact nN (nL (by have := wB _ _ hw534_1; first | rwa [add_block] at this | exact this) GW535.out)) | (dsimp only; exact nN (nL (by have := wB _ _ hw534_1; first | rwa [add_block] at this | exact this) GW535.out))) _).trans (((cell_far (p := ⟨gb535, _, none⟩) (by first | exact nN (nL (by have := wB _ _ hw534_1; first | rwa [add_block] at this | exact this) GW535.out) | (rw [add_block]; exact nN (nL (by have := wB _ _ hw534_1; first | rwa [add_block] at this | exact this) GW535.out)) | (show (Addr.add _ _).block ≠ _; rw [add_block]; exact nN (nL (by have := wB _ _ hw534_1; first | rwa [add_block] at this | exact this) GW535.out)) | (dsimp only; exact nN (nL (by have := wB _ _ hw534_1; first | rwa [add_block] at this | exact this) GW535.out))) _).trans (hHeld.2.2.2))))⟩ (fun hHeld => ?_)
   clear hK K
   refine one_ (i := 9) (N := none) #[true, true, true, true, true, true, true, true, true, true] rfl rfl (one_of HT_.out (by kernel_rfl)) (by decide) (fun K hK => ?_)
   have hs14 : w11.cell? ⟨gb536, 0, none⟩ = some (.int .i64 0) := (kC BK536.out 0).trans rfl
   have hfs14 := kF BK536.out 0
   have hns14_0 := NB530_536.out
   have hns14_1 := NB531_536.out
   have hns14_2 := NB535_536.out
   have hms14_0 := NB536_530.out
   have hms14_1 := NB536_531.out
   have hms14_2 := NB536_535.out
   have hs15 : w11.cell? ⟨gb536, 1, none⟩ = some (.int .i64 0) := (kC BK536.out 1).trans rfl
   have hfs15 := kF BK536.out 1
   have hns15_0 := NB530_536.out
   have hns15_1 := NB531_536.out
   have hns15_2 := NB535_536.out
   have hms15_0 := NB536_530.out
   have hms15_1 := NB536_531.out
   have hms15_2 := NB536_535.out
   refine skip_ (w1 := ?_) (by rfl) rfl ?_ ?_
   rotate_left
   ·go_simp
    rfl
   refine hK.out _ _ ⟨((cell_far (p := ⟨gb536, _, none⟩) (by first | exact nN (nL (by have := wB _ _ hw533_0; first | rwa [add_block] at this | exact this) GW536.out) | (rw [add_block]; exact nN (nL (by have := wB _ _ hw533_0; first | rwa [add_block] at this | exact this) GW536.out)) | (show (Addr.add _ _).block ≠ _; rw [add_block]; exact nN (nL (by have := wB _ _ hw533_0; first | rwa [add_block] at this | exact this) GW536.out)) | (dsimp only; exact nN (nL (by have := wB _ _ hw533_0; first | rwa [add_block] at this | exact this) GW536.out))) _).trans (((cell_far (p := ⟨gb536, _, none⟩) (by first | exact nN (nL (by have := wB _ _ hw533_0; first | rwa [add_block] at this | exact this) GW536.out) | (rw [add_block]; exact nN (nL (by have := wB _ _ hw533_0; first | rwa [add_block] at this | exact this) GW536.out)) | (show (Addr.add _ _).block ≠ _; rw [add_block]; exact nN (nL (by have := wB _ _ hw533_0; first | rwa [add_block] at this | exact this) GW536.out)) | (dsimp only; exact nN (nL (by have := wB _ _ hw533_0; first | rwa [add_block] at this | exact this) GW536.out))) _).trans (hHeld.1)))), ((cell_far (p := ⟨gb536, _, none⟩) (by first | exact nN (nL (by have := wB _ _ hw533_1; first | rwa [add_block] at this | exact this) GW536.out) | (rw [add_block]; exact nN (nL (by have := wB _ _ hw533_1; first | rwa [add_block] at this | exact this) GW536.out)) | (show (Addr.add _ _).block ≠ _; rw [add_block]; exact nN (nL (by have := wB _ _ hw533_1; first | rwa [add_block] at this | exact this) GW536.out)) | (dsimp only; exact nN (nL (by have := wB _ _ hw533_1; first | rwa [add_block] at this | exact this) GW536.out))) _).trans (((cell_far (p := ⟨gb536, _, none⟩) (by first | exact nN (nL (by have := wB _ _ hw533_1; first | rwa [add_block] at this | exact this) GW536.out) | (rw [add_block]; exact nN (nL (by have := wB _ _ hw533_1; first | rwa [add_block] at this | exact this) GW536.out)) | (show (Addr.add _ _).block ≠ _; rw [add_block]; exact nN (nL (by have := wB _ _ hw533_1; first | rwa [add_block] at this | exact this) GW536.out)) | (dsimp only; exact nN (nL (by have := wB _ _ hw533_1; first | rwa [add_block] at this | exact this) GW536.out))) _).trans (hHeld.2.1)))), ((cell_far (p := ⟨gb536, _, none⟩) (by first | exact nN (nL (by have := wB _ _ hw534_0; first | rwa [add_block] at this | exact this) GW536.out) | (rw [add_block]; exact nN (nL (by have := wB _ _ hw534_0; first | rwa [add_block] at this | exact this) GW536.out)) | (show (Addr.add _ _).block ≠ _; rw [add_block]; exact nN (nL (by have := wB _ _ hw534_0; first | rwa [add_block] at this | exact this) GW536.out)) | (dsimp only; exact nN (nL (by have := wB _ _ hw534_0; first | rwa [add_block] at this | exact this) GW536.out))) _).trans (((cell_far (p := ⟨gb536, _, none⟩) (by first | exact nN (nL (by have := wB _ _ hw534_0; first | rwa [add_block] at this | exact this) GW536.out) | (rw [add_block]; exact nN (nL (by have := wB _ _ hw534_0; first | rwa [add_block] at this | exact this) GW536.out)) | (show (Addr.add _ _).block ≠ _; rw [add_block]; exact nN (nL (by have := wB _ _ hw534_0; first | rwa [add_block] at this | exact this) GW536.out)) | (dsimp only; exact nN (nL (by have := wB _ _ hw534_0; first | rwa [add_block] at this | exact this) GW536.out))) _).trans (hHeld.2.2.1)))), ((cell_far (p := ⟨gb536, _, none⟩) (by first | exact nN (nL (by have := wB _ _ hw534_1; first | rwa [add_block] at this | exact this) GW536.out) | (rw [add_block]; exact nN (nL (by have := wB _ _ hw534_1; first | rwa [add_block] at this | exact this) GW536.out)) | (show (Addr.add _ _).block ≠ _; rw [add_block]; exact nN (nL (by have := wB _ _ hw534_1; first | rwa [add_block] at this | exact this) GW536.out)) | (dsimp only; exact nN (nL (by have := wB _ _ hw534_1; first | rwa [add_block] at this | exact this) GW536.out))) _).trans (((cell_far (p := ⟨gb536, _, none⟩) (by first | exact nN (nL (by have := wB _ _ hw534_1; first | rwa [add_block] at this | exact this) GW536.out) | (rw [add_block]; exact nN (nL (by have := wB _ _ hw534_1; first | rwa [add_block] at this | exact this) GW536.out)) | (show (Addr.add _ _).block ≠ _; rw [add_block]; exact nN (nL (by have := wB _ _ hw534_1; first | rwa [add_block] at this | exact this) GW536.out)) | (dsimp only; exact nN (nL (by have := wB _ _ hw534_1; first | rwa [add_block] at this | exact this) GW536.out))) _).trans (hHeld.2.2.2))))⟩ (fun hHeld => ?_)
   clear hK K
   refine done_ (done_of HT_.out (by kernel_rfl)) ?_
   try go_wp2
   go_loopg [22] k (fun kq v22 w' => ∃ (x22_1 : Int) (x536000_1 : Int) (x536001_1 : Int) (x537000_1 : Int) (x537001_1 : Int), v22 = .int .i64 x22_1 ∧ Aside0 (spec_BoxOfThree.l0 kq l0 (l0.length : Int) x22_1 x536000_1 x536001_1 x537000_1 x537001_1 = some (r1, r2, r3, r4, r5)) ∧ Aside0 (kq ≤ k) ∧ Aside0 (w'.heap[gb530]? = some (.cells #[.int .i64 0, .int .i64 0] 62 (0, 0))) ∧ Aside0 (w'.heap[gb531]? = some (.cells #[.int .i64 0, .int .i64 0] 62 (0, 0))) ∧ Aside0 (w'.heap[gb535]? = some (.cells #[.int .i64 x536000_1, .int .i64 x536001_1] 62 (0, 0))) ∧ Aside0 (w'.heap[gb536]? = some (.cells #[.int .i64 x537000_1, .int .i64 x537001_1] 62 (0, 0))) ∧ Aside0 (Below w.heap.size w w'))
   case atStart => exact ⟨(0), ((rd_impl_Peg l0 0).f0), ((rd_impl_Peg l0 0).f1), ((rd_impl_Peg l0 0).f0), ((rd_impl_Peg l0 0).f1), (by first | rfl | (simp; done) | (simp [*]; done)), H', ⟨Nat.le_refl _⟩, ⟨by (with_reducible repeat (first | refine kN ?_ _ | refine kD ?_ | refine kA ?_ _)); refine blk_far ?_ NB530_536.out _; (with_reducible repeat (first | refine kN ?_ _ | refine kD ?_ | refine kA ?_ _)); refine blk_far ?_ NB530_536.out _; (with_reducible repeat (first | refine kN ?_ _ | refine kD ?_ | refine kA ?_ _)); refine blk_far ?_ NB530_535.out _; (with_reducible repeat (first | refine kN ?_ _ | refine kD ?_ | refine kA ?_ _)); refine blk_far ?_ NB530_535.out _; (with_reducible repeat (first | refine kN ?_ _ | refine kD ?_ | refine kA ?_ _)); exact BK530.out⟩, ⟨by (with_reducible repeat (first | refine kN ?_ _ | refine kD ?_ | refine kA ?_ _)); refine blk_far ?_ NB531_536.out _; (with_reducible repeat (first | refine kN ?_ _ | refine kD ?_ | refine kA ?_ _)); refine blk_far ?_ NB531_536.out _; (with_reducible repeat (first | refine kN ?_ _ | refine kD ?_ | refine kA ?_ _)); refine blk_far ?_ NB531_535.out _; (with_reducible repeat (first | refine kN ?_ _ | refine kD ?_ | refine kA ?_ _)); refine blk_far ?_ NB531_535.out _; (with_reducible repeat (first | refine kN ?_ _ | refine kD ?_ | refine kA ?_ _)); exact BK531.out⟩, ⟨by (with_reducible repeat (first | refine kN ?_ _ | refine kD ?_ | refine kA ?_ _)); refine blk_far ?_ NB535_536.out _; (with_reducible repeat (first | refine kN ?_ _ | refine kD ?_ | refine kA ?_ _)); refine blk_far ?_ NB535_536.out _; (with_reducible repeat (first | refine kN ?_ _ | refine kD ?_ | refine kA ?_ _)); refine blk_put (cs := #[.int .i64 ((rd_impl_Peg l0 0).f0), .int .i64 0]) ?_ 1 _ rfl; (with_reducible repeat (first | refine kN ?_ _ | refine kD ?_ | refine kA ?_ _)); refine blk_put (cs := #[.int .i64 0, .int .i64 0]) ?_ 0 _ rfl; (with_reducible repeat (first | refine kN ?_ _ | refine kD ?_ | refine kA ?_ _)); exact BK535.out⟩, ⟨by (with_reducible repeat (first | refine kN ?_ _ | refine kD ?_ | refine kA ?_ _)); refine blk_put (cs := #[.int .i64 ((rd_impl_Peg l0 0).f0), .int .i64 0]) ?_ 1 _ rfl; (with_reducible repeat (first | refine kN ?_ _ | refine kD ?_ | refine kA ?_ _)); refine blk_put (cs := #[.int .i64 0, .int .i64 0]) ?_ 0 _ rfl; (with_reducible repeat (first | refine kN ?_ _ | refine kD ?_ | refine kA ?_ _)); refine blk_far ?_ NB536_535.out _; (with_reducible repeat (first | refine kN ?_ _ | refine kD ?_ | refine kA ?_ _)); refine blk_far ?_ NB536_535.out _; (with_reducible repeat (first | refine kN ?_ _ | refine kD ?_ | refine kA ?_ _)); exact BK536.out⟩, ⟨by repeat (first | (with_reducible first | exact HB.out | apply pA | apply pN | apply pD | refine pS ?_ GE530.out | refine pS ?_ GE531.out | refine pS ?_ GE535.out | refine pS ?_ GE536.out) | exact HB.out)⟩⟩
   case round =>
    clear H'
    try clear p2
    try clear c3
    try clear c4
    try clear c4b0
    try clear c4b1
    try clear p5
    try clear q5
    try clear hx5
    try clear qi5
    try clear c6
    try clear hx533_0
    try clear hx533_1
    try clear hx534_0
    try clear hx534_1
    try clear p533
    try clear p534
    try clear q533
    try clear q534
    obtain ⟨x22_1, x536000_1, x536001_1, x537000_1, x537001_1, rfl, HA, HK1, BK530, BK531, BK535, BK536, HB⟩ := hrel
    cases gk with
    | zero => exact absurd HA.out (by simp [spec_BoxOfThree.l0])
    | succ k1 =>
     have H := HA.out
     clear HA
     simp only [spec_BoxOfThree.l0] at H
     by_cases c16 : x22_1 < (l0.length : Int)
     ·rw [if_pos c16] at H
      have c16b0 : decide (x22_1 < (l0.length : Int)) = true := dE c16
      clear c16
      by_cases c17 : 0 ≤ x22_1
      ·rw [if_pos c17] at H
       have c17b0 : decide (0 ≤ x22_1) = true := dE c17
       clear c17
       by_cases c18 : x22_1 < (l0.length : Int)
       ·rw [if_pos c18] at H
        have c18b0 : decide (x22_1 < (l0.length : Int)) = true := dE c18
        clear c18
        replace H := oB.mp H
        obtain ⟨t539, A190, H⟩ := H
        replace H : ((spec_l1Least.f x536001_1 ((rd_impl_Peg l0 x22_1).f1)).bind fun t540 => ((spec_l1Most.f x537000_1 ((rd_impl_Peg l0 x22_1).f0)).bind fun t541 => ((spec_l1Most.f x537001_1 ((rd_impl_Peg l0 x22_1).f1)).bind fun t542 => (spec_BoxOfThree.l0 k1 l0 (l0.length : Int) (wrap64 (x22_1 + 1)) t539 t540 t541 t542)))) = some (r1, r2, r3, r4, r5) := H
        have A19 := aM A190
        clear A190
        replace H := oB.mp H
        obtain ⟨t540, A200, H⟩ := H
        replace H : ((spec_l1Most.f x537000_1 ((rd_impl_Peg l0 x22_1).f0)).bind fun t541 => ((spec_l1Most.f x537001_1 ((rd_impl_Peg l0 x22_1).f1)).bind fun t542 => (spec_BoxOfThree.l0 k1 l0 (l0.length : Int) (wrap64 (x22_1 + 1)) t539 t540 t541 t542))) = some (r1, r2, r3, r4, r5) := H
        have A20 := aM A200
        clear A200
        replace H := oB.mp H
        obtain ⟨t541, A210, H⟩ := H
        replace H : ((spec_l1Most.f x537001_1 ((rd_impl_Peg l0 x22_1).f1)).bind fun t542 => (spec_BoxOfThree.l0 k1 l0 (l0.length : Int) (wrap64 (x22_1 + 1)) t539 t540 t541 t542)) = some (r1, r2, r3, r4, r5) := H
        have A21 := aM A210
        clear A210
        replace H := oB.mp H
        obtain ⟨t542, A220, H⟩ := H
        replace H : (spec_BoxOfThree.l0 k1 l0 (l0.length : Int) (wrap64 (x22_1 + 1)) t539 t540 t541 t542) = some (r1, r2, r3, r4, r5) := H
        have A22 := aM A220
        clear A220
        have H' := aM H
        clear H
        have p537 : 0 ≤ (x22_1 : Int) := dT (by first | (with_reducible assumption) | assumption)
        have q537 : x22_1 < (l0.length : Int) := dT (by first | (with_reducible assumption) | assumption)
        obtain ⟨ad537, e537, hx537_0, hx537_1⟩ := at_impl_Peg HR0.out x22_1 p537 q537
        obtain rfl : ad533 = ad537 := (by injection e537)
        replace hx537_0 := (HB.out.cell (wB w _ hx537_0)).trans hx537_0
        replace hx537_1 := (HB.out.cell (wB w _ hx537_1)).trans hx537_1
        replace p537 := eq_true p537
        replace q537 := eq_true q537
        try go_wp2_with (first | ((with_reducible refine gate_dst (N := 8) rfl ?_); refine box_event ?hg (N := 8) ?hd (cs := #[.int .i64 0, .int .i64 0]) (t := 62) ?hr ?_; (case hd => rfl); (case hg => rfl); (case hr => first | (go_simp; done) | (go_simp; rfl)); intro gb538 hg w23 hbox hb; have n0_ := aM (blk_below (g := gb530) (o := .cells #[.int .i64 0, .int .i64 0] 62 (0, 0)) (by (with_reducible repeat (first | refine kN ?_ _ | refine kD ?_ | refine kA ?_ _)); exact BK530.out) hb); have n1_ := aM (blk_below (g := gb531) (o := .cells #[.int .i64 0, .int .i64 0] 62 (0, 0)) (by (with_reducible repeat (first | refine kN ?_ _ | refine kD ?_ | refine kA ?_ _)); exact BK531.out) hb); have n2_ := aM (blk_below (g := gb535) (o := .cells #[.int .i64 x536000_1, .int .i64 x536001_1] 62 (0, 0)) (by (with_reducible repeat (first | refine kN ?_ _ | refine kD ?_ | refine kA ?_ _)); exact BK535.out) hb); have n3_ := aM (blk_below (g := gb536) (o := .cells #[.int .i64 x537000_1, .int .i64 x537001_1] 62 (0, 0)) (by (with_reducible repeat (first | refine kN ?_ _ | refine kD ?_ | refine kA ?_ _)); exact BK536.out) hb); have n4_ := aM (pT (by repeat (first | (with_reducible first | exact HB.out | apply pA | apply pN | apply pD | refine pS ?_ GE530.out | refine pS ?_ GE531.out | refine pS ?_ GE535.out | refine pS ?_ GE536.out) | exact HB.out)) hb); have n5_ := aM (hbox); have n6_ := aM ((by rw [hg]; exact (pZ (by repeat (first | (with_reducible first | exact HB.out | apply pA | apply pN | apply pD | refine pS ?_ GE530.out | refine pS ?_ GE531.out | refine pS ?_ GE535.out | refine pS ?_ GE536.out) | exact HB.out))) : w.heap.size ≤ gb538)); have n7_ := aM ((by rw [hg]; exact (pZ (by repeat (first | (with_reducible first | exact HB.out | apply pA | apply pN | apply pD | refine pS ?_ GE530.out | refine pS ?_ GE531.out | refine pS ?_ GE535.out | refine pS ?_ GE536.out) | exact HB.out))) : w.heap.size ≤ gb538)); have n8_ := aM ((by rw [hg]; exact nN (blk_lt (g := gb530) (o := .cells #[.int .i64 0, .int .i64 0] 62 (0, 0)) (by (with_reducible repeat (first | refine kN ?_ _ | refine kD ?_ | refine kA ?_ _)); exact BK530.out)) : gb530 ≠ gb538)); have n9_ := aM ((by rw [hg]; exact Nat.ne_of_gt (blk_lt (g := gb530) (o := .cells #[.int .i64 0, .int .i64 0] 62 (0, 0)) (by (with_reducible repeat (first | refine kN ?_ _ | refine kD ?_ | refine kA ?_ _)); exact BK530.out)) : gb538 ≠ gb530)); have n10_ := aM ((by rw [hg]; exact nN (blk_lt (g := gb531) (o := .cells #[.int .i64 0, .int .i64 0] 62 (0, 0)) (by (with_reducible repeat (first | refine kN ?_ _ | refine kD ?_ | refine kA ?_ _)); exact BK531.out)) : gb531 ≠ gb538)); have n11_ := aM ((by rw [hg]; exact Nat.ne_of_gt (blk_lt (g := gb531) (o := .cells #[.int .i64 0, .int .i64 0] 62 (0, 0)) (by (with_reducible repeat (first | refine kN ?_ _ | refine kD ?_ | refine kA ?_ _)); exact BK531.out)) : gb538 ≠ gb531)); have n12_ := aM ((by rw [hg]; exact nN (blk_lt (g := gb535) (o := .cells #[.int .i64 x536000_1, .int .i64 x536001_1] 62 (0, 0)) (by (with_reducible repeat (first | refine kN ?_ _ | refine kD ?_ | refine kA ?_ _)); exact BK535.out)) : gb535 ≠ gb538)); have n13_ := aM ((by rw [hg]; exact Nat.ne_of_gt (blk_lt (g := gb535) (o := .cells #[.int .i64 x536000_1, .int .i64 x536001_1] 62 (0, 0)) (by (with_reducible repeat (first | refine kN ?_ _ | refine kD ?_ | refine kA ?_ _)); exact BK535.out)) : gb538 ≠ gb535)); have n14_ := aM ((by rw [hg]; exact nN (blk_lt (g := gb536) (o := .cells #[.int .i64 x537000_1, .int .i64 x537001_1] 62 (0, 0)) (by (with_reducible repeat (first | refine kN ?_ _ | refine kD ?_ | refine kA ?_ _)); exact BK536.out)) : gb536 ≠ gb538)); have n15_ := aM ((by rw [hg]; exact Nat.ne_of_gt (blk_lt (g := gb536) (o := .cells #[.int .i64 x537000_1, .int .i64 x537001_1] 62 (0, 0)) (by (with_reducible repeat (first | refine kN ?_ _ | refine kD ?_ | refine kA ?_ _)); exact BK536.out)) : gb538 ≠ gb536)); clear BK530; clear BK531; clear BK535; clear BK536; clear HB; have BK530 := n0_; have BK531 := n1_; have BK535 := n2_; have BK536 := n3_; have HB := n4_; have BK538 := n5_; have GW538 := n6_; have GE538 := n7_; have NB530_538 := n8_; have NB538_530 := n9_; have NB531_538 := n10_; have NB538_531 := n11_; have NB535_538 := n12_; have NB538_535 := n13_; have NB536_538 := n14_; have NB538_536 := n15_; clear n0_ n1_ n2_ n3_ n4_ n5_ n6_ n7_ n8_ n9_ n10_ n11_ n12_ n13_ n14_ n15_; clear hb hbox hg; have hnb24 := NB538_530.out; have hnc24 := NB530_538.out; have hnb25 := NB538_531.out; have hnc25 := NB531_538.out; have hnb26 := NB538_535.out; have hnc26 := NB535_538.out; have hnb27 := NB538_536.out; have hnc27 := NB536_538.out; have hcz28_0 : w23.cell? ⟨gb538, 0, none⟩ = some (.int .i64 0) := (kC BK538.out 0).trans rfl; have hcz28_1 : w23.cell? ⟨gb538, 1, none⟩ = some (.int .i64 0) := (kC BK538.out 1).trans rfl; have hfz28_0 := kF BK538.out 0; have hfz28_1 := kF BK538.out 1))
        have n0_ : Aside0 (((w23.setCell ⟨gb538, 0, none⟩ (.int .i64 ((rd_impl_Peg l0 x22_1).f0))).setCell ⟨gb538, 1, none⟩ (.int .i64 ((rd_impl_Peg l0 x22_1).f1))).heap[gb530]? = some (.cells #[.int .i64 0, .int .i64 0] 62 (0, 0))) := ⟨by (with_reducible repeat (first | refine kN ?_ _ | refine kD ?_ | refine kA ?_ _)); refine blk_far ?_ NB530_538.out _; (with_reducible repeat (first | refine kN ?_ _ | refine kD ?_ | refine kA ?_ _)); refine blk_far ?_ NB530_538.out _; (with_reducible repeat (first | refine kN ?_ _ | refine kD ?_ | refine kA ?_ _)); exact BK530.out⟩
        have n1_ : Aside0 (((w23.setCell ⟨gb538, 0, none⟩ (.int .i64 ((rd_impl_Peg l0 x22_1).f0))).setCell ⟨gb538, 1, none⟩ (.int .i64 ((rd_impl_Peg l0 x22_1).f1))).heap[gb531]? = some (.cells #[.int .i64 0, .int .i64 0] 62 (0, 0))) := ⟨by (with_reducible repeat (first | refine kN ?_ _ | refine kD ?_ | refine kA ?_ _)); refine blk_far ?_ NB531_538.out _; (with_reducible repeat (first | refine kN ?_ _ | refine kD ?_ | refine kA ?_ _)); refine blk_far ?_ NB531_538.out _; (with_reducible repeat (first | refine kN ?_ _ | refine kD ?_ | refine kA ?_ _)); exact BK531.out⟩
        have n2_ : Aside0 (((w23.setCell ⟨gb538, 0, none⟩ (.int .i64 ((rd_impl_Peg l0 x22_1).f0))).setCell ⟨gb538, 1, none⟩ (.int .i64 ((rd_impl_Peg l0 x22_1).f1))).heap[gb535]? = some (.cells #[.int .i64 x536000_1, .int .i64 x536001_1] 62 (0, 0))) := ⟨by (with_reducible repeat (first | refine kN ?_ _ | refine kD ?_ | refine kA ?_ _)); refine blk_far ?_ NB535_538.out _; (with_reducible repeat (first | refine kN ?_ _ | refine kD ?_ | refine kA ?_ _)); refine blk_far ?_ NB535_538.out _; (with_reducible repeat (first | refine kN ?_ _ | refine kD ?_ | refine kA ?_ _)); exact BK535.out⟩
        have n3_ : Aside0 (((w23.setCell ⟨gb538, 0, none⟩ (.int .i64 ((rd_impl_Peg l0 x22_1).f0))).setCell ⟨gb538, 1, none⟩ (.int .i64 ((rd_impl_Peg l0 x22_1).f1))).heap[gb536]? = some (.cells #[.int .i64 x537000_1, .int .i64 x537001_1] 62 (0, 0))) := ⟨by (with_reducible repeat (first | refine kN ?_ _ | refine kD ?_ | refine kA ?_ _)); refine blk_far ?_ NB536_538.out _; (with_reducible repeat (first | refine kN ?_ _ | refine kD ?_ | refine kA ?_ _)); refine blk_far ?_ NB536_538.out _; (with_reducible repeat (first | refine kN ?_ _ | refine kD ?_ | refine kA ?_ _)); exact BK536.out⟩
        have n4_ : Aside0 (((w23.setCell ⟨gb538, 0, none⟩ (.int .i64 ((rd_impl_Peg l0 x22_1).f0))).setCell ⟨gb538, 1, none⟩ (.int .i64 ((rd_impl_Peg l0 x22_1).f1))).heap[gb538]? = some (.cells #[.int .i64 ((rd_impl_Peg l0 x22_1).f0), .int .i64 ((rd_impl_Peg l0 x22_1).f1)] 62 (0, 0))) := ⟨by (with_reducible repeat (first | refine kN ?_ _ | refine kD ?_ | refine kA ?_ _)); refine blk_put (cs := #[.int .i64 ((rd_impl_Peg l0 x22_1).f0), .int .i64 0]) ?_ 1 _ rfl; (with_reducible repeat (first | refine kN ?_ _ | refine kD ?_ | refine kA ?_ _)); refine blk_put (cs := #[.int .i64 0, .int .i64 0]) ?_ 0 _ rfl; (with_reducible repeat (first | refine kN ?_ _ | refine kD ?_ | refine kA ?_ _)); exact BK538.out⟩
        have n5_ : Aside0 (Below w.heap.size w ((w23.setCell ⟨gb538, 0, none⟩ (.int .i64 ((rd_impl_Peg l0 x22_1).f0))).setCell ⟨gb538, 1, none⟩ (.int .i64 ((rd_impl_Peg l0 x22_1).f1)))) := ⟨by repeat (first | (with_reducible first | exact HB.out | apply pA | apply pN | apply pD | refine pS ?_ GE530.out | refine pS ?_ GE531.out | refine pS ?_ GE535.out | refine pS ?_ GE536.out | refine pS ?_ GE538.out) | exact HB.out)⟩
        (try clear BK530)
        (try clear BK531)
        (try clear BK535)
        (try clear BK536)
        (try clear BK538)
        (try clear HB)
        (try simp only [setCell_drewN_out])
        generalize ((w23.setCell ⟨gb538, 0, none⟩ (.int .i64 ((rd_impl_Peg l0 x22_1).f0))).setCell ⟨gb538, 1, none⟩ (.int .i64 ((rd_impl_Peg l0 x22_1).f1))) = w29 at n0_ n1_ n2_ n3_ n4_ n5_ ⊢
        have BK530 := n0_
        have BK531 := n1_
        have BK535 := n2_
        have BK536 := n3_
        have BK538 := n4_
        have HB := n5_
        clear n0_ n1_ n2_ n3_ n4_ n5_
        have n0_ := aM (kD BK530.out)
        have n1_ := aM (kD BK531.out)
        have n2_ := aM (kD BK535.out)
        have n3_ := aM (kD BK536.out)
        have n4_ := aM (kD BK538.out)
        have n5_ := aM (pD HB.out)
        clear BK530
        clear BK531
        clear BK535
        clear BK536
        clear BK538
        clear HB
        have BK530 := n0_
        have BK531 := n1_
        have BK535 := n2_
        have BK536 := n3_
        have BK538 := n4_
        have HB := n5_
        clear n0_ n1_ n2_ n3_ n4_ n5_
        refine start_ (n := 12) (S := fun w' => w'.cell? ⟨gb535, 0, none⟩ = some (.int .i64 x536000_1) ∧ w'.cell? ⟨gb535, 1, none⟩ = some (.int .i64 x536001_1) ∧ w'.cell? ⟨gb538, 0, none⟩ = some (.int .i64 ((rd_impl_Peg l0 x22_1).f0)) ∧ w'.cell? ⟨gb538, 1, none⟩ = some (.int .i64 ((rd_impl_Peg l0 x22_1).f1))) (ds := [11]) #[false, false, false, false, false, false, false, false, false, false, false, false] (by kernel_rfl) rfl rfl ⟨(kC BK535.out 0).trans rfl, (kC BK535.out 1).trans rfl, (kC BK538.out 0).trans rfl, (kC BK538.out 1).trans rfl⟩ (fun hHeld => ?_); refine with_tabW spec_BoxOfThree.tab7 spec_BoxOfThree.bits7 (fun HT_ HW_ => ?_)
        generalize w29.drew = w30 at BK530 BK531 BK535 BK536 BK538 HB hHeld ⊢
        refine pure_ (i := 0) (N := some 26) (v := ?_) (a' := ?_) #[true, false, false, false, false, false, false, false, false, false, false, false] rfl rfl (any_of HT_.out (by kernel_rfl)) (fun _ _ _ h => h) (Or.inl ⟨by rfl, ?_⟩) ?_ ?_
        rotate_left
        ·intro w'
         go_simp
         with_reducible rfl
        rotate_left
        ·simp only [Act.put, sI, sZ, sS, i64_w, i32_w]
         rfl
        refine pure_ (i := 2) (N := some 28) (v := ?_) (a' := ?_) #[true, false, true, false, false, false, false, false, false, false, false, false] rfl rfl (any_of HT_.out (by kernel_rfl)) (fun _ _ _ h => h) (Or.inl ⟨by rfl, ?_⟩) ?_ ?_
        rotate_left
        ·intro w'
         go_simp
         with_reducible rfl
        rotate_left
        ·simp only [Act.put, sI, sZ, sS, i64_w, i32_w]
         rfl
        refine pure_ (i := 5) (N := some 31) (v := ?_) (a' := ?_) #[true, false, true, false, false, true, false, false, false, false, false, false] rfl rfl (any_of HT_.out (by kernel_rfl)) (fun _ _ _ h => h) (Or.inl ⟨by rfl, ?_⟩) ?_ ?_
        rotate_left
        ·intro w'
         go_simp
         with_reducible rfl
        rotate_left
        ·simp only [Act.put, sI, sZ, sS, i64_w, i32_w]
         rfl
        refine pure_ (i := 7) (N := some 33) (v := ?_) (a' := ?_) #[true, false, true, false, false, true, false, true, false, false, false, false] rfl rfl (any_of HT_.out (by kernel_rfl)) (fun _ _ _ h => h) (Or.inl ⟨by rfl, ?_⟩) ?_ ?_
        rotate_left
        ·intro w'
         go_simp
         with_reducible rfl
        rotate_left
        ·simp only [Act.put, sI, sZ, sS, i64_w, i32_w]
         rfl
        refine take_ (i := 1) (N := some 27) (v := ?_) (a' := ?_) #[true, true, true, false, false, true, false, true, false, false, false, false] rfl rfl (take_ofW HT_.out HW_.out (by kernel_rfl)) (fun _ _ _ h => h) (Or.inl ⟨by rfl, ?_⟩) hHeld ?_ ?_
        rotate_left
        ·rintro w' ⟨s0, s1, s2, s3⟩
         go_simp
         with_reducible rfl
        rotate_left
        ·simp only [Act.put, sI, sZ, sS, i64_w, i32_w]
         rfl
        refine take_ (i := 3) (N := some 29) (v := ?_) (a' := ?_) #[true, true, true, true, false, true, false, true, false, false, false, false] rfl rfl (take_ofW HT_.out HW_.out (by kernel_rfl)) (fun _ _ _ h => h) (Or.inl ⟨by rfl, ?_⟩) hHeld ?_ ?_
        rotate_left
        ·rintro w' ⟨s0, s1, s2, s3⟩
         go_simp
         with_reducible rfl
        rotate_left
        ·simp only [Act.put, sI, sZ, sS, i64_w, i32_w]
         rfl
        refine take_ (i := 6) (N := some 32) (v := ?_) (a' := ?_) #[true, true, true, true, false, true, true, true, false, false, false, false] rfl rfl (take_ofW HT_.out HW_.out (by kernel_rfl)) (fun _ _ _ h => h) (Or.inl ⟨by rfl, ?_⟩) hHeld ?_ ?_
        rotate_left
        ·rintro w' ⟨s0, s1, s2, s3⟩
         go_simp
         with_reducible rfl
        rotate_left
        ·simp only [Act.put, sI, sZ, sS, i64_w, i32_w]
         rfl
        refine take_ (i := 8) (N := some 34) (v := ?_) (a' := ?_) #[true, true, true, true, false, true, true, true, true, false, false, false] rfl rfl (take_ofW HT_.out HW_.out (by kernel_rfl)) (fun _ _ _ h => h) (Or.inl ⟨by rfl, ?_⟩) hHeld ?_ ?_
        rotate_left
        ·rintro w' ⟨s0, s1, s2, s3⟩
         go_simp
         with_reducible rfl
        rotate_left
        ·simp only [Act.put, sI, sZ, sS, i64_w, i32_w]
         rfl
        refine one_ (i := 4) (N := some 30) #[true, true, true, true, true, true, true, true, true, false, false, false] rfl rfl (one_of HT_.out (by kernel_rfl)) (by decide) (fun K hK => ?_)
        refine goes_ Try.func85 (by kernel_rfl) rfl #[.int .i64 x536000_1, .int .i64 ((rd_impl_Peg l0 x22_1).f0)] (by rfl) rfl rfl (by (try simp only [mA, mC, mN]); first | done | rfl | (simp only [lD, lT]; rfl)) ?_
        with_reducible refine (spec_l1Least.calls x536000_1 ((rd_impl_Peg l0 x22_1).f0) t539 _ A19.out).mono ?_
        rintro e w' ⟨rfl, ⟨nd, rfl⟩⟩
        refine ⟨_, rfl, ?_⟩
        refine hK.out _ _ ⟨(kC BK535.out 0).trans rfl, (kC BK535.out 1).trans rfl, (kC BK538.out 0).trans rfl, (kC BK538.out 1).trans rfl⟩ (fun hHeld => ?_)
        clear hK K
        refine norm_ (a' := ?_) ?_ ?_
        rotate_left
        ·show Act.put _ (some 30) _ = _
         simp only [Act.put, sI, sZ, sS, i64_w, i32_w]
         rfl
        refine one_ (i := 9) (N := some 35) #[true, true, true, true, true, true, true, true, true, true, false, false] rfl rfl (one_of HT_.out (by kernel_rfl)) (by decide) (fun K hK => ?_)
        refine goes_ Try.func85 (by kernel_rfl) rfl #[.int .i64 x536001_1, .int .i64 ((rd_impl_Peg l0 x22_1).f1)] (by rfl) rfl rfl (by (try simp only [mA, mC, mN]); first | done | rfl | (simp only [lD, lT]; rfl)) ?_
        with_reducible refine (spec_l1Least.calls x536001_1 ((rd_impl_Peg l0 x22_1).f1) t540 _ A20.out).mono ?_
        rintro e w' ⟨rfl, ⟨nd, rfl⟩⟩
        refine ⟨_, rfl, ?_⟩
        refine hK.out _ _ ⟨(kC BK535.out 0).trans rfl, (kC BK535.out 1).trans rfl, (kC BK538.out 0).trans rfl, (kC BK538.out 1).trans rfl⟩ (fun hHeld => ?_)
        clear hK K
        refine norm_ (a' := ?_) ?_ ?_
        rotate_left
        ·show Act.put _ (some 35) _ = _
         simp only [Act.put, sI, sZ, sS, i64_w, i32_w]
         rfl
        refine pure_ (i := 10) (N := some 36) (v := ?_) (a' := ?_) #[true, true, true, true, true, true, true, true, true, true, true, false] rfl rfl (any_of HT_.out (by kernel_rfl)) (fun _ _ _ h => h) (Or.inl ⟨by rfl, ?_⟩) ?_ ?_
        rotate_left
        ·intro w'
         go_simp
         with_reducible rfl
        rotate_left
        ·simp only [Act.put, sI, sZ, sS, i64_w, i32_w]
         rfl
        refine last_ (i := 11) (N := none) #[true, true, true, true, true, true, true, true, true, true, true, true] rfl rfl (one_of HT_.out (by kernel_rfl)) (by decide) (fun K hK => ?_)
        have hs31 : w30.cell? ⟨gb535, 0, none⟩ = some (.int .i64 x536000_1) := (kC BK535.out 0).trans rfl
        have hfs31 := kF BK535.out 0
        have hns31_0 := NB530_535.out
        have hns31_1 := NB531_535.out
        have hns31_3 := NB536_535.out
        have hns31_4 := NB538_535.out
        have hms31_0 := NB535_530.out
        have hms31_1 := NB535_531.out
        have hms31_3 := NB535_536.out
        have hms31_4 := NB535_538.out
        have hs32 : w30.cell? ⟨gb535, 1, none⟩ = some (.int .i64 x536001_1) := (kC BK535.out 1).trans rfl
        have hfs32 := kF BK535.out 1
        have hns32_0 := NB530_535.out
        have hns32_1 := NB531_535.out
        have hns32_3 := NB536_535.out
        have hns32_4 := NB538_535.out
        have hms32_0 := NB535_530.out
        have hms32_1 := NB535_531.out
        have hms32_3 := NB535_536.out
        have hms32_4 := NB535_538.out
        refine skip_ (w1 := ?_) (by rfl) rfl ?_ ?_
        rotate_left
        ·go_simp
         rfl
        refine hK.out _ _ ?_
        clear hK K
        refine done_ (done_of HT_.out (by kernel_rfl)) ?_
        try go_wp2
        have n0_ : Aside0 (((w30.setCell ⟨gb535, 0, none⟩ (.int .i64 t539)).setCell ⟨gb535, 1, none⟩ (.int .i64 t540)).heap[gb530]? = some (.cells #[.int .i64 0, .int .i64 0] 62 (0, 0))) := ⟨by (with_reducible repeat (first | refine kN ?_ _ | refine kD ?_ | refine kA ?_ _)); refine blk_far ?_ NB530_535.out _; (with_reducible repeat (first | refine kN ?_ _ | refine kD ?_ | refine kA ?_ _)); refine blk_far ?_ NB530_535.out _; (with_reducible repeat (first | refine kN ?_ _ | refine kD ?_ | refine kA ?_ _)); exact BK530.out⟩
        have n1_ : Aside0 (((w30.setCell ⟨gb535, 0, none⟩ (.int .i64 t539)).setCell ⟨gb535, 1, none⟩ (.int .i64 t540)).heap[gb531]? = some (.cells #[.int .i64 0, .int .i64 0] 62 (0, 0))) := ⟨by (with_reducible repeat (first | refine kN ?_ _ | refine kD ?_ | refine kA ?_ _)); refine blk_far ?_ NB531_535.out _; (with_reducible repeat (first | refine kN ?_ _ | refine kD ?_ | refine kA ?_ _)); refine blk_far ?_ NB531_535.out _; (with_reducible repeat (first | refine kN ?_ _ | refine kD ?_ | refine kA ?_ _)); exact BK531.out⟩
        have n2_ : Aside0 (((w30.setCell ⟨gb535, 0, none⟩ (.int .i64 t539)).setCell ⟨gb535, 1, none⟩ (.int .i64 t540)).heap[gb535]? = some (.cells #[.int .i64 t539, .int .i64 t540] 62 (0, 0))) := ⟨by (with_reducible repeat (first | refine kN ?_ _ | refine kD ?_ | refine kA ?_ _)); refine blk_put (cs := #[.int .i64 t539, .int .i64 x536001_1]) ?_ 1 _ rfl; (with_reducible repeat (first | refine kN ?_ _ | refine kD ?_ | refine kA ?_ _)); refine blk_put (cs := #[.int .i64 x536000_1, .int .i64 x536001_1]) ?_ 0 _ rfl; (with_reducible repeat (first | refine kN ?_ _ | refine kD ?_ | refine kA ?_ _)); exact BK535.out⟩
        have n3_ : Aside0 (((w30.setCell ⟨gb535, 0, none⟩ (.int .i64 t539)).setCell ⟨gb535, 1, none⟩ (.int .i64 t540)).heap[gb536]? = some (.cells #[.int .i64 x537000_1, .int .i64 x537001_1] 62 (0, 0))) := ⟨by (with_reducible repeat (first | refine kN ?_ _ | refine kD ?_ | refine kA ?_ _)); refine blk_far ?_ NB536_535.out _; (with_reducible repeat (first | refine kN ?_ _ | refine kD ?_ | refine kA ?_ _)); refine blk_far ?_ NB536_535.out _; (with_reducible repeat (first | refine kN ?_ _ | refine kD ?_ | refine kA ?_ _)); exact BK536.out⟩
        have n4_ : Aside0 (((w30.setCell ⟨gb535, 0, none⟩ (.int .i64 t539)).setCell ⟨gb535, 1, none⟩ (.int .i64 t540)).heap[gb538]? = some (.cells #[.int .i64 ((rd_impl_Peg l0 x22_1).f0), .int .i64 ((rd_impl_Peg l0 x22_1).f1)] 62 (0, 0))) := ⟨by (with_reducible repeat (first | refine kN ?_ _ | refine kD ?_ | refine kA ?_ _)); refine blk_far ?_ NB538_535.out _; (with_reducible repeat (first | refine kN ?_ _ | refine kD ?_ | refine kA ?_ _)); refine blk_far ?_ NB538_535.out _; (with_reducible repeat (first | refine kN ?_ _ | refine kD ?_ | refine kA ?_ _)); exact BK538.out⟩
        have n5_ : Aside0 (Below w.heap.size w ((w30.setCell ⟨gb535, 0, none⟩ (.int .i64 t539)).setCell ⟨gb535, 1, none⟩ (.int .i64 t540))) := ⟨by repeat (first | (with_reducible first | exact HB.out | apply pA | apply pN | apply pD | refine pS ?_ GE530.out | refine pS ?_ GE531.out | refine pS ?_ GE535.out | refine pS ?_ GE536.out | refine pS ?_ GE538.out) | exact HB.out)⟩
        (try clear BK530)
        (try clear BK531)
        (try clear BK535)
        (try clear BK536)
        (try clear BK538)
        (try clear HB)
        (try simp only [setCell_drewN_out])
        generalize ((w30.setCell ⟨gb535, 0, none⟩ (.int .i64 t539)).setCell ⟨gb535, 1, none⟩ (.int .i64 t540)) = w33 at n0_ n1_ n2_ n3_ n4_ n5_ ⊢
        have BK530 := n0_
        have BK531 := n1_
        have BK535 := n2_
        have BK536 := n3_
        have BK538 := n4_
        have HB := n5_
        clear n0_ n1_ n2_ n3_ n4_ n5_
        (try (rw [drewN_self w33]; generalize hq_ : World.drewN w33 _ = w33; have n0_ : Aside0 (w33.heap[gb530]? = some (.cells #[.int .i64 0, .int .i64 0] 62 (0, 0))) := ⟨by rw [← hq_]; exact (by (with_reducible repeat (first | refine kN ?_ _ | refine kD ?_ | refine kA ?_ _)); exact BK530.out)⟩; have n1_ : Aside0 (w33.heap[gb531]? = some (.cells #[.int .i64 0, .int .i64 0] 62 (0, 0))) := ⟨by rw [← hq_]; exact (by (with_reducible repeat (first | refine kN ?_ _ | refine kD ?_ | refine kA ?_ _)); exact BK531.out)⟩; have n2_ : Aside0 (w33.heap[gb535]? = some (.cells #[.int .i64 t539, .int .i64 t540] 62 (0, 0))) := ⟨by rw [← hq_]; exact (by (with_reducible repeat (first | refine kN ?_ _ | refine kD ?_ | refine kA ?_ _)); exact BK535.out)⟩; have n3_ : Aside0 (w33.heap[gb536]? = some (.cells #[.int .i64 x537000_1, .int .i64 x537001_1] 62 (0, 0))) := ⟨by rw [← hq_]; exact (by (with_reducible repeat (first | refine kN ?_ _ | refine kD ?_ | refine kA ?_ _)); exact BK536.out)⟩; have n4_ : Aside0 (w33.heap[gb538]? = some (.cells #[.int .i64 ((rd_impl_Peg l0 x22_1).f0), .int .i64 ((rd_impl_Peg l0 x22_1).f1)] 62 (0, 0))) := ⟨by rw [← hq_]; exact (by (with_reducible repeat (first | refine kN ?_ _ | refine kD ?_ | refine kA ?_ _)); exact BK538.out)⟩; have n5_ : Aside0 (Below w.heap.size w w33) := ⟨by rw [← hq_]; exact (by repeat (first | (with_reducible first | exact HB.out | apply pA | apply pN | apply pD | refine pS ?_ GE530.out | refine pS ?_ GE531.out | refine pS ?_ GE535.out | refine pS ?_ GE536.out | refine pS ?_ GE538.out) | exact HB.out))⟩; clear BK530 BK531 BK535 BK536 BK538 HB hq_; have BK530 := n0_; have BK531 := n1_; have BK535 := n2_; have BK536 := n3_; have BK538 := n4_; have HB := n5_; clear n0_ n1_ n2_ n3_ n4_ n5_))
        have n0_ := aM (kD BK530.out)
        have n1_ := aM (kD BK531.out)
        have n2_ := aM (kD BK535.out)
        have n3_ := aM (kD BK536.out)
        have n4_ := aM (kD BK538.out)
        have n5_ := aM (pD HB.out)
        clear BK530
        clear BK531
        clear BK535
        clear BK536
        clear BK538
        clear HB
        have BK530 := n0_
        have BK531 := n1_
        have BK535 := n2_
        have BK536 := n3_
        have BK538 := n4_
        have HB := n5_
        clear n0_ n1_ n2_ n3_ n4_ n5_
        refine start_ (n := 12) (S := fun w' => w'.cell? ⟨gb536, 0, none⟩ = some (.int .i64 x537000_1) ∧ w'.cell? ⟨gb536, 1, none⟩ = some (.int .i64 x537001_1) ∧ w'.cell? ⟨gb538, 0, none⟩ = some (.int .i64 ((rd_impl_Peg l0 x22_1).f0)) ∧ w'.cell? ⟨gb538, 1, none⟩ = some (.int .i64 ((rd_impl_Peg l0 x22_1).f1))) (ds := [11]) #[false, false, false, false, false, false, false, false, false, false, false, false] (by kernel_rfl) rfl rfl ⟨(kC BK536.out 0).trans rfl, (kC BK536.out 1).trans rfl, (kC BK538.out 0).trans rfl, (kC BK538.out 1).trans rfl⟩ (fun hHeld => ?_); refine with_tabW spec_BoxOfThree.tab8 spec_BoxOfThree.bits8 (fun HT_ HW_ => ?_)
        generalize w33.drew = w34 at BK530 BK531 BK535 BK536 BK538 HB hHeld ⊢
        refine pure_ (i := 0) (N := some 37) (v := ?_) (a' := ?_) #[true, false, false, false, false, false, false, false, false, false, false, false] rfl rfl (any_of HT_.out (by kernel_rfl)) (fun _ _ _ h => h) (Or.inl ⟨by rfl, ?_⟩) ?_ ?_
        rotate_left
        ·intro w'
         go_simp
         with_reducible rfl
        rotate_left
        ·simp only [Act.put, sI, sZ, sS, i64_w, i32_w]
         rfl
        refine pure_ (i := 2) (N := some 39) (v := ?_) (a' := ?_) #[true, false, true, false, false, false, false, false, false, false, false, false] rfl rfl (any_of HT_.out (by kernel_rfl)) (fun _ _ _ h => h) (Or.inl ⟨by rfl, ?_⟩) ?_ ?_
        rotate_left
        ·intro w'
         go_simp
         with_reducible rfl
        rotate_left
        ·simp only [Act.put, sI, sZ, sS, i64_w, i32_w]
         rfl
        refine pure_ (i := 5) (N := some 42) (v := ?_) (a' := ?_) #[true, false, true, false, false, true, false, false, false, false, false, false] rfl rfl (any_of HT_.out (by kernel_rfl)) (fun _ _ _ h => h) (Or.inl ⟨by rfl, ?_⟩) ?_ ?_
        rotate_left
        ·intro w'
         go_simp
         with_reducible rfl
        rotate_left
        ·simp only [Act.put, sI, sZ, sS, i64_w, i32_w]
         rfl
        refine pure_ (i := 7) (N := some 44) (v := ?_) (a' := ?_) #[true, false, true, false, false, true, false, true, false, false, false, false] rfl rfl (any_of HT_.out (by kernel_rfl)) (fun _ _ _ h => h) (Or.inl ⟨by rfl, ?_⟩) ?_ ?_
        rotate_left
        ·intro w'
         go_simp
         with_reducible rfl
        rotate_left
        ·simp only [Act.put, sI, sZ, sS, i64_w, i32_w]
         rfl
        refine take_ (i := 1) (N := some 38) (v := ?_) (a' := ?_) #[true, true, true, false, false, true, false, true, false, false, false, false] rfl rfl (take_ofW HT_.out HW_.out (by kernel_rfl)) (fun _ _ _ h => h) (Or.inl ⟨by rfl, ?_⟩) hHeld ?_ ?_
        rotate_left
        ·rintro w' ⟨s0, s1, s2, s3⟩
         go_simp
         with_reducible rfl
        rotate_left
        ·simp only [Act.put, sI, sZ, sS, i64_w, i32_w]
         rfl
        refine take_ (i := 3) (N := some 40) (v := ?_) (a' := ?_) #[true, true, true, true, false, true, false, true, false, false, false, false] rfl rfl (take_ofW HT_.out HW_.out (by kernel_rfl)) (fun _ _ _ h => h) (Or.inl ⟨by rfl, ?_⟩) hHeld ?_ ?_
        rotate_left
        ·rintro w' ⟨s0, s1, s2, s3⟩
         go_simp
         with_reducible rfl
        rotate_left
        ·simp only [Act.put, sI, sZ, sS, i64_w, i32_w]
         rfl
        refine take_ (i := 6) (N := some 43) (v := ?_) (a' := ?_) #[true, true, true, true, false, true, true, true, false, false, false, false] rfl rfl (take_ofW HT_.out HW_.out (by kernel_rfl)) (fun _ _ _ h => h) (Or.inl ⟨by rfl, ?_⟩) hHeld ?_ ?_
        rotate_left
        ·rintro w' ⟨s0, s1, s2, s3⟩
         go_simp
         with_reducible rfl
        rotate_left
        ·simp only [Act.put, sI, sZ, sS, i64_w, i32_w]
         rfl
        refine take_ (i := 8) (N := some 45) (v := ?_) (a' := ?_) #[true, true, true, true, false, true, true, true, true, false, false, false] rfl rfl (take_ofW HT_.out HW_.out (by kernel_rfl)) (fun _ _ _ h => h) (Or.inl ⟨by rfl, ?_⟩) hHeld ?_ ?_
        rotate_left
        ·rintro w' ⟨s0, s1, s2, s3⟩
         go_simp
         with_reducible rfl
        rotate_left
        ·simp only [Act.put, sI, sZ, sS, i64_w, i32_w]
         rfl
        refine one_ (i := 4) (N := some 41) #[true, true, true, true, true, true, true, true, true, false, false, false] rfl rfl (one_of HT_.out (by kernel_rfl)) (by decide) (fun K hK => ?_)
        refine goes_ Try.func79 (by kernel_rfl) rfl #[.int .i64 x537000_1, .int .i64 ((rd_impl_Peg l0 x22_1).f0)] (by rfl) rfl rfl (by (try simp only [mA, mC, mN]); first | done | rfl | (simp only [lD, lT]; rfl)) ?_
        with_reducible refine (spec_l1Most.calls x537000_1 ((rd_impl_Peg l0 x22_1).f0) t541 _ A21.out).mono ?_
        rintro e w' ⟨rfl, ⟨nd, rfl⟩⟩
        refine ⟨_, rfl, ?_⟩
        refine hK.out _ _ ⟨(kC BK536.out 0).trans rfl, (kC BK536.out 1).trans rfl, (kC BK538.out 0).trans rfl, (kC BK538.out 1).trans rfl⟩ (fun hHeld => ?_)
        clear hK K
        refine norm_ (a' := ?_) ?_ ?_
        rotate_left
        ·show Act.put _ (some 41) _ = _
         simp only [Act.put, sI, sZ, sS, i64_w, i32_w]
         rfl
        refine one_ (i := 9) (N := some 46) #[true, true, true, true, true, true, true, true, true, true, false, false] rfl rfl (one_of HT_.out (by kernel_rfl)) (by decide) (fun K hK => ?_)
        refine goes_ Try.func79 (by kernel_rfl) rfl #[.int .i64 x537001_1, .int .i64 ((rd_impl_Peg l0 x22_1).f1)] (by rfl) rfl rfl (by (try simp only [mA, mC, mN]); first | done | rfl | (simp only [lD, lT]; rfl)) ?_
        with_reducible refine (spec_l1Most.calls x537001_1 ((rd_impl_Peg l0 x22_1).f1) t542 _ A22.out).mono ?_
        rintro e w' ⟨rfl, ⟨nd, rfl⟩⟩
        refine ⟨_, rfl, ?_⟩
        refine hK.out _ _ ⟨(kC BK536.out 0).trans rfl, (kC BK536.out 1).trans rfl, (kC BK538.out 0).trans rfl, (kC BK538.out 1).trans rfl⟩ (fun hHeld => ?_)
        clear hK K
        refine norm_ (a' := ?_) ?_ ?_
        rotate_left
        ·show Act.put _ (some 46) _ = _
         simp only [Act.put, sI, sZ, sS, i64_w, i32_w]
         rfl
        refine pure_ (i := 10) (N := some 47) (v := ?_) (a' := ?_) #[true, true, true, true, true, true, true, true, true, true, true, false] rfl rfl (any_of HT_.out (by kernel_rfl)) (fun _ _ _ h => h) (Or.inl ⟨by rfl, ?_⟩) ?_ ?_
        rotate_left
        ·intro w'
         go_simp
         with_reducible rfl
        rotate_left
        ·simp only [Act.put, sI, sZ, sS, i64_w, i32_w]
         rfl
        refine last_ (i := 11) (N := none) #[true, true, true, true, true, true, true, true, true, true, true, true] rfl rfl (one_of HT_.out (by kernel_rfl)) (by decide) (fun K hK => ?_)
        have hs35 : w34.cell? ⟨gb536, 0, none⟩ = some (.int .i64 x537000_1) := (kC BK536.out 0).trans rfl
        have hfs35 := kF BK536.out 0
        have hns35_0 := NB530_536.out
        have hns35_1 := NB531_536.out
        have hns35_2 := NB535_536.out
        have hns35_4 := NB538_536.out
        have hms35_0 := NB536_530.out
        have hms35_1 := NB536_531.out
        have hms35_2 := NB536_535.out
        have hms35_4 := NB536_538.out
        have hs36 : w34.cell? ⟨gb536, 1, none⟩ = some (.int .i64 x537001_1) := (kC BK536.out 1).trans rfl
        have hfs36 := kF BK536.out 1
        have hns36_0 := NB530_536.out
        have hns36_1 := NB531_536.out
        have hns36_2 := NB535_536.out
        have hns36_4 := NB538_536.out
        have hms36_0 := NB536_530.out
        have hms36_1 := NB536_531.out
        have hms36_2 := NB536_535.out
        have hms36_4 := NB536_538.out
        refine skip_ (w1 := ?_) (by rfl) rfl ?_ ?_
        rotate_left
        ·go_simp
         rfl
        refine hK.out _ _ ?_
        clear hK K
        refine done_ (done_of HT_.out (by kernel_rfl)) ?_
        try go_wp2
        go_roundg k1
        case measure => have := HK1.out; omega
        case rel => exact ⟨(wrap64 (x22_1 + 1)), (t539), (t540), (t541), (t542), (by first | rfl | (simp; done) | (simp [*]; done)), H', ⟨by have := HK1.out; omega⟩, ⟨by (with_reducible repeat (first | refine kN ?_ _ | refine kD ?_ | refine kA ?_ _)); refine blk_far ?_ NB530_536.out _; (with_reducible repeat (first | refine kN ?_ _ | refine kD ?_ | refine kA ?_ _)); refine blk_far ?_ NB530_536.out _; (with_reducible repeat (first | refine kN ?_ _ | refine kD ?_ | refine kA ?_ _)); exact BK530.out⟩, ⟨by (with_reducible repeat (first | refine kN ?_ _ | refine kD ?_ | refine kA ?_ _)); refine blk_far ?_ NB531_536.out _; (with_reducible repeat (first | refine kN ?_ _ | refine kD ?_ | refine kA ?_ _)); refine blk_far ?_ NB531_536.out _; (with_reducible repeat (first | refine kN ?_ _ | refine kD ?_ | refine kA ?_ _)); exact BK531.out⟩, ⟨by (with_reducible repeat (first | refine kN ?_ _ | refine kD ?_ | refine kA ?_ _)); refine blk_far ?_ NB535_536.out _; (with_reducible repeat (first | refine kN ?_ _ | refine kD ?_ | refine kA ?_ _)); refine blk_far ?_ NB535_536.out _; (with_reducible repeat (first | refine kN ?_ _ | refine kD ?_ | refine kA ?_ _)); exact BK535.out⟩, ⟨by (with_reducible repeat (first | refine kN ?_ _ | refine kD ?_ | refine kA ?_ _)); refine blk_put (cs := #[.int .i64 t541, .int .i64 x537001_1]) ?_ 1 _ rfl; (with_reducible repeat (first | refine kN ?_ _ | refine kD ?_ | refine kA ?_ _)); refine blk_put (cs := #[.int .i64 x537000_1, .int .i64 x537001_1]) ?_ 0 _ rfl; (with_reducible repeat (first | refine kN ?_ _ | refine kD ?_ | refine kA ?_ _)); exact BK536.out⟩, ⟨by repeat (first | (with_reducible first | exact HB.out | apply pA | apply pN | apply pD | refine pS ?_ GE530.out | refine pS ?_ GE531.out | refine pS ?_ GE535.out | refine pS ?_ GE536.out | refine pS ?_ GE538.out) | exact HB.out)⟩⟩
       ·rw [if_neg c18] at H
        exact absurd H (by simp)
      ·rw [if_neg c17] at H
       exact absurd H (by simp)
     ·rw [if_neg c16] at H
      have c16b0 : decide (x22_1 < (l0.length : Int)) = false := decide_eq_false c16
      clear c16
      simp only [Option.some.injEq, Prod.mk.injEq] at H
      obtain ⟨rfl, rfl, rfl, rfl, rfl⟩ := H
      try go_wp2
      have n0_ := aM (kD BK530.out)
      have n1_ := aM (kD BK531.out)
      have n2_ := aM (kD BK535.out)
      have n3_ := aM (kD BK536.out)
      have n4_ := aM (pD HB.out)
      clear BK530
      clear BK531
      clear BK535
      clear BK536
      clear HB
      have BK530 := n0_
      have BK531 := n1_
      have BK535 := n2_
      have BK536 := n3_
      have HB := n4_
      clear n0_ n1_ n2_ n3_ n4_
      refine start_ (n := 5) (S := fun w' => w'.cell? ⟨gb535, 0, none⟩ = some (.int .i64 x536000_1) ∧ w'.cell? ⟨gb535, 1, none⟩ = some (.int .i64 x536001_1) ∧ w'.cell? ⟨gb536, 0, none⟩ = some (.int .i64 x537000_1) ∧ w'.cell? ⟨gb536, 1, none⟩ = some (.int .i64 x537001_1)) (ds := []) #[false, false, false, false, false] (by kernel_rfl) rfl rfl ⟨(kC BK535.out 0).trans rfl, (kC BK535.out 1).trans rfl, (kC BK536.out 0).trans rfl, (kC BK536.out 1).trans rfl⟩ (fun hHeld => ?_)
      generalize wr.drew = w37 at BK530 BK531 BK535 BK536 HB hHeld ⊢
      refine take_ (i := 0) (N := some 49) (v := ?_) (a' := ?_) #[true, false, false, false, false] rfl rfl (by kernel_rfl) (fun _ _ _ h => h) (Or.inl ⟨by rfl, ?_⟩) hHeld ?_ ?_
      rotate_left
      ·rintro w' ⟨s0, s1, s2, s3⟩
       go_simp
       with_reducible rfl
      rotate_left
      ·simp only [Act.put, sI, sZ, sS, i64_w, i32_w]
       rfl
      refine take_ (i := 1) (N := some 50) (v := ?_) (a' := ?_) #[true, true, false, false, false] rfl rfl (by kernel_rfl) (fun _ _ _ h => h) (Or.inl ⟨by rfl, ?_⟩) hHeld ?_ ?_
      rotate_left
      ·rintro w' ⟨s0, s1, s2, s3⟩
       go_simp
       with_reducible rfl
      rotate_left
      ·simp only [Act.put, sI, sZ, sS, i64_w, i32_w]
       rfl
      refine one_ (i := 2) (N := none) #[true, true, true, false, false] rfl rfl (by kernel_rfl) (by decide) (fun K hK => ?_)
      have hs38 : w37.cell? ⟨gb530, 0, none⟩ = some (.int .i64 0) := (kC BK530.out 0).trans rfl
      have hfs38 := kF BK530.out 0
      have hns38_1 := NB531_530.out
      have hns38_2 := NB535_530.out
      have hns38_3 := NB536_530.out
      have hms38_1 := NB530_531.out
      have hms38_2 := NB530_535.out
      have hms38_3 := NB530_536.out
      have hs39 : w37.cell? ⟨gb530, 1, none⟩ = some (.int .i64 0) := (kC BK530.out 1).trans rfl
      have hfs39 := kF BK530.out 1
      have hns39_1 := NB531_530.out
      have hns39_2 := NB535_530.out
      have hns39_3 := NB536_530.out
      have hms39_1 := NB530_531.out
      have hms39_2 := NB530_535.out
      have hms39_3 := NB530_536.out
      refine skip_ (w1 := ?_) (by rfl) rfl ?_ ?_
      rotate_left
      ·go_simp
       rfl
      refine hK.out _ _ ⟨((cell_far (p := ⟨gb530, _, none⟩) NB535_530.out _).trans (((cell_far (p := ⟨gb530, _, none⟩) NB535_530.out _).trans (hHeld.1)))), ((cell_far (p := ⟨gb530, _, none⟩) NB535_530.out _).trans (((cell_far (p := ⟨gb530, _, none⟩) NB535_530.out _).trans (hHeld.2.1)))), ((cell_far (p := ⟨gb530, _, none⟩) NB536_530.out _).trans (((cell_far (p := ⟨gb530, _, none⟩) NB536_530.out _).trans (hHeld.2.2.1)))), ((cell_far (p := ⟨gb530, _, none⟩) NB536_530.out _).trans (((cell_far (p := ⟨gb530, _, none⟩) NB536_530.out _).trans (hHeld.2.2.2))))⟩ (fun hHeld => ?_)
      clear hK K
      refine one_ (i := 3) (N := none) #[true, true, true, true, false] rfl rfl (by kernel_rfl) (by decide) (fun K hK => ?_)
      have hs40 : w37.cell? ⟨gb531, 0, none⟩ = some (.int .i64 0) := (kC BK531.out 0).trans rfl
      have hfs40 := kF BK531.out 0
      have hns40_0 := NB530_531.out
      have hns40_2 := NB535_531.out
      have hns40_3 := NB536_531.out
      have hms40_0 := NB531_530.out
      have hms40_2 := NB531_535.out
      have hms40_3 := NB531_536.out
      have hs41 : w37.cell? ⟨gb531, 1, none⟩ = some (.int .i64 0) := (kC BK531.out 1).trans rfl
      have hfs41 := kF BK531.out 1
      have hns41_0 := NB530_531.out
      have hns41_2 := NB535_531.out
      have hns41_3 := NB536_531.out
      have hms41_0 := NB531_530.out
      have hms41_2 := NB531_535.out
      have hms41_3 := NB531_536.out
      refine skip_ (w1 := ?_) (by rfl) rfl ?_ ?_
      rotate_left
      ·go_simp
       rfl
      refine hK.out _ _ ⟨((cell_far (p := ⟨gb531, _, none⟩) NB535_531.out _).trans (((cell_far (p := ⟨gb531, _, none⟩) NB535_531.out _).trans (hHeld.1)))), ((cell_far (p := ⟨gb531, _, none⟩) NB535_531.out _).trans (((cell_far (p := ⟨gb531, _, none⟩) NB535_531.out _).trans (hHeld.2.1)))), ((cell_far (p := ⟨gb531, _, none⟩) NB536_531.out _).trans (((cell_far (p := ⟨gb531, _, none⟩) NB536_531.out _).trans (hHeld.2.2.1)))), ((cell_far (p := ⟨gb531, _, none⟩) NB536_531.out _).trans (((cell_far (p := ⟨gb531, _, none⟩) NB536_531.out _).trans (hHeld.2.2.2))))⟩ (fun hHeld => ?_)
      clear hK K
      refine pure_ (i := 4) (N := some 4) (v := ?_) (a' := ?_) #[true, true, true, true, true] rfl rfl (by kernel_rfl) (fun _ _ _ h => h) (Or.inl ⟨by rfl, ?_⟩) ?_ ?_
      rotate_left
      ·intro w'
       go_simp
       with_reducible rfl
      rotate_left
      ·simp only [Act.put, sI, sZ, sS, i64_w, i32_w]
       rfl
      refine done_ (by kernel_rfl) ?_
      try go_wp2
      refine bodyPost_ret (results_list (rs := [.cell 2 62, .cell 3 62, .tmp 4]) rfl (by simp) (.cell gb530 62 #[.int .i64 x536000_1, .int .i64 x536001_1] (0, 0) _ rfl (by (with_reducible repeat (first | refine kN ?_ _ | refine kD ?_ | refine kA ?_ _)); refine blk_far ?_ NB530_531.out _; (with_reducible repeat (first | refine kN ?_ _ | refine kD ?_ | refine kA ?_ _)); refine blk_far ?_ NB530_531.out _; (with_reducible repeat (first | refine kN ?_ _ | refine kD ?_ | refine kA ?_ _)); refine blk_put (cs := #[.int .i64 x536000_1, .int .i64 0]) ?_ 1 _ rfl; (with_reducible repeat (first | refine kN ?_ _ | refine kD ?_ | refine kA ?_ _)); refine blk_put (cs := #[.int .i64 0, .int .i64 0]) ?_ 0 _ rfl; (with_reducible repeat (first | refine kN ?_ _ | refine kD ?_ | refine kA ?_ _)); exact BK530.out) Try.underlying62 rfl (by kernel_rfl) (.cell gb531 62 #[.int .i64 x537000_1, .int .i64 x537001_1] (0, 0) _ rfl (by (with_reducible repeat (first | refine kN ?_ _ | refine kD ?_ | refine kA ?_ _)); refine blk_put (cs := #[.int .i64 x537000_1, .int .i64 0]) ?_ 1 _ rfl; (with_reducible repeat (first | refine kN ?_ _ | refine kD ?_ | refine kA ?_ _)); refine blk_put (cs := #[.int .i64 0, .int .i64 0]) ?_ 0 _ rfl; (with_reducible repeat (first | refine kN ?_ _ | refine kD ?_ | refine kA ?_ _)); refine blk_far ?_ NB531_530.out _; (with_reducible repeat (first | refine kN ?_ _ | refine kD ?_ | refine kA ?_ _)); refine blk_far ?_ NB531_530.out _; (with_reducible repeat (first | refine kN ?_ _ | refine kD ?_ | refine kA ?_ _)); exact BK531.out) Try.underlying62 rfl (by kernel_rfl) (.tmp .nil)))) rfl ?_
      exact ⟨by first | rfl | (simp [errW_none, errW_some] <;> rfl) | (simp [*, errW_none, errW_some] <;> rfl), by repeat (first | (with_reducible first | exact HB.out | apply pA | apply pN | apply pD | refine pS ?_ GE530.out | refine pS ?_ GE531.out | refine pS ?_ GE535.out | refine pS ?_ GE536.out) | exact HB.out)⟩
  ·rw [if_neg c4] at H
   exact absurd H (by simp)
 ·replace c3 := Bool.eq_false_iff.mpr c3
  subst c3
  have H1 : (some (0, 0, 0, 0, false)) = some (r1, r2, r3, r4, r5) := by rw [if_neg (show ¬ (false = true) by decide)] at H; exact H
  clear H
  have H := H1
  clear H1
  simp only [Option.some.injEq, Prod.mk.injEq] at H
  obtain ⟨rfl, rfl, rfl, rfl, rfl⟩ := H
  go_enter Try.func47, Try.ntmps47
  go_wp2_with (first | ((with_reducible refine gate_dst (N := 2) rfl ?_); refine box_event ?hg (N := 2) ?hd (cs := #[.int .i64 0, .int .i64 0]) (t := 62) ?hr ?_; (case hd => rfl); (case hg => rfl); (case hr => first | (go_simp; done) | (go_simp; rfl)); intro gb530 hg w42 hbox hb; have n0_ := aM (pT (by repeat (first | (with_reducible first | exact HB.out | apply pA | apply pN | apply pD) | exact HB.out)) hb); have n1_ := aM (hbox); have n2_ := aM ((by rw [hg]; exact (pZ (by repeat (first | (with_reducible first | exact HB.out | apply pA | apply pN | apply pD) | exact HB.out))) : w.heap.size ≤ gb530)); have n3_ := aM ((by rw [hg]; exact (pZ (by repeat (first | (with_reducible first | exact HB.out | apply pA | apply pN | apply pD) | exact HB.out))) : w.heap.size ≤ gb530)); clear HB; have HB := n0_; have BK530 := n1_; have GW530 := n2_; have GE530 := n3_; clear n0_ n1_ n2_ n3_; clear hb hbox hg) | ((with_reducible refine gate_dst (N := 3) rfl ?_); refine box_event ?hg (N := 3) ?hd (cs := #[.int .i64 0, .int .i64 0]) (t := 62) ?hr ?_; (case hd => rfl); (case hg => rfl); (case hr => first | (go_simp; done) | (go_simp; rfl)); intro gb531 hg w43 hbox hb; have n0_ := aM (blk_below (g := gb530) (o := .cells #[.int .i64 0, .int .i64 0] 62 (0, 0)) (by (with_reducible repeat (first | refine kN ?_ _ | refine kD ?_ | refine kA ?_ _)); exact BK530.out) hb); have n1_ := aM (pT (by repeat (first | (with_reducible first | exact HB.out | apply pA | apply pN | apply pD | refine pS ?_ GE530.out) | exact HB.out)) hb); have n2_ := aM (hbox); have n3_ := aM ((by rw [hg]; exact (pZ (by repeat (first | (with_reducible first | exact HB.out | apply pA | apply pN | apply pD | refine pS ?_ GE530.out) | exact HB.out))) : w.heap.size ≤ gb531)); have n4_ := aM ((by rw [hg]; exact (pZ (by repeat (first | (with_reducible first | exact HB.out | apply pA | apply pN | apply pD | refine pS ?_ GE530.out) | exact HB.out))) : w.heap.size ≤ gb531)); have n5_ := aM ((by rw [hg]; exact nN (blk_lt (g := gb530) (o := .cells #[.int .i64 0, .int .i64 0] 62 (0, 0)) (by (with_reducible repeat (first | refine kN ?_ _ | refine kD ?_ | refine kA ?_ _)); exact BK530.out)) : gb530 ≠ gb531)); have n6_ := aM ((by rw [hg]; exact Nat.ne_of_gt (blk_lt (g := gb530) (o := .cells #[.int .i64 0, .int .i64 0] 62 (0, 0)) (by (with_reducible repeat (first | refine kN ?_ _ | refine kD ?_ | refine kA ?_ _)); exact BK530.out)) : gb531 ≠ gb530)); clear BK530; clear HB; have BK530 := n0_; have HB := n1_; have BK531 := n2_; have GW531 := n3_; have GE531 := n4_; have NB530_531 := n5_; have NB531_530 := n6_; clear n0_ n1_ n2_ n3_ n4_ n5_ n6_; clear hb hbox hg) | ((with_reducible refine gC (f := 63) rfl ?_); refine goesL_ (some 10) rfl rfl Try.func63 (by kernel_rfl) rfl #[.slice A0 l0.length c0] rfl (by (try simp only [mA, mC, mN]); first | done | rfl | (simp only [lD, lT]; rfl)) ?_; (with_reducible refine (spec_trThree.calls k _ _ l0 false _ ?side1 ?side2 A2.out).mono ?_); (case side1 => repeat (first | exact (Kd.C_below HR0.out HB.out) | (with_reducible refine cA ?_ _) | (with_reducible refine cN ?_ _) | (with_reducible refine cD ?_))); (case side2 => exact HC0.out); rintro e w44 ⟨rfl, hb⟩; refine ⟨_, rfl, ?_⟩; have n0_ := aM (blk_below (g := gb530) (o := .cells #[.int .i64 0, .int .i64 0] 62 (0, 0)) (by (with_reducible repeat (first | refine kN ?_ _ | refine kD ?_ | refine kA ?_ _)); exact BK530.out) hb); have n1_ := aM (blk_below (g := gb531) (o := .cells #[.int .i64 0, .int .i64 0] 62 (0, 0)) (by (with_reducible repeat (first | refine kN ?_ _ | refine kD ?_ | refine kA ?_ _)); exact BK531.out) hb); have n2_ := aM (pT (by repeat (first | (with_reducible first | exact HB.out | apply pA | apply pN | apply pD | refine pS ?_ GE530.out | refine pS ?_ GE531.out) | exact HB.out)) hb); clear BK530; clear BK531; clear HB; have BK530 := n0_; have BK531 := n1_; have HB := n2_; clear n0_ n1_ n2_; (try clear hb); (try clear hb2); (try clear hk); (try clear hi); have hnb45 := NB530_531.out; have hnc45 := NB531_530.out; have hcz46_0 : w44.cell? ⟨gb530, 0, none⟩ = some (.int .i64 0) := (kC BK530.out 0).trans rfl; have hcz46_1 : w44.cell? ⟨gb530, 1, none⟩ = some (.int .i64 0) := (kC BK530.out 1).trans rfl; have hfz46_0 := kF BK530.out 0; have hfz46_1 := kF BK530.out 1; have hcz47_0 : w44.cell? ⟨gb531, 0, none⟩ = some (.int .i64 0) := (kC BK531.out 0).trans rfl; have hcz47_1 : w44.cell? ⟨gb531, 1, none⟩ = some (.int .i64 0) := (kC BK531.out 1).trans rfl; have hfz47_0 := kF BK531.out 0; have hfz47_1 := kF BK531.out 1))
  refine bodyPost_ret (results_list (rs := [.cell 2 62, .cell 3 62, .tmp 4]) rfl (by simp) (.cell gb530 62 #[.int .i64 0, .int .i64 0] (0, 0) _ rfl (by (with_reducible repeat (first | refine kN ?_ _ | refine kD ?_ | refine kA ?_ _)); refine blk_far ?_ NB530_531.out _; (with_reducible repeat (first | refine kN ?_ _ | refine kD ?_ | refine kA ?_ _)); refine blk_far ?_ NB530_531.out _; (with_reducible repeat (first | refine kN ?_ _ | refine kD ?_ | refine kA ?_ _)); refine blk_put (cs := #[.int .i64 0, .int .i64 0]) ?_ 1 _ rfl; (with_reducible repeat (first | refine kN ?_ _ | refine kD ?_ | refine kA ?_ _)); refine blk_put (cs := #[.int .i64 0, .int .i64 0]) ?_ 0 _ rfl; (with_reducible repeat (first | refine kN ?_ _ | refine kD ?_ | refine kA ?_ _)); exact BK530.out) Try.underlying62 rfl (by kernel_rfl) (.cell gb531 62 #[.int .i64 0, .int .i64 0] (0, 0) _ rfl (by (with_reducible repeat (first | refine kN ?_ _ | refine kD ?_ | refine kA ?_ _)); refine blk_put (cs := #[.int .i64 0, .int .i64 0]) ?_ 1 _ rfl; (with_reducible repeat (first | refine kN ?_ _ | refine kD ?_ | refine kA ?_ _)); refine blk_put (cs := #[.int .i64 0, .int .i64 0]) ?_ 0 _ rfl; (with_reducible repeat (first | refine kN ?_ _ | refine kD ?_ | refine kA ?_ _)); refine blk_far ?_ NB531_530.out _; (with_reducible repeat (first | refine kN ?_ _ | refine kD ?_ | refine kA ?_ _)); refine blk_far ?_ NB531_530.out _; (with_reducible repeat (first | refine kN ?_ _ | refine kD ?_ | refine kA ?_ _)); exact BK531.out) Try.underlying62 rfl (by kernel_rfl) (.tmp .nil)))) rfl ?_
  exact ⟨by first | rfl | (simp [errW_none, errW_some] <;> rfl) | (simp [*, errW_none, errW_some] <;> rfl), by repeat (first | (with_reducible first | exact HB.out | apply pA | apply pN | apply pD | refine pS ?_ GE530.out | refine pS ?_ GE531.out) | exact HB.out)⟩

end Go.Proofs.Ytnlkglbpihgcmaa.X
