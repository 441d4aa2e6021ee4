-- thin
-- short
import Derived.Test.YtnlkglbpihgcmaaXA
import Derived.Test.YtnlkglbpihgcmaaX0
import Derived.Test.YtnlkglbpihgcmaaX13
namespace Go.Proofs.Ytnlkglbpihgcmaa.X
open Go.RowKit Go.Proofs.Ytnlkglbpihgcmaa.XW Go.Proofs.YtnlkglbpihgcmaaW.PrintWords Go.Proofs.YtnlkglbpihgcmaaW.PrintLast Go.Proofs.YtnlkglbpihgcmaaW.PrintMore
attribute [local go_sem] max2_int min2_int max_two min_two max_three min_three max_four min_four   -- for this text's walks alone
set_option linter.unusedVariables false
set_option linter.unusedSimpArgs false

def impl_ThriceCentre.f (k : Nat) (l0 : List (S_impl_Peg)) : Option (Int × Int × Bool) := (impl_isThree.f k l0).bind fun t317 => (if t317 = true then (if 0 < (l0.length : Int) then (if 1 < (l0.length : Int) then ((impl_Peg_plus.f ((rd_impl_Peg l0 0).f0) ((rd_impl_Peg l0 0).f1) ((rd_impl_Peg l0 1).f0) ((rd_impl_Peg l0 1).f1)).bind fun bt320 => (if 2 < (l0.length : Int) then ((impl_Peg_plus.f bt320.1 bt320.2 ((rd_impl_Peg l0 2).f0) ((rd_impl_Peg l0 2).f1)).bind fun bt323 => (some (bt323.1, bt323.2, true))) else (none))) else (none)) else (none)) else (some (0, 0, false)))
theorem impl_ThriceCentre.mono : ∀ a0 k, LeO (impl_ThriceCentre.f k a0) (impl_ThriceCentre.f (k + 1) a0) := by
 intro a0 k
 unfold impl_ThriceCentre.f
 repeat' first
   | (with_reducible exact impl_isThree.mono _ _)
   | (with_reducible exact LeO.refl _)
   | (with_reducible exact LeO.none _)
   | (with_reducible refine LeO.ite ?_ ?_)
   | (with_reducible refine LeO.bind ?_ (fun _ => ?_))
   | exact impl_isThree.mono _ _
   | exact LeO.none _
   | refine LeO.ite ?_ ?_
   | refine LeO.bind ?_ (fun _ => ?_)
def impl_ThriceCentre.T3 : Bool × List (List Nat × List Nat) := (true, [([], []), ([0], [0]), ([1], [1]), ([], []), ([3], [3]), ([4], [4]), ([2, 5], [2, 5]), ([], []), ([7], [7]), ([8], [8]), ([6, 9, 6], [6, 9]), ([], []), ([11, 10, 10, 0, 1, 2, 3, 4, 5, 6, 7, 8, 9, 10, 11], [10, 11])])
def impl_ThriceCentre.B3 : List Nat := [0, 1, 3, 0, 8, 24, 63, 0, 128, 384, 1023, 0, 4095]
theorem impl_ThriceCentre.tab3 : rtab .any (opsOf Try.f26 3) = impl_ThriceCentre.T3 := by kernel_rfl
theorem impl_ThriceCentre.bits3 : waitsOk impl_ThriceCentre.T3.2 impl_ThriceCentre.B3 = true := by kernel_rfl
set_option maxHeartbeats 8000000 in
set_option maxRecDepth 100000 in
theorem impl_ThriceCentre.calls (k : Nat) (A0 : Option Addr) (c0 : Nat) (l0 : List (S_impl_Peg)) (r1 : Int) (r2 : Int) (r3 : Bool) (w : World) (hr0 : Kd.C kd_impl_Peg w A0 l0.length l0) (hc0 : l0.length ≤ c0) (h : impl_ThriceCentre.f k l0 = some (r1, r2, r3)) :
  Calls Try.prog 26 #[.slice A0 l0.length c0] w fun e w' => e = .returned (.tuple #[.int .i64 r1, .int .i64 r2, .bool r3]) ∧ Below w.heap.size w w' := by
 have hu62 := Try.underlying62
 have HR0 := aM hr0
 have HC0 := aM hc0
 clear hr0 hc0
 have HB := aM (Below.refl w.heap.size w)
 have H : ((impl_isThree.f k l0).bind fun t317 => (if t317 = true then (if 0 < (l0.length : Int) then (if 1 < (l0.length : Int) then ((impl_Peg_plus.f ((rd_impl_Peg l0 0).f0) ((rd_impl_Peg l0 0).f1) ((rd_impl_Peg l0 1).f0) ((rd_impl_Peg l0 1).f1)).bind fun bt320 => (if 2 < (l0.length : Int) then ((impl_Peg_plus.f bt320.1 bt320.2 ((rd_impl_Peg l0 2).f0) ((rd_impl_Peg l0 2).f1)).bind fun bt323 => (some (bt323.1, bt323.2, true))) else (none))) else (none)) else (none)) else (some (0, 0, false)))) = some (r1, r2, r3) := h
 clear h
 replace H := oB.mp H
 obtain ⟨t317, A20, H⟩ := H
 replace H : (if t317 = true then (if 0 < (l0.length : Int) then (if 1 < (l0.length : Int) then ((impl_Peg_plus.f ((rd_impl_Peg l0 0).f0) ((rd_impl_Peg l0 0).f1) ((rd_impl_Peg l0 1).f0) ((rd_impl_Peg l0 1).f1)).bind fun bt320 => (if 2 < (l0.length : Int) then ((impl_Peg_plus.f bt320.1 bt320.2 ((rd_impl_Peg l0 2).f0) ((rd_impl_Peg l0 2).f1)).bind fun bt323 => (some (bt323.1, bt323.2, true))) else (none))) else (none)) else (none)) else (some (0, 0, false))) = some (r1, r2, r3) := H
 have A2 := aM A20
 clear A20
 by_cases c3 : t317 = true
 ·subst c3
  have H1 : (if 0 < (l0.length : Int) then (if 1 < (l0.length : Int) then ((impl_Peg_plus.f ((rd_impl_Peg l0 0).f0) ((rd_impl_Peg l0 0).f1) ((rd_impl_Peg l0 1).f0) ((rd_impl_Peg l0 1).f1)).bind fun bt320 => (if 2 < (l0.length : Int) then ((impl_Peg_plus.f bt320.1 bt320.2 ((rd_impl_Peg l0 2).f0) ((rd_impl_Peg l0 2).f1)).bind fun bt323 => (some (bt323.1, bt323.2, true))) else (none))) else (none)) else (none)) = some (r1, r2, r3) := by rw [if_pos rfl] at H; exact H
  clear H
  have H := H1
  clear H1
  by_cases c4 : 0 < (l0.length : Int)
  ·rw [if_pos c4] at H
   have c4b0 : decide (0 < (l0.length : Int)) = true := dE c4
   have c4b1 : decide (0 < l0.length) = true := dE (by omega)
   clear c4
   by_cases c5 : 1 < (l0.length : Int)
   ·rw [if_pos c5] at H
    have c5b0 : decide (1 < (l0.length : Int)) = true := dE c5
    have c5b1 : decide (1 < l0.length) = true := dE (by omega)
    clear c5
    replace H := oB.mp H
    obtain ⟨⟨t320, t321⟩, A60, H⟩ := H
    replace H : (if 2 < (l0.length : Int) then ((impl_Peg_plus.f t320 t321 ((rd_impl_Peg l0 2).f0) ((rd_impl_Peg l0 2).f1)).bind fun bt323 => (some (bt323.1, bt323.2, true))) else (none)) = some (r1, r2, r3) := H
    have A6 := aM A60
    clear A60
    by_cases c7 : 2 < (l0.length : Int)
    ·rw [if_pos c7] at H
     have c7b0 : decide (2 < (l0.length : Int)) = true := dE c7
     have c7b1 : decide (2 < l0.length) = true := dE (by omega)
     clear c7
     replace H := oB.mp H
     obtain ⟨⟨t323, t324⟩, A80, H⟩ := H
     replace H : (some (t323, t324, true)) = some (r1, r2, r3) := H
     have A8 := aM A80
     clear A80
     simp only [Option.some.injEq, Prod.mk.injEq] at H
     obtain ⟨rfl, rfl, rfl⟩ := H
     go_enter Try.func26, Try.ntmps26
     try go_wp2_with (first | ((with_reducible refine gC (f := 64) rfl ?_); refine goesL_ (some 7) rfl rfl Try.func64 (by kernel_rfl) rfl #[.slice A0 l0.length c0] rfl (by (try simp only [mA, mC, mN]); first | done | rfl | (simp only [lD, lT]; rfl)) ?_; (with_reducible refine (impl_isThree.calls k _ _ l0 true _ ?side1 ?side2 A2.out).mono ?_); (case side1 => repeat (first | exact HR0.out | (with_reducible refine cA ?_ _) | (with_reducible refine cN ?_ _) | (with_reducible refine cD ?_))); (case side2 => exact HC0.out); rintro e w9 ⟨rfl, hb⟩; refine ⟨_, rfl, ?_⟩; have n0_ := aM (pT (by repeat (first | (with_reducible first | exact HB.out | apply pA | apply pN | apply pD) | exact HB.out)) hb); clear HB; have HB := n0_; clear n0_; (try clear hb); (try clear hb2); (try clear hk); (try clear hi)))
     have n0_ := aM (pD HB.out)
     clear HB
     have HB := n0_
     clear n0_
     have p318 : 0 ≤ (0 : Int) := (by omega)
     have q318 : 0 < (l0.length : Int) := dT (by first | (with_reducible assumption) | assumption)
     obtain ⟨ad318, e318, hx318_0, hx318_1⟩ := at_impl_Peg HR0.out 0 p318 q318
     have hw318_1 := hx318_1
     (try rw [show ((0 : Int)).toNat = 0 from rfl] at hw318_1)
     (try rw [show 0 * 2 = 0 from rfl] at hw318_1)
     (try rw [Addr.add_zero'] at hw318_1)
     have hw318_0 := hx318_0
     (try rw [show ((0 : Int)).toNat = 0 from rfl] at hw318_0)
     (try rw [show 0 * 2 = 0 from rfl] at hw318_0)
     (try rw [Addr.add_zero'] at hw318_0)
     cases e318
     have qi318 : (0 < l0.length) = True := eq_true (by omega)
     (try rw [show ((0 : Int)).toNat = 0 from rfl] at hx318_0)
     (try rw [show 0 * 2 = 0 from rfl] at hx318_0)
     (try rw [Addr.add_zero'] at hx318_0)
     (try rw [show ((0 : Int)).toNat = 0 from rfl] at hx318_1)
     (try rw [show 0 * 2 = 0 from rfl] at hx318_1)
     (try rw [Addr.add_zero'] at hx318_1)
     replace hx318_0 := (HB.out.cell (wB w _ hx318_0)).trans hx318_0
     replace hx318_1 := (HB.out.cell (wB w _ hx318_1)).trans hx318_1
     replace p318 := eq_true p318
     replace q318 := eq_true q318
     have p319 : 0 ≤ (1 : Int) := (by omega)
     have q319 : 1 < (l0.length : Int) := dT (by first | (with_reducible assumption) | assumption)
     obtain ⟨ad319, e319, hx319_0, hx319_1⟩ := at_impl_Peg HR0.out 1 p319 q319
     have hw319_1 := hx319_1
     (try rw [show ((1 : Int)).toNat = 1 from rfl] at hw319_1)
     (try rw [show 1 * 2 = 2 from rfl] at hw319_1)
     (try simp only [Nat.reduceMul, Nat.reduceEqDiff, Go.Addr.add, ↓reduceIte] at hw319_1)
     have hw319_0 := hx319_0
     (try rw [show ((1 : Int)).toNat = 1 from rfl] at hw319_0)
     (try rw [show 1 * 2 = 2 from rfl] at hw319_0)
     (try simp only [Nat.reduceMul, Nat.reduceEqDiff, Go.Addr.add, ↓reduceIte] at hw319_0)
     obtain rfl : ad318 = ad319 := (by injection e319)
     (try simp only [show (1 : Int).toNat = 1 from rfl, Nat.reduceMul, Nat.reduceEqDiff, Go.Addr.add, ↓reduceIte] at hx319_0)
     (try simp only [show (1 : Int).toNat = 1 from rfl, Nat.reduceMul, Nat.reduceEqDiff, Go.Addr.add, ↓reduceIte] at hx319_1)
     have qi319 : (1 < l0.length) = True := eq_true (by omega)
     (try rw [show ((1 : Int)).toNat = 1 from rfl] at hx319_0)
     (try rw [show 1 * 2 = 2 from rfl] at hx319_0)
     (try rw [show ((1 : Int)).toNat = 1 from rfl] at hx319_1)
     (try rw [show 1 * 2 = 2 from rfl] at hx319_1)
     replace hx319_0 := (HB.out.cell (wB w _ hx319_0)).trans hx319_0
     replace hx319_1 := (HB.out.cell (wB w _ hx319_1)).trans hx319_1
     replace p319 := eq_true p319
     replace q319 := eq_true q319
     have p322 : 0 ≤ (2 : Int) := (by omega)
     have q322 : 2 < (l0.length : Int) := dT (by first | (with_reducible assumption) | assumption)
     obtain ⟨ad322, e322, hx322_0, hx322_1⟩ := at_impl_Peg HR0.out 2 p322 q322
     have hw322_1 := hx322_1
     (try rw [show ((2 : Int)).toNat = 2 from rfl] at hw322_1)
     (try rw [show 2 * 2 = 4 from rfl] at hw322_1)
     (try simp only [Nat.reduceMul, Nat.reduceEqDiff, Go.Addr.add, ↓reduceIte] at hw322_1)
     have hw322_0 := hx322_0
     (try rw [show ((2 : Int)).toNat = 2 from rfl] at hw322_0)
     (try rw [show 2 * 2 = 4 from rfl] at hw322_0)
     (try simp only [Nat.reduceMul, Nat.reduceEqDiff, Go.Addr.add, ↓reduceIte] at hw322_0)
     obtain rfl : ad318 = ad322 := (by injection e322)
     (try simp only [show (2 : Int).toNat = 2 from rfl, Nat.reduceMul, Nat.reduceEqDiff, Go.Addr.add, ↓reduceIte] at hx322_0)
     (try simp only [show (2 : Int).toNat = 2 from rfl, Nat.reduceMul, Nat.reduceEqDiff, Go.Addr.add, ↓reduceIte] at hx322_1)
     have qi322 : (2 < l0.length) = True := eq_true (by omega)
     (try rw [show ((2 : Int)).toNat = 2 from rfl] at hx322_0)
     (try rw [show 2 * 2 = 4 from rfl] at hx322_0)
     (try rw [show ((2 : Int)).toNat = 2 from rfl] at hx322_1)
     (try rw [show 2 * 2 = 4 from rfl] at hx322_1)
     replace hx322_0 := (HB.out.cell (wB w _ hx322_0)).trans hx322_0
     replace hx322_1 := (HB.out.cell (wB w _ hx322_1)).trans hx322_1
     replace p322 := eq_true p322
     replace q322 := eq_true q322
     refine start_ (n := 13) (S := fun w' => w'.cell? ad318 = some (.int .i64 ((rd_impl_Peg l0 0).f0)) ∧ w'.cell? ⟨ad318.block, ad318.off + 1, none⟩ = some (.int .i64 ((rd_impl_Peg l0 0).f1)) ∧ w'.cell? ⟨ad318.block, ad318.off + 2, none⟩ = some (.int .i64 ((rd_impl_Peg l0 1).f0)) ∧ w'.cell? ⟨ad318.block, ad318.off + 2 + 1, none⟩ = some (.int .i64 ((rd_impl_Peg l0 1).f1)) ∧ w'.cell? ⟨ad318.block, ad318.off + 4, none⟩ = some (.int .i64 ((rd_impl_Peg l0 2).f0)) ∧ w'.cell? ⟨ad318.block, ad318.off + 4 + 1, none⟩ = some (.int .i64 ((rd_impl_Peg l0 2).f1))) (ds := []) #[false, false, false, false, false, false, false, false, false, false, false, false, false] (by kernel_rfl) rfl rfl ⟨((HB.out.cell (wB w _ hw318_0)).trans hw318_0), ((HB.out.cell (wB w _ hw318_1)).trans hw318_1), ((HB.out.cell (wB w _ hw319_0)).trans hw319_0), ((HB.out.cell (wB w _ hw319_1)).trans hw319_1), ((HB.out.cell (wB w _ hw322_0)).trans hw322_0), ((HB.out.cell (wB w _ hw322_1)).trans hw322_1)⟩ (fun hHeld => ?_); refine with_tabW impl_ThriceCentre.tab3 impl_ThriceCentre.bits3 (fun HT_ HW_ => ?_)
     generalize w9.drew = w10 at HB hx318_0 hx318_1 hx319_0 hx319_1 hx322_0 hx322_1 hHeld ⊢
     refine pure_ (i := 0) (N := some 9) (v := ?_) (a' := ?_) #[true, false, false, false, false, false, false, false, false, false, false, false, false] rfl rfl (any_of HT_.out (by kernel_rfl)) (fun _ _ _ h => h) (Or.inl ⟨by rfl, ?_⟩) ?_ ?_
     rotate_left
     ·intro w'
      go_simp
      with_reducible rfl
     rotate_left
     ·simp only [Act.put, sI, sZ, sS, i64_w, i32_w]
      rfl
     refine pure_ (i := 1) (N := some 10) (v := ?_) (a' := ?_) #[true, true, false, false, false, false, false, false, false, false, false, false, false] rfl rfl (any_of HT_.out (by kernel_rfl)) (fun _ _ _ h => h) (Or.inl ⟨by rfl, ?_⟩) ?_ ?_
     rotate_left
     ·intro w'
      go_simp
      with_reducible rfl
     rotate_left
     ·simp only [Act.put, sI, sZ, sS, i64_w, i32_w]
      rfl
     refine pure_ (i := 3) (N := some 12) (v := ?_) (a' := ?_) #[true, true, false, true, false, false, false, false, false, false, false, false, false] rfl rfl (any_of HT_.out (by kernel_rfl)) (fun _ _ _ h => h) (Or.inl ⟨by rfl, ?_⟩) ?_ ?_
     rotate_left
     ·intro w'
      go_simp
      with_reducible rfl
     rotate_left
     ·simp only [Act.put, sI, sZ, sS, i64_w, i32_w]
      rfl
     refine pure_ (i := 4) (N := some 13) (v := ?_) (a' := ?_) #[true, true, false, true, true, false, false, false, false, false, false, false, false] rfl rfl (any_of HT_.out (by kernel_rfl)) (fun _ _ _ h => h) (Or.inl ⟨by rfl, ?_⟩) ?_ ?_
     rotate_left
     ·intro w'
      go_simp
      with_reducible rfl
     rotate_left
     ·simp only [Act.put, sI, sZ, sS, i64_w, i32_w]
      rfl
     refine pure_ (i := 7) (N := some 16) (v := ?_) (a' := ?_) #[true, true, false, true, true, false, false, true, false, false, false, false, false] rfl rfl (any_of HT_.out (by kernel_rfl)) (fun _ _ _ h => h) (Or.inl ⟨by rfl, ?_⟩) ?_ ?_
     rotate_left
     ·intro w'
      go_simp
      with_reducible rfl
     rotate_left
     ·simp only [Act.put, sI, sZ, sS, i64_w, i32_w]
      rfl
     refine pure_ (i := 8) (N := some 17) (v := ?_) (a' := ?_) #[true, true, false, true, true, false, false, true, true, false, false, false, false] rfl rfl (any_of HT_.out (by kernel_rfl)) (fun _ _ _ h => h) (Or.inl ⟨by rfl, ?_⟩) ?_ ?_
     rotate_left
     ·intro w'
      go_simp
      with_reducible rfl
     rotate_left
     ·simp only [Act.put, sI, sZ, sS, i64_w, i32_w]
      rfl
     refine take_ (i := 2) (N := some 11) (v := ?_) (a' := ?_) #[true, true, true, true, true, false, false, true, true, false, false, false, false] rfl rfl (take_ofW HT_.out HW_.out (by kernel_rfl)) (fun _ _ _ h => h) (Or.inl ⟨by rfl, ?_⟩) hHeld ?_ ?_
     rotate_left
     ·rintro w' ⟨s0, s1, s2, s3, s4, s5⟩
      go_simp
      with_reducible rfl
     rotate_left
     ·simp only [Act.put, sI, sZ, sS, i64_w, i32_w]
      rfl
     refine take_ (i := 5) (N := some 14) (v := ?_) (a' := ?_) #[true, true, true, true, true, true, false, true, true, false, false, false, false] rfl rfl (take_ofW HT_.out HW_.out (by kernel_rfl)) (fun _ _ _ h => h) (Or.inl ⟨by rfl, ?_⟩) hHeld ?_ ?_
     rotate_left
     ·rintro w' ⟨s0, s1, s2, s3, s4, s5⟩
      go_simp
      with_reducible rfl
     rotate_left
     ·simp only [Act.put, sI, sZ, sS, i64_w, i32_w]
      rfl
     refine take_ (i := 9) (N := some 18) (v := ?_) (a' := ?_) #[true, true, true, true, true, true, false, true, true, true, false, false, false] rfl rfl (take_ofW HT_.out HW_.out (by kernel_rfl)) (fun _ _ _ h => h) (Or.inl ⟨by rfl, ?_⟩) hHeld ?_ ?_
     rotate_left
     ·rintro w' ⟨s0, s1, s2, s3, s4, s5⟩
      go_simp
      with_reducible rfl
     rotate_left
     ·simp only [Act.put, sI, sZ, sS, i64_w, i32_w]
      rfl
     refine join_ (σ := Nat) 1 #[true, true, true, true, true, true, true, true, true, true, true, true, false] (fun s_ => [(15, .agg #[.int .i64 t320, .int .i64 t321]), (19, .agg #[.int .i64 t323, .int .i64 t324]), (5, .pointer (some ⟨s_, 0, none⟩))]) (fun s_ w' => (w'.cell? ad318 = some (.int .i64 ((rd_impl_Peg l0 0).f0)) ∧ w'.cell? ⟨ad318.block, ad318.off + 1, none⟩ = some (.int .i64 ((rd_impl_Peg l0 0).f1)) ∧ w'.cell? ⟨ad318.block, ad318.off + 2, none⟩ = some (.int .i64 ((rd_impl_Peg l0 1).f0)) ∧ w'.cell? ⟨ad318.block, ad318.off + 2 + 1, none⟩ = some (.int .i64 ((rd_impl_Peg l0 1).f1)) ∧ w'.cell? ⟨ad318.block, ad318.off + 4, none⟩ = some (.int .i64 ((rd_impl_Peg l0 2).f0)) ∧ w'.cell? ⟨ad318.block, ad318.off + 4 + 1, none⟩ = some (.int .i64 ((rd_impl_Peg l0 2).f1))) ∧ (w'.heap[s_]? = some (.cells #[.int .i64 0, .int .i64 0] 62 (0, 0))) ∧ (w.heap.size ≤ s_) ∧ (w.heap.size ≤ s_) ∧ (Below w.heap.size w w')) ?_ ?_
     rotate_left
     ·intro hCont
      refine two_ (i := 6) (j := 11) (Ni := some 15) (Nj := some 5) #[true, true, true, true, true, true, true, true, true, true, false, false, false] #[true, true, true, true, true, true, false, true, true, true, false, true, false] rfl rfl rfl rfl (two_of HT_.out (by kernel_rfl)) (by decide) (by decide) (fun K hK => ?_) (fun K hK => ?_)
      ·skip
       refine goes_ Try.func65 (by kernel_rfl) rfl #[.agg #[.int .i64 ((rd_impl_Peg l0 0).f0), .int .i64 ((rd_impl_Peg l0 0).f1)], .agg #[.int .i64 ((rd_impl_Peg l0 1).f0), .int .i64 ((rd_impl_Peg l0 1).f1)]] (by rfl) rfl rfl (by (try simp only [mA, mC, mN]); first | done | rfl | (simp only [lD, lT]; rfl)) ?_
       with_reducible refine (impl_Peg_plus.calls ((rd_impl_Peg l0 0).f0) ((rd_impl_Peg l0 0).f1) ((rd_impl_Peg l0 1).f0) ((rd_impl_Peg l0 1).f1) t320 t321 _ A6.out).mono ?_
       rintro e w11 ⟨rfl, hb⟩
       refine ⟨_, rfl, ?_⟩
       have n0_ := aM (pT (by repeat (first | (with_reducible first | exact HB.out | apply pA | apply pN | apply pD) | exact HB.out)) hb)
       clear HB
       have HB := n0_
       clear n0_
       (try clear hb)
       (try clear hb2)
       (try clear hk)
       (try clear hi)
       refine hK.out _ _ ⟨((HB.out.cell (wB w _ hw318_0)).trans hw318_0), ((HB.out.cell (wB w _ hw318_1)).trans hw318_1), ((HB.out.cell (wB w _ hw319_0)).trans hw319_0), ((HB.out.cell (wB w _ hw319_1)).trans hw319_1), ((HB.out.cell (wB w _ hw322_0)).trans hw322_0), ((HB.out.cell (wB w _ hw322_1)).trans hw322_1)⟩ (fun hHeld => ?_)
       clear hK K
       refine norm_ (a' := ?_) ?_ ?_
       rotate_left
       ·show Act.put _ (some 15) _ = _
        simp only [Act.put, sI, sZ, sS, i64_w, i32_w]
        rfl
       refine two_ (i := 10) (j := 11) (Ni := some 19) (Nj := some 5) #[true, true, true, true, true, true, true, true, true, true, true, false, false] #[true, true, true, true, true, true, true, true, true, true, false, true, false] rfl rfl rfl rfl (two_of HT_.out (by kernel_rfl)) (by decide) (by decide) (fun K hK => ?_) (fun K hK => ?_)
       ·skip
        refine goes_ Try.func65 (by kernel_rfl) rfl #[.agg #[.int .i64 t320, .int .i64 t321], .agg #[.int .i64 ((rd_impl_Peg l0 2).f0), .int .i64 ((rd_impl_Peg l0 2).f1)]] (by rfl) rfl rfl (by (try simp only [mA, mC, mN]); first | done | rfl | (simp only [lD, lT]; rfl)) ?_
        with_reducible refine (impl_Peg_plus.calls t320 t321 ((rd_impl_Peg l0 2).f0) ((rd_impl_Peg l0 2).f1) t323 t324 _ A8.out).mono ?_
        rintro e w12 ⟨rfl, hb⟩
        refine ⟨_, rfl, ?_⟩
        have n0_ := aM (pT (by repeat (first | (with_reducible first | exact HB.out | apply pA | apply pN | apply pD) | exact HB.out)) hb)
        clear HB
        have HB := n0_
        clear n0_
        (try clear hb)
        (try clear hb2)
        (try clear hk)
        (try clear hi)
        refine hK.out _ _ ⟨((HB.out.cell (wB w _ hw318_0)).trans hw318_0), ((HB.out.cell (wB w _ hw318_1)).trans hw318_1), ((HB.out.cell (wB w _ hw319_0)).trans hw319_0), ((HB.out.cell (wB w _ hw319_1)).trans hw319_1), ((HB.out.cell (wB w _ hw322_0)).trans hw322_0), ((HB.out.cell (wB w _ hw322_1)).trans hw322_1)⟩ (fun hHeld => ?_)
        clear hK K
        refine norm_ (a' := ?_) ?_ ?_
        rotate_left
        ·show Act.put _ (some 19) _ = _
         simp only [Act.put, sI, sZ, sS, i64_w, i32_w]
         rfl
        refine one_ (i := 11) (N := some 5) #[true, true, true, true, true, true, true, true, true, true, true, true, false] rfl rfl (one_of HT_.out (by kernel_rfl)) (by decide) (fun K hK => ?_)
        refine box_step ?hg (N := 5) ?hd (cs := #[.int .i64 0, .int .i64 0]) (t := 62) ?hr ?_; (case hd => rfl); (case hg => rfl); (case hr => first | (go_simp; done) | (go_simp; rfl))
        intro gb325 hg w13 hbox hb
        have n0_ := aM (pT (by repeat (first | (with_reducible first | exact HB.out | apply pA | apply pN | apply pD) | exact HB.out)) hb)
        have n1_ := aM (hbox)
        have n2_ := aM ((by rw [hg]; exact (pZ (by repeat (first | (with_reducible first | exact HB.out | apply pA | apply pN | apply pD) | exact HB.out))) : w.heap.size ≤ gb325))
        have n3_ := aM ((by rw [hg]; exact (pZ (by repeat (first | (with_reducible first | exact HB.out | apply pA | apply pN | apply pD) | exact HB.out))) : w.heap.size ≤ gb325))
        clear HB
        have HB := n0_
        have BK325 := n1_
        have GW325 := n2_
        have GE325 := n3_
        clear n0_ n1_ n2_ n3_
        clear hb hbox hg
        refine hK.out _ _ ⟨((HB.out.cell (wB w _ hw318_0)).trans hw318_0), ((HB.out.cell (wB w _ hw318_1)).trans hw318_1), ((HB.out.cell (wB w _ hw319_0)).trans hw319_0), ((HB.out.cell (wB w _ hw319_1)).trans hw319_1), ((HB.out.cell (wB w _ hw322_0)).trans hw322_0), ((HB.out.cell (wB w _ hw322_1)).trans hw322_1)⟩ (fun hHeld => ?_)
        clear hK K
        refine norm_ (a' := ?_) ?_ ?_
        rotate_left
        ·show Act.put _ (some 5) _ = _
         simp only [Act.put, sI, sZ, sS, i64_w, i32_w]
         rfl
        exact norm_ (by simp only [putAll, Act.put, sI, sZ, sS]) (hCont (gb325) _ ⟨hHeld, (by (with_reducible repeat (first | refine kN ?_ _ | refine kD ?_ | refine kA ?_ _)); exact BK325.out), GW325.out, GE325.out, (by repeat (first | (with_reducible first | exact HB.out | apply pA | apply pN | apply pD | refine pS ?_ GE325.out) | exact HB.out))⟩)
       ·skip
        refine box_step ?hg (N := 5) ?hd (cs := #[.int .i64 0, .int .i64 0]) (t := 62) ?hr ?_; (case hd => rfl); (case hg => rfl); (case hr => first | (go_simp; done) | (go_simp; rfl))
        intro gb325 hg w12 hbox hb
        have n0_ := aM (pT (by repeat (first | (with_reducible first | exact HB.out | apply pA | apply pN | apply pD) | exact HB.out)) hb)
        have n1_ := aM (hbox)
        have n2_ := aM ((by rw [hg]; exact (pZ (by repeat (first | (with_reducible first | exact HB.out | apply pA | apply pN | apply pD) | exact HB.out))) : w.heap.size ≤ gb325))
        have n3_ := aM ((by rw [hg]; exact (pZ (by repeat (first | (with_reducible first | exact HB.out | apply pA | apply pN | apply pD) | exact HB.out))) : w.heap.size ≤ gb325))
        clear HB
        have HB := n0_
        have BK325 := n1_
        have GW325 := n2_
        have GE325 := n3_
        clear n0_ n1_ n2_ n3_
        clear hb hbox hg
        refine hK.out _ _ ⟨((HB.out.cell (wB w _ hw318_0)).trans hw318_0), ((HB.out.cell (wB w _ hw318_1)).trans hw318_1), ((HB.out.cell (wB w _ hw319_0)).trans hw319_0), ((HB.out.cell (wB w _ hw319_1)).trans hw319_1), ((HB.out.cell (wB w _ hw322_0)).trans hw322_0), ((HB.out.cell (wB w _ hw322_1)).trans hw322_1)⟩ (fun hHeld => ?_)
        clear hK K
        refine norm_ (a' := ?_) ?_ ?_
        rotate_left
        ·show Act.put _ (some 5) _ = _
         simp only [Act.put, sI, sZ, sS, i64_w, i32_w]
         rfl
        refine one_ (i := 10) (N := some 19) #[true, true, true, true, true, true, true, true, true, true, true, true, false] rfl rfl (one_of HT_.out (by kernel_rfl)) (by decide) (fun K hK => ?_)
        refine goes_ Try.func65 (by kernel_rfl) rfl #[.agg #[.int .i64 t320, .int .i64 t321], .agg #[.int .i64 ((rd_impl_Peg l0 2).f0), .int .i64 ((rd_impl_Peg l0 2).f1)]] (by rfl) rfl rfl (by (try simp only [mA, mC, mN]); first | done | rfl | (simp only [lD, lT]; rfl)) ?_
        with_reducible refine (impl_Peg_plus.calls t320 t321 ((rd_impl_Peg l0 2).f0) ((rd_impl_Peg l0 2).f1) t323 t324 _ A8.out).mono ?_
        rintro e w13 ⟨rfl, hb⟩
        refine ⟨_, rfl, ?_⟩
        have n0_ := aM (blk_below (g := gb325) (o := .cells #[.int .i64 0, .int .i64 0] 62 (0, 0)) (by (with_reducible repeat (first | refine kN ?_ _ | refine kD ?_ | refine kA ?_ _)); exact BK325.out) hb)
        have n1_ := aM (pT (by repeat (first | (with_reducible first | exact HB.out | apply pA | apply pN | apply pD | refine pS ?_ GE325.out) | exact HB.out)) hb)
        clear BK325
        clear HB
        have BK325 := n0_
        have HB := n1_
        clear n0_ n1_
        (try clear hb)
        (try clear hb2)
        (try clear hk)
        (try clear hi)
        refine hK.out _ _ ⟨((HB.out.cell (wB w _ hw318_0)).trans hw318_0), ((HB.out.cell (wB w _ hw318_1)).trans hw318_1), ((HB.out.cell (wB w _ hw319_0)).trans hw319_0), ((HB.out.cell (wB w _ hw319_1)).trans hw319_1), ((HB.out.cell (wB w _ hw322_0)).trans hw322_0), ((HB.out.cell (wB w _ hw322_1)).trans hw322_1)⟩ (fun hHeld => ?_)
        clear hK K
        refine norm_ (a' := ?_) ?_ ?_
        rotate_left
        ·show Act.put _ (some 19) _ = _
         simp only [Act.put, sI, sZ, sS, i64_w, i32_w]
         rfl
        exact norm_ (by simp only [putAll, Act.put, sI, sZ, sS]) (hCont (gb325) _ ⟨hHeld, (by (with_reducible repeat (first | refine kN ?_ _ | refine kD ?_ | refine kA ?_ _)); exact BK325.out), GW325.out, GE325.out, (by repeat (first | (with_reducible first | exact HB.out | apply pA | apply pN | apply pD | refine pS ?_ GE325.out) | exact HB.out))⟩)
      ·skip
       refine box_step ?hg (N := 5) ?hd (cs := #[.int .i64 0, .int .i64 0]) (t := 62) ?hr ?_; (case hd => rfl); (case hg => rfl); (case hr => first | (go_simp; done) | (go_simp; rfl))
       intro gb325 hg w11 hbox hb
       have n0_ := aM (pT (by repeat (first | (with_reducible first | exact HB.out | apply pA | apply pN | apply pD) | exact HB.out)) hb)
       have n1_ := aM (hbox)
       have n2_ := aM ((by rw [hg]; exact (pZ (by repeat (first | (with_reducible first | exact HB.out | apply pA | apply pN | apply pD) | exact HB.out))) : w.heap.size ≤ gb325))
       have n3_ := aM ((by rw [hg]; exact (pZ (by repeat (first | (with_reducible first | exact HB.out | apply pA | apply pN | apply pD) | exact HB.out))) : w.heap.size ≤ gb325))
       clear HB
       have HB := n0_
       have BK325 := n1_
       have GW325 := n2_
       have GE325 := n3_
       clear n0_ n1_ n2_ n3_
       clear hb hbox hg
       refine hK.out _ _ ⟨((HB.out.cell (wB w _ hw318_0)).trans hw318_0), ((HB.out.cell (wB w _ hw318_1)).trans hw318_1), ((HB.out.cell (wB w _ hw319_0)).trans hw319_0), ((HB.out.cell (wB w _ hw319_1)).trans hw319_1), ((HB.out.cell (wB w _ hw322_0)).trans hw322_0), ((HB.out.cell (wB w _ hw322_1)).trans hw322_1)⟩ (fun hHeld => ?_)
       clear hK K
       refine norm_ (a' := ?_) ?_ ?_
       rotate_left
       ·show Act.put _ (some 5) _ = _
        simp only [Act.put, sI, sZ, sS, i64_w, i32_w]
        rfl
       refine one_ (i := 6) (N := some 15) #[true, true, true, true, true, true, true, true, true, true, false, true, false] rfl rfl (one_of HT_.out (by kernel_rfl)) (by decide) (fun K hK => ?_)
       refine goes_ Try.func65 (by kernel_rfl) rfl #[.agg #[.int .i64 ((rd_impl_Peg l0 0).f0), .int .i64 ((rd_impl_Peg l0 0).f1)], .agg #[.int .i64 ((rd_impl_Peg l0 1).f0), .int .i64 ((rd_impl_Peg l0 1).f1)]] (by rfl) rfl rfl (by (try simp only [mA, mC, mN]); first | done | rfl | (simp only [lD, lT]; rfl)) ?_
       with_reducible refine (impl_Peg_plus.calls ((rd_impl_Peg l0 0).f0) ((rd_impl_Peg l0 0).f1) ((rd_impl_Peg l0 1).f0) ((rd_impl_Peg l0 1).f1) t320 t321 _ A6.out).mono ?_
       rintro e w12 ⟨rfl, hb⟩
       refine ⟨_, rfl, ?_⟩
       have n0_ := aM (blk_below (g := gb325) (o := .cells #[.int .i64 0, .int .i64 0] 62 (0, 0)) (by (with_reducible repeat (first | refine kN ?_ _ | refine kD ?_ | refine kA ?_ _)); exact BK325.out) hb)
       have n1_ := aM (pT (by repeat (first | (with_reducible first | exact HB.out | apply pA | apply pN | apply pD | refine pS ?_ GE325.out) | exact HB.out)) hb)
       clear BK325
       clear HB
       have BK325 := n0_
       have HB := n1_
       clear n0_ n1_
       (try clear hb)
       (try clear hb2)
       (try clear hk)
       (try clear hi)
       refine hK.out _ _ ⟨((HB.out.cell (wB w _ hw318_0)).trans hw318_0), ((HB.out.cell (wB w _ hw318_1)).trans hw318_1), ((HB.out.cell (wB w _ hw319_0)).trans hw319_0), ((HB.out.cell (wB w _ hw319_1)).trans hw319_1), ((HB.out.cell (wB w _ hw322_0)).trans hw322_0), ((HB.out.cell (wB w _ hw322_1)).trans hw322_1)⟩ (fun hHeld => ?_)
       clear hK K
       refine norm_ (a' := ?_) ?_ ?_
       rotate_left
       ·show Act.put _ (some 15) _ = _
        simp only [Act.put, sI, sZ, sS, i64_w, i32_w]
        rfl
       refine one_ (i := 10) (N := some 19) #[true, true, true, true, true, true, true, true, true, true, true, true, false] rfl rfl (one_of HT_.out (by kernel_rfl)) (by decide) (fun K hK => ?_)
       refine goes_ Try.func65 (by kernel_rfl) rfl #[.agg #[.int .i64 t320, .int .i64 t321], .agg #[.int .i64 ((rd_impl_Peg l0 2).f0), .int .i64 ((rd_impl_Peg l0 2).f1)]] (by rfl) rfl rfl (by (try simp only [mA, mC, mN]); first | done | rfl | (simp only [lD, lT]; rfl)) ?_
       with_reducible refine (impl_Peg_plus.calls t320 t321 ((rd_impl_Peg l0 2).f0) ((rd_impl_Peg l0 2).f1) t323 t324 _ A8.out).mono ?_
       rintro e w13 ⟨rfl, hb⟩
       refine ⟨_, rfl, ?_⟩
       have n0_ := aM (blk_below (g := gb325) (o := .cells #[.int .i64 0, .int .i64 0] 62 (0, 0)) (by (with_reducible repeat (first | refine kN ?_ _ | refine kD ?_ | refine kA ?_ _)); exact BK325.out) hb)
       have n1_ := aM (pT (by repeat (first | (with_reducible first | exact HB.out | apply pA | apply pN | apply pD | refine pS ?_ GE325.out) | exact HB.out)) hb)
       clear BK325
       clear HB
       have BK325 := n0_
       have HB := n1_
       clear n0_ n1_
       (try clear hb)
       (try clear hb2)
       (try clear hk)
       (try clear hi)
       refine hK.out _ _ ⟨((HB.out.cell (wB w _ hw318_0)).trans hw318_0), ((HB.out.cell (wB w _ hw318_1)).trans hw318_1), ((HB.out.cell (wB w _ hw319_0)).trans hw319_0), ((HB.out.cell (wB w _ hw319_1)).trans hw319_1), ((HB.out.cell (wB w _ hw322_0)).trans hw322_0), ((HB.out.cell (wB w _ hw322_1)).trans hw322_1)⟩ (fun hHeld => ?_)
       clear hK K
       refine norm_ (a' := ?_) ?_ ?_
       rotate_left
       ·show Act.put _ (some 19) _ = _
        simp only [Act.put, sI, sZ, sS, i64_w, i32_w]
        rfl
       exact norm_ (by simp only [putAll, Act.put, sI, sZ, sS]) (hCont (gb325) _ ⟨hHeld, (by (with_reducible repeat (first | refine kN ?_ _ | refine kD ?_ | refine kA ?_ _)); exact BK325.out), GW325.out, GE325.out, (by repeat (first | (with_reducible first | exact HB.out | apply pA | apply pN | apply pD | refine pS ?_ GE325.out) | exact HB.out))⟩)
     rintro gb325 w14 ⟨hS_, h0_, h1_, h2_, h3_⟩
     have n0_ : Aside0 (w14.heap[gb325]? = some (.cells #[.int .i64 0, .int .i64 0] 62 (0, 0))) := ⟨h0_⟩
     have n1_ : Aside0 (w.heap.size ≤ gb325) := ⟨h1_⟩
     have n2_ : Aside0 (w.heap.size ≤ gb325) := ⟨h2_⟩
     have n3_ : Aside0 (Below w.heap.size w w14) := ⟨h3_⟩
     clear HB
     clear h0_ h1_ h2_ h3_
     have BK325 := n0_
     have GW325 := n1_
     have GE325 := n2_
     have HB := n3_
     clear n0_ n1_ n2_ n3_
     have hHeld : w14.cell? ad318 = some (.int .i64 ((rd_impl_Peg l0 0).f0)) ∧ w14.cell? ⟨ad318.block, ad318.off + 1, none⟩ = some (.int .i64 ((rd_impl_Peg l0 0).f1)) ∧ w14.cell? ⟨ad318.block, ad318.off + 2, none⟩ = some (.int .i64 ((rd_impl_Peg l0 1).f0)) ∧ w14.cell? ⟨ad318.block, ad318.off + 2 + 1, none⟩ = some (.int .i64 ((rd_impl_Peg l0 1).f1)) ∧ w14.cell? ⟨ad318.block, ad318.off + 4, none⟩ = some (.int .i64 ((rd_impl_Peg l0 2).f0)) ∧ w14.cell? ⟨ad318.block, ad318.off + 4 + 1, none⟩ = some (.int .i64 ((rd_impl_Peg l0 2).f1)) := hS_
     refine norm_ (a' := ?_) ?_ ?_
     rotate_left
     ·simp only [putAll, Act.put, sI, sZ, sS]
      rfl
     refine one_ (i := 12) (N := none) #[true, true, true, true, true, true, true, true, true, true, true, true, true] rfl rfl (one_of HT_.out (by kernel_rfl)) (by decide) (fun K hK => ?_)
     have hs15 : w14.cell? ⟨gb325, 0, none⟩ = some (.int .i64 0) := (kC BK325.out 0).trans rfl
     have hfs15 := kF BK325.out 0
     have hs16 : w14.cell? ⟨gb325, 1, none⟩ = some (.int .i64 0) := (kC BK325.out 1).trans rfl
     have hfs16 := kF BK325.out 1
     refine skip_ (w1 := ?_) (by rfl) rfl ?_ ?_
     rotate_left
     ·go_simp
      rfl
     refine hK.out _ _ ⟨((cell_far (p := ⟨gb325, _, none⟩) (by first | exact nN (nL (by have := wB _ _ hw318_0; first | rwa [add_block] at this | exact this) GW325.out) | (rw [add_block]; exact nN (nL (by have := wB _ _ hw318_0; first | rwa [add_block] at this | exact this) GW325.out)) | (show (Addr.add _ _).block ≠ _; rw [add_block]; exact nN (nL (by have := wB _ _ hw318_0; first | rwa [add_block] at this | exact this) GW325.out)) | (dsimp only; exact nN (nL (by have := wB _ _ hw318_0; first | rwa [add_block] at this | exact this) GW325.out))) _).trans (((cell_far (p := ⟨gb325, _, none⟩) (by first | exact nN (nL (by have := wB _ _ hw318_0; first | rwa [add_block] at this | exact this) GW325.out) | (rw [add_block]; exact nN (nL (by have := wB _ _ hw318_0; first | rwa [add_block] at this | exact this) GW325.out)) | (show (Addr.add _ _).block ≠ _; rw [add_block]; exact nN (nL (by have := wB _ _ hw318_0; first | rwa [add_block] at this | exact this) GW325.out)) | (dsimp only; exact nN (nL (by have := wB _ _ hw318_0; first | rwa [add_block] at this | exact this) GW325.out))) _).trans (hHeld.1)))), ((cell_far (p := ⟨gb325, _, none⟩) (by first | exact nN (nL (by have := wB _ _ hw318_1; first | rwa [add_block] at this | exact this) GW325.out) | (rw [add_block]; exact nN (nL (by have := wB _ _ hw318_1; first | rwa [add_block] at this | exact this) GW325.out)) | (show (Addr.add _ _).block ≠ _; rw [add_block]; exact nN (nL (by have := wB _ _ hw318_1; first | rwa [add_block] at this | exact this) GW325.out)) | (dsimp only; exact nN (nL (by have := wB _ _ hw318_1; first | rwa [add_block] at this | exact this) GW325.out))) _).trans (((cell_far (p := ⟨gb325, _, none⟩) (by first | exact nN (nL (by have := wB _ _ hw318_1; first | rwa [add_block] at this | exact this) GW325.out) | (rw [add_block]; exact nN (nL (by have := wB _ _ hw318_1; first | rwa [add_block] at this | exact this) GW325.out)) | (show (Addr.add _ _).block ≠ _; rw [add_block]; exact nN (nL (by have := wB _ _ hw318_1; first | rwa [add_block] at this | exact this) GW325.out)) | (dsimp only; exact nN (nL (by have := wB _ _ hw318_1; first | rwa [add_block] at this | exact this) GW325.out))) _).trans (hHeld.2.1)))), ((cell_far (p := ⟨gb325, _, none⟩) (by first | exact nN (nL (by have := wB _ _ hw319_0; first | rwa [add_block] at this | exact this) GW325.out) | (rw [add_block]; exact nN (nL (by have := wB _ _ hw319_0; first | rwa [add_block] at this | exact this) GW325.out)) | (show (Addr.add _ _).block ≠ _; rw [add_block]; exact nN (nL (by have := wB _ _ hw319_0; first | rwa [add_block] at this | exact this) GW325.out)) | (dsimp only; exact nN (nL (by have := wB _ _ hw319_0; first | rwa [add_block] at this | exact this) GW325.out))) _).trans (((cell_far (p := ⟨gb325, _, none⟩) (by first | exact nN (nL (by have := wB _ _ hw319_0; first | rwa [add_block] at this | exact this) GW325.out) | (rw [add_block]; exact nN (nL (by have := wB _ _ hw319_0; first | rwa [add_block] at this | exact this) GW325.out)) | (show (Addr.add _ _).block ≠ _; rw [add_block]; exact nN (nL (by have := wB _ _ hw319_0; first | rwa [add_block] at this | exact this) GW325.out)) | (dsimp only; exact nN (nL (by have := wB _ _ hw319_0; first | rwa [add_block] at this | exact this) GW325.out))) _).trans (hHeld.2.2.1)))), ((cell_far (p := ⟨gb325, _, none⟩) (by first | exact nN (nL (by have := wB _ _ hw319_1; first | rwa [add_block] at this | exact this) GW325.out) | (rw [add_block]; exact nN (nL (by have := wB _ _ hw319_1; first | rwa [add_block] at this | exact this) GW325.out)) | (show (Addr.add _ _).block ≠ _; rw [add_block]; exact nN (nL (by have := wB _ _ hw319_1; first | rwa [add_block] at this | exact this) GW325.out)) | (dsimp only; exact nN (nL (by have := wB _ _ hw319_1; first | rwa [add_block] at this | exact this) GW325.out))) _).trans (((cell_far (p := ⟨gb325, _, none⟩) (by first | exact nN (nL (by have := wB _ _ hw319_1; first | rwa [add_block] at this | exact this) GW325.out) | (rw [add_block]; exact nN (nL (by have := wB _ _ hw319_1; first | rwa [add_block] at this | exact this) GW325.out)) | (show (Addr.add _ _).block ≠ _; rw [add_block]; exact nN (nL (by have := wB _ _ hw319_1; first | rwa [add_block] at this | exact this) GW325.out)) | (dsimp only; exact nN (nL (by have := wB _ _ hw319_1; first | rwa [add_block] at this | exact this) GW325.out))) _).trans (hHeld.2.2.2.1)))), ((cell_far (p := ⟨gb325, _, none⟩) (by first | exact nN (nL (by have := wB _ _ hw322_0; first | rwa [add_block] at this | exact this) GW325.out) | (rw [add_block]; exact nN (nL (by have := wB _ _ hw322_0; first | rwa [add_block] at this | exact this) GW325.out)) | (show (Addr.add _ _).block ≠ _; rw [add_block]; exact nN (nL (by have := wB _ _ hw322_0; first | rwa [add_block] at this | exact this) GW325.out)) | (dsimp only; exact nN (nL (by have := wB _ _ hw322_0; first | rwa [add_block] at this | exact this) GW325.out))) _).trans (((cell_far (p := ⟨gb325, _, none⟩) (by first | exact nN (nL (by have := wB _ _ hw322_0; first | rwa [add_block] at this | exact this) GW325.out) | (rw [add_block]; exact nN (nL (by have := wB _ _ hw322_0; first | rwa [add_block] at this | exact this) GW325.out)) | (show (Addr.add _ _).block ≠ _; rw [add_block]; exact nN (nL (by have := wB _ _ hw322_0; first | rwa [add_block] at this | exact this) GW325.out)) | (dsimp only; exact nN (nL (by have := wB _ _ hw322_0; first | rwa [add_block] at this | exact this) GW325.out))) _).trans (hHeld.2.2.2.2.1)))), ((cell_far (p := ⟨gb325, _, none⟩) (by first | exact nN (nL (by have := wB _ _ hw322_1; first | rwa [add_block] at this | exact this) GW325.out) | (rw [add_block]; exact nN (nL (by have := wB _ _ hw322_1; first | rwa [add_block] at this | exact this) GW325.out)) | (show (Addr.add _ _).block ≠ _; rw [add_block]; exact nN (nL (by have := wB _ _ hw322_1; first | rwa [add_block] at this | exact this) GW325.out)) | (dsimp only; exact nN (nL (by have := wB _ _ hw322_1; first | rwa [add_block] at this | exact this) GW325.out))) _).trans (((cell_far (p := ⟨gb325, _, none⟩) (by first | exact nN (nL (by have := wB _ _ hw322_1; first | rwa [add_block] at this | exact this) GW325.out) | (rw [add_block]; exact nN (nL (by have := wB _ _ hw322_1; first | rwa [add_block] at this | exact this) GW325.out)) | (show (Addr.add _ _).block ≠ _; rw [add_block]; exact nN (nL (by have := wB _ _ hw322_1; first | rwa [add_block] at this | exact this) GW325.out)) | (dsimp only; exact nN (nL (by have := wB _ _ hw322_1; first | rwa [add_block] at this | exact this) GW325.out))) _).trans (hHeld.2.2.2.2.2))))⟩ (fun hHeld => ?_)
     clear hK K
     refine done_ (done_of HT_.out (by kernel_rfl)) ?_
     try go_wp2
     have n0_ : Aside0 (((w14.setCell ⟨gb325, 0, none⟩ (.int .i64 t323)).setCell ⟨gb325, 1, none⟩ (.int .i64 t324)).heap[gb325]? = some (.cells #[.int .i64 t323, .int .i64 t324] 62 (0, 0))) := ⟨by (with_reducible repeat (first | refine kN ?_ _ | refine kD ?_ | refine kA ?_ _)); refine blk_put (cs := #[.int .i64 t323, .int .i64 0]) ?_ 1 _ rfl; (with_reducible repeat (first | refine kN ?_ _ | refine kD ?_ | refine kA ?_ _)); refine blk_put (cs := #[.int .i64 0, .int .i64 0]) ?_ 0 _ rfl; (with_reducible repeat (first | refine kN ?_ _ | refine kD ?_ | refine kA ?_ _)); exact BK325.out⟩
     have n1_ : Aside0 (Below w.heap.size w ((w14.setCell ⟨gb325, 0, none⟩ (.int .i64 t323)).setCell ⟨gb325, 1, none⟩ (.int .i64 t324))) := ⟨by repeat (first | (with_reducible first | exact HB.out | apply pA | apply pN | apply pD | refine pS ?_ GE325.out) | exact HB.out)⟩
     (try clear BK325)
     (try clear HB)
     generalize ((w14.setCell ⟨gb325, 0, none⟩ (.int .i64 t323)).setCell ⟨gb325, 1, none⟩ (.int .i64 t324)) = w17 at n0_ n1_ ⊢
     have BK325 := n0_
     have HB := n1_
     clear n0_ n1_
     have n0_ := aM (kD BK325.out)
     have n1_ := aM (pD HB.out)
     clear BK325
     clear HB
     have BK325 := n0_
     have HB := n1_
     clear n0_ n1_
     refine start_ (n := 7) (S := fun w' => w'.cell? ⟨gb325, 0, none⟩ = some (.int .i64 t323) ∧ w'.cell? ⟨gb325, 1, none⟩ = some (.int .i64 t324)) (ds := []) #[false, false, false, false, false, false, false] (by kernel_rfl) rfl rfl ⟨(kC BK325.out 0).trans rfl, (kC BK325.out 1).trans rfl⟩ (fun hHeld => ?_)
     generalize w17.drew = w18 at BK325 HB hHeld ⊢
     refine pure_ (i := 0) (N := some 20) (v := ?_) (a' := ?_) #[true, false, false, false, false, false, false] rfl rfl (by kernel_rfl) (fun _ _ _ h => h) (Or.inl ⟨by rfl, ?_⟩) ?_ ?_
     rotate_left
     ·intro w'
      go_simp
      with_reducible rfl
     rotate_left
     ·simp only [Act.put, sI, sZ, sS, i64_w, i32_w]
      rfl
     refine pure_ (i := 2) (N := some 22) (v := ?_) (a' := ?_) #[true, false, true, false, false, false, false] rfl rfl (by kernel_rfl) (fun _ _ _ h => h) (Or.inl ⟨by rfl, ?_⟩) ?_ ?_
     rotate_left
     ·intro w'
      go_simp
      with_reducible rfl
     rotate_left
     ·simp only [Act.put, sI, sZ, sS, i64_w, i32_w]
      rfl
     refine take_ (i := 1) (N := some 21) (v := ?_) (a' := ?_) #[true, true, true, false, false, false, false] rfl rfl (by kernel_rfl) (fun _ _ _ h => h) (Or.inl ⟨by rfl, ?_⟩) hHeld ?_ ?_
     rotate_left
     ·rintro w' ⟨s0, s1⟩
      go_simp
      with_reducible rfl
     rotate_left
     ·simp only [Act.put, sI, sZ, sS, i64_w, i32_w]
      rfl
     refine pure_ (i := 4) (N := some 2) (v := ?_) (a' := ?_) #[true, true, true, false, true, false, false] rfl rfl (by kernel_rfl) (fun _ _ _ h => h) (Or.inl ⟨by rfl, ?_⟩) ?_ ?_
     rotate_left
     ·intro w'
      go_simp
      with_reducible rfl
     rotate_left
     ·simp only [Act.put, sI, sZ, sS, i64_w, i32_w]
      rfl
     refine take_ (i := 3) (N := some 23) (v := ?_) (a' := ?_) #[true, true, true, true, true, false, false] rfl rfl (by kernel_rfl) (fun _ _ _ h => h) (Or.inl ⟨by rfl, ?_⟩) hHeld ?_ ?_
     rotate_left
     ·rintro w' ⟨s0, s1⟩
      go_simp
      with_reducible rfl
     rotate_left
     ·simp only [Act.put, sI, sZ, sS, i64_w, i32_w]
      rfl
     refine pure_ (i := 5) (N := some 3) (v := ?_) (a' := ?_) #[true, true, true, true, true, true, false] rfl rfl (by kernel_rfl) (fun _ _ _ h => h) (Or.inl ⟨by rfl, ?_⟩) ?_ ?_
     rotate_left
     ·intro w'
      go_simp
      with_reducible rfl
     rotate_left
     ·simp only [Act.put, sI, sZ, sS, i64_w, i32_w]
      rfl
     refine pure_ (i := 6) (N := some 4) (v := ?_) (a' := ?_) #[true, true, true, true, true, true, true] rfl rfl (by kernel_rfl) (fun _ _ _ h => h) (Or.inl ⟨by rfl, ?_⟩) ?_ ?_
     rotate_left
     ·intro w'
      go_simp
      with_reducible rfl
     rotate_left
     ·simp only [Act.put, sI, sZ, sS, i64_w, i32_w]
      rfl
     refine done_ (by kernel_rfl) ?_
     try go_wp2
     go_ret3
     exact ⟨by first | rfl | (simp [errW_none, errW_some] <;> rfl) | (simp [*, errW_none, errW_some] <;> rfl), by repeat (first | (with_reducible first | exact HB.out | apply pA | apply pN | apply pD | refine pS ?_ GE325.out) | exact HB.out)⟩
    ·rw [if_neg c7] at H
     exact absurd H (by simp)
   ·rw [if_neg c5] at H
    exact absurd H (by simp)
  ·rw [if_neg c4] at H
   exact absurd H (by simp)
 ·replace c3 := Bool.eq_false_iff.mpr c3
  subst c3
  have H1 : (some (0, 0, false)) = some (r1, r2, r3) := by rw [if_neg (show ¬ (false = true) by decide)] at H; exact H
  clear H
  have H := H1
  clear H1
  simp only [Option.some.injEq, Prod.mk.injEq] at H
  obtain ⟨rfl, rfl, rfl⟩ := H
  go_enter Try.func26, Try.ntmps26
  go_wp2_with (first | ((with_reducible refine gC (f := 64) rfl ?_); refine goesL_ (some 7) rfl rfl Try.func64 (by kernel_rfl) rfl #[.slice A0 l0.length c0] rfl (by (try simp only [mA, mC, mN]); first | done | rfl | (simp only [lD, lT]; rfl)) ?_; (with_reducible refine (impl_isThree.calls k _ _ l0 false _ ?side1 ?side2 A2.out).mono ?_); (case side1 => repeat (first | exact HR0.out | (with_reducible refine cA ?_ _) | (with_reducible refine cN ?_ _) | (with_reducible refine cD ?_))); (case side2 => exact HC0.out); rintro e w19 ⟨rfl, hb⟩; refine ⟨_, rfl, ?_⟩; have n0_ := aM (pT (by repeat (first | (with_reducible first | exact HB.out | apply pA | apply pN | apply pD) | exact HB.out)) hb); clear HB; have HB := n0_; clear n0_; (try clear hb); (try clear hb2); (try clear hk); (try clear hi)))
  go_ret3
  exact ⟨by first | rfl | (simp [errW_none, errW_some] <;> rfl) | (simp [*, errW_none, errW_some] <;> rfl), by repeat (first | (with_reducible first | exact HB.out | apply pA | apply pN | apply pD) | exact HB.out)⟩

end Go.Proofs.Ytnlkglbpihgcmaa.X
