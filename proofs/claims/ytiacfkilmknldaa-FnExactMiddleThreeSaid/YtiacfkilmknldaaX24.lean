-- thin
-- short
import Derived.Test.YtiacfkilmknldaaXA
import Derived.Test.YtiacfkilmknldaaX0
import Derived.Test.YtiacfkilmknldaaX23
namespace Go.Proofs.Ytiacfkilmknldaa.X
open Go.RowKit Go.Proofs.Ytiacfkilmknldaa.XW Go.Proofs.YtiacfkilmknldaaW.PrintWords Go.Proofs.YtiacfkilmknldaaW.PrintLast Go.Proofs.YtiacfkilmknldaaW.PrintMore
attribute [local go_sem] max2_int min2_int max_two min_two max_three min_three max_four min_four   -- for this text's walks alone
set_option linter.unusedVariables false
set_option linter.unusedSimpArgs false

def spec_MiddleThree.l0 : Nat → List (S_impl_Peg) → List (S_impl_Peg) → Int → Int → Option ((List (S_impl_Peg)) × Bool)
 | 0, _, _, _, _ => none
 | k + 1, x0, x4, x12, x13 => if x13 < x12 then (if 0 ≤ (Int.tmod (wrap64 (x13 + 1)) 3) then (if (Int.tmod (wrap64 (x13 + 1)) 3) < (x0.length : Int) then (if 0 ≤ (Int.tmod (wrap64 (x13 + 2)) 3) then (if (Int.tmod (wrap64 (x13 + 2)) 3) < (x0.length : Int) then (if (Int.tmod (wrap64 (((rd_impl_Peg x0 (Int.tmod (wrap64 (x13 + 1)) 3)).f0) + ((rd_impl_Peg x0 (Int.tmod (wrap64 (x13 + 2)) 3)).f0))) 2) = 0 then (if (Int.tmod (wrap64 (((rd_impl_Peg x0 (Int.tmod (wrap64 (x13 + 1)) 3)).f1) + ((rd_impl_Peg x0 (Int.tmod (wrap64 (x13 + 2)) 3)).f1))) 2) = 0 then (if x4.length < 8796093022208 then (spec_MiddleThree.l0 k x0 (x4 ++ [(⟨wrap64 (Int.tdiv (wrap64 (((rd_impl_Peg x0 (Int.tmod (wrap64 (x13 + 1)) 3)).f0) + ((rd_impl_Peg x0 (Int.tmod (wrap64 (x13 + 2)) 3)).f0))) 2), wrap64 (Int.tdiv (wrap64 (((rd_impl_Peg x0 (Int.tmod (wrap64 (x13 + 1)) 3)).f1) + ((rd_impl_Peg x0 (Int.tmod (wrap64 (x13 + 2)) 3)).f1))) 2)⟩ : S_impl_Peg)]) x12 (wrap64 (x13 + 1))) else (none)) else (some (([] : List (S_impl_Peg)), false))) else (some (([] : List (S_impl_Peg)), false))) else (none)) else (none)) else (none)) else (none)) else (some (x4, true))
def spec_MiddleThree.f (k : Nat) (l0 : List (S_impl_Peg)) : Option ((List (S_impl_Peg)) × Bool) := (spec_trThree.f k l0).bind fun t364 => (if t364 = true then (spec_MiddleThree.l0 k l0 ([] : List (S_impl_Peg)) (l0.length : Int) 0) else (some (([] : List (S_impl_Peg)), false)))
theorem spec_MiddleThree.mono_l : ∀ k, (∀ y0 y1 y2 y3, LeO (spec_MiddleThree.l0 k y0 y1 y2 y3) (spec_MiddleThree.l0 (k + 1) y0 y1 y2 y3))
 | 0 => fun _ _ _ _ r h => by simp [spec_MiddleThree.l0] at h
 | k + 1 => by
  have ih0 := spec_MiddleThree.mono_l k
  ·intro y0 y1 y2 y3
   unfold spec_MiddleThree.l0
   repeat' first
   | (with_reducible exact ih0 _ _ _ _)
   | (with_reducible exact spec_trThree.mono _ _)
   | (with_reducible exact LeO.refl _)
   | (with_reducible exact LeO.none _)
   | (with_reducible refine LeO.ite ?_ ?_)
   | (with_reducible refine LeO.bind ?_ (fun _ => ?_))
   | exact ih0 _ _ _ _
   | exact spec_trThree.mono _ _
   | exact LeO.none _
   | refine LeO.ite ?_ ?_
   | refine LeO.bind ?_ (fun _ => ?_)
theorem spec_MiddleThree.mono : ∀ a0 k, LeO (spec_MiddleThree.f k a0) (spec_MiddleThree.f (k + 1) a0) := by
 intro a0 k
 have ih0 := spec_MiddleThree.mono_l k
 unfold spec_MiddleThree.f
 repeat' first
   | (with_reducible exact ih0 _ _ _ _)
   | (with_reducible exact spec_trThree.mono _ _)
   | (with_reducible exact LeO.refl _)
   | (with_reducible exact LeO.none _)
   | (with_reducible refine LeO.ite ?_ ?_)
   | (with_reducible refine LeO.bind ?_ (fun _ => ?_))
   | exact ih0 _ _ _ _
   | exact spec_trThree.mono _ _
   | exact LeO.none _
   | refine LeO.ite ?_ ?_
   | refine LeO.bind ?_ (fun _ => ?_)
def spec_MiddleThree.T7 : Bool × List (List Nat × List Nat) := (true, [([], []), ([], []), ([1], [1]), ([2], [2]), ([0, 3], [0, 3]), ([4], [4]), ([], []), ([], []), ([7], [7]), ([8], [8]), ([6, 9], [6, 9]), ([10], [10]), ([], []), ([], []), ([12, 5, 0, 1, 2, 3, 4, 5, 12, 13], [5, 12]), ([13, 11, 14, 0, 1, 2, 3, 4, 5, 6, 7, 8, 9, 10, 11, 12, 13, 14], [11, 13])])
def spec_MiddleThree.B7 : List Nat := [0, 0, 2, 6, 15, 31, 0, 0, 128, 384, 960, 1984, 0, 0, 12351, 32767]
theorem spec_MiddleThree.tab7 : rtab .any (opsOf Try.f39 7) = spec_MiddleThree.T7 := by kernel_rfl
theorem spec_MiddleThree.bits7 : waitsOk spec_MiddleThree.T7.2 spec_MiddleThree.B7 = true := by kernel_rfl
set_option maxHeartbeats 8000000 in
set_option maxRecDepth 100000 in
theorem spec_MiddleThree.calls (k : Nat) (A0 : Option Addr) (c0 : Nat) (l0 : List (S_impl_Peg)) (r1 : List (S_impl_Peg)) (r2 : Bool) (w : World) (hr0 : Kd.C kd_impl_Peg w A0 l0.length l0) (hc0 : l0.length ≤ c0) (h : spec_MiddleThree.f k l0 = some (r1, r2)) :
  Calls Try.prog 39 #[.slice A0 l0.length c0] w fun e w' => ∃ v0_ : Value, e = .returned (.tuple #[v0_, .bool r2]) ∧ Kd.R kd_impl_Peg 34 w' w.heap.size (fun _ => True) v0_ r1 ∧ Below w.heap.size w w' := by
 have hu34 := Try.underlying34
 have HR0 := aM hr0
 have HC0 := aM hc0
 clear hr0 hc0
 have HB := aM (Below.refl w.heap.size w)
 have H : ((spec_trThree.f k l0).bind fun t364 => (if t364 = true then (spec_MiddleThree.l0 k l0 ([] : List (S_impl_Peg)) (l0.length : Int) 0) else (some (([] : List (S_impl_Peg)), false)))) = some (r1, r2) := h
 clear h
 replace H := oB.mp H
 obtain ⟨t364, A20, H⟩ := H
 replace H : (if t364 = true then (spec_MiddleThree.l0 k l0 ([] : List (S_impl_Peg)) (l0.length : Int) 0) else (some (([] : List (S_impl_Peg)), false))) = some (r1, r2) := H
 have A2 := aM A20
 clear A20
 by_cases c3 : t364 = true
 ·subst c3
  have H1 : (spec_MiddleThree.l0 k l0 ([] : List (S_impl_Peg)) (l0.length : Int) 0) = some (r1, r2) := by rw [if_pos rfl] at H; exact H
  clear H
  have H := H1
  clear H1
  have H' := aM H
  clear H
  go_enter Try.func39, Try.ntmps39
  go_wp2_with (first | ((with_reducible refine gC (f := 95) rfl ?_); refine goesL_ (some 9) rfl rfl Try.func95 (by kernel_rfl) rfl #[.slice A0 l0.length c0] rfl (by (try simp only [mA, mC, mN]); first | done | rfl | (simp only [lD, lT]; rfl)) ?_; (with_reducible refine (spec_trThree.calls k _ _ l0 true _ ?side1 ?side2 A2.out).mono ?_); (case side1 => repeat (first | exact HR0.out | (with_reducible refine cA ?_ _) | (with_reducible refine cN ?_ _) | (with_reducible refine cD ?_))); (case side2 => exact HC0.out); rintro e w4 ⟨rfl, hb⟩; refine ⟨_, rfl, ?_⟩; have n0_ := aM (pT (by repeat (first | (with_reducible first | exact HB.out | apply pA | apply pN | apply pD) | exact HB.out)) hb); clear HB; have HB := n0_; clear n0_; (try clear hb); (try clear hb2); (try clear hk); (try clear hi)))
  go_loopg [4, 13] k (fun kq v4 v13 w' => ∃ (x4_1 : List (S_impl_Peg)) (x13_1 : Int), v13 = .int .i64 x13_1 ∧ Aside0 (spec_MiddleThree.l0 kq l0 x4_1 (l0.length : Int) x13_1 = some (r1, r2)) ∧ Aside0 (kq ≤ k) ∧ Aside0 (Kd.R kd_impl_Peg 34 w' w.heap.size (fun _ => True) v4 x4_1) ∧ Aside0 (Below w.heap.size w w'))
  case atStart => exact ⟨(([] : List (S_impl_Peg))), (0), (by first | rfl | (simp; done) | (simp [*]; done)), H', ⟨Nat.le_refl _⟩, ⟨by first | exact Kd.R_nil _ _ _ _ _ | exact Kd.N_nil _ _ _ _ _ | exact Kd.V_nil _ _ _ _ _ | exact Kd.Q_nil _ _ _ _ _ | exact Kd.S_nil _ _ _ _ _⟩, ⟨by repeat (first | (with_reducible first | exact HB.out | apply pA | apply pN | apply pD) | exact HB.out)⟩⟩
  case round =>
   clear H'
   try clear p2
   try clear c3
   obtain ⟨x4_1, x13_1, rfl, HA, HK1, HO_4, HB⟩ := hrel
   cases gk with
   | zero => exact absurd HA.out (by simp [spec_MiddleThree.l0])
   | succ k1 =>
    have H := HA.out
    clear HA
    simp only [spec_MiddleThree.l0] at H
    by_cases c5 : x13_1 < (l0.length : Int)
    ·rw [if_pos c5] at H
     have c5b0 : decide (x13_1 < (l0.length : Int)) = true := dE c5
     clear c5
     obtain ⟨ji6, hji6⟩ : ∃ j_ : Int, (Int.tmod (wrap64 (x13_1 + 1)) 3) = j_ := ⟨_, rfl⟩
     replace H : (if 0 ≤ (ji6) then (if (ji6) < (l0.length : Int) then (if 0 ≤ (Int.tmod (wrap64 (x13_1 + 2)) 3) then (if (Int.tmod (wrap64 (x13_1 + 2)) 3) < (l0.length : Int) then (if (Int.tmod (wrap64 (((rd_impl_Peg l0 (ji6)).f0) + ((rd_impl_Peg l0 (Int.tmod (wrap64 (x13_1 + 2)) 3)).f0))) 2) = 0 then (if (Int.tmod (wrap64 (((rd_impl_Peg l0 (ji6)).f1) + ((rd_impl_Peg l0 (Int.tmod (wrap64 (x13_1 + 2)) 3)).f1))) 2) = 0 then (if x4_1.length < 8796093022208 then (spec_MiddleThree.l0 k1 l0 (x4_1 ++ [(⟨wrap64 (Int.tdiv (wrap64 (((rd_impl_Peg l0 (ji6)).f0) + ((rd_impl_Peg l0 (Int.tmod (wrap64 (x13_1 + 2)) 3)).f0))) 2), wrap64 (Int.tdiv (wrap64 (((rd_impl_Peg l0 (ji6)).f1) + ((rd_impl_Peg l0 (Int.tmod (wrap64 (x13_1 + 2)) 3)).f1))) 2)⟩ : S_impl_Peg)]) (l0.length : Int) (wrap64 (x13_1 + 1))) else (none)) else (some (([] : List (S_impl_Peg)), false))) else (some (([] : List (S_impl_Peg)), false))) else (none)) else (none)) else (none)) else (none)) = some (r1, r2) := by first | (rw [hji6] at H; exact H) | (simp only [hji6] at H ⊢; exact H)
     by_cases c7 : 0 ≤ (ji6)
     ·rw [if_pos c7] at H
      have c7b0 : decide (0 ≤ (ji6)) = true := dE c7
      clear c7
      by_cases c8 : (ji6) < (l0.length : Int)
      ·rw [if_pos c8] at H
       have c8b0 : decide ((ji6) < (l0.length : Int)) = true := dE c8
       clear c8
       obtain ⟨ji9, hji9⟩ : ∃ j_ : Int, (Int.tmod (wrap64 (x13_1 + 2)) 3) = j_ := ⟨_, rfl⟩
       replace H : (if 0 ≤ (ji9) then (if (ji9) < (l0.length : Int) then (if (Int.tmod (wrap64 (((rd_impl_Peg l0 (ji6)).f0) + ((rd_impl_Peg l0 (ji9)).f0))) 2) = 0 then (if (Int.tmod (wrap64 (((rd_impl_Peg l0 (ji6)).f1) + ((rd_impl_Peg l0 (ji9)).f1))) 2) = 0 then (if x4_1.length < 8796093022208 then (spec_MiddleThree.l0 k1 l0 (x4_1 ++ [(⟨wrap64 (Int.tdiv (wrap64 (((rd_impl_Peg l0 (ji6)).f0) + ((rd_impl_Peg l0 (ji9)).f0))) 2), wrap64 (Int.tdiv (wrap64 (((rd_impl_Peg l0 (ji6)).f1) + ((rd_impl_Peg l0 (ji9)).f1))) 2)⟩ : S_impl_Peg)]) (l0.length : Int) (wrap64 (x13_1 + 1))) else (none)) else (some (([] : List (S_impl_Peg)), false))) else (some (([] : List (S_impl_Peg)), false))) else (none)) else (none)) = some (r1, r2) := by first | (rw [hji9] at H; exact H) | (simp only [hji9] at H ⊢; exact H)
       by_cases c10 : 0 ≤ (ji9)
       ·rw [if_pos c10] at H
        have c10b0 : decide (0 ≤ (ji9)) = true := dE c10
        clear c10
        by_cases c11 : (ji9) < (l0.length : Int)
        ·rw [if_pos c11] at H
         have c11b0 : decide ((ji9) < (l0.length : Int)) = true := dE c11
         clear c11
         by_cases c12 : (Int.tmod (wrap64 (((rd_impl_Peg l0 (ji6)).f0) + ((rd_impl_Peg l0 (ji9)).f0))) 2) = 0
         ·rw [if_pos c12] at H
          have c12b0 : ((Int.tmod (wrap64 (((rd_impl_Peg l0 (ji6)).f0) + ((rd_impl_Peg l0 (ji9)).f0))) 2) == 0) = true := beq_iff_eq.mpr c12
          have c12b1 : ((Int.tmod (wrap64 (((rd_impl_Peg l0 (ji6)).f0) + ((rd_impl_Peg l0 (ji9)).f0))) 2) != 0) = false := bne_eq_false_iff_eq.mpr c12
          clear c12
          by_cases c13 : (Int.tmod (wrap64 (((rd_impl_Peg l0 (ji6)).f1) + ((rd_impl_Peg l0 (ji9)).f1))) 2) = 0
          ·rw [if_pos c13] at H
           have c13b0 : ((Int.tmod (wrap64 (((rd_impl_Peg l0 (ji6)).f1) + ((rd_impl_Peg l0 (ji9)).f1))) 2) == 0) = true := beq_iff_eq.mpr c13
           have c13b1 : ((Int.tmod (wrap64 (((rd_impl_Peg l0 (ji6)).f1) + ((rd_impl_Peg l0 (ji9)).f1))) 2) != 0) = false := bne_eq_false_iff_eq.mpr c13
           clear c13
           by_cases c14 : x4_1.length < 8796093022208
           ·rw [if_pos c14] at H
            have LMc14 := aM c14
            clear c14
            obtain ⟨y369, hy369⟩ : ∃ y_ : List (S_impl_Peg), y_ = (x4_1 ++ [(⟨wrap64 (Int.tdiv (wrap64 (((rd_impl_Peg l0 (ji6)).f0) + ((rd_impl_Peg l0 (ji9)).f0))) 2), wrap64 (Int.tdiv (wrap64 (((rd_impl_Peg l0 (ji6)).f1) + ((rd_impl_Peg l0 (ji9)).f1))) 2)⟩ : S_impl_Peg)]) := ⟨_, rfl⟩
            replace H : (spec_MiddleThree.l0 k1 l0 y369 (l0.length : Int) (wrap64 (x13_1 + 1))) = some (r1, r2) := by first | (rw [hy369]; with_reducible exact H) | (have H2_ := (Option.bind_some _ _).symm.trans H; rw [hy369]; with_reducible exact H2_) | (have H2_ := (Option.bind_some _ _).symm.trans H; with_reducible exact H2_) | with_reducible exact H | (rw [hy369]; exact H) | exact H
            have Ny369 := aM hy369
            clear hy369
            have H' := aM H
            clear H
            try go_wp2
            have n0_ := aM (rD HO_4.out)
            have n1_ := aM (pD HB.out)
            clear HO_4
            clear HB
            have HO_4 := n0_
            have HB := n1_
            clear n0_ n1_
            have p365 : 0 ≤ ((ji6) : Int) := dT (by first | (with_reducible assumption) | assumption)
            have q365 : (ji6) < (l0.length : Int) := dT (by first | (with_reducible assumption) | assumption)
            obtain ⟨ad365, e365, hx365_0, hx365_1⟩ := at_impl_Peg HR0.out (ji6) p365 q365
            have hw365_1 := hx365_1
            have hw365_0 := hx365_0
            cases e365
            replace hx365_0 := (HB.out.cell (wB w _ hx365_0)).trans hx365_0
            replace hx365_1 := (HB.out.cell (wB w _ hx365_1)).trans hx365_1
            replace p365 := eq_true p365
            replace q365 := eq_true q365
            have p366 : 0 ≤ ((ji9) : Int) := dT (by first | (with_reducible assumption) | assumption)
            have q366 : (ji9) < (l0.length : Int) := dT (by first | (with_reducible assumption) | assumption)
            obtain ⟨ad366, e366, hx366_0, hx366_1⟩ := at_impl_Peg HR0.out (ji9) p366 q366
            have hw366_1 := hx366_1
            have hw366_0 := hx366_0
            obtain rfl : ad365 = ad366 := (by injection e366)
            replace hx366_0 := (HB.out.cell (wB w _ hx366_0)).trans hx366_0
            replace hx366_1 := (HB.out.cell (wB w _ hx366_1)).trans hx366_1
            replace p366 := eq_true p366
            replace q366 := eq_true q366
            refine start_ (n := 16) (S := fun w' => w'.cell? (ad365.add (((ji6)).toNat * 2)) = some (.int .i64 ((rd_impl_Peg l0 (ji6)).f0)) ∧ w'.cell? ⟨(ad365.add (((ji6)).toNat * 2)).block, (ad365.add (((ji6)).toNat * 2)).off + 1, none⟩ = some (.int .i64 ((rd_impl_Peg l0 (ji6)).f1)) ∧ w'.cell? (ad365.add (((ji9)).toNat * 2)) = some (.int .i64 ((rd_impl_Peg l0 (ji9)).f0)) ∧ w'.cell? ⟨(ad365.add (((ji9)).toNat * 2)).block, (ad365.add (((ji9)).toNat * 2)).off + 1, none⟩ = some (.int .i64 ((rd_impl_Peg l0 (ji9)).f1))) (ds := []) #[false, false, false, false, false, false, false, false, false, false, false, false, false, false, false, false] (by kernel_rfl) rfl rfl ⟨((HB.out.cell (wB w _ hw365_0)).trans hw365_0), ((HB.out.cell (wB w _ hw365_1)).trans hw365_1), ((HB.out.cell (wB w _ hw366_0)).trans hw366_0), ((HB.out.cell (wB w _ hw366_1)).trans hw366_1)⟩ (fun hHeld => ?_); refine with_tabW spec_MiddleThree.tab7 spec_MiddleThree.bits7 (fun HT_ HW_ => ?_)
            generalize wr.drew = w15 at HO_4 HB hx365_0 hx365_1 hx366_0 hx366_1 hHeld ⊢
            refine pure_ (i := 0) (N := some 16) (v := ?_) (a' := ?_) #[true, false, false, false, false, false, false, false, false, false, false, false, false, false, false, false] rfl rfl (any_of HT_.out (by kernel_rfl)) (fun _ _ _ h => h) (Or.inl ⟨by rfl, ?_⟩) ?_ ?_
            rotate_left
            ·intro w'
             go_simp
             with_reducible rfl
            rotate_left
            ·simp only [Act.put, sI, sZ, sS, i64_w, i32_w]
             rfl
            refine pure_ (i := 1) (N := some 17) (v := ?_) (a' := ?_) #[true, true, false, false, false, false, false, false, false, false, false, false, false, false, false, false] rfl rfl (any_of HT_.out (by kernel_rfl)) (fun _ _ _ h => h) (Or.inl ⟨by rfl, ?_⟩) ?_ ?_
            rotate_left
            ·intro w'
             go_simp
             with_reducible rfl
            rotate_left
            ·simp only [Act.put, sI, sZ, sS, i64_w, i32_w]
             rfl
            refine pure_ (i := 2) (N := some 18) (v := ?_) (a' := ?_) #[true, true, true, false, false, false, false, false, false, false, false, false, false, false, false, false] rfl rfl (any_of HT_.out (by kernel_rfl)) (fun _ _ _ h => h) (Or.inl ⟨by rfl, ?_⟩) ?_ ?_
            rotate_left
            ·intro w'
             go_simp
             with_reducible rfl
            rotate_left
            ·simp only [Act.put, sI, sZ, sS, i64_w, i32_w]
             rfl
            refine pure_ (i := 3) (N := some 19) (v := ?_) (a' := ?_) #[true, true, true, true, false, false, false, false, false, false, false, false, false, false, false, false] rfl rfl (any_of HT_.out (by kernel_rfl)) (fun _ _ _ h => h) (Or.inl ⟨by rfl, ?_⟩) ?_ ?_
            rotate_left
            ·intro w'
             go_simp
             with_reducible rfl
            rotate_left
            ·simp only [Act.put, sI, sZ, sS, i64_w, i32_w]
             rfl
            refine pure_ (i := 4) (N := some 20) (v := ?_) (a' := ?_) #[true, true, true, true, true, false, false, false, false, false, false, false, false, false, false, false] rfl rfl (any_of HT_.out (by kernel_rfl)) (fun _ _ _ h => h) (Or.inl ⟨by rfl, ?_⟩) ?_ ?_
            rotate_left
            ·intro w'
             go_simp
             with_reducible rfl
            rotate_left
            ·simp only [Act.put, sI, sZ, sS, i64_w, i32_w]
             rfl
            refine pure_ (i := 6) (N := some 22) (v := ?_) (a' := ?_) #[true, true, true, true, true, false, true, false, false, false, false, false, false, false, false, false] rfl rfl (any_of HT_.out (by kernel_rfl)) (fun _ _ _ h => h) (Or.inl ⟨by rfl, ?_⟩) ?_ ?_
            rotate_left
            ·intro w'
             go_simp
             with_reducible rfl
            rotate_left
            ·simp only [Act.put, sI, sZ, sS, i64_w, i32_w]
             rfl
            refine pure_ (i := 7) (N := some 23) (v := ?_) (a' := ?_) #[true, true, true, true, true, false, true, true, false, false, false, false, false, false, false, false] rfl rfl (any_of HT_.out (by kernel_rfl)) (fun _ _ _ h => h) (Or.inl ⟨by rfl, ?_⟩) ?_ ?_
            rotate_left
            ·intro w'
             go_simp
             with_reducible rfl
            rotate_left
            ·simp only [Act.put, sI, sZ, sS, i64_w, i32_w]
             rfl
            refine pure_ (i := 8) (N := some 24) (v := ?_) (a' := ?_) #[true, true, true, true, true, false, true, true, true, false, false, false, false, false, false, false] rfl rfl (any_of HT_.out (by kernel_rfl)) (fun _ _ _ h => h) (Or.inl ⟨by rfl, ?_⟩) ?_ ?_
            rotate_left
            ·intro w'
             go_simp
             with_reducible rfl
            rotate_left
            ·simp only [Act.put, sI, sZ, sS, i64_w, i32_w]
             rfl
            refine pure_ (i := 9) (N := some 25) (v := ?_) (a' := ?_) #[true, true, true, true, true, false, true, true, true, true, false, false, false, false, false, false] rfl rfl (any_of HT_.out (by kernel_rfl)) (fun _ _ _ h => h) (Or.inl ⟨by rfl, ?_⟩) ?_ ?_
            rotate_left
            ·intro w'
             go_simp
             with_reducible rfl
            rotate_left
            ·simp only [Act.put, sI, sZ, sS, i64_w, i32_w]
             rfl
            refine pure_ (i := 10) (N := some 26) (v := ?_) (a' := ?_) #[true, true, true, true, true, false, true, true, true, true, true, false, false, false, false, false] rfl rfl (any_of HT_.out (by kernel_rfl)) (fun _ _ _ h => h) (Or.inl ⟨by rfl, ?_⟩) ?_ ?_
            rotate_left
            ·intro w'
             go_simp
             with_reducible rfl
            rotate_left
            ·simp only [Act.put, sI, sZ, sS, i64_w, i32_w]
             rfl
            refine take_ (i := 5) (N := some 21) (v := ?_) (a' := ?_) #[true, true, true, true, true, true, true, true, true, true, true, false, false, false, false, false] rfl rfl (take_ofW HT_.out HW_.out (by kernel_rfl)) (fun _ _ _ h => h) (Or.inl ⟨by rfl, ?_⟩) hHeld ?_ ?_
            rotate_left
            ·rintro w' ⟨s0, s1, s2, s3⟩
             go_simp
             with_reducible rfl
            rotate_left
            ·simp only [Act.put, sI, sZ, sS, i64_w, i32_w]
             rfl
            refine take_ (i := 11) (N := some 27) (v := ?_) (a' := ?_) #[true, true, true, true, true, true, true, true, true, true, true, true, false, false, false, false] rfl rfl (take_ofW HT_.out HW_.out (by kernel_rfl)) (fun _ _ _ h => h) (Or.inl ⟨by rfl, ?_⟩) hHeld ?_ ?_
            rotate_left
            ·rintro w' ⟨s0, s1, s2, s3⟩
             go_simp
             with_reducible rfl
            rotate_left
            ·simp only [Act.put, sI, sZ, sS, i64_w, i32_w]
             rfl
            refine join_ (σ := Nat × Nat) 2 #[true, true, true, true, true, true, true, true, true, true, true, true, true, true, false, false] (fun s_ => [(6, .pointer (some ⟨s_.1, 0, none⟩)), (7, .pointer (some ⟨s_.2, 0, none⟩))]) (fun s_ w' => (w'.cell? (ad365.add (((ji6)).toNat * 2)) = some (.int .i64 ((rd_impl_Peg l0 (ji6)).f0)) ∧ w'.cell? ⟨(ad365.add (((ji6)).toNat * 2)).block, (ad365.add (((ji6)).toNat * 2)).off + 1, none⟩ = some (.int .i64 ((rd_impl_Peg l0 (ji6)).f1)) ∧ w'.cell? (ad365.add (((ji9)).toNat * 2)) = some (.int .i64 ((rd_impl_Peg l0 (ji9)).f0)) ∧ w'.cell? ⟨(ad365.add (((ji9)).toNat * 2)).block, (ad365.add (((ji9)).toNat * 2)).off + 1, none⟩ = some (.int .i64 ((rd_impl_Peg l0 (ji9)).f1))) ∧ (Kd.R kd_impl_Peg 34 w' w.heap.size (fun k_ => k_ ≠ s_.1 ∧ k_ ≠ s_.2) u4 x4_1) ∧ (w'.heap[s_.1]? = some (.cells #[.int .i64 0, .int .i64 0] 34 (0, 0))) ∧ (w'.heap[s_.2]? = some (.cells #[.int .i64 0, .int .i64 0] 34 (0, 0))) ∧ (w.heap.size ≤ s_.1) ∧ (w.heap.size ≤ s_.1) ∧ (s_.2 ≠ s_.1) ∧ (s_.1 ≠ s_.2) ∧ (w.heap.size ≤ s_.2) ∧ (w.heap.size ≤ s_.2) ∧ (Below w.heap.size w w')) ?_ ?_
            rotate_left
            ·intro hCont
             refine two_ (i := 12) (j := 13) (Ni := some 6) (Nj := some 7) #[true, true, true, true, true, true, true, true, true, true, true, true, true, false, false, false] #[true, true, true, true, true, true, true, true, true, true, true, true, false, true, false, false] rfl rfl rfl rfl (two_of HT_.out (by kernel_rfl)) (by decide) (by decide) (fun K hK => ?_) (fun K hK => ?_)
             ·skip
              refine box_step ?hg (N := 6) ?hd (cs := #[.int .i64 0, .int .i64 0]) (t := 34) ?hr ?_; (case hd => rfl); (case hg => rfl); (case hr => first | (go_simp; done) | (go_simp; rfl))
              intro gb367 hg w16 hbox hb
              have n0_ := aM (Kd.R_below (Kd.R_elderB (by (with_reducible repeat (first | apply rA | apply rN | apply rD)); exact HO_4.out) gb367 (Nat.le_of_eq hg.symm)) hb)
              have n1_ := aM (pT (by repeat (first | (with_reducible first | exact HB.out | apply pA | apply pN | apply pD) | exact HB.out)) hb)
              have n2_ := aM (hbox)
              have n3_ := aM ((by rw [hg]; exact (pZ (by repeat (first | (with_reducible first | exact HB.out | apply pA | apply pN | apply pD) | exact HB.out))) : w.heap.size ≤ gb367))
              have n4_ := aM ((by rw [hg]; exact (pZ (by repeat (first | (with_reducible first | exact HB.out | apply pA | apply pN | apply pD) | exact HB.out))) : w.heap.size ≤ gb367))
              clear HO_4
              clear HB
              have HO_4 := n0_
              have HB := n1_
              have BK367 := n2_
              have GW367 := n3_
              have GE367 := n4_
              clear n0_ n1_ n2_ n3_ n4_
              clear hb hbox hg
              refine hK.out _ _ ⟨((HB.out.cell (wB w _ hw365_0)).trans hw365_0), ((HB.out.cell (wB w _ hw365_1)).trans hw365_1), ((HB.out.cell (wB w _ hw366_0)).trans hw366_0), ((HB.out.cell (wB w _ hw366_1)).trans hw366_1)⟩ (fun hHeld => ?_)
              clear hK K
              refine norm_ (a' := ?_) ?_ ?_
              rotate_left
              ·show Act.put _ (some 6) _ = _
               simp only [Act.put, sI, sZ, sS, i64_w, i32_w]
               rfl
              refine one_ (i := 13) (N := some 7) #[true, true, true, true, true, true, true, true, true, true, true, true, true, true, false, false] rfl rfl (one_of HT_.out (by kernel_rfl)) (by decide) (fun K hK => ?_)
              refine box_step ?hg (N := 7) ?hd (cs := #[.int .i64 0, .int .i64 0]) (t := 34) ?hr ?_; (case hd => rfl); (case hg => rfl); (case hr => first | (go_simp; done) | (go_simp; rfl))
              intro gb368 hg w17 hbox hb
              have n0_ := aM (Kd.R_below (Kd.R_elderB (by (with_reducible repeat (first | apply rA | apply rN | apply rD)); exact HO_4.out) gb368 (Nat.le_of_eq hg.symm)) hb)
              have n1_ := aM (blk_below (g := gb367) (o := .cells #[.int .i64 0, .int .i64 0] 34 (0, 0)) (by (with_reducible repeat (first | refine kN ?_ _ | refine kD ?_ | refine kA ?_ _)); exact BK367.out) hb)
              have n2_ := aM (pT (by repeat (first | (with_reducible first | exact HB.out | apply pA | apply pN | apply pD | refine pS ?_ GE367.out) | exact HB.out)) hb)
              have n3_ := aM (hbox)
              have n4_ := aM ((by rw [hg]; exact (pZ (by repeat (first | (with_reducible first | exact HB.out | apply pA | apply pN | apply pD | refine pS ?_ GE367.out) | exact HB.out))) : w.heap.size ≤ gb368))
              have n5_ := aM ((by rw [hg]; exact (pZ (by repeat (first | (with_reducible first | exact HB.out | apply pA | apply pN | apply pD | refine pS ?_ GE367.out) | exact HB.out))) : w.heap.size ≤ gb368))
              have n6_ := aM ((by rw [hg]; exact nN (blk_lt (g := gb367) (o := .cells #[.int .i64 0, .int .i64 0] 34 (0, 0)) (by (with_reducible repeat (first | refine kN ?_ _ | refine kD ?_ | refine kA ?_ _)); exact BK367.out)) : gb367 ≠ gb368))
              have n7_ := aM ((by rw [hg]; exact Nat.ne_of_gt (blk_lt (g := gb367) (o := .cells #[.int .i64 0, .int .i64 0] 34 (0, 0)) (by (with_reducible repeat (first | refine kN ?_ _ | refine kD ?_ | refine kA ?_ _)); exact BK367.out)) : gb368 ≠ gb367))
              clear HO_4
              clear BK367
              clear HB
              have HO_4 := n0_
              have BK367 := n1_
              have HB := n2_
              have BK368 := n3_
              have GW368 := n4_
              have GE368 := n5_
              have NB367_368 := n6_
              have NB368_367 := n7_
              clear n0_ n1_ n2_ n3_ n4_ n5_ n6_ n7_
              clear hb hbox hg
              refine hK.out _ _ ⟨((HB.out.cell (wB w _ hw365_0)).trans hw365_0), ((HB.out.cell (wB w _ hw365_1)).trans hw365_1), ((HB.out.cell (wB w _ hw366_0)).trans hw366_0), ((HB.out.cell (wB w _ hw366_1)).trans hw366_1)⟩ (fun hHeld => ?_)
              clear hK K
              refine norm_ (a' := ?_) ?_ ?_
              rotate_left
              ·show Act.put _ (some 7) _ = _
               simp only [Act.put, sI, sZ, sS, i64_w, i32_w]
               rfl
              exact norm_ (by simp only [putAll, Act.put, sI, sZ, sS]) (hCont (gb367, gb368) _ ⟨hHeld, (by (with_reducible repeat (first | apply rA | apply rN | apply rD)); exact Kd.R_mono HO_4.out (fun _ hk => ⟨hk.1.2, hk.2⟩)), (by (with_reducible repeat (first | refine kN ?_ _ | refine kD ?_ | refine kA ?_ _)); exact BK367.out), (by (with_reducible repeat (first | refine kN ?_ _ | refine kD ?_ | refine kA ?_ _)); exact BK368.out), GW367.out, GE367.out, NB368_367.out, NB367_368.out, GW368.out, GE368.out, (by repeat (first | (with_reducible first | exact HB.out | apply pA | apply pN | apply pD | refine pS ?_ GE367.out | refine pS ?_ GE368.out) | exact HB.out))⟩)
             ·skip
              refine box_step ?hg (N := 7) ?hd (cs := #[.int .i64 0, .int .i64 0]) (t := 34) ?hr ?_; (case hd => rfl); (case hg => rfl); (case hr => first | (go_simp; done) | (go_simp; rfl))
              intro gb368 hg w16 hbox hb
              have n0_ := aM (Kd.R_below (Kd.R_elderB (by (with_reducible repeat (first | apply rA | apply rN | apply rD)); exact HO_4.out) gb368 (Nat.le_of_eq hg.symm)) hb)
              have n1_ := aM (pT (by repeat (first | (with_reducible first | exact HB.out | apply pA | apply pN | apply pD) | exact HB.out)) hb)
              have n2_ := aM (hbox)
              have n3_ := aM ((by rw [hg]; exact (pZ (by repeat (first | (with_reducible first | exact HB.out | apply pA | apply pN | apply pD) | exact HB.out))) : w.heap.size ≤ gb368))
              have n4_ := aM ((by rw [hg]; exact (pZ (by repeat (first | (with_reducible first | exact HB.out | apply pA | apply pN | apply pD) | exact HB.out))) : w.heap.size ≤ gb368))
              clear HO_4
              clear HB
              have HO_4 := n0_
              have HB := n1_
              have BK368 := n2_
              have GW368 := n3_
              have GE368 := n4_
              clear n0_ n1_ n2_ n3_ n4_
              clear hb hbox hg
              refine hK.out _ _ ⟨((HB.out.cell (wB w _ hw365_0)).trans hw365_0), ((HB.out.cell (wB w _ hw365_1)).trans hw365_1), ((HB.out.cell (wB w _ hw366_0)).trans hw366_0), ((HB.out.cell (wB w _ hw366_1)).trans hw366_1)⟩ (fun hHeld => ?_)
              clear hK K
              refine norm_ (a' := ?_) ?_ ?_
              rotate_left
              ·show Act.put _ (some 7) _ = _
               simp only [Act.put, sI, sZ, sS, i64_w, i32_w]
               rfl
              refine one_ (i := 12) (N := some 6) #[true, true, true, true, true, true, true, true, true, true, true, true, true, true, false, false] rfl rfl (one_of HT_.out (by kernel_rfl)) (by decide) (fun K hK => ?_)
              refine box_step ?hg (N := 6) ?hd (cs := #[.int .i64 0, .int .i64 0]) (t := 34) ?hr ?_; (case hd => rfl); (case hg => rfl); (case hr => first | (go_simp; done) | (go_simp; rfl))
              intro gb367 hg w17 hbox hb
              have n0_ := aM (Kd.R_below (Kd.R_elderB (by (with_reducible repeat (first | apply rA | apply rN | apply rD)); exact HO_4.out) gb367 (Nat.le_of_eq hg.symm)) hb)
              have n1_ := aM (blk_below (g := gb368) (o := .cells #[.int .i64 0, .int .i64 0] 34 (0, 0)) (by (with_reducible repeat (first | refine kN ?_ _ | refine kD ?_ | refine kA ?_ _)); exact BK368.out) hb)
              have n2_ := aM (pT (by repeat (first | (with_reducible first | exact HB.out | apply pA | apply pN | apply pD | refine pS ?_ GE368.out) | exact HB.out)) hb)
              have n3_ := aM (hbox)
              have n4_ := aM ((by rw [hg]; exact (pZ (by repeat (first | (with_reducible first | exact HB.out | apply pA | apply pN | apply pD | refine pS ?_ GE368.out) | exact HB.out))) : w.heap.size ≤ gb367))
              have n5_ := aM ((by rw [hg]; exact (pZ (by repeat (first | (with_reducible first | exact HB.out | apply pA | apply pN | apply pD | refine pS ?_ GE368.out) | exact HB.out))) : w.heap.size ≤ gb367))
              have n6_ := aM ((by rw [hg]; exact nN (blk_lt (g := gb368) (o := .cells #[.int .i64 0, .int .i64 0] 34 (0, 0)) (by (with_reducible repeat (first | refine kN ?_ _ | refine kD ?_ | refine kA ?_ _)); exact BK368.out)) : gb368 ≠ gb367))
              have n7_ := aM ((by rw [hg]; exact Nat.ne_of_gt (blk_lt (g := gb368) (o := .cells #[.int .i64 0, .int .i64 0] 34 (0, 0)) (by (with_reducible repeat (first | refine kN ?_ _ | refine kD ?_ | refine kA ?_ _)); exact BK368.out)) : gb367 ≠ gb368))
              clear HO_4
              clear BK368
              clear HB
              have HO_4 := n0_
              have BK368 := n1_
              have HB := n2_
              have BK367 := n3_
              have GW367 := n4_
              have GE367 := n5_
              have NB368_367 := n6_
              have NB367_368 := n7_
              clear n0_ n1_ n2_ n3_ n4_ n5_ n6_ n7_
              clear hb hbox hg
              refine hK.out _ _ ⟨((HB.out.cell (wB w _ hw365_0)).trans hw365_0), ((HB.out.cell (wB w _ hw365_1)).trans hw365_1), ((HB.out.cell (wB w _ hw366_0)).trans hw366_0), ((HB.out.cell (wB w _ hw366_1)).trans hw366_1)⟩ (fun hHeld => ?_)
              clear hK K
              refine norm_ (a' := ?_) ?_ ?_
              rotate_left
              ·show Act.put _ (some 6) _ = _
               simp only [Act.put, sI, sZ, sS, i64_w, i32_w]
               rfl
              exact norm_ (by simp only [putAll, Act.put, sI, sZ, sS]) (hCont (gb367, gb368) _ ⟨hHeld, (by (with_reducible repeat (first | apply rA | apply rN | apply rD)); exact Kd.R_mono HO_4.out (fun _ hk => ⟨hk.2, hk.1.2⟩)), (by (with_reducible repeat (first | refine kN ?_ _ | refine kD ?_ | refine kA ?_ _)); exact BK367.out), (by (with_reducible repeat (first | refine kN ?_ _ | refine kD ?_ | refine kA ?_ _)); exact BK368.out), GW367.out, GE367.out, NB368_367.out, NB367_368.out, GW368.out, GE368.out, (by repeat (first | (with_reducible first | exact HB.out | apply pA | apply pN | apply pD | refine pS ?_ GE368.out | refine pS ?_ GE367.out) | exact HB.out))⟩)
            rintro ⟨gb367, gb368⟩ w18 ⟨hS_, h0_, h1_, h2_, h3_, h4_, h5_, h6_, h7_, h8_, h9_⟩
            have n0_ : Aside0 (Kd.R kd_impl_Peg 34 w18 w.heap.size (fun k_ => k_ ≠ gb367 ∧ k_ ≠ gb368) u4 x4_1) := ⟨h0_⟩
            have n1_ : Aside0 (w18.heap[gb367]? = some (.cells #[.int .i64 0, .int .i64 0] 34 (0, 0))) := ⟨h1_⟩
            have n2_ : Aside0 (w18.heap[gb368]? = some (.cells #[.int .i64 0, .int .i64 0] 34 (0, 0))) := ⟨h2_⟩
            have n3_ : Aside0 (w.heap.size ≤ gb367) := ⟨h3_⟩
            have n4_ : Aside0 (w.heap.size ≤ gb367) := ⟨h4_⟩
            have n5_ : Aside0 (gb368 ≠ gb367) := ⟨h5_⟩
            have n6_ : Aside0 (gb367 ≠ gb368) := ⟨h6_⟩
            have n7_ : Aside0 (w.heap.size ≤ gb368) := ⟨h7_⟩
            have n8_ : Aside0 (w.heap.size ≤ gb368) := ⟨h8_⟩
            have n9_ : Aside0 (Below w.heap.size w w18) := ⟨h9_⟩
            clear HO_4
            clear HB
            clear h0_ h1_ h2_ h3_ h4_ h5_ h6_ h7_ h8_ h9_
            have HO_4 := n0_
            have BK367 := n1_
            have BK368 := n2_
            have GW367 := n3_
            have GE367 := n4_
            have NB368_367 := n5_
            have NB367_368 := n6_
            have GW368 := n7_
            have GE368 := n8_
            have HB := n9_
            clear n0_ n1_ n2_ n3_ n4_ n5_ n6_ n7_ n8_ n9_
            have hHeld : w18.cell? (ad365.add (((ji6)).toNat * 2)) = some (.int .i64 ((rd_impl_Peg l0 (ji6)).f0)) ∧ w18.cell? ⟨(ad365.add (((ji6)).toNat * 2)).block, (ad365.add (((ji6)).toNat * 2)).off + 1, none⟩ = some (.int .i64 ((rd_impl_Peg l0 (ji6)).f1)) ∧ w18.cell? (ad365.add (((ji9)).toNat * 2)) = some (.int .i64 ((rd_impl_Peg l0 (ji9)).f0)) ∧ w18.cell? ⟨(ad365.add (((ji9)).toNat * 2)).block, (ad365.add (((ji9)).toNat * 2)).off + 1, none⟩ = some (.int .i64 ((rd_impl_Peg l0 (ji9)).f1)) := hS_
            refine norm_ (a' := ?_) ?_ ?_
            rotate_left
            ·simp only [putAll, Act.put, sI, sZ, sS]
             rfl
            refine one_ (i := 14) (N := none) #[true, true, true, true, true, true, true, true, true, true, true, true, true, true, true, false] rfl rfl (one_of HT_.out (by kernel_rfl)) (by decide) (fun K hK => ?_)
            have hs19 : w18.cell? ⟨gb367, 0, none⟩ = some (.int .i64 0) := (kC BK367.out 0).trans rfl
            have hfs19 := kF BK367.out 0
            have hns19_1 := NB368_367.out
            have hms19_1 := NB367_368.out
            have hs20 : w18.cell? ⟨gb367, 1, none⟩ = some (.int .i64 0) := (kC BK367.out 1).trans rfl
            have hfs20 := kF BK367.out 1
            have hns20_1 := NB368_367.out
            have hms20_1 := NB367_368.out
            refine skip_ (w1 := ?_) (by rfl) rfl ?_ ?_
            rotate_left
            ·go_simp
             rfl
            refine hK.out _ _ ⟨((cell_far (p := ⟨gb367, _, none⟩) (by first | exact nN (nL (by have := wB _ _ hw365_0; first | rwa [add_block] at this | exact this) GW367.out) | (rw [add_block]; exact nN (nL (by have := wB _ _ hw365_0; first | rwa [add_block] at this | exact this) GW367.out)) | (show (Addr.add _ _).block ≠ _; rw [add_block]; exact nN (nL (by have := wB _ _ hw365_0; first | rwa [add_block] at this | exact this) GW367.out)) | (dsimp only; exact nN (nL (by have := wB _ _ hw365_0; first | rwa [add_block] at this | exact this) GW367.out))) _).trans (((cell_far (p := ⟨gb367, _, none⟩) (by first | exact nN (nL (by have := wB _ _ hw365_0; first | rwa [add_block] at this | exact this) GW367.out) | (rw [add_block]; exact nN (nL (by have := wB _ _ hw365_0; first | rwa [add_block] at this | exact this) GW367.out)) | (show (Addr.add _ _).block ≠ _; rw [add_block]; exact nN (nL (by have := wB _ _ hw365_0; first | rwa [add_block] at this | exact this) GW367.out)) | (dsimp only; exact nN (nL (by have := wB _ _ hw365_0; first | rwa [add_block] at this | exact this) GW367.out))) _).trans (hHeld.1)))), ((cell_far (p := ⟨gb367, _, none⟩) (by first | exact nN (nL (by have := wB _ _ hw365_1; first | rwa [add_block] at this | exact this) GW367.out) | (rw [add_block]; exact nN (nL (by have := wB _ _ hw365_1; first | rwa [add_block] at this | exact this) GW367.out)) | (show (Addr.add _ _).block ≠ _; rw [add_block]; exact nN (nL (by have := wB _ _ hw365_1; first | rwa [add_block] at this | exact this) GW367.out)) | (dsimp only; exact nN (nL (by have := wB _ _ hw365_1; first | rwa [add_block] at this | exact this) GW367.out))) _).trans (((cell_far (p := ⟨gb367, _, none⟩) (by first | exact nN (nL (by have := wB _ _ hw365_1; first | rwa [add_block] at this | exact this) GW367.out) | (rw [add_block]; exact nN (nL (by have := wB _ _ hw365_1; first | rwa [add_block] at this | exact this) GW367.out)) | (show (Addr.add _ _).block ≠ _; rw [add_block]; exact nN (nL (by have := wB _ _ hw365_1; first | rwa [add_block] at this | exact this) GW367.out)) | (dsimp only; exact nN (nL (by have := wB _ _ hw365_1; first | rwa [add_block] at this | exact this) GW367.out))) _).trans (hHeld.2.1)))), ((cell_far (p := ⟨gb367, _, none⟩) (by first | exact nN (nL (by have := wB _ _ hw366_0; first | rwa [add_block] at this | exact this) GW367.out) | (rw [add_block]; exact nN (nL (by have := wB _ _ hw366_0; first | rwa [add_block] at this | exact this) GW367.out)) | (show (Addr.add _ _).block ≠ _; rw [add_block]; exact nN (nL (by have := wB _ _ hw366_0; first | rwa [add_block] at this | exact this) GW367.out)) | (dsimp only; exact nN (nL (by have := wB _ _ hw366_0; first | rwa [add_block] at this | exact this) GW367.out))) _).trans (((cell_far (p := ⟨gb367, _, none⟩) (by first | exact nN (nL (by have := wB _ _ hw366_0; first | rwa [add_block] at this | exact this) GW367.out) | (rw [add_block]; exact nN (nL (by have := wB _ _ hw366_0; first | rwa [add_block] at this | exact this) GW367.out)) | (show (Addr.add _ _).block ≠ _; rw [add_block]; exact nN (nL (by have := wB _ _ hw366_0; first | rwa [add_block] at this | exact this) GW367.out)) | (dsimp only; exact nN (nL (by have := wB _ _ hw366_0; first | rwa [add_block] at this | exact this) GW367.out))) _).trans (hHeld.2.2.1)))), ((cell_far (p := ⟨gb367, _, none⟩) (by first | exact nN (nL (by have := wB _ _ hw366_1; first | rwa [add_block] at this | exact this) GW367.out) | (rw [add_block]; exact nN (nL (by have := wB _ _ hw366_1; first | rwa [add_block] at this | exact this) GW367.out)) | (show (Addr.add _ _).block ≠ _; rw [add_block]; exact nN (nL (by have := wB _ _ hw366_1; first | rwa [add_block] at this | exact this) GW367.out)) | (dsimp only; exact nN (nL (by have := wB _ _ hw366_1; first | rwa [add_block] at this | exact this) GW367.out))) _).trans (((cell_far (p := ⟨gb367, _, none⟩) (by first | exact nN (nL (by have := wB _ _ hw366_1; first | rwa [add_block] at this | exact this) GW367.out) | (rw [add_block]; exact nN (nL (by have := wB _ _ hw366_1; first | rwa [add_block] at this | exact this) GW367.out)) | (show (Addr.add _ _).block ≠ _; rw [add_block]; exact nN (nL (by have := wB _ _ hw366_1; first | rwa [add_block] at this | exact this) GW367.out)) | (dsimp only; exact nN (nL (by have := wB _ _ hw366_1; first | rwa [add_block] at this | exact this) GW367.out))) _).trans (hHeld.2.2.2))))⟩ (fun hHeld => ?_)
            clear hK K
            refine one_ (i := 15) (N := none) #[true, true, true, true, true, true, true, true, true, true, true, true, true, true, true, true] rfl rfl (one_of HT_.out (by kernel_rfl)) (by decide) (fun K hK => ?_)
            have hs21 : w18.cell? ⟨gb368, 0, none⟩ = some (.int .i64 0) := (kC BK368.out 0).trans rfl
            have hfs21 := kF BK368.out 0
            have hns21_0 := NB367_368.out
            have hms21_0 := NB368_367.out
            have hs22 : w18.cell? ⟨gb368, 1, none⟩ = some (.int .i64 0) := (kC BK368.out 1).trans rfl
            have hfs22 := kF BK368.out 1
            have hns22_0 := NB367_368.out
            have hms22_0 := NB368_367.out
            refine skip_ (w1 := ?_) (by rfl) rfl ?_ ?_
            rotate_left
            ·go_simp
             rfl
            refine hK.out _ _ ⟨((cell_far (p := ⟨gb368, _, none⟩) (by first | exact nN (nL (by have := wB _ _ hw365_0; first | rwa [add_block] at this | exact this) GW368.out) | (rw [add_block]; exact nN (nL (by have := wB _ _ hw365_0; first | rwa [add_block] at this | exact this) GW368.out)) | (show (Addr.add _ _).block ≠ _; rw [add_block]; exact nN (nL (by have := wB _ _ hw365_0; first | rwa [add_block] at this | exact this) GW368.out)) | (dsimp only; exact nN (nL (by have := wB _ _ hw365_0; first | rwa [add_block] at this | exact this) GW368.out))) _).trans (((cell_far (p := ⟨gb368, _, none⟩) (by first | exact nN (nL (by have := wB _ _ hw365_0; first | rwa [add_block] at this | exact this) GW368.out) | (rw [add_block]; exact nN (nL (by have := wB _ _ hw365_0; first | rwa [add_block] at this | exact this) GW368.out)) | (show (Addr.add _ _).block ≠ _; rw [add_block]; exact nN (nL (by have := wB _ _ hw365_0; first | rwa [add_block] at this | exact this) GW368.out)) | (dsimp only; exact nN (nL (by have := wB _ _ hw365_0; first | rwa [add_block] at this | exact this) GW368.out))) _).trans (hHeld.1)))), ((cell_far (p := ⟨gb368, _, none⟩) (by first | exact nN (nL (by have := wB _ _ hw365_1; first | rwa [add_block] at this | exact this) GW368.out) | (rw [add_block]; exact nN (nL (by have := wB _ _ hw365_1; first | rwa [add_block] at this | exact this) GW368.out)) | (show (Addr.add _ _).block ≠ _; rw [add_block]; exact nN (nL (by have := wB _ _ hw365_1; first | rwa [add_block] at this | exact this) GW368.out)) | (dsimp only; exact nN (nL (by have := wB _ _ hw365_1; first | rwa [add_block] at this | exact this) GW368.out))) _).trans (((cell_far (p := ⟨gb368, _, none⟩) (by first | exact nN (nL (by have := wB _ _ hw365_1; first | rwa [add_block] at this | exact this) GW368.out) | (rw [add_block]; exact nN (nL (by have := wB _ _ hw365_1; first | rwa [add_block] at this | exact this) GW368.out)) | (show (Addr.add _ _).block ≠ _; rw [add_block]; exact nN (nL (by have := wB _ _ hw365_1; first | rwa [add_block] at this | exact this) GW368.out)) | (dsimp only; exact nN (nL (by have := wB _ _ hw365_1; first | rwa [add_block] at this | exact this) GW368.out))) _).trans (hHeld.2.1)))), ((cell_far (p := ⟨gb368, _, none⟩) (by first | exact nN (nL (by have := wB _ _ hw366_0; first | rwa [add_block] at this | exact this) GW368.out) | (rw [add_block]; exact nN (nL (by have := wB _ _ hw366_0; first | rwa [add_block] at this | exact this) GW368.out)) | (show (Addr.add _ _).block ≠ _; rw [add_block]; exact nN (nL (by have := wB _ _ hw366_0; first | rwa [add_block] at this | exact this) GW368.out)) | (dsimp only; exact nN (nL (by have := wB _ _ hw366_0; first | rwa [add_block] at this | exact this) GW368.out))) _).trans (((cell_far (p := ⟨gb368, _, none⟩) (by first | exact nN (nL (by have := wB _ _ hw366_0; first | rwa [add_block] at this | exact this) GW368.out) | (rw [add_block]; exact nN (nL (by have := wB _ _ hw366_0; first | rwa [add_block] at this | exact this) GW368.out)) | (show (Addr.add _ _).block ≠ _; rw [add_block]; exact nN (nL (by have := wB _ _ hw366_0; first | rwa [add_block] at this | exact this) GW368.out)) | (dsimp only; exact nN (nL (by have := wB _ _ hw366_0; first | rwa [add_block] at this | exact this) GW368.out))) _).trans (hHeld.2.2.1)))), ((cell_far (p := ⟨gb368, _, none⟩) (by first | exact nN (nL (by have := wB _ _ hw366_1; first | rwa [add_block] at this | exact this) GW368.out) | (rw [add_block]; exact nN (nL (by have := wB _ _ hw366_1; first | rwa [add_block] at this | exact this) GW368.out)) | (show (Addr.add _ _).block ≠ _; rw [add_block]; exact nN (nL (by have := wB _ _ hw366_1; first | rwa [add_block] at this | exact this) GW368.out)) | (dsimp only; exact nN (nL (by have := wB _ _ hw366_1; first | rwa [add_block] at this | exact this) GW368.out))) _).trans (((cell_far (p := ⟨gb368, _, none⟩) (by first | exact nN (nL (by have := wB _ _ hw366_1; first | rwa [add_block] at this | exact this) GW368.out) | (rw [add_block]; exact nN (nL (by have := wB _ _ hw366_1; first | rwa [add_block] at this | exact this) GW368.out)) | (show (Addr.add _ _).block ≠ _; rw [add_block]; exact nN (nL (by have := wB _ _ hw366_1; first | rwa [add_block] at this | exact this) GW368.out)) | (dsimp only; exact nN (nL (by have := wB _ _ hw366_1; first | rwa [add_block] at this | exact this) GW368.out))) _).trans (hHeld.2.2.2))))⟩ (fun hHeld => ?_)
            clear hK K
            refine done_ (done_of HT_.out (by kernel_rfl)) ?_
            have hnb23 := NB367_368.out
            have hnc23 := NB368_367.out
            have hcz24_0 : w18.cell? ⟨gb367, 0, none⟩ = some (.int .i64 0) := (kC BK367.out 0).trans rfl
            have hcz24_1 : w18.cell? ⟨gb367, 1, none⟩ = some (.int .i64 0) := (kC BK367.out 1).trans rfl
            have hfz24_0 := kF BK367.out 0
            have hfz24_1 := kF BK367.out 1
            have hcz25_0 : w18.cell? ⟨gb368, 0, none⟩ = some (.int .i64 0) := (kC BK368.out 0).trans rfl
            have hcz25_1 : w18.cell? ⟨gb368, 1, none⟩ = some (.int .i64 0) := (kC BK368.out 1).trans rfl
            have hfz25_0 := kF BK368.out 0
            have hfz25_1 := kF BK368.out 1
            try go_wp2_with (first | ((with_reducible refine gate_builtin (b := .append) (xs := #[.tmp 44, .tmp 58]) rfl ?_); at_builtin; refine Kd.R_append kd_impl_Peg (w0 := w) w.heap.size rfl (.tmp 44) (.tmp 58) 26 34 (.agg #[(.int .i64 0), (.int .i64 0)]) 16 rfl Try.underlying26 info34 rfl (by decide) (by omega) u4 x4_1 (⟨wrap64 (Int.tdiv (wrap64 (((rd_impl_Peg l0 (ji6)).f0) + ((rd_impl_Peg l0 (ji9)).f0))) 2), wrap64 (Int.tdiv (wrap64 (((rd_impl_Peg l0 (ji6)).f1) + ((rd_impl_Peg l0 (ji9)).f1))) 2)⟩ : S_impl_Peg) [.int .i64 (wrap64 (Int.tdiv (wrap64 (((rd_impl_Peg l0 (ji6)).f0) + ((rd_impl_Peg l0 (ji9)).f0))) 2)), .int .i64 (wrap64 (Int.tdiv (wrap64 (((rd_impl_Peg l0 (ji6)).f1) + ((rd_impl_Peg l0 (ji9)).f1))) 2))] (fun k_ => k_ ≠ gb367 ∧ k_ ≠ gb368) (fun _ => False) rfl (by first | (go_simp; done) | (go_simp; rfl)) ?aP (fun _ hk => hk.elim) ?aF ?aO ?aB ?aS ?aL ?_; (case aP => exact kd_impl_Peg_mkM _ _ _ (⟨wrap64 (Int.tdiv (wrap64 (((rd_impl_Peg l0 (ji6)).f0) + ((rd_impl_Peg l0 (ji9)).f0))) 2), wrap64 (Int.tdiv (wrap64 (((rd_impl_Peg l0 (ji6)).f1) + ((rd_impl_Peg l0 (ji9)).f1))) 2)⟩ : S_impl_Peg)); (case aB => exact (by repeat (first | (with_reducible first | exact HB.out | apply pA | apply pN | apply pD | refine pS ?_ GE367.out | refine pS ?_ GE368.out) | exact HB.out))); (case aF => exact (fun k_ hk => ⟨Kd.freshB (g := gb367) (o := .cells #[.int .i64 ((rd_impl_Peg l0 (ji6)).f0), .int .i64 ((rd_impl_Peg l0 (ji6)).f1)] 34 (0, 0)) (by (with_reducible repeat (first | refine kN ?_ _ | refine kD ?_ | refine kA ?_ _)); refine blk_far ?_ NB367_368.out _; (with_reducible repeat (first | refine kN ?_ _ | refine kD ?_ | refine kA ?_ _)); refine blk_far ?_ NB367_368.out _; (with_reducible repeat (first | refine kN ?_ _ | refine kD ?_ | refine kA ?_ _)); refine blk_put (cs := #[.int .i64 ((rd_impl_Peg l0 (ji6)).f0), .int .i64 0]) ?_ 1 _ rfl; (with_reducible repeat (first | refine kN ?_ _ | refine kD ?_ | refine kA ?_ _)); refine blk_put (cs := #[.int .i64 0, .int .i64 0]) ?_ 0 _ rfl; (with_reducible repeat (first | refine kN ?_ _ | refine kD ?_ | refine kA ?_ _)); exact BK367.out) k_ hk, Kd.freshB (g := gb368) (o := .cells #[.int .i64 ((rd_impl_Peg l0 (ji9)).f0), .int .i64 ((rd_impl_Peg l0 (ji9)).f1)] 34 (0, 0)) (by (with_reducible repeat (first | refine kN ?_ _ | refine kD ?_ | refine kA ?_ _)); refine blk_put (cs := #[.int .i64 ((rd_impl_Peg l0 (ji9)).f0), .int .i64 0]) ?_ 1 _ rfl; (with_reducible repeat (first | refine kN ?_ _ | refine kD ?_ | refine kA ?_ _)); refine blk_put (cs := #[.int .i64 0, .int .i64 0]) ?_ 0 _ rfl; (with_reducible repeat (first | refine kN ?_ _ | refine kD ?_ | refine kA ?_ _)); refine blk_far ?_ NB368_367.out _; (with_reducible repeat (first | refine kN ?_ _ | refine kD ?_ | refine kA ?_ _)); refine blk_far ?_ NB368_367.out _; (with_reducible repeat (first | refine kN ?_ _ | refine kD ?_ | refine kA ?_ _)); exact BK368.out) k_ hk⟩)); (case aO => exact (by (with_reducible repeat (first | apply rA | apply rN | apply rD)); exact Kd.R_mono (Kd.R_far (p := ⟨gb368, 1, none⟩) (Kd.R_far (p := ⟨gb368, 0, none⟩) (Kd.R_far (p := ⟨gb367, 1, none⟩) (Kd.R_far (p := ⟨gb367, 0, none⟩) (Kd.R_mono (Kd.R_mono HO_4.out (fun k_ hk => (⟨hk, hk.1⟩ : _ ∧ k_ ≠ gb367))) (fun k_ hk => (⟨hk, hk.1.2⟩ : _ ∧ k_ ≠ gb368))) (fun _ hk => hk.1.2) (.int .i64 ((rd_impl_Peg l0 (ji6)).f0))) (fun _ hk => hk.1.2) (.int .i64 ((rd_impl_Peg l0 (ji6)).f1))) (fun _ hk => hk.2) (.int .i64 ((rd_impl_Peg l0 (ji9)).f0))) (fun _ hk => hk.2) (.int .i64 ((rd_impl_Peg l0 (ji9)).f1))) (fun _ hk => ⟨hk.1.1.1, hk.1.1.2⟩))); (case aS => exact (pZ (by repeat (first | (with_reducible first | exact HB.out | apply pA | apply pN | apply pD | refine pS ?_ GE367.out | refine pS ?_ GE368.out) | exact HB.out)))); (case aL => have := LMc14.out; omega); intro v370 w26 ho hb hg hat; rw [← Ny369.out] at ho; have n0_ := aM (blk_grown (g := gb367) (o := .cells #[.int .i64 ((rd_impl_Peg l0 (ji6)).f0), .int .i64 ((rd_impl_Peg l0 (ji6)).f1)] 34 (0, 0)) (by (with_reducible repeat (first | refine kN ?_ _ | refine kD ?_ | refine kA ?_ _)); refine blk_far ?_ NB367_368.out _; (with_reducible repeat (first | refine kN ?_ _ | refine kD ?_ | refine kA ?_ _)); refine blk_far ?_ NB367_368.out _; (with_reducible repeat (first | refine kN ?_ _ | refine kD ?_ | refine kA ?_ _)); refine blk_put (cs := #[.int .i64 ((rd_impl_Peg l0 (ji6)).f0), .int .i64 0]) ?_ 1 _ rfl; (with_reducible repeat (first | refine kN ?_ _ | refine kD ?_ | refine kA ?_ _)); refine blk_put (cs := #[.int .i64 0, .int .i64 0]) ?_ 0 _ rfl; (with_reducible repeat (first | refine kN ?_ _ | refine kD ?_ | refine kA ?_ _)); exact BK367.out) hg (Kd.R_away HO_4.out (fun _ hk => hk.1))); have n1_ := aM (blk_grown (g := gb368) (o := .cells #[.int .i64 ((rd_impl_Peg l0 (ji9)).f0), .int .i64 ((rd_impl_Peg l0 (ji9)).f1)] 34 (0, 0)) (by (with_reducible repeat (first | refine kN ?_ _ | refine kD ?_ | refine kA ?_ _)); refine blk_put (cs := #[.int .i64 ((rd_impl_Peg l0 (ji9)).f0), .int .i64 0]) ?_ 1 _ rfl; (with_reducible repeat (first | refine kN ?_ _ | refine kD ?_ | refine kA ?_ _)); refine blk_put (cs := #[.int .i64 0, .int .i64 0]) ?_ 0 _ rfl; (with_reducible repeat (first | refine kN ?_ _ | refine kD ?_ | refine kA ?_ _)); refine blk_far ?_ NB368_367.out _; (with_reducible repeat (first | refine kN ?_ _ | refine kD ?_ | refine kA ?_ _)); refine blk_far ?_ NB368_367.out _; (with_reducible repeat (first | refine kN ?_ _ | refine kD ?_ | refine kA ?_ _)); exact BK368.out) hg (Kd.R_away HO_4.out (fun _ hk => hk.2))); have n2_ := aM (hb); have n3_ := aM (ho); clear BK367; clear BK368; clear HB; clear HO_4; have BK367 := n0_; have BK368 := n1_; have HB := n2_; have HO371 := n3_; clear n0_ n1_ n2_ n3_; clear ho hb hg hat))
            go_roundg k1
            case measure => have := HK1.out; omega
            case rel => exact ⟨(y369), (wrap64 (x13_1 + 1)), (by first | rfl | (simp; done) | (simp [*]; done)), H', ⟨by have := HK1.out; omega⟩, ⟨by (with_reducible repeat (first | apply rA | apply rN | apply rD)); exact Kd.R_mono HO371.out (fun _ hk => trivial)⟩, ⟨by repeat (first | (with_reducible first | exact HB.out | apply pA | apply pN | apply pD | refine pS ?_ GE367.out | refine pS ?_ GE368.out) | exact HB.out)⟩⟩
           ·rw [if_neg c14] at H
            exact absurd H (by simp)
          ·rw [if_neg c13] at H
           have c13b0 : ((Int.tmod (wrap64 (((rd_impl_Peg l0 (ji6)).f1) + ((rd_impl_Peg l0 (ji9)).f1))) 2) == 0) = false := beq_eq_false_iff_ne.mpr c13
           have c13b1 : ((Int.tmod (wrap64 (((rd_impl_Peg l0 (ji6)).f1) + ((rd_impl_Peg l0 (ji9)).f1))) 2) != 0) = true := bne_iff_ne.mpr c13
           simp only [Option.some.injEq, Prod.mk.injEq] at H
           obtain ⟨rfl, rfl⟩ := H
           try go_wp2
           have n0_ := aM (rD HO_4.out)
           have n1_ := aM (pD HB.out)
           clear HO_4
           clear HB
           have HO_4 := n0_
           have HB := n1_
           clear n0_ n1_
           have p365 : 0 ≤ ((ji6) : Int) := dT (by first | (with_reducible assumption) | assumption)
           have q365 : (ji6) < (l0.length : Int) := dT (by first | (with_reducible assumption) | assumption)
           obtain ⟨ad365, e365, hx365_0, hx365_1⟩ := at_impl_Peg HR0.out (ji6) p365 q365
           have hw365_1 := hx365_1
           have hw365_0 := hx365_0
           cases e365
           replace hx365_0 := (HB.out.cell (wB w _ hx365_0)).trans hx365_0
           replace hx365_1 := (HB.out.cell (wB w _ hx365_1)).trans hx365_1
           replace p365 := eq_true p365
           replace q365 := eq_true q365
           have p366 : 0 ≤ ((ji9) : Int) := dT (by first | (with_reducible assumption) | assumption)
           have q366 : (ji9) < (l0.length : Int) := dT (by first | (with_reducible assumption) | assumption)
           obtain ⟨ad366, e366, hx366_0, hx366_1⟩ := at_impl_Peg HR0.out (ji9) p366 q366
           have hw366_1 := hx366_1
           have hw366_0 := hx366_0
           obtain rfl : ad365 = ad366 := (by injection e366)
           replace hx366_0 := (HB.out.cell (wB w _ hx366_0)).trans hx366_0
           replace hx366_1 := (HB.out.cell (wB w _ hx366_1)).trans hx366_1
           replace p366 := eq_true p366
           replace q366 := eq_true q366
           refine start_ (n := 16) (S := fun w' => w'.cell? (ad365.add (((ji6)).toNat * 2)) = some (.int .i64 ((rd_impl_Peg l0 (ji6)).f0)) ∧ w'.cell? ⟨(ad365.add (((ji6)).toNat * 2)).block, (ad365.add (((ji6)).toNat * 2)).off + 1, none⟩ = some (.int .i64 ((rd_impl_Peg l0 (ji6)).f1)) ∧ w'.cell? (ad365.add (((ji9)).toNat * 2)) = some (.int .i64 ((rd_impl_Peg l0 (ji9)).f0)) ∧ w'.cell? ⟨(ad365.add (((ji9)).toNat * 2)).block, (ad365.add (((ji9)).toNat * 2)).off + 1, none⟩ = some (.int .i64 ((rd_impl_Peg l0 (ji9)).f1))) (ds := []) #[false, false, false, false, false, false, false, false, false, false, false, false, false, false, false, false] (by kernel_rfl) rfl rfl ⟨((HB.out.cell (wB w _ hw365_0)).trans hw365_0), ((HB.out.cell (wB w _ hw365_1)).trans hw365_1), ((HB.out.cell (wB w _ hw366_0)).trans hw366_0), ((HB.out.cell (wB w _ hw366_1)).trans hw366_1)⟩ (fun hHeld => ?_); refine with_tabW spec_MiddleThree.tab7 spec_MiddleThree.bits7 (fun HT_ HW_ => ?_)
           generalize wr.drew = w27 at HO_4 HB hx365_0 hx365_1 hx366_0 hx366_1 hHeld ⊢
           refine pure_ (i := 0) (N := some 16) (v := ?_) (a' := ?_) #[true, false, false, false, false, false, false, false, false, false, false, false, false, false, false, false] rfl rfl (any_of HT_.out (by kernel_rfl)) (fun _ _ _ h => h) (Or.inl ⟨by rfl, ?_⟩) ?_ ?_
           rotate_left
           ·intro w'
            go_simp
            with_reducible rfl
           rotate_left
           ·simp only [Act.put, sI, sZ, sS, i64_w, i32_w]
            rfl
           refine pure_ (i := 1) (N := some 17) (v := ?_) (a' := ?_) #[true, true, false, false, false, false, false, false, false, false, false, false, false, false, false, false] rfl rfl (any_of HT_.out (by kernel_rfl)) (fun _ _ _ h => h) (Or.inl ⟨by rfl, ?_⟩) ?_ ?_
           rotate_left
           ·intro w'
            go_simp
            with_reducible rfl
           rotate_left
           ·simp only [Act.put, sI, sZ, sS, i64_w, i32_w]
            rfl
           refine pure_ (i := 2) (N := some 18) (v := ?_) (a' := ?_) #[true, true, true, false, false, false, false, false, false, false, false, false, false, false, false, false] rfl rfl (any_of HT_.out (by kernel_rfl)) (fun _ _ _ h => h) (Or.inl ⟨by rfl, ?_⟩) ?_ ?_
           rotate_left
           ·intro w'
            go_simp
            with_reducible rfl
           rotate_left
           ·simp only [Act.put, sI, sZ, sS, i64_w, i32_w]
            rfl
           refine pure_ (i := 3) (N := some 19) (v := ?_) (a' := ?_) #[true, true, true, true, false, false, false, false, false, false, false, false, false, false, false, false] rfl rfl (any_of HT_.out (by kernel_rfl)) (fun _ _ _ h => h) (Or.inl ⟨by rfl, ?_⟩) ?_ ?_
           rotate_left
           ·intro w'
            go_simp
            with_reducible rfl
           rotate_left
           ·simp only [Act.put, sI, sZ, sS, i64_w, i32_w]
            rfl
           refine pure_ (i := 4) (N := some 20) (v := ?_) (a' := ?_) #[true, true, true, true, true, false, false, false, false, false, false, false, false, false, false, false] rfl rfl (any_of HT_.out (by kernel_rfl)) (fun _ _ _ h => h) (Or.inl ⟨by rfl, ?_⟩) ?_ ?_
           rotate_left
           ·intro w'
            go_simp
            with_reducible rfl
           rotate_left
           ·simp only [Act.put, sI, sZ, sS, i64_w, i32_w]
            rfl
           refine pure_ (i := 6) (N := some 22) (v := ?_) (a' := ?_) #[true, true, true, true, true, false, true, false, false, false, false, false, false, false, false, false] rfl rfl (any_of HT_.out (by kernel_rfl)) (fun _ _ _ h => h) (Or.inl ⟨by rfl, ?_⟩) ?_ ?_
           rotate_left
           ·intro w'
            go_simp
            with_reducible rfl
           rotate_left
           ·simp only [Act.put, sI, sZ, sS, i64_w, i32_w]
            rfl
           refine pure_ (i := 7) (N := some 23) (v := ?_) (a' := ?_) #[true, true, true, true, true, false, true, true, false, false, false, false, false, false, false, false] rfl rfl (any_of HT_.out (by kernel_rfl)) (fun _ _ _ h => h) (Or.inl ⟨by rfl, ?_⟩) ?_ ?_
           rotate_left
           ·intro w'
            go_simp
            with_reducible rfl
           rotate_left
           ·simp only [Act.put, sI, sZ, sS, i64_w, i32_w]
            rfl
           refine pure_ (i := 8) (N := some 24) (v := ?_) (a' := ?_) #[true, true, true, true, true, false, true, true, true, false, false, false, false, false, false, false] rfl rfl (any_of HT_.out (by kernel_rfl)) (fun _ _ _ h => h) (Or.inl ⟨by rfl, ?_⟩) ?_ ?_
           rotate_left
           ·intro w'
            go_simp
            with_reducible rfl
           rotate_left
           ·simp only [Act.put, sI, sZ, sS, i64_w, i32_w]
            rfl
           refine pure_ (i := 9) (N := some 25) (v := ?_) (a' := ?_) #[true, true, true, true, true, false, true, true, true, true, false, false, false, false, false, false] rfl rfl (any_of HT_.out (by kernel_rfl)) (fun _ _ _ h => h) (Or.inl ⟨by rfl, ?_⟩) ?_ ?_
           rotate_left
           ·intro w'
            go_simp
            with_reducible rfl
           rotate_left
           ·simp only [Act.put, sI, sZ, sS, i64_w, i32_w]
            rfl
           refine pure_ (i := 10) (N := some 26) (v := ?_) (a' := ?_) #[true, true, true, true, true, false, true, true, true, true, true, false, false, false, false, false] rfl rfl (any_of HT_.out (by kernel_rfl)) (fun _ _ _ h => h) (Or.inl ⟨by rfl, ?_⟩) ?_ ?_
           rotate_left
           ·intro w'
            go_simp
            with_reducible rfl
           rotate_left
           ·simp only [Act.put, sI, sZ, sS, i64_w, i32_w]
            rfl
           refine take_ (i := 5) (N := some 21) (v := ?_) (a' := ?_) #[true, true, true, true, true, true, true, true, true, true, true, false, false, false, false, false] rfl rfl (take_ofW HT_.out HW_.out (by kernel_rfl)) (fun _ _ _ h => h) (Or.inl ⟨by rfl, ?_⟩) hHeld ?_ ?_
           rotate_left
           ·rintro w' ⟨s0, s1, s2, s3⟩
            go_simp
            with_reducible rfl
           rotate_left
           ·simp only [Act.put, sI, sZ, sS, i64_w, i32_w]
            rfl
           refine take_ (i := 11) (N := some 27) (v := ?_) (a' := ?_) #[true, true, true, true, true, true, true, true, true, true, true, true, false, false, false, false] rfl rfl (take_ofW HT_.out HW_.out (by kernel_rfl)) (fun _ _ _ h => h) (Or.inl ⟨by rfl, ?_⟩) hHeld ?_ ?_
           rotate_left
           ·rintro w' ⟨s0, s1, s2, s3⟩
            go_simp
            with_reducible rfl
           rotate_left
           ·simp only [Act.put, sI, sZ, sS, i64_w, i32_w]
            rfl
           refine join_ (σ := Nat × Nat) 2 #[true, true, true, true, true, true, true, true, true, true, true, true, true, true, false, false] (fun s_ => [(6, .pointer (some ⟨s_.1, 0, none⟩)), (7, .pointer (some ⟨s_.2, 0, none⟩))]) (fun s_ w' => (w'.cell? (ad365.add (((ji6)).toNat * 2)) = some (.int .i64 ((rd_impl_Peg l0 (ji6)).f0)) ∧ w'.cell? ⟨(ad365.add (((ji6)).toNat * 2)).block, (ad365.add (((ji6)).toNat * 2)).off + 1, none⟩ = some (.int .i64 ((rd_impl_Peg l0 (ji6)).f1)) ∧ w'.cell? (ad365.add (((ji9)).toNat * 2)) = some (.int .i64 ((rd_impl_Peg l0 (ji9)).f0)) ∧ w'.cell? ⟨(ad365.add (((ji9)).toNat * 2)).block, (ad365.add (((ji9)).toNat * 2)).off + 1, none⟩ = some (.int .i64 ((rd_impl_Peg l0 (ji9)).f1))) ∧ (Kd.R kd_impl_Peg 34 w' w.heap.size (fun k_ => k_ ≠ s_.1 ∧ k_ ≠ s_.2) u4 x4_1) ∧ (w'.heap[s_.1]? = some (.cells #[.int .i64 0, .int .i64 0] 34 (0, 0))) ∧ (w'.heap[s_.2]? = some (.cells #[.int .i64 0, .int .i64 0] 34 (0, 0))) ∧ (w.heap.size ≤ s_.1) ∧ (w.heap.size ≤ s_.1) ∧ (s_.2 ≠ s_.1) ∧ (s_.1 ≠ s_.2) ∧ (w.heap.size ≤ s_.2) ∧ (w.heap.size ≤ s_.2) ∧ (Below w.heap.size w w')) ?_ ?_
           rotate_left
           ·intro hCont
            refine two_ (i := 12) (j := 13) (Ni := some 6) (Nj := some 7) #[true, true, true, true, true, true, true, true, true, true, true, true, true, false, false, false] #[true, true, true, true, true, true, true, true, true, true, true, true, false, true, false, false] rfl rfl rfl rfl (two_of HT_.out (by kernel_rfl)) (by decide) (by decide) (fun K hK => ?_) (fun K hK => ?_)
            ·skip
             refine box_step ?hg (N := 6) ?hd (cs := #[.int .i64 0, .int .i64 0]) (t := 34) ?hr ?_; (case hd => rfl); (case hg => rfl); (case hr => first | (go_simp; done) | (go_simp; rfl))
             intro gb367 hg w28 hbox hb
             have n0_ := aM (Kd.R_below (Kd.R_elderB (by (with_reducible repeat (first | apply rA | apply rN | apply rD)); exact HO_4.out) gb367 (Nat.le_of_eq hg.symm)) hb)
             have n1_ := aM (pT (by repeat (first | (with_reducible first | exact HB.out | apply pA | apply pN | apply pD) | exact HB.out)) hb)
             have n2_ := aM (hbox)
             have n3_ := aM ((by rw [hg]; exact (pZ (by repeat (first | (with_reducible first | exact HB.out | apply pA | apply pN | apply pD) | exact HB.out))) : w.heap.size ≤ gb367))
             have n4_ := aM ((by rw [hg]; exact (pZ (by repeat (first | (with_reducible first | exact HB.out | apply pA | apply pN | apply pD) | exact HB.out))) : w.heap.size ≤ gb367))
             clear HO_4
             clear HB
             have HO_4 := n0_
             have HB := n1_
             have BK367 := n2_
             have GW367 := n3_
             have GE367 := n4_
             clear n0_ n1_ n2_ n3_ n4_
             clear hb hbox hg
             refine hK.out _ _ ⟨((HB.out.cell (wB w _ hw365_0)).trans hw365_0), ((HB.out.cell (wB w _ hw365_1)).trans hw365_1), ((HB.out.cell (wB w _ hw366_0)).trans hw366_0), ((HB.out.cell (wB w _ hw366_1)).trans hw366_1)⟩ (fun hHeld => ?_)
             clear hK K
             refine norm_ (a' := ?_) ?_ ?_
             rotate_left
             ·show Act.put _ (some 6) _ = _
              simp only [Act.put, sI, sZ, sS, i64_w, i32_w]
              rfl
             refine one_ (i := 13) (N := some 7) #[true, true, true, true, true, true, true, true, true, true, true, true, true, true, false, false] rfl rfl (one_of HT_.out (by kernel_rfl)) (by decide) (fun K hK => ?_)
             refine box_step ?hg (N := 7) ?hd (cs := #[.int .i64 0, .int .i64 0]) (t := 34) ?hr ?_; (case hd => rfl); (case hg => rfl); (case hr => first | (go_simp; done) | (go_simp; rfl))
             intro gb368 hg w29 hbox hb
             have n0_ := aM (Kd.R_below (Kd.R_elderB (by (with_reducible repeat (first | apply rA | apply rN | apply rD)); exact HO_4.out) gb368 (Nat.le_of_eq hg.symm)) hb)
             have n1_ := aM (blk_below (g := gb367) (o := .cells #[.int .i64 0, .int .i64 0] 34 (0, 0)) (by (with_reducible repeat (first | refine kN ?_ _ | refine kD ?_ | refine kA ?_ _)); exact BK367.out) hb)
             have n2_ := aM (pT (by repeat (first | (with_reducible first | exact HB.out | apply pA | apply pN | apply pD | refine pS ?_ GE367.out) | exact HB.out)) hb)
             have n3_ := aM (hbox)
             have n4_ := aM ((by rw [hg]; exact (pZ (by repeat (first | (with_reducible first | exact HB.out | apply pA | apply pN | apply pD | refine pS ?_ GE367.out) | exact HB.out))) : w.heap.size ≤ gb368))
             have n5_ := aM ((by rw [hg]; exact (pZ (by repeat (first | (with_reducible first | exact HB.out | apply pA | apply pN | apply pD | refine pS ?_ GE367.out) | exact HB.out))) : w.heap.size ≤ gb368))
             have n6_ := aM ((by rw [hg]; exact nN (blk_lt (g := gb367) (o := .cells #[.int .i64 0, .int .i64 0] 34 (0, 0)) (by (with_reducible repeat (first | refine kN ?_ _ | refine kD ?_ | refine kA ?_ _)); exact BK367.out)) : gb367 ≠ gb368))
             have n7_ := aM ((by rw [hg]; exact Nat.ne_of_gt (blk_lt (g := gb367) (o := .cells #[.int .i64 0, .int .i64 0] 34 (0, 0)) (by (with_reducible repeat (first | refine kN ?_ _ | refine kD ?_ | refine kA ?_ _)); exact BK367.out)) : gb368 ≠ gb367))
             clear HO_4
             clear BK367
             clear HB
             have HO_4 := n0_
             have BK367 := n1_
             have HB := n2_
             have BK368 := n3_
             have GW368 := n4_
             have GE368 := n5_
             have NB367_368 := n6_
             have NB368_367 := n7_
             clear n0_ n1_ n2_ n3_ n4_ n5_ n6_ n7_
             clear hb hbox hg
             refine hK.out _ _ ⟨((HB.out.cell (wB w _ hw365_0)).trans hw365_0), ((HB.out.cell (wB w _ hw365_1)).trans hw365_1), ((HB.out.cell (wB w _ hw366_0)).trans hw366_0), ((HB.out.cell (wB w _ hw366_1)).trans hw366_1)⟩ (fun hHeld => ?_)
             clear hK K
             refine norm_ (a' := ?_) ?_ ?_
             rotate_left
             ·show Act.put _ (some 7) _ = _
              simp only [Act.put, sI, sZ, sS, i64_w, i32_w]
              rfl
             exact norm_ (by simp only [putAll, Act.put, sI, sZ, sS]) (hCont (gb367, gb368) _ ⟨hHeld, (by (with_reducible repeat (first | apply rA | apply rN | apply rD)); exact Kd.R_mono HO_4.out (fun _ hk => ⟨hk.1.2, hk.2⟩)), (by (with_reducible repeat (first | refine kN ?_ _ | refine kD ?_ | refine kA ?_ _)); exact BK367.out), (by (with_reducible repeat (first | refine kN ?_ _ | refine kD ?_ | refine kA ?_ _)); exact BK368.out), GW367.out, GE367.out, NB368_367.out, NB367_368.out, GW368.out, GE368.out, (by repeat (first | (with_reducible first | exact HB.out | apply pA | apply pN | apply pD | refine pS ?_ GE367.out | refine pS ?_ GE368.out) | exact HB.out))⟩)
            ·skip
             refine box_step ?hg (N := 7) ?hd (cs := #[.int .i64 0, .int .i64 0]) (t := 34) ?hr ?_; (case hd => rfl); (case hg => rfl); (case hr => first | (go_simp; done) | (go_simp; rfl))
             intro gb368 hg w28 hbox hb
             have n0_ := aM (Kd.R_below (Kd.R_elderB (by (with_reducible repeat (first | apply rA | apply rN | apply rD)); exact HO_4.out) gb368 (Nat.le_of_eq hg.symm)) hb)
             have n1_ := aM (pT (by repeat (first | (with_reducible first | exact HB.out | apply pA | apply pN | apply pD) | exact HB.out)) hb)
             have n2_ := aM (hbox)
             have n3_ := aM ((by rw [hg]; exact (pZ (by repeat (first | (with_reducible first | exact HB.out | apply pA | apply pN | apply pD) | exact HB.out))) : w.heap.size ≤ gb368))
             have n4_ := aM ((by rw [hg]; exact (pZ (by repeat (first | (with_reducible first | exact HB.out | apply pA | apply pN | apply pD) | exact HB.out))) : w.heap.size ≤ gb368))
             clear HO_4
             clear HB
             have HO_4 := n0_
             have HB := n1_
             have BK368 := n2_
             have GW368 := n3_
             have GE368 := n4_
             clear n0_ n1_ n2_ n3_ n4_
             clear hb hbox hg
             refine hK.out _ _ ⟨((HB.out.cell (wB w _ hw365_0)).trans hw365_0), ((HB.out.cell (wB w _ hw365_1)).trans hw365_1), ((HB.out.cell (wB w _ hw366_0)).trans hw366_0), ((HB.out.cell (wB w _ hw366_1)).trans hw366_1)⟩ (fun hHeld => ?_)
             clear hK K
             refine norm_ (a' := ?_) ?_ ?_
             rotate_left
             ·show Act.put _ (some 7) _ = _
              simp only [Act.put, sI, sZ, sS, i64_w, i32_w]
              rfl
             refine one_ (i := 12) (N := some 6) #[true, true, true, true, true, true, true, true, true, true, true, true, true, true, false, false] rfl rfl (one_of HT_.out (by kernel_rfl)) (by decide) (fun K hK => ?_)
             refine box_step ?hg (N := 6) ?hd (cs := #[.int .i64 0, .int .i64 0]) (t := 34) ?hr ?_; (case hd => rfl); (case hg => rfl); (case hr => first | (go_simp; done) | (go_simp; rfl))
             intro gb367 hg w29 hbox hb
             have n0_ := aM (Kd.R_below (Kd.R_elderB (by (with_reducible repeat (first | apply rA | apply rN | apply rD)); exact HO_4.out) gb367 (Nat.le_of_eq hg.symm)) hb)
             have n1_ := aM (blk_below (g := gb368) (o := .cells #[.int .i64 0, .int .i64 0] 34 (0, 0)) (by (with_reducible repeat (first | refine kN ?_ _ | refine kD ?_ | refine kA ?_ _)); exact BK368.out) hb)
             have n2_ := aM (pT (by repeat (first | (with_reducible first | exact HB.out | apply pA | apply pN | apply pD | refine pS ?_ GE368.out) | exact HB.out)) hb)
             have n3_ := aM (hbox)
             have n4_ := aM ((by rw [hg]; exact (pZ (by repeat (first | (with_reducible first | exact HB.out | apply pA | apply pN | apply pD | refine pS ?_ GE368.out) | exact HB.out))) : w.heap.size ≤ gb367))
             have n5_ := aM ((by rw [hg]; exact (pZ (by repeat (first | (with_reducible first | exact HB.out | apply pA | apply pN | apply pD | refine pS ?_ GE368.out) | exact HB.out))) : w.heap.size ≤ gb367))
             have n6_ := aM ((by rw [hg]; exact nN (blk_lt (g := gb368) (o := .cells #[.int .i64 0, .int .i64 0] 34 (0, 0)) (by (with_reducible repeat (first | refine kN ?_ _ | refine kD ?_ | refine kA ?_ _)); exact BK368.out)) : gb368 ≠ gb367))
             have n7_ := aM ((by rw [hg]; exact Nat.ne_of_gt (blk_lt (g := gb368) (o := .cells #[.int .i64 0, .int .i64 0] 34 (0, 0)) (by (with_reducible repeat (first | refine kN ?_ _ | refine kD ?_ | refine kA ?_ _)); exact BK368.out)) : gb367 ≠ gb368))
             clear HO_4
             clear BK368
             clear HB
             have HO_4 := n0_
             have BK368 := n1_
             have HB := n2_
             have BK367 := n3_
             have GW367 := n4_
             have GE367 := n5_
             have NB368_367 := n6_
             have NB367_368 := n7_
             clear n0_ n1_ n2_ n3_ n4_ n5_ n6_ n7_
             clear hb hbox hg
             refine hK.out _ _ ⟨((HB.out.cell (wB w _ hw365_0)).trans hw365_0), ((HB.out.cell (wB w _ hw365_1)).trans hw365_1), ((HB.out.cell (wB w _ hw366_0)).trans hw366_0), ((HB.out.cell (wB w _ hw366_1)).trans hw366_1)⟩ (fun hHeld => ?_)
             clear hK K
             refine norm_ (a' := ?_) ?_ ?_
             rotate_left
             ·show Act.put _ (some 6) _ = _
              simp only [Act.put, sI, sZ, sS, i64_w, i32_w]
              rfl
             exact norm_ (by simp only [putAll, Act.put, sI, sZ, sS]) (hCont (gb367, gb368) _ ⟨hHeld, (by (with_reducible repeat (first | apply rA | apply rN | apply rD)); exact Kd.R_mono HO_4.out (fun _ hk => ⟨hk.2, hk.1.2⟩)), (by (with_reducible repeat (first | refine kN ?_ _ | refine kD ?_ | refine kA ?_ _)); exact BK367.out), (by (with_reducible repeat (first | refine kN ?_ _ | refine kD ?_ | refine kA ?_ _)); exact BK368.out), GW367.out, GE367.out, NB368_367.out, NB367_368.out, GW368.out, GE368.out, (by repeat (first | (with_reducible first | exact HB.out | apply pA | apply pN | apply pD | refine pS ?_ GE368.out | refine pS ?_ GE367.out) | exact HB.out))⟩)
           rintro ⟨gb367, gb368⟩ w30 ⟨hS_, h0_, h1_, h2_, h3_, h4_, h5_, h6_, h7_, h8_, h9_⟩
           have n0_ : Aside0 (Kd.R kd_impl_Peg 34 w30 w.heap.size (fun k_ => k_ ≠ gb367 ∧ k_ ≠ gb368) u4 x4_1) := ⟨h0_⟩
           have n1_ : Aside0 (w30.heap[gb367]? = some (.cells #[.int .i64 0, .int .i64 0] 34 (0, 0))) := ⟨h1_⟩
           have n2_ : Aside0 (w30.heap[gb368]? = some (.cells #[.int .i64 0, .int .i64 0] 34 (0, 0))) := ⟨h2_⟩
           have n3_ : Aside0 (w.heap.size ≤ gb367) := ⟨h3_⟩
           have n4_ : Aside0 (w.heap.size ≤ gb367) := ⟨h4_⟩
           have n5_ : Aside0 (gb368 ≠ gb367) := ⟨h5_⟩
           have n6_ : Aside0 (gb367 ≠ gb368) := ⟨h6_⟩
           have n7_ : Aside0 (w.heap.size ≤ gb368) := ⟨h7_⟩
           have n8_ : Aside0 (w.heap.size ≤ gb368) := ⟨h8_⟩
           have n9_ : Aside0 (Below w.heap.size w w30) := ⟨h9_⟩
           clear HO_4
           clear HB
           clear h0_ h1_ h2_ h3_ h4_ h5_ h6_ h7_ h8_ h9_
           have HO_4 := n0_
           have BK367 := n1_
           have BK368 := n2_
           have GW367 := n3_
           have GE367 := n4_
           have NB368_367 := n5_
           have NB367_368 := n6_
           have GW368 := n7_
           have GE368 := n8_
           have HB := n9_
           clear n0_ n1_ n2_ n3_ n4_ n5_ n6_ n7_ n8_ n9_
           have hHeld : w30.cell? (ad365.add (((ji6)).toNat * 2)) = some (.int .i64 ((rd_impl_Peg l0 (ji6)).f0)) ∧ w30.cell? ⟨(ad365.add (((ji6)).toNat * 2)).block, (ad365.add (((ji6)).toNat * 2)).off + 1, none⟩ = some (.int .i64 ((rd_impl_Peg l0 (ji6)).f1)) ∧ w30.cell? (ad365.add (((ji9)).toNat * 2)) = some (.int .i64 ((rd_impl_Peg l0 (ji9)).f0)) ∧ w30.cell? ⟨(ad365.add (((ji9)).toNat * 2)).block, (ad365.add (((ji9)).toNat * 2)).off + 1, none⟩ = some (.int .i64 ((rd_impl_Peg l0 (ji9)).f1)) := hS_
           refine norm_ (a' := ?_) ?_ ?_
           rotate_left
           ·simp only [putAll, Act.put, sI, sZ, sS]
            rfl
           refine one_ (i := 14) (N := none) #[true, true, true, true, true, true, true, true, true, true, true, true, true, true, true, false] rfl rfl (one_of HT_.out (by kernel_rfl)) (by decide) (fun K hK => ?_)
           have hs31 : w30.cell? ⟨gb367, 0, none⟩ = some (.int .i64 0) := (kC BK367.out 0).trans rfl
           have hfs31 := kF BK367.out 0
           have hns31_1 := NB368_367.out
           have hms31_1 := NB367_368.out
           have hs32 : w30.cell? ⟨gb367, 1, none⟩ = some (.int .i64 0) := (kC BK367.out 1).trans rfl
           have hfs32 := kF BK367.out 1
           have hns32_1 := NB368_367.out
           have hms32_1 := NB367_368.out
           refine skip_ (w1 := ?_) (by rfl) rfl ?_ ?_
           rotate_left
           ·go_simp
            rfl
           refine hK.out _ _ ⟨((cell_far (p := ⟨gb367, _, none⟩) (by first | exact nN (nL (by have := wB _ _ hw365_0; first | rwa [add_block] at this | exact this) GW367.out) | (rw [add_block]; exact nN (nL (by have := wB _ _ hw365_0; first | rwa [add_block] at this | exact this) GW367.out)) | (show (Addr.add _ _).block ≠ _; rw [add_block]; exact nN (nL (by have := wB _ _ hw365_0; first | rwa [add_block] at this | exact this) GW367.out)) | (dsimp only; exact nN (nL (by have := wB _ _ hw365_0; first | rwa [add_block] at this | exact this) GW367.out))) _).trans (((cell_far (p := ⟨gb367, _, none⟩) (by first | exact nN (nL (by have := wB _ _ hw365_0; first | rwa [add_block] at this | exact this) GW367.out) | (rw [add_block]; exact nN (nL (by have := wB _ _ hw365_0; first | rwa [add_block] at this | exact this) GW367.out)) | (show (Addr.add _ _).block ≠ _; rw [add_block]; exact nN (nL (by have := wB _ _ hw365_0; first | rwa [add_block] at this | exact this) GW367.out)) | (dsimp only; exact nN (nL (by have := wB _ _ hw365_0; first | rwa [add_block] at this | exact this) GW367.out))) _).trans (hHeld.1)))), ((cell_far (p := ⟨gb367, _, none⟩) (by first | exact nN (nL (by have := wB _ _ hw365_1; first | rwa [add_block] at this | exact this) GW367.out) | (rw [add_block]; exact nN (nL (by have := wB _ _ hw365_1; first | rwa [add_block] at this | exact this) GW367.out)) | (show (Addr.add _ _).block ≠ _; rw [add_block]; exact nN (nL (by have := wB _ _ hw365_1; first | rwa [add_block] at this | exact this) GW367.out)) | (dsimp only; exact nN (nL (by have := wB _ _ hw365_1; first | rwa [add_block] at this | exact this) GW367.out))) _).trans (((cell_far (p := ⟨gb367, _, none⟩) (by first | exact nN (nL (by have := wB _ _ hw365_1; first | rwa [add_block] at this | exact this) GW367.out) | (rw [add_block]; exact nN (nL (by have := wB _ _ hw365_1; first | rwa [add_block] at this | exact this) GW367.out)) | (show (Addr.add _ _).block ≠ _; rw [add_block]; exact nN (nL (by have := wB _ _ hw365_1; first | rwa [add_block] at this | exact this) GW367.out)) | (dsimp only; exact nN (nL (by have := wB _ _ hw365_1; first | rwa [add_block] at this | exact this) GW367.out))) _).trans (hHeld.2.1)))), ((cell_far (p := ⟨gb367, _, none⟩) (by first | exact nN (nL (by have := wB _ _ hw366_0; first | rwa [add_block] at this | exact this) GW367.out) | (rw [add_block]; exact nN (nL (by have := wB _ _ hw366_0; first | rwa [add_block] at this | exact this) GW367.out)) | (show (Addr.add _ _).block ≠ _; rw [add_block]; exact nN (nL (by have := wB _ _ hw366_0; first | rwa [add_block] at this | exact this) GW367.out)) | (dsimp only; exact nN (nL (by have := wB _ _ hw366_0; first | rwa [add_block] at this | exact this) GW367.out))) _).trans (((cell_far (p := ⟨gb367, _, none⟩) (by first | exact nN (nL (by have := wB _ _ hw366_0; first | rwa [add_block] at this | exact this) GW367.out) | (rw [add_block]; exact nN (nL (by have := wB _ _ hw366_0; first | rwa [add_block] at this | exact this) GW367.out)) | (show (Addr.add _ _).block ≠ _; rw [add_block]; exact nN (nL (by have := wB _ _ hw366_0; first | rwa [add_block] at this | exact this) GW367.out)) | (dsimp only; exact nN (nL (by have := wB _ _ hw366_0; first | rwa [add_block] at this | exact this) GW367.out))) _).trans (hHeld.2.2.1)))), ((cell_far (p := ⟨gb367, _, none⟩) (by first | exact nN (nL (by have := wB _ _ hw366_1; first | rwa [add_block] at this | exact this) GW367.out) | (rw [add_block]; exact nN (nL (by have := wB _ _ hw366_1; first | rwa [add_block] at this | exact this) GW367.out)) | (show (Addr.add _ _).block ≠ _; rw [add_block]; exact nN (nL (by have := wB _ _ hw366_1; first | rwa [add_block] at this | exact this) GW367.out)) | (dsimp only; exact nN (nL (by have := wB _ _ hw366_1; first | rwa [add_block] at this | exact this) GW367.out))) _).trans (((cell_far (p := ⟨gb367, _, none⟩) (by first | exact nN (nL (by have := wB _ _ hw366_1; first | rwa [add_block] at this | exact this) GW367.out) | (rw [add_block]; exact nN (nL (by have := wB _ _ hw366_1; first | rwa [add_block] at this | exact this) GW367.out)) | (show (Addr.add _ _).block ≠ _; rw [add_block]; exact nN (nL (by have := wB _ _ hw366_1; first | rwa [add_block] at this | exact this) GW367.out)) | (dsimp only; exact nN (nL (by have := wB _ _ hw366_1; first | rwa [add_block] at this | exact this) GW367.out))) _).trans (hHeld.2.2.2))))⟩ (fun hHeld => ?_)
           clear hK K
           refine one_ (i := 15) (N := none) #[true, true, true, true, true, true, true, true, true, true, true, true, true, true, true, true] rfl rfl (one_of HT_.out (by kernel_rfl)) (by decide) (fun K hK => ?_)
           have hs33 : w30.cell? ⟨gb368, 0, none⟩ = some (.int .i64 0) := (kC BK368.out 0).trans rfl
           have hfs33 := kF BK368.out 0
           have hns33_0 := NB367_368.out
           have hms33_0 := NB368_367.out
           have hs34 : w30.cell? ⟨gb368, 1, none⟩ = some (.int .i64 0) := (kC BK368.out 1).trans rfl
           have hfs34 := kF BK368.out 1
           have hns34_0 := NB367_368.out
           have hms34_0 := NB368_367.out
           refine skip_ (w1 := ?_) (by rfl) rfl ?_ ?_
           rotate_left
           ·go_simp
            rfl
           refine hK.out _ _ ⟨((cell_far (p := ⟨gb368, _, none⟩) (by first | exact nN (nL (by have := wB _ _ hw365_0; first | rwa [add_block] at this | exact this) GW368.out) | (rw [add_block]; exact nN (nL (by have := wB _ _ hw365_0; first | rwa [add_block] at this | exact this) GW368.out)) | (show (Addr.add _ _).block ≠ _; rw [add_block]; exact nN (nL (by have := wB _ _ hw365_0; first | rwa [add_block] at this | exact this) GW368.out)) | (dsimp only; exact nN (nL (by have := wB _ _ hw365_0; first | rwa [add_block] at this | exact this) GW368.out))) _).trans (((cell_far (p := ⟨gb368, _, none⟩) (by first | exact nN (nL (by have := wB _ _ hw365_0; first | rwa [add_block] at this | exact this) GW368.out) | (rw [add_block]; exact nN (nL (by have := wB _ _ hw365_0; first | rwa [add_block] at this | exact this) GW368.out)) | (show (Addr.add _ _).block ≠ _; rw [add_block]; exact nN (nL (by have := wB _ _ hw365_0; first | rwa [add_block] at this | exact this) GW368.out)) | (dsimp only; exact nN (nL (by have := wB _ _ hw365_0; first | rwa [add_block] at this | exact this) GW368.out))) _).trans (hHeld.1)))), ((cell_far (p := ⟨gb368, _, none⟩) (by first | exact nN (nL (by have := wB _ _ hw365_1; first | rwa [add_block] at this | exact this) GW368.out) | (rw [add_block]; exact nN (nL (by have := wB _ _ hw365_1; first | rwa [add_block] at this | exact this) GW368.out)) | (show (Addr.add _ _).block ≠ _; rw [add_block]; exact nN (nL (by have := wB _ _ hw365_1; first | rwa [add_block] at this | exact this) GW368.out)) | (dsimp only; exact nN (nL (by have := wB _ _ hw365_1; first | rwa [add_block] at this | exact this) GW368.out))) _).trans (((cell_far (p := ⟨gb368, _, none⟩) (by first | exact nN (nL (by have := wB _ _ hw365_1; first | rwa [add_block] at this | exact this) GW368.out) | (rw [add_block]; exact nN (nL (by have := wB _ _ hw365_1; first | rwa [add_block] at this | exact this) GW368.out)) | (show (Addr.add _ _).block ≠ _; rw [add_block]; exact nN (nL (by have := wB _ _ hw365_1; first | rwa [add_block] at this | exact this) GW368.out)) | (dsimp only; exact nN (nL (by have := wB _ _ hw365_1; first | rwa [add_block] at this | exact this) GW368.out))) _).trans (hHeld.2.1)))), ((cell_far (p := ⟨gb368, _, none⟩) (by first | exact nN (nL (by have := wB _ _ hw366_0; first | rwa [add_block] at this | exact this) GW368.out) | (rw [add_block]; exact nN (nL (by have := wB _ _ hw366_0; first | rwa [add_block] at this | exact this) GW368.out)) | (show (Addr.add _ _).block ≠ _; rw [add_block]; exact nN (nL (by have := wB _ _ hw366_0; first | rwa [add_block] at this | exact this) GW368.out)) | (dsimp only; exact nN (nL (by have := wB _ _ hw366_0; first | rwa [add_block] at this | exact this) GW368.out))) _).trans (((cell_far (p := ⟨gb368, _, none⟩) (by first | exact nN (nL (by have := wB _ _ hw366_0; first | rwa [add_block] at this | exact this) GW368.out) | (rw [add_block]; exact nN (nL (by have := wB _ _ hw366_0; first | rwa [add_block] at this | exact this) GW368.out)) | (show (Addr.add _ _).block ≠ _; rw [add_block]; exact nN (nL (by have := wB _ _ hw366_0; first | rwa [add_block] at this | exact this) GW368.out)) | (dsimp only; exact nN (nL (by have := wB _ _ hw366_0; first | rwa [add_block] at this | exact this) GW368.out))) _).trans (hHeld.2.2.1)))), ((cell_far (p := ⟨gb368, _, none⟩) (by first | exact nN (nL (by have := wB _ _ hw366_1; first | rwa [add_block] at this | exact this) GW368.out) | (rw [add_block]; exact nN (nL (by have := wB _ _ hw366_1; first | rwa [add_block] at this | exact this) GW368.out)) | (show (Addr.add _ _).block ≠ _; rw [add_block]; exact nN (nL (by have := wB _ _ hw366_1; first | rwa [add_block] at this | exact this) GW368.out)) | (dsimp only; exact nN (nL (by have := wB _ _ hw366_1; first | rwa [add_block] at this | exact this) GW368.out))) _).trans (((cell_far (p := ⟨gb368, _, none⟩) (by first | exact nN (nL (by have := wB _ _ hw366_1; first | rwa [add_block] at this | exact this) GW368.out) | (rw [add_block]; exact nN (nL (by have := wB _ _ hw366_1; first | rwa [add_block] at this | exact this) GW368.out)) | (show (Addr.add _ _).block ≠ _; rw [add_block]; exact nN (nL (by have := wB _ _ hw366_1; first | rwa [add_block] at this | exact this) GW368.out)) | (dsimp only; exact nN (nL (by have := wB _ _ hw366_1; first | rwa [add_block] at this | exact this) GW368.out))) _).trans (hHeld.2.2.2))))⟩ (fun hHeld => ?_)
           clear hK K
           refine done_ (done_of HT_.out (by kernel_rfl)) ?_
           have hnb35 := NB367_368.out
           have hnc35 := NB368_367.out
           have hcz36_0 : w30.cell? ⟨gb367, 0, none⟩ = some (.int .i64 0) := (kC BK367.out 0).trans rfl
           have hcz36_1 : w30.cell? ⟨gb367, 1, none⟩ = some (.int .i64 0) := (kC BK367.out 1).trans rfl
           have hfz36_0 := kF BK367.out 0
           have hfz36_1 := kF BK367.out 1
           have hcz37_0 : w30.cell? ⟨gb368, 0, none⟩ = some (.int .i64 0) := (kC BK368.out 0).trans rfl
           have hcz37_1 : w30.cell? ⟨gb368, 1, none⟩ = some (.int .i64 0) := (kC BK368.out 1).trans rfl
           have hfz37_0 := kF BK368.out 0
           have hfz37_1 := kF BK368.out 1
           try go_wp2
           go_ret2
           exact ⟨_, by first | rfl | (simp [errW_none, errW_some] <;> rfl) | (simp only [← hji6, ← hji9]; first | rfl | (simp [errW_none, errW_some] <;> rfl)) | (simp [*, errW_none, errW_some] <;> rfl), by first | exact Kd.R_nil _ _ _ _ _ | exact Kd.N_nil _ _ _ _ _ | exact Kd.V_nil _ _ _ _ _ | exact Kd.Q_nil _ _ _ _ _ | exact Kd.S_nil _ _ _ _ _, by repeat (first | (with_reducible first | exact HB.out | apply pA | apply pN | apply pD | refine pS ?_ GE367.out | refine pS ?_ GE368.out) | exact HB.out)⟩
         ·rw [if_neg c12] at H
          have c12b0 : ((Int.tmod (wrap64 (((rd_impl_Peg l0 (ji6)).f0) + ((rd_impl_Peg l0 (ji9)).f0))) 2) == 0) = false := beq_eq_false_iff_ne.mpr c12
          have c12b1 : ((Int.tmod (wrap64 (((rd_impl_Peg l0 (ji6)).f0) + ((rd_impl_Peg l0 (ji9)).f0))) 2) != 0) = true := bne_iff_ne.mpr c12
          simp only [Option.some.injEq, Prod.mk.injEq] at H
          obtain ⟨rfl, rfl⟩ := H
          try go_wp2
          have n0_ := aM (rD HO_4.out)
          have n1_ := aM (pD HB.out)
          clear HO_4
          clear HB
          have HO_4 := n0_
          have HB := n1_
          clear n0_ n1_
          have p365 : 0 ≤ ((ji6) : Int) := dT (by first | (with_reducible assumption) | assumption)
          have q365 : (ji6) < (l0.length : Int) := dT (by first | (with_reducible assumption) | assumption)
          obtain ⟨ad365, e365, hx365_0, hx365_1⟩ := at_impl_Peg HR0.out (ji6) p365 q365
          have hw365_1 := hx365_1
          have hw365_0 := hx365_0
          cases e365
          replace hx365_0 := (HB.out.cell (wB w _ hx365_0)).trans hx365_0
          replace hx365_1 := (HB.out.cell (wB w _ hx365_1)).trans hx365_1
          replace p365 := eq_true p365
          replace q365 := eq_true q365
          have p366 : 0 ≤ ((ji9) : Int) := dT (by first | (with_reducible assumption) | assumption)
          have q366 : (ji9) < (l0.length : Int) := dT (by first | (with_reducible assumption) | assumption)
          obtain ⟨ad366, e366, hx366_0, hx366_1⟩ := at_impl_Peg HR0.out (ji9) p366 q366
          have hw366_1 := hx366_1
          have hw366_0 := hx366_0
          obtain rfl : ad365 = ad366 := (by injection e366)
          replace hx366_0 := (HB.out.cell (wB w _ hx366_0)).trans hx366_0
          replace hx366_1 := (HB.out.cell (wB w _ hx366_1)).trans hx366_1
          replace p366 := eq_true p366
          replace q366 := eq_true q366
          refine start_ (n := 16) (S := fun w' => w'.cell? (ad365.add (((ji6)).toNat * 2)) = some (.int .i64 ((rd_impl_Peg l0 (ji6)).f0)) ∧ w'.cell? ⟨(ad365.add (((ji6)).toNat * 2)).block, (ad365.add (((ji6)).toNat * 2)).off + 1, none⟩ = some (.int .i64 ((rd_impl_Peg l0 (ji6)).f1)) ∧ w'.cell? (ad365.add (((ji9)).toNat * 2)) = some (.int .i64 ((rd_impl_Peg l0 (ji9)).f0)) ∧ w'.cell? ⟨(ad365.add (((ji9)).toNat * 2)).block, (ad365.add (((ji9)).toNat * 2)).off + 1, none⟩ = some (.int .i64 ((rd_impl_Peg l0 (ji9)).f1))) (ds := []) #[false, false, false, false, false, false, false, false, false, false, false, false, false, false, false, false] (by kernel_rfl) rfl rfl ⟨((HB.out.cell (wB w _ hw365_0)).trans hw365_0), ((HB.out.cell (wB w _ hw365_1)).trans hw365_1), ((HB.out.cell (wB w _ hw366_0)).trans hw366_0), ((HB.out.cell (wB w _ hw366_1)).trans hw366_1)⟩ (fun hHeld => ?_); refine with_tabW spec_MiddleThree.tab7 spec_MiddleThree.bits7 (fun HT_ HW_ => ?_)
          generalize wr.drew = w38 at HO_4 HB hx365_0 hx365_1 hx366_0 hx366_1 hHeld ⊢
          refine pure_ (i := 0) (N := some 16) (v := ?_) (a' := ?_) #[true, false, false, false, false, false, false, false, false, false, false, false, false, false, false, false] rfl rfl (any_of HT_.out (by kernel_rfl)) (fun _ _ _ h => h) (Or.inl ⟨by rfl, ?_⟩) ?_ ?_
          rotate_left
          ·intro w'
           go_simp
           with_reducible rfl
          rotate_left
          ·simp only [Act.put, sI, sZ, sS, i64_w, i32_w]
           rfl
          refine pure_ (i := 1) (N := some 17) (v := ?_) (a' := ?_) #[true, true, false, false, false, false, false, false, false, false, false, false, false, false, false, false] rfl rfl (any_of HT_.out (by kernel_rfl)) (fun _ _ _ h => h) (Or.inl ⟨by rfl, ?_⟩) ?_ ?_
          rotate_left
          ·intro w'
           go_simp
           with_reducible rfl
          rotate_left
          ·simp only [Act.put, sI, sZ, sS, i64_w, i32_w]
           rfl
          refine pure_ (i := 2) (N := some 18) (v := ?_) (a' := ?_) #[true, true, true, false, false, false, false, false, false, false, false, false, false, false, false, false] rfl rfl (any_of HT_.out (by kernel_rfl)) (fun _ _ _ h => h) (Or.inl ⟨by rfl, ?_⟩) ?_ ?_
          rotate_left
          ·intro w'
           go_simp
           with_reducible rfl
          rotate_left
          ·simp only [Act.put, sI, sZ, sS, i64_w, i32_w]
           rfl
          refine pure_ (i := 3) (N := some 19) (v := ?_) (a' := ?_) #[true, true, true, true, false, false, false, false, false, false, false, false, false, false, false, false] rfl rfl (any_of HT_.out (by kernel_rfl)) (fun _ _ _ h => h) (Or.inl ⟨by rfl, ?_⟩) ?_ ?_
          rotate_left
          ·intro w'
           go_simp
           with_reducible rfl
          rotate_left
          ·simp only [Act.put, sI, sZ, sS, i64_w, i32_w]
           rfl
          refine pure_ (i := 4) (N := some 20) (v := ?_) (a' := ?_) #[true, true, true, true, true, false, false, false, false, false, false, false, false, false, false, false] rfl rfl (any_of HT_.out (by kernel_rfl)) (fun _ _ _ h => h) (Or.inl ⟨by rfl, ?_⟩) ?_ ?_
          rotate_left
          ·intro w'
           go_simp
           with_reducible rfl
          rotate_left
          ·simp only [Act.put, sI, sZ, sS, i64_w, i32_w]
           rfl
          refine pure_ (i := 6) (N := some 22) (v := ?_) (a' := ?_) #[true, true, true, true, true, false, true, false, false, false, false, false, false, false, false, false] rfl rfl (any_of HT_.out (by kernel_rfl)) (fun _ _ _ h => h) (Or.inl ⟨by rfl, ?_⟩) ?_ ?_
          rotate_left
          ·intro w'
           go_simp
           with_reducible rfl
          rotate_left
          ·simp only [Act.put, sI, sZ, sS, i64_w, i32_w]
           rfl
          refine pure_ (i := 7) (N := some 23) (v := ?_) (a' := ?_) #[true, true, true, true, true, false, true, true, false, false, false, false, false, false, false, false] rfl rfl (any_of HT_.out (by kernel_rfl)) (fun _ _ _ h => h) (Or.inl ⟨by rfl, ?_⟩) ?_ ?_
          rotate_left
          ·intro w'
           go_simp
           with_reducible rfl
          rotate_left
          ·simp only [Act.put, sI, sZ, sS, i64_w, i32_w]
           rfl
          refine pure_ (i := 8) (N := some 24) (v := ?_) (a' := ?_) #[true, true, true, true, true, false, true, true, true, false, false, false, false, false, false, false] rfl rfl (any_of HT_.out (by kernel_rfl)) (fun _ _ _ h => h) (Or.inl ⟨by rfl, ?_⟩) ?_ ?_
          rotate_left
          ·intro w'
           go_simp
           with_reducible rfl
          rotate_left
          ·simp only [Act.put, sI, sZ, sS, i64_w, i32_w]
           rfl
          refine pure_ (i := 9) (N := some 25) (v := ?_) (a' := ?_) #[true, true, true, true, true, false, true, true, true, true, false, false, false, false, false, false] rfl rfl (any_of HT_.out (by kernel_rfl)) (fun _ _ _ h => h) (Or.inl ⟨by rfl, ?_⟩) ?_ ?_
          rotate_left
          ·intro w'
           go_simp
           with_reducible rfl
          rotate_left
          ·simp only [Act.put, sI, sZ, sS, i64_w, i32_w]
           rfl
          refine pure_ (i := 10) (N := some 26) (v := ?_) (a' := ?_) #[true, true, true, true, true, false, true, true, true, true, true, false, false, false, false, false] rfl rfl (any_of HT_.out (by kernel_rfl)) (fun _ _ _ h => h) (Or.inl ⟨by rfl, ?_⟩) ?_ ?_
          rotate_left
          ·intro w'
           go_simp
           with_reducible rfl
          rotate_left
          ·simp only [Act.put, sI, sZ, sS, i64_w, i32_w]
           rfl
          refine take_ (i := 5) (N := some 21) (v := ?_) (a' := ?_) #[true, true, true, true, true, true, true, true, true, true, true, false, false, false, false, false] rfl rfl (take_ofW HT_.out HW_.out (by kernel_rfl)) (fun _ _ _ h => h) (Or.inl ⟨by rfl, ?_⟩) hHeld ?_ ?_
          rotate_left
          ·rintro w' ⟨s0, s1, s2, s3⟩
           go_simp
           with_reducible rfl
          rotate_left
          ·simp only [Act.put, sI, sZ, sS, i64_w, i32_w]
           rfl
          refine take_ (i := 11) (N := some 27) (v := ?_) (a' := ?_) #[true, true, true, true, true, true, true, true, true, true, true, true, false, false, false, false] rfl rfl (take_ofW HT_.out HW_.out (by kernel_rfl)) (fun _ _ _ h => h) (Or.inl ⟨by rfl, ?_⟩) hHeld ?_ ?_
          rotate_left
          ·rintro w' ⟨s0, s1, s2, s3⟩
           go_simp
           with_reducible rfl
          rotate_left
          ·simp only [Act.put, sI, sZ, sS, i64_w, i32_w]
           rfl
          refine join_ (σ := Nat × Nat) 2 #[true, true, true, true, true, true, true, true, true, true, true, true, true, true, false, false] (fun s_ => [(6, .pointer (some ⟨s_.1, 0, none⟩)), (7, .pointer (some ⟨s_.2, 0, none⟩))]) (fun s_ w' => (w'.cell? (ad365.add (((ji6)).toNat * 2)) = some (.int .i64 ((rd_impl_Peg l0 (ji6)).f0)) ∧ w'.cell? ⟨(ad365.add (((ji6)).toNat * 2)).block, (ad365.add (((ji6)).toNat * 2)).off + 1, none⟩ = some (.int .i64 ((rd_impl_Peg l0 (ji6)).f1)) ∧ w'.cell? (ad365.add (((ji9)).toNat * 2)) = some (.int .i64 ((rd_impl_Peg l0 (ji9)).f0)) ∧ w'.cell? ⟨(ad365.add (((ji9)).toNat * 2)).block, (ad365.add (((ji9)).toNat * 2)).off + 1, none⟩ = some (.int .i64 ((rd_impl_Peg l0 (ji9)).f1))) ∧ (Kd.R kd_impl_Peg 34 w' w.heap.size (fun k_ => k_ ≠ s_.1 ∧ k_ ≠ s_.2) u4 x4_1) ∧ (w'.heap[s_.1]? = some (.cells #[.int .i64 0, .int .i64 0] 34 (0, 0))) ∧ (w'.heap[s_.2]? = some (.cells #[.int .i64 0, .int .i64 0] 34 (0, 0))) ∧ (w.heap.size ≤ s_.1) ∧ (w.heap.size ≤ s_.1) ∧ (s_.2 ≠ s_.1) ∧ (s_.1 ≠ s_.2) ∧ (w.heap.size ≤ s_.2) ∧ (w.heap.size ≤ s_.2) ∧ (Below w.heap.size w w')) ?_ ?_
          rotate_left
          ·intro hCont
           refine two_ (i := 12) (j := 13) (Ni := some 6) (Nj := some 7) #[true, true, true, true, true, true, true, true, true, true, true, true, true, false, false, false] #[true, true, true, true, true, true, true, true, true, true, true, true, false, true, false, false] rfl rfl rfl rfl (two_of HT_.out (by kernel_rfl)) (by decide) (by decide) (fun K hK => ?_) (fun K hK => ?_)
           ·skip
            refine box_step ?hg (N := 6) ?hd (cs := #[.int .i64 0, .int .i64 0]) (t := 34) ?hr ?_; (case hd => rfl); (case hg => rfl); (case hr => first | (go_simp; done) | (go_simp; rfl))
            intro gb367 hg w39 hbox hb
            have n0_ := aM (Kd.R_below (Kd.R_elderB (by (with_reducible repeat (first | apply rA | apply rN | apply rD)); exact HO_4.out) gb367 (Nat.le_of_eq hg.symm)) hb)
            have n1_ := aM (pT (by repeat (first | (with_reducible first | exact HB.out | apply pA | apply pN | apply pD) | exact HB.out)) hb)
            have n2_ := aM (hbox)
            have n3_ := aM ((by rw [hg]; exact (pZ (by repeat (first | (with_reducible first | exact HB.out | apply pA | apply pN | apply pD) | exact HB.out))) : w.heap.size ≤ gb367))
            have n4_ := aM ((by rw [hg]; exact (pZ (by repeat (first | (with_reducible first | exact HB.out | apply pA | apply pN | apply pD) | exact HB.out))) : w.heap.size ≤ gb367))
            clear HO_4
            clear HB
            have HO_4 := n0_
            have HB := n1_
            have BK367 := n2_
            have GW367 := n3_
            have GE367 := n4_
            clear n0_ n1_ n2_ n3_ n4_
            clear hb hbox hg
            refine hK.out _ _ ⟨((HB.out.cell (wB w _ hw365_0)).trans hw365_0), ((HB.out.cell (wB w _ hw365_1)).trans hw365_1), ((HB.out.cell (wB w _ hw366_0)).trans hw366_0), ((HB.out.cell (wB w _ hw366_1)).trans hw366_1)⟩ (fun hHeld => ?_)
            clear hK K
            refine norm_ (a' := ?_) ?_ ?_
            rotate_left
            ·show Act.put _ (some 6) _ = _
             simp only [Act.put, sI, sZ, sS, i64_w, i32_w]
             rfl
            refine one_ (i := 13) (N := some 7) #[true, true, true, true, true, true, true, true, true, true, true, true, true, true, false, false] rfl rfl (one_of HT_.out (by kernel_rfl)) (by decide) (fun K hK => ?_)
            refine box_step ?hg (N := 7) ?hd (cs := #[.int .i64 0, .int .i64 0]) (t := 34) ?hr ?_; (case hd => rfl); (case hg => rfl); (case hr => first | (go_simp; done) | (go_simp; rfl))
            intro gb368 hg w40 hbox hb
            have n0_ := aM (Kd.R_below (Kd.R_elderB (by (with_reducible repeat (first | apply rA | apply rN | apply rD)); exact HO_4.out) gb368 (Nat.le_of_eq hg.symm)) hb)
            have n1_ := aM (blk_below (g := gb367) (o := .cells #[.int .i64 0, .int .i64 0] 34 (0, 0)) (by (with_reducible repeat (first | refine kN ?_ _ | refine kD ?_ | refine kA ?_ _)); exact BK367.out) hb)
            have n2_ := aM (pT (by repeat (first | (with_reducible first | exact HB.out | apply pA | apply pN | apply pD | refine pS ?_ GE367.out) | exact HB.out)) hb)
            have n3_ := aM (hbox)
            have n4_ := aM ((by rw [hg]; exact (pZ (by repeat (first | (with_reducible first | exact HB.out | apply pA | apply pN | apply pD | refine pS ?_ GE367.out) | exact HB.out))) : w.heap.size ≤ gb368))
            have n5_ := aM ((by rw [hg]; exact (pZ (by repeat (first | (with_reducible first | exact HB.out | apply pA | apply pN | apply pD | refine pS ?_ GE367.out) | exact HB.out))) : w.heap.size ≤ gb368))
            have n6_ := aM ((by rw [hg]; exact nN (blk_lt (g := gb367) (o := .cells #[.int .i64 0, .int .i64 0] 34 (0, 0)) (by (with_reducible repeat (first | refine kN ?_ _ | refine kD ?_ | refine kA ?_ _)); exact BK367.out)) : gb367 ≠ gb368))
            have n7_ := aM ((by rw [hg]; exact Nat.ne_of_gt (blk_lt (g := gb367) (o := .cells #[.int .i64 0, .int .i64 0] 34 (0, 0)) (by (with_reducible repeat (first | refine kN ?_ _ | refine kD ?_ | refine kA ?_ _)); exact BK367.out)) : gb368 ≠ gb367))
            clear HO_4
            clear BK367
            clear HB
            have HO_4 := n0_
            have BK367 := n1_
            have HB := n2_
            have BK368 := n3_
            have GW368 := n4_
            have GE368 := n5_
            have NB367_368 := n6_
            have NB368_367 := n7_
            clear n0_ n1_ n2_ n3_ n4_ n5_ n6_ n7_
            clear hb hbox hg
            refine hK.out _ _ ⟨((HB.out.cell (wB w _ hw365_0)).trans hw365_0), ((HB.out.cell (wB w _ hw365_1)).trans hw365_1), ((HB.out.cell (wB w _ hw366_0)).trans hw366_0), ((HB.out.cell (wB w _ hw366_1)).trans hw366_1)⟩ (fun hHeld => ?_)
            clear hK K
            refine norm_ (a' := ?_) ?_ ?_
            rotate_left
            ·show Act.put _ (some 7) _ = _
             simp only [Act.put, sI, sZ, sS, i64_w, i32_w]
             rfl
            exact norm_ (by simp only [putAll, Act.put, sI, sZ, sS]) (hCont (gb367, gb368) _ ⟨hHeld, (by (with_reducible repeat (first | apply rA | apply rN | apply rD)); exact Kd.R_mono HO_4.out (fun _ hk => ⟨hk.1.2, hk.2⟩)), (by (with_reducible repeat (first | refine kN ?_ _ | refine kD ?_ | refine kA ?_ _)); exact BK367.out), (by (with_reducible repeat (first | refine kN ?_ _ | refine kD ?_ | refine kA ?_ _)); exact BK368.out), GW367.out, GE367.out, NB368_367.out, NB367_368.out, GW368.out, GE368.out, (by repeat (first | (with_reducible first | exact HB.out | apply pA | apply pN | apply pD | refine pS ?_ GE367.out | refine pS ?_ GE368.out) | exact HB.out))⟩)
           ·skip
            refine box_step ?hg (N := 7) ?hd (cs := #[.int .i64 0, .int .i64 0]) (t := 34) ?hr ?_; (case hd => rfl); (case hg => rfl); (case hr => first | (go_simp; done) | (go_simp; rfl))
            intro gb368 hg w39 hbox hb
            have n0_ := aM (Kd.R_below (Kd.R_elderB (by (with_reducible repeat (first | apply rA | apply rN | apply rD)); exact HO_4.out) gb368 (Nat.le_of_eq hg.symm)) hb)
            have n1_ := aM (pT (by repeat (first | (with_reducible first | exact HB.out | apply pA | apply pN | apply pD) | exact HB.out)) hb)
            have n2_ := aM (hbox)
            have n3_ := aM ((by rw [hg]; exact (pZ (by repeat (first | (with_reducible first | exact HB.out | apply pA | apply pN | apply pD) | exact HB.out))) : w.heap.size ≤ gb368))
            have n4_ := aM ((by rw [hg]; exact (pZ (by repeat (first | (with_reducible first | exact HB.out | apply pA | apply pN | apply pD) | exact HB.out))) : w.heap.size ≤ gb368))
            clear HO_4
            clear HB
            have HO_4 := n0_
            have HB := n1_
            have BK368 := n2_
            have GW368 := n3_
            have GE368 := n4_
            clear n0_ n1_ n2_ n3_ n4_
            clear hb hbox hg
            refine hK.out _ _ ⟨((HB.out.cell (wB w _ hw365_0)).trans hw365_0), ((HB.out.cell (wB w _ hw365_1)).trans hw365_1), ((HB.out.cell (wB w _ hw366_0)).trans hw366_0), ((HB.out.cell (wB w _ hw366_1)).trans hw366_1)⟩ (fun hHeld => ?_)
            clear hK K
            refine norm_ (a' := ?_) ?_ ?_
            rotate_left
            ·show Act.put _ (some 7) _ = _
             simp only [Act.put, sI, sZ, sS, i64_w, i32_w]
             rfl
            refine one_ (i := 12) (N := some 6) #[true, true, true, true, true, true, true, true, true, true, true, true, true, true, false, false] rfl rfl (one_of HT_.out (by kernel_rfl)) (by decide) (fun K hK => ?_)
            refine box_step ?hg (N := 6) ?hd (cs := #[.int .i64 0, .int .i64 0]) (t := 34) ?hr ?_; (case hd => rfl); (case hg => rfl); (case hr => first | (go_simp; done) | (go_simp; rfl))
            intro gb367 hg w40 hbox hb
            have n0_ := aM (Kd.R_below (Kd.R_elderB (by (with_reducible repeat (first | apply rA | apply rN | apply rD)); exact HO_4.out) gb367 (Nat.le_of_eq hg.symm)) hb)
            have n1_ := aM (blk_below (g := gb368) (o := .cells #[.int .i64 0, .int .i64 0] 34 (0, 0)) (by (with_reducible repeat (first | refine kN ?_ _ | refine kD ?_ | refine kA ?_ _)); exact BK368.out) hb)
            have n2_ := aM (pT (by repeat (first | (with_reducible first | exact HB.out | apply pA | apply pN | apply pD | refine pS ?_ GE368.out) | exact HB.out)) hb)
            have n3_ := aM (hbox)
            have n4_ := aM ((by rw [hg]; exact (pZ (by repeat (first | (with_reducible first | exact HB.out | apply pA | apply pN | apply pD | refine pS ?_ GE368.out) | exact HB.out))) : w.heap.size ≤ gb367))
            have n5_ := aM ((by rw [hg]; exact (pZ (by repeat (first | (with_reducible first | exact HB.out | apply pA | apply pN | apply pD | refine pS ?_ GE368.out) | exact HB.out))) : w.heap.size ≤ gb367))
            have n6_ := aM ((by rw [hg]; exact nN (blk_lt (g := gb368) (o := .cells #[.int .i64 0, .int .i64 0] 34 (0, 0)) (by (with_reducible repeat (first | refine kN ?_ _ | refine kD ?_ | refine kA ?_ _)); exact BK368.out)) : gb368 ≠ gb367))
            have n7_ := aM ((by rw [hg]; exact Nat.ne_of_gt (blk_lt (g := gb368) (o := .cells #[.int .i64 0, .int .i64 0] 34 (0, 0)) (by (with_reducible repeat (first | refine kN ?_ _ | refine kD ?_ | refine kA ?_ _)); exact BK368.out)) : gb367 ≠ gb368))
            clear HO_4
            clear BK368
            clear HB
            have HO_4 := n0_
            have BK368 := n1_
            have HB := n2_
            have BK367 := n3_
            have GW367 := n4_
            have GE367 := n5_
            have NB368_367 := n6_
            have NB367_368 := n7_
            clear n0_ n1_ n2_ n3_ n4_ n5_ n6_ n7_
            clear hb hbox hg
            refine hK.out _ _ ⟨((HB.out.cell (wB w _ hw365_0)).trans hw365_0), ((HB.out.cell (wB w _ hw365_1)).trans hw365_1), ((HB.out.cell (wB w _ hw366_0)).trans hw366_0), ((HB.out.cell (wB w _ hw366_1)).trans hw366_1)⟩ (fun hHeld => ?_)
            clear hK K
            refine norm_ (a' := ?_) ?_ ?_
            rotate_left
            ·show Act.put _ (some 6) _ = _
             simp only [Act.put, sI, sZ, sS, i64_w, i32_w]
             rfl
            exact norm_ (by simp only [putAll, Act.put, sI, sZ, sS]) (hCont (gb367, gb368) _ ⟨hHeld, (by (with_reducible repeat (first | apply rA | apply rN | apply rD)); exact Kd.R_mono HO_4.out (fun _ hk => ⟨hk.2, hk.1.2⟩)), (by (with_reducible repeat (first | refine kN ?_ _ | refine kD ?_ | refine kA ?_ _)); exact BK367.out), (by (with_reducible repeat (first | refine kN ?_ _ | refine kD ?_ | refine kA ?_ _)); exact BK368.out), GW367.out, GE367.out, NB368_367.out, NB367_368.out, GW368.out, GE368.out, (by repeat (first | (with_reducible first | exact HB.out | apply pA | apply pN | apply pD | refine pS ?_ GE368.out | refine pS ?_ GE367.out) | exact HB.out))⟩)
          rintro ⟨gb367, gb368⟩ w41 ⟨hS_, h0_, h1_, h2_, h3_, h4_, h5_, h6_, h7_, h8_, h9_⟩
          have n0_ : Aside0 (Kd.R kd_impl_Peg 34 w41 w.heap.size (fun k_ => k_ ≠ gb367 ∧ k_ ≠ gb368) u4 x4_1) := ⟨h0_⟩
          have n1_ : Aside0 (w41.heap[gb367]? = some (.cells #[.int .i64 0, .int .i64 0] 34 (0, 0))) := ⟨h1_⟩
          have n2_ : Aside0 (w41.heap[gb368]? = some (.cells #[.int .i64 0, .int .i64 0] 34 (0, 0))) := ⟨h2_⟩
          have n3_ : Aside0 (w.heap.size ≤ gb367) := ⟨h3_⟩
          have n4_ : Aside0 (w.heap.size ≤ gb367) := ⟨h4_⟩
          have n5_ : Aside0 (gb368 ≠ gb367) := ⟨h5_⟩
          have n6_ : Aside0 (gb367 ≠ gb368) := ⟨h6_⟩
          have n7_ : Aside0 (w.heap.size ≤ gb368) := ⟨h7_⟩
          have n8_ : Aside0 (w.heap.size ≤ gb368) := ⟨h8_⟩
          have n9_ : Aside0 (Below w.heap.size w w41) := ⟨h9_⟩
          clear HO_4
          clear HB
          clear h0_ h1_ h2_ h3_ h4_ h5_ h6_ h7_ h8_ h9_
          have HO_4 := n0_
          have BK367 := n1_
          have BK368 := n2_
          have GW367 := n3_
          have GE367 := n4_
          have NB368_367 := n5_
          have NB367_368 := n6_
          have GW368 := n7_
          have GE368 := n8_
          have HB := n9_
          clear n0_ n1_ n2_ n3_ n4_ n5_ n6_ n7_ n8_ n9_
          have hHeld : w41.cell? (ad365.add (((ji6)).toNat * 2)) = some (.int .i64 ((rd_impl_Peg l0 (ji6)).f0)) ∧ w41.cell? ⟨(ad365.add (((ji6)).toNat * 2)).block, (ad365.add (((ji6)).toNat * 2)).off + 1, none⟩ = some (.int .i64 ((rd_impl_Peg l0 (ji6)).f1)) ∧ w41.cell? (ad365.add (((ji9)).toNat * 2)) = some (.int .i64 ((rd_impl_Peg l0 (ji9)).f0)) ∧ w41.cell? ⟨(ad365.add (((ji9)).toNat * 2)).block, (ad365.add (((ji9)).toNat * 2)).off + 1, none⟩ = some (.int .i64 ((rd_impl_Peg l0 (ji9)).f1)) := hS_
          refine norm_ (a' := ?_) ?_ ?_
          rotate_left
          ·simp only [putAll, Act.put, sI, sZ, sS]
           rfl
          refine one_ (i := 14) (N := none) #[true, true, true, true, true, true, true, true, true, true, true, true, true, true, true, false] rfl rfl (one_of HT_.out (by kernel_rfl)) (by decide) (fun K hK => ?_)
          have hs42 : w41.cell? ⟨gb367, 0, none⟩ = some (.int .i64 0) := (kC BK367.out 0).trans rfl
          have hfs42 := kF BK367.out 0
          have hns42_1 := NB368_367.out
          have hms42_1 := NB367_368.out
          have hs43 : w41.cell? ⟨gb367, 1, none⟩ = some (.int .i64 0) := (kC BK367.out 1).trans rfl
          have hfs43 := kF BK367.out 1
          have hns43_1 := NB368_367.out
          have hms43_1 := NB367_368.out
          refine skip_ (w1 := ?_) (by rfl) rfl ?_ ?_
          rotate_left
          ·go_simp
           rfl
          refine hK.out _ _ ⟨((cell_far (p := ⟨gb367, _, none⟩) (by first | exact nN (nL (by have := wB _ _ hw365_0; first | rwa [add_block] at this | exact this) GW367.out) | (rw [add_block]; exact nN (nL (by have := wB _ _ hw365_0; first | rwa [add_block] at this | exact this) GW367.out)) | (show (Addr.add _ _).block ≠ _; rw [add_block]; exact nN (nL (by have := wB _ _ hw365_0; first | rwa [add_block] at this | exact this) GW367.out)) | (dsimp only; exact nN (nL (by have := wB _ _ hw365_0; first | rwa [add_block] at this | exact this) GW367.out))) _).trans (((cell_far (p := ⟨gb367, _, none⟩) (by first | exact nN (nL (by have := wB _ _ hw365_0; first | rwa [add_block] at this | exact this) GW367.out) | (rw [add_block]; exact nN (nL (by have := wB _ _ hw365_0; first | rwa [add_block] at this | exact this) GW367.out)) | (show (Addr.add _ _).block ≠ _; rw [add_block]; exact nN (nL (by have := wB _ _ hw365_0; first | rwa [add_block] at this | exact this) GW367.out)) | (dsimp only; exact nN (nL (by have := wB _ _ hw365_0; first | rwa [add_block] at this | exact this) GW367.out))) _).trans (hHeld.1)))), ((cell_far (p := ⟨gb367, _, none⟩) (by first | exact nN (nL (by have := wB _ _ hw365_1; first | rwa [add_block] at this | exact this) GW367.out) | (rw [add_block]; exact nN (nL (by have := wB _ _ hw365_1; first | rwa [add_block] at this | exact this) GW367.out)) | (show (Addr.add _ _).block ≠ _; rw [add_block]; exact nN (nL (by have := wB _ _ hw365_1; first | rwa [add_block] at this | exact this) GW367.out)) | (dsimp only; exact nN (nL (by have := wB _ _ hw365_1; first | rwa [add_block] at this | exact this) GW367.out))) _).trans (((cell_far (p := ⟨gb367, _, none⟩) (by first | exact nN (nL (by have := wB _ _ hw365_1; first | rwa [add_block] at this | exact this) GW367.out) | (rw [add_block]; exact nN (nL (by have := wB _ _ hw365_1; first | rwa [add_block] at this | exact this) GW367.out)) | (show (Addr.add _ _).block ≠ _; rw [add_block]; exact nN (nL (by have := wB _ _ hw365_1; first | rwa [add_block] at this | exact this) GW367.out)) | (dsimp only; exact nN (nL (by have := wB _ _ hw365_1; first | rwa [add_block] at this | exact this) GW367.out))) _).trans (hHeld.2.1)))), ((cell_far (p := ⟨gb367, _, none⟩) (by first | exact nN (nL (by have := wB _ _ hw366_0; first | rwa [add_block] at this | exact this) GW367.out) | (rw [add_block]; exact nN (nL (by have := wB _ _ hw366_0; first | rwa [add_block] at this | exact this) GW367.out)) | (show (Addr.add _ _).block ≠ _; rw [add_block]; exact nN (nL (by have := wB _ _ hw366_0; first | rwa [add_block] at this | exact this) GW367.out)) | (dsimp only; exact nN (nL (by have := wB _ _ hw366_0; first | rwa [add_block] at this | exact this) GW367.out))) _).trans (((cell_far (p := ⟨gb367, _, none⟩) (by first | exact nN (nL (by have := wB _ _ hw366_0; first | rwa [add_block] at this | exact this) GW367.out) | (rw [add_block]; exact nN (nL (by have := wB _ _ hw366_0; first | rwa [add_block] at this | exact this) GW367.out)) | (show (Addr.add _ _).block ≠ _; rw [add_block]; exact nN (nL (by have := wB _ _ hw366_0; first | rwa [add_block] at this | exact this) GW367.out)) | (dsimp only; exact nN (nL (by have := wB _ _ hw366_0; first | rwa [add_block] at this | exact this) GW367.out))) _).trans (hHeld.2.2.1)))), ((cell_far (p := ⟨gb367, _, none⟩) (by first | exact nN (nL (by have := wB _ _ hw366_1; first | rwa [add_block] at this | exact this) GW367.out) | (rw [add_block]; exact nN (nL (by have := wB _ _ hw366_1; first | rwa [add_block] at this | exact this) GW367.out)) | (show (Addr.add _ _).block ≠ _; rw [add_block]; exact nN (nL (by have := wB _ _ hw366_1; first | rwa [add_block] at this | exact this) GW367.out)) | (dsimp only; exact nN (nL (by have := wB _ _ hw366_1; first | rwa [add_block] at this | exact this) GW367.out))) _).trans (((cell_far (p := ⟨gb367, _, none⟩) (by first | exact nN (nL (by have := wB _ _ hw366_1; first | rwa [add_block] at this | exact this) GW367.out) | (rw [add_block]; exact nN (nL (by have := wB _ _ hw366_1; first | rwa [add_block] at this | exact this) GW367.out)) | (show (Addr.add _ _).block ≠ _; rw [add_block]; exact nN (nL (by have := wB _ _ hw366_1; first | rwa [add_block] at this | exact this) GW367.out)) | (dsimp only; exact nN (nL (by have := wB _ _ hw366_1; first | rwa [add_block] at this | exact this) GW367.out))) _).trans (hHeld.2.2.2))))⟩ (fun hHeld => ?_)
          clear hK K
          refine one_ (i := 15) (N := none) #[true, true, true, true, true, true, true, true, true, true, true, true, true, true, true, true] rfl rfl (one_of HT_.out (by kernel_rfl)) (by decide) (fun K hK => ?_)
          have hs44 : w41.cell? ⟨gb368, 0, none⟩ = some (.int .i64 0) := (kC BK368.out 0).trans rfl
          have hfs44 := kF BK368.out 0
          have hns44_0 := NB367_368.out
          have hms44_0 := NB368_367.out
          have hs45 : w41.cell? ⟨gb368, 1, none⟩ = some (.int .i64 0) := (kC BK368.out 1).trans rfl
          have hfs45 := kF BK368.out 1
          have hns45_0 := NB367_368.out
          have hms45_0 := NB368_367.out
          refine skip_ (w1 := ?_) (by rfl) rfl ?_ ?_
          rotate_left
          ·go_simp
           rfl
          refine hK.out _ _ ⟨((cell_far (p := ⟨gb368, _, none⟩) (by first | exact nN (nL (by have := wB _ _ hw365_0; first | rwa [add_block] at this | exact this) GW368.out) | (rw [add_block]; exact nN (nL (by have := wB _ _ hw365_0; first | rwa [add_block] at this | exact this) GW368.out)) | (show (Addr.add _ _).block ≠ _; rw [add_block]; exact nN (nL (by have := wB _ _ hw365_0; first | rwa [add_block] at this | exact this) GW368.out)) | (dsimp only; exact nN (nL (by have := wB _ _ hw365_0; first | rwa [add_block] at this | exact this) GW368.out))) _).trans (((cell_far (p := ⟨gb368, _, none⟩) (by first | exact nN (nL (by have := wB _ _ hw365_0; first | rwa [add_block] at this | exact this) GW368.out) | (rw [add_block]; exact nN (nL (by have := wB _ _ hw365_0; first | rwa [add_block] at this | exact this) GW368.out)) | (show (Addr.add _ _).block ≠ _; rw [add_block]; exact nN (nL (by have := wB _ _ hw365_0; first | rwa [add_block] at this | exact this) GW368.out)) | (dsimp only; exact nN (nL (by have := wB _ _ hw365_0; first | rwa [add_block] at this | exact this) GW368.out))) _).trans (hHeld.1)))), ((cell_far (p := ⟨gb368, _, none⟩) (by first | exact nN (nL (by have := wB _ _ hw365_1; first | rwa [add_block] at this | exact this) GW368.out) | (rw [add_block]; exact nN (nL (by have := wB _ _ hw365_1; first | rwa [add_block] at this | exact this) GW368.out)) | (show (Addr.add _ _).block ≠ _; rw [add_block]; exact nN (nL (by have := wB _ _ hw365_1; first | rwa [add_block] at this | exact this) GW368.out)) | (dsimp only; exact nN (nL (by have := wB _ _ hw365_1; first | rwa [add_block] at this | exact this) GW368.out))) _).trans (((cell_far (p := ⟨gb368, _, none⟩) (by first | exact nN (nL (by have := wB _ _ hw365_1; first | rwa [add_block] at this | exact this) GW368.out) | (rw [add_block]; exact nN (nL (by have := wB _ _ hw365_1; first | rwa [add_block] at this | exact this) GW368.out)) | (show (Addr.add _ _).block ≠ _; rw [add_block]; exact nN (nL (by have := wB _ _ hw365_1; first | rwa [add_block] at this | exact this) GW368.out)) | (dsimp only; exact nN (nL (by have := wB _ _ hw365_1; first | rwa [add_block] at this | exact this) GW368.out))) _).trans (hHeld.2.1)))), ((cell_far (p := ⟨gb368, _, none⟩) (by first | exact nN (nL (by have := wB _ _ hw366_0; first | rwa [add_block] at this | exact this) GW368.out) | (rw [add_block]; exact nN (nL (by have := wB _ _ hw366_0; first | rwa [add_block] at this | exact this) GW368.out)) | (show (Addr.add _ _).block ≠ _; rw [add_block]; exact nN (nL (by have := wB _ _ hw366_0; first | rwa [add_block] at this | exact this) GW368.out)) | (dsimp only; exact nN (nL (by have := wB _ _ hw366_0; first | rwa [add_block] at this | exact this) GW368.out))) _).trans (((cell_far (p := ⟨gb368, _, none⟩) (by first | exact nN (nL (by have := wB _ _ hw366_0; first | rwa [add_block] at this | exact this) GW368.out) | (rw [add_block]; exact nN (nL (by have := wB _ _ hw366_0; first | rwa [add_block] at this | exact this) GW368.out)) | (show (Addr.add _ _).block ≠ _; rw [add_block]; exact nN (nL (by have := wB _ _ hw366_0; first | rwa [add_block] at this | exact this) GW368.out)) | (dsimp only; exact nN (nL (by have := wB _ _ hw366_0; first | rwa [add_block] at this | exact this) GW368.out))) _).trans (hHeld.2.2.1)))), ((cell_far (p := ⟨gb368, _, none⟩) (by first | exact nN (nL (by have := wB _ _ hw366_1; first | rwa [add_block] at this | exact this) GW368.out) | (rw [add_block]; exact nN (nL (by have := wB _ _ hw366_1; first | rwa [add_block] at this | exact this) GW368.out)) | (show (Addr.add _ _).block ≠ _; rw [add_block]; exact nN (nL (by have := wB _ _ hw366_1; first | rwa [add_block] at this | exact this) GW368.out)) | (dsimp only; exact nN (nL (by have := wB _ _ hw366_1; first | rwa [add_block] at this | exact this) GW368.out))) _).trans (((cell_far (p := ⟨gb368, _, none⟩) (by first | exact nN (nL (by have := wB _ _ hw366_1; first | rwa [add_block] at this | exact this) GW368.out) | (rw [add_block]; exact nN (nL (by have := wB _ _ hw366_1; first | rwa [add_block] at this | exact this) GW368.out)) | (show (Addr.add _ _).block ≠ _; rw [add_block]; exact nN (nL (by have := wB _ _ hw366_1; first | rwa [add_block] at this | exact this) GW368.out)) | (dsimp only; exact nN (nL (by have := wB _ _ hw366_1; first | rwa [add_block] at this | exact this) GW368.out))) _).trans (hHeld.2.2.2))))⟩ (fun hHeld => ?_)
          clear hK K
          refine done_ (done_of HT_.out (by kernel_rfl)) ?_
          have hnb46 := NB367_368.out
          have hnc46 := NB368_367.out
          have hcz47_0 : w41.cell? ⟨gb367, 0, none⟩ = some (.int .i64 0) := (kC BK367.out 0).trans rfl
          have hcz47_1 : w41.cell? ⟨gb367, 1, none⟩ = some (.int .i64 0) := (kC BK367.out 1).trans rfl
          have hfz47_0 := kF BK367.out 0
          have hfz47_1 := kF BK367.out 1
          have hcz48_0 : w41.cell? ⟨gb368, 0, none⟩ = some (.int .i64 0) := (kC BK368.out 0).trans rfl
          have hcz48_1 : w41.cell? ⟨gb368, 1, none⟩ = some (.int .i64 0) := (kC BK368.out 1).trans rfl
          have hfz48_0 := kF BK368.out 0
          have hfz48_1 := kF BK368.out 1
          try go_wp2
          go_ret2
          exact ⟨_, by first | rfl | (simp [errW_none, errW_some] <;> rfl) | (simp only [← hji6, ← hji9]; first | rfl | (simp [errW_none, errW_some] <;> rfl)) | (simp [*, errW_none, errW_some] <;> rfl), by first | exact Kd.R_nil _ _ _ _ _ | exact Kd.N_nil _ _ _ _ _ | exact Kd.V_nil _ _ _ _ _ | exact Kd.Q_nil _ _ _ _ _ | exact Kd.S_nil _ _ _ _ _, by repeat (first | (with_reducible first | exact HB.out | apply pA | apply pN | apply pD | refine pS ?_ GE367.out | refine pS ?_ GE368.out) | exact HB.out)⟩
        ·rw [if_neg c11] at H
         exact absurd H (by simp)
       ·rw [if_neg c10] at H
        exact absurd H (by simp)
      ·rw [if_neg c8] at H
       exact absurd H (by simp)
     ·rw [if_neg c7] at H
      exact absurd H (by simp)
    ·rw [if_neg c5] at H
     have c5b0 : decide (x13_1 < (l0.length : Int)) = false := decide_eq_false c5
     clear c5
     simp only [Option.some.injEq, Prod.mk.injEq] at H
     obtain ⟨rfl, rfl⟩ := H
     go_wp2
     go_ret2
     exact ⟨_, by first | rfl | (simp [errW_none, errW_some] <;> rfl) | (simp [*, errW_none, errW_some] <;> rfl), by (with_reducible repeat (first | apply rA | apply rN | apply rD)); exact HO_4.out, by repeat (first | (with_reducible first | exact HB.out | apply pA | apply pN | apply pD) | exact HB.out)⟩
 ·replace c3 := Bool.eq_false_iff.mpr c3
  subst c3
  have H1 : (some (([] : List (S_impl_Peg)), false)) = some (r1, r2) := by rw [if_neg (show ¬ (false = true) by decide)] at H; exact H
  clear H
  have H := H1
  clear H1
  simp only [Option.some.injEq, Prod.mk.injEq] at H
  obtain ⟨rfl, rfl⟩ := H
  go_enter Try.func39, Try.ntmps39
  go_wp2_with (first | ((with_reducible refine gC (f := 95) rfl ?_); refine goesL_ (some 9) rfl rfl Try.func95 (by kernel_rfl) rfl #[.slice A0 l0.length c0] rfl (by (try simp only [mA, mC, mN]); first | done | rfl | (simp only [lD, lT]; rfl)) ?_; (with_reducible refine (spec_trThree.calls k _ _ l0 false _ ?side1 ?side2 A2.out).mono ?_); (case side1 => repeat (first | exact HR0.out | (with_reducible refine cA ?_ _) | (with_reducible refine cN ?_ _) | (with_reducible refine cD ?_))); (case side2 => exact HC0.out); rintro e w49 ⟨rfl, hb⟩; refine ⟨_, rfl, ?_⟩; have n0_ := aM (pT (by repeat (first | (with_reducible first | exact HB.out | apply pA | apply pN | apply pD) | exact HB.out)) hb); clear HB; have HB := n0_; clear n0_; (try clear hb); (try clear hb2); (try clear hk); (try clear hi)))
  go_ret2
  exact ⟨_, by first | rfl | (simp [errW_none, errW_some] <;> rfl) | (simp [*, errW_none, errW_some] <;> rfl), by first | exact Kd.R_nil _ _ _ _ _ | exact Kd.N_nil _ _ _ _ _ | exact Kd.V_nil _ _ _ _ _ | exact Kd.Q_nil _ _ _ _ _ | exact Kd.S_nil _ _ _ _ _, by repeat (first | (with_reducible first | exact HB.out | apply pA | apply pN | apply pD) | exact HB.out)⟩

end Go.Proofs.Ytiacfkilmknldaa.X
