-- thin
-- short
import Derived.Test.YtiacfkilmknldaaXA
import Derived.Test.YtiacfkilmknldaaX0
import Derived.Test.YtiacfkilmknldaaX2
import Derived.Test.YtiacfkilmknldaaX4
import Derived.Test.YtiacfkilmknldaaX5
namespace Go.Proofs.Ytiacfkilmknldaa.X
open Go.RowKit Go.Proofs.Ytiacfkilmknldaa.XW Go.Proofs.YtiacfkilmknldaaW.PrintWords Go.Proofs.YtiacfkilmknldaaW.PrintLast Go.Proofs.YtiacfkilmknldaaW.PrintMore
attribute [local go_sem] max2_int min2_int max_two min_two max_three min_three max_four min_four   -- for this text's walks alone
set_option linter.unusedVariables false
set_option linter.unusedSimpArgs false

def spec_pgConvex.l0 : Nat → List (S_impl_Peg) → Int → Int → List (S_impl_Peg) → Int → Int → Option (Bool)
 | 0, _, _, _, _, _, _ => none
 | k + 1, x0, x3, x4, x12, x13, x14 => if x14 < x13 then (if 0 ≤ x14 then (if x14 < (x12.length : Int) then (if x3 = 0 then (none) else (if 0 ≤ (Int.tmod (wrap64 (x14 + 1)) x3) then (if (Int.tmod (wrap64 (x14 + 1)) x3) < (x0.length : Int) then (if 0 ≤ (Int.tmod (wrap64 (x14 + 2)) x3) then (if (Int.tmod (wrap64 (x14 + 2)) x3) < (x0.length : Int) then ((spec_pgTurn.f ((rd_impl_Peg x12 x14).f0) ((rd_impl_Peg x12 x14).f1) ((rd_impl_Peg x0 (Int.tmod (wrap64 (x14 + 1)) x3)).f0) ((rd_impl_Peg x0 (Int.tmod (wrap64 (x14 + 1)) x3)).f1) ((rd_impl_Peg x0 (Int.tmod (wrap64 (x14 + 2)) x3)).f0) ((rd_impl_Peg x0 (Int.tmod (wrap64 (x14 + 2)) x3)).f1)).bind fun t156 => ((spec_l1Sign.f t156).bind fun t157 => (if t157 = x4 then (spec_pgConvex.l0 k x0 x3 x4 x12 x13 (wrap64 (x14 + 1))) else (some false)))) else (none)) else (none)) else (none)) else (none))) else (none)) else (none)) else (some true)
def spec_pgConvex.f (k : Nat) (l0 : List (S_impl_Peg)) : Option (Bool) := (spec_pgArea.f k l0).bind fun t150 => ((spec_l1Sign.f t150).bind fun t151 => (spec_pgConvex.l0 k l0 (l0.length : Int) t151 l0 (l0.length : Int) 0))
theorem spec_pgConvex.mono_l : ∀ k, (∀ y0 y1 y2 y3 y4 y5, LeO (spec_pgConvex.l0 k y0 y1 y2 y3 y4 y5) (spec_pgConvex.l0 (k + 1) y0 y1 y2 y3 y4 y5))
 | 0 => fun _ _ _ _ _ _ r h => by simp [spec_pgConvex.l0] at h
 | k + 1 => by
  have ih0 := spec_pgConvex.mono_l k
  ·intro y0 y1 y2 y3 y4 y5
   unfold spec_pgConvex.l0
   repeat' first
   | (with_reducible exact ih0 _ _ _ _ _ _)
   | (with_reducible exact spec_pgArea.mono _ _)
   | (with_reducible exact LeO.refl _)
   | (with_reducible exact LeO.none _)
   | (with_reducible refine LeO.ite ?_ ?_)
   | (with_reducible refine LeO.bind ?_ (fun _ => ?_))
   | exact ih0 _ _ _ _ _ _
   | exact spec_pgArea.mono _ _
   | exact LeO.none _
   | refine LeO.ite ?_ ?_
   | refine LeO.bind ?_ (fun _ => ?_)
theorem spec_pgConvex.mono : ∀ a0 k, LeO (spec_pgConvex.f k a0) (spec_pgConvex.f (k + 1) a0) := by
 intro a0 k
 have ih0 := spec_pgConvex.mono_l k
 unfold spec_pgConvex.f
 repeat' first
   | (with_reducible exact ih0 _ _ _ _ _ _)
   | (with_reducible exact spec_pgArea.mono _ _)
   | (with_reducible exact LeO.refl _)
   | (with_reducible exact LeO.none _)
   | (with_reducible refine LeO.ite ?_ ?_)
   | (with_reducible refine LeO.bind ?_ (fun _ => ?_))
   | exact ih0 _ _ _ _ _ _
   | exact spec_pgArea.mono _ _
   | exact LeO.none _
   | refine LeO.ite ?_ ?_
   | refine LeO.bind ?_ (fun _ => ?_)
def spec_pgConvex.T6 : Bool × List (List Nat × List Nat) := (true, [([], []), ([], []), ([], []), ([2], [2]), ([], []), ([3, 4], [3, 4]), ([1, 5], [1, 5]), ([6], [6]), ([], []), ([], []), ([9], [9]), ([], []), ([10, 11], [10, 11]), ([8, 12], [8, 12]), ([13], [13]), ([0, 7, 14], [0, 7, 14]), ([15, 15], [15]), ([], []), ([16, 17], [16, 17])])
def spec_pgConvex.B6 : List Nat := [0, 0, 0, 4, 0, 28, 62, 126, 0, 0, 512, 0, 3584, 7936, 16128, 32767, 65535, 0, 262143]
theorem spec_pgConvex.tab6 : rtab .any (opsOf Try.f84 6) = spec_pgConvex.T6 := by kernel_rfl
theorem spec_pgConvex.bits6 : waitsOk spec_pgConvex.T6.2 spec_pgConvex.B6 = true := by kernel_rfl
set_option maxHeartbeats 8000000 in
set_option maxRecDepth 100000 in
theorem spec_pgConvex.calls (k : Nat) (A0 : Option Addr) (c0 : Nat) (l0 : List (S_impl_Peg)) (r : Bool) (w : World) (hr0 : Kd.C kd_impl_Peg w A0 l0.length l0) (hc0 : l0.length ≤ c0) (h : spec_pgConvex.f k l0 = some r) :
  Calls Try.prog 84 #[.slice A0 l0.length c0] w fun e w' => e = .returned (.bool r) ∧ Below w.heap.size w w' := by
 have hu34 := Try.underlying34
 have HR0 := aM hr0
 have HC0 := aM hc0
 clear hr0 hc0
 have HB := aM (Below.refl w.heap.size w)
 have H : ((spec_pgArea.f k l0).bind fun t150 => ((spec_l1Sign.f t150).bind fun t151 => (spec_pgConvex.l0 k l0 (l0.length : Int) t151 l0 (l0.length : Int) 0))) = some r := h
 clear h
 replace H := oB.mp H
 obtain ⟨t150, A20, H⟩ := H
 replace H : ((spec_l1Sign.f t150).bind fun t151 => (spec_pgConvex.l0 k l0 (l0.length : Int) t151 l0 (l0.length : Int) 0)) = some r := H
 have A2 := aM A20
 clear A20
 replace H := oB.mp H
 obtain ⟨t151, A30, H⟩ := H
 replace H : (spec_pgConvex.l0 k l0 (l0.length : Int) t151 l0 (l0.length : Int) 0) = some r := H
 have A3 := aM A30
 clear A30
 have H' := aM H
 clear H
 go_enter Try.func84, Try.ntmps84
 go_wp2_with (first | ((with_reducible refine gC (f := 123) rfl ?_); refine goesL_ (some 10) rfl rfl Try.func123 kR rfl #[.slice A0 l0.length c0] rfl sQ ?_; (with_reducible refine (spec_pgArea.calls k _ _ l0 t150 _ ?side1 ?side2 A2.out).mono ?_); (case side1 => repeat (first | exact HR0.out | (with_reducible refine cA ?_ _) | (with_reducible refine cN ?_ _) | (with_reducible refine cD ?_))); (case side2 => exact HC0.out); rintro e w4 ⟨rfl, hb⟩; refine ⟨_, rfl, ?_⟩; have n0_ := aM (pT bQ hb); clear HB; have HB := n0_; clear n0_; (try clear hb); (try clear hb2); (try clear hk); (try clear hi)) | ((with_reducible refine gC (f := 118) rfl ?_); refine goesL_ (some 11) rfl rfl Try.func118 kR rfl #[.int .i64 t150] rfl sQ ?_; (with_reducible refine (spec_l1Sign.calls t150 t151 _ A3.out).mono ?_); rintro e w' ⟨rfl, ⟨nd, rfl⟩⟩; refine ⟨_, rfl, ?_⟩))
 go_loopg [14] k (fun kq v14 w' => ∃ (x14_1 : Int), v14 = .int .i64 x14_1 ∧ Aside0 (spec_pgConvex.l0 kq l0 (l0.length : Int) t151 l0 (l0.length : Int) x14_1 = some r) ∧ Aside0 (kq ≤ k) ∧ Aside0 (Below w.heap.size w w'))
 case atStart => exact ⟨(0), eQ, H', ⟨Nat.le_refl _⟩, ⟨bQ⟩⟩
 case round =>
  clear H'
  try clear c1
  try clear p2
  obtain ⟨x14_1, rfl, HA, HK1, HB⟩ := hrel
  cases gk with
  | zero => exact absurd HA.out (by simp [spec_pgConvex.l0])
  | succ k1 =>
   have H := HA.out
   clear HA
   simp only [spec_pgConvex.l0] at H
   by_cases c5 : x14_1 < (l0.length : Int)
   ·rw [if_pos c5] at H
    have c5b0 : decide (x14_1 < (l0.length : Int)) = true := dE c5
    clear c5
    by_cases c6 : 0 ≤ x14_1
    ·rw [if_pos c6] at H
     have c6b0 : decide (0 ≤ x14_1) = true := dE c6
     clear c6
     by_cases c7 : x14_1 < (l0.length : Int)
     ·rw [if_pos c7] at H
      have c7b0 : decide (x14_1 < (l0.length : Int)) = true := dE c7
      clear c7
      by_cases c8 : (l0.length : Int) = 0
      ·rw [if_pos c8] at H
       exact absurd H (by simp)
      ·rw [if_neg c8] at H
       have c8b0 : ((l0.length : Int) == 0) = false := beq_eq_false_iff_ne.mpr c8
       have c8b1 : ((l0.length : Int) != 0) = true := bne_iff_ne.mpr c8
       have c8b2 : ¬ (l0 = []) := fun h_ => c8 (by rw [h_]; rfl)
       obtain ⟨ji9, hji9⟩ : ∃ j_ : Int, (Int.tmod (wrap64 (x14_1 + 1)) (l0.length : Int)) = j_ := ⟨_, rfl⟩
       replace H : (if 0 ≤ (ji9) then (if (ji9) < (l0.length : Int) then (if 0 ≤ (Int.tmod (wrap64 (x14_1 + 2)) (l0.length : Int)) then (if (Int.tmod (wrap64 (x14_1 + 2)) (l0.length : Int)) < (l0.length : Int) then ((spec_pgTurn.f ((rd_impl_Peg l0 x14_1).f0) ((rd_impl_Peg l0 x14_1).f1) ((rd_impl_Peg l0 (ji9)).f0) ((rd_impl_Peg l0 (ji9)).f1) ((rd_impl_Peg l0 (Int.tmod (wrap64 (x14_1 + 2)) (l0.length : Int))).f0) ((rd_impl_Peg l0 (Int.tmod (wrap64 (x14_1 + 2)) (l0.length : Int))).f1)).bind fun t156 => ((spec_l1Sign.f t156).bind fun t157 => (if t157 = t151 then (spec_pgConvex.l0 k1 l0 (l0.length : Int) t151 l0 (l0.length : Int) (wrap64 (x14_1 + 1))) else (some false)))) else (none)) else (none)) else (none)) else (none)) = some r := by first | (rw [hji9] at H; exact H) | (simp only [hji9] at H ⊢; exact H)
       by_cases c10 : 0 ≤ (ji9)
       ·rw [if_pos c10] at H
        have c10b0 : decide (0 ≤ (ji9)) = true := dE c10
        clear c10
        by_cases c11 : (ji9) < (l0.length : Int)
        ·rw [if_pos c11] at H
         have c11b0 : decide ((ji9) < (l0.length : Int)) = true := dE c11
         clear c11
         obtain ⟨ji12, hji12⟩ : ∃ j_ : Int, (Int.tmod (wrap64 (x14_1 + 2)) (l0.length : Int)) = j_ := ⟨_, rfl⟩
         replace H : (if 0 ≤ (ji12) then (if (ji12) < (l0.length : Int) then ((spec_pgTurn.f ((rd_impl_Peg l0 x14_1).f0) ((rd_impl_Peg l0 x14_1).f1) ((rd_impl_Peg l0 (ji9)).f0) ((rd_impl_Peg l0 (ji9)).f1) ((rd_impl_Peg l0 (ji12)).f0) ((rd_impl_Peg l0 (ji12)).f1)).bind fun t156 => ((spec_l1Sign.f t156).bind fun t157 => (if t157 = t151 then (spec_pgConvex.l0 k1 l0 (l0.length : Int) t151 l0 (l0.length : Int) (wrap64 (x14_1 + 1))) else (some false)))) else (none)) else (none)) = some r := by first | (rw [hji12] at H; exact H) | (simp only [hji12] at H ⊢; exact H)
         by_cases c13 : 0 ≤ (ji12)
         ·rw [if_pos c13] at H
          have c13b0 : decide (0 ≤ (ji12)) = true := dE c13
          clear c13
          by_cases c14 : (ji12) < (l0.length : Int)
          ·rw [if_pos c14] at H
           have c14b0 : decide ((ji12) < (l0.length : Int)) = true := dE c14
           clear c14
           replace H := oB.mp H
           obtain ⟨t156, A150, H⟩ := H
           replace H : ((spec_l1Sign.f t156).bind fun t157 => (if t157 = t151 then (spec_pgConvex.l0 k1 l0 (l0.length : Int) t151 l0 (l0.length : Int) (wrap64 (x14_1 + 1))) else (some false))) = some r := H
           have A15 := aM A150
           clear A150
           replace H := oB.mp H
           obtain ⟨t157, A160, H⟩ := H
           replace H : (if t157 = t151 then (spec_pgConvex.l0 k1 l0 (l0.length : Int) t151 l0 (l0.length : Int) (wrap64 (x14_1 + 1))) else (some false)) = some r := H
           have A16 := aM A160
           clear A160
           by_cases c17 : t157 = t151
           ·rw [if_pos c17] at H
            have c17b0 : (t157 == t151) = true := beq_iff_eq.mpr c17
            have c17b1 : (t157 != t151) = false := bne_eq_false_iff_eq.mpr c17
            clear c17
            have H' := aM H
            clear H
            have p152 : 0 ≤ (x14_1 : Int) := dT aQ
            have q152 : x14_1 < (l0.length : Int) := dT aQ
            obtain ⟨ad152, e152, hx152_0, hx152_1⟩ := at_impl_Peg HR0.out x14_1 p152 q152
            cases e152
            replace hx152_0 := (HB.out.cell (wB w _ hx152_0)).trans hx152_0
            replace hx152_1 := (HB.out.cell (wB w _ hx152_1)).trans hx152_1
            replace p152 := eq_true p152
            replace q152 := eq_true q152
            try go_wp2_with (first | ((with_reducible refine gate_dst (N := 6) rfl ?_); refine box_event ?hg (N := 6) ?hd (cs := #[.int .i64 0, .int .i64 0]) (t := 34) ?hr ?_; (case hd => rfl); (case hg => rfl); (case hr => first | (go_simp; done) | (go_simp; rfl)); intro gb153 hg w18 hbox hb; have n0_ := aM (pT bQ hb); have n1_ := aM (hbox); have n2_ := aM ((by rw [hg]; exact (pZ bQ) : w.heap.size ≤ gb153)); have n3_ := aM ((by rw [hg]; exact (pZ bQ) : w.heap.size ≤ gb153)); clear HB; have HB := n0_; have BK153 := n1_; have GW153 := n2_; have GE153 := n3_; clear n0_ n1_ n2_ n3_; clear hb hbox hg; have hcz19_0 : w18.cell? ⟨gb153, 0, none⟩ = some (.int .i64 0) := (kC BK153.out 0).trans rfl; have hcz19_1 : w18.cell? ⟨gb153, 1, none⟩ = some (.int .i64 0) := (kC BK153.out 1).trans rfl; have hfz19_0 := kF BK153.out 0; have hfz19_1 := kF BK153.out 1))
            have n0_ : Aside0 (((w18.setCell ⟨gb153, 0, none⟩ (.int .i64 ((rd_impl_Peg l0 x14_1).f0))).setCell ⟨gb153, 1, none⟩ (.int .i64 ((rd_impl_Peg l0 x14_1).f1))).heap[gb153]? = some (.cells #[.int .i64 ((rd_impl_Peg l0 x14_1).f0), .int .i64 ((rd_impl_Peg l0 x14_1).f1)] 34 (0, 0))) := ⟨by (with_reducible repeat (first | refine kN ?_ _ | refine kD ?_ | refine kA ?_ _)); refine blk_put (cs := #[.int .i64 ((rd_impl_Peg l0 x14_1).f0), .int .i64 0]) ?_ 1 _ rfl; (with_reducible repeat (first | refine kN ?_ _ | refine kD ?_ | refine kA ?_ _)); refine blk_put (cs := #[.int .i64 0, .int .i64 0]) ?_ 0 _ rfl; (with_reducible repeat (first | refine kN ?_ _ | refine kD ?_ | refine kA ?_ _)); exact BK153.out⟩
            have n1_ : Aside0 (Below w.heap.size w ((w18.setCell ⟨gb153, 0, none⟩ (.int .i64 ((rd_impl_Peg l0 x14_1).f0))).setCell ⟨gb153, 1, none⟩ (.int .i64 ((rd_impl_Peg l0 x14_1).f1)))) := ⟨by repeat (first | (with_reducible first | exact HB.out | apply pA | apply pN | apply pD | refine pS ?_ GE153.out) | exact HB.out)⟩
            (try clear BK153)
            (try clear HB)
            generalize ((w18.setCell ⟨gb153, 0, none⟩ (.int .i64 ((rd_impl_Peg l0 x14_1).f0))).setCell ⟨gb153, 1, none⟩ (.int .i64 ((rd_impl_Peg l0 x14_1).f1))) = w20 at n0_ n1_ ⊢
            have BK153 := n0_
            have HB := n1_
            clear n0_ n1_
            have n0_ := aM (kD BK153.out)
            have n1_ := aM (pD HB.out)
            clear BK153
            clear HB
            have BK153 := n0_
            have HB := n1_
            clear n0_ n1_
            have p154 : 0 ≤ ((ji9) : Int) := dT aQ
            have q154 : (ji9) < (l0.length : Int) := dT aQ
            obtain ⟨ad154, e154, hx154_0, hx154_1⟩ := at_impl_Peg HR0.out (ji9) p154 q154
            have hw154_1 := hx154_1
            have hw154_0 := hx154_0
            obtain rfl : ad152 = ad154 := (by injection e154)
            replace hx154_0 := (HB.out.cell (wB w _ hx154_0)).trans hx154_0
            replace hx154_1 := (HB.out.cell (wB w _ hx154_1)).trans hx154_1
            replace p154 := eq_true p154
            replace q154 := eq_true q154
            have p155 : 0 ≤ ((ji12) : Int) := dT aQ
            have q155 : (ji12) < (l0.length : Int) := dT aQ
            obtain ⟨ad155, e155, hx155_0, hx155_1⟩ := at_impl_Peg HR0.out (ji12) p155 q155
            have hw155_1 := hx155_1
            have hw155_0 := hx155_0
            obtain rfl : ad152 = ad155 := (by injection e155)
            replace hx155_0 := (HB.out.cell (wB w _ hx155_0)).trans hx155_0
            replace hx155_1 := (HB.out.cell (wB w _ hx155_1)).trans hx155_1
            replace p155 := eq_true p155
            replace q155 := eq_true q155
            refine start_ (n := 19) (S := fun w' => w'.cell? ⟨gb153, 0, none⟩ = some (.int .i64 ((rd_impl_Peg l0 x14_1).f0)) ∧ w'.cell? ⟨gb153, 1, none⟩ = some (.int .i64 ((rd_impl_Peg l0 x14_1).f1)) ∧ w'.cell? (ad152.add (((ji9)).toNat * 2)) = some (.int .i64 ((rd_impl_Peg l0 (ji9)).f0)) ∧ w'.cell? ⟨(ad152.add (((ji9)).toNat * 2)).block, (ad152.add (((ji9)).toNat * 2)).off + 1, none⟩ = some (.int .i64 ((rd_impl_Peg l0 (ji9)).f1)) ∧ w'.cell? (ad152.add (((ji12)).toNat * 2)) = some (.int .i64 ((rd_impl_Peg l0 (ji12)).f0)) ∧ w'.cell? ⟨(ad152.add (((ji12)).toNat * 2)).block, (ad152.add (((ji12)).toNat * 2)).off + 1, none⟩ = some (.int .i64 ((rd_impl_Peg l0 (ji12)).f1))) (ds := []) #[false, false, false, false, false, false, false, false, false, false, false, false, false, false, false, false, false, false, false] kR rfl rfl ⟨(kC BK153.out 0).trans rfl, (kC BK153.out 1).trans rfl, ((HB.out.cell (wB w _ hw154_0)).trans hw154_0), ((HB.out.cell (wB w _ hw154_1)).trans hw154_1), ((HB.out.cell (wB w _ hw155_0)).trans hw155_0), ((HB.out.cell (wB w _ hw155_1)).trans hw155_1)⟩ (fun hHeld => ?_); refine with_tabW spec_pgConvex.tab6 spec_pgConvex.bits6 (fun HT_ HW_ => ?_)
            generalize w20.drew = w21 at BK153 HB hx154_0 hx154_1 hx155_0 hx155_1 hHeld ⊢
            refine pure_ (i := 1) (N := some 20) (v := ?_) (a' := ?_) #[false, true, false, false, false, false, false, false, false, false, false, false, false, false, false, false, false, false, false] rfl rfl (any_of HT_.out kR) (fun _ _ _ h => h) (Or.inl ⟨by rfl, ?_⟩) ?_ ?_
            rotate_left
            ·intro w'
             go_simp
             with_reducible rfl
            rotate_left
            ·simp only [Act.put, sI, sZ, sS, i64_w, i32_w]
             rfl
            refine pure_ (i := 2) (N := some 21) (v := ?_) (a' := ?_) #[false, true, true, false, false, false, false, false, false, false, false, false, false, false, false, false, false, false, false] rfl rfl (any_of HT_.out kR) (fun _ _ _ h => h) (Or.inl ⟨by rfl, ?_⟩) ?_ ?_
            rotate_left
            ·intro w'
             go_simp
             with_reducible rfl
            rotate_left
            ·simp only [Act.put, sI, sZ, sS, i64_w, i32_w]
             rfl
            refine pure_ (i := 3) (N := some 22) (v := ?_) (a' := ?_) #[false, true, true, true, false, false, false, false, false, false, false, false, false, false, false, false, false, false, false] rfl rfl (any_of HT_.out kR) (fun _ _ _ h => h) (Or.inl ⟨by rfl, ?_⟩) ?_ ?_
            rotate_left
            ·intro w'
             go_simp
             with_reducible rfl
            rotate_left
            ·simp only [Act.put, sI, sZ, sS, i64_w, i32_w]
             rfl
            refine pure_ (i := 4) (N := some 23) (v := ?_) (a' := ?_) #[false, true, true, true, true, false, false, false, false, false, false, false, false, false, false, false, false, false, false] rfl rfl (any_of HT_.out kR) (fun _ _ _ h => h) (Or.inl ⟨by rfl, ?_⟩) ?_ ?_
            rotate_left
            ·intro w'
             go_simp
             with_reducible rfl
            rotate_left
            ·simp only [Act.put, sI, sZ, sS, i64_w, i32_w]
             rfl
            refine pure_ (i := 5) (N := some 24) (v := ?_) (a' := ?_) #[false, true, true, true, true, true, false, false, false, false, false, false, false, false, false, false, false, false, false] rfl rfl (any_of HT_.out kR) (fun _ _ _ h => h) (Or.inl ⟨by rfl, ?_⟩) ?_ ?_
            rotate_left
            ·intro w'
             go_simp
             with_reducible rfl
            rotate_left
            ·simp only [Act.put, sI, sZ, sS, i64_w, i32_w]
             rfl
            refine pure_ (i := 6) (N := some 25) (v := ?_) (a' := ?_) #[false, true, true, true, true, true, true, false, false, false, false, false, false, false, false, false, false, false, false] rfl rfl (any_of HT_.out kR) (fun _ _ _ h => h) (Or.inl ⟨by rfl, ?_⟩) ?_ ?_
            rotate_left
            ·intro w'
             go_simp
             with_reducible rfl
            rotate_left
            ·simp only [Act.put, sI, sZ, sS, i64_w, i32_w]
             rfl
            refine pure_ (i := 8) (N := some 27) (v := ?_) (a' := ?_) #[false, true, true, true, true, true, true, false, true, false, false, false, false, false, false, false, false, false, false] rfl rfl (any_of HT_.out kR) (fun _ _ _ h => h) (Or.inl ⟨by rfl, ?_⟩) ?_ ?_
            rotate_left
            ·intro w'
             go_simp
             with_reducible rfl
            rotate_left
            ·simp only [Act.put, sI, sZ, sS, i64_w, i32_w]
             rfl
            refine pure_ (i := 9) (N := some 28) (v := ?_) (a' := ?_) #[false, true, true, true, true, true, true, false, true, true, false, false, false, false, false, false, false, false, false] rfl rfl (any_of HT_.out kR) (fun _ _ _ h => h) (Or.inl ⟨by rfl, ?_⟩) ?_ ?_
            rotate_left
            ·intro w'
             go_simp
             with_reducible rfl
            rotate_left
            ·simp only [Act.put, sI, sZ, sS, i64_w, i32_w]
             rfl
            refine pure_ (i := 10) (N := some 29) (v := ?_) (a' := ?_) #[false, true, true, true, true, true, true, false, true, true, true, false, false, false, false, false, false, false, false] rfl rfl (any_of HT_.out kR) (fun _ _ _ h => h) (Or.inl ⟨by rfl, ?_⟩) ?_ ?_
            rotate_left
            ·intro w'
             go_simp
             with_reducible rfl
            rotate_left
            ·simp only [Act.put, sI, sZ, sS, i64_w, i32_w]
             rfl
            refine pure_ (i := 11) (N := some 30) (v := ?_) (a' := ?_) #[false, true, true, true, true, true, true, false, true, true, true, true, false, false, false, false, false, false, false] rfl rfl (any_of HT_.out kR) (fun _ _ _ h => h) (Or.inl ⟨by rfl, ?_⟩) ?_ ?_
            rotate_left
            ·intro w'
             go_simp
             with_reducible rfl
            rotate_left
            ·simp only [Act.put, sI, sZ, sS, i64_w, i32_w]
             rfl
            refine pure_ (i := 12) (N := some 31) (v := ?_) (a' := ?_) #[false, true, true, true, true, true, true, false, true, true, true, true, true, false, false, false, false, false, false] rfl rfl (any_of HT_.out kR) (fun _ _ _ h => h) (Or.inl ⟨by rfl, ?_⟩) ?_ ?_
            rotate_left
            ·intro w'
             go_simp
             with_reducible rfl
            rotate_left
            ·simp only [Act.put, sI, sZ, sS, i64_w, i32_w]
             rfl
            refine pure_ (i := 13) (N := some 32) (v := ?_) (a' := ?_) #[false, true, true, true, true, true, true, false, true, true, true, true, true, true, false, false, false, false, false] rfl rfl (any_of HT_.out kR) (fun _ _ _ h => h) (Or.inl ⟨by rfl, ?_⟩) ?_ ?_
            rotate_left
            ·intro w'
             go_simp
             with_reducible rfl
            rotate_left
            ·simp only [Act.put, sI, sZ, sS, i64_w, i32_w]
             rfl
            refine pure_ (i := 17) (N := some 36) (v := ?_) (a' := ?_) #[false, true, true, true, true, true, true, false, true, true, true, true, true, true, false, false, false, true, false] rfl rfl (any_of HT_.out kR) (fun _ _ _ h => h) (Or.inl ⟨by rfl, ?_⟩) ?_ ?_
            rotate_left
            ·intro w'
             go_simp
             with_reducible rfl
            rotate_left
            ·simp only [Act.put, sI, sZ, sS, i64_w, i32_w]
             rfl
            refine take_ (i := 0) (N := some 19) (v := ?_) (a' := ?_) #[true, true, true, true, true, true, true, false, true, true, true, true, true, true, false, false, false, true, false] rfl rfl (take_ofW HT_.out HW_.out kR) (fun _ _ _ h => h) (Or.inl ⟨by rfl, ?_⟩) hHeld ?_ ?_
            rotate_left
            ·rintro w' ⟨s0, s1, s2, s3, s4, s5⟩
             go_simp
             with_reducible rfl
            rotate_left
            ·simp only [Act.put, sI, sZ, sS, i64_w, i32_w]
             rfl
            refine take_ (i := 7) (N := some 26) (v := ?_) (a' := ?_) #[true, true, true, true, true, true, true, true, true, true, true, true, true, true, false, false, false, true, false] rfl rfl (take_ofW HT_.out HW_.out kR) (fun _ _ _ h => h) (Or.inl ⟨by rfl, ?_⟩) hHeld ?_ ?_
            rotate_left
            ·rintro w' ⟨s0, s1, s2, s3, s4, s5⟩
             go_simp
             with_reducible rfl
            rotate_left
            ·simp only [Act.put, sI, sZ, sS, i64_w, i32_w]
             rfl
            refine take_ (i := 14) (N := some 33) (v := ?_) (a' := ?_) #[true, true, true, true, true, true, true, true, true, true, true, true, true, true, true, false, false, true, false] rfl rfl (take_ofW HT_.out HW_.out kR) (fun _ _ _ h => h) (Or.inl ⟨by rfl, ?_⟩) hHeld ?_ ?_
            rotate_left
            ·rintro w' ⟨s0, s1, s2, s3, s4, s5⟩
             go_simp
             with_reducible rfl
            rotate_left
            ·simp only [Act.put, sI, sZ, sS, i64_w, i32_w]
             rfl
            refine one_ (i := 15) (N := some 34) #[true, true, true, true, true, true, true, true, true, true, true, true, true, true, true, true, false, true, false] rfl rfl (one_of HT_.out kR) (by decide) (fun K hK => ?_)
            refine goes_ Try.func134 kR rfl #[.agg #[.int .i64 ((rd_impl_Peg l0 x14_1).f0), .int .i64 ((rd_impl_Peg l0 x14_1).f1)], .agg #[.int .i64 ((rd_impl_Peg l0 (ji9)).f0), .int .i64 ((rd_impl_Peg l0 (ji9)).f1)], .agg #[.int .i64 ((rd_impl_Peg l0 (ji12)).f0), .int .i64 ((rd_impl_Peg l0 (ji12)).f1)]] (by rfl) rfl rfl (by (try simp only [mA, mC, mN]); first | done | (simp only [hji12, hji9]; rfl) | rfl | (simp only [lD, lT]; rfl)) ?_
            with_reducible refine (spec_pgTurn.calls ((rd_impl_Peg l0 x14_1).f0) ((rd_impl_Peg l0 x14_1).f1) ((rd_impl_Peg l0 (ji9)).f0) ((rd_impl_Peg l0 (ji9)).f1) ((rd_impl_Peg l0 (ji12)).f0) ((rd_impl_Peg l0 (ji12)).f1) t156 _ A15.out).mono ?_
            rintro e w22 ⟨rfl, hb⟩
            refine ⟨_, rfl, ?_⟩
            have n0_ := aM (blk_below (g := gb153) (o := .cells #[.int .i64 ((rd_impl_Peg l0 x14_1).f0), .int .i64 ((rd_impl_Peg l0 x14_1).f1)] 34 (0, 0)) (gQ BK153) hb)
            have n1_ := aM (pT (by repeat (first | (with_reducible first | exact HB.out | apply pA | apply pN | apply pD | refine pS ?_ GE153.out) | exact HB.out)) hb)
            clear BK153
            clear HB
            have BK153 := n0_
            have HB := n1_
            clear n0_ n1_
            (try clear hb)
            (try clear hb2)
            (try clear hk)
            (try clear hi)
            refine hK.out _ _ ⟨(kC BK153.out 0).trans rfl, (kC BK153.out 1).trans rfl, ((HB.out.cell (wB w _ hw154_0)).trans hw154_0), ((HB.out.cell (wB w _ hw154_1)).trans hw154_1), ((HB.out.cell (wB w _ hw155_0)).trans hw155_0), ((HB.out.cell (wB w _ hw155_1)).trans hw155_1)⟩ (fun hHeld => ?_)
            clear hK K
            refine norm_ (a' := ?_) ?_ ?_
            rotate_left
            ·show Act.put _ (some 34) _ = _
             simp only [Act.put, sI, sZ, sS, i64_w, i32_w]
             rfl
            refine one_ (i := 16) (N := some 35) #[true, true, true, true, true, true, true, true, true, true, true, true, true, true, true, true, true, true, false] rfl rfl (one_of HT_.out kR) (by decide) (fun K hK => ?_)
            refine goes_ Try.func118 kR rfl #[.int .i64 t156] (by rfl) rfl rfl sQ ?_
            with_reducible refine (spec_l1Sign.calls t156 t157 _ A16.out).mono ?_
            rintro e w' ⟨rfl, ⟨nd, rfl⟩⟩
            refine ⟨_, rfl, ?_⟩
            refine hK.out _ _ ⟨(kC BK153.out 0).trans rfl, (kC BK153.out 1).trans rfl, ((HB.out.cell (wB w _ hw154_0)).trans hw154_0), ((HB.out.cell (wB w _ hw154_1)).trans hw154_1), ((HB.out.cell (wB w _ hw155_0)).trans hw155_0), ((HB.out.cell (wB w _ hw155_1)).trans hw155_1)⟩ (fun hHeld => ?_)
            clear hK K
            refine norm_ (a' := ?_) ?_ ?_
            rotate_left
            ·show Act.put _ (some 35) _ = _
             simp only [Act.put, sI, sZ, sS, i64_w, i32_w]
             rfl
            refine pure_ (i := 18) (N := some 37) (v := ?_) (a' := ?_) #[true, true, true, true, true, true, true, true, true, true, true, true, true, true, true, true, true, true, true] rfl rfl (any_of HT_.out kR) (fun _ _ _ h => h) (Or.inl ⟨by rfl, ?_⟩) ?_ ?_
            rotate_left
            ·intro w'
             go_simp
             with_reducible rfl
            rotate_left
            ·simp only [Act.put, sI, sZ, sS, i64_w, i32_w]
             rfl
            refine done_ (done_of HT_.out kR) ?_
            try go_wp2
            go_roundg k1
            case measure => have := HK1.out; omega
            case rel => exact ⟨(wrap64 (x14_1 + 1)), eQ, H', ⟨by have := HK1.out; omega⟩, ⟨by repeat (first | (with_reducible first | exact HB.out | apply pA | apply pN | apply pD | refine pS ?_ GE153.out) | exact HB.out)⟩⟩
           ·rw [if_neg c17] at H
            have c17b0 : (t157 == t151) = false := beq_eq_false_iff_ne.mpr c17
            have c17b1 : (t157 != t151) = true := bne_iff_ne.mpr c17
            obtain rfl := Option.some.inj H
            have p152 : 0 ≤ (x14_1 : Int) := dT aQ
            have q152 : x14_1 < (l0.length : Int) := dT aQ
            obtain ⟨ad152, e152, hx152_0, hx152_1⟩ := at_impl_Peg HR0.out x14_1 p152 q152
            cases e152
            replace hx152_0 := (HB.out.cell (wB w _ hx152_0)).trans hx152_0
            replace hx152_1 := (HB.out.cell (wB w _ hx152_1)).trans hx152_1
            replace p152 := eq_true p152
            replace q152 := eq_true q152
            try go_wp2_with (first | ((with_reducible refine gate_dst (N := 6) rfl ?_); refine box_event ?hg (N := 6) ?hd (cs := #[.int .i64 0, .int .i64 0]) (t := 34) ?hr ?_; (case hd => rfl); (case hg => rfl); (case hr => first | (go_simp; done) | (go_simp; rfl)); intro gb153 hg w23 hbox hb; have n0_ := aM (pT bQ hb); have n1_ := aM (hbox); have n2_ := aM ((by rw [hg]; exact (pZ bQ) : w.heap.size ≤ gb153)); have n3_ := aM ((by rw [hg]; exact (pZ bQ) : w.heap.size ≤ gb153)); clear HB; have HB := n0_; have BK153 := n1_; have GW153 := n2_; have GE153 := n3_; clear n0_ n1_ n2_ n3_; clear hb hbox hg; have hcz24_0 : w23.cell? ⟨gb153, 0, none⟩ = some (.int .i64 0) := (kC BK153.out 0).trans rfl; have hcz24_1 : w23.cell? ⟨gb153, 1, none⟩ = some (.int .i64 0) := (kC BK153.out 1).trans rfl; have hfz24_0 := kF BK153.out 0; have hfz24_1 := kF BK153.out 1))
            have n0_ : Aside0 (((w23.setCell ⟨gb153, 0, none⟩ (.int .i64 ((rd_impl_Peg l0 x14_1).f0))).setCell ⟨gb153, 1, none⟩ (.int .i64 ((rd_impl_Peg l0 x14_1).f1))).heap[gb153]? = some (.cells #[.int .i64 ((rd_impl_Peg l0 x14_1).f0), .int .i64 ((rd_impl_Peg l0 x14_1).f1)] 34 (0, 0))) := ⟨by (with_reducible repeat (first | refine kN ?_ _ | refine kD ?_ | refine kA ?_ _)); refine blk_put (cs := #[.int .i64 ((rd_impl_Peg l0 x14_1).f0), .int .i64 0]) ?_ 1 _ rfl; (with_reducible repeat (first | refine kN ?_ _ | refine kD ?_ | refine kA ?_ _)); refine blk_put (cs := #[.int .i64 0, .int .i64 0]) ?_ 0 _ rfl; (with_reducible repeat (first | refine kN ?_ _ | refine kD ?_ | refine kA ?_ _)); exact BK153.out⟩
            have n1_ : Aside0 (Below w.heap.size w ((w23.setCell ⟨gb153, 0, none⟩ (.int .i64 ((rd_impl_Peg l0 x14_1).f0))).setCell ⟨gb153, 1, none⟩ (.int .i64 ((rd_impl_Peg l0 x14_1).f1)))) := ⟨by repeat (first | (with_reducible first | exact HB.out | apply pA | apply pN | apply pD | refine pS ?_ GE153.out) | exact HB.out)⟩
            (try clear BK153)
            (try clear HB)
            generalize ((w23.setCell ⟨gb153, 0, none⟩ (.int .i64 ((rd_impl_Peg l0 x14_1).f0))).setCell ⟨gb153, 1, none⟩ (.int .i64 ((rd_impl_Peg l0 x14_1).f1))) = w25 at n0_ n1_ ⊢
            have BK153 := n0_
            have HB := n1_
            clear n0_ n1_
            have n0_ := aM (kD BK153.out)
            have n1_ := aM (pD HB.out)
            clear BK153
            clear HB
            have BK153 := n0_
            have HB := n1_
            clear n0_ n1_
            have p154 : 0 ≤ ((ji9) : Int) := dT aQ
            have q154 : (ji9) < (l0.length : Int) := dT aQ
            obtain ⟨ad154, e154, hx154_0, hx154_1⟩ := at_impl_Peg HR0.out (ji9) p154 q154
            have hw154_1 := hx154_1
            have hw154_0 := hx154_0
            obtain rfl : ad152 = ad154 := (by injection e154)
            replace hx154_0 := (HB.out.cell (wB w _ hx154_0)).trans hx154_0
            replace hx154_1 := (HB.out.cell (wB w _ hx154_1)).trans hx154_1
            replace p154 := eq_true p154
            replace q154 := eq_true q154
            have p155 : 0 ≤ ((ji12) : Int) := dT aQ
            have q155 : (ji12) < (l0.length : Int) := dT aQ
            obtain ⟨ad155, e155, hx155_0, hx155_1⟩ := at_impl_Peg HR0.out (ji12) p155 q155
            have hw155_1 := hx155_1
            have hw155_0 := hx155_0
            obtain rfl : ad152 = ad155 := (by injection e155)
            replace hx155_0 := (HB.out.cell (wB w _ hx155_0)).trans hx155_0
            replace hx155_1 := (HB.out.cell (wB w _ hx155_1)).trans hx155_1
            replace p155 := eq_true p155
            replace q155 := eq_true q155
            refine start_ (n := 19) (S := fun w' => w'.cell? ⟨gb153, 0, none⟩ = some (.int .i64 ((rd_impl_Peg l0 x14_1).f0)) ∧ w'.cell? ⟨gb153, 1, none⟩ = some (.int .i64 ((rd_impl_Peg l0 x14_1).f1)) ∧ w'.cell? (ad152.add (((ji9)).toNat * 2)) = some (.int .i64 ((rd_impl_Peg l0 (ji9)).f0)) ∧ w'.cell? ⟨(ad152.add (((ji9)).toNat * 2)).block, (ad152.add (((ji9)).toNat * 2)).off + 1, none⟩ = some (.int .i64 ((rd_impl_Peg l0 (ji9)).f1)) ∧ w'.cell? (ad152.add (((ji12)).toNat * 2)) = some (.int .i64 ((rd_impl_Peg l0 (ji12)).f0)) ∧ w'.cell? ⟨(ad152.add (((ji12)).toNat * 2)).block, (ad152.add (((ji12)).toNat * 2)).off + 1, none⟩ = some (.int .i64 ((rd_impl_Peg l0 (ji12)).f1))) (ds := []) #[false, false, false, false, false, false, false, false, false, false, false, false, false, false, false, false, false, false, false] kR rfl rfl ⟨(kC BK153.out 0).trans rfl, (kC BK153.out 1).trans rfl, ((HB.out.cell (wB w _ hw154_0)).trans hw154_0), ((HB.out.cell (wB w _ hw154_1)).trans hw154_1), ((HB.out.cell (wB w _ hw155_0)).trans hw155_0), ((HB.out.cell (wB w _ hw155_1)).trans hw155_1)⟩ (fun hHeld => ?_); refine with_tabW spec_pgConvex.tab6 spec_pgConvex.bits6 (fun HT_ HW_ => ?_)
            generalize w25.drew = w26 at BK153 HB hx154_0 hx154_1 hx155_0 hx155_1 hHeld ⊢
            refine pure_ (i := 1) (N := some 20) (v := ?_) (a' := ?_) #[false, true, false, false, false, false, false, false, false, false, false, false, false, false, false, false, false, false, false] rfl rfl (any_of HT_.out kR) (fun _ _ _ h => h) (Or.inl ⟨by rfl, ?_⟩) ?_ ?_
            rotate_left
            ·intro w'
             go_simp
             with_reducible rfl
            rotate_left
            ·simp only [Act.put, sI, sZ, sS, i64_w, i32_w]
             rfl
            refine pure_ (i := 2) (N := some 21) (v := ?_) (a' := ?_) #[false, true, true, false, false, false, false, false, false, false, false, false, false, false, false, false, false, false, false] rfl rfl (any_of HT_.out kR) (fun _ _ _ h => h) (Or.inl ⟨by rfl, ?_⟩) ?_ ?_
            rotate_left
            ·intro w'
             go_simp
             with_reducible rfl
            rotate_left
            ·simp only [Act.put, sI, sZ, sS, i64_w, i32_w]
             rfl
            refine pure_ (i := 3) (N := some 22) (v := ?_) (a' := ?_) #[false, true, true, true, false, false, false, false, false, false, false, false, false, false, false, false, false, false, false] rfl rfl (any_of HT_.out kR) (fun _ _ _ h => h) (Or.inl ⟨by rfl, ?_⟩) ?_ ?_
            rotate_left
            ·intro w'
             go_simp
             with_reducible rfl
            rotate_left
            ·simp only [Act.put, sI, sZ, sS, i64_w, i32_w]
             rfl
            refine pure_ (i := 4) (N := some 23) (v := ?_) (a' := ?_) #[false, true, true, true, true, false, false, false, false, false, false, false, false, false, false, false, false, false, false] rfl rfl (any_of HT_.out kR) (fun _ _ _ h => h) (Or.inl ⟨by rfl, ?_⟩) ?_ ?_
            rotate_left
            ·intro w'
             go_simp
             with_reducible rfl
            rotate_left
            ·simp only [Act.put, sI, sZ, sS, i64_w, i32_w]
             rfl
            refine pure_ (i := 5) (N := some 24) (v := ?_) (a' := ?_) #[false, true, true, true, true, true, false, false, false, false, false, false, false, false, false, false, false, false, false] rfl rfl (any_of HT_.out kR) (fun _ _ _ h => h) (Or.inl ⟨by rfl, ?_⟩) ?_ ?_
            rotate_left
            ·intro w'
             go_simp
             with_reducible rfl
            rotate_left
            ·simp only [Act.put, sI, sZ, sS, i64_w, i32_w]
             rfl
            refine pure_ (i := 6) (N := some 25) (v := ?_) (a' := ?_) #[false, true, true, true, true, true, true, false, false, false, false, false, false, false, false, false, false, false, false] rfl rfl (any_of HT_.out kR) (fun _ _ _ h => h) (Or.inl ⟨by rfl, ?_⟩) ?_ ?_
            rotate_left
            ·intro w'
             go_simp
             with_reducible rfl
            rotate_left
            ·simp only [Act.put, sI, sZ, sS, i64_w, i32_w]
             rfl
            refine pure_ (i := 8) (N := some 27) (v := ?_) (a' := ?_) #[false, true, true, true, true, true, true, false, true, false, false, false, false, false, false, false, false, false, false] rfl rfl (any_of HT_.out kR) (fun _ _ _ h => h) (Or.inl ⟨by rfl, ?_⟩) ?_ ?_
            rotate_left
            ·intro w'
             go_simp
             with_reducible rfl
            rotate_left
            ·simp only [Act.put, sI, sZ, sS, i64_w, i32_w]
             rfl
            refine pure_ (i := 9) (N := some 28) (v := ?_) (a' := ?_) #[false, true, true, true, true, true, true, false, true, true, false, false, false, false, false, false, false, false, false] rfl rfl (any_of HT_.out kR) (fun _ _ _ h => h) (Or.inl ⟨by rfl, ?_⟩) ?_ ?_
            rotate_left
            ·intro w'
             go_simp
             with_reducible rfl
            rotate_left
            ·simp only [Act.put, sI, sZ, sS, i64_w, i32_w]
             rfl
            refine pure_ (i := 10) (N := some 29) (v := ?_) (a' := ?_) #[false, true, true, true, true, true, true, false, true, true, true, false, false, false, false, false, false, false, false] rfl rfl (any_of HT_.out kR) (fun _ _ _ h => h) (Or.inl ⟨by rfl, ?_⟩) ?_ ?_
            rotate_left
            ·intro w'
             go_simp
             with_reducible rfl
            rotate_left
            ·simp only [Act.put, sI, sZ, sS, i64_w, i32_w]
             rfl
            refine pure_ (i := 11) (N := some 30) (v := ?_) (a' := ?_) #[false, true, true, true, true, true, true, false, true, true, true, true, false, false, false, false, false, false, false] rfl rfl (any_of HT_.out kR) (fun _ _ _ h => h) (Or.inl ⟨by rfl, ?_⟩) ?_ ?_
            rotate_left
            ·intro w'
             go_simp
             with_reducible rfl
            rotate_left
            ·simp only [Act.put, sI, sZ, sS, i64_w, i32_w]
             rfl
            refine pure_ (i := 12) (N := some 31) (v := ?_) (a' := ?_) #[false, true, true, true, true, true, true, false, true, true, true, true, true, false, false, false, false, false, false] rfl rfl (any_of HT_.out kR) (fun _ _ _ h => h) (Or.inl ⟨by rfl, ?_⟩) ?_ ?_
            rotate_left
            ·intro w'
             go_simp
             with_reducible rfl
            rotate_left
            ·simp only [Act.put, sI, sZ, sS, i64_w, i32_w]
             rfl
            refine pure_ (i := 13) (N := some 32) (v := ?_) (a' := ?_) #[false, true, true, true, true, true, true, false, true, true, true, true, true, true, false, false, false, false, false] rfl rfl (any_of HT_.out kR) (fun _ _ _ h => h) (Or.inl ⟨by rfl, ?_⟩) ?_ ?_
            rotate_left
            ·intro w'
             go_simp
             with_reducible rfl
            rotate_left
            ·simp only [Act.put, sI, sZ, sS, i64_w, i32_w]
             rfl
            refine pure_ (i := 17) (N := some 36) (v := ?_) (a' := ?_) #[false, true, true, true, true, true, true, false, true, true, true, true, true, true, false, false, false, true, false] rfl rfl (any_of HT_.out kR) (fun _ _ _ h => h) (Or.inl ⟨by rfl, ?_⟩) ?_ ?_
            rotate_left
            ·intro w'
             go_simp
             with_reducible rfl
            rotate_left
            ·simp only [Act.put, sI, sZ, sS, i64_w, i32_w]
             rfl
            refine take_ (i := 0) (N := some 19) (v := ?_) (a' := ?_) #[true, true, true, true, true, true, true, false, true, true, true, true, true, true, false, false, false, true, false] rfl rfl (take_ofW HT_.out HW_.out kR) (fun _ _ _ h => h) (Or.inl ⟨by rfl, ?_⟩) hHeld ?_ ?_
            rotate_left
            ·rintro w' ⟨s0, s1, s2, s3, s4, s5⟩
             go_simp
             with_reducible rfl
            rotate_left
            ·simp only [Act.put, sI, sZ, sS, i64_w, i32_w]
             rfl
            refine take_ (i := 7) (N := some 26) (v := ?_) (a' := ?_) #[true, true, true, true, true, true, true, true, true, true, true, true, true, true, false, false, false, true, false] rfl rfl (take_ofW HT_.out HW_.out kR) (fun _ _ _ h => h) (Or.inl ⟨by rfl, ?_⟩) hHeld ?_ ?_
            rotate_left
            ·rintro w' ⟨s0, s1, s2, s3, s4, s5⟩
             go_simp
             with_reducible rfl
            rotate_left
            ·simp only [Act.put, sI, sZ, sS, i64_w, i32_w]
             rfl
            refine take_ (i := 14) (N := some 33) (v := ?_) (a' := ?_) #[true, true, true, true, true, true, true, true, true, true, true, true, true, true, true, false, false, true, false] rfl rfl (take_ofW HT_.out HW_.out kR) (fun _ _ _ h => h) (Or.inl ⟨by rfl, ?_⟩) hHeld ?_ ?_
            rotate_left
            ·rintro w' ⟨s0, s1, s2, s3, s4, s5⟩
             go_simp
             with_reducible rfl
            rotate_left
            ·simp only [Act.put, sI, sZ, sS, i64_w, i32_w]
             rfl
            refine one_ (i := 15) (N := some 34) #[true, true, true, true, true, true, true, true, true, true, true, true, true, true, true, true, false, true, false] rfl rfl (one_of HT_.out kR) (by decide) (fun K hK => ?_)
            refine goes_ Try.func134 kR rfl #[.agg #[.int .i64 ((rd_impl_Peg l0 x14_1).f0), .int .i64 ((rd_impl_Peg l0 x14_1).f1)], .agg #[.int .i64 ((rd_impl_Peg l0 (ji9)).f0), .int .i64 ((rd_impl_Peg l0 (ji9)).f1)], .agg #[.int .i64 ((rd_impl_Peg l0 (ji12)).f0), .int .i64 ((rd_impl_Peg l0 (ji12)).f1)]] (by rfl) rfl rfl (by (try simp only [mA, mC, mN]); first | done | (simp only [hji12, hji9]; rfl) | rfl | (simp only [lD, lT]; rfl)) ?_
            with_reducible refine (spec_pgTurn.calls ((rd_impl_Peg l0 x14_1).f0) ((rd_impl_Peg l0 x14_1).f1) ((rd_impl_Peg l0 (ji9)).f0) ((rd_impl_Peg l0 (ji9)).f1) ((rd_impl_Peg l0 (ji12)).f0) ((rd_impl_Peg l0 (ji12)).f1) t156 _ A15.out).mono ?_
            rintro e w27 ⟨rfl, hb⟩
            refine ⟨_, rfl, ?_⟩
            have n0_ := aM (blk_below (g := gb153) (o := .cells #[.int .i64 ((rd_impl_Peg l0 x14_1).f0), .int .i64 ((rd_impl_Peg l0 x14_1).f1)] 34 (0, 0)) (gQ BK153) hb)
            have n1_ := aM (pT (by repeat (first | (with_reducible first | exact HB.out | apply pA | apply pN | apply pD | refine pS ?_ GE153.out) | exact HB.out)) hb)
            clear BK153
            clear HB
            have BK153 := n0_
            have HB := n1_
            clear n0_ n1_
            (try clear hb)
            (try clear hb2)
            (try clear hk)
            (try clear hi)
            refine hK.out _ _ ⟨(kC BK153.out 0).trans rfl, (kC BK153.out 1).trans rfl, ((HB.out.cell (wB w _ hw154_0)).trans hw154_0), ((HB.out.cell (wB w _ hw154_1)).trans hw154_1), ((HB.out.cell (wB w _ hw155_0)).trans hw155_0), ((HB.out.cell (wB w _ hw155_1)).trans hw155_1)⟩ (fun hHeld => ?_)
            clear hK K
            refine norm_ (a' := ?_) ?_ ?_
            rotate_left
            ·show Act.put _ (some 34) _ = _
             simp only [Act.put, sI, sZ, sS, i64_w, i32_w]
             rfl
            refine one_ (i := 16) (N := some 35) #[true, true, true, true, true, true, true, true, true, true, true, true, true, true, true, true, true, true, false] rfl rfl (one_of HT_.out kR) (by decide) (fun K hK => ?_)
            refine goes_ Try.func118 kR rfl #[.int .i64 t156] (by rfl) rfl rfl sQ ?_
            with_reducible refine (spec_l1Sign.calls t156 t157 _ A16.out).mono ?_
            rintro e w' ⟨rfl, ⟨nd, rfl⟩⟩
            refine ⟨_, rfl, ?_⟩
            refine hK.out _ _ ⟨(kC BK153.out 0).trans rfl, (kC BK153.out 1).trans rfl, ((HB.out.cell (wB w _ hw154_0)).trans hw154_0), ((HB.out.cell (wB w _ hw154_1)).trans hw154_1), ((HB.out.cell (wB w _ hw155_0)).trans hw155_0), ((HB.out.cell (wB w _ hw155_1)).trans hw155_1)⟩ (fun hHeld => ?_)
            clear hK K
            refine norm_ (a' := ?_) ?_ ?_
            rotate_left
            ·show Act.put _ (some 35) _ = _
             simp only [Act.put, sI, sZ, sS, i64_w, i32_w]
             rfl
            refine pure_ (i := 18) (N := some 37) (v := ?_) (a' := ?_) #[true, true, true, true, true, true, true, true, true, true, true, true, true, true, true, true, true, true, true] rfl rfl (any_of HT_.out kR) (fun _ _ _ h => h) (Or.inl ⟨by rfl, ?_⟩) ?_ ?_
            rotate_left
            ·intro w'
             go_simp
             with_reducible rfl
            rotate_left
            ·simp only [Act.put, sI, sZ, sS, i64_w, i32_w]
             rfl
            refine done_ (done_of HT_.out kR) ?_
            try go_wp2
            go_ret
            exact ⟨by first | rfl | (simp [errW_none, errW_some] <;> rfl) | (simp only [← hji9, ← hji12]; first | rfl | (simp [errW_none, errW_some] <;> rfl)) | (simp [*, errW_none, errW_some] <;> rfl), by repeat (first | (with_reducible first | exact HB.out | apply pA | apply pN | apply pD | refine pS ?_ GE153.out) | exact HB.out)⟩
          ·rw [if_neg c14] at H
           exact absurd H (by simp)
         ·rw [if_neg c13] at H
          exact absurd H (by simp)
        ·rw [if_neg c11] at H
         exact absurd H (by simp)
       ·rw [if_neg c10] at H
        exact absurd H (by simp)
     ·rw [if_neg c7] at H
      exact absurd H (by simp)
    ·rw [if_neg c6] at H
     exact absurd H (by simp)
   ·rw [if_neg c5] at H
    have c5b0 : decide (x14_1 < (l0.length : Int)) = false := decide_eq_false c5
    clear c5
    obtain rfl := Option.some.inj H
    go_wp2
    go_ret
    exact ⟨by first | rfl | (simp [errW_none, errW_some] <;> rfl) | (simp [*, errW_none, errW_some] <;> rfl), bQ⟩

def spec_IsConvex.f (k : Nat) (l0 : List (S_impl_Peg)) : Option (Bool × Bool) := (spec_pgGood.f k l0).bind fun t158 => (if t158 = true then ((spec_pgConvex.f k l0).bind fun t159 => (some (t159, true))) else (some (false, false)))
theorem spec_IsConvex.mono : ∀ a0 k, LeO (spec_IsConvex.f k a0) (spec_IsConvex.f (k + 1) a0) := by
 intro a0 k
 unfold spec_IsConvex.f
 repeat' first
   | (with_reducible exact spec_pgConvex.mono _ _)
   | (with_reducible exact spec_pgGood.mono _ _)
   | (with_reducible exact LeO.refl _)
   | (with_reducible exact LeO.none _)
   | (with_reducible refine LeO.ite ?_ ?_)
   | (with_reducible refine LeO.bind ?_ (fun _ => ?_))
   | exact spec_pgConvex.mono _ _
   | exact spec_pgGood.mono _ _
   | exact LeO.none _
   | refine LeO.ite ?_ ?_
   | refine LeO.bind ?_ (fun _ => ?_)
set_option maxHeartbeats 8000000 in
set_option maxRecDepth 100000 in
theorem spec_IsConvex.calls (k : Nat) (A0 : Option Addr) (c0 : Nat) (l0 : List (S_impl_Peg)) (r1 : Bool) (r2 : Bool) (w : World) (hr0 : Kd.C kd_impl_Peg w A0 l0.length l0) (hc0 : l0.length ≤ c0) (h : spec_IsConvex.f k l0 = some (r1, r2)) :
  Calls Try.prog 26 #[.slice A0 l0.length c0] w fun e w' => e = .returned (.tuple #[.bool r1, .bool r2]) ∧ Below w.heap.size w w' := by
 have HR0 := aM hr0
 have HC0 := aM hc0
 clear hr0 hc0
 have HB := aM (Below.refl w.heap.size w)
 have H : ((spec_pgGood.f k l0).bind fun t158 => (if t158 = true then ((spec_pgConvex.f k l0).bind fun t159 => (some (t159, true))) else (some (false, false)))) = some (r1, r2) := h
 clear h
 replace H := oB.mp H
 obtain ⟨t158, A20, H⟩ := H
 replace H : (if t158 = true then ((spec_pgConvex.f k l0).bind fun t159 => (some (t159, true))) else (some (false, false))) = some (r1, r2) := H
 have A2 := aM A20
 clear A20
 by_cases c3 : t158 = true
 ·subst c3
  have H1 : ((spec_pgConvex.f k l0).bind fun t159 => (some (t159, true))) = some (r1, r2) := by rw [if_pos rfl] at H; exact H
  clear H
  have H := H1
  clear H1
  replace H := oB.mp H
  obtain ⟨t159, A40, H⟩ := H
  replace H : (some (t159, true)) = some (r1, r2) := H
  have A4 := aM A40
  clear A40
  simp only [Option.some.injEq, Prod.mk.injEq] at H
  obtain ⟨rfl, rfl⟩ := H
  go_enter Try.func26, Try.ntmps26
  go_wp2_with (first | ((with_reducible refine gC (f := 83) rfl ?_); refine goesL_ (some 5) rfl rfl Try.func83 kR rfl #[.slice A0 l0.length c0] rfl sQ ?_; (with_reducible refine (spec_pgGood.calls k _ _ l0 true _ ?side1 ?side2 A2.out).mono ?_); (case side1 => repeat (first | exact HR0.out | (with_reducible refine cA ?_ _) | (with_reducible refine cN ?_ _) | (with_reducible refine cD ?_))); (case side2 => exact HC0.out); rintro e w5 ⟨rfl, hb⟩; refine ⟨_, rfl, ?_⟩; have n0_ := aM (pT bQ hb); clear HB; have HB := n0_; clear n0_; (try clear hb); (try clear hb2); (try clear hk); (try clear hi)) | ((with_reducible refine gC (f := 84) rfl ?_); refine goesL_ (some 8) rfl rfl Try.func84 kR rfl #[.slice A0 l0.length c0] rfl sQ ?_; (with_reducible refine (spec_pgConvex.calls k _ _ l0 t159 _ ?side1 ?side2 A4.out).mono ?_); (case side1 => repeat (first | exact (Kd.C_below HR0.out HB.out) | (with_reducible refine cA ?_ _) | (with_reducible refine cN ?_ _) | (with_reducible refine cD ?_))); (case side2 => exact HC0.out); rintro e w6 ⟨rfl, hb⟩; refine ⟨_, rfl, ?_⟩; have n0_ := aM (pT bQ hb); clear HB; have HB := n0_; clear n0_; (try clear hb); (try clear hb2); (try clear hk); (try clear hi)))
  go_ret2
  exact ⟨by first | rfl | (simp [errW_none, errW_some] <;> rfl) | (simp [*, errW_none, errW_some] <;> rfl), bQ⟩
 ·replace c3 := Bool.eq_false_iff.mpr c3
  subst c3
  have H1 : (some (false, false)) = some (r1, r2) := by rw [if_neg (show ¬ (false = true) by decide)] at H; exact H
  clear H
  have H := H1
  clear H1
  simp only [Option.some.injEq, Prod.mk.injEq] at H
  obtain ⟨rfl, rfl⟩ := H
  go_enter Try.func26, Try.ntmps26
  go_wp2_with (first | ((with_reducible refine gC (f := 83) rfl ?_); refine goesL_ (some 5) rfl rfl Try.func83 kR rfl #[.slice A0 l0.length c0] rfl sQ ?_; (with_reducible refine (spec_pgGood.calls k _ _ l0 false _ ?side1 ?side2 A2.out).mono ?_); (case side1 => repeat (first | exact HR0.out | (with_reducible refine cA ?_ _) | (with_reducible refine cN ?_ _) | (with_reducible refine cD ?_))); (case side2 => exact HC0.out); rintro e w7 ⟨rfl, hb⟩; refine ⟨_, rfl, ?_⟩; have n0_ := aM (pT bQ hb); clear HB; have HB := n0_; clear n0_; (try clear hb); (try clear hb2); (try clear hk); (try clear hi)))
  go_ret2
  exact ⟨by first | rfl | (simp [errW_none, errW_some] <;> rfl) | (simp [*, errW_none, errW_some] <;> rfl), bQ⟩

def laws_toPeg.f (a0_0 : Int) (a0_1 : Int) : Option (Int × Int) := some (a0_0, a0_1)
set_option maxHeartbeats 8000000 in
set_option maxRecDepth 100000 in
theorem laws_toPeg.calls (a0_0 : Int) (a0_1 : Int) (r1 : Int) (r2 : Int) (w : World) (h : laws_toPeg.f a0_0 a0_1 = some (r1, r2)) :
  Calls Try.prog 31 #[.agg #[.int .i64 a0_0, .int .i64 a0_1]] w fun e w' => e = .returned (.agg #[.int .i64 r1, .int .i64 r2]) ∧ Below w.heap.size w w' := by
 have hu31 := Try.underlying31
 have hu34 := Try.underlying34
 have HB := aM (Below.refl w.heap.size w)
 have H : (some (a0_0, a0_1)) = some (r1, r2) := h
 clear h
 simp only [Option.some.injEq, Prod.mk.injEq] at H
 obtain ⟨rfl, rfl⟩ := H
 go_enter Try.func31, Try.ntmps31
 go_wp2_with (first | ((with_reducible refine gate_dst (N := 1) rfl ?_); refine box_event ?hg (N := 1) ?hd (cs := #[.int .i64 a0_0, .int .i64 a0_1]) (t := 31) ?hr ?_; (case hd => rfl); (case hg => rfl); (case hr => first | (go_simp; done) | (go_simp; rfl)); intro gb160 hg w2 hbox hb; have n0_ := aM (pT bQ hb); have n1_ := aM (hbox); have n2_ := aM ((by rw [hg]; exact (pZ bQ) : w.heap.size ≤ gb160)); have n3_ := aM ((by rw [hg]; exact (pZ bQ) : w.heap.size ≤ gb160)); clear HB; have HB := n0_; have BK160 := n1_; have GW160 := n2_; have GE160 := n3_; clear n0_ n1_ n2_ n3_; clear hb hbox hg) | ((with_reducible refine gate_dst (N := 2) rfl ?_); refine box_event ?hg (N := 2) ?hd (cs := #[.int .i64 0, .int .i64 0]) (t := 34) ?hr ?_; (case hd => rfl); (case hg => rfl); (case hr => first | (go_simp; done) | (go_simp; rfl)); intro gb161 hg w3 hbox hb; have n0_ := aM (blk_below (g := gb160) (o := .cells #[.int .i64 a0_0, .int .i64 a0_1] 31 (0, 0)) (gQ BK160) hb); have n1_ := aM (pT (by repeat (first | (with_reducible first | exact HB.out | apply pA | apply pN | apply pD | refine pS ?_ GE160.out) | exact HB.out)) hb); have n2_ := aM (hbox); have n3_ := aM ((by rw [hg]; exact (pZ (by repeat (first | (with_reducible first | exact HB.out | apply pA | apply pN | apply pD | refine pS ?_ GE160.out) | exact HB.out))) : w.heap.size ≤ gb161)); have n4_ := aM ((by rw [hg]; exact (pZ (by repeat (first | (with_reducible first | exact HB.out | apply pA | apply pN | apply pD | refine pS ?_ GE160.out) | exact HB.out))) : w.heap.size ≤ gb161)); have n5_ := aM ((by rw [hg]; exact nN (blk_lt (g := gb160) (o := .cells #[.int .i64 a0_0, .int .i64 a0_1] 31 (0, 0)) (gQ BK160)) : gb160 ≠ gb161)); have n6_ := aM ((by rw [hg]; exact Nat.ne_of_gt (blk_lt (g := gb160) (o := .cells #[.int .i64 a0_0, .int .i64 a0_1] 31 (0, 0)) (gQ BK160)) : gb161 ≠ gb160)); clear BK160; clear HB; have BK160 := n0_; have HB := n1_; have BK161 := n2_; have GW161 := n3_; have GE161 := n4_; have NB160_161 := n5_; have NB161_160 := n6_; clear n0_ n1_ n2_ n3_ n4_ n5_ n6_; clear hb hbox hg) | ((with_reducible refine gate_dst (N := 3) rfl ?_); refine box_event ?hg (N := 3) ?hd (cs := #[.int .i64 0, .int .i64 0]) (t := 34) ?hr ?_; (case hd => rfl); (case hg => rfl); (case hr => first | (go_simp; done) | (go_simp; rfl)); intro gb162 hg w4 hbox hb; have n0_ := aM (blk_below (g := gb160) (o := .cells #[.int .i64 a0_0, .int .i64 a0_1] 31 (0, 0)) (gQ BK160) hb); have n1_ := aM (blk_below (g := gb161) (o := .cells #[.int .i64 0, .int .i64 0] 34 (0, 0)) (gQ BK161) hb); have n2_ := aM (pT (by repeat (first | (with_reducible first | exact HB.out | apply pA | apply pN | apply pD | refine pS ?_ GE160.out | refine pS ?_ GE161.out) | exact HB.out)) hb); have n3_ := aM (hbox); have n4_ := aM ((by rw [hg]; exact (pZ (by repeat (first | (with_reducible first | exact HB.out | apply pA | apply pN | apply pD | refine pS ?_ GE160.out | refine pS ?_ GE161.out) | exact HB.out))) : w.heap.size ≤ gb162)); have n5_ := aM ((by rw [hg]; exact (pZ (by repeat (first | (with_reducible first | exact HB.out | apply pA | apply pN | apply pD | refine pS ?_ GE160.out | refine pS ?_ GE161.out) | exact HB.out))) : w.heap.size ≤ gb162)); have n6_ := aM ((by rw [hg]; exact nN (blk_lt (g := gb160) (o := .cells #[.int .i64 a0_0, .int .i64 a0_1] 31 (0, 0)) (gQ BK160)) : gb160 ≠ gb162)); have n7_ := aM ((by rw [hg]; exact Nat.ne_of_gt (blk_lt (g := gb160) (o := .cells #[.int .i64 a0_0, .int .i64 a0_1] 31 (0, 0)) (gQ BK160)) : gb162 ≠ gb160)); have n8_ := aM ((by rw [hg]; exact nN (blk_lt (g := gb161) (o := .cells #[.int .i64 0, .int .i64 0] 34 (0, 0)) (gQ BK161)) : gb161 ≠ gb162)); have n9_ := aM ((by rw [hg]; exact Nat.ne_of_gt (blk_lt (g := gb161) (o := .cells #[.int .i64 0, .int .i64 0] 34 (0, 0)) (gQ BK161)) : gb162 ≠ gb161)); clear BK160; clear BK161; clear HB; have BK160 := n0_; have BK161 := n1_; have HB := n2_; have BK162 := n3_; have GW162 := n4_; have GE162 := n5_; have NB160_162 := n6_; have NB162_160 := n7_; have NB161_162 := n8_; have NB162_161 := n9_; clear n0_ n1_ n2_ n3_ n4_ n5_ n6_ n7_ n8_ n9_; clear hb hbox hg; have hnb5 := NB160_161.out; have hnc5 := NB161_160.out; have hnb6 := NB160_162.out; have hnc6 := NB162_160.out; have hcz7_0 : w4.cell? ⟨gb160, 0, none⟩ = some (.int .i64 a0_0) := (kC BK160.out 0).trans rfl; have hcz7_1 : w4.cell? ⟨gb160, 1, none⟩ = some (.int .i64 a0_1) := (kC BK160.out 1).trans rfl; have hfz7_0 := kF BK160.out 0; have hfz7_1 := kF BK160.out 1; have hnb8 := NB162_161.out; have hnc8 := NB161_162.out; have hcz9_0 : w4.cell? ⟨gb162, 0, none⟩ = some (.int .i64 0) := (kC BK162.out 0).trans rfl; have hcz9_1 : w4.cell? ⟨gb162, 1, none⟩ = some (.int .i64 0) := (kC BK162.out 1).trans rfl; have hfz9_0 := kF BK162.out 0; have hfz9_1 := kF BK162.out 1; have hcz10_0 : w4.cell? ⟨gb161, 0, none⟩ = some (.int .i64 0) := (kC BK161.out 0).trans rfl; have hcz10_1 : w4.cell? ⟨gb161, 1, none⟩ = some (.int .i64 0) := (kC BK161.out 1).trans rfl; have hfz10_0 := kF BK161.out 0; have hfz10_1 := kF BK161.out 1))
 refine bodyPost_ret (results_cell_row rfl _ _ gb161 34 #[.int .i64 a0_0, .int .i64 a0_1] (0, 0) _ rfl (by (with_reducible repeat (first | refine kN ?_ _ | refine kD ?_ | refine kA ?_ _)); refine blk_put (cs := #[.int .i64 a0_0, .int .i64 0]) ?_ 1 _ rfl; (with_reducible repeat (first | refine kN ?_ _ | refine kD ?_ | refine kA ?_ _)); refine blk_put (cs := #[.int .i64 0, .int .i64 0]) ?_ 0 _ rfl; (with_reducible repeat (first | refine kN ?_ _ | refine kD ?_ | refine kA ?_ _)); refine blk_far ?_ NB161_162.out _; (with_reducible repeat (first | refine kN ?_ _ | refine kD ?_ | refine kA ?_ _)); refine blk_far ?_ NB161_162.out _; (with_reducible repeat (first | refine kN ?_ _ | refine kD ?_ | refine kA ?_ _)); exact BK161.out) Try.underlying34 rfl kR) rfl ?_
 exact ⟨by first | rfl | (simp [errW_none, errW_some] <;> rfl) | (simp [*, errW_none, errW_some] <;> rfl), by repeat (first | (with_reducible first | exact HB.out | apply pA | apply pN | apply pD | refine pS ?_ GE160.out | refine pS ?_ GE161.out | refine pS ?_ GE162.out) | exact HB.out)⟩

end Go.Proofs.Ytiacfkilmknldaa.X
