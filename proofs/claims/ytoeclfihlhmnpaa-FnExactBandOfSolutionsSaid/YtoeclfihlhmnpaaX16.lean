-- thin
-- short
-- compact
import Derived.Test.YtoeclfihlhmnpaaXA
import Derived.Test.YtoeclfihlhmnpaaX0
import Derived.Test.YtoeclfihlhmnpaaX12
import Derived.Test.YtoeclfihlhmnpaaX13
import Derived.Test.YtoeclfihlhmnpaaX14
import Derived.Test.YtoeclfihlhmnpaaX15
namespace Go.Proofs.Ytoeclfihlhmnpaa.X
open Go.RowKit Go.Proofs.Ytoeclfihlhmnpaa.XW Go.Proofs.YtoeclfihlhmnpaaW.PrintWords Go.Proofs.YtoeclfihlhmnpaaW.PrintLast Go.Proofs.YtoeclfihlhmnpaaW.PrintMore
attribute [local go_sem] max2_int min2_int max_two min_two max_three min_three max_four min_four   -- for this text's walks alone
set_option linter.unusedVariables false
set_option linter.unusedSimpArgs false

mutual
def slices_pdqsortCmpFunc_impl_Peg_at_impl_comparePegs.l0 : Nat → List (S_impl_Peg) → Int → Int → Int → Bool → Bool → Option ((List (S_impl_Peg)))
 | 0, _, _, _, _, _, _ => none
 | k + 1, x0, x1, x2, x3, x10, x11 => if (wrap64 (x2 - x1)) ≤ 12 then ((slices_insertionSortCmpFunc_impl_Peg_at_impl_comparePegs.f k x0 x1 x2).bind fun t390 => (some t390)) else (if x3 = 0 then (none) else (if x10 = true then ((slices_choosePivotCmpFunc_impl_Peg_at_impl_comparePegs.f k x0 x1 x2).bind fun bt391 => (if bt391.2 = 2 then (none) else (if x11 = true then (slices_pdqsortCmpFunc_impl_Peg_at_impl_comparePegs.j1 k x0 x1 x2 bt391.1 (bt391.2 == 1)) else (slices_pdqsortCmpFunc_impl_Peg_at_impl_comparePegs.j1 k x0 x1 x2 bt391.1 false)))) else (none)))
def slices_pdqsortCmpFunc_impl_Peg_at_impl_comparePegs.j1 : Nat → List (S_impl_Peg) → Int → Int → Int → Bool → Option ((List (S_impl_Peg)))
 | 0, _, _, _, _, _ => none
 | k + 1, x0, x1, x2, x13, x75 => if x75 = true then ((slices_partialInsertionSortCmpFunc_impl_Peg_at_impl_comparePegs.f k x0 x1 x2).bind fun bt393 => (if bt393.1 = true then (some bt393.2) else (slices_pdqsortCmpFunc_impl_Peg_at_impl_comparePegs.j2 k bt393.2 x1 x13))) else (slices_pdqsortCmpFunc_impl_Peg_at_impl_comparePegs.j2 k x0 x1 x13)
def slices_pdqsortCmpFunc_impl_Peg_at_impl_comparePegs.j2 : Nat → List (S_impl_Peg) → Int → Int → Option ((List (S_impl_Peg)))
 | 0, _, _, _ => none
 | k + 1, x0, x1, x13 => if x1 > 0 then (if 0 ≤ (wrap64 (x1 - 1)) then (if (wrap64 (x1 - 1)) < (x0.length : Int) then (if 0 ≤ x13 then (if x13 < (x0.length : Int) then ((impl_comparePegs.f k ((rd_impl_Peg x0 (wrap64 (x1 - 1))).f0) ((rd_impl_Peg x0 (wrap64 (x1 - 1))).f1) ((rd_impl_Peg x0 x13).f0) ((rd_impl_Peg x0 x13).f1)).bind fun t397 => (slices_pdqsortCmpFunc_impl_Peg_at_impl_comparePegs.j3 k (!(decide (t397 < 0))))) else (none)) else (none)) else (none)) else (none)) else (slices_pdqsortCmpFunc_impl_Peg_at_impl_comparePegs.j3 k false)
def slices_pdqsortCmpFunc_impl_Peg_at_impl_comparePegs.j3 : Nat → Bool → Option ((List (S_impl_Peg)))
 | 0, _ => none
 | k + 1, x97 => if x97 = true then (none) else (none)
def slices_pdqsortCmpFunc_impl_Peg_at_impl_comparePegs.f : Nat → List (S_impl_Peg) → Int → Int → Int → Option ((List (S_impl_Peg)))
 | 0, _, _, _, _ => none
 | k + 1, l0, a1, a2, a3 => slices_pdqsortCmpFunc_impl_Peg_at_impl_comparePegs.l0 k l0 a1 a2 a3 true true
end
theorem slices_pdqsortCmpFunc_impl_Peg_at_impl_comparePegs.mono_l : ∀ k, (∀ y0 y1 y2 y3, LeO (slices_pdqsortCmpFunc_impl_Peg_at_impl_comparePegs.f k y0 y1 y2 y3) (slices_pdqsortCmpFunc_impl_Peg_at_impl_comparePegs.f (k + 1) y0 y1 y2 y3)) ∧ (∀ y0 y1 y2 y3 y4 y5, LeO (slices_pdqsortCmpFunc_impl_Peg_at_impl_comparePegs.l0 k y0 y1 y2 y3 y4 y5) (slices_pdqsortCmpFunc_impl_Peg_at_impl_comparePegs.l0 (k + 1) y0 y1 y2 y3 y4 y5)) ∧ (∀ y0 y1 y2 y3 y4, LeO (slices_pdqsortCmpFunc_impl_Peg_at_impl_comparePegs.j1 k y0 y1 y2 y3 y4) (slices_pdqsortCmpFunc_impl_Peg_at_impl_comparePegs.j1 (k + 1) y0 y1 y2 y3 y4)) ∧ (∀ y0 y1 y2, LeO (slices_pdqsortCmpFunc_impl_Peg_at_impl_comparePegs.j2 k y0 y1 y2) (slices_pdqsortCmpFunc_impl_Peg_at_impl_comparePegs.j2 (k + 1) y0 y1 y2)) ∧ (∀ y0, LeO (slices_pdqsortCmpFunc_impl_Peg_at_impl_comparePegs.j3 k y0) (slices_pdqsortCmpFunc_impl_Peg_at_impl_comparePegs.j3 (k + 1) y0))
 | 0 => ⟨fun _ _ _ _ r h => by simp [slices_pdqsortCmpFunc_impl_Peg_at_impl_comparePegs.f] at h, fun _ _ _ _ _ _ r h => by simp [slices_pdqsortCmpFunc_impl_Peg_at_impl_comparePegs.l0] at h, fun _ _ _ _ _ r h => by simp [slices_pdqsortCmpFunc_impl_Peg_at_impl_comparePegs.j1] at h, fun _ _ _ r h => by simp [slices_pdqsortCmpFunc_impl_Peg_at_impl_comparePegs.j2] at h, fun _ r h => by simp [slices_pdqsortCmpFunc_impl_Peg_at_impl_comparePegs.j3] at h⟩
 | k + 1 => by
  obtain ⟨ih0, ih1, ih2, ih3, ih4⟩ := slices_pdqsortCmpFunc_impl_Peg_at_impl_comparePegs.mono_l k
  refine ⟨?_, ?_, ?_, ?_, ?_⟩ <;> intros <;> (first | unfold slices_pdqsortCmpFunc_impl_Peg_at_impl_comparePegs.f | unfold slices_pdqsortCmpFunc_impl_Peg_at_impl_comparePegs.l0 | unfold slices_pdqsortCmpFunc_impl_Peg_at_impl_comparePegs.j1 | unfold slices_pdqsortCmpFunc_impl_Peg_at_impl_comparePegs.j2 | unfold slices_pdqsortCmpFunc_impl_Peg_at_impl_comparePegs.j3) <;> repeat' first | (with_reducible exact ih0 _ _ _ _) | (with_reducible exact ih1 _ _ _ _ _ _) | (with_reducible exact ih2 _ _ _ _ _) | (with_reducible exact ih3 _ _ _) | (with_reducible exact ih4 _) | (with_reducible exact impl_comparePegs.mono _ _ _ _ _) | (with_reducible exact slices_choosePivotCmpFunc_impl_Peg_at_impl_comparePegs.mono _ _ _ _) | (with_reducible exact slices_insertionSortCmpFunc_impl_Peg_at_impl_comparePegs.mono _ _ _ _) | (with_reducible exact slices_partialInsertionSortCmpFunc_impl_Peg_at_impl_comparePegs.mono _ _ _ _) | (with_reducible exact LeO.refl _) | (with_reducible exact LeO.none _) | (with_reducible refine LeO.ite ?_ ?_) | (with_reducible refine LeO.bind ?_ (fun _ => ?_)) | exact ih0 _ _ _ _ | exact ih1 _ _ _ _ _ _ | exact ih2 _ _ _ _ _ | exact ih3 _ _ _ | exact ih4 _ | exact impl_comparePegs.mono _ _ _ _ _ | exact slices_choosePivotCmpFunc_impl_Peg_at_impl_comparePegs.mono _ _ _ _ | exact slices_insertionSortCmpFunc_impl_Peg_at_impl_comparePegs.mono _ _ _ _ | exact slices_partialInsertionSortCmpFunc_impl_Peg_at_impl_comparePegs.mono _ _ _ _ | exact LeO.none _ | refine LeO.ite ?_ ?_ | refine LeO.bind ?_ (fun _ => ?_)
theorem slices_pdqsortCmpFunc_impl_Peg_at_impl_comparePegs.mono : ∀ a0 a1 a2 a3 k, LeO (slices_pdqsortCmpFunc_impl_Peg_at_impl_comparePegs.f k a0 a1 a2 a3) (slices_pdqsortCmpFunc_impl_Peg_at_impl_comparePegs.f (k + 1) a0 a1 a2 a3) := by
 intro a0 a1 a2 a3 k
 obtain ⟨ih0, ih1, ih2, ih3, ih4⟩ := slices_pdqsortCmpFunc_impl_Peg_at_impl_comparePegs.mono_l k
 exact ih0 a0 a1 a2 a3
def slices_pdqsortCmpFunc_impl_Peg_at_impl_comparePegs.T17 : Bool × List (List Nat × List Nat) := (true, [([], []), ([0], [0]), ([1], [1]), ([2], [2]), ([2], [2]), ([2], [2]), ([5, 2], [2, 5]), ([4, 6, 2], [2, 4, 6]), ([7, 2], [2, 7]), ([2], [2]), ([2], [2]), ([9, 10, 2], [2, 9, 10]), ([11, 2], [2, 11]), ([3, 8, 12, 2, 2], [2, 3, 8, 12]), ([13, 2], [2, 13]), ([14, 2], [2, 14]), ([2, 15], [2, 15])])
def slices_pdqsortCmpFunc_impl_Peg_at_impl_comparePegs.B17 : List Nat := [0, 1, 3, 7, 7, 7, 39, 119, 247, 7, 7, 1543, 3591, 8191, 16383, 32767, 65535]
theorem slices_pdqsortCmpFunc_impl_Peg_at_impl_comparePegs.tab17 : rtab .any (opsOf Try.f115 17) = slices_pdqsortCmpFunc_impl_Peg_at_impl_comparePegs.T17 := by kernel_rfl
theorem slices_pdqsortCmpFunc_impl_Peg_at_impl_comparePegs.bits17 : waitsOk slices_pdqsortCmpFunc_impl_Peg_at_impl_comparePegs.T17.2 slices_pdqsortCmpFunc_impl_Peg_at_impl_comparePegs.B17 = true := by kernel_rfl
set_option maxHeartbeats 8000000 in
set_option maxRecDepth 100000 in
theorem slices_pdqsortCmpFunc_impl_Peg_at_impl_comparePegs.calls (k : Nat) : ∀ (P0_ : Nat → Prop) (u9000_ : Value) (l0 : List (S_impl_Peg)) (a1 : Int) (a2 : Int) (a3 : Int) (r : List (S_impl_Peg)) (w0 w : World) (hB : Below w0.heap.size w0 w) (ho0 : Kd.R kd_impl_Peg 41 w w0.heap.size P0_ u9000_ l0) (h : slices_pdqsortCmpFunc_impl_Peg_at_impl_comparePegs.f k l0 a1 a2 a3 = some r),
  Calls Try.prog 115 #[u9000_, .int .i64 a1, .int .i64 a2, .int .i64 a3, .func (.func 108) #[] #[]] w fun e w' => e = .returned (.tuple #[]) ∧ Kd.R kd_impl_Peg 41 w' w0.heap.size (fun k_ => (P0_ k_ ∨ w.heap.size ≤ k_)) u9000_ r ∧ Below w0.heap.size w0 w' ∧ Kept w w' (fun k_ => P0_ k_) := by
 induction k using Nat.strongRecOn with
 | _ k ih =>
 intro P0_ u9000_ l0 a1 a2 a3 r w0 w hB ho0 h
 cases k with
 | zero => exact absurd h (by simp [slices_pdqsortCmpFunc_impl_Peg_at_impl_comparePegs.f])
 | succ k =>
 simp only [slices_pdqsortCmpFunc_impl_Peg_at_impl_comparePegs.f] at h
 have hu41 := Try.underlying41; have HO0 := aM (show Kd.R kd_impl_Peg 41 w w0.heap.size (fun k_ => (P0_ k_ ∨ w.heap.size ≤ k_)) u9000_ l0 from Kd.R_mono ho0 (fun k_ hk => (.inl hk))); have HK := aM (Kept.refl w (fun k_ => P0_ k_)); have HW0 := aM hB.size; have HB := aM hB; clear hB
 have H := h; clear h
 have H' := aM H; clear H
 go_enter Try.func115, Try.ntmps115
 go_wp2
 go_loopg [1, 2, 3, 10, 11] k (fun kq v1 v2 v3 v10 v11 w' => ∃ (x0_1 : List (S_impl_Peg)) (x1_1 : Int) (x2_1 : Int) (x3_1 : Int) (x10_1 : Bool) (x11_1 : Bool), v1 = .int .i64 x1_1 ∧ v2 = .int .i64 x2_1 ∧ v3 = .int .i64 x3_1 ∧ v10 = .bool x10_1 ∧ v11 = .bool x11_1 ∧ Aside0 (slices_pdqsortCmpFunc_impl_Peg_at_impl_comparePegs.l0 kq x0_1 x1_1 x2_1 x3_1 x10_1 x11_1 = some r) ∧ Aside0 (kq ≤ k) ∧ Aside0 (Kd.R kd_impl_Peg 41 w' w0.heap.size (fun k_ => (P0_ k_ ∨ w.heap.size ≤ k_)) u9000_ x0_1) ∧ Aside0 (Kept w w' (fun k_ => P0_ k_)) ∧ Aside0 (Below w0.heap.size w0 w'))
 case atStart => exact ⟨(l0), (a1), (a2), (a3), (true), (true), eQ, eQ, eQ, eQ, eQ, H', ⟨Nat.le_refl _⟩, ⟨by (with_reducible repeat (first | apply rA | apply rN | apply rD)); exact HO0.out⟩, ⟨by repeat (first | (with_reducible first | exact HK.out | apply Kept.alloc | apply Kept.drewN | apply Kept.drew) | exact HK.out)⟩, ⟨bQ⟩⟩
 case round =>
  clear H'; obtain ⟨x0_1, x1_1, x2_1, x3_1, x10_1, x11_1, rfl, rfl, rfl, rfl, rfl, HA, HK1, HO_0, HK, HB⟩ := hrel
  cases gk with
  | zero => exact absurd HA.out (by simp [slices_pdqsortCmpFunc_impl_Peg_at_impl_comparePegs.l0])
  | succ k1 =>
   have H := HA.out; clear HA
   simp only [slices_pdqsortCmpFunc_impl_Peg_at_impl_comparePegs.l0] at H
   by_cases c5 : (wrap64 (x2_1 - x1_1)) ≤ 12
   ·rw [if_pos c5] at H; have c5b0 := dE c5; clear c5; replace H := bS H; obtain ⟨t390, A6, H⟩ := H; obtain rfl := Option.some.inj H; obtain ⟨Ao7, co7, eo7⟩ := Kd.R_slice HO_0.out; subst eo7
    go_wp2_with (first | ((with_reducible refine gC (f := 121) rfl ?_); refine goesL_ (some 30) rfl rfl Try.func121 kR rfl #[.slice Ao7 x0_1.length co7, .int .i64 x1_1, .int .i64 x2_1, .func (.func 108) #[] #[]] rfl sQ ?_; (with_reducible refine (slices_insertionSortCmpFunc_impl_Peg_at_impl_comparePegs.calls k1 (fun k_ => some k_ = (.slice Ao7 x0_1.length co7 : Value).ownBlock) (.slice Ao7 x0_1.length co7) x0_1 x1_1 x2_1 t390 w0 _ ?side1 ?side2 A6.out).mono ?_); (case side1 => repeat (first | (with_reducible first | exact HB.out | apply pA | apply pN | apply pD) | exact HB.out)); (case side2 => exact Kd.R_tight rfl HO_0.out); rintro e w8 ⟨rfl, hy0, hb, hkp⟩; refine ⟨_, rfl, ?_⟩; replace HK := aM (Kept.then_ (S := (fun k_ => P0_ k_)) (by repeat (first | (with_reducible first | exact HK.out | apply Kept.alloc | apply Kept.drewN | apply Kept.drew) | exact HK.out)) hkp (fun k_ hs_ => (fun e_ => (HO_0.out.1 k_ e_.symm)) hs_)); replace HO_0 := aM (Kd.R_reok rfl hy0 (fun k_ e_ => HO_0.out.1 k_ e_)); replace HB := aM (hb); (try clear hb); (try clear hkp); (try clear hy0)))
    first | go_end0 | ((try simp only [Exit.inBlock, Exit.then]); refine bodyPost_ret (results_none rfl _ _ _) rfl ?_)
    exact ⟨wQ, by (with_reducible repeat (first | apply rA | apply rN | apply rD)); exact HO_0.out, by repeat (first | (with_reducible first | exact HB.out | apply pA | apply pN | apply pD) | exact HB.out), by repeat (first | (with_reducible first | exact HK.out | apply Kept.alloc | apply Kept.drewN | apply Kept.drew) | exact HK.out)⟩
   ·rw [if_neg c5] at H; have c5b0 := decide_eq_false c5; clear c5; replace H := iM H; obtain ⟨c9, H⟩ := H; have c9b0 : (x3_1 == 0) = false := beq_eq_false_iff_ne.mpr c9; have c9b1 : (x3_1 != 0) = true := bne_iff_ne.mpr c9
    by_cases c10 : x10_1 = true
    ·subst c10; replace H := iT H; replace H := bS H; obtain ⟨⟨t391, t392⟩, A11, H⟩ := H; replace H := iM H; obtain ⟨c12, H⟩ := H; have c12b0 : (t392 == 2) = false := beq_eq_false_iff_ne.mpr c12; have c12b1 : (t392 != 2) = true := bne_iff_ne.mpr c12; have HC13 := aM H; clear H; obtain ⟨Ao14, co14, eo14⟩ := Kd.R_slice HO_0.out; subst eo14
     go_upto_region 15 with (first | ((with_reducible refine gC (f := 124) rfl ?_); refine goesL_ (some 52) rfl rfl Try.func124 kR rfl #[.slice Ao14 x0_1.length co14, .int .i64 x1_1, .int .i64 x2_1, .func (.func 108) #[] #[]] rfl sQ ?_; (with_reducible refine (slices_choosePivotCmpFunc_impl_Peg_at_impl_comparePegs.calls k1 _ _ x0_1 x1_1 x2_1 t391 t392 _ ?side1 ?side2 A11.out).mono ?_); (case side1 => repeat (first | exact (rR HO_0.out).2.2 | (with_reducible refine cA ?_ _) | (with_reducible refine cN ?_ _) | (with_reducible refine cD ?_))); (case side2 => exact (rR HO_0.out).2.1); rintro e w15 ⟨rfl, hb⟩; refine ⟨_, rfl, ?_⟩; replace HO_0 := aM (Kd.R_below (by (with_reducible repeat (first | apply rA | apply rN | apply rD)); exact HO_0.out) hb); replace HK := aM (Kept.below (S := (fun k_ => P0_ k_)) (by repeat (first | (with_reducible first | exact HK.out | apply Kept.alloc | apply Kept.drewN | apply Kept.drew) | exact HK.out)) hb); replace HB := tB HB hb; (try clear hb); (try clear hb2); (try clear hk); (try clear hi)))
     (try simp only [Act.put, sI, sZ, sS])
     go_cut [75] (fun v75 wc => ∃ (kq : Nat) (x75_12 : Bool), v75 = .bool x75_12 ∧ Aside0 (slices_pdqsortCmpFunc_impl_Peg_at_impl_comparePegs.j1 kq x0_1 x1_1 x2_1 t391 x75_12 = some r) ∧ Aside0 (kq ≤ k1) ∧ Aside0 (Kd.R kd_impl_Peg 41 wc w0.heap.size (fun k_ => (P0_ k_ ∨ w.heap.size ≤ k_)) (.slice Ao14 x0_1.length co14) x0_1) ∧ Aside0 (Kept w wc (fun k_ => P0_ k_)) ∧ Aside0 (Below w0.heap.size w0 wc))
     case first =>
      have H := HC13.out; clear HC13
      by_cases c16 : x11_1 = true
      ·subst c16; replace H := iT H; have H' := aM H; clear H; go_wp2
       go_meet
       case rel => exact ⟨_, ((t392 == 1)), eQ, H', ⟨by have := HK1.out; first | omega | exact Nat.le_refl _⟩, ⟨by (with_reducible repeat (first | apply rA | apply rN | apply rD)); exact HO_0.out⟩, ⟨by repeat (first | (with_reducible first | exact HK.out | apply Kept.alloc | apply Kept.drewN | apply Kept.drew) | exact HK.out)⟩, ⟨bQ⟩⟩
      ·replace c16 := Bool.eq_false_iff.mpr c16; subst c16; replace H := iF H; have H' := aM H; clear H; go_wp2
       go_meet
       case rel => exact ⟨_, (false), eQ, H', ⟨by have := HK1.out; first | omega | exact Nat.le_refl _⟩, ⟨by (with_reducible repeat (first | apply rA | apply rN | apply rD)); exact HO_0.out⟩, ⟨by repeat (first | (with_reducible first | exact HK.out | apply Kept.alloc | apply Kept.drewN | apply Kept.drew) | exact HK.out)⟩, ⟨bQ⟩⟩
     case rest =>
      clear HC13; (try clear c5); (try clear c5b0); (try clear c9); (try clear c9b0); (try clear c9b1); (try clear c10); (try clear c12); (try clear c12b0); (try clear c12b1); obtain ⟨kq, x75_12, rfl, HA, HJ12, HO_0, HK, HB⟩ := hcut
      cases kq with
      | zero => exact absurd HA.out (by simp [slices_pdqsortCmpFunc_impl_Peg_at_impl_comparePegs.j1])
      | succ kj12 =>
       have H := HA.out; clear HA
       simp only [slices_pdqsortCmpFunc_impl_Peg_at_impl_comparePegs.j1] at H
       have HC17 := aM H; clear H
       go_upto_if 75 with (fail)
       go_cut [] (fun wc => ∃ (kq : Nat) (x0_16 : List (S_impl_Peg)), Aside0 (slices_pdqsortCmpFunc_impl_Peg_at_impl_comparePegs.j2 kq x0_16 x1_1 t391 = some r) ∧ Aside0 (kq ≤ kj12) ∧ Aside0 (Kd.R kd_impl_Peg 41 wc w0.heap.size (fun k_ => (P0_ k_ ∨ w.heap.size ≤ k_)) (.slice Ao14 x0_1.length co14) x0_16) ∧ Aside0 (Kept w wc (fun k_ => P0_ k_)) ∧ Aside0 (Below w0.heap.size w0 wc))
       case first =>
        have H := HC17.out; clear HC17
        by_cases c18 : x75_12 = true
        ·subst c18; replace H := iT H; replace H := bS H; obtain ⟨⟨t393, t394⟩, A19, H⟩ := H
         by_cases c20 : t393 = true
         ·subst c20; replace H := iT H; obtain rfl := Option.some.inj H
          go_wp2_with (first | ((with_reducible refine gC (f := 126) rfl ?_); refine goesL_ (some 80) rfl rfl Try.func126 kR rfl #[.slice Ao14 x0_1.length co14, .int .i64 x1_1, .int .i64 x2_1, .func (.func 108) #[] #[]] rfl sQ ?_; (with_reducible refine (slices_partialInsertionSortCmpFunc_impl_Peg_at_impl_comparePegs.calls kj12 (fun k_ => some k_ = (.slice Ao14 x0_1.length co14 : Value).ownBlock) (.slice Ao14 x0_1.length co14) x0_1 x1_1 x2_1 true t394 w0 _ ?side1 ?side2 A19.out).mono ?_); (case side1 => repeat (first | (with_reducible first | exact HB.out | apply pA | apply pN | apply pD) | exact HB.out)); (case side2 => exact Kd.R_tight rfl HO_0.out); rintro e w21 ⟨rfl, hy0, hb, hkp⟩; refine ⟨_, rfl, ?_⟩; replace HK := aM (Kept.then_ (S := (fun k_ => P0_ k_)) (by repeat (first | (with_reducible first | exact HK.out | apply Kept.alloc | apply Kept.drewN | apply Kept.drew) | exact HK.out)) hkp (fun k_ hs_ => (fun e_ => (HO_0.out.1 k_ e_.symm)) hs_)); replace HO_0 := aM (Kd.R_reok rfl hy0 (fun k_ e_ => HO_0.out.1 k_ e_)); replace HB := aM (hb); (try clear hb); (try clear hkp); (try clear hy0)))
          first | go_end0 | ((try simp only [Exit.inBlock, Exit.then]); refine bodyPost_ret (results_none rfl _ _ _) rfl ?_)
          exact ⟨wQ, by (with_reducible repeat (first | apply rA | apply rN | apply rD)); exact HO_0.out, by repeat (first | (with_reducible first | exact HB.out | apply pA | apply pN | apply pD) | exact HB.out), by repeat (first | (with_reducible first | exact HK.out | apply Kept.alloc | apply Kept.drewN | apply Kept.drew) | exact HK.out)⟩
         ·replace c20 := Bool.eq_false_iff.mpr c20; subst c20; replace H := iF H; have H' := aM H; clear H
          go_wp2_with (first | ((with_reducible refine gC (f := 126) rfl ?_); refine goesL_ (some 80) rfl rfl Try.func126 kR rfl #[.slice Ao14 x0_1.length co14, .int .i64 x1_1, .int .i64 x2_1, .func (.func 108) #[] #[]] rfl sQ ?_; (with_reducible refine (slices_partialInsertionSortCmpFunc_impl_Peg_at_impl_comparePegs.calls kj12 (fun k_ => some k_ = (.slice Ao14 x0_1.length co14 : Value).ownBlock) (.slice Ao14 x0_1.length co14) x0_1 x1_1 x2_1 false t394 w0 _ ?side1 ?side2 A19.out).mono ?_); (case side1 => repeat (first | (with_reducible first | exact HB.out | apply pA | apply pN | apply pD) | exact HB.out)); (case side2 => exact Kd.R_tight rfl HO_0.out); rintro e w22 ⟨rfl, hy0, hb, hkp⟩; refine ⟨_, rfl, ?_⟩; replace HK := aM (Kept.then_ (S := (fun k_ => P0_ k_)) (by repeat (first | (with_reducible first | exact HK.out | apply Kept.alloc | apply Kept.drewN | apply Kept.drew) | exact HK.out)) hkp (fun k_ hs_ => (fun e_ => (HO_0.out.1 k_ e_.symm)) hs_)); replace HO_0 := aM (Kd.R_reok rfl hy0 (fun k_ e_ => HO_0.out.1 k_ e_)); replace HB := aM (hb); (try clear hb); (try clear hkp); (try clear hy0)))
          go_meet
          case rel => exact ⟨_, (t394), H', ⟨by have := HK1.out; have := HJ12.out; first | omega | exact Nat.le_refl _⟩, ⟨by (with_reducible repeat (first | apply rA | apply rN | apply rD)); exact HO_0.out⟩, ⟨by repeat (first | (with_reducible first | exact HK.out | apply Kept.alloc | apply Kept.drewN | apply Kept.drew) | exact HK.out)⟩, ⟨bQ⟩⟩
        ·replace c18 := Bool.eq_false_iff.mpr c18; subst c18; replace H := iF H; have H' := aM H; clear H; go_wp2
         go_meet
         case rel => exact ⟨_, (x0_1), H', ⟨by have := HK1.out; have := HJ12.out; first | omega | exact Nat.le_refl _⟩, ⟨by (with_reducible repeat (first | apply rA | apply rN | apply rD)); exact HO_0.out⟩, ⟨by repeat (first | (with_reducible first | exact HK.out | apply Kept.alloc | apply Kept.drewN | apply Kept.drew) | exact HK.out)⟩, ⟨bQ⟩⟩
       case rest =>
        clear HC17; (try clear c5); (try clear c5b0); (try clear c9); (try clear c9b0); (try clear c9b1); (try clear c10); (try clear c12); (try clear c12b0); (try clear c12b1); obtain ⟨kq, x0_16, HA, HJ16, HO_0, HK, HB⟩ := hcut; have hl0_16 := (rR HO_0.out).1; rw [hl0_16] at HO_0
        (try simp only [hl0_16])
        cases kq with
        | zero => exact absurd HA.out (by simp [slices_pdqsortCmpFunc_impl_Peg_at_impl_comparePegs.j2])
        | succ kj16 =>
         have H := HA.out; clear HA
         simp only [slices_pdqsortCmpFunc_impl_Peg_at_impl_comparePegs.j2] at H
         have HC23 := aM H; clear H
         go_upto_region 17 with (fail)
         go_cut [97] (fun v97 wc => ∃ (kq : Nat) (x97_22 : Bool), v97 = .bool x97_22 ∧ Aside0 (slices_pdqsortCmpFunc_impl_Peg_at_impl_comparePegs.j3 kq x97_22 = some r) ∧ Aside0 (kq ≤ kj16) ∧ Aside0 (Kept w wc (fun k_ => P0_ k_)) ∧ Aside0 (Below w0.heap.size w0 wc))
         case first =>
          have H := HC23.out; clear HC23
          by_cases c24 : x1_1 > 0
          ·rw [if_pos c24] at H; have c24b0 := dE c24; clear c24
           (first | rw [c24b0] | (simp only [i64_w, i32_w]; rw [c24b0]) | skip)
           obtain ⟨ji25, hji25⟩ : ∃ j_ : Int, (wrap64 (x1_1 - 1)) = j_ := ⟨_, rfl⟩
           (first | rw [hji25] at H | simp only [hji25] at H)
           have hji25w : (IntKind.i64.wrap (x1_1 - 1)) = ji25 := (i64_w _).trans hji25; replace H := iD H; obtain ⟨c26b0, H⟩ := H; replace H := iD H; obtain ⟨c27b0, H⟩ := H; replace H := iD H; obtain ⟨c28b0, H⟩ := H; replace H := iD H; obtain ⟨c29b0, H⟩ := H; replace H := bS H; obtain ⟨t397, A30, H⟩ := H; have H' := aM H; clear H
           try go_wp2
           replace HO_0 := aM (rD HO_0.out); replace HK := aM (Kept.drew HK.out); replace HB := aM (pD HB.out); have p395 : 0 ≤ ((ji25) : Int) := dT aQ; have q395 : (ji25) < (x0_16.length : Int) := dT aQ; obtain ⟨ad395, e395, hx395_0, hx395_1⟩ := at_impl_Peg (rR HO_0.out).2.2 (ji25) p395 q395
           cases e395
           replace p395 := eq_true p395; replace q395 := eq_true q395; have p396 : 0 ≤ (t391 : Int) := dT aQ; have q396 : t391 < (x0_16.length : Int) := dT aQ; obtain ⟨ad396, e396, hx396_0, hx396_1⟩ := at_impl_Peg (rR HO_0.out).2.2 t391 p396 q396; obtain rfl : ad395 = ad396 := (by injection e396)
           replace p396 := eq_true p396; replace q396 := eq_true q396
           refine start_ (n := 17) (S := fun w' => w'.cell? (ad395.add (((ji25)).toNat * 2)) = some (.int .i64 ((rd_impl_Peg x0_16 (ji25)).f0)) ∧ w'.cell? ⟨(ad395.add (((ji25)).toNat * 2)).block, (ad395.add (((ji25)).toNat * 2)).off + 1, none⟩ = some (.int .i64 ((rd_impl_Peg x0_16 (ji25)).f1)) ∧ w'.cell? (ad395.add ((t391).toNat * 2)) = some (.int .i64 ((rd_impl_Peg x0_16 t391).f0)) ∧ w'.cell? ⟨(ad395.add ((t391).toNat * 2)).block, (ad395.add ((t391).toNat * 2)).off + 1, none⟩ = some (.int .i64 ((rd_impl_Peg x0_16 t391).f1))) (ds := []) (bA 17 0) kR rfl kR ⟨hx395_0, hx395_1, hx396_0, hx396_1⟩ (fun hHeld => ?_); refine with_tabW slices_pdqsortCmpFunc_impl_Peg_at_impl_comparePegs.tab17 slices_pdqsortCmpFunc_impl_Peg_at_impl_comparePegs.bits17 (fun HT_ HW_ => ?_)
           generalize wc.drew = w31 at HO_0 HK HB hx395_0 hx395_1 hx396_0 hx396_1 hHeld ⊢
           refine pU 0 81 (bA 17 1) HT_ ?_; refine pU 1 82 (bA 17 3) HT_ ?_; refine pU 2 83 (bA 17 7) HT_ ?_; refine pU 3 84 (bA 17 15) HT_ ?_; refine pU 4 85 (bA 17 31) HT_ ?_; refine pU 5 86 (bA 17 63) HT_ ?_; refine pU 6 87 (bA 17 127) HT_ ?_; refine pU 7 88 (bA 17 255) HT_ ?_; refine pU 9 90 (bA 17 767) HT_ ?_; refine pU 10 91 (bA 17 1791) HT_ ?_; refine pU 11 92 (bA 17 3839) HT_ ?_
           refine tU 8 89 (bA 17 4095) HT_ HW_ hHeld ?_ (hy := Or.inl ⟨by rfl, by rintro w' ⟨s0, s1, s2, s3⟩; go_simp; with_reducible rfl⟩)
           refine tU 12 93 (bA 17 8191) HT_ HW_ hHeld ?_ (hy := Or.inl ⟨by rfl, by rintro w' ⟨s0, s1, s2, s3⟩; go_simp; with_reducible rfl⟩)
           refine oU 13 94 (bA 17 16383) HT_ (fun K hK => ?_)
           refine goesT_ Try.func108 kR rfl #[.agg #[.int .i64 ((rd_impl_Peg x0_16 (ji25)).f0), .int .i64 ((rd_impl_Peg x0_16 (ji25)).f1)], .agg #[.int .i64 ((rd_impl_Peg x0_16 t391).f0), .int .i64 ((rd_impl_Peg x0_16 t391).f1)]] (by rfl) rfl rfl (by first | rfl | (simp [Act.eval]; done)) (by (try simp only [mA, mC, mN]); first | done | (simp only [hji25]; rfl) | rfl | (simp only [lD, lT]; rfl)) ?_
           with_reducible refine (impl_comparePegs.calls kj16 ((rd_impl_Peg x0_16 (ji25)).f0) ((rd_impl_Peg x0_16 (ji25)).f1) ((rd_impl_Peg x0_16 t391).f0) ((rd_impl_Peg x0_16 t391).f1) t397 _ A30.out).mono ?_
           rintro e w32 ⟨rfl, hb⟩; have HS0_ := (hb.cell (wB _ _ (hHeld.1))).trans (hHeld.1); have HS1_ := (hb.cell (wB _ _ (hHeld.2.1))).trans (hHeld.2.1); have HS2_ := (hb.cell (wB _ _ (hHeld.2.2.1))).trans (hHeld.2.2.1); have HS3_ := (hb.cell (wB _ _ (hHeld.2.2.2))).trans (hHeld.2.2.2); refine ⟨_, rfl, ?_⟩; replace HO_0 := aM (Kd.R_below (by (with_reducible repeat (first | apply rA | apply rN | apply rD)); exact HO_0.out) hb); replace HK := aM (Kept.below (S := (fun k_ => P0_ k_)) (by repeat (first | (with_reducible first | exact HK.out | apply Kept.alloc | apply Kept.drewN | apply Kept.drew) | exact HK.out)) hb); replace HB := tB HB hb
           (try clear hb); (try clear hb2); (try clear hk); (try clear hi)
           refine hK.out _ _ ⟨HS0_, HS1_, HS2_, HS3_⟩ (fun hHeld => ?_)
           clear hK K
           refine nU ?_
           refine pU 14 95 (bA 17 32767) HT_ ?_; refine pU 15 96 (bA 17 65535) HT_ ?_; refine pU 16 97 (bA 17 131071) HT_ ?_
           refine done_ (done_of HT_.out kR) ?_
           try go_wp2
           go_meet
           case rel => exact ⟨_, (!(decide (t397 < 0))), eQ, H', ⟨by have := HK1.out; have := HJ12.out; have := HJ16.out; first | omega | exact Nat.le_refl _⟩, ⟨by repeat (first | (with_reducible first | exact HK.out | apply Kept.alloc | apply Kept.drewN | apply Kept.drew) | exact HK.out)⟩, ⟨bQ⟩⟩
          ·rw [if_neg c24] at H; have c24b0 := decide_eq_false c24; clear c24
           (first | rw [c24b0] | (simp only [i64_w, i32_w]; rw [c24b0]) | skip)
           have H' := aM H; clear H
           try go_wp2
           replace HO_0 := aM (rD HO_0.out); replace HK := aM (Kept.drew HK.out); replace HB := aM (pD HB.out)
           refine start_ (n := 17) (S := fun w' => True) (ds := []) (bA 17 0) kR rfl kR trivial (fun hHeld => ?_); refine with_tabW slices_pdqsortCmpFunc_impl_Peg_at_impl_comparePegs.tab17 slices_pdqsortCmpFunc_impl_Peg_at_impl_comparePegs.bits17 (fun HT_ HW_ => ?_)
           generalize wc.drew = w33 at HO_0 HK HB hHeld ⊢
           refine pU 0 81 (bA 17 1) HT_ ?_; refine pU 1 82 (bA 17 3) HT_ ?_; refine pU 2 83 (bA 17 7) HT_ ?_; refine pU 3 84 (bA 17 15) HT_ ?_ (hy := Or.inr ⟨by rfl, rfl⟩)
           refine pU 4 85 (bA 17 31) HT_ ?_ (hy := Or.inr ⟨by rfl, rfl⟩)
           refine pU 5 86 (bA 17 63) HT_ ?_ (hy := Or.inr ⟨by rfl, rfl⟩)
           refine pU 6 87 (bA 17 127) HT_ ?_ (hy := Or.inr ⟨by rfl, rfl⟩)
           refine pU 7 88 (bA 17 255) HT_ ?_ (hy := Or.inr ⟨by rfl, rfl⟩)
           refine pU 8 89 (bA 17 511) HT_ ?_ (hy := Or.inr ⟨by rfl, rfl⟩)
           refine pU 9 90 (bA 17 1023) HT_ ?_ (hy := Or.inr ⟨by rfl, rfl⟩)
           refine pU 10 91 (bA 17 2047) HT_ ?_ (hy := Or.inr ⟨by rfl, rfl⟩)
           refine pU 11 92 (bA 17 4095) HT_ ?_ (hy := Or.inr ⟨by rfl, rfl⟩)
           refine pU 12 93 (bA 17 8191) HT_ ?_ (hy := Or.inr ⟨by rfl, rfl⟩)
           refine pU 13 94 (bA 17 16383) HT_ ?_ (hy := Or.inr ⟨by rfl, rfl⟩)
           refine pU 14 95 (bA 17 32767) HT_ ?_ (hy := Or.inr ⟨by rfl, rfl⟩)
           refine pU 15 96 (bA 17 65535) HT_ ?_ (hy := Or.inr ⟨by rfl, rfl⟩)
           refine pU 16 97 (bA 17 131071) HT_ ?_
           refine done_ (done_of HT_.out kR) ?_
           try go_wp2
           go_meet
           case rel => exact ⟨_, (false), eQ, H', ⟨by have := HK1.out; have := HJ12.out; have := HJ16.out; first | omega | exact Nat.le_refl _⟩, ⟨by repeat (first | (with_reducible first | exact HK.out | apply Kept.alloc | apply Kept.drewN | apply Kept.drew) | exact HK.out)⟩, ⟨bQ⟩⟩
         case rest =>
          clear HC23; (try clear c5); (try clear c5b0); (try clear c9); (try clear c9b0); (try clear c9b1); (try clear c10); (try clear c12); (try clear c12b0); (try clear c12b1); obtain ⟨kq, x97_22, rfl, HA, HJ22, HK, HB⟩ := hcut
          cases kq with
          | zero => exact absurd HA.out (by simp [slices_pdqsortCmpFunc_impl_Peg_at_impl_comparePegs.j3])
          | succ kj22 =>
           have H := HA.out; clear HA
           simp only [slices_pdqsortCmpFunc_impl_Peg_at_impl_comparePegs.j3] at H
           by_cases c34 : x97_22 = true
           ·subst c34; replace H := iT H
            exact absurd H (by simp)
           ·replace c34 := Bool.eq_false_iff.mpr c34; subst c34; replace H := iF H
            exact absurd H (by simp)
    ·replace c10 := Bool.eq_false_iff.mpr c10; subst c10; replace H := iF H
     exact absurd H (by simp)
end Go.Proofs.Ytoeclfihlhmnpaa.X
