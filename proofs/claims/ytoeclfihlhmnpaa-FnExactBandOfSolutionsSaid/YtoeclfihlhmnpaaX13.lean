-- thin
-- short
-- compact
import Derived.Test.YtoeclfihlhmnpaaXA
import Derived.Test.YtoeclfihlhmnpaaX0
import Derived.Test.YtoeclfihlhmnpaaX12
namespace Go.Proofs.Ytoeclfihlhmnpaa.X
open Go.RowKit Go.Proofs.Ytoeclfihlhmnpaa.XW Go.Proofs.YtoeclfihlhmnpaaW.PrintWords Go.Proofs.YtoeclfihlhmnpaaW.PrintLast Go.Proofs.YtoeclfihlhmnpaaW.PrintMore
attribute [local go_sem] max2_int min2_int max_two min_two max_three min_three max_four min_four   -- for this text's walks alone
set_option linter.unusedVariables false
set_option linter.unusedSimpArgs false

mutual
def slices_insertionSortCmpFunc_impl_Peg_at_impl_comparePegs.l0 : Nat → List (S_impl_Peg) → Int → Int → Int → Option ((List (S_impl_Peg)))
 | 0, _, _, _, _ => none
 | k + 1, x0, x1, x2, x8 => if x8 < x2 then (slices_insertionSortCmpFunc_impl_Peg_at_impl_comparePegs.l1 k x0 x1 x2 x8 x8) else (some x0)
def slices_insertionSortCmpFunc_impl_Peg_at_impl_comparePegs.l1 : Nat → List (S_impl_Peg) → Int → Int → Int → Int → Option ((List (S_impl_Peg)))
 | 0, _, _, _, _, _ => none
 | k + 1, x0, x1, x2, x8, x9 => if x9 > x1 then (if 0 ≤ x9 then (if x9 < (x0.length : Int) then (if 0 ≤ (wrap64 (x9 - 1)) then (if (wrap64 (x9 - 1)) < (x0.length : Int) then ((impl_comparePegs.f k ((rd_impl_Peg x0 x9).f0) ((rd_impl_Peg x0 x9).f1) ((rd_impl_Peg x0 (wrap64 (x9 - 1))).f0) ((rd_impl_Peg x0 (wrap64 (x9 - 1))).f1)).bind fun t348 => (if t348 < 0 then (slices_insertionSortCmpFunc_impl_Peg_at_impl_comparePegs.l1 k ((x0.set (x9 : Int).toNat (⟨(rd_impl_Peg x0 (wrap64 (x9 - 1))).f0, (rd_impl_Peg x0 (wrap64 (x9 - 1))).f1⟩ : S_impl_Peg)).set ((wrap64 (x9 - 1)) : Int).toNat (⟨(rd_impl_Peg x0 x9).f0, (rd_impl_Peg x0 x9).f1⟩ : S_impl_Peg)) x1 x2 x8 (wrap64 (x9 - 1))) else (slices_insertionSortCmpFunc_impl_Peg_at_impl_comparePegs.l0 k x0 x1 x2 (wrap64 (x8 + 1))))) else (none)) else (none)) else (none)) else (none)) else (slices_insertionSortCmpFunc_impl_Peg_at_impl_comparePegs.l0 k x0 x1 x2 (wrap64 (x8 + 1)))
end
def slices_insertionSortCmpFunc_impl_Peg_at_impl_comparePegs.f (k : Nat) (l0 : List (S_impl_Peg)) (a1 : Int) (a2 : Int) : Option ((List (S_impl_Peg))) := slices_insertionSortCmpFunc_impl_Peg_at_impl_comparePegs.l0 k l0 a1 a2 (wrap64 (a1 + 1))
theorem slices_insertionSortCmpFunc_impl_Peg_at_impl_comparePegs.mono_l : ∀ k, (∀ y0 y1 y2 y3, LeO (slices_insertionSortCmpFunc_impl_Peg_at_impl_comparePegs.l0 k y0 y1 y2 y3) (slices_insertionSortCmpFunc_impl_Peg_at_impl_comparePegs.l0 (k + 1) y0 y1 y2 y3)) ∧ (∀ y0 y1 y2 y3 y4, LeO (slices_insertionSortCmpFunc_impl_Peg_at_impl_comparePegs.l1 k y0 y1 y2 y3 y4) (slices_insertionSortCmpFunc_impl_Peg_at_impl_comparePegs.l1 (k + 1) y0 y1 y2 y3 y4))
 | 0 => ⟨fun _ _ _ _ r h => by simp [slices_insertionSortCmpFunc_impl_Peg_at_impl_comparePegs.l0] at h, fun _ _ _ _ _ r h => by simp [slices_insertionSortCmpFunc_impl_Peg_at_impl_comparePegs.l1] at h⟩
 | k + 1 => by
  obtain ⟨ih0, ih1⟩ := slices_insertionSortCmpFunc_impl_Peg_at_impl_comparePegs.mono_l k
  refine ⟨?_, ?_⟩ <;> intros <;> (first | unfold slices_insertionSortCmpFunc_impl_Peg_at_impl_comparePegs.l0 | unfold slices_insertionSortCmpFunc_impl_Peg_at_impl_comparePegs.l1) <;> repeat' first | (with_reducible exact ih0 _ _ _ _) | (with_reducible exact ih1 _ _ _ _ _) | (with_reducible exact impl_comparePegs.mono _ _ _ _ _) | (with_reducible exact LeO.refl _) | (with_reducible exact LeO.none _) | (with_reducible refine LeO.ite ?_ ?_) | (with_reducible refine LeO.bind ?_ (fun _ => ?_)) | exact ih0 _ _ _ _ | exact ih1 _ _ _ _ _ | exact impl_comparePegs.mono _ _ _ _ _ | exact LeO.none _ | refine LeO.ite ?_ ?_ | refine LeO.bind ?_ (fun _ => ?_)
theorem slices_insertionSortCmpFunc_impl_Peg_at_impl_comparePegs.mono : ∀ a0 a1 a2 k, LeO (slices_insertionSortCmpFunc_impl_Peg_at_impl_comparePegs.f k a0 a1 a2) (slices_insertionSortCmpFunc_impl_Peg_at_impl_comparePegs.f (k + 1) a0 a1 a2) := by
 intro a0 a1 a2 k
 obtain ⟨ih0, ih1⟩ := slices_insertionSortCmpFunc_impl_Peg_at_impl_comparePegs.mono_l k
 unfold slices_insertionSortCmpFunc_impl_Peg_at_impl_comparePegs.f
 repeat' first | (with_reducible exact ih0 _ _ _ _) | (with_reducible exact ih1 _ _ _ _ _) | (with_reducible exact impl_comparePegs.mono _ _ _ _ _) | (with_reducible exact LeO.refl _) | (with_reducible exact LeO.none _) | (with_reducible refine LeO.ite ?_ ?_) | (with_reducible refine LeO.bind ?_ (fun _ => ?_)) | exact ih0 _ _ _ _ | exact ih1 _ _ _ _ _ | exact impl_comparePegs.mono _ _ _ _ _ | exact LeO.none _ | refine LeO.ite ?_ ?_ | refine LeO.bind ?_ (fun _ => ?_)
def slices_insertionSortCmpFunc_impl_Peg_at_impl_comparePegs.T4 : Bool × List (List Nat × List Nat) := (true, [([], []), ([], []), ([0, 1], [0, 1]), ([2], [2]), ([3], [3]), ([3], [3]), ([3], [3]), ([5, 6, 3], [3, 5, 6]), ([7, 3], [3, 7]), ([3], [3]), ([3], [3]), ([10, 3], [3, 10]), ([9, 11, 3], [3, 9, 11]), ([12, 3], [3, 12]), ([4, 8, 13, 3, 3], [3, 4, 8, 13]), ([14, 3], [3, 14]), ([3, 15], [3, 15])])
def slices_insertionSortCmpFunc_impl_Peg_at_impl_comparePegs.B4 : List Nat := [0, 0, 3, 7, 15, 15, 15, 111, 239, 15, 15, 1039, 3599, 7695, 16383, 32767, 65535]
theorem slices_insertionSortCmpFunc_impl_Peg_at_impl_comparePegs.tab4 : rtab .any (opsOf Try.f121 4) = slices_insertionSortCmpFunc_impl_Peg_at_impl_comparePegs.T4 := by kernel_rfl
theorem slices_insertionSortCmpFunc_impl_Peg_at_impl_comparePegs.bits4 : waitsOk slices_insertionSortCmpFunc_impl_Peg_at_impl_comparePegs.T4.2 slices_insertionSortCmpFunc_impl_Peg_at_impl_comparePegs.B4 = true := by kernel_rfl
def slices_insertionSortCmpFunc_impl_Peg_at_impl_comparePegs.T6 : Bool × List (List Nat × List Nat) := (true, [([], []), ([], []), ([], []), ([], []), ([3], [3]), ([], []), ([], []), ([6], [6]), ([5, 7], [5, 7]), ([8], [8]), ([], []), ([], []), ([10, 11], [10, 11]), ([12], [12]), ([0, 1, 0, 1, 5, 6, 7, 8, 9, 13], [0, 1]), ([14, 9, 0, 1, 5, 6, 7, 8, 9, 13], [9, 14]), ([2, 4, 0, 1, 2, 3, 4, 5, 6, 7, 8, 9, 10, 11, 12, 13, 14, 15], [2, 4]), ([16, 13, 15, 0, 1, 2, 3, 4, 5, 6, 7, 8, 9, 10, 11, 12, 13, 14, 15], [13, 16])])
def slices_insertionSortCmpFunc_impl_Peg_at_impl_comparePegs.B6 : List Nat := [0, 0, 0, 0, 8, 0, 0, 64, 224, 480, 0, 0, 3072, 7168, 16355, 32739, 65535, 131071]
theorem slices_insertionSortCmpFunc_impl_Peg_at_impl_comparePegs.tab6 : rtab .any (opsOf Try.f121 6) = slices_insertionSortCmpFunc_impl_Peg_at_impl_comparePegs.T6 := by kernel_rfl
theorem slices_insertionSortCmpFunc_impl_Peg_at_impl_comparePegs.bits6 : waitsOk slices_insertionSortCmpFunc_impl_Peg_at_impl_comparePegs.T6.2 slices_insertionSortCmpFunc_impl_Peg_at_impl_comparePegs.B6 = true := by kernel_rfl
set_option maxHeartbeats 8000000 in
set_option maxRecDepth 100000 in
theorem slices_insertionSortCmpFunc_impl_Peg_at_impl_comparePegs.calls (k : Nat) (P0_ : Nat → Prop) (u9000_ : Value) (l0 : List (S_impl_Peg)) (a1 : Int) (a2 : Int) (r : List (S_impl_Peg)) (w0 w : World) (hB : Below w0.heap.size w0 w) (ho0 : Kd.R kd_impl_Peg 41 w w0.heap.size P0_ u9000_ l0) (h : slices_insertionSortCmpFunc_impl_Peg_at_impl_comparePegs.f k l0 a1 a2 = some r) :
  Calls Try.prog 121 #[u9000_, .int .i64 a1, .int .i64 a2, .func (.func 108) #[] #[]] w fun e w' => e = .returned (.tuple #[]) ∧ Kd.R kd_impl_Peg 41 w' w0.heap.size (fun k_ => (P0_ k_ ∨ w.heap.size ≤ k_)) u9000_ r ∧ Below w0.heap.size w0 w' ∧ Kept w w' (fun k_ => P0_ k_) := by
 have hu41 := Try.underlying41; have HO0 := aM (show Kd.R kd_impl_Peg 41 w w0.heap.size (fun k_ => (P0_ k_ ∨ w.heap.size ≤ k_)) u9000_ l0 from Kd.R_mono ho0 (fun k_ hk => (.inl hk))); have HK := aM (Kept.refl w (fun k_ => P0_ k_)); have HW0 := aM hB.size; have HB := aM hB; clear hB
 unfold slices_insertionSortCmpFunc_impl_Peg_at_impl_comparePegs.f at h; have H := h; clear h
 have H' := aM H; clear H
 go_enter Try.func121, Try.ntmps121
 go_wp2
 go_loopg [8] k (fun kq v8 w' => ∃ (x0_1 : List (S_impl_Peg)) (x8_1 : Int), v8 = .int .i64 x8_1 ∧ Aside0 (slices_insertionSortCmpFunc_impl_Peg_at_impl_comparePegs.l0 kq x0_1 a1 a2 x8_1 = some r) ∧ Aside0 (kq ≤ k) ∧ Aside0 (Kd.R kd_impl_Peg 41 w' w0.heap.size (fun k_ => (P0_ k_ ∨ w.heap.size ≤ k_)) u9000_ x0_1) ∧ Aside0 (Kept w w' (fun k_ => P0_ k_)) ∧ Aside0 (Below w0.heap.size w0 w'))
 case atStart => exact ⟨(l0), (wrap64 (a1 + 1)), eQ, H', ⟨Nat.le_refl _⟩, ⟨by (with_reducible repeat (first | apply rA | apply rN | apply rD)); exact HO0.out⟩, ⟨by repeat (first | (with_reducible first | exact HK.out | apply Kept.alloc | apply Kept.drewN | apply Kept.drew) | exact HK.out)⟩, ⟨bQ⟩⟩
 case round =>
  clear H'; obtain ⟨x0_1, x8_1, rfl, HA, HK1, HO_0, HK, HB⟩ := hrel
  cases gk with
  | zero => exact absurd HA.out (by simp [slices_insertionSortCmpFunc_impl_Peg_at_impl_comparePegs.l0])
  | succ k1 =>
   have H := HA.out; clear HA
   simp only [slices_insertionSortCmpFunc_impl_Peg_at_impl_comparePegs.l0] at H
   by_cases c4 : x8_1 < a2
   ·rw [if_pos c4] at H; have c4b0 := dE c4; clear c4; have H' := aM H; clear H; go_wp2
    go_loopg [9] k1 (fun kq v9 w' => ∃ (x0_2 : List (S_impl_Peg)) (x9_2 : Int), v9 = .int .i64 x9_2 ∧ Aside0 (slices_insertionSortCmpFunc_impl_Peg_at_impl_comparePegs.l1 kq x0_2 a1 a2 x8_1 x9_2 = some r) ∧ Aside0 (kq ≤ k1) ∧ Aside0 (Kd.R kd_impl_Peg 41 w' w0.heap.size (fun k_ => (P0_ k_ ∨ w.heap.size ≤ k_)) u9000_ x0_2) ∧ Aside0 (Kept w w' (fun k_ => P0_ k_)) ∧ Aside0 (Below w0.heap.size w0 w'))
    case atStart => exact ⟨(x0_1), (x8_1), eQ, H', ⟨Nat.le_refl _⟩, ⟨by (with_reducible repeat (first | apply rA | apply rN | apply rD)); exact HO_0.out⟩, ⟨by repeat (first | (with_reducible first | exact HK.out | apply Kept.alloc | apply Kept.drewN | apply Kept.drew) | exact HK.out)⟩, ⟨bQ⟩⟩
    case round =>
     clear H'; (try clear c4); (try clear c4b0); obtain ⟨x0_2, x9_2, rfl, HA, HK2, HO_0, HK, HB⟩ := hrel
     cases gk with
     | zero => exact absurd HA.out (by simp [slices_insertionSortCmpFunc_impl_Peg_at_impl_comparePegs.l1])
     | succ k2 =>
      have H := HA.out; clear HA
      simp only [slices_insertionSortCmpFunc_impl_Peg_at_impl_comparePegs.l1] at H
      by_cases c5 : x9_2 > a1
      ·rw [if_pos c5] at H; have c5b0 := dE c5; clear c5; replace H := iD H; obtain ⟨c6b0, H⟩ := H; replace H := iD H; obtain ⟨c7b0, H⟩ := H; obtain ⟨ji8, hji8⟩ : ∃ j_ : Int, (wrap64 (x9_2 - 1)) = j_ := ⟨_, rfl⟩
       (first | rw [hji8] at H | simp only [hji8] at H)
       have hji8w : (IntKind.i64.wrap (x9_2 - 1)) = ji8 := (i64_w _).trans hji8; replace H := iD H; obtain ⟨c9b0, H⟩ := H; replace H := iD H; obtain ⟨c10b0, H⟩ := H; replace H := bS H; obtain ⟨t348, A11, H⟩ := H
       by_cases c12 : t348 < 0
       ·rw [if_pos c12] at H; have c12b0 := dE c12; clear c12; obtain ⟨y351, hy351⟩ : ∃ y_ : List (S_impl_Peg), y_ = (x0_2.set (x9_2 : Int).toNat (⟨(rd_impl_Peg x0_2 (ji8)).f0, (rd_impl_Peg x0_2 (ji8)).f1⟩ : S_impl_Peg)) := ⟨_, rfl⟩; rw [← hy351] at H; have Ny351 := aM hy351; clear hy351; obtain ⟨y352, hy352⟩ : ∃ y_ : List (S_impl_Peg), y_ = (y351.set ((ji8) : Int).toNat (⟨(rd_impl_Peg x0_2 x9_2).f0, (rd_impl_Peg x0_2 x9_2).f1⟩ : S_impl_Peg)) := ⟨_, rfl⟩; rw [← hy352] at H; have Ny352 := aM hy352; clear hy352; have H' := aM H; clear H
        try go_wp2
        replace HO_0 := aM (rD HO_0.out); replace HK := aM (Kept.drew HK.out); replace HB := aM (pD HB.out); obtain ⟨Ao16, co16, eo16⟩ := Kd.R_slice HO_0.out
        (first | subst eo16 | (injection eo16 with f1_ f2_ f3_; have f4_ := f1_.symm; have f5_ := f3_.symm; clear f1_ f2_ f3_; subst f4_; subst f5_))
        have p346 : 0 ≤ (x9_2 : Int) := dT aQ; have q346 : x9_2 < (x0_2.length : Int) := dT aQ; obtain ⟨ad346, e346, hx346_0, hx346_1⟩ := at_impl_Peg (rR HO_0.out).2.2 x9_2 p346 q346
        cases e346
        replace p346 := eq_true p346; replace q346 := eq_true q346; have p347 : 0 ≤ ((ji8) : Int) := dT aQ; have q347 : (ji8) < (x0_2.length : Int) := dT aQ; obtain ⟨ad347, e347, hx347_0, hx347_1⟩ := at_impl_Peg (rR HO_0.out).2.2 (ji8) p347 q347; obtain rfl : ad346 = ad347 := (by injection e347)
        replace p347 := eq_true p347; replace q347 := eq_true q347
        refine start_ (n := 17) (S := fun w' => w'.cell? (ad346.add ((x9_2).toNat * 2)) = some (.int .i64 ((rd_impl_Peg x0_2 x9_2).f0)) ∧ w'.cell? ⟨(ad346.add ((x9_2).toNat * 2)).block, (ad346.add ((x9_2).toNat * 2)).off + 1, none⟩ = some (.int .i64 ((rd_impl_Peg x0_2 x9_2).f1)) ∧ w'.cell? (ad346.add (((ji8)).toNat * 2)) = some (.int .i64 ((rd_impl_Peg x0_2 (ji8)).f0)) ∧ w'.cell? ⟨(ad346.add (((ji8)).toNat * 2)).block, (ad346.add (((ji8)).toNat * 2)).off + 1, none⟩ = some (.int .i64 ((rd_impl_Peg x0_2 (ji8)).f1))) (ds := []) (bA 17 0) kR rfl kR ⟨hx346_0, hx346_1, hx347_0, hx347_1⟩ (fun hHeld => ?_); refine with_tabW slices_insertionSortCmpFunc_impl_Peg_at_impl_comparePegs.tab4 slices_insertionSortCmpFunc_impl_Peg_at_impl_comparePegs.bits4 (fun HT_ HW_ => ?_)
        generalize wr.drew = w15 at HO_0 HK HB hx346_0 hx346_1 hx347_0 hx347_1 hHeld ⊢
        refine pU 0 18 (bA 17 1) HT_ ?_; refine pU 1 19 (bA 17 3) HT_ ?_; refine pU 2 20 (bA 17 7) HT_ ?_; refine pU 3 21 (bA 17 15) HT_ ?_; refine pU 4 22 (bA 17 31) HT_ ?_; refine pU 5 23 (bA 17 63) HT_ ?_; refine pU 6 24 (bA 17 127) HT_ ?_; refine pU 7 25 (bA 17 255) HT_ ?_; refine pU 9 27 (bA 17 767) HT_ ?_; refine pU 10 28 (bA 17 1791) HT_ ?_; refine pU 11 29 (bA 17 3839) HT_ ?_; refine pU 12 30 (bA 17 7935) HT_ ?_
        refine tU 8 26 (bA 17 8191) HT_ HW_ hHeld ?_ (hy := Or.inl ⟨by rfl, by rintro w' ⟨s0, s1, s2, s3⟩; go_simp; with_reducible rfl⟩)
        refine tU 13 31 (bA 17 16383) HT_ HW_ hHeld ?_ (hy := Or.inl ⟨by rfl, by rintro w' ⟨s0, s1, s2, s3⟩; go_simp; with_reducible rfl⟩)
        refine oU 14 32 (bA 17 32767) HT_ (fun K hK => ?_)
        refine goesT_ Try.func108 kR rfl #[.agg #[.int .i64 ((rd_impl_Peg x0_2 x9_2).f0), .int .i64 ((rd_impl_Peg x0_2 x9_2).f1)], .agg #[.int .i64 ((rd_impl_Peg x0_2 (ji8)).f0), .int .i64 ((rd_impl_Peg x0_2 (ji8)).f1)]] (by rfl) rfl rfl (by first | rfl | (simp [Act.eval]; done)) (by (try simp only [mA, mC, mN]); first | done | (simp only [hji8]; rfl) | rfl | (simp only [lD, lT]; rfl)) ?_
        with_reducible refine (impl_comparePegs.calls k2 ((rd_impl_Peg x0_2 x9_2).f0) ((rd_impl_Peg x0_2 x9_2).f1) ((rd_impl_Peg x0_2 (ji8)).f0) ((rd_impl_Peg x0_2 (ji8)).f1) t348 _ A11.out).mono ?_
        rintro e w17 ⟨rfl, hb⟩; have HS0_ := (hb.cell (wB _ _ (hHeld.1))).trans (hHeld.1); have HS1_ := (hb.cell (wB _ _ (hHeld.2.1))).trans (hHeld.2.1); have HS2_ := (hb.cell (wB _ _ (hHeld.2.2.1))).trans (hHeld.2.2.1); have HS3_ := (hb.cell (wB _ _ (hHeld.2.2.2))).trans (hHeld.2.2.2); refine ⟨_, rfl, ?_⟩; replace HO_0 := aM (Kd.R_below (by (with_reducible repeat (first | apply rA | apply rN | apply rD)); exact HO_0.out) hb); replace HK := aM (Kept.below (S := (fun k_ => P0_ k_)) (by repeat (first | (with_reducible first | exact HK.out | apply Kept.alloc | apply Kept.drewN | apply Kept.drew) | exact HK.out)) hb); replace HB := tB HB hb
        (try clear hb); (try clear hb2); (try clear hk); (try clear hi)
        refine hK.out _ _ ⟨HS0_, HS1_, HS2_, HS3_⟩ (fun hHeld => ?_)
        clear hK K
        refine nU ?_
        refine pU 15 33 (bA 17 65535) HT_ ?_; refine pU 16 34 (bA 17 131071) HT_ ?_
        refine done_ (done_of HT_.out kR) ?_
        try go_wp2
        replace HO_0 := aM (rD HO_0.out); replace HK := aM (Kept.drew HK.out); replace HB := aM (pD HB.out); have p349 : 0 ≤ ((ji8) : Int) := dT aQ; have q349 : (ji8) < (x0_2.length : Int) := dT aQ; obtain ⟨ad349, e349, hx349_0, hx349_1⟩ := at_impl_Peg (rR HO_0.out).2.2 (ji8) p349 q349; obtain rfl : ad346 = ad349 := (by injection e349)
        replace p349 := eq_true p349; replace q349 := eq_true q349; have p350 : 0 ≤ (x9_2 : Int) := dT aQ; have q350 : x9_2 < (x0_2.length : Int) := dT aQ; obtain ⟨ad350, e350, hx350_0, hx350_1⟩ := at_impl_Peg (rR HO_0.out).2.2 x9_2 p350 q350; obtain rfl : ad346 = ad350 := (by injection e350)
        replace p350 := eq_true p350; replace q350 := eq_true q350; have p13 : 0 ≤ (x9_2 : Int) := dT aQ; have q13 : (x9_2 : Int) < ((x0_2.length : Int) : Int) := dT aQ; obtain ⟨go13, co13, eo13, gb13, gl13, cl13, HG13⟩ := Kd.R_form HO_0.out (by omega)
        (first | cases eo13 | (injection eo13 with ea_ en_ ec_; (first | subst ea_ | (injection ea_ with ea_; subst ea_)); subst ec_; clear en_))
        have GB13 := aM gb13; have GG13 := aM HG13; clear gb13 gl13 HG13; have HMgo13 := aM (show (P0_ go13 ∨ w.heap.size ≤ go13) from (HO_0.out.1 _ rfl))
        (first | simp only [add_plain] at hx346_0 | skip)
        (first | simp only [add_plain] at hx346_1 | skip)
        (first | simp only [add_plain] at hx347_0 | skip)
        (first | simp only [add_plain] at hx347_1 | skip)
        (first | simp only [add_plain] at hx349_0 | skip)
        (first | simp only [add_plain] at hx349_1 | skip)
        (first | simp only [add_plain] at hx350_0 | skip)
        (first | simp only [add_plain] at hx350_1 | skip)
        obtain ⟨ce13, hcl13, hM13, hcc13, hfr13⟩ := Kd.R_elem HO_0.out z_impl_Peg (x9_2 : Int) p13 q13; obtain rfl := kd_impl_Peg_openM hM13; have hx13_0 : World.cell? _ ⟨go13, (x9_2 : Int).toNat * 2, none⟩ = some (.int .i64 ((rd_impl_Peg x0_2 x9_2).f0)) := hcc13 0 _ rfl; have hx13_1 : World.cell? _ ⟨go13, (x9_2 : Int).toNat * 2 + 1, none⟩ = some (.int .i64 ((rd_impl_Peg x0_2 x9_2).f1)) := hcc13 1 _ rfl; have hf13_0 : World.frozen? _ ⟨go13, (x9_2 : Int).toNat * 2, none⟩ = false := hfr13 0; have hf13_1 : World.frozen? _ ⟨go13, (x9_2 : Int).toNat * 2 + 1, none⟩ = false := hfr13 1; clear hcl13 hcc13 hfr13 hM13; replace p13 := eq_true p13; replace q13 := eq_true q13; obtain ⟨ce19, hcl19, hM19, hcc19, hfr19⟩ := Kd.R_elem HO_0.out z_impl_Peg (x9_2 : Int) (dT aQ) (by have h_ : (x9_2 : Int) < ((x0_2.length : Int) : Int) := dT aQ; first | exact h_ | (have e_ := (rR HO_0.out).1; omega) | simpa using h_)
        obtain rfl := kd_impl_Peg_openM hM19; have HP19 := (Kd.R_seg HO_0.out (x9_2 : Int) (dT aQ) (by have h_ : (x9_2 : Int) < ((x0_2.length : Int) : Int) := dT aQ; first | exact h_ | (have e_ := (rR HO_0.out).1; omega) | simpa using h_) (seg := [.int .i64 ((rd_impl_Peg x0_2 (ji8)).f0), .int .i64 ((rd_impl_Peg x0_2 (ji8)).f1)]) (j := 0) hcl19 hcc19 (show 2 ≤ 2 from by decide) (x' := (⟨(rd_impl_Peg x0_2 (ji8)).f0, (rd_impl_Peg x0_2 (ji8)).f1⟩ : S_impl_Peg)) (kd_impl_Peg_mkM _ _ _ (⟨(rd_impl_Peg x0_2 (ji8)).f0, (rd_impl_Peg x0_2 (ji8)).f1⟩ : S_impl_Peg) ) (fun _ hk => hk)).1
        rw [← Ny351.out] at HP19; have HQ19 := aM HP19; clear hcl19 hcc19 hfr19 hM19 HP19; have p14 : 0 ≤ ((ji8) : Int) := dT aQ; have q14 : ((ji8) : Int) < ((x0_2.length : Int) : Int) := dT aQ; obtain ⟨ce14, hcl14, hM14, hcc14, hfr14⟩ := Kd.R_elem HQ19.out z_impl_Peg ((ji8) : Int) p14 q14; obtain rfl := kd_impl_Peg_openM hM14; have hx14_0 : World.cell? _ ⟨go13, ((ji8) : Int).toNat * 2, none⟩ = some (.int .i64 ((rd_impl_Peg y351 (ji8)).f0)) := hcc14 0 _ rfl; have hx14_1 : World.cell? _ ⟨go13, ((ji8) : Int).toNat * 2 + 1, none⟩ = some (.int .i64 ((rd_impl_Peg y351 (ji8)).f1)) := hcc14 1 _ rfl; have hf14_0 : World.frozen? _ ⟨go13, ((ji8) : Int).toNat * 2, none⟩ = false := hfr14 0; have hf14_1 : World.frozen? _ ⟨go13, ((ji8) : Int).toNat * 2 + 1, none⟩ = false := hfr14 1; clear hcl14 hcc14 hfr14 hM14; replace p14 := eq_true p14; replace q14 := eq_true q14; obtain ⟨ce20, hcl20, hM20, hcc20, hfr20⟩ := Kd.R_elem HQ19.out z_impl_Peg ((ji8) : Int) (dT aQ) (by have h_ : ((ji8) : Int) < ((x0_2.length : Int) : Int) := dT aQ; first | exact h_ | (have e_ := (rR HO_0.out).1; omega) | simpa using h_)
        obtain rfl := kd_impl_Peg_openM hM20; have HP20 := (Kd.R_seg HQ19.out ((ji8) : Int) (dT aQ) (by have h_ : ((ji8) : Int) < ((x0_2.length : Int) : Int) := dT aQ; first | exact h_ | (have e_ := (rR HO_0.out).1; omega) | simpa using h_) (seg := [.int .i64 ((rd_impl_Peg x0_2 x9_2).f0), .int .i64 ((rd_impl_Peg x0_2 x9_2).f1)]) (j := 0) hcl20 hcc20 (show 2 ≤ 2 from by decide) (x' := (⟨(rd_impl_Peg x0_2 x9_2).f0, (rd_impl_Peg x0_2 x9_2).f1⟩ : S_impl_Peg)) (kd_impl_Peg_mkM _ _ _ (⟨(rd_impl_Peg x0_2 x9_2).f0, (rd_impl_Peg x0_2 x9_2).f1⟩ : S_impl_Peg) ) (fun _ hk => hk)).1
        rw [← Ny352.out] at HP20; have HQ20 := aM HP20; clear hcl20 hcc20 hfr20 hM20 HP20
        refine start_ (n := 18) (S := fun w' => w'.cell? ⟨go13, (((ji8)).toNat * 2), none⟩ = some (.int .i64 ((rd_impl_Peg x0_2 (ji8)).f0)) ∧ w'.cell? ⟨go13, (((ji8)).toNat * 2) + 1, none⟩ = some (.int .i64 ((rd_impl_Peg x0_2 (ji8)).f1)) ∧ w'.cell? ⟨go13, ((x9_2).toNat * 2), none⟩ = some (.int .i64 ((rd_impl_Peg x0_2 x9_2).f0)) ∧ w'.cell? ⟨go13, ((x9_2).toNat * 2) + 1, none⟩ = some (.int .i64 ((rd_impl_Peg x0_2 x9_2).f1))) (ds := [15, 17]) (bA 18 0) kR rfl rfl ⟨hx349_0, hx349_1, hx350_0, hx350_1⟩ (fun hHeld => ?_); refine with_tabW slices_insertionSortCmpFunc_impl_Peg_at_impl_comparePegs.tab6 slices_insertionSortCmpFunc_impl_Peg_at_impl_comparePegs.bits6 (fun HT_ HW_ => ?_)
        generalize w17.drew = w18 at HO_0 HK HB GG13 HQ19 HQ20 hf13_0 hf13_1 hf14_0 hf14_1 hx13_0 hx13_1 hx14_0 hx14_1 hx346_0 hx346_1 hx347_0 hx347_1 hx349_0 hx349_1 hx350_0 hx350_1 hHeld ⊢
        obtain ⟨vs0_, hs0_⟩ := cell?_setCell_some (p := ⟨go13, (x9_2 : Int).toNat * 2, none⟩) (x := .int .i64 ((rd_impl_Peg x0_2 (ji8)).f0)) hx349_0; obtain ⟨va_, ha_⟩ := cell?_setCell_some (p := ⟨go13, (x9_2 : Int).toNat * 2, none⟩) (x := .int .i64 ((rd_impl_Peg x0_2 (ji8)).f0)) hx349_1; obtain ⟨vs1_, hs1_⟩ := cell?_setCell_some (p := ⟨go13, (x9_2 : Int).toNat * 2 + 1, none⟩) (x := .int .i64 ((rd_impl_Peg x0_2 (ji8)).f1)) ha_; clear ha_
        obtain ⟨ce_, hcl_, hM_, hcc_, hfr_⟩ := Kd.R_elem HO_0.out z_impl_Peg ((ji8) : Int) (dT aQ) (dT aQ); have hz0_ : World.frozen? _ ⟨go13, ((ji8) : Int).toNat * 2, none⟩ = false := hfr_ 0; have hz1_ : World.frozen? _ ⟨go13, ((ji8) : Int).toNat * 2 + 1, none⟩ = false := hfr_ 1; clear hcl_ hM_ hcc_ hfr_
        refine pU 0 37 (bA 18 1) HT_ ?_; refine pU 1 38 (bA 18 3) HT_ ?_; refine pU 2 39 (bA 18 7) HT_ ?_; refine pU 3 40 (bA 18 15) HT_ ?_; refine pU 4 41 (bA 18 31) HT_ ?_; refine pU 5 42 (bA 18 63) HT_ ?_; refine pU 6 43 (bA 18 127) HT_ ?_; refine pU 7 44 (bA 18 255) HT_ ?_; refine pU 8 45 (bA 18 511) HT_ ?_; refine pU 10 47 (bA 18 1535) HT_ ?_; refine pU 11 48 (bA 18 3583) HT_ ?_; refine pU 12 49 (bA 18 7679) HT_ ?_
        refine tU 9 46 (bA 18 8191) HT_ HW_ hHeld ?_ (hy := Or.inl ⟨by rfl, by rintro w' ⟨s0, s1, s2, s3⟩; go_simp; with_reducible rfl⟩)
        refine tU 13 50 (bA 18 16383) HT_ HW_ hHeld ?_ (hy := Or.inl ⟨by rfl, by rintro w' ⟨s0, s1, s2, s3⟩; go_simp; with_reducible rfl⟩)
        refine pU 14 51 (bA 18 32767) HT_ ?_
        refine last_ (i := 15) (N := none) (bA 18 65535) rfl rfl (one_of HT_.out kR) (by decide) (fun K hK => ?_)
        refine skip_ (w1 := ?_) (by rfl) rfl ?_ ?_
        rotate_left
        ·go_simp
         rfl
        refine hK.out _ _ ?_
        clear hK K; refine pU 16 52 (bA 18 131071) HT_ ?_
        refine last_ (i := 17) (N := none) (bA 18 262143) rfl rfl (one_of HT_.out kR) (by decide) (fun K hK => ?_)
        refine skip_ (w1 := ?_) (by rfl) rfl ?_ ?_
        rotate_left
        ·go_simp
         rfl
        refine hK.out _ _ ?_
        clear hK K
        refine done_ (done_of HT_.out kR) ?_
        try go_wp2
        go_roundg k2
        case measure => have := HK1.out; have := HK2.out; omega
        case rel => exact ⟨(y352), (ji8), (by first | rfl | (simp; done) | (simp only [← hji8] <;> (first | rfl | simp)) | (simp [*]; done)), H', ⟨by have := HK1.out; have := HK2.out; omega⟩, ⟨by (with_reducible repeat (first | apply rA | apply rN | apply rD)); exact HQ20.out⟩, ⟨by repeat (first | (with_reducible first | exact HK.out | apply Kept.alloc | apply Kept.drewN | apply Kept.drew | refine Kept.setCell ?_ HMgo13.out _ | refine Kept.setCell ?_ HMgo13.out _ | refine Kept.setCell ?_ HMgo13.out _ | refine Kept.setCell ?_ HMgo13.out _) | exact HK.out)⟩, ⟨by repeat (first | (with_reducible first | exact HB.out | apply pA | apply pN | apply pD | refine pS ?_ GB13.out | refine pS ?_ GB13.out | refine pS ?_ GB13.out | refine pS ?_ GB13.out) | exact HB.out)⟩⟩
       ·rw [if_neg c12] at H; have c12b0 := decide_eq_false c12; clear c12; have H' := aM H; clear H
        try go_wp2
        replace HO_0 := aM (rD HO_0.out); replace HK := aM (Kept.drew HK.out); replace HB := aM (pD HB.out); obtain ⟨Ao22, co22, eo22⟩ := Kd.R_slice HO_0.out
        (first | subst eo22 | (injection eo22 with f1_ f2_ f3_; have f4_ := f1_.symm; have f5_ := f3_.symm; clear f1_ f2_ f3_; subst f4_; subst f5_))
        have p346 : 0 ≤ (x9_2 : Int) := dT aQ; have q346 : x9_2 < (x0_2.length : Int) := dT aQ; obtain ⟨ad346, e346, hx346_0, hx346_1⟩ := at_impl_Peg (rR HO_0.out).2.2 x9_2 p346 q346
        cases e346
        replace p346 := eq_true p346; replace q346 := eq_true q346; have p347 : 0 ≤ ((ji8) : Int) := dT aQ; have q347 : (ji8) < (x0_2.length : Int) := dT aQ; obtain ⟨ad347, e347, hx347_0, hx347_1⟩ := at_impl_Peg (rR HO_0.out).2.2 (ji8) p347 q347; obtain rfl : ad346 = ad347 := (by injection e347)
        replace p347 := eq_true p347; replace q347 := eq_true q347
        refine start_ (n := 17) (S := fun w' => w'.cell? (ad346.add ((x9_2).toNat * 2)) = some (.int .i64 ((rd_impl_Peg x0_2 x9_2).f0)) ∧ w'.cell? ⟨(ad346.add ((x9_2).toNat * 2)).block, (ad346.add ((x9_2).toNat * 2)).off + 1, none⟩ = some (.int .i64 ((rd_impl_Peg x0_2 x9_2).f1)) ∧ w'.cell? (ad346.add (((ji8)).toNat * 2)) = some (.int .i64 ((rd_impl_Peg x0_2 (ji8)).f0)) ∧ w'.cell? ⟨(ad346.add (((ji8)).toNat * 2)).block, (ad346.add (((ji8)).toNat * 2)).off + 1, none⟩ = some (.int .i64 ((rd_impl_Peg x0_2 (ji8)).f1))) (ds := []) (bA 17 0) kR rfl kR ⟨hx346_0, hx346_1, hx347_0, hx347_1⟩ (fun hHeld => ?_); refine with_tabW slices_insertionSortCmpFunc_impl_Peg_at_impl_comparePegs.tab4 slices_insertionSortCmpFunc_impl_Peg_at_impl_comparePegs.bits4 (fun HT_ HW_ => ?_)
        generalize wr.drew = w21 at HO_0 HK HB hx346_0 hx346_1 hx347_0 hx347_1 hHeld ⊢
        refine pU 0 18 (bA 17 1) HT_ ?_; refine pU 1 19 (bA 17 3) HT_ ?_; refine pU 2 20 (bA 17 7) HT_ ?_; refine pU 3 21 (bA 17 15) HT_ ?_; refine pU 4 22 (bA 17 31) HT_ ?_; refine pU 5 23 (bA 17 63) HT_ ?_; refine pU 6 24 (bA 17 127) HT_ ?_; refine pU 7 25 (bA 17 255) HT_ ?_; refine pU 9 27 (bA 17 767) HT_ ?_; refine pU 10 28 (bA 17 1791) HT_ ?_; refine pU 11 29 (bA 17 3839) HT_ ?_; refine pU 12 30 (bA 17 7935) HT_ ?_
        refine tU 8 26 (bA 17 8191) HT_ HW_ hHeld ?_ (hy := Or.inl ⟨by rfl, by rintro w' ⟨s0, s1, s2, s3⟩; go_simp; with_reducible rfl⟩)
        refine tU 13 31 (bA 17 16383) HT_ HW_ hHeld ?_ (hy := Or.inl ⟨by rfl, by rintro w' ⟨s0, s1, s2, s3⟩; go_simp; with_reducible rfl⟩)
        refine oU 14 32 (bA 17 32767) HT_ (fun K hK => ?_)
        refine goesT_ Try.func108 kR rfl #[.agg #[.int .i64 ((rd_impl_Peg x0_2 x9_2).f0), .int .i64 ((rd_impl_Peg x0_2 x9_2).f1)], .agg #[.int .i64 ((rd_impl_Peg x0_2 (ji8)).f0), .int .i64 ((rd_impl_Peg x0_2 (ji8)).f1)]] (by rfl) rfl rfl (by first | rfl | (simp [Act.eval]; done)) (by (try simp only [mA, mC, mN]); first | done | (simp only [hji8]; rfl) | rfl | (simp only [lD, lT]; rfl)) ?_
        with_reducible refine (impl_comparePegs.calls k2 ((rd_impl_Peg x0_2 x9_2).f0) ((rd_impl_Peg x0_2 x9_2).f1) ((rd_impl_Peg x0_2 (ji8)).f0) ((rd_impl_Peg x0_2 (ji8)).f1) t348 _ A11.out).mono ?_
        rintro e w23 ⟨rfl, hb⟩; have HS0_ := (hb.cell (wB _ _ (hHeld.1))).trans (hHeld.1); have HS1_ := (hb.cell (wB _ _ (hHeld.2.1))).trans (hHeld.2.1); have HS2_ := (hb.cell (wB _ _ (hHeld.2.2.1))).trans (hHeld.2.2.1); have HS3_ := (hb.cell (wB _ _ (hHeld.2.2.2))).trans (hHeld.2.2.2); refine ⟨_, rfl, ?_⟩; replace HO_0 := aM (Kd.R_below (by (with_reducible repeat (first | apply rA | apply rN | apply rD)); exact HO_0.out) hb); replace HK := aM (Kept.below (S := (fun k_ => P0_ k_)) (by repeat (first | (with_reducible first | exact HK.out | apply Kept.alloc | apply Kept.drewN | apply Kept.drew) | exact HK.out)) hb); replace HB := tB HB hb
        (try clear hb); (try clear hb2); (try clear hk); (try clear hi)
        refine hK.out _ _ ⟨HS0_, HS1_, HS2_, HS3_⟩ (fun hHeld => ?_)
        clear hK K
        refine nU ?_
        refine pU 15 33 (bA 17 65535) HT_ ?_; refine pU 16 34 (bA 17 131071) HT_ ?_
        refine done_ (done_of HT_.out kR) ?_
        try go_wp2
        go_roundg k2
        case measure => have := HK1.out; have := HK2.out; omega
        case rel => exact ⟨(x0_2), (wrap64 (x8_1 + 1)), eQ, H', ⟨by have := HK1.out; have := HK2.out; omega⟩, ⟨by (with_reducible repeat (first | apply rA | apply rN | apply rD)); exact HO_0.out⟩, ⟨by repeat (first | (with_reducible first | exact HK.out | apply Kept.alloc | apply Kept.drewN | apply Kept.drew) | exact HK.out)⟩, ⟨bQ⟩⟩
      ·rw [if_neg c5] at H; have c5b0 := decide_eq_false c5; clear c5; have H' := aM H; clear H
       try go_wp2
       replace HO_0 := aM (rD HO_0.out); replace HK := aM (Kept.drew HK.out); replace HB := aM (pD HB.out)
       refine start_ (n := 17) (S := fun w' => True) (ds := []) (bA 17 0) kR rfl kR trivial (fun hHeld => ?_); refine with_tabW slices_insertionSortCmpFunc_impl_Peg_at_impl_comparePegs.tab4 slices_insertionSortCmpFunc_impl_Peg_at_impl_comparePegs.bits4 (fun HT_ HW_ => ?_)
       generalize wr.drew = w24 at HO_0 HK HB hHeld ⊢
       refine pU 0 18 (bA 17 1) HT_ ?_; refine pU 1 19 (bA 17 3) HT_ ?_; refine pU 2 20 (bA 17 7) HT_ ?_; refine pU 3 21 (bA 17 15) HT_ ?_; refine pU 4 22 (bA 17 31) HT_ ?_ (hy := Or.inr ⟨by rfl, rfl⟩)
       refine pU 5 23 (bA 17 63) HT_ ?_ (hy := Or.inr ⟨by rfl, rfl⟩)
       refine pU 6 24 (bA 17 127) HT_ ?_ (hy := Or.inr ⟨by rfl, rfl⟩)
       refine pU 7 25 (bA 17 255) HT_ ?_ (hy := Or.inr ⟨by rfl, rfl⟩)
       refine pU 8 26 (bA 17 511) HT_ ?_ (hy := Or.inr ⟨by rfl, rfl⟩)
       refine pU 9 27 (bA 17 1023) HT_ ?_ (hy := Or.inr ⟨by rfl, rfl⟩)
       refine pU 10 28 (bA 17 2047) HT_ ?_ (hy := Or.inr ⟨by rfl, rfl⟩)
       refine pU 11 29 (bA 17 4095) HT_ ?_ (hy := Or.inr ⟨by rfl, rfl⟩)
       refine pU 12 30 (bA 17 8191) HT_ ?_ (hy := Or.inr ⟨by rfl, rfl⟩)
       refine pU 13 31 (bA 17 16383) HT_ ?_ (hy := Or.inr ⟨by rfl, rfl⟩)
       refine pU 14 32 (bA 17 32767) HT_ ?_ (hy := Or.inr ⟨by rfl, rfl⟩)
       refine pU 15 33 (bA 17 65535) HT_ ?_ (hy := Or.inr ⟨by rfl, rfl⟩)
       refine pU 16 34 (bA 17 131071) HT_ ?_
       refine done_ (done_of HT_.out kR) ?_
       try go_wp2
       go_roundg k2
       case measure => have := HK1.out; have := HK2.out; omega
       case rel => exact ⟨(x0_2), (wrap64 (x8_1 + 1)), eQ, H', ⟨by have := HK1.out; have := HK2.out; omega⟩, ⟨by (with_reducible repeat (first | apply rA | apply rN | apply rD)); exact HO_0.out⟩, ⟨by repeat (first | (with_reducible first | exact HK.out | apply Kept.alloc | apply Kept.drewN | apply Kept.drew) | exact HK.out)⟩, ⟨bQ⟩⟩
   ·rw [if_neg c4] at H; have c4b0 := decide_eq_false c4; clear c4; obtain rfl := Option.some.inj H; go_wp2
    first | go_end0 | ((try simp only [Exit.inBlock, Exit.then]); refine bodyPost_ret (results_none rfl _ _ _) rfl ?_)
    exact ⟨wQ, by (with_reducible repeat (first | apply rA | apply rN | apply rD)); exact HO_0.out, by repeat (first | (with_reducible first | exact HB.out | apply pA | apply pN | apply pD) | exact HB.out), by repeat (first | (with_reducible first | exact HK.out | apply Kept.alloc | apply Kept.drewN | apply Kept.drew) | exact HK.out)⟩

end Go.Proofs.Ytoeclfihlhmnpaa.X
