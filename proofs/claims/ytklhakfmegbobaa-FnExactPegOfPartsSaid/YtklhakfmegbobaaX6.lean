-- thin
-- short
-- compact
import Derived.Test.YtklhakfmegbobaaXA
import Derived.Test.YtklhakfmegbobaaX0
import Derived.Test.YtklhakfmegbobaaX2
import Derived.Test.YtklhakfmegbobaaX5
namespace Go.Proofs.Ytklhakfmegbobaa.X
open Go.RowKit Go.Proofs.Ytklhakfmegbobaa.XW Go.Proofs.YtklhakfmegbobaaW.PrintWords Go.Proofs.YtklhakfmegbobaaW.PrintLast Go.Proofs.YtklhakfmegbobaaW.PrintMore
attribute [local go_sem] max2_int min2_int max_two min_two max_three min_three max_four min_four   -- for this text's walks alone
set_option linter.unusedVariables false
set_option linter.unusedSimpArgs false

mutual
def spec_PegOfParts.j0 : Nat → List (S_impl_Peg) → List Int → Bool → Option (Int × Int × Bool)
 | 0, _, _, _ => none
 | k + 1, x0, x1, x22 => if x22 = true then (some (0, 0, false)) else ((spec_pgArea.f k x0).bind fun t156 => (if 0 < (x1.length : Int) then (if 1 < (x1.length : Int) then (if 2 < (x1.length : Int) then (if (wrap64 ((wrap64 ((rd x1 0) + (rd x1 1))) + (rd x1 2))) = t156 then (if 0 < (x0.length : Int) then (if 1 < (x0.length : Int) then (if 2 < (x0.length : Int) then (if t156 = 0 then (none) else (if (Int.tmod (wrap64 ((wrap64 ((wrap64 ((rd x1 0) * ((rd_impl_Peg x0 0).f0))) + (wrap64 ((rd x1 1) * ((rd_impl_Peg x0 1).f0))))) + (wrap64 ((rd x1 2) * ((rd_impl_Peg x0 2).f0))))) t156) = 0 then (spec_PegOfParts.j1 k t156 (wrap64 ((wrap64 ((wrap64 ((rd x1 0) * ((rd_impl_Peg x0 0).f0))) + (wrap64 ((rd x1 1) * ((rd_impl_Peg x0 1).f0))))) + (wrap64 ((rd x1 2) * ((rd_impl_Peg x0 2).f0))))) (wrap64 ((wrap64 ((wrap64 ((rd x1 0) * ((rd_impl_Peg x0 0).f1))) + (wrap64 ((rd x1 1) * ((rd_impl_Peg x0 1).f1))))) + (wrap64 ((rd x1 2) * ((rd_impl_Peg x0 2).f1))))) ((Int.tmod (wrap64 ((wrap64 ((wrap64 ((rd x1 0) * ((rd_impl_Peg x0 0).f1))) + (wrap64 ((rd x1 1) * ((rd_impl_Peg x0 1).f1))))) + (wrap64 ((rd x1 2) * ((rd_impl_Peg x0 2).f1))))) t156) != 0)) else (spec_PegOfParts.j1 k t156 (wrap64 ((wrap64 ((wrap64 ((rd x1 0) * ((rd_impl_Peg x0 0).f0))) + (wrap64 ((rd x1 1) * ((rd_impl_Peg x0 1).f0))))) + (wrap64 ((rd x1 2) * ((rd_impl_Peg x0 2).f0))))) (wrap64 ((wrap64 ((wrap64 ((rd x1 0) * ((rd_impl_Peg x0 0).f1))) + (wrap64 ((rd x1 1) * ((rd_impl_Peg x0 1).f1))))) + (wrap64 ((rd x1 2) * ((rd_impl_Peg x0 2).f1))))) true))) else (none)) else (none)) else (none)) else (some (0, 0, false))) else (none)) else (none)) else (none)))
def spec_PegOfParts.j1 : Nat → Int → Int → Int → Bool → Option (Int × Int × Bool)
 | 0, _, _, _, _ => none
 | k + 1, x6, x7, x8, x101 => if x101 = true then (some (0, 0, false)) else (if x6 = 0 then (none) else ((spec_pgIs.f (wrap64 (Int.tdiv x7 x6)) (wrap64 (Int.tdiv x8 x6))).bind fun t173 => (if t173 = true then (some (wrap64 (Int.tdiv x7 x6), wrap64 (Int.tdiv x8 x6), true)) else (some (0, 0, false)))))
end
def spec_PegOfParts.f (k : Nat) (l0 : List (S_impl_Peg)) (l1 : List Int) : Option (Int × Int × Bool) := (spec_trThree.f k l0).bind fun t154 => (if t154 = true then (if (l1.length : Int) = 3 then ((spec_l1All.f k l1 (-1000000) 1000000).bind fun t155 => (spec_PegOfParts.j0 k l0 l1 (!t155))) else (spec_PegOfParts.j0 k l0 l1 true)) else (spec_PegOfParts.j0 k l0 l1 true))
theorem spec_PegOfParts.mono_l : ∀ k, (∀ y0 y1 y2, LeO (spec_PegOfParts.j0 k y0 y1 y2) (spec_PegOfParts.j0 (k + 1) y0 y1 y2)) ∧ (∀ y0 y1 y2 y3, LeO (spec_PegOfParts.j1 k y0 y1 y2 y3) (spec_PegOfParts.j1 (k + 1) y0 y1 y2 y3))
 | 0 => ⟨fun _ _ _ r h => by simp [spec_PegOfParts.j0] at h, fun _ _ _ _ r h => by simp [spec_PegOfParts.j1] at h⟩
 | k + 1 => by
  obtain ⟨ih0, ih1⟩ := spec_PegOfParts.mono_l k
  refine ⟨?_, ?_⟩ <;> intros <;> (first | unfold spec_PegOfParts.j0 | unfold spec_PegOfParts.j1) <;> repeat' first | (with_reducible exact ih0 _ _ _) | (with_reducible exact ih1 _ _ _ _) | (with_reducible exact spec_l1All.mono _ _ _ _) | (with_reducible exact spec_pgArea.mono _ _) | (with_reducible exact spec_trThree.mono _ _) | (with_reducible exact LeO.refl _) | (with_reducible exact LeO.none _) | (with_reducible refine LeO.ite ?_ ?_) | (with_reducible refine LeO.bind ?_ (fun _ => ?_)) | exact ih0 _ _ _ | exact ih1 _ _ _ _ | exact spec_l1All.mono _ _ _ _ | exact spec_pgArea.mono _ _ | exact spec_trThree.mono _ _ | exact LeO.none _ | refine LeO.ite ?_ ?_ | refine LeO.bind ?_ (fun _ => ?_)
theorem spec_PegOfParts.mono : ∀ a0 a1 k, LeO (spec_PegOfParts.f k a0 a1) (spec_PegOfParts.f (k + 1) a0 a1) := by
 intro a0 a1 k
 obtain ⟨ih0, ih1⟩ := spec_PegOfParts.mono_l k
 unfold spec_PegOfParts.f
 repeat' first | (with_reducible exact ih0 _ _ _) | (with_reducible exact ih1 _ _ _ _) | (with_reducible exact spec_l1All.mono _ _ _ _) | (with_reducible exact spec_pgArea.mono _ _) | (with_reducible exact spec_trThree.mono _ _) | (with_reducible exact LeO.refl _) | (with_reducible exact LeO.none _) | (with_reducible refine LeO.ite ?_ ?_) | (with_reducible refine LeO.bind ?_ (fun _ => ?_)) | exact ih0 _ _ _ | exact ih1 _ _ _ _ | exact spec_l1All.mono _ _ _ _ | exact spec_pgArea.mono _ _ | exact spec_trThree.mono _ _ | exact LeO.none _ | refine LeO.ite ?_ ?_ | refine LeO.bind ?_ (fun _ => ?_)
def spec_PegOfParts.T4 : Bool × List (List Nat × List Nat) := (true, [([], []), ([0], [0]), ([1], [1]), ([], []), ([3], [3]), ([4], [4]), ([2, 5], [2, 5]), ([], []), ([7], [7]), ([8], [8]), ([6, 9], [6, 9]), ([], []), ([10, 11], [10, 11])])
def spec_PegOfParts.B4 : List Nat := [0, 1, 3, 0, 8, 24, 63, 0, 128, 384, 1023, 0, 4095]
theorem spec_PegOfParts.tab4 : rtab .any (opsOf Try.f16 4) = spec_PegOfParts.T4 := by kernel_rfl
theorem spec_PegOfParts.bits4 : waitsOk spec_PegOfParts.T4.2 spec_PegOfParts.B4 = true := by kernel_rfl
def spec_PegOfParts.T6 : Bool × List (List Nat × List Nat) := (true, [([], []), ([0], [0]), ([1], [1]), ([], []), ([3], [3]), ([4], [4]), ([5], [5]), ([2, 6], [2, 6]), ([], []), ([8], [8]), ([9], [9]), ([], []), ([11], [11]), ([12], [12]), ([13], [13]), ([10, 14], [10, 14]), ([7, 15], [7, 15]), ([], []), ([17], [17]), ([18], [18]), ([], []), ([20], [20]), ([21], [21]), ([22], [22]), ([19, 23], [19, 23]), ([16, 24], [16, 24]), ([25, 0, 1, 2, 3, 4, 5, 6, 7, 8, 9, 10, 11, 12, 13, 14, 15, 16, 17, 18, 19, 20, 21, 22, 23, 24, 25], [25])])
def spec_PegOfParts.B6 : List Nat := [0, 1, 3, 0, 8, 24, 56, 127, 0, 256, 768, 0, 2048, 6144, 14336, 32512, 65535, 0, 131072, 393216, 0, 1048576, 3145728, 7340032, 16646144, 33554431, 67108863]
theorem spec_PegOfParts.tab6 : rtab .any (opsOf Try.f16 6) = spec_PegOfParts.T6 := by kernel_rfl
theorem spec_PegOfParts.bits6 : waitsOk spec_PegOfParts.T6.2 spec_PegOfParts.B6 = true := by kernel_rfl
def spec_PegOfParts.T7 : Bool × List (List Nat × List Nat) := (true, [([], []), ([0], [0]), ([1], [1]), ([], []), ([3], [3]), ([4], [4]), ([5], [5]), ([2, 6], [2, 6]), ([], []), ([8], [8]), ([9], [9]), ([], []), ([11], [11]), ([12], [12]), ([13], [13]), ([10, 14], [10, 14]), ([7, 15], [7, 15]), ([], []), ([17], [17]), ([18], [18]), ([], []), ([20], [20]), ([21], [21]), ([22], [22]), ([19, 23], [19, 23]), ([16, 24], [16, 24]), ([25, 0, 1, 2, 3, 4, 5, 6, 7, 8, 9, 10, 11, 12, 13, 14, 15, 16, 17, 18, 19, 20, 21, 22, 23, 24, 25], [25])])
def spec_PegOfParts.B7 : List Nat := [0, 1, 3, 0, 8, 24, 56, 127, 0, 256, 768, 0, 2048, 6144, 14336, 32512, 65535, 0, 131072, 393216, 0, 1048576, 3145728, 7340032, 16646144, 33554431, 67108863]
theorem spec_PegOfParts.tab7 : rtab .any (opsOf Try.f16 7) = spec_PegOfParts.T7 := by kernel_rfl
theorem spec_PegOfParts.bits7 : waitsOk spec_PegOfParts.T7.2 spec_PegOfParts.B7 = true := by kernel_rfl
def spec_PegOfParts.T10 : Bool × List (List Nat × List Nat) := (true, [([], []), ([], []), ([0, 1], [0, 1]), ([], []), ([], []), ([3, 4], [3, 4]), ([2, 5], [2, 5]), ([], []), ([7, 6, 0, 1, 2, 3, 4, 5, 6, 7], [6, 7])])
def spec_PegOfParts.B10 : List Nat := [0, 0, 3, 0, 0, 24, 63, 0, 255]
theorem spec_PegOfParts.tab10 : rtab .any (opsOf Try.f16 10) = spec_PegOfParts.T10 := by kernel_rfl
theorem spec_PegOfParts.bits10 : waitsOk spec_PegOfParts.T10.2 spec_PegOfParts.B10 = true := by kernel_rfl
set_option maxHeartbeats 8000000 in
set_option maxRecDepth 100000 in
theorem spec_PegOfParts.calls (k : Nat) (A0 : Option Addr) (c0 : Nat) (l0 : List (S_impl_Peg)) (A1 : Option Addr) (c1 : Nat) (l1 : List Int) (r1 : Int) (r2 : Int) (r3 : Bool) (w : World) (hr0 : Kd.C kd_impl_Peg w A0 l0.length l0) (hc0 : l0.length ≤ c0) (hr1 : Kd.C (Kd.int .i64) w A1 l1.length l1) (hc1 : l1.length ≤ c1) (h : spec_PegOfParts.f k l0 l1 = some (r1, r2, r3)) :
  Calls Try.prog 16 #[.slice A0 l0.length c0, .slice A1 l1.length c1] w fun e w' => e = .returned (.tuple #[.agg #[.int .i64 r1, .int .i64 r2], .bool r3]) ∧ Below w.heap.size w w' := by
 have hu26 := Try.underlying26; have HR0 := aM hr0; have HC0 := aM hc0; clear hr0 hc0; have HR1 := aM hr1; have HC1 := aM hc1; clear hr1 hc1; have HB := aM (Below.refl w.heap.size w)
 unfold spec_PegOfParts.f at h; have H := h; clear h
 have HC3 := aM H; clear H
 go_enter Try.func16, Try.ntmps16
 go_upto_region 1 with (first | ((with_reducible refine gate_dst (N := 4) rfl ?_); (try (refine gate_guard (by rfl) ?_; dsimp only)); refine bV 4 (cs := #[.int .i64 0, .int .i64 0]) (t := 26) rfl rfl (by first | (go_simp; done) | (go_simp; rfl)) ?_; intro gb153 hg w4 hbox hb; have BK153 := hbox; have GW153 := gZ HB hg; have GE153 := gZ HB hg; replace HB := tB HB hb; clear hb hbox hg))
 (try simp only [Act.put, sI, sZ, sS])
 go_cut [22] (fun v22 wc => ∃ (kq : Nat) (x22_2 : Bool), v22 = .bool x22_2 ∧ Aside0 (spec_PegOfParts.j0 kq l0 l1 x22_2 = some (r1, r2, r3)) ∧ Aside0 (kq ≤ k) ∧ Aside0 (wc.heap[gb153]? = some (.cells #[.int .i64 0, .int .i64 0] 26 (0, 0))) ∧ Aside0 (Below w.heap.size w wc))
 case first =>
  have H := HC3.out; clear HC3; replace H := bS H; obtain ⟨t154, A5, H⟩ := H
  by_cases c6 : t154 = true
  ·subst c6; replace H := iT H
   by_cases c7 : (l1.length : Int) = 3
   ·rw [if_pos c7] at H; have c7b0 : ((l1.length : Int) == 3) = true := beq_iff_eq.mpr c7; have c7b1 : ((l1.length : Int) != 3) = false := bne_eq_false_iff_eq.mpr c7; clear c7
    (first | rw [c7b0] | (simp only [i64_w, i32_w]; rw [c7b0]) | skip)
    replace H := bS H; obtain ⟨t155, A8, H⟩ := H; have H' := aM H; clear H
    go_wp2_with (first | ((with_reducible refine gC (f := 54) rfl ?_); refine goesL_ (some 11) rfl rfl Try.func54 kR rfl #[.slice A0 l0.length c0] rfl sQ ?_; (with_reducible refine (spec_trThree.calls k _ _ l0 true _ ?side1 ?side2 A5.out).mono ?_); (case side1 => repeat (first | exact (Kd.C_below HR0.out HB.out) | (with_reducible refine cA ?_ _) | (with_reducible refine cN ?_ _) | (with_reducible refine cD ?_))); (case side2 => exact HC0.out); rintro e w9 ⟨rfl, hb⟩; refine ⟨_, rfl, ?_⟩; replace BK153 := bB BK153 hb; replace HB := tB HB hb; (try clear hb); (try clear hb2); (try clear hk); (try clear hi)) | (go_at_call 55; (with_reducible refine (spec_l1All.calls k _ _ l1 (-1000000) 1000000 t155 _ ?side1 ?side2 A8.out).mono ?_); (case side1 => repeat (first | exact (Kd.C_below HR1.out HB.out) | (with_reducible refine cA ?_ _) | (with_reducible refine cN ?_ _) | (with_reducible refine cD ?_))); (case side2 => exact HC1.out); rintro e w' ⟨rfl, ⟨nd, rfl⟩⟩))
    go_meet
    case rel => exact ⟨_, (!t155), eQ, H', ⟨by first | omega | exact Nat.le_refl _⟩, ⟨gQ BK153⟩, ⟨bE⟩⟩
   ·rw [if_neg c7] at H; have c7b0 : ((l1.length : Int) == 3) = false := beq_eq_false_iff_ne.mpr c7; have c7b1 : ((l1.length : Int) != 3) = true := bne_iff_ne.mpr c7
    (first | rw [c7b0] | (simp only [i64_w, i32_w]; rw [c7b0]) | skip)
    have H' := aM H; clear H
    go_wp2_with (first | ((with_reducible refine gC (f := 54) rfl ?_); refine goesL_ (some 11) rfl rfl Try.func54 kR rfl #[.slice A0 l0.length c0] rfl sQ ?_; (with_reducible refine (spec_trThree.calls k _ _ l0 true _ ?side1 ?side2 A5.out).mono ?_); (case side1 => repeat (first | exact (Kd.C_below HR0.out HB.out) | (with_reducible refine cA ?_ _) | (with_reducible refine cN ?_ _) | (with_reducible refine cD ?_))); (case side2 => exact HC0.out); rintro e w10 ⟨rfl, hb⟩; refine ⟨_, rfl, ?_⟩; replace BK153 := bB BK153 hb; replace HB := tB HB hb; (try clear hb); (try clear hb2); (try clear hk); (try clear hi)))
    go_meet
    case rel => exact ⟨_, (true), eQ, H', ⟨by first | omega | exact Nat.le_refl _⟩, ⟨gQ BK153⟩, ⟨bE⟩⟩
  ·replace c6 := Bool.eq_false_iff.mpr c6; subst c6; replace H := iF H; have H' := aM H; clear H
   go_wp2_with (first | ((with_reducible refine gC (f := 54) rfl ?_); refine goesL_ (some 11) rfl rfl Try.func54 kR rfl #[.slice A0 l0.length c0] rfl sQ ?_; (with_reducible refine (spec_trThree.calls k _ _ l0 false _ ?side1 ?side2 A5.out).mono ?_); (case side1 => repeat (first | exact (Kd.C_below HR0.out HB.out) | (with_reducible refine cA ?_ _) | (with_reducible refine cN ?_ _) | (with_reducible refine cD ?_))); (case side2 => exact HC0.out); rintro e w11 ⟨rfl, hb⟩; refine ⟨_, rfl, ?_⟩; replace BK153 := bB BK153 hb; replace HB := tB HB hb; (try clear hb); (try clear hb2); (try clear hk); (try clear hi)))
   go_meet
   case rel => exact ⟨_, (true), eQ, H', ⟨by first | omega | exact Nat.le_refl _⟩, ⟨gQ BK153⟩, ⟨bE⟩⟩
 case rest =>
  clear HC3; (try clear c1); obtain ⟨kq, x22_2, rfl, HA, HJ2, BK153, HB⟩ := hcut
  cases kq with
  | zero => exact absurd HA.out (by simp [spec_PegOfParts.j0])
  | succ kj2 =>
   have H := HA.out; clear HA
   simp only [spec_PegOfParts.j0] at H
   by_cases c12 : x22_2 = true
   ·subst c12; replace H := iT H
    simp only [Option.some.injEq, Prod.mk.injEq] at H
    obtain ⟨rfl, rfl, rfl⟩ := H; have hcz13_0 : wc.cell? ⟨gb153, 0, none⟩ = some (.int .i64 0) := vZ0 BK153; have hcz13_1 : wc.cell? ⟨gb153, 1, none⟩ = some (.int .i64 0) := vZ1 BK153; have hfz13_0 := kF BK153.out 0; have hfz13_1 := kF BK153.out 1; go_wp2
    refine bodyPost_ret (results_ct rfl _ _ gb153 26 #[.int .i64 0, .int .i64 0] (0, 0) _ rfl (fQ BK153) Try.underlying26 rfl kR) rfl ?_
    exact ⟨wQ, bE⟩
   ·replace c12 := Bool.eq_false_iff.mpr c12; subst c12; replace H := iF H; replace H := bS H; obtain ⟨t156, A14, H⟩ := H; replace H := iN H; obtain ⟨c15, H⟩ := H; have c15b0 := dE c15; have c15b1 : decide (0 < l1.length) = true := dE (by omega)
    clear c15; replace H := iN H; obtain ⟨c16, H⟩ := H; have c16b0 := dE c16; have c16b1 : decide (1 < l1.length) = true := dE (by omega)
    clear c16; replace H := iN H; obtain ⟨c17, H⟩ := H; have c17b0 := dE c17; have c17b1 : decide (2 < l1.length) = true := dE (by omega)
    clear c17
    by_cases c18 : (wrap64 ((wrap64 ((rd l1 0) + (rd l1 1))) + (rd l1 2))) = t156
    ·rw [if_pos c18] at H; have c18b0 : ((wrap64 ((wrap64 ((rd l1 0) + (rd l1 1))) + (rd l1 2))) == t156) = true := beq_iff_eq.mpr c18; have c18b1 : ((wrap64 ((wrap64 ((rd l1 0) + (rd l1 1))) + (rd l1 2))) != t156) = false := bne_eq_false_iff_eq.mpr c18; clear c18; replace H := iN H; obtain ⟨c19, H⟩ := H; have c19b0 := dE c19; have c19b1 : decide (0 < l0.length) = true := dE (by omega)
     clear c19; replace H := iN H; obtain ⟨c20, H⟩ := H; have c20b0 := dE c20; have c20b1 : decide (1 < l0.length) = true := dE (by omega)
     clear c20; replace H := iN H; obtain ⟨c21, H⟩ := H; have c21b0 := dE c21; have c21b1 : decide (2 < l0.length) = true := dE (by omega)
     clear c21; have HC22 := aM H; clear H
     try go_wp2_with (first | ((with_reducible refine gC (f := 56) rfl ?_); refine goesL_ (some 25) rfl rfl Try.func56 kR rfl #[.slice A0 l0.length c0] rfl sQ ?_; (with_reducible refine (spec_pgArea.calls kj2 _ _ l0 t156 _ ?side1 ?side2 A14.out).mono ?_); (case side1 => repeat (first | exact (Kd.C_below HR0.out HB.out) | (with_reducible refine cA ?_ _) | (with_reducible refine cN ?_ _) | (with_reducible refine cD ?_))); (case side2 => exact HC0.out); rintro e w23 ⟨rfl, hb⟩; refine ⟨_, rfl, ?_⟩; replace BK153 := bB BK153 hb; replace HB := tB HB hb; (try clear hb); (try clear hb2); (try clear hk); (try clear hi)))
     replace BK153 := aM (kD BK153.out); replace HB := aM (pD HB.out); have p157 : 0 ≤ (0 : Int) := (by omega)
     have q157 : 0 < (l1.length : Int) := dT aQ; obtain ⟨ad157, e157, hx157_0⟩ := Kd.at_int HR1.out 0 p157 q157; have hw157_0 := hx157_0
     (try rw [show ((0 : Int)).toNat = 0 from rfl] at hw157_0)
     (try rw [show 0 * 1 = 0 from rfl] at hw157_0)
     (try rw [Addr.add_zero'] at hw157_0)
     cases e157
     have qi157 : (0 < l1.length) = True := eq_true (by omega)
     (try rw [show ((0 : Int)).toNat = 0 from rfl] at hx157_0)
     (try rw [Addr.add_zero'] at hx157_0)
     replace hx157_0 := hC HB hx157_0; replace p157 := eq_true p157; replace q157 := eq_true q157; have p158 : 0 ≤ (1 : Int) := (by omega)
     have q158 : 1 < (l1.length : Int) := dT aQ; obtain ⟨ad158, e158, hx158_0⟩ := Kd.at_int HR1.out 1 p158 q158; have hw158_0 := hx158_0
     (try rw [show ((1 : Int)).toNat = 1 from rfl] at hw158_0)
     (try rw [show 1 * 1 = 1 from rfl] at hw158_0)
     (try simp only [Nat.reduceMul, Nat.reduceEqDiff, Go.Addr.add, ↓reduceIte] at hw158_0)
     obtain rfl : ad157 = ad158 := (by injection e158)
     (try simp only [show (1 : Int).toNat = 1 from rfl, Nat.reduceMul, Nat.reduceEqDiff, Go.Addr.add, ↓reduceIte] at hx158_0)
     have qi158 : (1 < l1.length) = True := eq_true (by omega)
     (try rw [show ((1 : Int)).toNat = 1 from rfl] at hx158_0)
     replace hx158_0 := hC HB hx158_0; replace p158 := eq_true p158; replace q158 := eq_true q158; have p159 : 0 ≤ (2 : Int) := (by omega)
     have q159 : 2 < (l1.length : Int) := dT aQ; obtain ⟨ad159, e159, hx159_0⟩ := Kd.at_int HR1.out 2 p159 q159; have hw159_0 := hx159_0
     (try rw [show ((2 : Int)).toNat = 2 from rfl] at hw159_0)
     (try rw [show 2 * 1 = 2 from rfl] at hw159_0)
     (try simp only [Nat.reduceMul, Nat.reduceEqDiff, Go.Addr.add, ↓reduceIte] at hw159_0)
     obtain rfl : ad157 = ad159 := (by injection e159)
     (try simp only [show (2 : Int).toNat = 2 from rfl, Nat.reduceMul, Nat.reduceEqDiff, Go.Addr.add, ↓reduceIte] at hx159_0)
     have qi159 : (2 < l1.length) = True := eq_true (by omega)
     (try rw [show ((2 : Int)).toNat = 2 from rfl] at hx159_0)
     replace hx159_0 := hC HB hx159_0; replace p159 := eq_true p159; replace q159 := eq_true q159
     refine start_ (n := 13) (S := fun w' => w'.cell? ad157 = some (.int .i64 (rd l1 0)) ∧ w'.cell? ⟨ad157.block, ad157.off + 1, none⟩ = some (.int .i64 (rd l1 1)) ∧ w'.cell? ⟨ad157.block, ad157.off + 2, none⟩ = some (.int .i64 (rd l1 2))) (ds := []) (bA 13 0) kR rfl kR ⟨(hC HB hw157_0 :), (hC HB hw158_0 :), (hC HB hw159_0 :)⟩ (fun hHeld => ?_); refine with_tabW spec_PegOfParts.tab4 spec_PegOfParts.bits4 (fun HT_ HW_ => ?_)
     generalize w23.drew = w24 at BK153 HB hx157_0 hx158_0 hx159_0 hHeld ⊢
     refine pU 0 26 (bA 13 1) HT_ ?_; refine pU 1 27 (bA 13 3) HT_ ?_; refine pU 3 29 (bA 13 11) HT_ ?_; refine pU 4 30 (bA 13 27) HT_ ?_; refine pU 7 33 (bA 13 155) HT_ ?_; refine pU 8 34 (bA 13 411) HT_ ?_; refine pU 11 37 (bA 13 2459) HT_ ?_
     refine tU 2 28 (bA 13 2463) HT_ HW_ hHeld ?_ (hy := Or.inl ⟨by rfl, by rintro w' ⟨s0, s1, s2⟩; go_simp; with_reducible rfl⟩)
     refine tU 5 31 (bA 13 2495) HT_ HW_ hHeld ?_ (hy := Or.inl ⟨by rfl, by rintro w' ⟨s0, s1, s2⟩; go_simp; with_reducible rfl⟩)
     refine pU 6 32 (bA 13 2559) HT_ ?_
     refine tU 9 35 (bA 13 3071) HT_ HW_ hHeld ?_ (hy := Or.inl ⟨by rfl, by rintro w' ⟨s0, s1, s2⟩; go_simp; with_reducible rfl⟩)
     refine pU 10 36 (bA 13 4095) HT_ ?_; refine pU 12 38 (bA 13 8191) HT_ ?_
     refine done_ (done_of HT_.out kR) ?_
     try go_wp2
     replace BK153 := aM (kD BK153.out); replace HB := aM (pD HB.out); have p160 : 0 ≤ (0 : Int) := (by omega)
     have q160 : 0 < (l1.length : Int) := dT aQ; obtain ⟨ad160, e160, hx160_0⟩ := Kd.at_int HR1.out 0 p160 q160; have hw160_0 := hx160_0
     (try rw [show ((0 : Int)).toNat = 0 from rfl] at hw160_0)
     (try rw [show 0 * 1 = 0 from rfl] at hw160_0)
     (try rw [Addr.add_zero'] at hw160_0)
     obtain rfl : ad157 = ad160 := (by injection e160)
     have qi160 : (0 < l1.length) = True := eq_true (by omega)
     (try rw [show ((0 : Int)).toNat = 0 from rfl] at hx160_0)
     (try rw [Addr.add_zero'] at hx160_0)
     replace hx160_0 := hC HB hx160_0; replace p160 := eq_true p160; replace q160 := eq_true q160; have p161 : 0 ≤ (0 : Int) := (by omega)
     have q161 : 0 < (l0.length : Int) := dT aQ; obtain ⟨ad161, e161, hx161_0, hx161_1⟩ := at_impl_Peg HR0.out 0 p161 q161; have hw161_1 := hx161_1
     (try rw [show ((0 : Int)).toNat = 0 from rfl] at hw161_1)
     (try rw [show 0 * 2 = 0 from rfl] at hw161_1)
     (try rw [Addr.add_zero'] at hw161_1)
     have hw161_0 := hx161_0
     (try rw [show ((0 : Int)).toNat = 0 from rfl] at hw161_0)
     (try rw [show 0 * 2 = 0 from rfl] at hw161_0)
     (try rw [Addr.add_zero'] at hw161_0)
     cases e161
     have qi161 : (0 < l0.length) = True := eq_true (by omega)
     (try rw [show ((0 : Int)).toNat = 0 from rfl] at hx161_0)
     (try rw [show 0 * 2 = 0 from rfl] at hx161_0)
     (try rw [Addr.add_zero'] at hx161_0)
     (try rw [show ((0 : Int)).toNat = 0 from rfl] at hx161_1)
     (try rw [show 0 * 2 = 0 from rfl] at hx161_1)
     (try rw [Addr.add_zero'] at hx161_1)
     replace hx161_0 := hC HB hx161_0; replace hx161_1 := hC HB hx161_1; replace p161 := eq_true p161; replace q161 := eq_true q161; have p162 : 0 ≤ (1 : Int) := (by omega)
     have q162 : 1 < (l1.length : Int) := dT aQ; obtain ⟨ad162, e162, hx162_0⟩ := Kd.at_int HR1.out 1 p162 q162; have hw162_0 := hx162_0
     (try rw [show ((1 : Int)).toNat = 1 from rfl] at hw162_0)
     (try rw [show 1 * 1 = 1 from rfl] at hw162_0)
     (try simp only [Nat.reduceMul, Nat.reduceEqDiff, Go.Addr.add, ↓reduceIte] at hw162_0)
     obtain rfl : ad157 = ad162 := (by injection e162)
     (try simp only [show (1 : Int).toNat = 1 from rfl, Nat.reduceMul, Nat.reduceEqDiff, Go.Addr.add, ↓reduceIte] at hx162_0)
     have qi162 : (1 < l1.length) = True := eq_true (by omega)
     (try rw [show ((1 : Int)).toNat = 1 from rfl] at hx162_0)
     replace hx162_0 := hC HB hx162_0; replace p162 := eq_true p162; replace q162 := eq_true q162; have p163 : 0 ≤ (1 : Int) := (by omega)
     have q163 : 1 < (l0.length : Int) := dT aQ; obtain ⟨ad163, e163, hx163_0, hx163_1⟩ := at_impl_Peg HR0.out 1 p163 q163; have hw163_1 := hx163_1
     (try rw [show ((1 : Int)).toNat = 1 from rfl] at hw163_1)
     (try rw [show 1 * 2 = 2 from rfl] at hw163_1)
     (try simp only [Nat.reduceMul, Nat.reduceEqDiff, Go.Addr.add, ↓reduceIte] at hw163_1)
     have hw163_0 := hx163_0
     (try rw [show ((1 : Int)).toNat = 1 from rfl] at hw163_0)
     (try rw [show 1 * 2 = 2 from rfl] at hw163_0)
     (try simp only [Nat.reduceMul, Nat.reduceEqDiff, Go.Addr.add, ↓reduceIte] at hw163_0)
     obtain rfl : ad161 = ad163 := (by injection e163)
     (try simp only [show (1 : Int).toNat = 1 from rfl, Nat.reduceMul, Nat.reduceEqDiff, Go.Addr.add, ↓reduceIte] at hx163_0)
     (try simp only [show (1 : Int).toNat = 1 from rfl, Nat.reduceMul, Nat.reduceEqDiff, Go.Addr.add, ↓reduceIte] at hx163_1)
     have qi163 : (1 < l0.length) = True := eq_true (by omega)
     (try rw [show ((1 : Int)).toNat = 1 from rfl] at hx163_0)
     (try rw [show 1 * 2 = 2 from rfl] at hx163_0)
     (try rw [show ((1 : Int)).toNat = 1 from rfl] at hx163_1)
     (try rw [show 1 * 2 = 2 from rfl] at hx163_1)
     replace hx163_0 := hC HB hx163_0; replace hx163_1 := hC HB hx163_1; replace p163 := eq_true p163; replace q163 := eq_true q163; have p164 : 0 ≤ (2 : Int) := (by omega)
     have q164 : 2 < (l1.length : Int) := dT aQ; obtain ⟨ad164, e164, hx164_0⟩ := Kd.at_int HR1.out 2 p164 q164; have hw164_0 := hx164_0
     (try rw [show ((2 : Int)).toNat = 2 from rfl] at hw164_0)
     (try rw [show 2 * 1 = 2 from rfl] at hw164_0)
     (try simp only [Nat.reduceMul, Nat.reduceEqDiff, Go.Addr.add, ↓reduceIte] at hw164_0)
     obtain rfl : ad157 = ad164 := (by injection e164)
     (try simp only [show (2 : Int).toNat = 2 from rfl, Nat.reduceMul, Nat.reduceEqDiff, Go.Addr.add, ↓reduceIte] at hx164_0)
     have qi164 : (2 < l1.length) = True := eq_true (by omega)
     (try rw [show ((2 : Int)).toNat = 2 from rfl] at hx164_0)
     replace hx164_0 := hC HB hx164_0; replace p164 := eq_true p164; replace q164 := eq_true q164; have p165 : 0 ≤ (2 : Int) := (by omega)
     have q165 : 2 < (l0.length : Int) := dT aQ; obtain ⟨ad165, e165, hx165_0, hx165_1⟩ := at_impl_Peg HR0.out 2 p165 q165; have hw165_1 := hx165_1
     (try rw [show ((2 : Int)).toNat = 2 from rfl] at hw165_1)
     (try rw [show 2 * 2 = 4 from rfl] at hw165_1)
     (try simp only [Nat.reduceMul, Nat.reduceEqDiff, Go.Addr.add, ↓reduceIte] at hw165_1)
     have hw165_0 := hx165_0
     (try rw [show ((2 : Int)).toNat = 2 from rfl] at hw165_0)
     (try rw [show 2 * 2 = 4 from rfl] at hw165_0)
     (try simp only [Nat.reduceMul, Nat.reduceEqDiff, Go.Addr.add, ↓reduceIte] at hw165_0)
     obtain rfl : ad161 = ad165 := (by injection e165)
     (try simp only [show (2 : Int).toNat = 2 from rfl, Nat.reduceMul, Nat.reduceEqDiff, Go.Addr.add, ↓reduceIte] at hx165_0)
     (try simp only [show (2 : Int).toNat = 2 from rfl, Nat.reduceMul, Nat.reduceEqDiff, Go.Addr.add, ↓reduceIte] at hx165_1)
     have qi165 : (2 < l0.length) = True := eq_true (by omega)
     (try rw [show ((2 : Int)).toNat = 2 from rfl] at hx165_0)
     (try rw [show 2 * 2 = 4 from rfl] at hx165_0)
     (try rw [show ((2 : Int)).toNat = 2 from rfl] at hx165_1)
     (try rw [show 2 * 2 = 4 from rfl] at hx165_1)
     replace hx165_0 := hC HB hx165_0; replace hx165_1 := hC HB hx165_1; replace p165 := eq_true p165; replace q165 := eq_true q165
     refine start_ (n := 27) (S := fun w' => w'.cell? ad157 = some (.int .i64 (rd l1 0)) ∧ w'.cell? ad161 = some (.int .i64 ((rd_impl_Peg l0 0).f0)) ∧ w'.cell? ⟨ad161.block, ad161.off + 1, none⟩ = some (.int .i64 ((rd_impl_Peg l0 0).f1)) ∧ w'.cell? ⟨ad157.block, ad157.off + 1, none⟩ = some (.int .i64 (rd l1 1)) ∧ w'.cell? ⟨ad161.block, ad161.off + 2, none⟩ = some (.int .i64 ((rd_impl_Peg l0 1).f0)) ∧ w'.cell? ⟨ad161.block, ad161.off + 2 + 1, none⟩ = some (.int .i64 ((rd_impl_Peg l0 1).f1)) ∧ w'.cell? ⟨ad157.block, ad157.off + 2, none⟩ = some (.int .i64 (rd l1 2)) ∧ w'.cell? ⟨ad161.block, ad161.off + 4, none⟩ = some (.int .i64 ((rd_impl_Peg l0 2).f0)) ∧ w'.cell? ⟨ad161.block, ad161.off + 4 + 1, none⟩ = some (.int .i64 ((rd_impl_Peg l0 2).f1))) (ds := []) (bA 27 0) kR rfl kR ⟨(hC HB hw160_0 :), (hC HB hw161_0 :), (hC HB hw161_1 :), (hC HB hw162_0 :), (hC HB hw163_0 :), (hC HB hw163_1 :), (hC HB hw164_0 :), (hC HB hw165_0 :), (hC HB hw165_1 :)⟩ (fun hHeld => ?_); refine with_tabW spec_PegOfParts.tab6 spec_PegOfParts.bits6 (fun HT_ HW_ => ?_)
     generalize w24.drew = w25 at BK153 HB hx160_0 hx161_0 hx161_1 hx162_0 hx163_0 hx163_1 hx164_0 hx165_0 hx165_1 hHeld ⊢
     refine pU 0 40 (bA 27 1) HT_ ?_; refine pU 1 41 (bA 27 3) HT_ ?_; refine pU 3 43 (bA 27 11) HT_ ?_; refine pU 4 44 (bA 27 27) HT_ ?_; refine pU 5 45 (bA 27 59) HT_ ?_; refine pU 8 48 (bA 27 315) HT_ ?_; refine pU 9 49 (bA 27 827) HT_ ?_; refine pU 11 51 (bA 27 2875) HT_ ?_; refine pU 12 52 (bA 27 6971) HT_ ?_; refine pU 13 53 (bA 27 15163) HT_ ?_; refine pU 17 57 (bA 27 146235) HT_ ?_; refine pU 18 58 (bA 27 408379) HT_ ?_; refine pU 20 60 (bA 27 1456955) HT_ ?_; refine pU 21 61 (bA 27 3554107) HT_ ?_; refine pU 22 62 (bA 27 7748411) HT_ ?_
     refine tU 2 42 (bA 27 7748415) HT_ HW_ hHeld ?_ (hy := Or.inl ⟨by rfl, by rintro w' ⟨s0, s1, s2, s3, s4, s5, s6, s7, s8⟩; go_simp; with_reducible rfl⟩)
     refine tU 6 46 (bA 27 7748479) HT_ HW_ hHeld ?_ (hy := Or.inl ⟨by rfl, by rintro w' ⟨s0, s1, s2, s3, s4, s5, s6, s7, s8⟩; go_simp; with_reducible rfl⟩)
     refine pU 7 47 (bA 27 7748607) HT_ ?_
     refine tU 10 50 (bA 27 7749631) HT_ HW_ hHeld ?_ (hy := Or.inl ⟨by rfl, by rintro w' ⟨s0, s1, s2, s3, s4, s5, s6, s7, s8⟩; go_simp; with_reducible rfl⟩)
     refine tU 14 54 (bA 27 7766015) HT_ HW_ hHeld ?_ (hy := Or.inl ⟨by rfl, by rintro w' ⟨s0, s1, s2, s3, s4, s5, s6, s7, s8⟩; go_simp; with_reducible rfl⟩)
     refine pU 15 55 (bA 27 7798783) HT_ ?_; refine pU 16 56 (bA 27 7864319) HT_ ?_
     refine tU 19 59 (bA 27 8388607) HT_ HW_ hHeld ?_ (hy := Or.inl ⟨by rfl, by rintro w' ⟨s0, s1, s2, s3, s4, s5, s6, s7, s8⟩; go_simp; with_reducible rfl⟩)
     refine tU 23 63 (bA 27 16777215) HT_ HW_ hHeld ?_ (hy := Or.inl ⟨by rfl, by rintro w' ⟨s0, s1, s2, s3, s4, s5, s6, s7, s8⟩; go_simp; with_reducible rfl⟩)
     refine pU 24 64 (bA 27 33554431) HT_ ?_; refine pU 25 65 (bA 27 67108863) HT_ ?_; refine pU 26 7 (bA 27 134217727) HT_ ?_
     refine done_ (done_of HT_.out kR) ?_
     try go_wp2
     replace BK153 := aM (kD BK153.out); replace HB := aM (pD HB.out); have p166 : 0 ≤ (0 : Int) := (by omega)
     have q166 : 0 < (l1.length : Int) := dT aQ; obtain ⟨ad166, e166, hx166_0⟩ := Kd.at_int HR1.out 0 p166 q166; have hw166_0 := hx166_0
     (try rw [show ((0 : Int)).toNat = 0 from rfl] at hw166_0)
     (try rw [show 0 * 1 = 0 from rfl] at hw166_0)
     (try rw [Addr.add_zero'] at hw166_0)
     obtain rfl : ad157 = ad166 := (by injection e166)
     have qi166 : (0 < l1.length) = True := eq_true (by omega)
     (try rw [show ((0 : Int)).toNat = 0 from rfl] at hx166_0)
     (try rw [Addr.add_zero'] at hx166_0)
     replace hx166_0 := hC HB hx166_0; replace p166 := eq_true p166; replace q166 := eq_true q166; have p167 : 0 ≤ (0 : Int) := (by omega)
     have q167 : 0 < (l0.length : Int) := dT aQ; obtain ⟨ad167, e167, hx167_0, hx167_1⟩ := at_impl_Peg HR0.out 0 p167 q167; have hw167_1 := hx167_1
     (try rw [show ((0 : Int)).toNat = 0 from rfl] at hw167_1)
     (try rw [show 0 * 2 = 0 from rfl] at hw167_1)
     (try rw [Addr.add_zero'] at hw167_1)
     have hw167_0 := hx167_0
     (try rw [show ((0 : Int)).toNat = 0 from rfl] at hw167_0)
     (try rw [show 0 * 2 = 0 from rfl] at hw167_0)
     (try rw [Addr.add_zero'] at hw167_0)
     obtain rfl : ad161 = ad167 := (by injection e167)
     have qi167 : (0 < l0.length) = True := eq_true (by omega)
     (try rw [show ((0 : Int)).toNat = 0 from rfl] at hx167_0)
     (try rw [show 0 * 2 = 0 from rfl] at hx167_0)
     (try rw [Addr.add_zero'] at hx167_0)
     (try rw [show ((0 : Int)).toNat = 0 from rfl] at hx167_1)
     (try rw [show 0 * 2 = 0 from rfl] at hx167_1)
     (try rw [Addr.add_zero'] at hx167_1)
     replace hx167_0 := hC HB hx167_0; replace hx167_1 := hC HB hx167_1; replace p167 := eq_true p167; replace q167 := eq_true q167; have p168 : 0 ≤ (1 : Int) := (by omega)
     have q168 : 1 < (l1.length : Int) := dT aQ; obtain ⟨ad168, e168, hx168_0⟩ := Kd.at_int HR1.out 1 p168 q168; have hw168_0 := hx168_0
     (try rw [show ((1 : Int)).toNat = 1 from rfl] at hw168_0)
     (try rw [show 1 * 1 = 1 from rfl] at hw168_0)
     (try simp only [Nat.reduceMul, Nat.reduceEqDiff, Go.Addr.add, ↓reduceIte] at hw168_0)
     obtain rfl : ad157 = ad168 := (by injection e168)
     (try simp only [show (1 : Int).toNat = 1 from rfl, Nat.reduceMul, Nat.reduceEqDiff, Go.Addr.add, ↓reduceIte] at hx168_0)
     have qi168 : (1 < l1.length) = True := eq_true (by omega)
     (try rw [show ((1 : Int)).toNat = 1 from rfl] at hx168_0)
     replace hx168_0 := hC HB hx168_0; replace p168 := eq_true p168; replace q168 := eq_true q168; have p169 : 0 ≤ (1 : Int) := (by omega)
     have q169 : 1 < (l0.length : Int) := dT aQ; obtain ⟨ad169, e169, hx169_0, hx169_1⟩ := at_impl_Peg HR0.out 1 p169 q169; have hw169_1 := hx169_1
     (try rw [show ((1 : Int)).toNat = 1 from rfl] at hw169_1)
     (try rw [show 1 * 2 = 2 from rfl] at hw169_1)
     (try simp only [Nat.reduceMul, Nat.reduceEqDiff, Go.Addr.add, ↓reduceIte] at hw169_1)
     have hw169_0 := hx169_0
     (try rw [show ((1 : Int)).toNat = 1 from rfl] at hw169_0)
     (try rw [show 1 * 2 = 2 from rfl] at hw169_0)
     (try simp only [Nat.reduceMul, Nat.reduceEqDiff, Go.Addr.add, ↓reduceIte] at hw169_0)
     obtain rfl : ad161 = ad169 := (by injection e169)
     (try simp only [show (1 : Int).toNat = 1 from rfl, Nat.reduceMul, Nat.reduceEqDiff, Go.Addr.add, ↓reduceIte] at hx169_0)
     (try simp only [show (1 : Int).toNat = 1 from rfl, Nat.reduceMul, Nat.reduceEqDiff, Go.Addr.add, ↓reduceIte] at hx169_1)
     have qi169 : (1 < l0.length) = True := eq_true (by omega)
     (try rw [show ((1 : Int)).toNat = 1 from rfl] at hx169_0)
     (try rw [show 1 * 2 = 2 from rfl] at hx169_0)
     (try rw [show ((1 : Int)).toNat = 1 from rfl] at hx169_1)
     (try rw [show 1 * 2 = 2 from rfl] at hx169_1)
     replace hx169_0 := hC HB hx169_0; replace hx169_1 := hC HB hx169_1; replace p169 := eq_true p169; replace q169 := eq_true q169; have p170 : 0 ≤ (2 : Int) := (by omega)
     have q170 : 2 < (l1.length : Int) := dT aQ; obtain ⟨ad170, e170, hx170_0⟩ := Kd.at_int HR1.out 2 p170 q170; have hw170_0 := hx170_0
     (try rw [show ((2 : Int)).toNat = 2 from rfl] at hw170_0)
     (try rw [show 2 * 1 = 2 from rfl] at hw170_0)
     (try simp only [Nat.reduceMul, Nat.reduceEqDiff, Go.Addr.add, ↓reduceIte] at hw170_0)
     obtain rfl : ad157 = ad170 := (by injection e170)
     (try simp only [show (2 : Int).toNat = 2 from rfl, Nat.reduceMul, Nat.reduceEqDiff, Go.Addr.add, ↓reduceIte] at hx170_0)
     have qi170 : (2 < l1.length) = True := eq_true (by omega)
     (try rw [show ((2 : Int)).toNat = 2 from rfl] at hx170_0)
     replace hx170_0 := hC HB hx170_0; replace p170 := eq_true p170; replace q170 := eq_true q170; have p171 : 0 ≤ (2 : Int) := (by omega)
     have q171 : 2 < (l0.length : Int) := dT aQ; obtain ⟨ad171, e171, hx171_0, hx171_1⟩ := at_impl_Peg HR0.out 2 p171 q171; have hw171_1 := hx171_1
     (try rw [show ((2 : Int)).toNat = 2 from rfl] at hw171_1)
     (try rw [show 2 * 2 = 4 from rfl] at hw171_1)
     (try simp only [Nat.reduceMul, Nat.reduceEqDiff, Go.Addr.add, ↓reduceIte] at hw171_1)
     have hw171_0 := hx171_0
     (try rw [show ((2 : Int)).toNat = 2 from rfl] at hw171_0)
     (try rw [show 2 * 2 = 4 from rfl] at hw171_0)
     (try simp only [Nat.reduceMul, Nat.reduceEqDiff, Go.Addr.add, ↓reduceIte] at hw171_0)
     obtain rfl : ad161 = ad171 := (by injection e171)
     (try simp only [show (2 : Int).toNat = 2 from rfl, Nat.reduceMul, Nat.reduceEqDiff, Go.Addr.add, ↓reduceIte] at hx171_0)
     (try simp only [show (2 : Int).toNat = 2 from rfl, Nat.reduceMul, Nat.reduceEqDiff, Go.Addr.add, ↓reduceIte] at hx171_1)
     have qi171 : (2 < l0.length) = True := eq_true (by omega)
     (try rw [show ((2 : Int)).toNat = 2 from rfl] at hx171_0)
     (try rw [show 2 * 2 = 4 from rfl] at hx171_0)
     (try rw [show ((2 : Int)).toNat = 2 from rfl] at hx171_1)
     (try rw [show 2 * 2 = 4 from rfl] at hx171_1)
     replace hx171_0 := hC HB hx171_0; replace hx171_1 := hC HB hx171_1; replace p171 := eq_true p171; replace q171 := eq_true q171
     refine start_ (n := 27) (S := fun w' => w'.cell? ad157 = some (.int .i64 (rd l1 0)) ∧ w'.cell? ad161 = some (.int .i64 ((rd_impl_Peg l0 0).f0)) ∧ w'.cell? ⟨ad161.block, ad161.off + 1, none⟩ = some (.int .i64 ((rd_impl_Peg l0 0).f1)) ∧ w'.cell? ⟨ad157.block, ad157.off + 1, none⟩ = some (.int .i64 (rd l1 1)) ∧ w'.cell? ⟨ad161.block, ad161.off + 2, none⟩ = some (.int .i64 ((rd_impl_Peg l0 1).f0)) ∧ w'.cell? ⟨ad161.block, ad161.off + 2 + 1, none⟩ = some (.int .i64 ((rd_impl_Peg l0 1).f1)) ∧ w'.cell? ⟨ad157.block, ad157.off + 2, none⟩ = some (.int .i64 (rd l1 2)) ∧ w'.cell? ⟨ad161.block, ad161.off + 4, none⟩ = some (.int .i64 ((rd_impl_Peg l0 2).f0)) ∧ w'.cell? ⟨ad161.block, ad161.off + 4 + 1, none⟩ = some (.int .i64 ((rd_impl_Peg l0 2).f1))) (ds := []) (bA 27 0) kR rfl kR ⟨(hC HB hw166_0 :), (hC HB hw167_0 :), (hC HB hw167_1 :), (hC HB hw168_0 :), (hC HB hw169_0 :), (hC HB hw169_1 :), (hC HB hw170_0 :), (hC HB hw171_0 :), (hC HB hw171_1 :)⟩ (fun hHeld => ?_); refine with_tabW spec_PegOfParts.tab7 spec_PegOfParts.bits7 (fun HT_ HW_ => ?_)
     generalize w25.drew = w26 at BK153 HB hx166_0 hx167_0 hx167_1 hx168_0 hx169_0 hx169_1 hx170_0 hx171_0 hx171_1 hHeld ⊢
     refine pU 0 66 (bA 27 1) HT_ ?_; refine pU 1 67 (bA 27 3) HT_ ?_; refine pU 3 69 (bA 27 11) HT_ ?_; refine pU 4 70 (bA 27 27) HT_ ?_; refine pU 5 71 (bA 27 59) HT_ ?_; refine pU 8 74 (bA 27 315) HT_ ?_; refine pU 9 75 (bA 27 827) HT_ ?_; refine pU 11 77 (bA 27 2875) HT_ ?_; refine pU 12 78 (bA 27 6971) HT_ ?_; refine pU 13 79 (bA 27 15163) HT_ ?_; refine pU 17 83 (bA 27 146235) HT_ ?_; refine pU 18 84 (bA 27 408379) HT_ ?_; refine pU 20 86 (bA 27 1456955) HT_ ?_; refine pU 21 87 (bA 27 3554107) HT_ ?_; refine pU 22 88 (bA 27 7748411) HT_ ?_
     refine tU 2 68 (bA 27 7748415) HT_ HW_ hHeld ?_ (hy := Or.inl ⟨by rfl, by rintro w' ⟨s0, s1, s2, s3, s4, s5, s6, s7, s8⟩; go_simp; with_reducible rfl⟩)
     refine tU 6 72 (bA 27 7748479) HT_ HW_ hHeld ?_ (hy := Or.inl ⟨by rfl, by rintro w' ⟨s0, s1, s2, s3, s4, s5, s6, s7, s8⟩; go_simp; with_reducible rfl⟩)
     refine pU 7 73 (bA 27 7748607) HT_ ?_
     refine tU 10 76 (bA 27 7749631) HT_ HW_ hHeld ?_ (hy := Or.inl ⟨by rfl, by rintro w' ⟨s0, s1, s2, s3, s4, s5, s6, s7, s8⟩; go_simp; with_reducible rfl⟩)
     refine tU 14 80 (bA 27 7766015) HT_ HW_ hHeld ?_ (hy := Or.inl ⟨by rfl, by rintro w' ⟨s0, s1, s2, s3, s4, s5, s6, s7, s8⟩; go_simp; with_reducible rfl⟩)
     refine pU 15 81 (bA 27 7798783) HT_ ?_; refine pU 16 82 (bA 27 7864319) HT_ ?_
     refine tU 19 85 (bA 27 8388607) HT_ HW_ hHeld ?_ (hy := Or.inl ⟨by rfl, by rintro w' ⟨s0, s1, s2, s3, s4, s5, s6, s7, s8⟩; go_simp; with_reducible rfl⟩)
     refine tU 23 89 (bA 27 16777215) HT_ HW_ hHeld ?_ (hy := Or.inl ⟨by rfl, by rintro w' ⟨s0, s1, s2, s3, s4, s5, s6, s7, s8⟩; go_simp; with_reducible rfl⟩)
     refine pU 24 90 (bA 27 33554431) HT_ ?_; refine pU 25 91 (bA 27 67108863) HT_ ?_; refine pU 26 8 (bA 27 134217727) HT_ ?_
     refine done_ (done_of HT_.out kR) ?_
     go_upto_region 8 with (fail)
     go_cut [101] (fun v101 wc => ∃ (kq : Nat) (x101_21 : Bool), v101 = .bool x101_21 ∧ Aside0 (spec_PegOfParts.j1 kq t156 (wrap64 ((wrap64 ((wrap64 ((rd l1 0) * ((rd_impl_Peg l0 0).f0))) + (wrap64 ((rd l1 1) * ((rd_impl_Peg l0 1).f0))))) + (wrap64 ((rd l1 2) * ((rd_impl_Peg l0 2).f0))))) (wrap64 ((wrap64 ((wrap64 ((rd l1 0) * ((rd_impl_Peg l0 0).f1))) + (wrap64 ((rd l1 1) * ((rd_impl_Peg l0 1).f1))))) + (wrap64 ((rd l1 2) * ((rd_impl_Peg l0 2).f1))))) x101_21 = some (r1, r2, r3)) ∧ Aside0 (kq ≤ kj2) ∧ Aside0 (wc.heap[gb153]? = some (.cells #[.int .i64 0, .int .i64 0] 26 (0, 0))) ∧ Aside0 (Below w.heap.size w wc))
     case first =>
      have H := HC22.out; clear HC22; replace H := iM H; obtain ⟨c27, H⟩ := H; have c27b0 : (t156 == 0) = false := beq_eq_false_iff_ne.mpr c27; have c27b1 : (t156 != 0) = true := bne_iff_ne.mpr c27
      (first | rw [c27b0] | (simp only [i64_w, i32_w]; rw [c27b0]) | skip)
      by_cases c28 : (Int.tmod (wrap64 ((wrap64 ((wrap64 ((rd l1 0) * ((rd_impl_Peg l0 0).f0))) + (wrap64 ((rd l1 1) * ((rd_impl_Peg l0 1).f0))))) + (wrap64 ((rd l1 2) * ((rd_impl_Peg l0 2).f0))))) t156) = 0
      ·rw [if_pos c28] at H; have c28b0 : ((Int.tmod (wrap64 ((wrap64 ((wrap64 ((rd l1 0) * ((rd_impl_Peg l0 0).f0))) + (wrap64 ((rd l1 1) * ((rd_impl_Peg l0 1).f0))))) + (wrap64 ((rd l1 2) * ((rd_impl_Peg l0 2).f0))))) t156) == 0) = true := beq_iff_eq.mpr c28; have c28b1 : ((Int.tmod (wrap64 ((wrap64 ((wrap64 ((rd l1 0) * ((rd_impl_Peg l0 0).f0))) + (wrap64 ((rd l1 1) * ((rd_impl_Peg l0 1).f0))))) + (wrap64 ((rd l1 2) * ((rd_impl_Peg l0 2).f0))))) t156) != 0) = false := bne_eq_false_iff_eq.mpr c28; clear c28; have H' := aM H; clear H; go_wp2
       go_meet
       case rel => exact ⟨_, (((Int.tmod (wrap64 ((wrap64 ((wrap64 ((rd l1 0) * ((rd_impl_Peg l0 0).f1))) + (wrap64 ((rd l1 1) * ((rd_impl_Peg l0 1).f1))))) + (wrap64 ((rd l1 2) * ((rd_impl_Peg l0 2).f1))))) t156) != 0)), eQ, H', ⟨by have := HJ2.out; first | omega | exact Nat.le_refl _⟩, ⟨gQ BK153⟩, ⟨bE⟩⟩
      ·rw [if_neg c28] at H; have c28b0 : ((Int.tmod (wrap64 ((wrap64 ((wrap64 ((rd l1 0) * ((rd_impl_Peg l0 0).f0))) + (wrap64 ((rd l1 1) * ((rd_impl_Peg l0 1).f0))))) + (wrap64 ((rd l1 2) * ((rd_impl_Peg l0 2).f0))))) t156) == 0) = false := beq_eq_false_iff_ne.mpr c28; have c28b1 : ((Int.tmod (wrap64 ((wrap64 ((wrap64 ((rd l1 0) * ((rd_impl_Peg l0 0).f0))) + (wrap64 ((rd l1 1) * ((rd_impl_Peg l0 1).f0))))) + (wrap64 ((rd l1 2) * ((rd_impl_Peg l0 2).f0))))) t156) != 0) = true := bne_iff_ne.mpr c28; have H' := aM H; clear H; go_wp2
       go_meet
       case rel => exact ⟨_, (true), eQ, H', ⟨by have := HJ2.out; first | omega | exact Nat.le_refl _⟩, ⟨gQ BK153⟩, ⟨bE⟩⟩
     case rest =>
      clear HC22; (try clear hx160_0); (try clear hx161_0); (try clear hx161_1); (try clear hx162_0); (try clear hx163_0); (try clear hx163_1); (try clear hx164_0); (try clear hx165_0); (try clear hx165_1); (try clear hx166_0); (try clear hx167_0); (try clear hx167_1); (try clear hx168_0); (try clear hx169_0); (try clear hx169_1); (try clear hx170_0); (try clear hx171_0); (try clear hx171_1); (try clear p165); (try clear p166); (try clear p167); (try clear p168); (try clear p169); (try clear p170); (try clear p171); (try clear q165); (try clear q166); (try clear q167); (try clear q168); (try clear q169); (try clear q170); (try clear q171); obtain ⟨kq, x101_21, rfl, HA, HJ21, BK153, HB⟩ := hcut
      cases kq with
      | zero => exact absurd HA.out (by simp [spec_PegOfParts.j1])
      | succ kj21 =>
       have H := HA.out; clear HA
       simp only [spec_PegOfParts.j1] at H
       by_cases c29 : x101_21 = true
       ·subst c29; replace H := iT H
        simp only [Option.some.injEq, Prod.mk.injEq] at H
        obtain ⟨rfl, rfl, rfl⟩ := H; have hcz30_0 : wc.cell? ⟨gb153, 0, none⟩ = some (.int .i64 0) := vZ0 BK153; have hcz30_1 : wc.cell? ⟨gb153, 1, none⟩ = some (.int .i64 0) := vZ1 BK153; have hfz30_0 := kF BK153.out 0; have hfz30_1 := kF BK153.out 1; go_wp2
        refine bodyPost_ret (results_ct rfl _ _ gb153 26 #[.int .i64 0, .int .i64 0] (0, 0) _ rfl (fQ BK153) Try.underlying26 rfl kR) rfl ?_
        exact ⟨wQ, bE⟩
       ·replace c29 := Bool.eq_false_iff.mpr c29; subst c29; replace H := iF H; replace H := iM H; obtain ⟨c31, H⟩ := H; have c31b0 : (t156 == 0) = false := beq_eq_false_iff_ne.mpr c31; have c31b1 : (t156 != 0) = true := bne_iff_ne.mpr c31; replace H := bS H; obtain ⟨t173, A32, H⟩ := H
        by_cases c33 : t173 = true
        ·subst c33; replace H := iT H
         simp only [Option.some.injEq, Prod.mk.injEq] at H
         obtain ⟨rfl, rfl, rfl⟩ := H
         try go_wp2
         replace BK153 := aM (kD BK153.out); replace HB := aM (pD HB.out)
         refine start_ (n := 9) (S := fun w' => True) (ds := []) (bA 9 0) kR rfl kR trivial (fun hHeld => ?_); refine with_tabW spec_PegOfParts.tab10 spec_PegOfParts.bits10 (fun HT_ HW_ => ?_)
         generalize wc.drew = w34 at BK153 HB hHeld ⊢
         refine pU 0 103 (bA 9 1) HT_ ?_; refine pU 1 104 (bA 9 3) HT_ ?_; refine pU 2 105 (bA 9 7) HT_ ?_; refine pU 3 106 (bA 9 15) HT_ ?_; refine pU 4 107 (bA 9 31) HT_ ?_; refine pU 5 108 (bA 9 63) HT_ ?_; refine pU 6 109 (bA 9 127) HT_ ?_
         refine oU 7 9 (bA 9 255) HT_ (fun K hK => ?_)
         refine box_step ?hg (N := 9) ?hd (cs := #[.int .i64 0, .int .i64 0]) (t := 26) ?hr ?_; (case hd => rfl); (case hg => rfl); (case hr => first | (go_simp; done) | (go_simp; rfl))
         intro gb172 hg w35 hbox hb
         have BK172 := aM (hbox); have GW172 := gZ HB hg; have GE172 := gZ HB hg; have NB153_172 := nG BK153 hg; have NB172_153 := nH BK153 hg; replace BK153 := bB BK153 hb; replace HB := tB HB hb; clear hb hbox hg
         refine hK.out _ _ trivial (fun hHeld => ?_)
         clear hK K
         refine nU ?_
         refine one_ (i := 8) (N := none) (bA 9 511) rfl rfl (one_of HT_.out kR) (by decide) (fun K hK => ?_)
         have hs36 : w35.cell? ⟨gb172, 0, none⟩ = some (.int .i64 0) := vZ0 BK172; have hfs36 := kF BK172.out 0; have hns36_0 := NB153_172.out; have hms36_0 := NB172_153.out; have hs37 : w35.cell? ⟨gb172, 1, none⟩ = some (.int .i64 0) := vZ1 BK172; have hfs37 := kF BK172.out 1; have hns37_0 := NB153_172.out; have hms37_0 := NB172_153.out
         refine skip_ (w1 := ?_) (by rfl) rfl ?_ ?_
         rotate_left
         ·go_simp
          rfl
         refine hK.out _ _ trivial (fun hHeld => ?_)
         clear hK K
         refine done_ (done_of HT_.out kR) ?_
         have hnb38 := NB172_153.out; have hnc38 := NB153_172.out; have hcz39_0 := vZ0 BK172; have hcz39_1 := vZ1 BK172; have hfz39_0 := kF BK172.out 0; have hfz39_1 := kF BK172.out 1
         try go_wp2_with (first | ((with_reducible refine gC (f := 57) rfl ?_); refine goesL_ (some 111) rfl rfl Try.func57 kR rfl #[.agg #[.int .i64 (wrap64 (Int.tdiv (wrap64 ((wrap64 ((wrap64 ((rd l1 0) * ((rd_impl_Peg l0 0).f0))) + (wrap64 ((rd l1 1) * ((rd_impl_Peg l0 1).f0))))) + (wrap64 ((rd l1 2) * ((rd_impl_Peg l0 2).f0))))) t156)), .int .i64 (wrap64 (Int.tdiv (wrap64 ((wrap64 ((wrap64 ((rd l1 0) * ((rd_impl_Peg l0 0).f1))) + (wrap64 ((rd l1 1) * ((rd_impl_Peg l0 1).f1))))) + (wrap64 ((rd l1 2) * ((rd_impl_Peg l0 2).f1))))) t156))]] rfl sQ ?_; (with_reducible refine (spec_pgIs.calls (wrap64 (Int.tdiv (wrap64 ((wrap64 ((wrap64 ((rd l1 0) * ((rd_impl_Peg l0 0).f0))) + (wrap64 ((rd l1 1) * ((rd_impl_Peg l0 1).f0))))) + (wrap64 ((rd l1 2) * ((rd_impl_Peg l0 2).f0))))) t156)) (wrap64 (Int.tdiv (wrap64 ((wrap64 ((wrap64 ((rd l1 0) * ((rd_impl_Peg l0 0).f1))) + (wrap64 ((rd l1 1) * ((rd_impl_Peg l0 1).f1))))) + (wrap64 ((rd l1 2) * ((rd_impl_Peg l0 2).f1))))) t156)) true _ A32.out).mono ?_); rintro e w40 ⟨rfl, hb⟩; refine ⟨_, rfl, ?_⟩; replace BK153 := aM (blk_below (g := gb153) (o := .cells #[.int .i64 0, .int .i64 0] 26 (0, 0)) (fQ BK153) hb); replace BK172 := aM (blk_below (g := gb172) (o := .cells #[.int .i64 (wrap64 (Int.tdiv (wrap64 ((wrap64 ((wrap64 ((rd l1 0) * ((rd_impl_Peg l0 0).f0))) + (wrap64 ((rd l1 1) * ((rd_impl_Peg l0 1).f0))))) + (wrap64 ((rd l1 2) * ((rd_impl_Peg l0 2).f0))))) t156)), .int .i64 (wrap64 (Int.tdiv (wrap64 ((wrap64 ((wrap64 ((rd l1 0) * ((rd_impl_Peg l0 0).f1))) + (wrap64 ((rd l1 1) * ((rd_impl_Peg l0 1).f1))))) + (wrap64 ((rd l1 2) * ((rd_impl_Peg l0 2).f1))))) t156))] 26 (0, 0)) (fQ BK172) hb); replace HB := tB HB hb; (try clear hb); (try clear hb2); (try clear hk); (try clear hi); have hcz41_0 : w40.cell? ⟨gb172, 0, none⟩ = some (.int .i64 (wrap64 (Int.tdiv (wrap64 ((wrap64 ((wrap64 ((rd l1 0) * ((rd_impl_Peg l0 0).f0))) + (wrap64 ((rd l1 1) * ((rd_impl_Peg l0 1).f0))))) + (wrap64 ((rd l1 2) * ((rd_impl_Peg l0 2).f0))))) t156))) := vZ0 BK172; have hcz41_1 : w40.cell? ⟨gb172, 1, none⟩ = some (.int .i64 (wrap64 (Int.tdiv (wrap64 ((wrap64 ((wrap64 ((rd l1 0) * ((rd_impl_Peg l0 0).f1))) + (wrap64 ((rd l1 1) * ((rd_impl_Peg l0 1).f1))))) + (wrap64 ((rd l1 2) * ((rd_impl_Peg l0 2).f1))))) t156))) := vZ1 BK172; have hfz41_0 := kF BK172.out 0; have hfz41_1 := kF BK172.out 1; have hcz42_0 := vZ0 BK153; have hcz42_1 := vZ1 BK153; have hfz42_0 := kF BK153.out 0; have hfz42_1 := kF BK153.out 1))
         refine bodyPost_ret (results_ct rfl _ _ gb153 26 #[.int .i64 (wrap64 (Int.tdiv (wrap64 ((wrap64 ((wrap64 ((rd l1 0) * ((rd_impl_Peg l0 0).f0))) + (wrap64 ((rd l1 1) * ((rd_impl_Peg l0 1).f0))))) + (wrap64 ((rd l1 2) * ((rd_impl_Peg l0 2).f0))))) t156)), .int .i64 (wrap64 (Int.tdiv (wrap64 ((wrap64 ((wrap64 ((rd l1 0) * ((rd_impl_Peg l0 0).f1))) + (wrap64 ((rd l1 1) * ((rd_impl_Peg l0 1).f1))))) + (wrap64 ((rd l1 2) * ((rd_impl_Peg l0 2).f1))))) t156))] (0, 0) _ rfl (fQ BK153) Try.underlying26 rfl kR) rfl ?_
         exact ⟨wQ, bE⟩
        ·replace c33 := Bool.eq_false_iff.mpr c33; subst c33; replace H := iF H
         simp only [Option.some.injEq, Prod.mk.injEq] at H
         obtain ⟨rfl, rfl, rfl⟩ := H
         try go_wp2
         replace BK153 := aM (kD BK153.out); replace HB := aM (pD HB.out)
         refine start_ (n := 9) (S := fun w' => True) (ds := []) (bA 9 0) kR rfl kR trivial (fun hHeld => ?_); refine with_tabW spec_PegOfParts.tab10 spec_PegOfParts.bits10 (fun HT_ HW_ => ?_)
         generalize wc.drew = w43 at BK153 HB hHeld ⊢
         refine pU 0 103 (bA 9 1) HT_ ?_; refine pU 1 104 (bA 9 3) HT_ ?_; refine pU 2 105 (bA 9 7) HT_ ?_; refine pU 3 106 (bA 9 15) HT_ ?_; refine pU 4 107 (bA 9 31) HT_ ?_; refine pU 5 108 (bA 9 63) HT_ ?_; refine pU 6 109 (bA 9 127) HT_ ?_
         refine oU 7 9 (bA 9 255) HT_ (fun K hK => ?_)
         refine box_step ?hg (N := 9) ?hd (cs := #[.int .i64 0, .int .i64 0]) (t := 26) ?hr ?_; (case hd => rfl); (case hg => rfl); (case hr => first | (go_simp; done) | (go_simp; rfl))
         intro gb172 hg w44 hbox hb
         have BK172 := aM (hbox); have GW172 := gZ HB hg; have GE172 := gZ HB hg; have NB153_172 := nG BK153 hg; have NB172_153 := nH BK153 hg; replace BK153 := bB BK153 hb; replace HB := tB HB hb; clear hb hbox hg
         refine hK.out _ _ trivial (fun hHeld => ?_)
         clear hK K
         refine nU ?_
         refine one_ (i := 8) (N := none) (bA 9 511) rfl rfl (one_of HT_.out kR) (by decide) (fun K hK => ?_)
         have hs45 : w44.cell? ⟨gb172, 0, none⟩ = some (.int .i64 0) := vZ0 BK172; have hfs45 := kF BK172.out 0; have hns45_0 := NB153_172.out; have hms45_0 := NB172_153.out; have hs46 : w44.cell? ⟨gb172, 1, none⟩ = some (.int .i64 0) := vZ1 BK172; have hfs46 := kF BK172.out 1; have hns46_0 := NB153_172.out; have hms46_0 := NB172_153.out
         refine skip_ (w1 := ?_) (by rfl) rfl ?_ ?_
         rotate_left
         ·go_simp
          rfl
         refine hK.out _ _ trivial (fun hHeld => ?_)
         clear hK K
         refine done_ (done_of HT_.out kR) ?_
         have hnb47 := NB172_153.out; have hnc47 := NB153_172.out; have hcz48_0 := vZ0 BK172; have hcz48_1 := vZ1 BK172; have hfz48_0 := kF BK172.out 0; have hfz48_1 := kF BK172.out 1
         try go_wp2_with (first | ((with_reducible refine gC (f := 57) rfl ?_); refine goesL_ (some 111) rfl rfl Try.func57 kR rfl #[.agg #[.int .i64 (wrap64 (Int.tdiv (wrap64 ((wrap64 ((wrap64 ((rd l1 0) * ((rd_impl_Peg l0 0).f0))) + (wrap64 ((rd l1 1) * ((rd_impl_Peg l0 1).f0))))) + (wrap64 ((rd l1 2) * ((rd_impl_Peg l0 2).f0))))) t156)), .int .i64 (wrap64 (Int.tdiv (wrap64 ((wrap64 ((wrap64 ((rd l1 0) * ((rd_impl_Peg l0 0).f1))) + (wrap64 ((rd l1 1) * ((rd_impl_Peg l0 1).f1))))) + (wrap64 ((rd l1 2) * ((rd_impl_Peg l0 2).f1))))) t156))]] rfl sQ ?_; (with_reducible refine (spec_pgIs.calls (wrap64 (Int.tdiv (wrap64 ((wrap64 ((wrap64 ((rd l1 0) * ((rd_impl_Peg l0 0).f0))) + (wrap64 ((rd l1 1) * ((rd_impl_Peg l0 1).f0))))) + (wrap64 ((rd l1 2) * ((rd_impl_Peg l0 2).f0))))) t156)) (wrap64 (Int.tdiv (wrap64 ((wrap64 ((wrap64 ((rd l1 0) * ((rd_impl_Peg l0 0).f1))) + (wrap64 ((rd l1 1) * ((rd_impl_Peg l0 1).f1))))) + (wrap64 ((rd l1 2) * ((rd_impl_Peg l0 2).f1))))) t156)) false _ A32.out).mono ?_); rintro e w49 ⟨rfl, hb⟩; refine ⟨_, rfl, ?_⟩; replace BK153 := aM (blk_below (g := gb153) (o := .cells #[.int .i64 0, .int .i64 0] 26 (0, 0)) (fQ BK153) hb); replace BK172 := aM (blk_below (g := gb172) (o := .cells #[.int .i64 (wrap64 (Int.tdiv (wrap64 ((wrap64 ((wrap64 ((rd l1 0) * ((rd_impl_Peg l0 0).f0))) + (wrap64 ((rd l1 1) * ((rd_impl_Peg l0 1).f0))))) + (wrap64 ((rd l1 2) * ((rd_impl_Peg l0 2).f0))))) t156)), .int .i64 (wrap64 (Int.tdiv (wrap64 ((wrap64 ((wrap64 ((rd l1 0) * ((rd_impl_Peg l0 0).f1))) + (wrap64 ((rd l1 1) * ((rd_impl_Peg l0 1).f1))))) + (wrap64 ((rd l1 2) * ((rd_impl_Peg l0 2).f1))))) t156))] 26 (0, 0)) (fQ BK172) hb); replace HB := tB HB hb; (try clear hb); (try clear hb2); (try clear hk); (try clear hi); have hcz50_0 := vZ0 BK153; have hcz50_1 := vZ1 BK153; have hfz50_0 := kF BK153.out 0; have hfz50_1 := kF BK153.out 1))
         refine bodyPost_ret (results_ct rfl _ _ gb153 26 #[.int .i64 0, .int .i64 0] (0, 0) _ rfl (fQ BK153) Try.underlying26 rfl kR) rfl ?_
         exact ⟨wQ, bE⟩
    ·rw [if_neg c18] at H; have c18b0 : ((wrap64 ((wrap64 ((rd l1 0) + (rd l1 1))) + (rd l1 2))) == t156) = false := beq_eq_false_iff_ne.mpr c18; have c18b1 : ((wrap64 ((wrap64 ((rd l1 0) + (rd l1 1))) + (rd l1 2))) != t156) = true := bne_iff_ne.mpr c18
     simp only [Option.some.injEq, Prod.mk.injEq] at H
     obtain ⟨rfl, rfl, rfl⟩ := H
     try go_wp2_with (first | ((with_reducible refine gC (f := 56) rfl ?_); refine goesL_ (some 25) rfl rfl Try.func56 kR rfl #[.slice A0 l0.length c0] rfl sQ ?_; (with_reducible refine (spec_pgArea.calls kj2 _ _ l0 t156 _ ?side1 ?side2 A14.out).mono ?_); (case side1 => repeat (first | exact (Kd.C_below HR0.out HB.out) | (with_reducible refine cA ?_ _) | (with_reducible refine cN ?_ _) | (with_reducible refine cD ?_))); (case side2 => exact HC0.out); rintro e w51 ⟨rfl, hb⟩; refine ⟨_, rfl, ?_⟩; replace BK153 := bB BK153 hb; replace HB := tB HB hb; (try clear hb); (try clear hb2); (try clear hk); (try clear hi)))
     replace BK153 := aM (kD BK153.out); replace HB := aM (pD HB.out); have p157 : 0 ≤ (0 : Int) := (by omega)
     have q157 : 0 < (l1.length : Int) := dT aQ; obtain ⟨ad157, e157, hx157_0⟩ := Kd.at_int HR1.out 0 p157 q157; have hw157_0 := hx157_0
     (try rw [show ((0 : Int)).toNat = 0 from rfl] at hw157_0)
     (try rw [show 0 * 1 = 0 from rfl] at hw157_0)
     (try rw [Addr.add_zero'] at hw157_0)
     cases e157
     have qi157 : (0 < l1.length) = True := eq_true (by omega)
     (try rw [show ((0 : Int)).toNat = 0 from rfl] at hx157_0)
     (try rw [Addr.add_zero'] at hx157_0)
     replace hx157_0 := hC HB hx157_0; replace p157 := eq_true p157; replace q157 := eq_true q157; have p158 : 0 ≤ (1 : Int) := (by omega)
     have q158 : 1 < (l1.length : Int) := dT aQ; obtain ⟨ad158, e158, hx158_0⟩ := Kd.at_int HR1.out 1 p158 q158; have hw158_0 := hx158_0
     (try rw [show ((1 : Int)).toNat = 1 from rfl] at hw158_0)
     (try rw [show 1 * 1 = 1 from rfl] at hw158_0)
     (try simp only [Nat.reduceMul, Nat.reduceEqDiff, Go.Addr.add, ↓reduceIte] at hw158_0)
     obtain rfl : ad157 = ad158 := (by injection e158)
     (try simp only [show (1 : Int).toNat = 1 from rfl, Nat.reduceMul, Nat.reduceEqDiff, Go.Addr.add, ↓reduceIte] at hx158_0)
     have qi158 : (1 < l1.length) = True := eq_true (by omega)
     (try rw [show ((1 : Int)).toNat = 1 from rfl] at hx158_0)
     replace hx158_0 := hC HB hx158_0; replace p158 := eq_true p158; replace q158 := eq_true q158; have p159 : 0 ≤ (2 : Int) := (by omega)
     have q159 : 2 < (l1.length : Int) := dT aQ; obtain ⟨ad159, e159, hx159_0⟩ := Kd.at_int HR1.out 2 p159 q159; have hw159_0 := hx159_0
     (try rw [show ((2 : Int)).toNat = 2 from rfl] at hw159_0)
     (try rw [show 2 * 1 = 2 from rfl] at hw159_0)
     (try simp only [Nat.reduceMul, Nat.reduceEqDiff, Go.Addr.add, ↓reduceIte] at hw159_0)
     obtain rfl : ad157 = ad159 := (by injection e159)
     (try simp only [show (2 : Int).toNat = 2 from rfl, Nat.reduceMul, Nat.reduceEqDiff, Go.Addr.add, ↓reduceIte] at hx159_0)
     have qi159 : (2 < l1.length) = True := eq_true (by omega)
     (try rw [show ((2 : Int)).toNat = 2 from rfl] at hx159_0)
     replace hx159_0 := hC HB hx159_0; replace p159 := eq_true p159; replace q159 := eq_true q159
     refine start_ (n := 13) (S := fun w' => w'.cell? ad157 = some (.int .i64 (rd l1 0)) ∧ w'.cell? ⟨ad157.block, ad157.off + 1, none⟩ = some (.int .i64 (rd l1 1)) ∧ w'.cell? ⟨ad157.block, ad157.off + 2, none⟩ = some (.int .i64 (rd l1 2))) (ds := []) (bA 13 0) kR rfl kR ⟨(hC HB hw157_0 :), (hC HB hw158_0 :), (hC HB hw159_0 :)⟩ (fun hHeld => ?_); refine with_tabW spec_PegOfParts.tab4 spec_PegOfParts.bits4 (fun HT_ HW_ => ?_)
     generalize w51.drew = w52 at BK153 HB hx157_0 hx158_0 hx159_0 hHeld ⊢
     refine pU 0 26 (bA 13 1) HT_ ?_; refine pU 1 27 (bA 13 3) HT_ ?_; refine pU 3 29 (bA 13 11) HT_ ?_; refine pU 4 30 (bA 13 27) HT_ ?_; refine pU 7 33 (bA 13 155) HT_ ?_; refine pU 8 34 (bA 13 411) HT_ ?_; refine pU 11 37 (bA 13 2459) HT_ ?_
     refine tU 2 28 (bA 13 2463) HT_ HW_ hHeld ?_ (hy := Or.inl ⟨by rfl, by rintro w' ⟨s0, s1, s2⟩; go_simp; with_reducible rfl⟩)
     refine tU 5 31 (bA 13 2495) HT_ HW_ hHeld ?_ (hy := Or.inl ⟨by rfl, by rintro w' ⟨s0, s1, s2⟩; go_simp; with_reducible rfl⟩)
     refine pU 6 32 (bA 13 2559) HT_ ?_
     refine tU 9 35 (bA 13 3071) HT_ HW_ hHeld ?_ (hy := Or.inl ⟨by rfl, by rintro w' ⟨s0, s1, s2⟩; go_simp; with_reducible rfl⟩)
     refine pU 10 36 (bA 13 4095) HT_ ?_; refine pU 12 38 (bA 13 8191) HT_ ?_
     refine done_ (done_of HT_.out kR) ?_
     have hcz53_0 := vZ0 BK153; have hcz53_1 := vZ1 BK153; have hfz53_0 := kF BK153.out 0; have hfz53_1 := kF BK153.out 1
     try go_wp2
     refine bodyPost_ret (results_ct rfl _ _ gb153 26 #[.int .i64 0, .int .i64 0] (0, 0) _ rfl (fQ BK153) Try.underlying26 rfl kR) rfl ?_
     exact ⟨wQ, bE⟩
end Go.Proofs.Ytklhakfmegbobaa.X
