-- thin
-- short
-- compact
import Derived.Test.YtklhakfmegbobaaXA
import Derived.Test.YtklhakfmegbobaaX0
import Derived.Test.YtklhakfmegbobaaX20
import Derived.Test.YtklhakfmegbobaaX30
import Derived.Test.YtklhakfmegbobaaX31
namespace Go.Proofs.Ytklhakfmegbobaa.X
open Go.RowKit Go.Proofs.Ytklhakfmegbobaa.XW Go.Proofs.YtklhakfmegbobaaW.PrintWords Go.Proofs.YtklhakfmegbobaaW.PrintLast Go.Proofs.YtklhakfmegbobaaW.PrintMore
attribute [local go_sem] max2_int min2_int max_two min_two max_three min_three max_four min_four   -- for this text's walks alone
set_option linter.unusedVariables false
set_option linter.unusedSimpArgs false

mutual
def impl_PegsPerLine.l0 : Nat → List (S_impl_Peg) → Int → List Int → Int → Int → Int → Int → Int → Int → Int → Option (List Int × Bool)
 | 0, _, _, _, _, _, _, _, _, _, _ => none
 | k + 1, x0, x9, x11, x14, x605000, x605001, x615000, x615001, x616000, x616001 => if x14 ≤ x616000 then (impl_PegsPerLine.l1 k x0 x9 x11 x14 x615001 x605000 x605001 x615000 x615001 x616000 x616001) else (some (x11, true))
def impl_PegsPerLine.l1 : Nat → List (S_impl_Peg) → Int → List Int → Int → Int → Int → Int → Int → Int → Int → Int → Option (List Int × Bool)
 | 0, _, _, _, _, _, _, _, _, _, _, _ => none
 | k + 1, x0, x9, x11, x14, x15, x605000, x605001, x615000, x615001, x616000, x616001 => if x15 ≤ x616001 then ((impl_where.f k x0 x14 x15).bind fun t617 => (if t617 ≥ 0 then ((impl_value.f x605000 x605001 x14 x15).bind fun t618 => (if 0 ≤ (wrap64 (t618 - x9)) then (if (wrap64 (t618 - x9)) < (x11.length : Int) then (impl_PegsPerLine.l1 k x0 x9 (x11.set ((wrap64 (t618 - x9)) : Int).toNat (wrap64 ((rd x11 (wrap64 (t618 - x9))) + 1))) x14 (wrap64 (x15 + 1)) x605000 x605001 x615000 x615001 x616000 x616001) else (none)) else (none))) else (impl_PegsPerLine.l1 k x0 x9 x11 x14 (wrap64 (x15 + 1)) x605000 x605001 x615000 x615001 x616000 x616001))) else (impl_PegsPerLine.l0 k x0 x9 x11 (wrap64 (x14 + 1)) x605000 x605001 x615000 x615001 x616000 x616001)
end
def impl_PegsPerLine.f (k : Nat) (l0 : List (S_impl_Peg)) (a1 : Int) (a2 : Int) : Option (List Int × Bool) := (impl_isWide.f k l0 a1 a2).bind fun t603 => (if t603 = true then ((impl_extent.f k l0 a1 a2).bind fun bt605 => (if 0 ≤ (wrap64 ((wrap64 (bt605.2 - bt605.1)) + 1)) then (if (wrap64 ((wrap64 (bt605.2 - bt605.1)) + 1) : Int).toNat ≤ 35184372088832 then ((impl_box.f k l0).bind fun bt610 => (impl_PegsPerLine.l0 k l0 bt605.1 (List.replicate (wrap64 ((wrap64 (bt605.2 - bt605.1)) + 1) : Int).toNat 0) bt610.1 a1 a2 bt610.1 bt610.2.1 bt610.2.2.1 bt610.2.2.2)) else (none)) else (none))) else (some (([] : List Int), false)))
theorem impl_PegsPerLine.mono_l : ∀ k, (∀ y0 y1 y2 y3 y4 y5 y6 y7 y8 y9, LeO (impl_PegsPerLine.l0 k y0 y1 y2 y3 y4 y5 y6 y7 y8 y9) (impl_PegsPerLine.l0 (k + 1) y0 y1 y2 y3 y4 y5 y6 y7 y8 y9)) ∧ (∀ y0 y1 y2 y3 y4 y5 y6 y7 y8 y9 y10, LeO (impl_PegsPerLine.l1 k y0 y1 y2 y3 y4 y5 y6 y7 y8 y9 y10) (impl_PegsPerLine.l1 (k + 1) y0 y1 y2 y3 y4 y5 y6 y7 y8 y9 y10))
 | 0 => ⟨fun _ _ _ _ _ _ _ _ _ _ r h => by simp [impl_PegsPerLine.l0] at h, fun _ _ _ _ _ _ _ _ _ _ _ r h => by simp [impl_PegsPerLine.l1] at h⟩
 | k + 1 => by
  obtain ⟨ih0, ih1⟩ := impl_PegsPerLine.mono_l k
  refine ⟨?_, ?_⟩ <;> intros <;> (first | unfold impl_PegsPerLine.l0 | unfold impl_PegsPerLine.l1) <;> repeat' first | (with_reducible exact ih0 _ _ _ _ _ _ _ _ _ _) | (with_reducible exact ih1 _ _ _ _ _ _ _ _ _ _ _) | (with_reducible exact impl_box.mono _ _) | (with_reducible exact impl_extent.mono _ _ _ _) | (with_reducible exact impl_isWide.mono _ _ _ _) | (with_reducible exact impl_where.mono _ _ _ _) | (with_reducible exact LeO.refl _) | (with_reducible exact LeO.none _) | (with_reducible refine LeO.ite ?_ ?_) | (with_reducible refine LeO.bind ?_ (fun _ => ?_)) | exact ih0 _ _ _ _ _ _ _ _ _ _ | exact ih1 _ _ _ _ _ _ _ _ _ _ _ | exact impl_box.mono _ _ | exact impl_extent.mono _ _ _ _ | exact impl_isWide.mono _ _ _ _ | exact impl_where.mono _ _ _ _ | exact LeO.none _ | refine LeO.ite ?_ ?_ | refine LeO.bind ?_ (fun _ => ?_)
theorem impl_PegsPerLine.mono : ∀ a0 a1 a2 k, LeO (impl_PegsPerLine.f k a0 a1 a2) (impl_PegsPerLine.f (k + 1) a0 a1 a2) := by
 intro a0 a1 a2 k
 obtain ⟨ih0, ih1⟩ := impl_PegsPerLine.mono_l k
 unfold impl_PegsPerLine.f
 repeat' first | (with_reducible exact ih0 _ _ _ _ _ _ _ _ _ _) | (with_reducible exact ih1 _ _ _ _ _ _ _ _ _ _ _) | (with_reducible exact impl_box.mono _ _) | (with_reducible exact impl_extent.mono _ _ _ _) | (with_reducible exact impl_isWide.mono _ _ _ _) | (with_reducible exact impl_where.mono _ _ _ _) | (with_reducible exact LeO.refl _) | (with_reducible exact LeO.none _) | (with_reducible refine LeO.ite ?_ ?_) | (with_reducible refine LeO.bind ?_ (fun _ => ?_)) | exact ih0 _ _ _ _ _ _ _ _ _ _ | exact ih1 _ _ _ _ _ _ _ _ _ _ _ | exact impl_box.mono _ _ | exact impl_extent.mono _ _ _ _ | exact impl_isWide.mono _ _ _ _ | exact impl_where.mono _ _ _ _ | exact LeO.none _ | refine LeO.ite ?_ ?_ | refine LeO.bind ?_ (fun _ => ?_)
set_option maxHeartbeats 8000000 in
set_option maxRecDepth 100000 in
theorem impl_PegsPerLine.calls (k : Nat) (A0 : Option Addr) (c0 : Nat) (l0 : List (S_impl_Peg)) (a1 : Int) (a2 : Int) (r1 : List Int) (r2 : Bool) (w : World) (hr0 : Kd.C kd_impl_Peg w A0 l0.length l0) (hc0 : l0.length ≤ c0) (h : impl_PegsPerLine.f k l0 a1 a2 = some (r1, r2)) :
  Calls Try.prog 42 #[.slice A0 l0.length c0, .int .i64 a1, .int .i64 a2] w fun e w' => ∃ v0_ : Value, e = .returned (.tuple #[v0_, .bool r2]) ∧ Kd.R (Kd.int .i64) 3 w' w.heap.size (fun _ => True) v0_ r1 ∧ Below w.heap.size w w' := by
 have hu26 := Try.underlying26; have HR0 := aM hr0; have HC0 := aM hc0; clear hr0 hc0; have HB := aM (Below.refl w.heap.size w)
 unfold impl_PegsPerLine.f at h; have H := h; clear h
 replace H := bS H; obtain ⟨t603, A4, H⟩ := H
 by_cases c5 : t603 = true
 ·subst c5; replace H := iT H; replace H := bS H; obtain ⟨⟨t605, t606⟩, A6, H⟩ := H; obtain ⟨ji7, hji7⟩ : ∃ j_ : Int, (wrap64 ((wrap64 (t606 - t605)) + 1)) = j_ := ⟨_, rfl⟩
  (first | rw [hji7] at H | simp only [hji7] at H)
  (try rw [hji7] at A4)
  (try rw [hji7] at A6)
  have hji7w : (IntKind.i64.wrap ((wrap64 (t606 - t605)) + 1)) = ji7 := (i64_w _).trans hji7; replace H := iN H; obtain ⟨c8, H⟩ := H; have c8b0 := eq_true c8; have c8b1 := dE c8; clear c8; replace H := iN H; obtain ⟨c9, H⟩ := H; have c9b0 := eq_true c9; have c9b1 := dE c9; clear c9; obtain ⟨y607, hy607⟩ : ∃ y_ : List Int, y_ = (List.replicate (ji7 : Int).toNat 0) := ⟨_, rfl⟩; rw [← hy607] at H; have Ny607 := aM hy607; clear hy607; replace H := bS H; obtain ⟨⟨t610, t611, t612, t613⟩, A10, H⟩ := H; have H' := aM H; clear H
  go_enter Try.func42, Try.ntmps42
  go_wp2_with (first | ((with_reducible refine gC (f := 91) rfl ?_); refine goesL_ (some 20) rfl rfl Try.func91 kR rfl #[.slice A0 l0.length c0, .int .i64 a1, .int .i64 a2] rfl sQ ?_; (with_reducible refine (impl_isWide.calls k _ _ l0 a1 a2 true _ ?side1 ?side2 A4.out).mono ?_); (case side1 => repeat (first | exact HR0.out | (with_reducible refine cA ?_ _) | (with_reducible refine cN ?_ _) | (with_reducible refine cD ?_))); (case side2 => exact HC0.out); rintro e w11 ⟨rfl, hb⟩; refine ⟨_, rfl, ?_⟩; replace HB := tB HB hb; (try clear hb); (try clear hb2); (try clear hk); (try clear hi)) | ((with_reducible refine gate_dst (N := 8) rfl ?_); refine bV 8 (cs := #[.int .i64 0, .int .i64 0]) (t := 26) rfl rfl (by first | (go_simp; done) | (go_simp; rfl)) ?_; intro gb604 hg w12 hbox hb; have BK604 := hbox; have GW604 := gZ HB hg; have GE604 := gZ HB hg; replace HB := tB HB hb; clear hb hbox hg; have hcz13_0 := vZ0 BK604; have hcz13_1 := vZ1 BK604; have hfz13_0 := kF BK604.out 0; have hfz13_1 := kF BK604.out 1) | ((with_reducible refine gC (f := 92) rfl ?_); refine goesL_ (some 28) rfl rfl Try.func92 kR rfl #[.slice A0 l0.length c0, .agg #[.int .i64 a1, .int .i64 a2]] rfl sQ ?_; (with_reducible refine (impl_extent.calls k _ _ l0 a1 a2 t605 t606 _ ?side1 ?side2 A6.out).mono ?_); (case side1 => exact Kd.C_below HR0.out bE); (case side2 => exact HC0.out); rintro e w14 ⟨rfl, hb⟩; refine ⟨_, rfl, ?_⟩; replace BK604 := aM (blk_below (g := gb604) (o := .cells #[.int .i64 a1, .int .i64 a2] 26 (0, 0)) (fQ BK604) hb); replace HB := tB HB hb; (try clear hb); (try clear hb2); (try clear hk); (try clear hi)) | ((with_reducible refine gate_dst (N := 35) rfl ?_); refine Kd.R_make (Kd.int .i64) _ 3 rfl (N := 35) rfl 23 _ _ rfl ji7 rfl rfl Try.underlying23 (.int .i64 0) 8 info3 rfl (by decide) (by omega) 0 (ok := fun _ => True) (okp := fun _ => True) rfl (fun _ hk => hk) trivial (dT aQ) (Nat.le_trans (Nat.mul_le_mul_right _ (dT aQ : ji7.toNat ≤ 35184372088832)) (by omega)) (Below.refl _ _) (Nat.le_refl _) ?_; intro v608 w15 ho16 hb hg_ hnew_; clear hg_ hnew_; (first | rw [← Ny607.out] at ho16 | (simp only [Int.reduceToNat] at ho16; rw [← Ny607.out] at ho16)); have HO609 := aM (Kd.R_lower ho16 (pZ bE)); replace BK604 := bB BK604 hb; replace HB := tB HB hb; clear hb ho16) | ((with_reducible refine gC (f := 93) rfl ?_); refine goesL_ (some 38) rfl rfl Try.func93 kR rfl #[.slice A0 l0.length c0] rfl sQ ?_; (with_reducible refine (impl_box.calls k _ _ l0 t610 t611 t612 t613 _ ?side1 ?side2 A10.out).mono ?_); (case side1 => repeat (first | exact (Kd.C_below HR0.out HB.out) | (with_reducible refine cA ?_ _) | (with_reducible refine cN ?_ _) | (with_reducible refine cD ?_))); (case side2 => exact HC0.out); rintro e w17 ⟨rfl, hb⟩; refine ⟨_, rfl, ?_⟩; replace HO609 := aM (Kd.R_below (by (with_reducible repeat (first | apply rA | apply rN | apply rD)); exact HO609.out) hb); replace BK604 := bB BK604 hb; replace HB := tB HB hb; (try clear hb); (try clear hb2); (try clear hk); (try clear hi)) | ((with_reducible refine gate_dst (N := 12) rfl ?_); refine bV 12 (cs := #[.int .i64 0, .int .i64 0]) (t := 26) rfl rfl (by first | (go_simp; done) | (go_simp; rfl)) ?_; intro gb614 hg w18 hbox hb; have BK614 := hbox; have GW614 := gZ HB hg; have GE614 := gZ HB hg; have NB604_614 := nG BK604 hg; have NB614_604 := nH BK604 hg; replace HO609 := aM (Kd.R_below (by (with_reducible repeat (first | apply rA | apply rN | apply rD)); exact HO609.out) hb); replace BK604 := bB BK604 hb; replace HB := tB HB hb; clear hb hbox hg) | ((with_reducible refine gate_dst (N := 13) rfl ?_); refine bV 13 (cs := #[.int .i64 0, .int .i64 0]) (t := 26) rfl rfl (by first | (go_simp; done) | (go_simp; rfl)) ?_; intro gb615 hg w19 hbox hb; have BK615 := hbox; have GW615 := gZ HB hg; have GE615 := gZ HB hg; have NB604_615 := nG BK604 hg; have NB615_604 := nH BK604 hg; have NB614_615 := nG BK614 hg; have NB615_614 := nH BK614 hg; replace HO609 := aM (Kd.R_below (by (with_reducible repeat (first | apply rA | apply rN | apply rD)); exact HO609.out) hb); replace BK604 := bB BK604 hb; replace BK614 := bB BK614 hb; replace HB := tB HB hb; clear hb hbox hg; have hnb20 := NB614_604.out; have hnc20 := NB604_614.out; have hnb21 := NB614_615.out; have hnc21 := NB615_614.out; have hcz22_0 := vZ0 BK614; have hcz22_1 := vZ1 BK614; have hfz22_0 := kF BK614.out 0; have hfz22_1 := kF BK614.out 1; have hnb23 := NB615_604.out; have hnc23 := NB604_615.out; have hcz24_0 := vZ0 BK615; have hcz24_1 := vZ1 BK615; have hfz24_0 := kF BK615.out 0; have hfz24_1 := kF BK615.out 1))
  go_loopg [14] k (fun kq v14 w' => ∃ (x11_1 : List Int) (x14_1 : Int), v14 = .int .i64 x14_1 ∧ Aside0 (impl_PegsPerLine.l0 kq l0 t605 x11_1 x14_1 a1 a2 t610 t611 t612 t613 = some (r1, r2)) ∧ Aside0 (kq ≤ k) ∧ Aside0 (Kd.R (Kd.int .i64) 3 w' w.heap.size (fun _ => True) v608 x11_1) ∧ Aside0 (w'.heap[gb604]? = some (.cells #[.int .i64 a1, .int .i64 a2] 26 (0, 0))) ∧ Aside0 (w'.heap[gb614]? = some (.cells #[.int .i64 t610, .int .i64 t611] 26 (0, 0))) ∧ Aside0 (w'.heap[gb615]? = some (.cells #[.int .i64 t612, .int .i64 t613] 26 (0, 0))) ∧ Aside0 (Below w.heap.size w w'))
  case atStart => exact ⟨(y607), (t610), eQ, H', ⟨Nat.le_refl _⟩, ⟨by (with_reducible repeat (first | apply rA | apply rN | apply rD)); exact Kd.R_mono (Kd.R_far (p := ⟨gb615, 1, none⟩) (Kd.R_far (p := ⟨gb615, 0, none⟩) (Kd.R_far (p := ⟨gb614, 1, none⟩) (Kd.R_far (p := ⟨gb614, 0, none⟩) (Kd.R_types (Kd.R_types HO609.out BK614.out (by decide)) BK615.out (by decide)) (fun _ hk => hk.1.2) (.int .i64 t610)) (fun _ hk => hk.1.2) (.int .i64 t611)) (fun _ hk => hk.2) (.int .i64 t612)) (fun _ hk => hk.2) (.int .i64 t613)) (fun _ hk => trivial)⟩, ⟨fQ BK604⟩, ⟨fQ BK614⟩, ⟨fQ BK615⟩, ⟨bE⟩⟩
  case round =>
   clear H'; (try clear c5); (try clear c8); (try clear c8b0); (try clear c8b1); (try clear c9); (try clear c9b0); (try clear c9b1); (try clear hcz13_0); (try clear hcz13_1); (try clear hcz22_0); (try clear hcz22_1); (try clear hcz24_0); (try clear hcz24_1); (try clear hfz13_0); (try clear hfz13_1); (try clear hfz22_0); (try clear hfz22_1); (try clear hfz24_0); (try clear hfz24_1); obtain ⟨x11_1, x14_1, rfl, HA, HK1, HO_11, BK604, BK614, BK615, HB⟩ := hrel
   cases gk with
   | zero => exact absurd HA.out (by simp [impl_PegsPerLine.l0])
   | succ k1 =>
    have H := HA.out; clear HA
    simp only [impl_PegsPerLine.l0] at H
    by_cases c25 : x14_1 ≤ t612
    ·rw [if_pos c25] at H; have c25b0 := dE c25; clear c25; have H' := aM H; clear H; have hnb26 := NB615_604.out; have hnc26 := NB604_615.out; have hnb27 := NB615_614.out; have hnc27 := NB614_615.out; have hcz28_0 : wr.cell? ⟨gb615, 0, none⟩ = some (.int .i64 t612) := vZ0 BK615; have hcz28_1 : wr.cell? ⟨gb615, 1, none⟩ = some (.int .i64 t613) := vZ1 BK615; have hfz28_0 := kF BK615.out 0; have hfz28_1 := kF BK615.out 1; have hnb29 := NB614_604.out; have hnc29 := NB604_614.out; have hcz30_0 : wr.cell? ⟨gb614, 0, none⟩ = some (.int .i64 t610) := vZ0 BK614; have hcz30_1 : wr.cell? ⟨gb614, 1, none⟩ = some (.int .i64 t611) := vZ1 BK614; have hfz30_0 := kF BK614.out 0; have hfz30_1 := kF BK614.out 1; go_wp2
     go_loopg [15] k1 (fun kq v15 w' => ∃ (x11_2 : List Int) (x15_2 : Int), v15 = .int .i64 x15_2 ∧ Aside0 (impl_PegsPerLine.l1 kq l0 t605 x11_2 x14_1 x15_2 a1 a2 t610 t611 t612 t613 = some (r1, r2)) ∧ Aside0 (kq ≤ k1) ∧ Aside0 (Kd.R (Kd.int .i64) 3 w' w.heap.size (fun _ => True) v608 x11_2) ∧ Aside0 (w'.heap[gb604]? = some (.cells #[.int .i64 a1, .int .i64 a2] 26 (0, 0))) ∧ Aside0 (w'.heap[gb614]? = some (.cells #[.int .i64 t610, .int .i64 t611] 26 (0, 0))) ∧ Aside0 (w'.heap[gb615]? = some (.cells #[.int .i64 t612, .int .i64 t613] 26 (0, 0))) ∧ Aside0 (Below w.heap.size w w'))
     case atStart => exact ⟨(x11_1), (t611), eQ, H', ⟨Nat.le_refl _⟩, ⟨by (with_reducible repeat (first | apply rA | apply rN | apply rD)); exact HO_11.out⟩, ⟨gQ BK604⟩, ⟨gQ BK614⟩, ⟨gQ BK615⟩, ⟨bE⟩⟩
     case round =>
      clear H'; (try clear c5); (try clear c8); (try clear c8b0); (try clear c8b1); (try clear c9); (try clear c9b0); (try clear c9b1); (try clear c25); (try clear c25b0); (try clear hcz13_0); (try clear hcz13_1); (try clear hcz22_0); (try clear hcz22_1); (try clear hcz24_0); (try clear hcz24_1); (try clear hcz28_0); (try clear hcz28_1); (try clear hcz30_0); (try clear hcz30_1); (try clear hfz13_0); (try clear hfz13_1); (try clear hfz22_0); (try clear hfz22_1); (try clear hfz24_0); (try clear hfz24_1); (try clear hfz28_0); (try clear hfz28_1); (try clear hfz30_0); (try clear hfz30_1); obtain ⟨x11_2, x15_2, rfl, HA, HK2, HO_11, BK604, BK614, BK615, HB⟩ := hrel
      cases gk with
      | zero => exact absurd HA.out (by simp [impl_PegsPerLine.l1])
      | succ k2 =>
       have H := HA.out; clear HA
       simp only [impl_PegsPerLine.l1] at H
       by_cases c31 : x15_2 ≤ t613
       ·rw [if_pos c31] at H; have c31b0 := dE c31; clear c31; replace H := bS H; obtain ⟨t617, A32, H⟩ := H
        by_cases c33 : t617 ≥ 0
        ·rw [if_pos c33] at H; have c33b0 := dE c33; clear c33; replace H := bS H; obtain ⟨t618, A34, H⟩ := H; obtain ⟨ji35, hji35⟩ : ∃ j_ : Int, (wrap64 (t618 - t605)) = j_ := ⟨_, rfl⟩
         (first | rw [hji35] at H | simp only [hji35] at H)
         (try rw [hji35] at A32)
         (try rw [hji35] at A34)
         have hji35w : (IntKind.i64.wrap (t618 - t605)) = ji35 := (i64_w _).trans hji35; replace H := iD H; obtain ⟨c36b0, H⟩ := H; replace H := iD H; obtain ⟨c37b0, H⟩ := H; obtain ⟨y620, hy620⟩ : ∃ y_ : List Int, y_ = (x11_2.set ((ji35) : Int).toNat (wrap64 ((rd x11_2 (ji35)) + 1))) := ⟨_, rfl⟩; rw [← hy620] at H; have Ny620 := aM hy620; clear hy620; have H' := aM H; clear H; have hnb39 := NB615_604.out; have hnc39 := NB604_615.out; have hnb40 := NB615_614.out; have hnc40 := NB614_615.out; have hcz41_0 : wr.cell? ⟨gb615, 0, none⟩ = some (.int .i64 t612) := vZ0 BK615; have hcz41_1 : wr.cell? ⟨gb615, 1, none⟩ = some (.int .i64 t613) := vZ1 BK615; have hfz41_0 := kF BK615.out 0; have hfz41_1 := kF BK615.out 1
         go_wp2_with (first | ((with_reducible refine gate_dst (N := 16) rfl ?_); refine bV 16 (cs := #[.int .i64 0, .int .i64 0]) (t := 26) rfl rfl (by first | (go_simp; done) | (go_simp; rfl)) ?_; intro gb616 hg w42 hbox hb; have BK616 := hbox; have GW616 := gZ HB hg; have GE616 := gZ HB hg; have NB604_616 := nG BK604 hg; have NB616_604 := nH BK604 hg; have NB614_616 := nG BK614 hg; have NB616_614 := nH BK614 hg; have NB615_616 := nG BK615 hg; have NB616_615 := nH BK615 hg; replace HO_11 := aM (Kd.R_below (by (with_reducible repeat (first | apply rA | apply rN | apply rD)); exact HO_11.out) hb); replace BK604 := bB BK604 hb; replace BK614 := bB BK614 hb; replace BK615 := bB BK615 hb; replace HB := tB HB hb; clear hb hbox hg; have hnb43 := NB616_604.out; have hnc43 := NB604_616.out; have hnb44 := NB616_614.out; have hnc44 := NB614_616.out; have hnb45 := NB616_615.out; have hnc45 := NB615_616.out; have hcz46_0 := vZ0 BK616; have hcz46_1 := vZ1 BK616; have hfz46_0 := kF BK616.out 0; have hfz46_1 := kF BK616.out 1) | ((with_reducible refine gC (f := 94) rfl ?_); refine goesL_ (some 62) rfl rfl Try.func94 kR rfl #[.slice A0 l0.length c0, .agg #[.int .i64 x14_1, .int .i64 x15_2]] rfl sQ ?_; (with_reducible refine (impl_where.calls k2 _ _ l0 x14_1 x15_2 t617 _ ?side1 ?side2 A32.out).mono ?_); (case side1 => exact Kd.C_below HR0.out bE); (case side2 => exact HC0.out); rintro e w47 ⟨rfl, hb⟩; refine ⟨_, rfl, ?_⟩; replace HO_11 := aM (Kd.R_below (by (with_reducible repeat (first | apply rA | apply rN | apply rD)); exact (Kd.R_mono (Kd.R_far (p := ⟨gb616, 1, none⟩) (Kd.R_far (p := ⟨gb616, 0, none⟩) (Kd.R_types HO_11.out BK616.out (by decide)) (fun _ hk => hk.2) (.int .i64 x14_1)) (fun _ hk => hk.2) (.int .i64 x15_2)) (fun _ h_ => h_.1))) hb); replace BK604 := aM (blk_below (g := gb604) (o := .cells #[.int .i64 a1, .int .i64 a2] 26 (0, 0)) (fQ BK604) hb); replace BK614 := aM (blk_below (g := gb614) (o := .cells #[.int .i64 t610, .int .i64 t611] 26 (0, 0)) (fQ BK614) hb); replace BK615 := aM (blk_below (g := gb615) (o := .cells #[.int .i64 t612, .int .i64 t613] 26 (0, 0)) (fQ BK615) hb); replace BK616 := aM (blk_below (g := gb616) (o := .cells #[.int .i64 x14_1, .int .i64 x15_2] 26 (0, 0)) (fQ BK616) hb); replace HB := tB HB hb; (try clear hb); (try clear hb2); (try clear hk); (try clear hi); have hnb48 := NB604_614.out; have hnc48 := NB614_604.out; have hcz49_0 := vZ0 BK604; have hcz49_1 := vZ1 BK604; have hfz49_0 := kF BK604.out 0; have hfz49_1 := kF BK604.out 1; have hcz50_0 := vZ0 BK616; have hcz50_1 := vZ1 BK616; have hfz50_0 := kF BK616.out 0; have hfz50_1 := kF BK616.out 1) | ((with_reducible refine gC (f := 95) rfl ?_); refine goesL_ (some 67) rfl rfl Try.func95 kR rfl #[.agg #[.int .i64 a1, .int .i64 a2], .agg #[.int .i64 x14_1, .int .i64 x15_2]] rfl sQ ?_; (with_reducible refine (impl_value.calls a1 a2 x14_1 x15_2 t618 _ A34.out).mono ?_); rintro e w51 ⟨rfl, hb⟩; refine ⟨_, rfl, ?_⟩; replace HO_11 := aM (Kd.R_below (by (with_reducible repeat (first | apply rA | apply rN | apply rD)); exact HO_11.out) hb); replace BK604 := bB BK604 hb; replace BK614 := bB BK614 hb; replace BK615 := bB BK615 hb; replace BK616 := bB BK616 hb; replace HB := tB HB hb; (try clear hb); (try clear hb2); (try clear hk); (try clear hi); obtain ⟨Ao52, co52, eo52⟩ := Kd.R_slice HO_11.out; subst eo52; have p619 : 0 ≤ ((ji35) : Int) := dT aQ; have q619 : (ji35) < (x11_2.length : Int) := dT aQ; obtain ⟨ad619, e619, hx619_0⟩ := Kd.at_int (rR HO_11.out).2.2 (ji35) p619 q619; cases e619; replace p619 := eq_true p619; replace q619 := eq_true q619; have p38 : 0 ≤ ((ji35) : Int) := dT aQ; have q38 : ((ji35) : Int) < ((x11_2.length : Int) : Int) := dT aQ; obtain ⟨go38, co38, eo38, gb38, gl38, cl38, HG38⟩ := Kd.R_form HO_11.out (by omega); (first | cases eo38 | (injection eo38 with ea_ en_ ec_; (first | subst ea_ | (injection ea_ with ea_; subst ea_)); subst ec_; clear en_)); have GB38 := aM gb38; have GG38 := aM HG38; clear gb38 gl38 HG38; (first | simp only [add_plain] at hx619_0 | skip); obtain ⟨hx38_0, hf38_0⟩ := Kd.R_celln 0 HO_11.out ((ji35) : Int) p38 q38; replace p38 := eq_true p38; replace q38 := eq_true q38; obtain ⟨hy53_, hz53_⟩ := Kd.R_celln 0 HO_11.out ((ji35) : Int) (dT aQ) (dT aQ); have HP53 := Kd.R_putg HO_11.out ((ji35) : Int) (wrap64 ((rd x11_2 (ji35)) + 1))) | ((with_reducible refine gate_store (t := 3) (p := 73) rfl ?_); refine store_event (t := 3) (p := 73) (v := ?vo_w54) (w1 := (w51.setCell ⟨go38, ((ji35) : Int).toNat, none⟩ (.int .i64 (wrap64 ((rd x11_2 (ji35)) + 1))))) ?hg ?ho ?hn ?hr ?_; (case ho => rfl); (case hg => rfl); (case hn => rfl); (case hr => first | (go_simp; done) | (go_simp; rfl)); intro w54 hw; have hg : w51.grownBy w54 (some go38) := (by rw [hw]; exact HP53.2); have hp_ : Kd.R (Kd.int .i64) 3 w54 w.heap.size (fun _ => True) (.slice (some ⟨go38, 0, none⟩) x11_2.length co52) y620 := (by rw [hw, Ny620.out]; exact HP53.1); clear HP53; replace BK604 := aM (blk_grown (g := gb604) (o := .cells #[.int .i64 a1, .int .i64 a2] 26 (0, 0)) (gQ BK604) hg (Kd.R_ne HO_11.out BK604.out (by decide))); replace BK614 := aM (blk_grown (g := gb614) (o := .cells #[.int .i64 t610, .int .i64 t611] 26 (0, 0)) (gQ BK614) hg (Kd.R_ne HO_11.out BK614.out (by decide))); replace BK615 := aM (blk_grown (g := gb615) (o := .cells #[.int .i64 t612, .int .i64 t613] 26 (0, 0)) (gQ BK615) hg (Kd.R_ne HO_11.out BK615.out (by decide))); replace BK616 := aM (blk_grown (g := gb616) (o := .cells #[.int .i64 x14_1, .int .i64 x15_2] 26 (0, 0)) (gQ BK616) hg (Kd.R_ne HO_11.out BK616.out (by decide))); replace HO_11 := aM (hp_); replace HB := aM ((by rw [hw]; exact pS (HB.out) GB38.out : Below w.heap.size w w54)); clear hg hw hp_))
         go_roundg k2
         case measure => have := HK1.out; have := HK2.out; omega
         case rel => exact ⟨(y620), (wrap64 (x15_2 + 1)), eQ, H', ⟨by have := HK1.out; have := HK2.out; omega⟩, ⟨by (with_reducible repeat (first | apply rA | apply rN | apply rD)); exact HO_11.out⟩, ⟨gQ BK604⟩, ⟨gQ BK614⟩, ⟨gQ BK615⟩, ⟨bE⟩⟩
        ·rw [if_neg c33] at H; have c33b0 := decide_eq_false c33; clear c33; have H' := aM H; clear H; have hnb55 := NB615_604.out; have hnc55 := NB604_615.out; have hnb56 := NB615_614.out; have hnc56 := NB614_615.out; have hcz57_0 : wr.cell? ⟨gb615, 0, none⟩ = some (.int .i64 t612) := vZ0 BK615; have hcz57_1 : wr.cell? ⟨gb615, 1, none⟩ = some (.int .i64 t613) := vZ1 BK615; have hfz57_0 := kF BK615.out 0; have hfz57_1 := kF BK615.out 1
         go_wp2_with (first | ((with_reducible refine gate_dst (N := 16) rfl ?_); refine bV 16 (cs := #[.int .i64 0, .int .i64 0]) (t := 26) rfl rfl (by first | (go_simp; done) | (go_simp; rfl)) ?_; intro gb616 hg w58 hbox hb; have BK616 := hbox; have GW616 := gZ HB hg; have GE616 := gZ HB hg; have NB604_616 := nG BK604 hg; have NB616_604 := nH BK604 hg; have NB614_616 := nG BK614 hg; have NB616_614 := nH BK614 hg; have NB615_616 := nG BK615 hg; have NB616_615 := nH BK615 hg; replace HO_11 := aM (Kd.R_below (by (with_reducible repeat (first | apply rA | apply rN | apply rD)); exact HO_11.out) hb); replace BK604 := bB BK604 hb; replace BK614 := bB BK614 hb; replace BK615 := bB BK615 hb; replace HB := tB HB hb; clear hb hbox hg; have hnb59 := NB616_604.out; have hnc59 := NB604_616.out; have hnb60 := NB616_614.out; have hnc60 := NB614_616.out; have hnb61 := NB616_615.out; have hnc61 := NB615_616.out; have hcz62_0 := vZ0 BK616; have hcz62_1 := vZ1 BK616; have hfz62_0 := kF BK616.out 0; have hfz62_1 := kF BK616.out 1) | ((with_reducible refine gC (f := 94) rfl ?_); refine goesL_ (some 62) rfl rfl Try.func94 kR rfl #[.slice A0 l0.length c0, .agg #[.int .i64 x14_1, .int .i64 x15_2]] rfl sQ ?_; (with_reducible refine (impl_where.calls k2 _ _ l0 x14_1 x15_2 t617 _ ?side1 ?side2 A32.out).mono ?_); (case side1 => exact Kd.C_below HR0.out bE); (case side2 => exact HC0.out); rintro e w63 ⟨rfl, hb⟩; refine ⟨_, rfl, ?_⟩; replace HO_11 := aM (Kd.R_below (by (with_reducible repeat (first | apply rA | apply rN | apply rD)); exact (Kd.R_mono (Kd.R_far (p := ⟨gb616, 1, none⟩) (Kd.R_far (p := ⟨gb616, 0, none⟩) (Kd.R_types HO_11.out BK616.out (by decide)) (fun _ hk => hk.2) (.int .i64 x14_1)) (fun _ hk => hk.2) (.int .i64 x15_2)) (fun _ h_ => h_.1))) hb); replace BK604 := aM (blk_below (g := gb604) (o := .cells #[.int .i64 a1, .int .i64 a2] 26 (0, 0)) (fQ BK604) hb); replace BK614 := aM (blk_below (g := gb614) (o := .cells #[.int .i64 t610, .int .i64 t611] 26 (0, 0)) (fQ BK614) hb); replace BK615 := aM (blk_below (g := gb615) (o := .cells #[.int .i64 t612, .int .i64 t613] 26 (0, 0)) (fQ BK615) hb); replace BK616 := aM (blk_below (g := gb616) (o := .cells #[.int .i64 x14_1, .int .i64 x15_2] 26 (0, 0)) (fQ BK616) hb); replace HB := tB HB hb; (try clear hb); (try clear hb2); (try clear hk); (try clear hi)))
         go_roundg k2
         case measure => have := HK1.out; have := HK2.out; omega
         case rel => exact ⟨(x11_2), (wrap64 (x15_2 + 1)), eQ, H', ⟨by have := HK1.out; have := HK2.out; omega⟩, ⟨by (with_reducible repeat (first | apply rA | apply rN | apply rD)); exact HO_11.out⟩, ⟨gQ BK604⟩, ⟨gQ BK614⟩, ⟨gQ BK615⟩, ⟨bE⟩⟩
       ·rw [if_neg c31] at H; have c31b0 := decide_eq_false c31; clear c31; have H' := aM H; clear H; have hnb64 := NB615_604.out; have hnc64 := NB604_615.out; have hnb65 := NB615_614.out; have hnc65 := NB614_615.out; have hcz66_0 : wr.cell? ⟨gb615, 0, none⟩ = some (.int .i64 t612) := vZ0 BK615; have hcz66_1 : wr.cell? ⟨gb615, 1, none⟩ = some (.int .i64 t613) := vZ1 BK615; have hfz66_0 := kF BK615.out 0; have hfz66_1 := kF BK615.out 1; go_wp2
        go_roundg k2
        case measure => have := HK1.out; have := HK2.out; omega
        case rel => exact ⟨(x11_2), (wrap64 (x14_1 + 1)), eQ, H', ⟨by have := HK1.out; have := HK2.out; omega⟩, ⟨by (with_reducible repeat (first | apply rA | apply rN | apply rD)); exact HO_11.out⟩, ⟨gQ BK604⟩, ⟨gQ BK614⟩, ⟨gQ BK615⟩, ⟨bE⟩⟩
    ·rw [if_neg c25] at H; have c25b0 := decide_eq_false c25; clear c25
     simp only [Option.some.injEq, Prod.mk.injEq] at H
     obtain ⟨rfl, rfl⟩ := H; have hnb67 := NB615_604.out; have hnc67 := NB604_615.out; have hnb68 := NB615_614.out; have hnc68 := NB614_615.out; have hcz69_0 : wr.cell? ⟨gb615, 0, none⟩ = some (.int .i64 t612) := vZ0 BK615; have hcz69_1 : wr.cell? ⟨gb615, 1, none⟩ = some (.int .i64 t613) := vZ1 BK615; have hfz69_0 := kF BK615.out 0; have hfz69_1 := kF BK615.out 1; go_wp2
     go_ret2
     exact ⟨_, by first | rfl | (simp [errW_none, errW_some] <;> rfl) | (simp only [← hji7]; first | rfl | (simp [errW_none, errW_some] <;> rfl)) | (simp [*, errW_none, errW_some] <;> rfl), by (with_reducible repeat (first | apply rA | apply rN | apply rD)); exact HO_11.out, bE⟩
 ·replace c5 := Bool.eq_false_iff.mpr c5; subst c5; replace H := iF H
  simp only [Option.some.injEq, Prod.mk.injEq] at H
  obtain ⟨rfl, rfl⟩ := H
  go_enter Try.func42, Try.ntmps42
  go_wp2_with (first | ((with_reducible refine gC (f := 91) rfl ?_); refine goesL_ (some 20) rfl rfl Try.func91 kR rfl #[.slice A0 l0.length c0, .int .i64 a1, .int .i64 a2] rfl sQ ?_; (with_reducible refine (impl_isWide.calls k _ _ l0 a1 a2 false _ ?side1 ?side2 A4.out).mono ?_); (case side1 => repeat (first | exact HR0.out | (with_reducible refine cA ?_ _) | (with_reducible refine cN ?_ _) | (with_reducible refine cD ?_))); (case side2 => exact HC0.out); rintro e w70 ⟨rfl, hb⟩; refine ⟨_, rfl, ?_⟩; replace HB := tB HB hb; (try clear hb); (try clear hb2); (try clear hk); (try clear hi)))
  go_ret2
  exact ⟨_, by first | rfl | (simp [errW_none, errW_some] <;> rfl) | (simp [*, errW_none, errW_some] <;> rfl), by first | exact Kd.R_nil _ _ _ _ _ | exact Kd.N_nil _ _ _ _ _ | exact Kd.V_nil _ _ _ _ _ | exact Kd.Q_nil _ _ _ _ _ | exact Kd.S_nil _ _ _ _ _, bQ⟩

def laws_heldIntS.l0 : Nat → List Int → Int → Int → Option (Int)
 | 0, _, _, _ => none
 | k + 1, x0, x1, x5 => if x5 < (x0.length : Int) then (if 0 ≤ x5 then (if (rd x0 x5) = x1 then (laws_heldIntS.l0 k x0 (wrap64 (x1 + 1)) (wrap64 (x5 + 1))) else (some (-1))) else (none)) else (some x1)
def laws_heldIntS.f (k : Nat) (l0 : List Int) (a1 : Int) : Option (Int) := laws_heldIntS.l0 k l0 a1 0
theorem laws_heldIntS.mono_l : ∀ k, (∀ y0 y1 y2, LeO (laws_heldIntS.l0 k y0 y1 y2) (laws_heldIntS.l0 (k + 1) y0 y1 y2))
 | 0 => fun _ _ _ r h => by simp [laws_heldIntS.l0] at h
 | k + 1 => by
  have ih0 := laws_heldIntS.mono_l k
  ·intro y0 y1 y2
   unfold laws_heldIntS.l0
   repeat' first
   | (with_reducible exact ih0 _ _ _)
   | (with_reducible exact LeO.refl _)
   | (with_reducible exact LeO.none _)
   | (with_reducible refine LeO.ite ?_ ?_)
   | (with_reducible refine LeO.bind ?_ (fun _ => ?_))
   | exact ih0 _ _ _
   | exact LeO.none _
   | refine LeO.ite ?_ ?_
   | refine LeO.bind ?_ (fun _ => ?_)
theorem laws_heldIntS.mono : ∀ a0 a1 k, LeO (laws_heldIntS.f k a0 a1) (laws_heldIntS.f (k + 1) a0 a1) := by
 intro a0 a1 k
 have ih0 := laws_heldIntS.mono_l k
 unfold laws_heldIntS.f
 repeat' first | (with_reducible exact ih0 _ _ _) | (with_reducible exact LeO.refl _) | (with_reducible exact LeO.none _) | (with_reducible refine LeO.ite ?_ ?_) | (with_reducible refine LeO.bind ?_ (fun _ => ?_)) | exact ih0 _ _ _ | exact LeO.none _ | refine LeO.ite ?_ ?_ | refine LeO.bind ?_ (fun _ => ?_)
set_option maxHeartbeats 8000000 in
set_option maxRecDepth 100000 in
theorem laws_heldIntS.calls (k : Nat) (A0 : Option Addr) (c0 : Nat) (l0 : List Int) (a1 : Int) (r : Int) (w : World) (hr0 : Kd.C (Kd.int .i64) w A0 l0.length l0) (hc0 : l0.length ≤ c0) (h : laws_heldIntS.f k l0 a1 = some r) :
  Calls Try.prog 43 #[.slice A0 l0.length c0, .int .i64 a1] w fun e w' => e = .returned (.int .i64 r) ∧ Drawn0 w w' := by
 have HR0 := aM hr0; have HC0 := aM hc0; clear hr0 hc0
 unfold laws_heldIntS.f at h; have H := h; clear h
 have H' := aM H; clear H
 go_enter Try.func43, Try.ntmps43
 go_wp2
 go_loopg [1, 5] k (fun kq v1 v5 w' => ∃ (x1_1 : Int) (x5_1 : Int), v1 = .int .i64 x1_1 ∧ v5 = .int .i64 x5_1 ∧ Aside0 (laws_heldIntS.l0 kq l0 x1_1 x5_1 = some r) ∧ Aside0 (kq ≤ k) ∧ Drawn0 w w')
 case atStart => exact ⟨(a1), (0), eQ, eQ, H', ⟨Nat.le_refl _⟩, dQ⟩
 case round =>
  clear H'; obtain ⟨x1_1, x5_1, rfl, rfl, HA, HK1, ⟨m1, rfl⟩⟩ := hrel
  cases gk with
  | zero => exact absurd HA.out (by simp [laws_heldIntS.l0])
  | succ k1 =>
   have H := HA.out; clear HA
   simp only [laws_heldIntS.l0] at H
   by_cases c3 : x5_1 < (l0.length : Int)
   ·rw [if_pos c3] at H; have c3b0 := dE c3; clear c3; replace H := iD H; obtain ⟨c4b0, H⟩ := H
    by_cases c5 : (rd l0 x5_1) = x1_1
    ·rw [if_pos c5] at H; have c5b0 : ((rd l0 x5_1) == x1_1) = true := beq_iff_eq.mpr c5; have c5b1 : ((rd l0 x5_1) != x1_1) = false := bne_eq_false_iff_eq.mpr c5; clear c5; have H' := aM H; clear H; have p621 : 0 ≤ (x5_1 : Int) := dT aQ; have q621 : x5_1 < (l0.length : Int) := dT aQ; obtain ⟨ad621, e621, hx621_0⟩ := Kd.at_int HR0.out x5_1 p621 q621
     cases e621
     replace p621 := eq_true p621; replace q621 := eq_true q621; go_wp2
     go_roundg k1
     case measure => have := HK1.out; omega
     case rel => exact ⟨(wrap64 (x1_1 + 1)), (wrap64 (x5_1 + 1)), eQ, eQ, H', ⟨by have := HK1.out; omega⟩, dQ⟩
    ·rw [if_neg c5] at H; have c5b0 : ((rd l0 x5_1) == x1_1) = false := beq_eq_false_iff_ne.mpr c5; have c5b1 : ((rd l0 x5_1) != x1_1) = true := bne_iff_ne.mpr c5; obtain rfl := Option.some.inj H; have p621 : 0 ≤ (x5_1 : Int) := dT aQ; have q621 : x5_1 < (l0.length : Int) := dT aQ; obtain ⟨ad621, e621, hx621_0⟩ := Kd.at_int HR0.out x5_1 p621 q621
     cases e621
     replace p621 := eq_true p621; replace q621 := eq_true q621; go_wp2
     go_ret
     exact ⟨eQ, dQ⟩
   ·rw [if_neg c3] at H; have c3b0 := decide_eq_false c3; clear c3; obtain rfl := Option.some.inj H; go_wp2
    go_ret
    exact ⟨eQ, dQ⟩

end Go.Proofs.Ytklhakfmegbobaa.X
