-- thin
-- short
-- compact
import Derived.Test.YtfihohongkfibaaXA
import Derived.Test.YtfihohongkfibaaX0
import Derived.Test.YtfihohongkfibaaX10
import Derived.Test.YtfihohongkfibaaX14
import Derived.Test.YtfihohongkfibaaX15
namespace Go.Proofs.Ytfihohongkfibaa.X
open Go.RowKit Go.Proofs.Ytfihohongkfibaa.XW Go.Proofs.YtfihohongkfibaaW.PrintWords Go.Proofs.YtfihohongkfibaaW.PrintLast Go.Proofs.YtfihohongkfibaaW.PrintMore
attribute [local go_sem] max2_int min2_int max_two min_two max_three min_three max_four min_four   -- for this text's walks alone
set_option linter.unusedVariables false
set_option linter.unusedSimpArgs false

mutual
def impl_PegsPerLine.l0 : Nat → List (S_impl_Peg) → Int → List Int → Int → Int → Int → Int → Int → Int → Int → Option (List Int × Bool)
 | 0, _, _, _, _, _, _, _, _, _, _ => none
 | k + 1, x0, x9, x11, x14, x301000, x301001, x311000, x311001, x312000, x312001 => if x14 ≤ x312000 then (impl_PegsPerLine.l1 k x0 x9 x11 x14 x311001 x301000 x301001 x311000 x311001 x312000 x312001) else (some (x11, true))
def impl_PegsPerLine.l1 : Nat → List (S_impl_Peg) → Int → List Int → Int → Int → Int → Int → Int → Int → Int → Int → Option (List Int × Bool)
 | 0, _, _, _, _, _, _, _, _, _, _, _ => none
 | k + 1, x0, x9, x11, x14, x15, x301000, x301001, x311000, x311001, x312000, x312001 => if x15 ≤ x312001 then ((impl_where.f k x0 x14 x15).bind fun t313 => (if t313 ≥ 0 then ((impl_value.f x301000 x301001 x14 x15).bind fun t314 => (if 0 ≤ (wrap64 (t314 - x9)) then (if (wrap64 (t314 - x9)) < (x11.length : Int) then (impl_PegsPerLine.l1 k x0 x9 (x11.set ((wrap64 (t314 - x9)) : Int).toNat (wrap64 ((rd x11 (wrap64 (t314 - x9))) + 1))) x14 (wrap64 (x15 + 1)) x301000 x301001 x311000 x311001 x312000 x312001) else (none)) else (none))) else (impl_PegsPerLine.l1 k x0 x9 x11 x14 (wrap64 (x15 + 1)) x301000 x301001 x311000 x311001 x312000 x312001))) else (impl_PegsPerLine.l0 k x0 x9 x11 (wrap64 (x14 + 1)) x301000 x301001 x311000 x311001 x312000 x312001)
end
def impl_PegsPerLine.f (k : Nat) (l0 : List (S_impl_Peg)) (a1 : Int) (a2 : Int) : Option (List Int × Bool) := (impl_isWide.f k l0 a1 a2).bind fun t299 => (if t299 = true then ((impl_extent.f k l0 a1 a2).bind fun bt301 => (if 0 ≤ (wrap64 ((wrap64 (bt301.2 - bt301.1)) + 1)) then (if (wrap64 ((wrap64 (bt301.2 - bt301.1)) + 1) : Int).toNat ≤ 35184372088832 then ((impl_box.f k l0).bind fun bt306 => (impl_PegsPerLine.l0 k l0 bt301.1 (List.replicate (wrap64 ((wrap64 (bt301.2 - bt301.1)) + 1) : Int).toNat 0) bt306.1 a1 a2 bt306.1 bt306.2.1 bt306.2.2.1 bt306.2.2.2)) else (none)) else (none))) else (some (([] : List Int), false)))
theorem impl_PegsPerLine.mono_l : ∀ k, (∀ y0 y1 y2 y3 y4 y5 y6 y7 y8 y9, LeO (impl_PegsPerLine.l0 k y0 y1 y2 y3 y4 y5 y6 y7 y8 y9) (impl_PegsPerLine.l0 (k + 1) y0 y1 y2 y3 y4 y5 y6 y7 y8 y9)) ∧ (∀ y0 y1 y2 y3 y4 y5 y6 y7 y8 y9 y10, LeO (impl_PegsPerLine.l1 k y0 y1 y2 y3 y4 y5 y6 y7 y8 y9 y10) (impl_PegsPerLine.l1 (k + 1) y0 y1 y2 y3 y4 y5 y6 y7 y8 y9 y10))
 | 0 => ⟨fun _ _ _ _ _ _ _ _ _ _ r h => by simp [impl_PegsPerLine.l0] at h, fun _ _ _ _ _ _ _ _ _ _ _ r h => by simp [impl_PegsPerLine.l1] at h⟩
 | k + 1 => by
  obtain ⟨ih0, ih1⟩ := impl_PegsPerLine.mono_l k
  refine ⟨?_, ?_⟩ <;> intros <;> (first | unfold impl_PegsPerLine.l0 | unfold impl_PegsPerLine.l1) <;> repeat' first | (with_reducible exact ih0 _ _ _ _ _ _ _ _ _ _) | (with_reducible exact ih1 _ _ _ _ _ _ _ _ _ _ _) | (with_reducible exact impl_box.mono _ _) | (with_reducible exact impl_extent.mono _ _ _ _) | (with_reducible exact impl_isWide.mono _ _ _ _) | (with_reducible exact impl_where.mono _ _ _ _) | (with_reducible exact LeO.refl _) | (with_reducible exact LeO.none _) | (with_reducible refine LeO.ite ?_ ?_) | (with_reducible refine LeO.bind ?_ (fun _ => ?_)) | exact ih0 _ _ _ _ _ _ _ _ _ _ | exact ih1 _ _ _ _ _ _ _ _ _ _ _ | exact impl_box.mono _ _ | exact impl_extent.mono _ _ _ _ | exact impl_isWide.mono _ _ _ _ | exact impl_where.mono _ _ _ _ | exact LeO.none _ | refine LeO.ite ?_ ?_ | refine LeO.bind ?_ (fun _ => ?_)
theorem impl_PegsPerLine.mono : ∀ a0 a1 a2 k, LeO (impl_PegsPerLine.f k a0 a1 a2) (impl_PegsPerLine.f (k + 1) a0 a1 a2) := by
 intro a0 a1 a2 k
 obtain ⟨ih0, ih1⟩ := impl_PegsPerLine.mono_l k
 unfold impl_PegsPerLine.f
 repeat' first | (with_reducible exact ih0 _ _ _ _ _ _ _ _ _ _) | (with_reducible exact ih1 _ _ _ _ _ _ _ _ _ _ _) | (with_reducible exact impl_box.mono _ _) | (with_reducible exact impl_extent.mono _ _ _ _) | (with_reducible exact impl_isWide.mono _ _ _ _) | (with_reducible exact impl_where.mono _ _ _ _) | (with_reducible exact LeO.refl _) | (with_reducible exact LeO.none _) | (with_reducible refine LeO.ite ?_ ?_) | (with_reducible refine LeO.bind ?_ (fun _ => ?_)) | exact ih0 _ _ _ _ _ _ _ _ _ _ | exact ih1 _ _ _ _ _ _ _ _ _ _ _ | exact impl_box.mono _ _ | exact impl_extent.mono _ _ _ _ | exact impl_isWide.mono _ _ _ _ | exact impl_where.mono _ _ _ _ | exact LeO.none _ | refine LeO.ite ?_ ?_ | refine LeO.bind ?_ (fun _ => ?_)
set_option maxHeartbeats 8000000 in
set_option maxRecDepth 100000 in
theorem impl_PegsPerLine.calls (k : Nat) (A0 : Option Addr) (c0 : Nat) (l0 : List (S_impl_Peg)) (a1 : Int) (a2 : Int) (r1 : List Int) (r2 : Bool) (w : World) (hr0 : Kd.C kd_impl_Peg w A0 l0.length l0) (hc0 : l0.length ≤ c0) (h : impl_PegsPerLine.f k l0 a1 a2 = some (r1, r2)) :
  Calls Try.prog 85 #[.slice A0 l0.length c0, .int .i64 a1, .int .i64 a2] w fun e w' => ∃ v0_ : Value, e = .returned (.tuple #[v0_, .bool r2]) ∧ Kd.R (Kd.int .i64) 3 w' w.heap.size (fun _ => True) v0_ r1 ∧ Below w.heap.size w w' := by
 have hu50 := Try.underlying50; have HR0 := aM hr0; have HC0 := aM hc0; clear hr0 hc0; have HB := aM (Below.refl w.heap.size w)
 unfold impl_PegsPerLine.f at h; have H := h; clear h
 replace H := bS H; obtain ⟨t299, A4, H⟩ := H
 by_cases c5 : t299 = true
 ·subst c5; replace H := iT H; replace H := bS H; obtain ⟨⟨t301, t302⟩, A6, H⟩ := H; obtain ⟨ji7, hji7⟩ : ∃ j_ : Int, (wrap64 ((wrap64 (t302 - t301)) + 1)) = j_ := ⟨_, rfl⟩
  (first | rw [hji7] at H | simp only [hji7] at H)
  (try rw [hji7] at A4)
  (try rw [hji7] at A6)
  have hji7w : (IntKind.i64.wrap ((wrap64 (t302 - t301)) + 1)) = ji7 := (i64_w _).trans hji7; replace H := iN H; obtain ⟨c8, H⟩ := H; have c8b0 := eq_true c8; have c8b1 := dE c8; clear c8; replace H := iN H; obtain ⟨c9, H⟩ := H; have c9b0 := eq_true c9; have c9b1 := dE c9; clear c9; obtain ⟨y303, hy303⟩ : ∃ y_ : List Int, y_ = (List.replicate (ji7 : Int).toNat 0) := ⟨_, rfl⟩; rw [← hy303] at H; have Ny303 := aM hy303; clear hy303; replace H := bS H; obtain ⟨⟨t306, t307, t308, t309⟩, A10, H⟩ := H; have H' := aM H; clear H
  go_enter Try.func85, Try.ntmps85
  go_wp2_with (first | ((with_reducible refine gC (f := 122) rfl ?_); refine goesL_ (some 20) rfl rfl Try.func122 kR rfl #[.slice A0 l0.length c0, .int .i64 a1, .int .i64 a2] rfl sQ ?_; (with_reducible refine (impl_isWide.calls k _ _ l0 a1 a2 true _ ?side1 ?side2 A4.out).mono ?_); (case side1 => repeat (first | exact HR0.out | (with_reducible refine cA ?_ _) | (with_reducible refine cN ?_ _) | (with_reducible refine cD ?_))); (case side2 => exact HC0.out); rintro e w11 ⟨rfl, hb⟩; refine ⟨_, rfl, ?_⟩; replace HB := tB HB hb; (try clear hb); (try clear hb2); (try clear hk); (try clear hi)) | ((with_reducible refine gate_dst (N := 8) rfl ?_); refine bV 8 (cs := #[.int .i64 0, .int .i64 0]) (t := 50) rfl rfl (by first | (go_simp; done) | (go_simp; rfl)) ?_; intro gb300 hg w12 hbox hb; have BK300 := hbox; have GW300 := gZ HB hg; have GE300 := gZ HB hg; replace HB := tB HB hb; clear hb hbox hg; have hcz13_0 := vZ0 BK300; have hcz13_1 := vZ1 BK300; have hfz13_0 := kF BK300.out 0; have hfz13_1 := kF BK300.out 1) | ((with_reducible refine gC (f := 123) rfl ?_); refine goesL_ (some 28) rfl rfl Try.func123 kR rfl #[.slice A0 l0.length c0, .agg #[.int .i64 a1, .int .i64 a2]] rfl sQ ?_; (with_reducible refine (impl_extent.calls k _ _ l0 a1 a2 t301 t302 _ ?side1 ?side2 A6.out).mono ?_); (case side1 => exact Kd.C_below HR0.out bE); (case side2 => exact HC0.out); rintro e w14 ⟨rfl, hb⟩; refine ⟨_, rfl, ?_⟩; replace BK300 := aM (blk_below (g := gb300) (o := .cells #[.int .i64 a1, .int .i64 a2] 50 (0, 0)) (fQ BK300) hb); replace HB := tB HB hb; (try clear hb); (try clear hb2); (try clear hk); (try clear hi)) | ((with_reducible refine gate_dst (N := 35) rfl ?_); refine Kd.R_make (Kd.int .i64) _ 3 rfl (N := 35) rfl 77 _ _ rfl ji7 rfl rfl Try.underlying77 (.int .i64 0) 8 info3 rfl (by decide) (by omega) 0 (ok := fun _ => True) (okp := fun _ => True) rfl (fun _ hk => hk) trivial (dT aQ) (Nat.le_trans (Nat.mul_le_mul_right _ (dT aQ : ji7.toNat ≤ 35184372088832)) (by omega)) (Below.refl _ _) (Nat.le_refl _) ?_; intro v304 w15 ho16 hb hg_ hnew_; clear hg_ hnew_; (first | rw [← Ny303.out] at ho16 | (simp only [Int.reduceToNat] at ho16; rw [← Ny303.out] at ho16)); have HO305 := aM (Kd.R_lower ho16 (pZ bE)); replace BK300 := bB BK300 hb; replace HB := tB HB hb; clear hb ho16) | ((with_reducible refine gC (f := 124) rfl ?_); refine goesL_ (some 38) rfl rfl Try.func124 kR rfl #[.slice A0 l0.length c0] rfl sQ ?_; (with_reducible refine (impl_box.calls k _ _ l0 t306 t307 t308 t309 _ ?side1 ?side2 A10.out).mono ?_); (case side1 => repeat (first | exact (Kd.C_below HR0.out HB.out) | (with_reducible refine cA ?_ _) | (with_reducible refine cN ?_ _) | (with_reducible refine cD ?_))); (case side2 => exact HC0.out); rintro e w17 ⟨rfl, hb⟩; refine ⟨_, rfl, ?_⟩; replace HO305 := aM (Kd.R_below (by (with_reducible repeat (first | apply rA | apply rN | apply rD)); exact HO305.out) hb); replace BK300 := bB BK300 hb; replace HB := tB HB hb; (try clear hb); (try clear hb2); (try clear hk); (try clear hi)) | ((with_reducible refine gate_dst (N := 12) rfl ?_); refine bV 12 (cs := #[.int .i64 0, .int .i64 0]) (t := 50) rfl rfl (by first | (go_simp; done) | (go_simp; rfl)) ?_; intro gb310 hg w18 hbox hb; have BK310 := hbox; have GW310 := gZ HB hg; have GE310 := gZ HB hg; have NB300_310 := nG BK300 hg; have NB310_300 := nH BK300 hg; replace HO305 := aM (Kd.R_below (by (with_reducible repeat (first | apply rA | apply rN | apply rD)); exact HO305.out) hb); replace BK300 := bB BK300 hb; replace HB := tB HB hb; clear hb hbox hg) | ((with_reducible refine gate_dst (N := 13) rfl ?_); refine bV 13 (cs := #[.int .i64 0, .int .i64 0]) (t := 50) rfl rfl (by first | (go_simp; done) | (go_simp; rfl)) ?_; intro gb311 hg w19 hbox hb; have BK311 := hbox; have GW311 := gZ HB hg; have GE311 := gZ HB hg; have NB300_311 := nG BK300 hg; have NB311_300 := nH BK300 hg; have NB310_311 := nG BK310 hg; have NB311_310 := nH BK310 hg; replace HO305 := aM (Kd.R_below (by (with_reducible repeat (first | apply rA | apply rN | apply rD)); exact HO305.out) hb); replace BK300 := bB BK300 hb; replace BK310 := bB BK310 hb; replace HB := tB HB hb; clear hb hbox hg; have hnb20 := NB310_300.out; have hnc20 := NB300_310.out; have hnb21 := NB310_311.out; have hnc21 := NB311_310.out; have hcz22_0 := vZ0 BK310; have hcz22_1 := vZ1 BK310; have hfz22_0 := kF BK310.out 0; have hfz22_1 := kF BK310.out 1; have hnb23 := NB311_300.out; have hnc23 := NB300_311.out; have hcz24_0 := vZ0 BK311; have hcz24_1 := vZ1 BK311; have hfz24_0 := kF BK311.out 0; have hfz24_1 := kF BK311.out 1))
  go_loopg [14] k (fun kq v14 w' => ∃ (x11_1 : List Int) (x14_1 : Int), v14 = .int .i64 x14_1 ∧ Aside0 (impl_PegsPerLine.l0 kq l0 t301 x11_1 x14_1 a1 a2 t306 t307 t308 t309 = some (r1, r2)) ∧ Aside0 (kq ≤ k) ∧ Aside0 (Kd.R (Kd.int .i64) 3 w' w.heap.size (fun _ => True) v304 x11_1) ∧ Aside0 (w'.heap[gb300]? = some (.cells #[.int .i64 a1, .int .i64 a2] 50 (0, 0))) ∧ Aside0 (w'.heap[gb310]? = some (.cells #[.int .i64 t306, .int .i64 t307] 50 (0, 0))) ∧ Aside0 (w'.heap[gb311]? = some (.cells #[.int .i64 t308, .int .i64 t309] 50 (0, 0))) ∧ Aside0 (Below w.heap.size w w'))
  case atStart => exact ⟨(y303), (t306), eQ, H', ⟨Nat.le_refl _⟩, ⟨by (with_reducible repeat (first | apply rA | apply rN | apply rD)); exact Kd.R_mono (Kd.R_far (p := ⟨gb311, 1, none⟩) (Kd.R_far (p := ⟨gb311, 0, none⟩) (Kd.R_far (p := ⟨gb310, 1, none⟩) (Kd.R_far (p := ⟨gb310, 0, none⟩) (Kd.R_types (Kd.R_types HO305.out BK310.out (by decide)) BK311.out (by decide)) (fun _ hk => hk.1.2) (.int .i64 t306)) (fun _ hk => hk.1.2) (.int .i64 t307)) (fun _ hk => hk.2) (.int .i64 t308)) (fun _ hk => hk.2) (.int .i64 t309)) (fun _ hk => trivial)⟩, ⟨fQ BK300⟩, ⟨fQ BK310⟩, ⟨fQ BK311⟩, ⟨bE⟩⟩
  case round =>
   clear H'; (try clear c5); (try clear c8); (try clear c8b0); (try clear c8b1); (try clear c9); (try clear c9b0); (try clear c9b1); (try clear hcz13_0); (try clear hcz13_1); (try clear hcz22_0); (try clear hcz22_1); (try clear hcz24_0); (try clear hcz24_1); (try clear hfz13_0); (try clear hfz13_1); (try clear hfz22_0); (try clear hfz22_1); (try clear hfz24_0); (try clear hfz24_1); obtain ⟨x11_1, x14_1, rfl, HA, HK1, HO_11, BK300, BK310, BK311, HB⟩ := hrel
   cases gk with
   | zero => exact absurd HA.out (by simp [impl_PegsPerLine.l0])
   | succ k1 =>
    have H := HA.out; clear HA
    simp only [impl_PegsPerLine.l0] at H
    by_cases c25 : x14_1 ≤ t308
    ·rw [if_pos c25] at H; have c25b0 := dE c25; clear c25; have H' := aM H; clear H; have hnb26 := NB311_300.out; have hnc26 := NB300_311.out; have hnb27 := NB311_310.out; have hnc27 := NB310_311.out; have hcz28_0 : wr.cell? ⟨gb311, 0, none⟩ = some (.int .i64 t308) := vZ0 BK311; have hcz28_1 : wr.cell? ⟨gb311, 1, none⟩ = some (.int .i64 t309) := vZ1 BK311; have hfz28_0 := kF BK311.out 0; have hfz28_1 := kF BK311.out 1; have hnb29 := NB310_300.out; have hnc29 := NB300_310.out; have hcz30_0 : wr.cell? ⟨gb310, 0, none⟩ = some (.int .i64 t306) := vZ0 BK310; have hcz30_1 : wr.cell? ⟨gb310, 1, none⟩ = some (.int .i64 t307) := vZ1 BK310; have hfz30_0 := kF BK310.out 0; have hfz30_1 := kF BK310.out 1; go_wp2
     go_loopg [15] k1 (fun kq v15 w' => ∃ (x11_2 : List Int) (x15_2 : Int), v15 = .int .i64 x15_2 ∧ Aside0 (impl_PegsPerLine.l1 kq l0 t301 x11_2 x14_1 x15_2 a1 a2 t306 t307 t308 t309 = some (r1, r2)) ∧ Aside0 (kq ≤ k1) ∧ Aside0 (Kd.R (Kd.int .i64) 3 w' w.heap.size (fun _ => True) v304 x11_2) ∧ Aside0 (w'.heap[gb300]? = some (.cells #[.int .i64 a1, .int .i64 a2] 50 (0, 0))) ∧ Aside0 (w'.heap[gb310]? = some (.cells #[.int .i64 t306, .int .i64 t307] 50 (0, 0))) ∧ Aside0 (w'.heap[gb311]? = some (.cells #[.int .i64 t308, .int .i64 t309] 50 (0, 0))) ∧ Aside0 (Below w.heap.size w w'))
     case atStart => exact ⟨(x11_1), (t307), eQ, H', ⟨Nat.le_refl _⟩, ⟨by (with_reducible repeat (first | apply rA | apply rN | apply rD)); exact HO_11.out⟩, ⟨gQ BK300⟩, ⟨gQ BK310⟩, ⟨gQ BK311⟩, ⟨bE⟩⟩
     case round =>
      clear H'; (try clear c5); (try clear c8); (try clear c8b0); (try clear c8b1); (try clear c9); (try clear c9b0); (try clear c9b1); (try clear c25); (try clear c25b0); (try clear hcz13_0); (try clear hcz13_1); (try clear hcz22_0); (try clear hcz22_1); (try clear hcz24_0); (try clear hcz24_1); (try clear hcz28_0); (try clear hcz28_1); (try clear hcz30_0); (try clear hcz30_1); (try clear hfz13_0); (try clear hfz13_1); (try clear hfz22_0); (try clear hfz22_1); (try clear hfz24_0); (try clear hfz24_1); (try clear hfz28_0); (try clear hfz28_1); (try clear hfz30_0); (try clear hfz30_1); obtain ⟨x11_2, x15_2, rfl, HA, HK2, HO_11, BK300, BK310, BK311, HB⟩ := hrel
      cases gk with
      | zero => exact absurd HA.out (by simp [impl_PegsPerLine.l1])
      | succ k2 =>
       have H := HA.out; clear HA
       simp only [impl_PegsPerLine.l1] at H
       by_cases c31 : x15_2 ≤ t309
       ·rw [if_pos c31] at H; have c31b0 := dE c31; clear c31; replace H := bS H; obtain ⟨t313, A32, H⟩ := H
        by_cases c33 : t313 ≥ 0
        ·rw [if_pos c33] at H; have c33b0 := dE c33; clear c33; replace H := bS H; obtain ⟨t314, A34, H⟩ := H; obtain ⟨ji35, hji35⟩ : ∃ j_ : Int, (wrap64 (t314 - t301)) = j_ := ⟨_, rfl⟩
         (first | rw [hji35] at H | simp only [hji35] at H)
         (try rw [hji35] at A32)
         (try rw [hji35] at A34)
         have hji35w : (IntKind.i64.wrap (t314 - t301)) = ji35 := (i64_w _).trans hji35; replace H := iD H; obtain ⟨c36b0, H⟩ := H; replace H := iD H; obtain ⟨c37b0, H⟩ := H; obtain ⟨y316, hy316⟩ : ∃ y_ : List Int, y_ = (x11_2.set ((ji35) : Int).toNat (wrap64 ((rd x11_2 (ji35)) + 1))) := ⟨_, rfl⟩; rw [← hy316] at H; have Ny316 := aM hy316; clear hy316; have H' := aM H; clear H; have hnb39 := NB311_300.out; have hnc39 := NB300_311.out; have hnb40 := NB311_310.out; have hnc40 := NB310_311.out; have hcz41_0 : wr.cell? ⟨gb311, 0, none⟩ = some (.int .i64 t308) := vZ0 BK311; have hcz41_1 : wr.cell? ⟨gb311, 1, none⟩ = some (.int .i64 t309) := vZ1 BK311; have hfz41_0 := kF BK311.out 0; have hfz41_1 := kF BK311.out 1
         go_wp2_with (first | ((with_reducible refine gate_dst (N := 16) rfl ?_); refine bV 16 (cs := #[.int .i64 0, .int .i64 0]) (t := 50) rfl rfl (by first | (go_simp; done) | (go_simp; rfl)) ?_; intro gb312 hg w42 hbox hb; have BK312 := hbox; have GW312 := gZ HB hg; have GE312 := gZ HB hg; have NB300_312 := nG BK300 hg; have NB312_300 := nH BK300 hg; have NB310_312 := nG BK310 hg; have NB312_310 := nH BK310 hg; have NB311_312 := nG BK311 hg; have NB312_311 := nH BK311 hg; replace HO_11 := aM (Kd.R_below (by (with_reducible repeat (first | apply rA | apply rN | apply rD)); exact HO_11.out) hb); replace BK300 := bB BK300 hb; replace BK310 := bB BK310 hb; replace BK311 := bB BK311 hb; replace HB := tB HB hb; clear hb hbox hg; have hnb43 := NB312_300.out; have hnc43 := NB300_312.out; have hnb44 := NB312_310.out; have hnc44 := NB310_312.out; have hnb45 := NB312_311.out; have hnc45 := NB311_312.out; have hcz46_0 := vZ0 BK312; have hcz46_1 := vZ1 BK312; have hfz46_0 := kF BK312.out 0; have hfz46_1 := kF BK312.out 1) | ((with_reducible refine gC (f := 81) rfl ?_); refine goesL_ (some 62) rfl rfl Try.func81 kR rfl #[.slice A0 l0.length c0, .agg #[.int .i64 x14_1, .int .i64 x15_2]] rfl sQ ?_; (with_reducible refine (impl_where.calls k2 _ _ l0 x14_1 x15_2 t313 _ ?side1 ?side2 A32.out).mono ?_); (case side1 => exact Kd.C_below HR0.out bE); (case side2 => exact HC0.out); rintro e w47 ⟨rfl, hb⟩; refine ⟨_, rfl, ?_⟩; replace HO_11 := aM (Kd.R_below (by (with_reducible repeat (first | apply rA | apply rN | apply rD)); exact (Kd.R_mono (Kd.R_far (p := ⟨gb312, 1, none⟩) (Kd.R_far (p := ⟨gb312, 0, none⟩) (Kd.R_types HO_11.out BK312.out (by decide)) (fun _ hk => hk.2) (.int .i64 x14_1)) (fun _ hk => hk.2) (.int .i64 x15_2)) (fun _ h_ => h_.1))) hb); replace BK300 := aM (blk_below (g := gb300) (o := .cells #[.int .i64 a1, .int .i64 a2] 50 (0, 0)) (fQ BK300) hb); replace BK310 := aM (blk_below (g := gb310) (o := .cells #[.int .i64 t306, .int .i64 t307] 50 (0, 0)) (fQ BK310) hb); replace BK311 := aM (blk_below (g := gb311) (o := .cells #[.int .i64 t308, .int .i64 t309] 50 (0, 0)) (fQ BK311) hb); replace BK312 := aM (blk_below (g := gb312) (o := .cells #[.int .i64 x14_1, .int .i64 x15_2] 50 (0, 0)) (fQ BK312) hb); replace HB := tB HB hb; (try clear hb); (try clear hb2); (try clear hk); (try clear hi); have hnb48 := NB300_310.out; have hnc48 := NB310_300.out; have hcz49_0 := vZ0 BK300; have hcz49_1 := vZ1 BK300; have hfz49_0 := kF BK300.out 0; have hfz49_1 := kF BK300.out 1; have hcz50_0 := vZ0 BK312; have hcz50_1 := vZ1 BK312; have hfz50_0 := kF BK312.out 0; have hfz50_1 := kF BK312.out 1) | ((with_reducible refine gC (f := 125) rfl ?_); refine goesL_ (some 67) rfl rfl Try.func125 kR rfl #[.agg #[.int .i64 a1, .int .i64 a2], .agg #[.int .i64 x14_1, .int .i64 x15_2]] rfl sQ ?_; (with_reducible refine (impl_value.calls a1 a2 x14_1 x15_2 t314 _ A34.out).mono ?_); rintro e w51 ⟨rfl, hb⟩; refine ⟨_, rfl, ?_⟩; replace HO_11 := aM (Kd.R_below (by (with_reducible repeat (first | apply rA | apply rN | apply rD)); exact HO_11.out) hb); replace BK300 := bB BK300 hb; replace BK310 := bB BK310 hb; replace BK311 := bB BK311 hb; replace BK312 := bB BK312 hb; replace HB := tB HB hb; (try clear hb); (try clear hb2); (try clear hk); (try clear hi); obtain ⟨Ao52, co52, eo52⟩ := Kd.R_slice HO_11.out; subst eo52; have p315 : 0 ≤ ((ji35) : Int) := dT aQ; have q315 : (ji35) < (x11_2.length : Int) := dT aQ; obtain ⟨ad315, e315, hx315_0⟩ := Kd.at_int (rR HO_11.out).2.2 (ji35) p315 q315; cases e315; replace p315 := eq_true p315; replace q315 := eq_true q315; have p38 : 0 ≤ ((ji35) : Int) := dT aQ; have q38 : ((ji35) : Int) < ((x11_2.length : Int) : Int) := dT aQ; obtain ⟨go38, co38, eo38, gb38, gl38, cl38, HG38⟩ := Kd.R_form HO_11.out (by omega); (first | cases eo38 | (injection eo38 with ea_ en_ ec_; (first | subst ea_ | (injection ea_ with ea_; subst ea_)); subst ec_; clear en_)); have GB38 := aM gb38; have GG38 := aM HG38; clear gb38 gl38 HG38; (first | simp only [add_plain] at hx315_0 | skip); obtain ⟨hx38_0, hf38_0⟩ := Kd.R_celln 0 HO_11.out ((ji35) : Int) p38 q38; replace p38 := eq_true p38; replace q38 := eq_true q38; obtain ⟨hy53_, hz53_⟩ := Kd.R_celln 0 HO_11.out ((ji35) : Int) (dT aQ) (dT aQ); have HP53 := Kd.R_putg HO_11.out ((ji35) : Int) (wrap64 ((rd x11_2 (ji35)) + 1))) | ((with_reducible refine gate_store (t := 3) (p := 73) rfl ?_); refine store_event (t := 3) (p := 73) (v := ?vo_w54) (w1 := (w51.setCell ⟨go38, ((ji35) : Int).toNat, none⟩ (.int .i64 (wrap64 ((rd x11_2 (ji35)) + 1))))) ?hg ?ho ?hn ?hr ?_; (case ho => rfl); (case hg => rfl); (case hn => rfl); (case hr => first | (go_simp; done) | (go_simp; rfl)); intro w54 hw; have hg : w51.grownBy w54 (some go38) := (by rw [hw]; exact HP53.2); have hp_ : Kd.R (Kd.int .i64) 3 w54 w.heap.size (fun _ => True) (.slice (some ⟨go38, 0, none⟩) x11_2.length co52) y316 := (by rw [hw, Ny316.out]; exact HP53.1); clear HP53; replace BK300 := aM (blk_grown (g := gb300) (o := .cells #[.int .i64 a1, .int .i64 a2] 50 (0, 0)) (gQ BK300) hg (Kd.R_ne HO_11.out BK300.out (by decide))); replace BK310 := aM (blk_grown (g := gb310) (o := .cells #[.int .i64 t306, .int .i64 t307] 50 (0, 0)) (gQ BK310) hg (Kd.R_ne HO_11.out BK310.out (by decide))); replace BK311 := aM (blk_grown (g := gb311) (o := .cells #[.int .i64 t308, .int .i64 t309] 50 (0, 0)) (gQ BK311) hg (Kd.R_ne HO_11.out BK311.out (by decide))); replace BK312 := aM (blk_grown (g := gb312) (o := .cells #[.int .i64 x14_1, .int .i64 x15_2] 50 (0, 0)) (gQ BK312) hg (Kd.R_ne HO_11.out BK312.out (by decide))); replace HO_11 := aM (hp_); replace HB := aM ((by rw [hw]; exact pS (HB.out) GB38.out : Below w.heap.size w w54)); clear hg hw hp_))
         go_roundg k2
         case measure => have := HK1.out; have := HK2.out; omega
         case rel => exact ⟨(y316), (wrap64 (x15_2 + 1)), eQ, H', ⟨by have := HK1.out; have := HK2.out; omega⟩, ⟨by (with_reducible repeat (first | apply rA | apply rN | apply rD)); exact HO_11.out⟩, ⟨gQ BK300⟩, ⟨gQ BK310⟩, ⟨gQ BK311⟩, ⟨bE⟩⟩
        ·rw [if_neg c33] at H; have c33b0 := decide_eq_false c33; clear c33; have H' := aM H; clear H; have hnb55 := NB311_300.out; have hnc55 := NB300_311.out; have hnb56 := NB311_310.out; have hnc56 := NB310_311.out; have hcz57_0 : wr.cell? ⟨gb311, 0, none⟩ = some (.int .i64 t308) := vZ0 BK311; have hcz57_1 : wr.cell? ⟨gb311, 1, none⟩ = some (.int .i64 t309) := vZ1 BK311; have hfz57_0 := kF BK311.out 0; have hfz57_1 := kF BK311.out 1
         go_wp2_with (first | ((with_reducible refine gate_dst (N := 16) rfl ?_); refine bV 16 (cs := #[.int .i64 0, .int .i64 0]) (t := 50) rfl rfl (by first | (go_simp; done) | (go_simp; rfl)) ?_; intro gb312 hg w58 hbox hb; have BK312 := hbox; have GW312 := gZ HB hg; have GE312 := gZ HB hg; have NB300_312 := nG BK300 hg; have NB312_300 := nH BK300 hg; have NB310_312 := nG BK310 hg; have NB312_310 := nH BK310 hg; have NB311_312 := nG BK311 hg; have NB312_311 := nH BK311 hg; replace HO_11 := aM (Kd.R_below (by (with_reducible repeat (first | apply rA | apply rN | apply rD)); exact HO_11.out) hb); replace BK300 := bB BK300 hb; replace BK310 := bB BK310 hb; replace BK311 := bB BK311 hb; replace HB := tB HB hb; clear hb hbox hg; have hnb59 := NB312_300.out; have hnc59 := NB300_312.out; have hnb60 := NB312_310.out; have hnc60 := NB310_312.out; have hnb61 := NB312_311.out; have hnc61 := NB311_312.out; have hcz62_0 := vZ0 BK312; have hcz62_1 := vZ1 BK312; have hfz62_0 := kF BK312.out 0; have hfz62_1 := kF BK312.out 1) | ((with_reducible refine gC (f := 81) rfl ?_); refine goesL_ (some 62) rfl rfl Try.func81 kR rfl #[.slice A0 l0.length c0, .agg #[.int .i64 x14_1, .int .i64 x15_2]] rfl sQ ?_; (with_reducible refine (impl_where.calls k2 _ _ l0 x14_1 x15_2 t313 _ ?side1 ?side2 A32.out).mono ?_); (case side1 => exact Kd.C_below HR0.out bE); (case side2 => exact HC0.out); rintro e w63 ⟨rfl, hb⟩; refine ⟨_, rfl, ?_⟩; replace HO_11 := aM (Kd.R_below (by (with_reducible repeat (first | apply rA | apply rN | apply rD)); exact (Kd.R_mono (Kd.R_far (p := ⟨gb312, 1, none⟩) (Kd.R_far (p := ⟨gb312, 0, none⟩) (Kd.R_types HO_11.out BK312.out (by decide)) (fun _ hk => hk.2) (.int .i64 x14_1)) (fun _ hk => hk.2) (.int .i64 x15_2)) (fun _ h_ => h_.1))) hb); replace BK300 := aM (blk_below (g := gb300) (o := .cells #[.int .i64 a1, .int .i64 a2] 50 (0, 0)) (fQ BK300) hb); replace BK310 := aM (blk_below (g := gb310) (o := .cells #[.int .i64 t306, .int .i64 t307] 50 (0, 0)) (fQ BK310) hb); replace BK311 := aM (blk_below (g := gb311) (o := .cells #[.int .i64 t308, .int .i64 t309] 50 (0, 0)) (fQ BK311) hb); replace BK312 := aM (blk_below (g := gb312) (o := .cells #[.int .i64 x14_1, .int .i64 x15_2] 50 (0, 0)) (fQ BK312) hb); replace HB := tB HB hb; (try clear hb); (try clear hb2); (try clear hk); (try clear hi)))
         go_roundg k2
         case measure => have := HK1.out; have := HK2.out; omega
         case rel => exact ⟨(x11_2), (wrap64 (x15_2 + 1)), eQ, H', ⟨by have := HK1.out; have := HK2.out; omega⟩, ⟨by (with_reducible repeat (first | apply rA | apply rN | apply rD)); exact HO_11.out⟩, ⟨gQ BK300⟩, ⟨gQ BK310⟩, ⟨gQ BK311⟩, ⟨bE⟩⟩
       ·rw [if_neg c31] at H; have c31b0 := decide_eq_false c31; clear c31; have H' := aM H; clear H; have hnb64 := NB311_300.out; have hnc64 := NB300_311.out; have hnb65 := NB311_310.out; have hnc65 := NB310_311.out; have hcz66_0 : wr.cell? ⟨gb311, 0, none⟩ = some (.int .i64 t308) := vZ0 BK311; have hcz66_1 : wr.cell? ⟨gb311, 1, none⟩ = some (.int .i64 t309) := vZ1 BK311; have hfz66_0 := kF BK311.out 0; have hfz66_1 := kF BK311.out 1; go_wp2
        go_roundg k2
        case measure => have := HK1.out; have := HK2.out; omega
        case rel => exact ⟨(x11_2), (wrap64 (x14_1 + 1)), eQ, H', ⟨by have := HK1.out; have := HK2.out; omega⟩, ⟨by (with_reducible repeat (first | apply rA | apply rN | apply rD)); exact HO_11.out⟩, ⟨gQ BK300⟩, ⟨gQ BK310⟩, ⟨gQ BK311⟩, ⟨bE⟩⟩
    ·rw [if_neg c25] at H; have c25b0 := decide_eq_false c25; clear c25
     simp only [Option.some.injEq, Prod.mk.injEq] at H
     obtain ⟨rfl, rfl⟩ := H; have hnb67 := NB311_300.out; have hnc67 := NB300_311.out; have hnb68 := NB311_310.out; have hnc68 := NB310_311.out; have hcz69_0 : wr.cell? ⟨gb311, 0, none⟩ = some (.int .i64 t308) := vZ0 BK311; have hcz69_1 : wr.cell? ⟨gb311, 1, none⟩ = some (.int .i64 t309) := vZ1 BK311; have hfz69_0 := kF BK311.out 0; have hfz69_1 := kF BK311.out 1; go_wp2
     go_ret2
     exact ⟨_, by first | rfl | (simp [errW_none, errW_some] <;> rfl) | (simp only [← hji7]; first | rfl | (simp [errW_none, errW_some] <;> rfl)) | (simp [*, errW_none, errW_some] <;> rfl), by (with_reducible repeat (first | apply rA | apply rN | apply rD)); exact HO_11.out, bE⟩
 ·replace c5 := Bool.eq_false_iff.mpr c5; subst c5; replace H := iF H
  simp only [Option.some.injEq, Prod.mk.injEq] at H
  obtain ⟨rfl, rfl⟩ := H
  go_enter Try.func85, Try.ntmps85
  go_wp2_with (first | ((with_reducible refine gC (f := 122) rfl ?_); refine goesL_ (some 20) rfl rfl Try.func122 kR rfl #[.slice A0 l0.length c0, .int .i64 a1, .int .i64 a2] rfl sQ ?_; (with_reducible refine (impl_isWide.calls k _ _ l0 a1 a2 false _ ?side1 ?side2 A4.out).mono ?_); (case side1 => repeat (first | exact HR0.out | (with_reducible refine cA ?_ _) | (with_reducible refine cN ?_ _) | (with_reducible refine cD ?_))); (case side2 => exact HC0.out); rintro e w70 ⟨rfl, hb⟩; refine ⟨_, rfl, ?_⟩; replace HB := tB HB hb; (try clear hb); (try clear hb2); (try clear hk); (try clear hi)))
  go_ret2
  exact ⟨_, by first | rfl | (simp [errW_none, errW_some] <;> rfl) | (simp [*, errW_none, errW_some] <;> rfl), by first | exact Kd.R_nil _ _ _ _ _ | exact Kd.N_nil _ _ _ _ _ | exact Kd.V_nil _ _ _ _ _ | exact Kd.Q_nil _ _ _ _ _ | exact Kd.S_nil _ _ _ _ _, bQ⟩

def slices_Max_int.l0 : Nat → List Int → Int → Int → Option (Int)
 | 0, _, _, _ => none
 | k + 1, x0, x3, x4 => if x4 < (x0.length : Int) then (if 0 ≤ x4 then (slices_Max_int.l0 k x0 (mx x3 (rd x0 x4)) (wrap64 (x4 + 1))) else (none)) else (some x3)
def slices_Max_int.f (k : Nat) (l0 : List Int) : Option (Int) := if (l0.length : Int) < 1 then (none) else (if 0 < (l0.length : Int) then (slices_Max_int.l0 k l0 (rd l0 0) 1) else (none))
theorem slices_Max_int.mono_l : ∀ k, (∀ y0 y1 y2, LeO (slices_Max_int.l0 k y0 y1 y2) (slices_Max_int.l0 (k + 1) y0 y1 y2))
 | 0 => fun _ _ _ r h => by simp [slices_Max_int.l0] at h
 | k + 1 => by
  have ih0 := slices_Max_int.mono_l k
  ·intro y0 y1 y2
   unfold slices_Max_int.l0
   repeat' first
   | (with_reducible exact ih0 _ _ _)
   | (with_reducible exact LeO.refl _)
   | (with_reducible exact LeO.none _)
   | (with_reducible refine LeO.ite ?_ ?_)
   | (with_reducible refine LeO.bind ?_ (fun _ => ?_))
   | exact ih0 _ _ _
   | exact LeO.none _
   | refine LeO.ite ?_ ?_
   | refine LeO.bind ?_ (fun _ => ?_)
theorem slices_Max_int.mono : ∀ a0 k, LeO (slices_Max_int.f k a0) (slices_Max_int.f (k + 1) a0) := by
 intro a0 k
 have ih0 := slices_Max_int.mono_l k
 unfold slices_Max_int.f
 repeat' first | (with_reducible exact ih0 _ _ _) | (with_reducible exact LeO.refl _) | (with_reducible exact LeO.none _) | (with_reducible refine LeO.ite ?_ ?_) | (with_reducible refine LeO.bind ?_ (fun _ => ?_)) | exact ih0 _ _ _ | exact LeO.none _ | refine LeO.ite ?_ ?_ | refine LeO.bind ?_ (fun _ => ?_)
set_option maxHeartbeats 8000000 in
set_option maxRecDepth 100000 in
theorem slices_Max_int.calls (k : Nat) (A0 : Option Addr) (c0 : Nat) (l0 : List Int) (r : Int) (w : World) (hr0 : Kd.C (Kd.int .i64) w A0 l0.length l0) (hc0 : l0.length ≤ c0) (h : slices_Max_int.f k l0 = some r) :
  Calls Try.prog 86 #[.slice A0 l0.length c0] w fun e w' => e = .returned (.int .i64 r) ∧ Below w.heap.size w w' := by
 have HR0 := aM hr0; have HC0 := aM hc0; clear hr0 hc0; have HB := aM (Below.refl w.heap.size w)
 unfold slices_Max_int.f at h; have H := h; clear h
 replace H := iM H; obtain ⟨c2, H⟩ := H; have c2b0 := decide_eq_false c2; have c2b1 : decide (l0.length < 1) = false := decide_eq_false (by omega)
 clear c2; replace H := iN H; obtain ⟨c3, H⟩ := H; have c3b0 := dE c3; have c3b1 : decide (0 < l0.length) = true := dE (by omega)
 clear c3; have H' := aM H; clear H; have p317 : 0 ≤ (0 : Int) := (by omega)
 have q317 : 0 < (l0.length : Int) := dT aQ; obtain ⟨ad317, e317, hx317_0⟩ := Kd.at_int HR0.out 0 p317 q317
 cases e317
 have qi317 : (0 < l0.length) = True := eq_true (by omega)
 (try rw [show ((0 : Int)).toNat = 0 from rfl] at hx317_0)
 (try rw [Addr.add_zero'] at hx317_0)
 replace p317 := eq_true p317; replace q317 := eq_true q317
 go_enter Try.func86, Try.ntmps86
 go_wp2
 go_loopg [3, 4] k (fun kq v3 v4 w' => ∃ (x3_1 : Int) (x4_1 : Int), v3 = .int .i64 x3_1 ∧ v4 = .int .i64 x4_1 ∧ Aside0 (slices_Max_int.l0 kq l0 x3_1 x4_1 = some r) ∧ Aside0 (kq ≤ k) ∧ Aside0 (Below w.heap.size w w'))
 case atStart => exact ⟨(rd l0 0), (1), eQ, eQ, H', ⟨Nat.le_refl _⟩, ⟨bQ⟩⟩
 case round =>
  clear H'; (try clear c2); (try clear c2b0); (try clear c2b1); (try clear c3); (try clear c3b0); (try clear c3b1); (try clear hx317_0); (try clear p317); (try clear q317); obtain ⟨x3_1, x4_1, rfl, rfl, HA, HK1, HB⟩ := hrel
  cases gk with
  | zero => exact absurd HA.out (by simp [slices_Max_int.l0])
  | succ k1 =>
   have H := HA.out; clear HA
   simp only [slices_Max_int.l0] at H
   by_cases c4 : x4_1 < (l0.length : Int)
   ·rw [if_pos c4] at H; have c4b0 := dE c4; clear c4; replace H := iD H; obtain ⟨c5b0, H⟩ := H; obtain ⟨ji6, hji6⟩ : ∃ j_ : Int, (mx x3_1 (rd l0 x4_1)) = j_ := ⟨_, rfl⟩
    (first | rw [hji6] at H | simp only [hji6] at H)
    have hji6_ : (if x3_1 < (rd l0 x4_1) then (rd l0 x4_1) else x3_1) = ji6 := hji6; have H' := aM H; clear H; have p318 : 0 ≤ (x4_1 : Int) := dT aQ; have q318 : x4_1 < (l0.length : Int) := dT aQ; obtain ⟨ad318, e318, hx318_0⟩ := Kd.at_int HR0.out x4_1 p318 q318; obtain rfl : ad317 = ad318 := (by injection e318)
    replace hx318_0 := hC HB hx318_0; replace p318 := eq_true p318; replace q318 := eq_true q318; go_wp2
    go_roundg k1
    case measure => have := HK1.out; omega
    case rel => exact ⟨(ji6), (wrap64 (x4_1 + 1)), (by first | rfl | (simp; done) | (simp only [← hji6] <;> (first | rfl | simp)) | (simp [*]; done)), eQ, H', ⟨by have := HK1.out; omega⟩, ⟨bQ⟩⟩
   ·rw [if_neg c4] at H; have c4b0 := decide_eq_false c4; clear c4; obtain rfl := Option.some.inj H; go_wp2
    go_ret
    exact ⟨wQ, bQ⟩
def impl_MostOnLine.f (k : Nat) (l0 : List (S_impl_Peg)) (a1 : Int) (a2 : Int) : Option (Int × Bool) := (impl_PegsPerLine.f k l0 a1 a2).bind fun bt319 => (if bt319.2 = true then ((slices_Max_int.f k bt319.1).bind fun t323 => (some (t323, true))) else (some (0, false)))
theorem impl_MostOnLine.mono : ∀ a0 a1 a2 k, LeO (impl_MostOnLine.f k a0 a1 a2) (impl_MostOnLine.f (k + 1) a0 a1 a2) := by
 intro a0 a1 a2 k
 unfold impl_MostOnLine.f
 repeat' first | (with_reducible exact impl_PegsPerLine.mono _ _ _ _) | (with_reducible exact slices_Max_int.mono _ _) | (with_reducible exact LeO.refl _) | (with_reducible exact LeO.none _) | (with_reducible refine LeO.ite ?_ ?_) | (with_reducible refine LeO.bind ?_ (fun _ => ?_)) | exact impl_PegsPerLine.mono _ _ _ _ | exact slices_Max_int.mono _ _ | exact LeO.none _ | refine LeO.ite ?_ ?_ | refine LeO.bind ?_ (fun _ => ?_)
set_option maxHeartbeats 8000000 in
set_option maxRecDepth 100000 in
theorem impl_MostOnLine.calls (k : Nat) (A0 : Option Addr) (c0 : Nat) (l0 : List (S_impl_Peg)) (a1 : Int) (a2 : Int) (r1 : Int) (r2 : Bool) (w : World) (hr0 : Kd.C kd_impl_Peg w A0 l0.length l0) (hc0 : l0.length ≤ c0) (h : impl_MostOnLine.f k l0 a1 a2 = some (r1, r2)) :
  Calls Try.prog 39 #[.slice A0 l0.length c0, .int .i64 a1, .int .i64 a2] w fun e w' => e = .returned (.tuple #[.int .i64 r1, .bool r2]) ∧ Below w.heap.size w w' := by
 have HR0 := aM hr0; have HC0 := aM hc0; clear hr0 hc0; have HB := aM (Below.refl w.heap.size w)
 unfold impl_MostOnLine.f at h; have H := h; clear h
 replace H := bS H; obtain ⟨⟨t319, t320⟩, A4, H⟩ := H
 by_cases c5 : t320 = true
 ·subst c5; replace H := iT H; replace H := bS H; obtain ⟨t323, A6, H⟩ := H
  simp only [Option.some.injEq, Prod.mk.injEq] at H
  obtain ⟨rfl, rfl⟩ := H
  go_enter Try.func39, Try.ntmps39
  go_wp2_with (first | ((with_reducible refine gC (f := 85) rfl ?_); refine goesL_ (some 14) rfl rfl Try.func85 kR rfl #[.slice A0 l0.length c0, .int .i64 a1, .int .i64 a2] rfl sQ ?_; (with_reducible refine (impl_PegsPerLine.calls k _ _ l0 a1 a2 t319 true _ ?side1 ?side2 A4.out).mono ?_); (case side1 => repeat (first | exact HR0.out | (with_reducible refine cA ?_ _) | (with_reducible refine cN ?_ _) | (with_reducible refine cD ?_))); (case side2 => exact HC0.out); rintro e w7 ⟨v321, rfl, ho0, hb⟩; refine ⟨_, rfl, ?_⟩; have HO322 := aM (Kd.R_lower ho0 (pZ bQ)); replace HB := tB HB hb; (try clear hb); (try clear hb2); (try clear hk); (try clear hi); (try clear ho0); obtain ⟨Ao8, co8, eo8⟩ := Kd.R_slice HO322.out; subst eo8) | ((with_reducible refine gC (f := 86) rfl ?_); refine goesL_ (some 20) rfl rfl Try.func86 kR rfl #[.slice Ao8 t319.length co8] rfl sQ ?_; (with_reducible refine (slices_Max_int.calls k _ _ t319 t323 _ ?side1 ?side2 A6.out).mono ?_); (case side1 => repeat (first | exact (rR HO322.out).2.2 | (with_reducible refine cA ?_ _) | (with_reducible refine cN ?_ _) | (with_reducible refine cD ?_))); (case side2 => exact (rR HO322.out).2.1); rintro e w9 ⟨rfl, hb⟩; refine ⟨_, rfl, ?_⟩; replace HO322 := aM (Kd.R_below (by (with_reducible repeat (first | apply rA | apply rN | apply rD)); exact HO322.out) hb); replace HB := tB HB hb; (try clear hb); (try clear hb2); (try clear hk); (try clear hi)))
  go_ret2
  exact ⟨wQ, bQ⟩
 ·replace c5 := Bool.eq_false_iff.mpr c5; subst c5; replace H := iF H
  simp only [Option.some.injEq, Prod.mk.injEq] at H
  obtain ⟨rfl, rfl⟩ := H
  go_enter Try.func39, Try.ntmps39
  go_wp2_with (first | ((with_reducible refine gC (f := 85) rfl ?_); refine goesL_ (some 14) rfl rfl Try.func85 kR rfl #[.slice A0 l0.length c0, .int .i64 a1, .int .i64 a2] rfl sQ ?_; (with_reducible refine (impl_PegsPerLine.calls k _ _ l0 a1 a2 t319 false _ ?side1 ?side2 A4.out).mono ?_); (case side1 => repeat (first | exact HR0.out | (with_reducible refine cA ?_ _) | (with_reducible refine cN ?_ _) | (with_reducible refine cD ?_))); (case side2 => exact HC0.out); rintro e w10 ⟨v321, rfl, ho0, hb⟩; refine ⟨_, rfl, ?_⟩; have HO322 := aM (Kd.R_lower ho0 (pZ bQ)); replace HB := tB HB hb; (try clear hb); (try clear hb2); (try clear hk); (try clear hi); (try clear ho0)))
  go_ret2
  exact ⟨wQ, bQ⟩

end Go.Proofs.Ytfihohongkfibaa.X
