-- thin
-- short
-- compact
import Derived.Test.YtklhakfmegbobaaXA
import Derived.Test.YtklhakfmegbobaaX0
import Derived.Test.YtklhakfmegbobaaX12
import Derived.Test.YtklhakfmegbobaaX16
namespace Go.Proofs.Ytklhakfmegbobaa.X
open Go.RowKit Go.Proofs.Ytklhakfmegbobaa.XW Go.Proofs.YtklhakfmegbobaaW.PrintWords Go.Proofs.YtklhakfmegbobaaW.PrintLast Go.Proofs.YtklhakfmegbobaaW.PrintMore
attribute [local go_sem] max2_int min2_int max_two min_two max_three min_three max_four min_four   -- for this text's walks alone
set_option linter.unusedVariables false
set_option linter.unusedSimpArgs false

def impl_where.l0 : Nat → List (S_impl_Peg) → Int → List (S_impl_Peg) → Int → Int → Int → Int → Option (Int)
 | 0, _, _, _, _, _, _, _ => none
 | k + 1, x0, x5, x9, x10, x11, x377000, x377001 => if x11 < x10 then (if 0 ≤ x11 then (if x11 < (x9.length : Int) then ((impl_at.f x0 (wrap64 (x11 + 1))).bind fun bt379 => ((impl_isOn.f ((rd_impl_Peg x9 x11).f0) ((rd_impl_Peg x9 x11).f1) bt379.1 bt379.2 x377000 x377001).bind fun t382 => (if t382 = true then (some 0) else (if ((decide (((rd_impl_Peg x9 x11).f1) > x377001)) != (decide (bt379.2 > x377001))) = true then ((impl_turn.f ((rd_impl_Peg x9 x11).f0) ((rd_impl_Peg x9 x11).f1) bt379.1 bt379.2 x377000 x377001).bind fun t383 => (if ((decide (t383 > 0)) == (decide (bt379.2 > ((rd_impl_Peg x9 x11).f1)))) = true then (impl_where.l0 k x0 (wrap64 (-x5)) x9 x10 (wrap64 (x11 + 1)) x377000 x377001) else (impl_where.l0 k x0 x5 x9 x10 (wrap64 (x11 + 1)) x377000 x377001))) else (impl_where.l0 k x0 x5 x9 x10 (wrap64 (x11 + 1)) x377000 x377001))))) else (none)) else (none)) else (some x5)
def impl_where.f (k : Nat) (l0 : List (S_impl_Peg)) (a1_0 : Int) (a1_1 : Int) : Option (Int) := impl_where.l0 k l0 (-1) l0 (l0.length : Int) 0 a1_0 a1_1
theorem impl_where.mono_l : ∀ k, (∀ y0 y1 y2 y3 y4 y5 y6, LeO (impl_where.l0 k y0 y1 y2 y3 y4 y5 y6) (impl_where.l0 (k + 1) y0 y1 y2 y3 y4 y5 y6))
 | 0 => fun _ _ _ _ _ _ _ r h => by simp [impl_where.l0] at h
 | k + 1 => by
  have ih0 := impl_where.mono_l k
  ·intro y0 y1 y2 y3 y4 y5 y6
   unfold impl_where.l0
   repeat' first
   | (with_reducible exact ih0 _ _ _ _ _ _ _)
   | (with_reducible exact LeO.refl _)
   | (with_reducible exact LeO.none _)
   | (with_reducible refine LeO.ite ?_ ?_)
   | (with_reducible refine LeO.bind ?_ (fun _ => ?_))
   | exact ih0 _ _ _ _ _ _ _
   | exact LeO.none _
   | refine LeO.ite ?_ ?_
   | refine LeO.bind ?_ (fun _ => ?_)
theorem impl_where.mono : ∀ a0 a1 a2 k, LeO (impl_where.f k a0 a1 a2) (impl_where.f (k + 1) a0 a1 a2) := by
 intro a0 a1 a2 k
 have ih0 := impl_where.mono_l k
 unfold impl_where.f
 repeat' first | (with_reducible exact ih0 _ _ _ _ _ _ _) | (with_reducible exact LeO.refl _) | (with_reducible exact LeO.none _) | (with_reducible refine LeO.ite ?_ ?_) | (with_reducible refine LeO.bind ?_ (fun _ => ?_)) | exact ih0 _ _ _ _ _ _ _ | exact LeO.none _ | refine LeO.ite ?_ ?_ | refine LeO.bind ?_ (fun _ => ?_)
def impl_where.T8 : Bool × List (List Nat × List Nat) := (true, [([], []), ([0], [0]), ([], []), ([2], [2]), ([1, 3], [1, 3]), ([], []), ([5], [5]), ([], []), ([7], [7]), ([6, 8], [6, 8]), ([4, 9], [4, 9]), ([10], [10]), ([11], [11]), ([11], [11]), ([11], [11]), ([12, 13, 14, 11, 11], [11, 12, 13, 14]), ([15, 11], [11, 15]), ([11], [11]), ([17, 11], [11, 17]), ([11], [11]), ([19, 11], [11, 19]), ([18, 20, 11], [11, 18, 20]), ([16, 21, 11], [11, 16, 21]), ([11, 22], [11, 22])])
def impl_where.B8 : List Nat := [0, 1, 0, 4, 15, 0, 32, 0, 128, 480, 1023, 2047, 4095, 4095, 4095, 32767, 65535, 4095, 135167, 4095, 528383, 1970175, 4194303, 8388607]
theorem impl_where.tab8 : rtab .any (opsOf Try.f94 8) = impl_where.T8 := by kernel_rfl
theorem impl_where.bits8 : waitsOk impl_where.T8.2 impl_where.B8 = true := by kernel_rfl
set_option maxHeartbeats 8000000 in
set_option maxRecDepth 100000 in
theorem impl_where.calls (k : Nat) (A0 : Option Addr) (c0 : Nat) (l0 : List (S_impl_Peg)) (a1_0 : Int) (a1_1 : Int) (r : Int) (w : World) (hr0 : Kd.C kd_impl_Peg w A0 l0.length l0) (hc0 : l0.length ≤ c0) (h : impl_where.f k l0 a1_0 a1_1 = some r) :
  Calls Try.prog 94 #[.slice A0 l0.length c0, .agg #[.int .i64 a1_0, .int .i64 a1_1]] w fun e w' => e = .returned (.int .i64 r) ∧ Below w.heap.size w w' := by
 have hu26 := Try.underlying26; have HR0 := aM hr0; have HC0 := aM hc0; clear hr0 hc0; have HB := aM (Below.refl w.heap.size w)
 unfold impl_where.f at h; have H := h; clear h
 have H' := aM H; clear H
 go_enter Try.func94, Try.ntmps94
 go_wp2_with (first | ((with_reducible refine gate_dst (N := 3) rfl ?_); refine bV 3 (cs := #[.int .i64 a1_0, .int .i64 a1_1]) (t := 26) rfl rfl (by first | (go_simp; done) | (go_simp; rfl)) ?_; intro gb376 hg w3 hbox hb; have BK376 := hbox; have GW376 := gZ HB hg; have GE376 := gZ HB hg; replace HB := tB HB hb; clear hb hbox hg))
 go_loopg [5, 11] k (fun kq v5 v11 w' => ∃ (x5_1 : Int) (x11_1 : Int), v5 = .int .i64 x5_1 ∧ v11 = .int .i64 x11_1 ∧ Aside0 (impl_where.l0 kq l0 x5_1 l0 (l0.length : Int) x11_1 a1_0 a1_1 = some r) ∧ Aside0 (kq ≤ k) ∧ Aside0 (w'.heap[gb376]? = some (.cells #[.int .i64 a1_0, .int .i64 a1_1] 26 (0, 0))) ∧ Aside0 (Below w.heap.size w w'))
 case atStart => exact ⟨((-1)), (0), eQ, eQ, H', ⟨Nat.le_refl _⟩, ⟨gQ BK376⟩, ⟨bE⟩⟩
 case round =>
  clear H'; obtain ⟨x5_1, x11_1, rfl, rfl, HA, HK1, BK376, HB⟩ := hrel
  cases gk with
  | zero => exact absurd HA.out (by simp [impl_where.l0])
  | succ k1 =>
   have H := HA.out; clear HA
   simp only [impl_where.l0] at H
   by_cases c4 : x11_1 < (l0.length : Int)
   ·rw [if_pos c4] at H; have c4b0 := dE c4; clear c4; replace H := iD H; obtain ⟨c5b0, H⟩ := H; replace H := iD H; obtain ⟨c6b0, H⟩ := H; replace H := bS H; obtain ⟨⟨t379, t380⟩, A7, H⟩ := H; replace H := bS H; obtain ⟨t382, A8, H⟩ := H
    by_cases c9 : t382 = true
    ·subst c9; replace H := iT H; obtain rfl := Option.some.inj H; have p377 : 0 ≤ (x11_1 : Int) := dT aQ; have q377 : x11_1 < (l0.length : Int) := dT aQ; obtain ⟨ad377, e377, hx377_0, hx377_1⟩ := at_impl_Peg HR0.out x11_1 p377 q377
     cases e377
     replace hx377_0 := hC HB hx377_0; replace hx377_1 := hC HB hx377_1; replace p377 := eq_true p377; replace q377 := eq_true q377
     go_wp2_with (first | ((with_reducible refine gate_dst (N := 7) rfl ?_); refine bV 7 (cs := #[.int .i64 0, .int .i64 0]) (t := 26) rfl rfl (by first | (go_simp; done) | (go_simp; rfl)) ?_; intro gb378 hg w10 hbox hb; have BK378 := hbox; have GW378 := gZ HB hg; have GE378 := gZ HB hg; have NB376_378 := nG BK376 hg; have NB378_376 := nH BK376 hg; replace BK376 := bB BK376 hb; replace HB := tB HB hb; clear hb hbox hg; have hnb11 := NB378_376.out; have hnc11 := NB376_378.out; have hcz12_0 := vZ0 BK378; have hcz12_1 := vZ1 BK378; have hfz12_0 := kF BK378.out 0; have hfz12_1 := kF BK378.out 1) | ((with_reducible refine gC (f := 108) rfl ?_); refine goesL_ (some 19) rfl rfl Try.func108 kR rfl #[.slice (some ad377) l0.length c0, .int .i64 (wrap64 (x11_1 + 1))] rfl sQ ?_; (with_reducible refine (impl_at.calls _ _ l0 (wrap64 (x11_1 + 1)) t379 t380 _ ?side1 ?side2 A7.out).mono ?_); (case side1 => exact Kd.C_below HR0.out bE); (case side2 => exact HC0.out); rintro e w13 ⟨rfl, hb⟩; refine ⟨_, rfl, ?_⟩; replace BK376 := aM (blk_below (g := gb376) (o := .cells #[.int .i64 a1_0, .int .i64 a1_1] 26 (0, 0)) (fQ BK376) hb); replace BK378 := aM (blk_below (g := gb378) (o := .cells #[.int .i64 ((rd_impl_Peg l0 x11_1).f0), .int .i64 ((rd_impl_Peg l0 x11_1).f1)] 26 (0, 0)) (fQ BK378) hb); replace HB := tB HB hb; (try clear hb); (try clear hb2); (try clear hk); (try clear hi)) | ((with_reducible refine gate_dst (N := 8) rfl ?_); refine bV 8 (cs := #[.int .i64 0, .int .i64 0]) (t := 26) rfl rfl (by first | (go_simp; done) | (go_simp; rfl)) ?_; intro gb381 hg w14 hbox hb; have BK381 := hbox; have GW381 := gZ HB hg; have GE381 := gZ HB hg; have NB376_381 := nG BK376 hg; have NB381_376 := nH BK376 hg; have NB378_381 := nG BK378 hg; have NB381_378 := nH BK378 hg; replace BK376 := bB BK376 hb; replace BK378 := bB BK378 hb; replace HB := tB HB hb; clear hb hbox hg; have hnb15 := NB381_376.out; have hnc15 := NB376_381.out; have hnb16 := NB381_378.out; have hnc16 := NB378_381.out; have hcz17_0 := vZ0 BK381; have hcz17_1 := vZ1 BK381; have hfz17_0 := kF BK381.out 0; have hfz17_1 := kF BK381.out 1; have hcz18_0 := vZ0 BK378; have hcz18_1 := vZ1 BK378; have hfz18_0 := kF BK378.out 0; have hfz18_1 := kF BK378.out 1; have hcz19_0 := vZ0 BK376; have hcz19_1 := vZ1 BK376; have hfz19_0 := kF BK376.out 0; have hfz19_1 := kF BK376.out 1) | ((with_reducible refine gC (f := 132) rfl ?_); refine goesL_ (some 23) rfl rfl Try.func132 kR rfl #[.agg #[.int .i64 ((rd_impl_Peg l0 x11_1).f0), .int .i64 ((rd_impl_Peg l0 x11_1).f1)], .agg #[.int .i64 t379, .int .i64 t380], .agg #[.int .i64 a1_0, .int .i64 a1_1]] rfl sQ ?_; (with_reducible refine (impl_isOn.calls ((rd_impl_Peg l0 x11_1).f0) ((rd_impl_Peg l0 x11_1).f1) t379 t380 a1_0 a1_1 true _ A8.out).mono ?_); rintro e w20 ⟨rfl, hb⟩; refine ⟨_, rfl, ?_⟩; replace BK376 := aM (blk_below (g := gb376) (o := .cells #[.int .i64 a1_0, .int .i64 a1_1] 26 (0, 0)) (fQ BK376) hb); replace BK378 := aM (blk_below (g := gb378) (o := .cells #[.int .i64 ((rd_impl_Peg l0 x11_1).f0), .int .i64 ((rd_impl_Peg l0 x11_1).f1)] 26 (0, 0)) (fQ BK378) hb); replace BK381 := aM (blk_below (g := gb381) (o := .cells #[.int .i64 t379, .int .i64 t380] 26 (0, 0)) (fQ BK381) hb); replace HB := tB HB hb; (try clear hb); (try clear hb2); (try clear hk); (try clear hi)))
     go_ret
     exact ⟨wQ, bE⟩
    ·replace c9 := Bool.eq_false_iff.mpr c9; subst c9; replace H := iF H
     by_cases c21 : ((decide (((rd_impl_Peg l0 x11_1).f1) > a1_1)) != (decide (t380 > a1_1))) = true
     ·rw [if_pos c21] at H; have c21b0 := c21
      (try (have c21b1 : decide ((decide (((rd_impl_Peg l0 x11_1).f1) > a1_1)) = (decide (t380 > a1_1))) = false := by simpa using c21))
      (try (have c21b2 : ((decide (((rd_impl_Peg l0 x11_1).f1) > a1_1)) == (decide (t380 > a1_1))) = false := by simpa using c21))
      (try (have c21b3 : ¬ ((decide (((rd_impl_Peg l0 x11_1).f1) > a1_1)) = (decide (t380 > a1_1))) := by simpa using c21))
      clear c21; replace H := bS H; obtain ⟨t383, A22, H⟩ := H
      by_cases c23 : ((decide (t383 > 0)) == (decide (t380 > ((rd_impl_Peg l0 x11_1).f1)))) = true
      ·rw [if_pos c23] at H; have c23b0 := c23
       (try (have c23b1 : decide ((decide (t383 > 0)) = (decide (t380 > ((rd_impl_Peg l0 x11_1).f1)))) = true := by simpa using c23))
       (try (have c23b2 : ((decide (t383 > 0)) == (decide (t380 > ((rd_impl_Peg l0 x11_1).f1)))) = true := by simpa using c23))
       clear c23; have H' := aM H; clear H; have p377 : 0 ≤ (x11_1 : Int) := dT aQ; have q377 : x11_1 < (l0.length : Int) := dT aQ; obtain ⟨ad377, e377, hx377_0, hx377_1⟩ := at_impl_Peg HR0.out x11_1 p377 q377
       cases e377
       replace hx377_0 := hC HB hx377_0; replace hx377_1 := hC HB hx377_1; replace p377 := eq_true p377; replace q377 := eq_true q377
       try go_wp2_with (first | ((with_reducible refine gate_dst (N := 7) rfl ?_); refine bV 7 (cs := #[.int .i64 0, .int .i64 0]) (t := 26) rfl rfl (by first | (go_simp; done) | (go_simp; rfl)) ?_; intro gb378 hg w24 hbox hb; have BK378 := hbox; have GW378 := gZ HB hg; have GE378 := gZ HB hg; have NB376_378 := nG BK376 hg; have NB378_376 := nH BK376 hg; replace BK376 := bB BK376 hb; replace HB := tB HB hb; clear hb hbox hg; have hnb25 := NB378_376.out; have hnc25 := NB376_378.out; have hcz26_0 := vZ0 BK378; have hcz26_1 := vZ1 BK378; have hfz26_0 := kF BK378.out 0; have hfz26_1 := kF BK378.out 1) | ((with_reducible refine gC (f := 108) rfl ?_); refine goesL_ (some 19) rfl rfl Try.func108 kR rfl #[.slice (some ad377) l0.length c0, .int .i64 (wrap64 (x11_1 + 1))] rfl sQ ?_; (with_reducible refine (impl_at.calls _ _ l0 (wrap64 (x11_1 + 1)) t379 t380 _ ?side1 ?side2 A7.out).mono ?_); (case side1 => exact Kd.C_below HR0.out bE); (case side2 => exact HC0.out); rintro e w27 ⟨rfl, hb⟩; refine ⟨_, rfl, ?_⟩; replace BK376 := aM (blk_below (g := gb376) (o := .cells #[.int .i64 a1_0, .int .i64 a1_1] 26 (0, 0)) (fQ BK376) hb); replace BK378 := aM (blk_below (g := gb378) (o := .cells #[.int .i64 ((rd_impl_Peg l0 x11_1).f0), .int .i64 ((rd_impl_Peg l0 x11_1).f1)] 26 (0, 0)) (fQ BK378) hb); replace HB := tB HB hb; (try clear hb); (try clear hb2); (try clear hk); (try clear hi)) | ((with_reducible refine gate_dst (N := 8) rfl ?_); refine bV 8 (cs := #[.int .i64 0, .int .i64 0]) (t := 26) rfl rfl (by first | (go_simp; done) | (go_simp; rfl)) ?_; intro gb381 hg w28 hbox hb; have BK381 := hbox; have GW381 := gZ HB hg; have GE381 := gZ HB hg; have NB376_381 := nG BK376 hg; have NB381_376 := nH BK376 hg; have NB378_381 := nG BK378 hg; have NB381_378 := nH BK378 hg; replace BK376 := bB BK376 hb; replace BK378 := bB BK378 hb; replace HB := tB HB hb; clear hb hbox hg; have hnb29 := NB381_376.out; have hnc29 := NB376_381.out; have hnb30 := NB381_378.out; have hnc30 := NB378_381.out; have hcz31_0 := vZ0 BK381; have hcz31_1 := vZ1 BK381; have hfz31_0 := kF BK381.out 0; have hfz31_1 := kF BK381.out 1; have hcz32_0 := vZ0 BK378; have hcz32_1 := vZ1 BK378; have hfz32_0 := kF BK378.out 0; have hfz32_1 := kF BK378.out 1; have hcz33_0 := vZ0 BK376; have hcz33_1 := vZ1 BK376; have hfz33_0 := kF BK376.out 0; have hfz33_1 := kF BK376.out 1) | ((with_reducible refine gC (f := 132) rfl ?_); refine goesL_ (some 23) rfl rfl Try.func132 kR rfl #[.agg #[.int .i64 ((rd_impl_Peg l0 x11_1).f0), .int .i64 ((rd_impl_Peg l0 x11_1).f1)], .agg #[.int .i64 t379, .int .i64 t380], .agg #[.int .i64 a1_0, .int .i64 a1_1]] rfl sQ ?_; (with_reducible refine (impl_isOn.calls ((rd_impl_Peg l0 x11_1).f0) ((rd_impl_Peg l0 x11_1).f1) t379 t380 a1_0 a1_1 false _ A8.out).mono ?_); rintro e w34 ⟨rfl, hb⟩; refine ⟨_, rfl, ?_⟩; replace BK376 := aM (blk_below (g := gb376) (o := .cells #[.int .i64 a1_0, .int .i64 a1_1] 26 (0, 0)) (fQ BK376) hb); replace BK378 := aM (blk_below (g := gb378) (o := .cells #[.int .i64 ((rd_impl_Peg l0 x11_1).f0), .int .i64 ((rd_impl_Peg l0 x11_1).f1)] 26 (0, 0)) (fQ BK378) hb); replace BK381 := aM (blk_below (g := gb381) (o := .cells #[.int .i64 t379, .int .i64 t380] 26 (0, 0)) (fQ BK381) hb); replace HB := tB HB hb; (try clear hb); (try clear hb2); (try clear hk); (try clear hi)))
       replace BK376 := aM (kD BK376.out); replace BK378 := aM (kD BK378.out); replace BK381 := aM (kD BK381.out); replace HB := aM (pD HB.out)
       refine start_ (n := 24) (S := fun w' => w'.cell? ⟨gb378, 0, none⟩ = some (.int .i64 ((rd_impl_Peg l0 x11_1).f0)) ∧ w'.cell? ⟨gb378, 1, none⟩ = some (.int .i64 ((rd_impl_Peg l0 x11_1).f1)) ∧ w'.cell? ⟨gb376, 0, none⟩ = some (.int .i64 a1_0) ∧ w'.cell? ⟨gb376, 1, none⟩ = some (.int .i64 a1_1) ∧ w'.cell? ⟨gb381, 0, none⟩ = some (.int .i64 t379) ∧ w'.cell? ⟨gb381, 1, none⟩ = some (.int .i64 t380)) (ds := []) (bA 24 0) kR rfl kR ⟨vZ0 BK378, vZ1 BK378, vZ0 BK376, vZ1 BK376, vZ0 BK381, vZ1 BK381⟩ (fun hHeld => ?_); refine with_tabW impl_where.tab8 impl_where.bits8 (fun HT_ HW_ => ?_)
       generalize w34.drew = w35 at BK376 BK378 BK381 HB hHeld ⊢
       refine pU 0 24 (bA 24 1) HT_ ?_; refine pU 2 26 (bA 24 5) HT_ ?_; refine pU 5 29 (bA 24 37) HT_ ?_; refine pU 7 31 (bA 24 165) HT_ ?_
       refine tU 1 25 (bA 24 167) HT_ HW_ hHeld ?_ (hy := Or.inl ⟨by rfl, by rintro w' ⟨s0, s1, s2, s3, s4, s5⟩; go_simp; with_reducible rfl⟩)
       refine tU 3 27 (bA 24 175) HT_ HW_ hHeld ?_ (hy := Or.inl ⟨by rfl, by rintro w' ⟨s0, s1, s2, s3, s4, s5⟩; go_simp; with_reducible rfl⟩)
       refine pU 4 28 (bA 24 191) HT_ ?_
       refine tU 6 30 (bA 24 255) HT_ HW_ hHeld ?_ (hy := Or.inl ⟨by rfl, by rintro w' ⟨s0, s1, s2, s3, s4, s5⟩; go_simp; with_reducible rfl⟩)
       refine tU 8 32 (bA 24 511) HT_ HW_ hHeld ?_ (hy := Or.inl ⟨by rfl, by rintro w' ⟨s0, s1, s2, s3, s4, s5⟩; go_simp; with_reducible rfl⟩)
       refine pU 9 33 (bA 24 1023) HT_ ?_; refine pU 10 34 (bA 24 2047) HT_ ?_; refine pU 11 35 (bA 24 4095) HT_ ?_; refine pU 17 41 (bA 24 135167) HT_ ?_; refine pU 19 43 (bA 24 659455) HT_ ?_
       refine tU 12 36 (bA 24 663551) HT_ HW_ hHeld ?_ (hy := Or.inl ⟨by rfl, by rintro w' ⟨s0, s1, s2, s3, s4, s5⟩; go_simp; with_reducible rfl⟩)
       refine tU 13 37 (bA 24 671743) HT_ HW_ hHeld ?_ (hy := Or.inl ⟨by rfl, by rintro w' ⟨s0, s1, s2, s3, s4, s5⟩; go_simp; with_reducible rfl⟩)
       refine tU 14 38 (bA 24 688127) HT_ HW_ hHeld ?_ (hy := Or.inl ⟨by rfl, by rintro w' ⟨s0, s1, s2, s3, s4, s5⟩; go_simp; with_reducible rfl⟩)
       refine tU 18 42 (bA 24 950271) HT_ HW_ hHeld ?_ (hy := Or.inl ⟨by rfl, by rintro w' ⟨s0, s1, s2, s3, s4, s5⟩; go_simp; with_reducible rfl⟩)
       refine tU 20 44 (bA 24 1998847) HT_ HW_ hHeld ?_ (hy := Or.inl ⟨by rfl, by rintro w' ⟨s0, s1, s2, s3, s4, s5⟩; go_simp; with_reducible rfl⟩)
       refine pU 21 45 (bA 24 4095999) HT_ ?_
       refine oU 15 39 (bA 24 4128767) HT_ (fun K hK => ?_)
       refine goes_ Try.func111 kR rfl #[.agg #[.int .i64 ((rd_impl_Peg l0 x11_1).f0), .int .i64 ((rd_impl_Peg l0 x11_1).f1)], .agg #[.int .i64 t379, .int .i64 t380], .agg #[.int .i64 a1_0, .int .i64 a1_1]] (by rfl) rfl rfl sQ ?_
       with_reducible refine (impl_turn.calls ((rd_impl_Peg l0 x11_1).f0) ((rd_impl_Peg l0 x11_1).f1) t379 t380 a1_0 a1_1 t383 _ A22.out).mono ?_
       rintro e w36 ⟨rfl, hb⟩; refine ⟨_, rfl, ?_⟩; replace BK376 := bB BK376 hb; replace BK378 := bB BK378 hb; replace BK381 := bB BK381 hb; replace HB := tB HB hb; (try clear hb); (try clear hb2); (try clear hk); (try clear hi)
       refine hK.out _ _ ⟨vZ0 BK378, vZ1 BK378, vZ0 BK376, vZ1 BK376, vZ0 BK381, vZ1 BK381⟩ (fun hHeld => ?_)
       clear hK K
       refine nU ?_
       refine pU 16 40 (bA 24 4194303) HT_ ?_; refine pU 22 46 (bA 24 8388607) HT_ ?_; refine pU 23 47 (bA 24 16777215) HT_ ?_
       refine done_ (done_of HT_.out kR) ?_
       try go_wp2
       go_roundg k1
       case measure => have := HK1.out; omega
       case rel => exact ⟨(wrap64 (-x5_1)), (wrap64 (x11_1 + 1)), eQ, eQ, H', ⟨by have := HK1.out; omega⟩, ⟨gQ BK376⟩, ⟨bE⟩⟩
      ·rw [if_neg c23] at H; have c23b0 : ((decide (t383 > 0)) == (decide (t380 > ((rd_impl_Peg l0 x11_1).f1)))) = false := by simpa using c23
       (try (have c23b1 : decide ((decide (t383 > 0)) = (decide (t380 > ((rd_impl_Peg l0 x11_1).f1)))) = false := by simpa using c23))
       (try (have c23b2 : ((decide (t383 > 0)) == (decide (t380 > ((rd_impl_Peg l0 x11_1).f1)))) = false := by simpa using c23))
       (try (have c23b3 : ¬ ((decide (t383 > 0)) = (decide (t380 > ((rd_impl_Peg l0 x11_1).f1)))) := by simpa using c23))
       clear c23; have H' := aM H; clear H; have p377 : 0 ≤ (x11_1 : Int) := dT aQ; have q377 : x11_1 < (l0.length : Int) := dT aQ; obtain ⟨ad377, e377, hx377_0, hx377_1⟩ := at_impl_Peg HR0.out x11_1 p377 q377
       cases e377
       replace hx377_0 := hC HB hx377_0; replace hx377_1 := hC HB hx377_1; replace p377 := eq_true p377; replace q377 := eq_true q377
       try go_wp2_with (first | ((with_reducible refine gate_dst (N := 7) rfl ?_); refine bV 7 (cs := #[.int .i64 0, .int .i64 0]) (t := 26) rfl rfl (by first | (go_simp; done) | (go_simp; rfl)) ?_; intro gb378 hg w37 hbox hb; have BK378 := hbox; have GW378 := gZ HB hg; have GE378 := gZ HB hg; have NB376_378 := nG BK376 hg; have NB378_376 := nH BK376 hg; replace BK376 := bB BK376 hb; replace HB := tB HB hb; clear hb hbox hg; have hnb38 := NB378_376.out; have hnc38 := NB376_378.out; have hcz39_0 := vZ0 BK378; have hcz39_1 := vZ1 BK378; have hfz39_0 := kF BK378.out 0; have hfz39_1 := kF BK378.out 1) | ((with_reducible refine gC (f := 108) rfl ?_); refine goesL_ (some 19) rfl rfl Try.func108 kR rfl #[.slice (some ad377) l0.length c0, .int .i64 (wrap64 (x11_1 + 1))] rfl sQ ?_; (with_reducible refine (impl_at.calls _ _ l0 (wrap64 (x11_1 + 1)) t379 t380 _ ?side1 ?side2 A7.out).mono ?_); (case side1 => exact Kd.C_below HR0.out bE); (case side2 => exact HC0.out); rintro e w40 ⟨rfl, hb⟩; refine ⟨_, rfl, ?_⟩; replace BK376 := aM (blk_below (g := gb376) (o := .cells #[.int .i64 a1_0, .int .i64 a1_1] 26 (0, 0)) (fQ BK376) hb); replace BK378 := aM (blk_below (g := gb378) (o := .cells #[.int .i64 ((rd_impl_Peg l0 x11_1).f0), .int .i64 ((rd_impl_Peg l0 x11_1).f1)] 26 (0, 0)) (fQ BK378) hb); replace HB := tB HB hb; (try clear hb); (try clear hb2); (try clear hk); (try clear hi)) | ((with_reducible refine gate_dst (N := 8) rfl ?_); refine bV 8 (cs := #[.int .i64 0, .int .i64 0]) (t := 26) rfl rfl (by first | (go_simp; done) | (go_simp; rfl)) ?_; intro gb381 hg w41 hbox hb; have BK381 := hbox; have GW381 := gZ HB hg; have GE381 := gZ HB hg; have NB376_381 := nG BK376 hg; have NB381_376 := nH BK376 hg; have NB378_381 := nG BK378 hg; have NB381_378 := nH BK378 hg; replace BK376 := bB BK376 hb; replace BK378 := bB BK378 hb; replace HB := tB HB hb; clear hb hbox hg; have hnb42 := NB381_376.out; have hnc42 := NB376_381.out; have hnb43 := NB381_378.out; have hnc43 := NB378_381.out; have hcz44_0 := vZ0 BK381; have hcz44_1 := vZ1 BK381; have hfz44_0 := kF BK381.out 0; have hfz44_1 := kF BK381.out 1; have hcz45_0 := vZ0 BK378; have hcz45_1 := vZ1 BK378; have hfz45_0 := kF BK378.out 0; have hfz45_1 := kF BK378.out 1; have hcz46_0 := vZ0 BK376; have hcz46_1 := vZ1 BK376; have hfz46_0 := kF BK376.out 0; have hfz46_1 := kF BK376.out 1) | ((with_reducible refine gC (f := 132) rfl ?_); refine goesL_ (some 23) rfl rfl Try.func132 kR rfl #[.agg #[.int .i64 ((rd_impl_Peg l0 x11_1).f0), .int .i64 ((rd_impl_Peg l0 x11_1).f1)], .agg #[.int .i64 t379, .int .i64 t380], .agg #[.int .i64 a1_0, .int .i64 a1_1]] rfl sQ ?_; (with_reducible refine (impl_isOn.calls ((rd_impl_Peg l0 x11_1).f0) ((rd_impl_Peg l0 x11_1).f1) t379 t380 a1_0 a1_1 false _ A8.out).mono ?_); rintro e w47 ⟨rfl, hb⟩; refine ⟨_, rfl, ?_⟩; replace BK376 := aM (blk_below (g := gb376) (o := .cells #[.int .i64 a1_0, .int .i64 a1_1] 26 (0, 0)) (fQ BK376) hb); replace BK378 := aM (blk_below (g := gb378) (o := .cells #[.int .i64 ((rd_impl_Peg l0 x11_1).f0), .int .i64 ((rd_impl_Peg l0 x11_1).f1)] 26 (0, 0)) (fQ BK378) hb); replace BK381 := aM (blk_below (g := gb381) (o := .cells #[.int .i64 t379, .int .i64 t380] 26 (0, 0)) (fQ BK381) hb); replace HB := tB HB hb; (try clear hb); (try clear hb2); (try clear hk); (try clear hi)))
       replace BK376 := aM (kD BK376.out); replace BK378 := aM (kD BK378.out); replace BK381 := aM (kD BK381.out); replace HB := aM (pD HB.out)
       refine start_ (n := 24) (S := fun w' => w'.cell? ⟨gb378, 0, none⟩ = some (.int .i64 ((rd_impl_Peg l0 x11_1).f0)) ∧ w'.cell? ⟨gb378, 1, none⟩ = some (.int .i64 ((rd_impl_Peg l0 x11_1).f1)) ∧ w'.cell? ⟨gb376, 0, none⟩ = some (.int .i64 a1_0) ∧ w'.cell? ⟨gb376, 1, none⟩ = some (.int .i64 a1_1) ∧ w'.cell? ⟨gb381, 0, none⟩ = some (.int .i64 t379) ∧ w'.cell? ⟨gb381, 1, none⟩ = some (.int .i64 t380)) (ds := []) (bA 24 0) kR rfl kR ⟨vZ0 BK378, vZ1 BK378, vZ0 BK376, vZ1 BK376, vZ0 BK381, vZ1 BK381⟩ (fun hHeld => ?_); refine with_tabW impl_where.tab8 impl_where.bits8 (fun HT_ HW_ => ?_)
       generalize w47.drew = w48 at BK376 BK378 BK381 HB hHeld ⊢
       refine pU 0 24 (bA 24 1) HT_ ?_; refine pU 2 26 (bA 24 5) HT_ ?_; refine pU 5 29 (bA 24 37) HT_ ?_; refine pU 7 31 (bA 24 165) HT_ ?_
       refine tU 1 25 (bA 24 167) HT_ HW_ hHeld ?_ (hy := Or.inl ⟨by rfl, by rintro w' ⟨s0, s1, s2, s3, s4, s5⟩; go_simp; with_reducible rfl⟩)
       refine tU 3 27 (bA 24 175) HT_ HW_ hHeld ?_ (hy := Or.inl ⟨by rfl, by rintro w' ⟨s0, s1, s2, s3, s4, s5⟩; go_simp; with_reducible rfl⟩)
       refine pU 4 28 (bA 24 191) HT_ ?_
       refine tU 6 30 (bA 24 255) HT_ HW_ hHeld ?_ (hy := Or.inl ⟨by rfl, by rintro w' ⟨s0, s1, s2, s3, s4, s5⟩; go_simp; with_reducible rfl⟩)
       refine tU 8 32 (bA 24 511) HT_ HW_ hHeld ?_ (hy := Or.inl ⟨by rfl, by rintro w' ⟨s0, s1, s2, s3, s4, s5⟩; go_simp; with_reducible rfl⟩)
       refine pU 9 33 (bA 24 1023) HT_ ?_; refine pU 10 34 (bA 24 2047) HT_ ?_; refine pU 11 35 (bA 24 4095) HT_ ?_; refine pU 17 41 (bA 24 135167) HT_ ?_; refine pU 19 43 (bA 24 659455) HT_ ?_
       refine tU 12 36 (bA 24 663551) HT_ HW_ hHeld ?_ (hy := Or.inl ⟨by rfl, by rintro w' ⟨s0, s1, s2, s3, s4, s5⟩; go_simp; with_reducible rfl⟩)
       refine tU 13 37 (bA 24 671743) HT_ HW_ hHeld ?_ (hy := Or.inl ⟨by rfl, by rintro w' ⟨s0, s1, s2, s3, s4, s5⟩; go_simp; with_reducible rfl⟩)
       refine tU 14 38 (bA 24 688127) HT_ HW_ hHeld ?_ (hy := Or.inl ⟨by rfl, by rintro w' ⟨s0, s1, s2, s3, s4, s5⟩; go_simp; with_reducible rfl⟩)
       refine tU 18 42 (bA 24 950271) HT_ HW_ hHeld ?_ (hy := Or.inl ⟨by rfl, by rintro w' ⟨s0, s1, s2, s3, s4, s5⟩; go_simp; with_reducible rfl⟩)
       refine tU 20 44 (bA 24 1998847) HT_ HW_ hHeld ?_ (hy := Or.inl ⟨by rfl, by rintro w' ⟨s0, s1, s2, s3, s4, s5⟩; go_simp; with_reducible rfl⟩)
       refine pU 21 45 (bA 24 4095999) HT_ ?_
       refine oU 15 39 (bA 24 4128767) HT_ (fun K hK => ?_)
       refine goes_ Try.func111 kR rfl #[.agg #[.int .i64 ((rd_impl_Peg l0 x11_1).f0), .int .i64 ((rd_impl_Peg l0 x11_1).f1)], .agg #[.int .i64 t379, .int .i64 t380], .agg #[.int .i64 a1_0, .int .i64 a1_1]] (by rfl) rfl rfl sQ ?_
       with_reducible refine (impl_turn.calls ((rd_impl_Peg l0 x11_1).f0) ((rd_impl_Peg l0 x11_1).f1) t379 t380 a1_0 a1_1 t383 _ A22.out).mono ?_
       rintro e w49 ⟨rfl, hb⟩; refine ⟨_, rfl, ?_⟩; replace BK376 := bB BK376 hb; replace BK378 := bB BK378 hb; replace BK381 := bB BK381 hb; replace HB := tB HB hb; (try clear hb); (try clear hb2); (try clear hk); (try clear hi)
       refine hK.out _ _ ⟨vZ0 BK378, vZ1 BK378, vZ0 BK376, vZ1 BK376, vZ0 BK381, vZ1 BK381⟩ (fun hHeld => ?_)
       clear hK K
       refine nU ?_
       refine pU 16 40 (bA 24 4194303) HT_ ?_; refine pU 22 46 (bA 24 8388607) HT_ ?_; refine pU 23 47 (bA 24 16777215) HT_ ?_
       refine done_ (done_of HT_.out kR) ?_
       try go_wp2
       go_roundg k1
       case measure => have := HK1.out; omega
       case rel => exact ⟨(x5_1), (wrap64 (x11_1 + 1)), eQ, eQ, H', ⟨by have := HK1.out; omega⟩, ⟨gQ BK376⟩, ⟨bE⟩⟩
     ·rw [if_neg c21] at H; have c21b0 : ((decide (((rd_impl_Peg l0 x11_1).f1) > a1_1)) != (decide (t380 > a1_1))) = false := by simpa using c21
      (try (have c21b1 : decide ((decide (((rd_impl_Peg l0 x11_1).f1) > a1_1)) = (decide (t380 > a1_1))) = true := by simpa using c21))
      (try (have c21b2 : ((decide (((rd_impl_Peg l0 x11_1).f1) > a1_1)) == (decide (t380 > a1_1))) = true := by simpa using c21))
      clear c21; have H' := aM H; clear H; have p377 : 0 ≤ (x11_1 : Int) := dT aQ; have q377 : x11_1 < (l0.length : Int) := dT aQ; obtain ⟨ad377, e377, hx377_0, hx377_1⟩ := at_impl_Peg HR0.out x11_1 p377 q377
      cases e377
      replace hx377_0 := hC HB hx377_0; replace hx377_1 := hC HB hx377_1; replace p377 := eq_true p377; replace q377 := eq_true q377
      try go_wp2_with (first | ((with_reducible refine gate_dst (N := 7) rfl ?_); refine bV 7 (cs := #[.int .i64 0, .int .i64 0]) (t := 26) rfl rfl (by first | (go_simp; done) | (go_simp; rfl)) ?_; intro gb378 hg w50 hbox hb; have BK378 := hbox; have GW378 := gZ HB hg; have GE378 := gZ HB hg; have NB376_378 := nG BK376 hg; have NB378_376 := nH BK376 hg; replace BK376 := bB BK376 hb; replace HB := tB HB hb; clear hb hbox hg; have hnb51 := NB378_376.out; have hnc51 := NB376_378.out; have hcz52_0 := vZ0 BK378; have hcz52_1 := vZ1 BK378; have hfz52_0 := kF BK378.out 0; have hfz52_1 := kF BK378.out 1) | ((with_reducible refine gC (f := 108) rfl ?_); refine goesL_ (some 19) rfl rfl Try.func108 kR rfl #[.slice (some ad377) l0.length c0, .int .i64 (wrap64 (x11_1 + 1))] rfl sQ ?_; (with_reducible refine (impl_at.calls _ _ l0 (wrap64 (x11_1 + 1)) t379 t380 _ ?side1 ?side2 A7.out).mono ?_); (case side1 => exact Kd.C_below HR0.out bE); (case side2 => exact HC0.out); rintro e w53 ⟨rfl, hb⟩; refine ⟨_, rfl, ?_⟩; replace BK376 := aM (blk_below (g := gb376) (o := .cells #[.int .i64 a1_0, .int .i64 a1_1] 26 (0, 0)) (fQ BK376) hb); replace BK378 := aM (blk_below (g := gb378) (o := .cells #[.int .i64 ((rd_impl_Peg l0 x11_1).f0), .int .i64 ((rd_impl_Peg l0 x11_1).f1)] 26 (0, 0)) (fQ BK378) hb); replace HB := tB HB hb; (try clear hb); (try clear hb2); (try clear hk); (try clear hi)) | ((with_reducible refine gate_dst (N := 8) rfl ?_); refine bV 8 (cs := #[.int .i64 0, .int .i64 0]) (t := 26) rfl rfl (by first | (go_simp; done) | (go_simp; rfl)) ?_; intro gb381 hg w54 hbox hb; have BK381 := hbox; have GW381 := gZ HB hg; have GE381 := gZ HB hg; have NB376_381 := nG BK376 hg; have NB381_376 := nH BK376 hg; have NB378_381 := nG BK378 hg; have NB381_378 := nH BK378 hg; replace BK376 := bB BK376 hb; replace BK378 := bB BK378 hb; replace HB := tB HB hb; clear hb hbox hg; have hnb55 := NB381_376.out; have hnc55 := NB376_381.out; have hnb56 := NB381_378.out; have hnc56 := NB378_381.out; have hcz57_0 := vZ0 BK381; have hcz57_1 := vZ1 BK381; have hfz57_0 := kF BK381.out 0; have hfz57_1 := kF BK381.out 1; have hcz58_0 := vZ0 BK378; have hcz58_1 := vZ1 BK378; have hfz58_0 := kF BK378.out 0; have hfz58_1 := kF BK378.out 1; have hcz59_0 := vZ0 BK376; have hcz59_1 := vZ1 BK376; have hfz59_0 := kF BK376.out 0; have hfz59_1 := kF BK376.out 1) | ((with_reducible refine gC (f := 132) rfl ?_); refine goesL_ (some 23) rfl rfl Try.func132 kR rfl #[.agg #[.int .i64 ((rd_impl_Peg l0 x11_1).f0), .int .i64 ((rd_impl_Peg l0 x11_1).f1)], .agg #[.int .i64 t379, .int .i64 t380], .agg #[.int .i64 a1_0, .int .i64 a1_1]] rfl sQ ?_; (with_reducible refine (impl_isOn.calls ((rd_impl_Peg l0 x11_1).f0) ((rd_impl_Peg l0 x11_1).f1) t379 t380 a1_0 a1_1 false _ A8.out).mono ?_); rintro e w60 ⟨rfl, hb⟩; refine ⟨_, rfl, ?_⟩; replace BK376 := aM (blk_below (g := gb376) (o := .cells #[.int .i64 a1_0, .int .i64 a1_1] 26 (0, 0)) (fQ BK376) hb); replace BK378 := aM (blk_below (g := gb378) (o := .cells #[.int .i64 ((rd_impl_Peg l0 x11_1).f0), .int .i64 ((rd_impl_Peg l0 x11_1).f1)] 26 (0, 0)) (fQ BK378) hb); replace BK381 := aM (blk_below (g := gb381) (o := .cells #[.int .i64 t379, .int .i64 t380] 26 (0, 0)) (fQ BK381) hb); replace HB := tB HB hb; (try clear hb); (try clear hb2); (try clear hk); (try clear hi)))
      replace BK376 := aM (kD BK376.out); replace BK378 := aM (kD BK378.out); replace BK381 := aM (kD BK381.out); replace HB := aM (pD HB.out)
      refine start_ (n := 24) (S := fun w' => w'.cell? ⟨gb378, 0, none⟩ = some (.int .i64 ((rd_impl_Peg l0 x11_1).f0)) ∧ w'.cell? ⟨gb378, 1, none⟩ = some (.int .i64 ((rd_impl_Peg l0 x11_1).f1)) ∧ w'.cell? ⟨gb376, 0, none⟩ = some (.int .i64 a1_0) ∧ w'.cell? ⟨gb376, 1, none⟩ = some (.int .i64 a1_1) ∧ w'.cell? ⟨gb381, 0, none⟩ = some (.int .i64 t379) ∧ w'.cell? ⟨gb381, 1, none⟩ = some (.int .i64 t380)) (ds := []) (bA 24 0) kR rfl kR ⟨vZ0 BK378, vZ1 BK378, vZ0 BK376, vZ1 BK376, vZ0 BK381, vZ1 BK381⟩ (fun hHeld => ?_); refine with_tabW impl_where.tab8 impl_where.bits8 (fun HT_ HW_ => ?_)
      generalize w60.drew = w61 at BK376 BK378 BK381 HB hHeld ⊢
      refine pU 0 24 (bA 24 1) HT_ ?_; refine pU 2 26 (bA 24 5) HT_ ?_; refine pU 5 29 (bA 24 37) HT_ ?_; refine pU 7 31 (bA 24 165) HT_ ?_
      refine tU 1 25 (bA 24 167) HT_ HW_ hHeld ?_ (hy := Or.inl ⟨by rfl, by rintro w' ⟨s0, s1, s2, s3, s4, s5⟩; go_simp; with_reducible rfl⟩)
      refine tU 3 27 (bA 24 175) HT_ HW_ hHeld ?_ (hy := Or.inl ⟨by rfl, by rintro w' ⟨s0, s1, s2, s3, s4, s5⟩; go_simp; with_reducible rfl⟩)
      refine pU 4 28 (bA 24 191) HT_ ?_
      refine tU 6 30 (bA 24 255) HT_ HW_ hHeld ?_ (hy := Or.inl ⟨by rfl, by rintro w' ⟨s0, s1, s2, s3, s4, s5⟩; go_simp; with_reducible rfl⟩)
      refine tU 8 32 (bA 24 511) HT_ HW_ hHeld ?_ (hy := Or.inl ⟨by rfl, by rintro w' ⟨s0, s1, s2, s3, s4, s5⟩; go_simp; with_reducible rfl⟩)
      refine pU 9 33 (bA 24 1023) HT_ ?_; refine pU 10 34 (bA 24 2047) HT_ ?_; refine pU 11 35 (bA 24 4095) HT_ ?_; refine pU 12 36 (bA 24 8191) HT_ ?_ (hy := Or.inr ⟨by rfl, rfl⟩)
      refine pU 13 37 (bA 24 16383) HT_ ?_ (hy := Or.inr ⟨by rfl, rfl⟩)
      refine pU 14 38 (bA 24 32767) HT_ ?_ (hy := Or.inr ⟨by rfl, rfl⟩)
      refine pU 15 39 (bA 24 65535) HT_ ?_ (hy := Or.inr ⟨by rfl, rfl⟩)
      refine pU 16 40 (bA 24 131071) HT_ ?_ (hy := Or.inr ⟨by rfl, rfl⟩)
      refine pU 17 41 (bA 24 262143) HT_ ?_ (hy := Or.inr ⟨by rfl, rfl⟩)
      refine pU 18 42 (bA 24 524287) HT_ ?_ (hy := Or.inr ⟨by rfl, rfl⟩)
      refine pU 19 43 (bA 24 1048575) HT_ ?_ (hy := Or.inr ⟨by rfl, rfl⟩)
      refine pU 20 44 (bA 24 2097151) HT_ ?_ (hy := Or.inr ⟨by rfl, rfl⟩)
      refine pU 21 45 (bA 24 4194303) HT_ ?_ (hy := Or.inr ⟨by rfl, rfl⟩)
      refine pU 22 46 (bA 24 8388607) HT_ ?_ (hy := Or.inr ⟨by rfl, rfl⟩)
      refine pU 23 47 (bA 24 16777215) HT_ ?_
      refine done_ (done_of HT_.out kR) ?_
      try go_wp2
      go_roundg k1
      case measure => have := HK1.out; omega
      case rel => exact ⟨(x5_1), (wrap64 (x11_1 + 1)), eQ, eQ, H', ⟨by have := HK1.out; omega⟩, ⟨gQ BK376⟩, ⟨bE⟩⟩
   ·rw [if_neg c4] at H; have c4b0 := decide_eq_false c4; clear c4; obtain rfl := Option.some.inj H; go_wp2
    go_ret
    exact ⟨wQ, bE⟩

end Go.Proofs.Ytklhakfmegbobaa.X
