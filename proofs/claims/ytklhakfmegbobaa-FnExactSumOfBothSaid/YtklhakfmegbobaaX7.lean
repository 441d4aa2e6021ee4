-- thin
-- short
-- compact
import Derived.Test.YtklhakfmegbobaaXA
import Derived.Test.YtklhakfmegbobaaX0
import Derived.Test.YtklhakfmegbobaaX2
namespace Go.Proofs.Ytklhakfmegbobaa.X
open Go.RowKit Go.Proofs.Ytklhakfmegbobaa.XW Go.Proofs.YtklhakfmegbobaaW.PrintWords Go.Proofs.YtklhakfmegbobaaW.PrintLast Go.Proofs.YtklhakfmegbobaaW.PrintMore
attribute [local go_sem] max2_int min2_int max_two min_two max_three min_three max_four min_four   -- for this text's walks alone
set_option linter.unusedVariables false
set_option linter.unusedSimpArgs false

def spec_pgArea.l0 : Nat → List (S_impl_Peg) → Int → Int → Option (Int)
 | 0, _, _, _ => none
 | k + 1, x0, x3, x4 => if x4 < (x0.length : Int) then (if 0 < (x0.length : Int) then (if 0 ≤ (wrap64 (x4 - 1)) then (if (wrap64 (x4 - 1)) < (x0.length : Int) then (if 0 ≤ x4 then ((spec_pgTurn.f ((rd_impl_Peg x0 0).f0) ((rd_impl_Peg x0 0).f1) ((rd_impl_Peg x0 (wrap64 (x4 - 1))).f0) ((rd_impl_Peg x0 (wrap64 (x4 - 1))).f1) ((rd_impl_Peg x0 x4).f0) ((rd_impl_Peg x0 x4).f1)).bind fun t173 => (spec_pgArea.l0 k x0 (wrap64 (x3 + t173)) (wrap64 (x4 + 1)))) else (none)) else (none)) else (none)) else (none)) else (some x3)
def spec_pgArea.f (k : Nat) (l0 : List (S_impl_Peg)) : Option (Int) := spec_pgArea.l0 k l0 0 2
theorem spec_pgArea.mono_l : ∀ k, (∀ y0 y1 y2, LeO (spec_pgArea.l0 k y0 y1 y2) (spec_pgArea.l0 (k + 1) y0 y1 y2))
 | 0 => fun _ _ _ r h => by simp [spec_pgArea.l0] at h
 | k + 1 => by
  have ih0 := spec_pgArea.mono_l k
  ·intro y0 y1 y2
   unfold spec_pgArea.l0
   repeat' first
   | (with_reducible exact ih0 _ _ _)
   | (with_reducible exact LeO.refl _)
   | (with_reducible exact LeO.none _)
   | (with_reducible refine LeO.ite ?_ ?_)
   | (with_reducible refine LeO.bind ?_ (fun _ => ?_))
   | exact ih0 _ _ _
   | exact LeO.none _
   | refine LeO.ite ?_ ?_
   | refine LeO.bind ?_ (fun _ => ?_)
theorem spec_pgArea.mono : ∀ a0 k, LeO (spec_pgArea.f k a0) (spec_pgArea.f (k + 1) a0) := by
 intro a0 k
 have ih0 := spec_pgArea.mono_l k
 unfold spec_pgArea.f
 repeat' first | (with_reducible exact ih0 _ _ _) | (with_reducible exact LeO.refl _) | (with_reducible exact LeO.none _) | (with_reducible refine LeO.ite ?_ ?_) | (with_reducible refine LeO.bind ?_ (fun _ => ?_)) | exact ih0 _ _ _ | exact LeO.none _ | refine LeO.ite ?_ ?_ | refine LeO.bind ?_ (fun _ => ?_)
def spec_pgArea.T5 : Bool × List (List Nat × List Nat) := (true, [([], []), ([], []), ([1], [1]), ([2], [2]), ([], []), ([], []), ([5], [5]), ([4, 6], [4, 6]), ([7], [7]), ([], []), ([], []), ([9, 10], [9, 10]), ([11], [11]), ([3, 8, 12], [3, 8, 12]), ([0, 13], [0, 13]), ([14, 13, 0, 1, 2, 3, 4, 5, 6, 7, 8, 9, 10, 11, 12, 13, 14], [0, 14])])
def spec_pgArea.B5 : List Nat := [0, 0, 2, 6, 0, 0, 32, 112, 240, 0, 0, 1536, 3584, 8190, 16383, 32767]
theorem spec_pgArea.tab5 : rtab .any (opsOf Try.f56 5) = spec_pgArea.T5 := by kernel_rfl
theorem spec_pgArea.bits5 : waitsOk spec_pgArea.T5.2 spec_pgArea.B5 = true := by kernel_rfl
set_option maxHeartbeats 8000000 in
set_option maxRecDepth 100000 in
theorem spec_pgArea.calls (k : Nat) (A0 : Option Addr) (c0 : Nat) (l0 : List (S_impl_Peg)) (r : Int) (w : World) (hr0 : Kd.C kd_impl_Peg w A0 l0.length l0) (hc0 : l0.length ≤ c0) (h : spec_pgArea.f k l0 = some r) :
  Calls Try.prog 56 #[.slice A0 l0.length c0] w fun e w' => e = .returned (.int .i64 r) ∧ Below w.heap.size w w' := by
 have hu26 := Try.underlying26; have HR0 := aM hr0; have HC0 := aM hc0; clear hr0 hc0; have HB := aM (Below.refl w.heap.size w)
 unfold spec_pgArea.f at h; have H := h; clear h
 have H' := aM H; clear H
 go_enter Try.func56, Try.ntmps56
 go_wp2
 go_loopg [3, 4] k (fun kq v3 v4 w' => ∃ (x3_1 : Int) (x4_1 : Int), v3 = .int .i64 x3_1 ∧ v4 = .int .i64 x4_1 ∧ Aside0 (spec_pgArea.l0 kq l0 x3_1 x4_1 = some r) ∧ Aside0 (kq ≤ k) ∧ Aside0 (Below w.heap.size w w'))
 case atStart => exact ⟨(0), (2), eQ, eQ, H', ⟨Nat.le_refl _⟩, ⟨bQ⟩⟩
 case round =>
  clear H'; obtain ⟨x3_1, x4_1, rfl, rfl, HA, HK1, HB⟩ := hrel
  cases gk with
  | zero => exact absurd HA.out (by simp [spec_pgArea.l0])
  | succ k1 =>
   have H := HA.out; clear HA
   simp only [spec_pgArea.l0] at H
   by_cases c2 : x4_1 < (l0.length : Int)
   ·rw [if_pos c2] at H; have c2b0 := dE c2; clear c2; replace H := iN H; obtain ⟨c3, H⟩ := H; have c3b0 := dE c3; have c3b1 : decide (0 < l0.length) = true := dE (by omega)
    clear c3; obtain ⟨ji4, hji4⟩ : ∃ j_ : Int, (wrap64 (x4_1 - 1)) = j_ := ⟨_, rfl⟩
    (first | rw [hji4] at H | simp only [hji4] at H)
    have hji4w : (IntKind.i64.wrap (x4_1 - 1)) = ji4 := (i64_w _).trans hji4; replace H := iD H; obtain ⟨c5b0, H⟩ := H; replace H := iD H; obtain ⟨c6b0, H⟩ := H; replace H := iD H; obtain ⟨c7b0, H⟩ := H; replace H := bS H; obtain ⟨t173, A8, H⟩ := H; have H' := aM H; clear H
    try go_wp2
    replace HB := aM (pD HB.out); have p170 : 0 ≤ (0 : Int) := (by omega)
    have q170 : 0 < (l0.length : Int) := dT aQ; obtain ⟨ad170, e170, hx170_0, hx170_1⟩ := at_impl_Peg HR0.out 0 p170 q170; have hw170_1 := hx170_1
    (try rw [show ((0 : Int)).toNat = 0 from rfl] at hw170_1)
    (try rw [show 0 * 2 = 0 from rfl] at hw170_1)
    (try rw [Addr.add_zero'] at hw170_1)
    have hw170_0 := hx170_0
    (try rw [show ((0 : Int)).toNat = 0 from rfl] at hw170_0)
    (try rw [show 0 * 2 = 0 from rfl] at hw170_0)
    (try rw [Addr.add_zero'] at hw170_0)
    cases e170
    have qi170 : (0 < l0.length) = True := eq_true (by omega)
    (try rw [show ((0 : Int)).toNat = 0 from rfl] at hx170_0)
    (try rw [show 0 * 2 = 0 from rfl] at hx170_0)
    (try rw [Addr.add_zero'] at hx170_0)
    (try rw [show ((0 : Int)).toNat = 0 from rfl] at hx170_1)
    (try rw [show 0 * 2 = 0 from rfl] at hx170_1)
    (try rw [Addr.add_zero'] at hx170_1)
    replace hx170_0 := hC HB hx170_0; replace hx170_1 := hC HB hx170_1; replace p170 := eq_true p170; replace q170 := eq_true q170; have p171 : 0 ≤ ((ji4) : Int) := dT aQ; have q171 : (ji4) < (l0.length : Int) := dT aQ; obtain ⟨ad171, e171, hx171_0, hx171_1⟩ := at_impl_Peg HR0.out (ji4) p171 q171; have hw171_1 := hx171_1; have hw171_0 := hx171_0; obtain rfl : ad170 = ad171 := (by injection e171)
    replace hx171_0 := hC HB hx171_0; replace hx171_1 := hC HB hx171_1; replace p171 := eq_true p171; replace q171 := eq_true q171; have p172 : 0 ≤ (x4_1 : Int) := dT aQ; have q172 : x4_1 < (l0.length : Int) := dT aQ; obtain ⟨ad172, e172, hx172_0, hx172_1⟩ := at_impl_Peg HR0.out x4_1 p172 q172; have hw172_1 := hx172_1; have hw172_0 := hx172_0; obtain rfl : ad170 = ad172 := (by injection e172)
    replace hx172_0 := hC HB hx172_0; replace hx172_1 := hC HB hx172_1; replace p172 := eq_true p172; replace q172 := eq_true q172
    refine start_ (n := 16) (S := fun w' => w'.cell? ad170 = some (.int .i64 ((rd_impl_Peg l0 0).f0)) ∧ w'.cell? ⟨ad170.block, ad170.off + 1, none⟩ = some (.int .i64 ((rd_impl_Peg l0 0).f1)) ∧ w'.cell? (ad170.add (((ji4)).toNat * 2)) = some (.int .i64 ((rd_impl_Peg l0 (ji4)).f0)) ∧ w'.cell? ⟨(ad170.add (((ji4)).toNat * 2)).block, (ad170.add (((ji4)).toNat * 2)).off + 1, none⟩ = some (.int .i64 ((rd_impl_Peg l0 (ji4)).f1)) ∧ w'.cell? (ad170.add ((x4_1).toNat * 2)) = some (.int .i64 ((rd_impl_Peg l0 x4_1).f0)) ∧ w'.cell? ⟨(ad170.add ((x4_1).toNat * 2)).block, (ad170.add ((x4_1).toNat * 2)).off + 1, none⟩ = some (.int .i64 ((rd_impl_Peg l0 x4_1).f1))) (ds := []) (bA 16 0) kR rfl kR ⟨(hC HB hw170_0 :), (hC HB hw170_1 :), (hC HB hw171_0 :), (hC HB hw171_1 :), (hC HB hw172_0 :), (hC HB hw172_1 :)⟩ (fun hHeld => ?_); refine with_tabW spec_pgArea.tab5 spec_pgArea.bits5 (fun HT_ HW_ => ?_)
    generalize wr.drew = w9 at HB hx170_0 hx170_1 hx171_0 hx171_1 hx172_0 hx172_1 hHeld ⊢
    refine pU 0 11 (bA 16 1) HT_ ?_; refine pU 1 12 (bA 16 3) HT_ ?_; refine pU 2 13 (bA 16 7) HT_ ?_; refine pU 4 15 (bA 16 23) HT_ ?_; refine pU 5 16 (bA 16 55) HT_ ?_; refine pU 6 17 (bA 16 119) HT_ ?_; refine pU 7 18 (bA 16 247) HT_ ?_; refine pU 9 20 (bA 16 759) HT_ ?_; refine pU 10 21 (bA 16 1783) HT_ ?_; refine pU 11 22 (bA 16 3831) HT_ ?_
    refine tU 3 14 (bA 16 3839) HT_ HW_ hHeld ?_ (hy := Or.inl ⟨by rfl, by rintro w' ⟨s0, s1, s2, s3, s4, s5⟩; go_simp; with_reducible rfl⟩)
    refine tU 8 19 (bA 16 4095) HT_ HW_ hHeld ?_ (hy := Or.inl ⟨by rfl, by rintro w' ⟨s0, s1, s2, s3, s4, s5⟩; go_simp; with_reducible rfl⟩)
    refine tU 12 23 (bA 16 8191) HT_ HW_ hHeld ?_ (hy := Or.inl ⟨by rfl, by rintro w' ⟨s0, s1, s2, s3, s4, s5⟩; go_simp; with_reducible rfl⟩)
    refine oU 13 24 (bA 16 16383) HT_ (fun K hK => ?_)
    refine goes_ Try.func106 kR rfl #[.agg #[.int .i64 ((rd_impl_Peg l0 0).f0), .int .i64 ((rd_impl_Peg l0 0).f1)], .agg #[.int .i64 ((rd_impl_Peg l0 (ji4)).f0), .int .i64 ((rd_impl_Peg l0 (ji4)).f1)], .agg #[.int .i64 ((rd_impl_Peg l0 x4_1).f0), .int .i64 ((rd_impl_Peg l0 x4_1).f1)]] (by rfl) rfl rfl (by (try simp only [mA, mC, mN]); first | done | (simp only [hji4]; rfl) | rfl | (simp only [lD, lT]; rfl)) ?_
    with_reducible refine (spec_pgTurn.calls ((rd_impl_Peg l0 0).f0) ((rd_impl_Peg l0 0).f1) ((rd_impl_Peg l0 (ji4)).f0) ((rd_impl_Peg l0 (ji4)).f1) ((rd_impl_Peg l0 x4_1).f0) ((rd_impl_Peg l0 x4_1).f1) t173 _ A8.out).mono ?_
    rintro e w10 ⟨rfl, hb⟩; refine ⟨_, rfl, ?_⟩; replace HB := tB HB hb; (try clear hb); (try clear hb2); (try clear hk); (try clear hi)
    refine hK.out _ _ ⟨(hC HB hw170_0 :), (hC HB hw170_1 :), (hC HB hw171_0 :), (hC HB hw171_1 :), (hC HB hw172_0 :), (hC HB hw172_1 :)⟩ (fun hHeld => ?_)
    clear hK K
    refine nU ?_
    refine pU 14 25 (bA 16 32767) HT_ ?_; refine pU 15 3 (bA 16 65535) HT_ ?_
    refine done_ (done_of HT_.out kR) ?_
    try go_wp2
    go_roundg k1
    case measure => have := HK1.out; omega
    case rel => exact ⟨(wrap64 (x3_1 + t173)), (wrap64 (x4_1 + 1)), eQ, eQ, H', ⟨by have := HK1.out; omega⟩, ⟨bQ⟩⟩
   ·rw [if_neg c2] at H; have c2b0 := decide_eq_false c2; clear c2; obtain rfl := Option.some.inj H; go_wp2
    go_ret
    exact ⟨wQ, bQ⟩

end Go.Proofs.Ytklhakfmegbobaa.X
