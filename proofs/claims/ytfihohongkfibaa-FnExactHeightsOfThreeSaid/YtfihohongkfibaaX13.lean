-- thin
-- short
-- compact
import Derived.Test.YtfihohongkfibaaXA
import Derived.Test.YtfihohongkfibaaX0
import Derived.Test.YtfihohongkfibaaX8
import Derived.Test.YtfihohongkfibaaX12
namespace Go.Proofs.Ytfihohongkfibaa.X
open Go.RowKit Go.Proofs.Ytfihohongkfibaa.XW Go.Proofs.YtfihohongkfibaaW.PrintWords Go.Proofs.YtfihohongkfibaaW.PrintLast Go.Proofs.YtfihohongkfibaaW.PrintMore
attribute [local go_sem] max2_int min2_int max_two min_two max_three min_three max_four min_four   -- for this text's walks alone
set_option linter.unusedVariables false
set_option linter.unusedSimpArgs false

def impl_sides.f (l0 : List (S_impl_Peg)) : Option (List Int) := if 1 < (l0.length : Int) then (if 2 < (l0.length : Int) then ((impl_Peg_less.f ((rd_impl_Peg l0 1).f0) ((rd_impl_Peg l0 1).f1) ((rd_impl_Peg l0 2).f0) ((rd_impl_Peg l0 2).f1)).bind fun bt276 => ((impl_Peg_square.f bt276.1 bt276.2).bind fun t278 => (if 0 < (l0.length : Int) then ((impl_Peg_less.f ((rd_impl_Peg l0 2).f0) ((rd_impl_Peg l0 2).f1) ((rd_impl_Peg l0 0).f0) ((rd_impl_Peg l0 0).f1)).bind fun bt281 => ((impl_Peg_square.f bt281.1 bt281.2).bind fun t283 => ((impl_Peg_less.f ((rd_impl_Peg l0 0).f0) ((rd_impl_Peg l0 0).f1) ((rd_impl_Peg l0 1).f0) ((rd_impl_Peg l0 1).f1)).bind fun bt286 => ((impl_Peg_square.f bt286.1 bt286.2).bind fun t288 => (some (([t278, t283, t288] : List Int))))))) else (none)))) else (none)) else (none)
def impl_sides.T1 : Bool × List (List Nat × List Nat) := (true, [([], []), ([0], [0]), ([1], [1]), ([], []), ([3], [3]), ([4], [4]), ([2, 5], [2, 5]), ([6, 6], [6]), ([], []), ([8], [8]), ([9], [9]), ([], []), ([11], [11]), ([12], [12]), ([10, 13, 7], [10, 13]), ([14, 14], [14]), ([], []), ([16], [16]), ([17], [17]), ([], []), ([19], [19]), ([20], [20]), ([18, 21, 15], [18, 21]), ([22, 22], [22]), ([7, 15, 23], [7, 15, 23]), ([24, 23, 0, 1, 2, 3, 4, 5, 6, 7, 8, 9, 10, 11, 12, 13, 14, 15, 16, 17, 18, 19, 20, 21, 22, 23, 24], [24])])
def impl_sides.B1 : List Nat := [0, 1, 3, 0, 8, 24, 63, 127, 0, 256, 768, 0, 2048, 6144, 16383, 32767, 0, 65536, 196608, 0, 524288, 1572864, 4194303, 8388607, 16777215, 33554431]
theorem impl_sides.tab1 : rtab .any (opsOf Try.f73 1) = impl_sides.T1 := by kernel_rfl
theorem impl_sides.bits1 : waitsOk impl_sides.T1.2 impl_sides.B1 = true := by kernel_rfl
set_option maxHeartbeats 8000000 in
set_option maxRecDepth 100000 in
theorem impl_sides.calls (A0 : Option Addr) (c0 : Nat) (l0 : List (S_impl_Peg)) (r : List Int) (w : World) (hr0 : Kd.C kd_impl_Peg w A0 l0.length l0) (hc0 : l0.length ≤ c0) (h : impl_sides.f l0 = some r) :
  Calls Try.prog 73 #[.slice A0 l0.length c0] w fun e w' => ∃ v0_ : Value, e = .returned (v0_) ∧ Kd.R (Kd.int .i64) 3 w' w.heap.size (fun _ => True) v0_ r ∧ Below w.heap.size w w' := by
 have hu50 := Try.underlying50; have HR0 := aM hr0; have HC0 := aM hc0; clear hr0 hc0; have HB := aM (Below.refl w.heap.size w)
 unfold impl_sides.f at h; have H := h; clear h
 replace H := iN H; obtain ⟨c2, H⟩ := H; have c2b0 := dE c2; have c2b1 : decide (1 < l0.length) = true := dE (by omega)
 clear c2; replace H := iN H; obtain ⟨c3, H⟩ := H; have c3b0 := dE c3; have c3b1 : decide (2 < l0.length) = true := dE (by omega)
 clear c3; replace H := bS H; obtain ⟨⟨t276, t277⟩, A4, H⟩ := H; replace H := bS H; obtain ⟨t278, A5, H⟩ := H; replace H := iN H; obtain ⟨c6, H⟩ := H; have c6b0 := dE c6; have c6b1 : decide (0 < l0.length) = true := dE (by omega)
 clear c6; replace H := bS H; obtain ⟨⟨t281, t282⟩, A7, H⟩ := H; replace H := bS H; obtain ⟨t283, A8, H⟩ := H; replace H := bS H; obtain ⟨⟨t286, t287⟩, A9, H⟩ := H; replace H := bS H; obtain ⟨t288, A10, H⟩ := H; obtain ⟨y289, hy289⟩ : ∃ y_ : List Int, y_ = (([t278, t283, t288] : List Int)) := ⟨_, rfl⟩; rw [← hy289] at H; have Ny289 := aM hy289; clear hy289; obtain rfl := Option.some.inj H
 go_enter Try.func73, Try.ntmps73
 try go_wp2
 replace HB := aM (pD HB.out); have p274 : 0 ≤ (1 : Int) := (by omega)
 have q274 : 1 < (l0.length : Int) := dT aQ; obtain ⟨ad274, e274, hx274_0, hx274_1⟩ := at_impl_Peg HR0.out 1 p274 q274; have hw274_1 := hx274_1
 (try rw [show ((1 : Int)).toNat = 1 from rfl] at hw274_1)
 (try rw [show 1 * 2 = 2 from rfl] at hw274_1)
 (try simp only [Nat.reduceMul, Nat.reduceEqDiff, Go.Addr.add, ↓reduceIte] at hw274_1)
 have hw274_0 := hx274_0
 (try rw [show ((1 : Int)).toNat = 1 from rfl] at hw274_0)
 (try rw [show 1 * 2 = 2 from rfl] at hw274_0)
 (try simp only [Nat.reduceMul, Nat.reduceEqDiff, Go.Addr.add, ↓reduceIte] at hw274_0)
 cases e274
 (try simp only [show (1 : Int).toNat = 1 from rfl, Nat.reduceMul, Nat.reduceEqDiff, Go.Addr.add, ↓reduceIte] at hx274_0)
 (try simp only [show (1 : Int).toNat = 1 from rfl, Nat.reduceMul, Nat.reduceEqDiff, Go.Addr.add, ↓reduceIte] at hx274_1)
 have qi274 : (1 < l0.length) = True := eq_true (by omega)
 (try rw [show ((1 : Int)).toNat = 1 from rfl] at hx274_0)
 (try rw [show 1 * 2 = 2 from rfl] at hx274_0)
 (try rw [show ((1 : Int)).toNat = 1 from rfl] at hx274_1)
 (try rw [show 1 * 2 = 2 from rfl] at hx274_1)
 replace hx274_0 := hC HB hx274_0; replace hx274_1 := hC HB hx274_1; replace p274 := eq_true p274; replace q274 := eq_true q274; have p275 : 0 ≤ (2 : Int) := (by omega)
 have q275 : 2 < (l0.length : Int) := dT aQ; obtain ⟨ad275, e275, hx275_0, hx275_1⟩ := at_impl_Peg HR0.out 2 p275 q275; have hw275_1 := hx275_1
 (try rw [show ((2 : Int)).toNat = 2 from rfl] at hw275_1)
 (try rw [show 2 * 2 = 4 from rfl] at hw275_1)
 (try simp only [Nat.reduceMul, Nat.reduceEqDiff, Go.Addr.add, ↓reduceIte] at hw275_1)
 have hw275_0 := hx275_0
 (try rw [show ((2 : Int)).toNat = 2 from rfl] at hw275_0)
 (try rw [show 2 * 2 = 4 from rfl] at hw275_0)
 (try simp only [Nat.reduceMul, Nat.reduceEqDiff, Go.Addr.add, ↓reduceIte] at hw275_0)
 obtain rfl : ad274 = ad275 := (by injection e275)
 (try simp only [show (2 : Int).toNat = 2 from rfl, Nat.reduceMul, Nat.reduceEqDiff, Go.Addr.add, ↓reduceIte] at hx275_0)
 (try simp only [show (2 : Int).toNat = 2 from rfl, Nat.reduceMul, Nat.reduceEqDiff, Go.Addr.add, ↓reduceIte] at hx275_1)
 have qi275 : (2 < l0.length) = True := eq_true (by omega)
 (try rw [show ((2 : Int)).toNat = 2 from rfl] at hx275_0)
 (try rw [show 2 * 2 = 4 from rfl] at hx275_0)
 (try rw [show ((2 : Int)).toNat = 2 from rfl] at hx275_1)
 (try rw [show 2 * 2 = 4 from rfl] at hx275_1)
 replace hx275_0 := hC HB hx275_0; replace hx275_1 := hC HB hx275_1; replace p275 := eq_true p275; replace q275 := eq_true q275; have p279 : 0 ≤ (2 : Int) := (by omega)
 have q279 : 2 < (l0.length : Int) := dT aQ; obtain ⟨ad279, e279, hx279_0, hx279_1⟩ := at_impl_Peg HR0.out 2 p279 q279; have hw279_1 := hx279_1
 (try rw [show ((2 : Int)).toNat = 2 from rfl] at hw279_1)
 (try rw [show 2 * 2 = 4 from rfl] at hw279_1)
 (try simp only [Nat.reduceMul, Nat.reduceEqDiff, Go.Addr.add, ↓reduceIte] at hw279_1)
 have hw279_0 := hx279_0
 (try rw [show ((2 : Int)).toNat = 2 from rfl] at hw279_0)
 (try rw [show 2 * 2 = 4 from rfl] at hw279_0)
 (try simp only [Nat.reduceMul, Nat.reduceEqDiff, Go.Addr.add, ↓reduceIte] at hw279_0)
 obtain rfl : ad274 = ad279 := (by injection e279)
 (try simp only [show (2 : Int).toNat = 2 from rfl, Nat.reduceMul, Nat.reduceEqDiff, Go.Addr.add, ↓reduceIte] at hx279_0)
 (try simp only [show (2 : Int).toNat = 2 from rfl, Nat.reduceMul, Nat.reduceEqDiff, Go.Addr.add, ↓reduceIte] at hx279_1)
 have qi279 : (2 < l0.length) = True := eq_true (by omega)
 (try rw [show ((2 : Int)).toNat = 2 from rfl] at hx279_0)
 (try rw [show 2 * 2 = 4 from rfl] at hx279_0)
 (try rw [show ((2 : Int)).toNat = 2 from rfl] at hx279_1)
 (try rw [show 2 * 2 = 4 from rfl] at hx279_1)
 replace hx279_0 := hC HB hx279_0; replace hx279_1 := hC HB hx279_1; replace p279 := eq_true p279; replace q279 := eq_true q279; have p280 : 0 ≤ (0 : Int) := (by omega)
 have q280 : 0 < (l0.length : Int) := dT aQ; obtain ⟨ad280, e280, hx280_0, hx280_1⟩ := at_impl_Peg HR0.out 0 p280 q280; have hw280_1 := hx280_1
 (try rw [show ((0 : Int)).toNat = 0 from rfl] at hw280_1)
 (try rw [show 0 * 2 = 0 from rfl] at hw280_1)
 (try rw [Addr.add_zero'] at hw280_1)
 have hw280_0 := hx280_0
 (try rw [show ((0 : Int)).toNat = 0 from rfl] at hw280_0)
 (try rw [show 0 * 2 = 0 from rfl] at hw280_0)
 (try rw [Addr.add_zero'] at hw280_0)
 obtain rfl : ad274 = ad280 := (by injection e280)
 have qi280 : (0 < l0.length) = True := eq_true (by omega)
 (try rw [show ((0 : Int)).toNat = 0 from rfl] at hx280_0)
 (try rw [show 0 * 2 = 0 from rfl] at hx280_0)
 (try rw [Addr.add_zero'] at hx280_0)
 (try rw [show ((0 : Int)).toNat = 0 from rfl] at hx280_1)
 (try rw [show 0 * 2 = 0 from rfl] at hx280_1)
 (try rw [Addr.add_zero'] at hx280_1)
 replace hx280_0 := hC HB hx280_0; replace hx280_1 := hC HB hx280_1; replace p280 := eq_true p280; replace q280 := eq_true q280; have p284 : 0 ≤ (0 : Int) := (by omega)
 have q284 : 0 < (l0.length : Int) := dT aQ; obtain ⟨ad284, e284, hx284_0, hx284_1⟩ := at_impl_Peg HR0.out 0 p284 q284; have hw284_1 := hx284_1
 (try rw [show ((0 : Int)).toNat = 0 from rfl] at hw284_1)
 (try rw [show 0 * 2 = 0 from rfl] at hw284_1)
 (try rw [Addr.add_zero'] at hw284_1)
 have hw284_0 := hx284_0
 (try rw [show ((0 : Int)).toNat = 0 from rfl] at hw284_0)
 (try rw [show 0 * 2 = 0 from rfl] at hw284_0)
 (try rw [Addr.add_zero'] at hw284_0)
 obtain rfl : ad274 = ad284 := (by injection e284)
 have qi284 : (0 < l0.length) = True := eq_true (by omega)
 (try rw [show ((0 : Int)).toNat = 0 from rfl] at hx284_0)
 (try rw [show 0 * 2 = 0 from rfl] at hx284_0)
 (try rw [Addr.add_zero'] at hx284_0)
 (try rw [show ((0 : Int)).toNat = 0 from rfl] at hx284_1)
 (try rw [show 0 * 2 = 0 from rfl] at hx284_1)
 (try rw [Addr.add_zero'] at hx284_1)
 replace hx284_0 := hC HB hx284_0; replace hx284_1 := hC HB hx284_1; replace p284 := eq_true p284; replace q284 := eq_true q284; have p285 : 0 ≤ (1 : Int) := (by omega)
 have q285 : 1 < (l0.length : Int) := dT aQ; obtain ⟨ad285, e285, hx285_0, hx285_1⟩ := at_impl_Peg HR0.out 1 p285 q285; have hw285_1 := hx285_1
 (try rw [show ((1 : Int)).toNat = 1 from rfl] at hw285_1)
 (try rw [show 1 * 2 = 2 from rfl] at hw285_1)
 (try simp only [Nat.reduceMul, Nat.reduceEqDiff, Go.Addr.add, ↓reduceIte] at hw285_1)
 have hw285_0 := hx285_0
 (try rw [show ((1 : Int)).toNat = 1 from rfl] at hw285_0)
 (try rw [show 1 * 2 = 2 from rfl] at hw285_0)
 (try simp only [Nat.reduceMul, Nat.reduceEqDiff, Go.Addr.add, ↓reduceIte] at hw285_0)
 obtain rfl : ad274 = ad285 := (by injection e285)
 (try simp only [show (1 : Int).toNat = 1 from rfl, Nat.reduceMul, Nat.reduceEqDiff, Go.Addr.add, ↓reduceIte] at hx285_0)
 (try simp only [show (1 : Int).toNat = 1 from rfl, Nat.reduceMul, Nat.reduceEqDiff, Go.Addr.add, ↓reduceIte] at hx285_1)
 have qi285 : (1 < l0.length) = True := eq_true (by omega)
 (try rw [show ((1 : Int)).toNat = 1 from rfl] at hx285_0)
 (try rw [show 1 * 2 = 2 from rfl] at hx285_0)
 (try rw [show ((1 : Int)).toNat = 1 from rfl] at hx285_1)
 (try rw [show 1 * 2 = 2 from rfl] at hx285_1)
 replace hx285_0 := hC HB hx285_0; replace hx285_1 := hC HB hx285_1; replace p285 := eq_true p285; replace q285 := eq_true q285
 refine start_ (n := 26) (S := fun w' => w'.cell? ⟨ad274.block, ad274.off + 2, none⟩ = some (.int .i64 ((rd_impl_Peg l0 1).f0)) ∧ w'.cell? ⟨ad274.block, ad274.off + 2 + 1, none⟩ = some (.int .i64 ((rd_impl_Peg l0 1).f1)) ∧ w'.cell? ⟨ad274.block, ad274.off + 4, none⟩ = some (.int .i64 ((rd_impl_Peg l0 2).f0)) ∧ w'.cell? ⟨ad274.block, ad274.off + 4 + 1, none⟩ = some (.int .i64 ((rd_impl_Peg l0 2).f1)) ∧ w'.cell? ⟨ad274.block, ad274.off + 4, none⟩ = some (.int .i64 ((rd_impl_Peg l0 2).f0)) ∧ w'.cell? ⟨ad274.block, ad274.off + 4 + 1, none⟩ = some (.int .i64 ((rd_impl_Peg l0 2).f1)) ∧ w'.cell? ad274 = some (.int .i64 ((rd_impl_Peg l0 0).f0)) ∧ w'.cell? ⟨ad274.block, ad274.off + 1, none⟩ = some (.int .i64 ((rd_impl_Peg l0 0).f1)) ∧ w'.cell? ad274 = some (.int .i64 ((rd_impl_Peg l0 0).f0)) ∧ w'.cell? ⟨ad274.block, ad274.off + 1, none⟩ = some (.int .i64 ((rd_impl_Peg l0 0).f1)) ∧ w'.cell? ⟨ad274.block, ad274.off + 2, none⟩ = some (.int .i64 ((rd_impl_Peg l0 1).f0)) ∧ w'.cell? ⟨ad274.block, ad274.off + 2 + 1, none⟩ = some (.int .i64 ((rd_impl_Peg l0 1).f1))) (ds := []) (bA 26 0) kR rfl kR ⟨(hC HB hw274_0 :), (hC HB hw274_1 :), (hC HB hw275_0 :), (hC HB hw275_1 :), (hC HB hw279_0 :), (hC HB hw279_1 :), (hC HB hw280_0 :), (hC HB hw280_1 :), (hC HB hw284_0 :), (hC HB hw284_1 :), (hC HB hw285_0 :), (hC HB hw285_1 :)⟩ (fun hHeld => ?_); refine with_tabW impl_sides.tab1 impl_sides.bits1 (fun HT_ HW_ => ?_)
 generalize w.drew = w11 at HB hx274_0 hx274_1 hx275_0 hx275_1 hx279_0 hx279_1 hx280_0 hx280_1 hx284_0 hx284_1 hx285_0 hx285_1 hHeld ⊢
 refine pU 0 3 (bA 26 1) HT_ ?_; refine pU 1 4 (bA 26 3) HT_ ?_; refine pU 3 6 (bA 26 11) HT_ ?_; refine pU 4 7 (bA 26 27) HT_ ?_; refine pU 8 11 (bA 26 283) HT_ ?_; refine pU 9 12 (bA 26 795) HT_ ?_; refine pU 11 14 (bA 26 2843) HT_ ?_; refine pU 12 15 (bA 26 6939) HT_ ?_; refine pU 16 19 (bA 26 72475) HT_ ?_; refine pU 17 20 (bA 26 203547) HT_ ?_; refine pU 19 22 (bA 26 727835) HT_ ?_; refine pU 20 23 (bA 26 1776411) HT_ ?_
 refine tU 2 5 (bA 26 1776415) HT_ HW_ hHeld ?_ (hy := Or.inl ⟨by rfl, by rintro w' ⟨s0, s1, s2, s3, s4, s5, s6, s7, s8, s9, s10, s11⟩; go_simp; with_reducible rfl⟩)
 refine tU 5 8 (bA 26 1776447) HT_ HW_ hHeld ?_ (hy := Or.inl ⟨by rfl, by rintro w' ⟨s0, s1, s2, s3, s4, s5, s6, s7, s8, s9, s10, s11⟩; go_simp; with_reducible rfl⟩)
 refine tU 10 13 (bA 26 1777471) HT_ HW_ hHeld ?_ (hy := Or.inl ⟨by rfl, by rintro w' ⟨s0, s1, s2, s3, s4, s5, s6, s7, s8, s9, s10, s11⟩; go_simp; with_reducible rfl⟩)
 refine tU 13 16 (bA 26 1785663) HT_ HW_ hHeld ?_ (hy := Or.inl ⟨by rfl, by rintro w' ⟨s0, s1, s2, s3, s4, s5, s6, s7, s8, s9, s10, s11⟩; go_simp; with_reducible rfl⟩)
 refine tU 18 21 (bA 26 2047807) HT_ HW_ hHeld ?_ (hy := Or.inl ⟨by rfl, by rintro w' ⟨s0, s1, s2, s3, s4, s5, s6, s7, s8, s9, s10, s11⟩; go_simp; with_reducible rfl⟩)
 refine tU 21 24 (bA 26 4144959) HT_ HW_ hHeld ?_ (hy := Or.inl ⟨by rfl, by rintro w' ⟨s0, s1, s2, s3, s4, s5, s6, s7, s8, s9, s10, s11⟩; go_simp; with_reducible rfl⟩)
 refine oU 6 9 (bA 26 4145023) HT_ (fun K hK => ?_)
 refine goes_ Try.func65 kR rfl #[.agg #[.int .i64 ((rd_impl_Peg l0 1).f0), .int .i64 ((rd_impl_Peg l0 1).f1)], .agg #[.int .i64 ((rd_impl_Peg l0 2).f0), .int .i64 ((rd_impl_Peg l0 2).f1)]] (by rfl) rfl rfl sQ ?_
 with_reducible refine (impl_Peg_less.calls ((rd_impl_Peg l0 1).f0) ((rd_impl_Peg l0 1).f1) ((rd_impl_Peg l0 2).f0) ((rd_impl_Peg l0 2).f1) t276 t277 _ A4.out).mono ?_
 rintro e w12 ⟨rfl, hb⟩; refine ⟨_, rfl, ?_⟩; replace HB := tB HB hb; (try clear hb); (try clear hb2); (try clear hk); (try clear hi)
 refine hK.out _ _ ⟨(hC HB hw274_0 :), (hC HB hw274_1 :), (hC HB hw275_0 :), (hC HB hw275_1 :), (hC HB hw279_0 :), (hC HB hw279_1 :), (hC HB hw280_0 :), (hC HB hw280_1 :), (hC HB hw284_0 :), (hC HB hw284_1 :), (hC HB hw285_0 :), (hC HB hw285_1 :)⟩ (fun hHeld => ?_)
 clear hK K
 refine nU ?_
 refine oU 7 10 (bA 26 4145151) HT_ (fun K hK => ?_)
 refine goes_ Try.func107 kR rfl #[.agg #[.int .i64 t276, .int .i64 t277]] (by rfl) rfl rfl sQ ?_
 with_reducible refine (impl_Peg_square.calls t276 t277 t278 _ A5.out).mono ?_
 rintro e w13 ⟨rfl, hb⟩; refine ⟨_, rfl, ?_⟩; replace HB := tB HB hb; (try clear hb); (try clear hb2); (try clear hk); (try clear hi)
 refine hK.out _ _ ⟨(hC HB hw274_0 :), (hC HB hw274_1 :), (hC HB hw275_0 :), (hC HB hw275_1 :), (hC HB hw279_0 :), (hC HB hw279_1 :), (hC HB hw280_0 :), (hC HB hw280_1 :), (hC HB hw284_0 :), (hC HB hw284_1 :), (hC HB hw285_0 :), (hC HB hw285_1 :)⟩ (fun hHeld => ?_)
 clear hK K
 refine nU ?_
 refine oU 14 17 (bA 26 4161535) HT_ (fun K hK => ?_)
 refine goes_ Try.func65 kR rfl #[.agg #[.int .i64 ((rd_impl_Peg l0 2).f0), .int .i64 ((rd_impl_Peg l0 2).f1)], .agg #[.int .i64 ((rd_impl_Peg l0 0).f0), .int .i64 ((rd_impl_Peg l0 0).f1)]] (by rfl) rfl rfl sQ ?_
 with_reducible refine (impl_Peg_less.calls ((rd_impl_Peg l0 2).f0) ((rd_impl_Peg l0 2).f1) ((rd_impl_Peg l0 0).f0) ((rd_impl_Peg l0 0).f1) t281 t282 _ A7.out).mono ?_
 rintro e w14 ⟨rfl, hb⟩; refine ⟨_, rfl, ?_⟩; replace HB := tB HB hb; (try clear hb); (try clear hb2); (try clear hk); (try clear hi)
 refine hK.out _ _ ⟨(hC HB hw274_0 :), (hC HB hw274_1 :), (hC HB hw275_0 :), (hC HB hw275_1 :), (hC HB hw279_0 :), (hC HB hw279_1 :), (hC HB hw280_0 :), (hC HB hw280_1 :), (hC HB hw284_0 :), (hC HB hw284_1 :), (hC HB hw285_0 :), (hC HB hw285_1 :)⟩ (fun hHeld => ?_)
 clear hK K
 refine nU ?_
 refine oU 15 18 (bA 26 4194303) HT_ (fun K hK => ?_)
 refine goes_ Try.func107 kR rfl #[.agg #[.int .i64 t281, .int .i64 t282]] (by rfl) rfl rfl sQ ?_
 with_reducible refine (impl_Peg_square.calls t281 t282 t283 _ A8.out).mono ?_
 rintro e w15 ⟨rfl, hb⟩; refine ⟨_, rfl, ?_⟩; replace HB := tB HB hb; (try clear hb); (try clear hb2); (try clear hk); (try clear hi)
 refine hK.out _ _ ⟨(hC HB hw274_0 :), (hC HB hw274_1 :), (hC HB hw275_0 :), (hC HB hw275_1 :), (hC HB hw279_0 :), (hC HB hw279_1 :), (hC HB hw280_0 :), (hC HB hw280_1 :), (hC HB hw284_0 :), (hC HB hw284_1 :), (hC HB hw285_0 :), (hC HB hw285_1 :)⟩ (fun hHeld => ?_)
 clear hK K
 refine nU ?_
 refine oU 22 25 (bA 26 8388607) HT_ (fun K hK => ?_)
 refine goes_ Try.func65 kR rfl #[.agg #[.int .i64 ((rd_impl_Peg l0 0).f0), .int .i64 ((rd_impl_Peg l0 0).f1)], .agg #[.int .i64 ((rd_impl_Peg l0 1).f0), .int .i64 ((rd_impl_Peg l0 1).f1)]] (by rfl) rfl rfl sQ ?_
 with_reducible refine (impl_Peg_less.calls ((rd_impl_Peg l0 0).f0) ((rd_impl_Peg l0 0).f1) ((rd_impl_Peg l0 1).f0) ((rd_impl_Peg l0 1).f1) t286 t287 _ A9.out).mono ?_
 rintro e w16 ⟨rfl, hb⟩; refine ⟨_, rfl, ?_⟩; replace HB := tB HB hb; (try clear hb); (try clear hb2); (try clear hk); (try clear hi)
 refine hK.out _ _ ⟨(hC HB hw274_0 :), (hC HB hw274_1 :), (hC HB hw275_0 :), (hC HB hw275_1 :), (hC HB hw279_0 :), (hC HB hw279_1 :), (hC HB hw280_0 :), (hC HB hw280_1 :), (hC HB hw284_0 :), (hC HB hw284_1 :), (hC HB hw285_0 :), (hC HB hw285_1 :)⟩ (fun hHeld => ?_)
 clear hK K
 refine nU ?_
 refine oU 23 26 (bA 26 16777215) HT_ (fun K hK => ?_)
 refine goes_ Try.func107 kR rfl #[.agg #[.int .i64 t286, .int .i64 t287]] (by rfl) rfl rfl sQ ?_
 with_reducible refine (impl_Peg_square.calls t286 t287 t288 _ A10.out).mono ?_
 rintro e w17 ⟨rfl, hb⟩; refine ⟨_, rfl, ?_⟩; replace HB := tB HB hb; (try clear hb); (try clear hb2); (try clear hk); (try clear hi)
 refine hK.out _ _ ⟨(hC HB hw274_0 :), (hC HB hw274_1 :), (hC HB hw275_0 :), (hC HB hw275_1 :), (hC HB hw279_0 :), (hC HB hw279_1 :), (hC HB hw280_0 :), (hC HB hw280_1 :), (hC HB hw284_0 :), (hC HB hw284_1 :), (hC HB hw285_0 :), (hC HB hw285_1 :)⟩ (fun hHeld => ?_)
 clear hK K
 refine nU ?_
 refine oU 24 27 (bA 26 33554431) HT_ (fun K hK => ?_)
 refine Kd.R_lit_step (Kd.int .i64) _ 3 ?hg (N := 27) ?hd (xs := ([t278, t283, t288] : List Int)) (inner := [.int .i64 t278, .int .i64 t283, .int .i64 t288]) (ok := fun _ => True) (okp := fun _ => True) ?hr ?hp (fun _ hk => hk) trivial (Below.refl _ _) (Nat.le_refl _) (by simp) ?_; (case hd => rfl); (case hg => rfl); (case hr => first | (go_simp; done) | (go_simp; rfl)); (case hp => exact (Reps.one (show Kd.M (Kd.int .i64) _ _ _ t278 [.int .i64 t278] from rfl) (Reps.one (show Kd.M (Kd.int .i64) _ _ _ t283 [.int .i64 t283] from rfl) (Reps.one (show Kd.M (Kd.int .i64) _ _ _ t288 [.int .i64 t288] from rfl) (Reps.none _ _)))))
 intro v290 w18 ho19 hb hg_ hnew_
 clear hg_ hnew_
 (first | rw [← Ny289.out] at ho19 | (simp only [Int.reduceToNat] at ho19; rw [← Ny289.out] at ho19))
 have HO291 := aM (Kd.R_lower ho19 (pZ bQ)); replace HB := tB HB hb; clear hb ho19
 refine hK.out _ _ ⟨(hC HB hw274_0 :), (hC HB hw274_1 :), (hC HB hw275_0 :), (hC HB hw275_1 :), (hC HB hw279_0 :), (hC HB hw279_1 :), (hC HB hw280_0 :), (hC HB hw280_1 :), (hC HB hw284_0 :), (hC HB hw284_1 :), (hC HB hw285_0 :), (hC HB hw285_1 :)⟩ (fun hHeld => ?_)
 clear hK K
 refine nU ?_
 refine pU 25 2 (bA 26 67108863) HT_ ?_
 refine done_ (done_of HT_.out kR) ?_
 try go_wp2
 go_ret
 exact ⟨_, by first | rfl | (simp [errW_none, errW_some] <;> rfl) | (simp [*, errW_none, errW_some] <;> rfl), by (with_reducible repeat (first | apply rA | apply rN | apply rD)); exact HO291.out, bQ⟩
def impl_size.f (a0 : Int) : Option (Int) := some (mx a0 (wrap64 (-a0)))
set_option maxHeartbeats 8000000 in
set_option maxRecDepth 100000 in
theorem impl_size.calls (a0 : Int) (r : Int) (w : World) (h : impl_size.f a0 = some r) :
  Calls Try.prog 112 #[.int .i64 a0] w fun e w' => e = .returned (.int .i64 r) ∧ Below w.heap.size w w' := by
 have HB := aM (Below.refl w.heap.size w)
 unfold impl_size.f at h; have H := h; clear h
 obtain ⟨ji2, hji2⟩ : ∃ j_ : Int, (mx a0 (wrap64 (-a0))) = j_ := ⟨_, rfl⟩
 (first | rw [hji2] at H | simp only [hji2] at H)
 have hji2_ : (if a0 < (wrap64 (-a0)) then (wrap64 (-a0)) else a0) = ji2 := hji2; obtain rfl := Option.some.inj H
 go_enter Try.func112, Try.ntmps112
 go_wp2
 go_ret
 exact ⟨by first | rfl | (simp [errW_none, errW_some] <;> rfl) | (simp only [← hji2]; first | rfl | (simp [errW_none, errW_some] <;> rfl)) | (simp [*, errW_none, errW_some] <;> rfl), bQ⟩

def impl_divisor.l0 : Nat → Int → Int → Option (Int)
 | 0, _, _ => none
 | k + 1, x0, x1 => if x1 = 0 then ((impl_size.f x0).bind fun t292 => (some t292)) else (impl_divisor.l0 k x1 (Int.tmod x0 x1))
def impl_divisor.f (k : Nat) (a0 : Int) (a1 : Int) : Option (Int) := impl_divisor.l0 k a0 a1
theorem impl_divisor.mono_l : ∀ k, (∀ y0 y1, LeO (impl_divisor.l0 k y0 y1) (impl_divisor.l0 (k + 1) y0 y1))
 | 0 => fun _ _ r h => by simp [impl_divisor.l0] at h
 | k + 1 => by
  have ih0 := impl_divisor.mono_l k
  ·intro y0 y1
   unfold impl_divisor.l0
   repeat' first
   | (with_reducible exact ih0 _ _)
   | (with_reducible exact LeO.refl _)
   | (with_reducible exact LeO.none _)
   | (with_reducible refine LeO.ite ?_ ?_)
   | (with_reducible refine LeO.bind ?_ (fun _ => ?_))
   | exact ih0 _ _
   | exact LeO.none _
   | refine LeO.ite ?_ ?_
   | refine LeO.bind ?_ (fun _ => ?_)
theorem impl_divisor.mono : ∀ a0 a1 k, LeO (impl_divisor.f k a0 a1) (impl_divisor.f (k + 1) a0 a1) := by
 intro a0 a1 k
 have ih0 := impl_divisor.mono_l k
 unfold impl_divisor.f
 repeat' first | (with_reducible exact ih0 _ _) | (with_reducible exact LeO.refl _) | (with_reducible exact LeO.none _) | (with_reducible refine LeO.ite ?_ ?_) | (with_reducible refine LeO.bind ?_ (fun _ => ?_)) | exact ih0 _ _ | exact LeO.none _ | refine LeO.ite ?_ ?_ | refine LeO.bind ?_ (fun _ => ?_)
set_option maxHeartbeats 8000000 in
set_option maxRecDepth 100000 in
theorem impl_divisor.calls (k : Nat) (a0 : Int) (a1 : Int) (r : Int) (w : World) (h : impl_divisor.f k a0 a1 = some r) :
  Calls Try.prog 74 #[.int .i64 a0, .int .i64 a1] w fun e w' => e = .returned (.int .i64 r) ∧ Below w.heap.size w w' := by
 have HB := aM (Below.refl w.heap.size w)
 unfold impl_divisor.f at h; have H := h; clear h
 have H' := aM H; clear H
 go_enter Try.func74, Try.ntmps74
 go_wp2
 repeat (go_quiet (fail); try go_wp2)
 go_loopg [0, 1] k (fun kq v0 v1 w' => ∃ (x0_1 : Int) (x1_1 : Int), v0 = .int .i64 x0_1 ∧ v1 = .int .i64 x1_1 ∧ Aside0 (impl_divisor.l0 kq x0_1 x1_1 = some r) ∧ Aside0 (kq ≤ k) ∧ Aside0 (Below w.heap.size w w'))
 case atStart => exact ⟨(a0), (a1), eQ, eQ, H', ⟨Nat.le_refl _⟩, ⟨bQ⟩⟩
 case round =>
  clear H'; obtain ⟨x0_1, x1_1, rfl, rfl, HA, HK1, HB⟩ := hrel
  cases gk with
  | zero => exact absurd HA.out (by simp [impl_divisor.l0])
  | succ k1 =>
   have H := HA.out; clear HA
   simp only [impl_divisor.l0] at H
   by_cases c3 : x1_1 = 0
   ·rw [if_pos c3] at H; have c3b0 : (x1_1 == 0) = true := beq_iff_eq.mpr c3; have c3b1 : (x1_1 != 0) = false := bne_eq_false_iff_eq.mpr c3; clear c3; replace H := bS H; obtain ⟨t292, A4, H⟩ := H; obtain rfl := Option.some.inj H
    go_wp2_with (first | (go_at_call 112; (with_reducible refine (impl_size.calls x0_1 t292 _ A4.out).mono ?_); rintro e w5 ⟨rfl, hb⟩; replace HB := tB HB hb; (try clear hb); (try clear hb2); (try clear hk); (try clear hi)))
    repeat (go_quiet (first | (go_at_call 112; (with_reducible refine (impl_size.calls x0_1 t292 _ A4.out).mono ?_); rintro e w5 ⟨rfl, hb⟩; have n0_ := tB HB hb; clear HB; have HB := n0_; clear n0_; (try clear hb); (try clear hb2); (try clear hk); (try clear hi))); try go_wp2_with (first | (go_at_call 112; (with_reducible refine (impl_size.calls x0_1 t292 _ A4.out).mono ?_); rintro e w5 ⟨rfl, hb⟩; have n0_ := tB HB hb; clear HB; have HB := n0_; clear n0_; (try clear hb); (try clear hb2); (try clear hk); (try clear hi))))
    go_ret
    exact ⟨wQ, bQ⟩
   ·rw [if_neg c3] at H; have c3b0 : (x1_1 == 0) = false := beq_eq_false_iff_ne.mpr c3; have c3b1 : (x1_1 != 0) = true := bne_iff_ne.mpr c3; have H' := aM H; clear H; go_wp2
    repeat (go_quiet (fail); try go_wp2)
    go_roundg k1
    case measure => have := HK1.out; omega
    case rel => exact ⟨(x1_1), (Int.tmod x0_1 x1_1), eQ, eQ, H', ⟨by have := HK1.out; omega⟩, ⟨bQ⟩⟩

end Go.Proofs.Ytfihohongkfibaa.X
