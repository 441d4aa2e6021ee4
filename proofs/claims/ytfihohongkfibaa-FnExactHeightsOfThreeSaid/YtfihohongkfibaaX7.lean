-- thin
-- short
-- compact
import Derived.Test.YtfihohongkfibaaXA
import Derived.Test.YtfihohongkfibaaX0
import Derived.Test.YtfihohongkfibaaX6
namespace Go.Proofs.Ytfihohongkfibaa.X
open Go.RowKit Go.Proofs.Ytfihohongkfibaa.XW Go.Proofs.YtfihohongkfibaaW.PrintWords Go.Proofs.YtfihohongkfibaaW.PrintLast Go.Proofs.YtfihohongkfibaaW.PrintMore
attribute [local go_sem] max2_int min2_int max_two min_two max_three min_three max_four min_four   -- for this text's walks alone
set_option linter.unusedVariables false
set_option linter.unusedSimpArgs false

def spec_trSides.f (l0 : List (S_impl_Peg)) : Option (List Int) := if 1 < (l0.length : Int) then (if 2 < (l0.length : Int) then ((spec_trSquare.f ((rd_impl_Peg l0 1).f0) ((rd_impl_Peg l0 1).f1) ((rd_impl_Peg l0 2).f0) ((rd_impl_Peg l0 2).f1)).bind fun t172 => (if 0 < (l0.length : Int) then ((spec_trSquare.f ((rd_impl_Peg l0 2).f0) ((rd_impl_Peg l0 2).f1) ((rd_impl_Peg l0 0).f0) ((rd_impl_Peg l0 0).f1)).bind fun t175 => ((spec_trSquare.f ((rd_impl_Peg l0 0).f0) ((rd_impl_Peg l0 0).f1) ((rd_impl_Peg l0 1).f0) ((rd_impl_Peg l0 1).f1)).bind fun t178 => (some (([t172, t175, t178] : List Int))))) else (none))) else (none)) else (none)
def spec_trSides.T1 : Bool × List (List Nat × List Nat) := (true, [([], []), ([0], [0]), ([1], [1]), ([], []), ([3], [3]), ([4], [4]), ([2, 5], [2, 5]), ([], []), ([7], [7]), ([8], [8]), ([], []), ([10], [10]), ([11], [11]), ([9, 12, 6], [9, 12]), ([], []), ([14], [14]), ([15], [15]), ([], []), ([17], [17]), ([18], [18]), ([16, 19, 13], [16, 19]), ([6, 13, 20], [6, 13, 20]), ([21, 20, 0, 1, 2, 3, 4, 5, 6, 7, 8, 9, 10, 11, 12, 13, 14, 15, 16, 17, 18, 19, 20, 21], [21])])
def spec_trSides.B1 : List Nat := [0, 1, 3, 0, 8, 24, 63, 0, 128, 384, 0, 1024, 3072, 8191, 0, 16384, 49152, 0, 131072, 393216, 1048575, 2097151, 4194303]
theorem spec_trSides.tab1 : rtab .any (opsOf Try.f70 1) = spec_trSides.T1 := by kernel_rfl
theorem spec_trSides.bits1 : waitsOk spec_trSides.T1.2 spec_trSides.B1 = true := by kernel_rfl
set_option maxHeartbeats 8000000 in
set_option maxRecDepth 100000 in
theorem spec_trSides.calls (A0 : Option Addr) (c0 : Nat) (l0 : List (S_impl_Peg)) (r : List Int) (w : World) (hr0 : Kd.C kd_impl_Peg w A0 l0.length l0) (hc0 : l0.length ≤ c0) (h : spec_trSides.f l0 = some r) :
  Calls Try.prog 70 #[.slice A0 l0.length c0] w fun e w' => ∃ v0_ : Value, e = .returned (v0_) ∧ Kd.R (Kd.int .i64) 3 w' w.heap.size (fun _ => True) v0_ r ∧ Below w.heap.size w w' := by
 have hu50 := Try.underlying50; have HR0 := aM hr0; have HC0 := aM hc0; clear hr0 hc0; have HB := aM (Below.refl w.heap.size w)
 unfold spec_trSides.f at h; have H := h; clear h
 replace H := iN H; obtain ⟨c2, H⟩ := H; have c2b0 := dE c2; have c2b1 : decide (1 < l0.length) = true := dE (by omega)
 clear c2; replace H := iN H; obtain ⟨c3, H⟩ := H; have c3b0 := dE c3; have c3b1 : decide (2 < l0.length) = true := dE (by omega)
 clear c3; replace H := bS H; obtain ⟨t172, A4, H⟩ := H; replace H := iN H; obtain ⟨c5, H⟩ := H; have c5b0 := dE c5; have c5b1 : decide (0 < l0.length) = true := dE (by omega)
 clear c5; replace H := bS H; obtain ⟨t175, A6, H⟩ := H; replace H := bS H; obtain ⟨t178, A7, H⟩ := H; obtain ⟨y179, hy179⟩ : ∃ y_ : List Int, y_ = (([t172, t175, t178] : List Int)) := ⟨_, rfl⟩; rw [← hy179] at H; have Ny179 := aM hy179; clear hy179; obtain rfl := Option.some.inj H
 go_enter Try.func70, Try.ntmps70
 try go_wp2
 replace HB := aM (pD HB.out); have p170 : 0 ≤ (1 : Int) := (by omega)
 have q170 : 1 < (l0.length : Int) := dT aQ; obtain ⟨ad170, e170, hx170_0, hx170_1⟩ := at_impl_Peg HR0.out 1 p170 q170; have hw170_1 := hx170_1
 (try rw [show ((1 : Int)).toNat = 1 from rfl] at hw170_1)
 (try rw [show 1 * 2 = 2 from rfl] at hw170_1)
 (try simp only [Nat.reduceMul, Nat.reduceEqDiff, Go.Addr.add, ↓reduceIte] at hw170_1)
 have hw170_0 := hx170_0
 (try rw [show ((1 : Int)).toNat = 1 from rfl] at hw170_0)
 (try rw [show 1 * 2 = 2 from rfl] at hw170_0)
 (try simp only [Nat.reduceMul, Nat.reduceEqDiff, Go.Addr.add, ↓reduceIte] at hw170_0)
 cases e170
 (try simp only [show (1 : Int).toNat = 1 from rfl, Nat.reduceMul, Nat.reduceEqDiff, Go.Addr.add, ↓reduceIte] at hx170_0)
 (try simp only [show (1 : Int).toNat = 1 from rfl, Nat.reduceMul, Nat.reduceEqDiff, Go.Addr.add, ↓reduceIte] at hx170_1)
 have qi170 : (1 < l0.length) = True := eq_true (by omega)
 (try rw [show ((1 : Int)).toNat = 1 from rfl] at hx170_0)
 (try rw [show 1 * 2 = 2 from rfl] at hx170_0)
 (try rw [show ((1 : Int)).toNat = 1 from rfl] at hx170_1)
 (try rw [show 1 * 2 = 2 from rfl] at hx170_1)
 replace hx170_0 := hC HB hx170_0; replace hx170_1 := hC HB hx170_1; replace p170 := eq_true p170; replace q170 := eq_true q170; have p171 : 0 ≤ (2 : Int) := (by omega)
 have q171 : 2 < (l0.length : Int) := dT aQ; obtain ⟨ad171, e171, hx171_0, hx171_1⟩ := at_impl_Peg HR0.out 2 p171 q171; have hw171_1 := hx171_1
 (try rw [show ((2 : Int)).toNat = 2 from rfl] at hw171_1)
 (try rw [show 2 * 2 = 4 from rfl] at hw171_1)
 (try simp only [Nat.reduceMul, Nat.reduceEqDiff, Go.Addr.add, ↓reduceIte] at hw171_1)
 have hw171_0 := hx171_0
 (try rw [show ((2 : Int)).toNat = 2 from rfl] at hw171_0)
 (try rw [show 2 * 2 = 4 from rfl] at hw171_0)
 (try simp only [Nat.reduceMul, Nat.reduceEqDiff, Go.Addr.add, ↓reduceIte] at hw171_0)
 obtain rfl : ad170 = ad171 := (by injection e171)
 (try simp only [show (2 : Int).toNat = 2 from rfl, Nat.reduceMul, Nat.reduceEqDiff, Go.Addr.add, ↓reduceIte] at hx171_0)
 (try simp only [show (2 : Int).toNat = 2 from rfl, Nat.reduceMul, Nat.reduceEqDiff, Go.Addr.add, ↓reduceIte] at hx171_1)
 have qi171 : (2 < l0.length) = True := eq_true (by omega)
 (try rw [show ((2 : Int)).toNat = 2 from rfl] at hx171_0)
 (try rw [show 2 * 2 = 4 from rfl] at hx171_0)
 (try rw [show ((2 : Int)).toNat = 2 from rfl] at hx171_1)
 (try rw [show 2 * 2 = 4 from rfl] at hx171_1)
 replace hx171_0 := hC HB hx171_0; replace hx171_1 := hC HB hx171_1; replace p171 := eq_true p171; replace q171 := eq_true q171; have p173 : 0 ≤ (2 : Int) := (by omega)
 have q173 : 2 < (l0.length : Int) := dT aQ; obtain ⟨ad173, e173, hx173_0, hx173_1⟩ := at_impl_Peg HR0.out 2 p173 q173; have hw173_1 := hx173_1
 (try rw [show ((2 : Int)).toNat = 2 from rfl] at hw173_1)
 (try rw [show 2 * 2 = 4 from rfl] at hw173_1)
 (try simp only [Nat.reduceMul, Nat.reduceEqDiff, Go.Addr.add, ↓reduceIte] at hw173_1)
 have hw173_0 := hx173_0
 (try rw [show ((2 : Int)).toNat = 2 from rfl] at hw173_0)
 (try rw [show 2 * 2 = 4 from rfl] at hw173_0)
 (try simp only [Nat.reduceMul, Nat.reduceEqDiff, Go.Addr.add, ↓reduceIte] at hw173_0)
 obtain rfl : ad170 = ad173 := (by injection e173)
 (try simp only [show (2 : Int).toNat = 2 from rfl, Nat.reduceMul, Nat.reduceEqDiff, Go.Addr.add, ↓reduceIte] at hx173_0)
 (try simp only [show (2 : Int).toNat = 2 from rfl, Nat.reduceMul, Nat.reduceEqDiff, Go.Addr.add, ↓reduceIte] at hx173_1)
 have qi173 : (2 < l0.length) = True := eq_true (by omega)
 (try rw [show ((2 : Int)).toNat = 2 from rfl] at hx173_0)
 (try rw [show 2 * 2 = 4 from rfl] at hx173_0)
 (try rw [show ((2 : Int)).toNat = 2 from rfl] at hx173_1)
 (try rw [show 2 * 2 = 4 from rfl] at hx173_1)
 replace hx173_0 := hC HB hx173_0; replace hx173_1 := hC HB hx173_1; replace p173 := eq_true p173; replace q173 := eq_true q173; have p174 : 0 ≤ (0 : Int) := (by omega)
 have q174 : 0 < (l0.length : Int) := dT aQ; obtain ⟨ad174, e174, hx174_0, hx174_1⟩ := at_impl_Peg HR0.out 0 p174 q174; have hw174_1 := hx174_1
 (try rw [show ((0 : Int)).toNat = 0 from rfl] at hw174_1)
 (try rw [show 0 * 2 = 0 from rfl] at hw174_1)
 (try rw [Addr.add_zero'] at hw174_1)
 have hw174_0 := hx174_0
 (try rw [show ((0 : Int)).toNat = 0 from rfl] at hw174_0)
 (try rw [show 0 * 2 = 0 from rfl] at hw174_0)
 (try rw [Addr.add_zero'] at hw174_0)
 obtain rfl : ad170 = ad174 := (by injection e174)
 have qi174 : (0 < l0.length) = True := eq_true (by omega)
 (try rw [show ((0 : Int)).toNat = 0 from rfl] at hx174_0)
 (try rw [show 0 * 2 = 0 from rfl] at hx174_0)
 (try rw [Addr.add_zero'] at hx174_0)
 (try rw [show ((0 : Int)).toNat = 0 from rfl] at hx174_1)
 (try rw [show 0 * 2 = 0 from rfl] at hx174_1)
 (try rw [Addr.add_zero'] at hx174_1)
 replace hx174_0 := hC HB hx174_0; replace hx174_1 := hC HB hx174_1; replace p174 := eq_true p174; replace q174 := eq_true q174; have p176 : 0 ≤ (0 : Int) := (by omega)
 have q176 : 0 < (l0.length : Int) := dT aQ; obtain ⟨ad176, e176, hx176_0, hx176_1⟩ := at_impl_Peg HR0.out 0 p176 q176; have hw176_1 := hx176_1
 (try rw [show ((0 : Int)).toNat = 0 from rfl] at hw176_1)
 (try rw [show 0 * 2 = 0 from rfl] at hw176_1)
 (try rw [Addr.add_zero'] at hw176_1)
 have hw176_0 := hx176_0
 (try rw [show ((0 : Int)).toNat = 0 from rfl] at hw176_0)
 (try rw [show 0 * 2 = 0 from rfl] at hw176_0)
 (try rw [Addr.add_zero'] at hw176_0)
 obtain rfl : ad170 = ad176 := (by injection e176)
 have qi176 : (0 < l0.length) = True := eq_true (by omega)
 (try rw [show ((0 : Int)).toNat = 0 from rfl] at hx176_0)
 (try rw [show 0 * 2 = 0 from rfl] at hx176_0)
 (try rw [Addr.add_zero'] at hx176_0)
 (try rw [show ((0 : Int)).toNat = 0 from rfl] at hx176_1)
 (try rw [show 0 * 2 = 0 from rfl] at hx176_1)
 (try rw [Addr.add_zero'] at hx176_1)
 replace hx176_0 := hC HB hx176_0; replace hx176_1 := hC HB hx176_1; replace p176 := eq_true p176; replace q176 := eq_true q176; have p177 : 0 ≤ (1 : Int) := (by omega)
 have q177 : 1 < (l0.length : Int) := dT aQ; obtain ⟨ad177, e177, hx177_0, hx177_1⟩ := at_impl_Peg HR0.out 1 p177 q177; have hw177_1 := hx177_1
 (try rw [show ((1 : Int)).toNat = 1 from rfl] at hw177_1)
 (try rw [show 1 * 2 = 2 from rfl] at hw177_1)
 (try simp only [Nat.reduceMul, Nat.reduceEqDiff, Go.Addr.add, ↓reduceIte] at hw177_1)
 have hw177_0 := hx177_0
 (try rw [show ((1 : Int)).toNat = 1 from rfl] at hw177_0)
 (try rw [show 1 * 2 = 2 from rfl] at hw177_0)
 (try simp only [Nat.reduceMul, Nat.reduceEqDiff, Go.Addr.add, ↓reduceIte] at hw177_0)
 obtain rfl : ad170 = ad177 := (by injection e177)
 (try simp only [show (1 : Int).toNat = 1 from rfl, Nat.reduceMul, Nat.reduceEqDiff, Go.Addr.add, ↓reduceIte] at hx177_0)
 (try simp only [show (1 : Int).toNat = 1 from rfl, Nat.reduceMul, Nat.reduceEqDiff, Go.Addr.add, ↓reduceIte] at hx177_1)
 have qi177 : (1 < l0.length) = True := eq_true (by omega)
 (try rw [show ((1 : Int)).toNat = 1 from rfl] at hx177_0)
 (try rw [show 1 * 2 = 2 from rfl] at hx177_0)
 (try rw [show ((1 : Int)).toNat = 1 from rfl] at hx177_1)
 (try rw [show 1 * 2 = 2 from rfl] at hx177_1)
 replace hx177_0 := hC HB hx177_0; replace hx177_1 := hC HB hx177_1; replace p177 := eq_true p177; replace q177 := eq_true q177
 refine start_ (n := 23) (S := fun w' => w'.cell? ⟨ad170.block, ad170.off + 2, none⟩ = some (.int .i64 ((rd_impl_Peg l0 1).f0)) ∧ w'.cell? ⟨ad170.block, ad170.off + 2 + 1, none⟩ = some (.int .i64 ((rd_impl_Peg l0 1).f1)) ∧ w'.cell? ⟨ad170.block, ad170.off + 4, none⟩ = some (.int .i64 ((rd_impl_Peg l0 2).f0)) ∧ w'.cell? ⟨ad170.block, ad170.off + 4 + 1, none⟩ = some (.int .i64 ((rd_impl_Peg l0 2).f1)) ∧ w'.cell? ⟨ad170.block, ad170.off + 4, none⟩ = some (.int .i64 ((rd_impl_Peg l0 2).f0)) ∧ w'.cell? ⟨ad170.block, ad170.off + 4 + 1, none⟩ = some (.int .i64 ((rd_impl_Peg l0 2).f1)) ∧ w'.cell? ad170 = some (.int .i64 ((rd_impl_Peg l0 0).f0)) ∧ w'.cell? ⟨ad170.block, ad170.off + 1, none⟩ = some (.int .i64 ((rd_impl_Peg l0 0).f1)) ∧ w'.cell? ad170 = some (.int .i64 ((rd_impl_Peg l0 0).f0)) ∧ w'.cell? ⟨ad170.block, ad170.off + 1, none⟩ = some (.int .i64 ((rd_impl_Peg l0 0).f1)) ∧ w'.cell? ⟨ad170.block, ad170.off + 2, none⟩ = some (.int .i64 ((rd_impl_Peg l0 1).f0)) ∧ w'.cell? ⟨ad170.block, ad170.off + 2 + 1, none⟩ = some (.int .i64 ((rd_impl_Peg l0 1).f1))) (ds := []) (bA 23 0) kR rfl kR ⟨(hC HB hw170_0 :), (hC HB hw170_1 :), (hC HB hw171_0 :), (hC HB hw171_1 :), (hC HB hw173_0 :), (hC HB hw173_1 :), (hC HB hw174_0 :), (hC HB hw174_1 :), (hC HB hw176_0 :), (hC HB hw176_1 :), (hC HB hw177_0 :), (hC HB hw177_1 :)⟩ (fun hHeld => ?_); refine with_tabW spec_trSides.tab1 spec_trSides.bits1 (fun HT_ HW_ => ?_)
 generalize w.drew = w8 at HB hx170_0 hx170_1 hx171_0 hx171_1 hx173_0 hx173_1 hx174_0 hx174_1 hx176_0 hx176_1 hx177_0 hx177_1 hHeld ⊢
 refine pU 0 3 (bA 23 1) HT_ ?_; refine pU 1 4 (bA 23 3) HT_ ?_; refine pU 3 6 (bA 23 11) HT_ ?_; refine pU 4 7 (bA 23 27) HT_ ?_; refine pU 7 10 (bA 23 155) HT_ ?_; refine pU 8 11 (bA 23 411) HT_ ?_; refine pU 10 13 (bA 23 1435) HT_ ?_; refine pU 11 14 (bA 23 3483) HT_ ?_; refine pU 14 17 (bA 23 19867) HT_ ?_; refine pU 15 18 (bA 23 52635) HT_ ?_; refine pU 17 20 (bA 23 183707) HT_ ?_; refine pU 18 21 (bA 23 445851) HT_ ?_
 refine tU 2 5 (bA 23 445855) HT_ HW_ hHeld ?_ (hy := Or.inl ⟨by rfl, by rintro w' ⟨s0, s1, s2, s3, s4, s5, s6, s7, s8, s9, s10, s11⟩; go_simp; with_reducible rfl⟩)
 refine tU 5 8 (bA 23 445887) HT_ HW_ hHeld ?_ (hy := Or.inl ⟨by rfl, by rintro w' ⟨s0, s1, s2, s3, s4, s5, s6, s7, s8, s9, s10, s11⟩; go_simp; with_reducible rfl⟩)
 refine tU 9 12 (bA 23 446399) HT_ HW_ hHeld ?_ (hy := Or.inl ⟨by rfl, by rintro w' ⟨s0, s1, s2, s3, s4, s5, s6, s7, s8, s9, s10, s11⟩; go_simp; with_reducible rfl⟩)
 refine tU 12 15 (bA 23 450495) HT_ HW_ hHeld ?_ (hy := Or.inl ⟨by rfl, by rintro w' ⟨s0, s1, s2, s3, s4, s5, s6, s7, s8, s9, s10, s11⟩; go_simp; with_reducible rfl⟩)
 refine tU 16 19 (bA 23 516031) HT_ HW_ hHeld ?_ (hy := Or.inl ⟨by rfl, by rintro w' ⟨s0, s1, s2, s3, s4, s5, s6, s7, s8, s9, s10, s11⟩; go_simp; with_reducible rfl⟩)
 refine tU 19 22 (bA 23 1040319) HT_ HW_ hHeld ?_ (hy := Or.inl ⟨by rfl, by rintro w' ⟨s0, s1, s2, s3, s4, s5, s6, s7, s8, s9, s10, s11⟩; go_simp; with_reducible rfl⟩)
 refine oU 6 9 (bA 23 1040383) HT_ (fun K hK => ?_)
 refine goes_ Try.func116 kR rfl #[.agg #[.int .i64 ((rd_impl_Peg l0 1).f0), .int .i64 ((rd_impl_Peg l0 1).f1)], .agg #[.int .i64 ((rd_impl_Peg l0 2).f0), .int .i64 ((rd_impl_Peg l0 2).f1)]] (by rfl) rfl rfl sQ ?_
 with_reducible refine (spec_trSquare.calls ((rd_impl_Peg l0 1).f0) ((rd_impl_Peg l0 1).f1) ((rd_impl_Peg l0 2).f0) ((rd_impl_Peg l0 2).f1) t172 _ A4.out).mono ?_
 rintro e w9 ⟨rfl, hb⟩; refine ⟨_, rfl, ?_⟩; replace HB := tB HB hb; (try clear hb); (try clear hb2); (try clear hk); (try clear hi)
 refine hK.out _ _ ⟨(hC HB hw170_0 :), (hC HB hw170_1 :), (hC HB hw171_0 :), (hC HB hw171_1 :), (hC HB hw173_0 :), (hC HB hw173_1 :), (hC HB hw174_0 :), (hC HB hw174_1 :), (hC HB hw176_0 :), (hC HB hw176_1 :), (hC HB hw177_0 :), (hC HB hw177_1 :)⟩ (fun hHeld => ?_)
 clear hK K
 refine nU ?_
 refine oU 13 16 (bA 23 1048575) HT_ (fun K hK => ?_)
 refine goes_ Try.func116 kR rfl #[.agg #[.int .i64 ((rd_impl_Peg l0 2).f0), .int .i64 ((rd_impl_Peg l0 2).f1)], .agg #[.int .i64 ((rd_impl_Peg l0 0).f0), .int .i64 ((rd_impl_Peg l0 0).f1)]] (by rfl) rfl rfl sQ ?_
 with_reducible refine (spec_trSquare.calls ((rd_impl_Peg l0 2).f0) ((rd_impl_Peg l0 2).f1) ((rd_impl_Peg l0 0).f0) ((rd_impl_Peg l0 0).f1) t175 _ A6.out).mono ?_
 rintro e w10 ⟨rfl, hb⟩; refine ⟨_, rfl, ?_⟩; replace HB := tB HB hb; (try clear hb); (try clear hb2); (try clear hk); (try clear hi)
 refine hK.out _ _ ⟨(hC HB hw170_0 :), (hC HB hw170_1 :), (hC HB hw171_0 :), (hC HB hw171_1 :), (hC HB hw173_0 :), (hC HB hw173_1 :), (hC HB hw174_0 :), (hC HB hw174_1 :), (hC HB hw176_0 :), (hC HB hw176_1 :), (hC HB hw177_0 :), (hC HB hw177_1 :)⟩ (fun hHeld => ?_)
 clear hK K
 refine nU ?_
 refine oU 20 23 (bA 23 2097151) HT_ (fun K hK => ?_)
 refine goes_ Try.func116 kR rfl #[.agg #[.int .i64 ((rd_impl_Peg l0 0).f0), .int .i64 ((rd_impl_Peg l0 0).f1)], .agg #[.int .i64 ((rd_impl_Peg l0 1).f0), .int .i64 ((rd_impl_Peg l0 1).f1)]] (by rfl) rfl rfl sQ ?_
 with_reducible refine (spec_trSquare.calls ((rd_impl_Peg l0 0).f0) ((rd_impl_Peg l0 0).f1) ((rd_impl_Peg l0 1).f0) ((rd_impl_Peg l0 1).f1) t178 _ A7.out).mono ?_
 rintro e w11 ⟨rfl, hb⟩; refine ⟨_, rfl, ?_⟩; replace HB := tB HB hb; (try clear hb); (try clear hb2); (try clear hk); (try clear hi)
 refine hK.out _ _ ⟨(hC HB hw170_0 :), (hC HB hw170_1 :), (hC HB hw171_0 :), (hC HB hw171_1 :), (hC HB hw173_0 :), (hC HB hw173_1 :), (hC HB hw174_0 :), (hC HB hw174_1 :), (hC HB hw176_0 :), (hC HB hw176_1 :), (hC HB hw177_0 :), (hC HB hw177_1 :)⟩ (fun hHeld => ?_)
 clear hK K
 refine nU ?_
 refine oU 21 24 (bA 23 4194303) HT_ (fun K hK => ?_)
 refine Kd.R_lit_step (Kd.int .i64) _ 3 ?hg (N := 24) ?hd (xs := ([t172, t175, t178] : List Int)) (inner := [.int .i64 t172, .int .i64 t175, .int .i64 t178]) (ok := fun _ => True) (okp := fun _ => True) ?hr ?hp (fun _ hk => hk) trivial (Below.refl _ _) (Nat.le_refl _) (by simp) ?_; (case hd => rfl); (case hg => rfl); (case hr => first | (go_simp; done) | (go_simp; rfl)); (case hp => exact (Reps.one (show Kd.M (Kd.int .i64) _ _ _ t172 [.int .i64 t172] from rfl) (Reps.one (show Kd.M (Kd.int .i64) _ _ _ t175 [.int .i64 t175] from rfl) (Reps.one (show Kd.M (Kd.int .i64) _ _ _ t178 [.int .i64 t178] from rfl) (Reps.none _ _)))))
 intro v180 w12 ho13 hb hg_ hnew_
 clear hg_ hnew_
 (first | rw [← Ny179.out] at ho13 | (simp only [Int.reduceToNat] at ho13; rw [← Ny179.out] at ho13))
 have HO181 := aM (Kd.R_lower ho13 (pZ bQ)); replace HB := tB HB hb; clear hb ho13
 refine hK.out _ _ ⟨(hC HB hw170_0 :), (hC HB hw170_1 :), (hC HB hw171_0 :), (hC HB hw171_1 :), (hC HB hw173_0 :), (hC HB hw173_1 :), (hC HB hw174_0 :), (hC HB hw174_1 :), (hC HB hw176_0 :), (hC HB hw176_1 :), (hC HB hw177_0 :), (hC HB hw177_1 :)⟩ (fun hHeld => ?_)
 clear hK K
 refine nU ?_
 refine pU 22 2 (bA 23 8388607) HT_ ?_
 refine done_ (done_of HT_.out kR) ?_
 try go_wp2
 go_ret
 exact ⟨_, by first | rfl | (simp [errW_none, errW_some] <;> rfl) | (simp [*, errW_none, errW_some] <;> rfl), by (with_reducible repeat (first | apply rA | apply rN | apply rD)); exact HO181.out, bQ⟩
def spec_l1Most.f (a0 : Int) (a1 : Int) : Option (Int) := if a0 > a1 then (some a0) else (some a1)
set_option maxHeartbeats 8000000 in
set_option maxRecDepth 100000 in
theorem spec_l1Most.calls (a0 : Int) (a1 : Int) (r : Int) (w : World) (h : spec_l1Most.f a0 a1 = some r) :
  Calls Try.prog 84 #[.int .i64 a0, .int .i64 a1] w fun e w' => e = .returned (.int .i64 r) ∧ Drawn0 w w' := by
 unfold spec_l1Most.f at h; have H := h; clear h
 by_cases c3 : a0 > a1
 ·rw [if_pos c3] at H; have c3b0 := dE c3; clear c3; obtain rfl := Option.some.inj H
  go_enter Try.func84, Try.ntmps84
  go_wp2
  go_ret
  exact ⟨eQ, dQ⟩
 ·rw [if_neg c3] at H; have c3b0 := decide_eq_false c3; clear c3; obtain rfl := Option.some.inj H
  go_enter Try.func84, Try.ntmps84
  go_wp2
  go_ret
  exact ⟨eQ, dQ⟩

def spec_l1Abs.f (a0 : Int) : Option (Int) := (spec_l1Most.f a0 (wrap64 (-a0))).bind fun t182 => (some t182)
set_option maxHeartbeats 8000000 in
set_option maxRecDepth 100000 in
theorem spec_l1Abs.calls (a0 : Int) (r : Int) (w : World) (h : spec_l1Abs.f a0 = some r) :
  Calls Try.prog 114 #[.int .i64 a0] w fun e w' => e = .returned (.int .i64 r) ∧ Drawn0 w w' := by
 unfold spec_l1Abs.f at h; have H := h; clear h
 replace H := bS H; obtain ⟨t182, A2, H⟩ := H; obtain rfl := Option.some.inj H
 go_enter Try.func114, Try.ntmps114
 go_wp2_with (first | ((with_reducible refine gC (f := 84) rfl ?_); refine goesL_ (some 6) rfl rfl Try.func84 kR rfl #[.int .i64 a0, .int .i64 (wrap64 (-a0))] rfl sQ ?_; (with_reducible refine (spec_l1Most.calls a0 (wrap64 (-a0)) t182 _ A2.out).mono ?_); rintro e w' ⟨rfl, ⟨nd, rfl⟩⟩; refine ⟨_, rfl, ?_⟩))
 go_ret
 exact ⟨eQ, dQ⟩

def spec_pgCommon.l0 : Nat → Int → Int → Option (Int)
 | 0, _, _ => none
 | k + 1, x0, x1 => if x1 > 0 then (if x1 = 0 then (none) else (spec_pgCommon.l0 k x1 (Int.tmod x0 x1))) else (some x0)
def spec_pgCommon.f (k : Nat) (a0 : Int) (a1 : Int) : Option (Int) := (spec_l1Abs.f a0).bind fun t183 => ((spec_l1Abs.f a1).bind fun t184 => (spec_pgCommon.l0 k t183 t184))
theorem spec_pgCommon.mono_l : ∀ k, (∀ y0 y1, LeO (spec_pgCommon.l0 k y0 y1) (spec_pgCommon.l0 (k + 1) y0 y1))
 | 0 => fun _ _ r h => by simp [spec_pgCommon.l0] at h
 | k + 1 => by
  have ih0 := spec_pgCommon.mono_l k
  ·intro y0 y1
   unfold spec_pgCommon.l0
   repeat' first
   | (with_reducible exact ih0 _ _)
   | (with_reducible exact LeO.refl _)
   | (with_reducible exact LeO.none _)
   | (with_reducible refine LeO.ite ?_ ?_)
   | (with_reducible refine LeO.bind ?_ (fun _ => ?_))
   | exact ih0 _ _
   | exact LeO.none _
   | refine LeO.ite ?_ ?_
   | refine LeO.bind ?_ (fun _ => ?_)
theorem spec_pgCommon.mono : ∀ a0 a1 k, LeO (spec_pgCommon.f k a0 a1) (spec_pgCommon.f (k + 1) a0 a1) := by
 intro a0 a1 k
 have ih0 := spec_pgCommon.mono_l k
 unfold spec_pgCommon.f
 repeat' first | (with_reducible exact ih0 _ _) | (with_reducible exact LeO.refl _) | (with_reducible exact LeO.none _) | (with_reducible refine LeO.ite ?_ ?_) | (with_reducible refine LeO.bind ?_ (fun _ => ?_)) | exact ih0 _ _ | exact LeO.none _ | refine LeO.ite ?_ ?_ | refine LeO.bind ?_ (fun _ => ?_)
set_option maxHeartbeats 8000000 in
set_option maxRecDepth 100000 in
theorem spec_pgCommon.calls (k : Nat) (a0 : Int) (a1 : Int) (r : Int) (w : World) (h : spec_pgCommon.f k a0 a1 = some r) :
  Calls Try.prog 71 #[.int .i64 a0, .int .i64 a1] w fun e w' => e = .returned (.int .i64 r) ∧ Drawn0 w w' := by
 unfold spec_pgCommon.f at h; have H := h; clear h
 replace H := bS H; obtain ⟨t183, A3, H⟩ := H; replace H := bS H; obtain ⟨t184, A4, H⟩ := H; have H' := aM H; clear H
 go_enter Try.func71, Try.ntmps71
 go_wp2_with (first | (go_at_call 114; (with_reducible refine (spec_l1Abs.calls a0 t183 _ A3.out).mono ?_); rintro e w' ⟨rfl, ⟨nd, rfl⟩⟩; (try first | exact ⟨rfl, _, World.drewN_drewN _ _ _⟩ | exact ⟨rfl, _, Eq.trans (World.drewN_drewN _ _ _) (congrArg (World.drewN _) (Nat.add_assoc _ _ _))⟩)) | (go_at_call 114; (with_reducible refine (spec_l1Abs.calls a1 t184 _ A4.out).mono ?_); rintro e w' ⟨rfl, ⟨nd, rfl⟩⟩; (try first | exact ⟨rfl, _, World.drewN_drewN _ _ _⟩ | exact ⟨rfl, _, Eq.trans (World.drewN_drewN _ _ _) (congrArg (World.drewN _) (Nat.add_assoc _ _ _))⟩)))
 repeat (go_quiet (first | (go_at_call 114; (with_reducible refine (spec_l1Abs.calls a0 t183 _ A3.out).mono ?_); rintro e w' ⟨rfl, ⟨nd, rfl⟩⟩; (try first | exact ⟨rfl, _, World.drewN_drewN _ _ _⟩ | exact ⟨rfl, _, Eq.trans (World.drewN_drewN _ _ _) (congrArg (World.drewN _) (Nat.add_assoc _ _ _))⟩)) | (go_at_call 114; (with_reducible refine (spec_l1Abs.calls a1 t184 _ A4.out).mono ?_); rintro e w' ⟨rfl, ⟨nd, rfl⟩⟩; (try first | exact ⟨rfl, _, World.drewN_drewN _ _ _⟩ | exact ⟨rfl, _, Eq.trans (World.drewN_drewN _ _ _) (congrArg (World.drewN _) (Nat.add_assoc _ _ _))⟩))); try go_wp2_with (first | (go_at_call 114; (with_reducible refine (spec_l1Abs.calls a0 t183 _ A3.out).mono ?_); rintro e w' ⟨rfl, ⟨nd, rfl⟩⟩; (try first | exact ⟨rfl, _, World.drewN_drewN _ _ _⟩ | exact ⟨rfl, _, Eq.trans (World.drewN_drewN _ _ _) (congrArg (World.drewN _) (Nat.add_assoc _ _ _))⟩)) | (go_at_call 114; (with_reducible refine (spec_l1Abs.calls a1 t184 _ A4.out).mono ?_); rintro e w' ⟨rfl, ⟨nd, rfl⟩⟩; (try first | exact ⟨rfl, _, World.drewN_drewN _ _ _⟩ | exact ⟨rfl, _, Eq.trans (World.drewN_drewN _ _ _) (congrArg (World.drewN _) (Nat.add_assoc _ _ _))⟩))))
 go_loopg [0, 1] k (fun kq v0 v1 w' => ∃ (x0_1 : Int) (x1_1 : Int), v0 = .int .i64 x0_1 ∧ v1 = .int .i64 x1_1 ∧ Aside0 (spec_pgCommon.l0 kq x0_1 x1_1 = some r) ∧ Aside0 (kq ≤ k) ∧ Drawn0 w w')
 case atStart => exact ⟨(t183), (t184), eQ, eQ, H', ⟨Nat.le_refl _⟩, dQ⟩
 case round =>
  clear H'; obtain ⟨x0_1, x1_1, rfl, rfl, HA, HK1, ⟨m1, rfl⟩⟩ := hrel
  cases gk with
  | zero => exact absurd HA.out (by simp [spec_pgCommon.l0])
  | succ k1 =>
   have H := HA.out; clear HA
   simp only [spec_pgCommon.l0] at H
   by_cases c5 : x1_1 > 0
   ·rw [if_pos c5] at H; have c5b0 := dE c5; clear c5; replace H := iM H; obtain ⟨c6, H⟩ := H; have c6b0 : (x1_1 == 0) = false := beq_eq_false_iff_ne.mpr c6; have c6b1 : (x1_1 != 0) = true := bne_iff_ne.mpr c6; have H' := aM H; clear H; go_wp2
    repeat (go_quiet (fail); try go_wp2)
    go_roundg k1
    case measure => have := HK1.out; omega
    case rel => exact ⟨(x1_1), (Int.tmod x0_1 x1_1), eQ, eQ, H', ⟨by have := HK1.out; omega⟩, dQ⟩
   ·rw [if_neg c5] at H; have c5b0 := decide_eq_false c5; clear c5; obtain rfl := Option.some.inj H; go_wp2
    repeat (go_quiet (fail); try go_wp2)
    go_ret
    exact ⟨eQ, dQ⟩

end Go.Proofs.Ytfihohongkfibaa.X
