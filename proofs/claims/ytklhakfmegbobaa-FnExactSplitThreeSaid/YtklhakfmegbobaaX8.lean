-- thin
-- short
-- compact
import Derived.Test.YtklhakfmegbobaaXA
import Derived.Test.YtklhakfmegbobaaX0
import Derived.Test.YtklhakfmegbobaaX3
import Derived.Test.YtklhakfmegbobaaX6
import Derived.Test.YtklhakfmegbobaaX7
import Derived.Test.YtklhakfmegbobaaXW2
namespace Go.Proofs.Ytklhakfmegbobaa.X
open Go.RowKit Go.Proofs.Ytklhakfmegbobaa.XW Go.Proofs.YtklhakfmegbobaaW.PrintWords Go.Proofs.YtklhakfmegbobaaW.PrintLast Go.Proofs.YtklhakfmegbobaaW.PrintMore
attribute [local go_sem] max2_int min2_int max_two min_two max_three min_three max_four min_four   -- for this text's walks alone
set_option linter.unusedVariables false
set_option linter.unusedSimpArgs false

def spec_SplitThree.f (k : Nat) (l0 : List (S_impl_Peg)) (a1_0 : Int) (a1_1 : Int) : Option ((List (List (S_impl_Peg))) × Bool) := (spec_trThree.f k l0).bind fun t174 => (if t174 = true then ((spec_pgIs.f a1_0 a1_1).bind fun t175 => (if t175 = true then ((spec_pgWhere.f k l0 a1_0 a1_1).bind fun t176 => (if t176 = 1 then (if 1 < (l0.length : Int) then (if 2 < (l0.length : Int) then (if 0 < (l0.length : Int) then (some ((([(([(⟨a1_0, a1_1⟩ : S_impl_Peg), (⟨(rd_impl_Peg l0 1).f0, (rd_impl_Peg l0 1).f1⟩ : S_impl_Peg), (⟨(rd_impl_Peg l0 2).f0, (rd_impl_Peg l0 2).f1⟩ : S_impl_Peg)] : List (S_impl_Peg))), (([(⟨(rd_impl_Peg l0 0).f0, (rd_impl_Peg l0 0).f1⟩ : S_impl_Peg), (⟨a1_0, a1_1⟩ : S_impl_Peg), (⟨(rd_impl_Peg l0 2).f0, (rd_impl_Peg l0 2).f1⟩ : S_impl_Peg)] : List (S_impl_Peg))), (([(⟨(rd_impl_Peg l0 0).f0, (rd_impl_Peg l0 0).f1⟩ : S_impl_Peg), (⟨(rd_impl_Peg l0 1).f0, (rd_impl_Peg l0 1).f1⟩ : S_impl_Peg), (⟨a1_0, a1_1⟩ : S_impl_Peg)] : List (S_impl_Peg)))] : List (List (S_impl_Peg)))), true)) else (none)) else (none)) else (none)) else (some (([] : List (List (S_impl_Peg))), false)))) else (some (([] : List (List (S_impl_Peg))), false)))) else (some (([] : List (List (S_impl_Peg))), false)))
theorem spec_SplitThree.mono : ∀ a0 a1 a2 k, LeO (spec_SplitThree.f k a0 a1 a2) (spec_SplitThree.f (k + 1) a0 a1 a2) := by
 intro a0 a1 a2 k
 unfold spec_SplitThree.f
 repeat' first | (with_reducible exact spec_pgWhere.mono _ _ _ _) | (with_reducible exact spec_trThree.mono _ _) | (with_reducible exact LeO.refl _) | (with_reducible exact LeO.none _) | (with_reducible refine LeO.ite ?_ ?_) | (with_reducible refine LeO.bind ?_ (fun _ => ?_)) | exact spec_pgWhere.mono _ _ _ _ | exact spec_trThree.mono _ _ | exact LeO.none _ | refine LeO.ite ?_ ?_ | refine LeO.bind ?_ (fun _ => ?_)
def spec_SplitThree.T3 : Bool × List (List Nat × List Nat) := (true, [([], []), ([], []), ([1], [1]), ([2], [2]), ([], []), ([4], [4]), ([5], [5]), ([0, 3, 6], [0, 3, 6]), ([], []), ([8], [8]), ([9], [9]), ([], []), ([], []), ([12], [12]), ([13], [13]), ([10, 11, 14], [10, 11, 14]), ([], []), ([16], [16]), ([17], [17]), ([], []), ([19], [19]), ([20], [20]), ([], []), ([18, 21, 22], [18, 21, 22]), ([7, 15, 23], [7, 15, 23]), ([24, 0, 1, 2, 3, 4, 5, 6, 7, 8, 9, 10, 11, 12, 13, 14, 15, 16, 17, 18, 19, 20, 21, 22, 23, 24], [24]), ([25, 0, 1, 2, 3, 4, 5, 6, 7, 8, 9, 10, 11, 12, 13, 14, 15, 16, 17, 18, 19, 20, 21, 22, 23, 24, 25], [])])
def spec_SplitThree.B3 : List Nat := [0, 0, 2, 6, 0, 16, 48, 127, 0, 256, 768, 0, 0, 4096, 12288, 32512, 0, 65536, 196608, 0, 524288, 1572864, 0, 8323072, 16777215, 33554431, 67108863]
theorem spec_SplitThree.tab3 : rtab .any (opsOf Try.f44 3) = spec_SplitThree.T3 := by kernel_rfl
theorem spec_SplitThree.bits3 : waitsOk spec_SplitThree.T3.2 spec_SplitThree.B3 = true := by kernel_rfl
set_option maxHeartbeats 8000000 in
set_option maxRecDepth 100000 in
theorem spec_SplitThree.calls (k : Nat) (A0 : Option Addr) (c0 : Nat) (l0 : List (S_impl_Peg)) (a1_0 : Int) (a1_1 : Int) (r1 : List (List (S_impl_Peg))) (r2 : Bool) (w : World) (hr0 : Kd.C kd_impl_Peg w A0 l0.length l0) (hc0 : l0.length ≤ c0) (h : spec_SplitThree.f k l0 a1_0 a1_1 = some (r1, r2)) :
  Calls Try.prog 44 #[.slice A0 l0.length c0, .agg #[.int .i64 a1_0, .int .i64 a1_1]] w fun e w' => ∃ v0_ : Value, e = .returned (.tuple #[v0_, .bool r2]) ∧ Kd.S (Kd.slice 26 kd_impl_Peg) 29 w' w.heap.size (fun _ => True) v0_ r1 ∧ Below w.heap.size w w' := by
 have hu26 := Try.underlying26; have HR0 := aM hr0; have HC0 := aM hc0; clear hr0 hc0; have HB := aM (Below.refl w.heap.size w)
 unfold spec_SplitThree.f at h; have H := h; clear h
 replace H := bS H; obtain ⟨t174, A3, H⟩ := H
 by_cases c4 : t174 = true
 ·subst c4; replace H := iT H; replace H := bS H; obtain ⟨t175, A5, H⟩ := H
  by_cases c6 : t175 = true
  ·subst c6; replace H := iT H; replace H := bS H; obtain ⟨t176, A7, H⟩ := H
   by_cases c8 : t176 = 1
   ·rw [if_pos c8] at H; have c8b0 : (t176 == 1) = true := beq_iff_eq.mpr c8; have c8b1 : (t176 != 1) = false := bne_eq_false_iff_eq.mpr c8; clear c8; replace H := iN H; obtain ⟨c9, H⟩ := H; have c9b0 := dE c9; have c9b1 : decide (1 < l0.length) = true := dE (by omega)
    clear c9; replace H := iN H; obtain ⟨c10, H⟩ := H; have c10b0 := dE c10; have c10b1 : decide (2 < l0.length) = true := dE (by omega)
    clear c10; obtain ⟨y179, hy179⟩ : ∃ y_ : List (S_impl_Peg), y_ = (([(⟨a1_0, a1_1⟩ : S_impl_Peg), (⟨(rd_impl_Peg l0 1).f0, (rd_impl_Peg l0 1).f1⟩ : S_impl_Peg), (⟨(rd_impl_Peg l0 2).f0, (rd_impl_Peg l0 2).f1⟩ : S_impl_Peg)] : List (S_impl_Peg))) := ⟨_, rfl⟩; rw [← hy179] at H; have Ny179 := aM hy179; clear hy179; replace H := iN H; obtain ⟨c11, H⟩ := H; have c11b0 := dE c11; have c11b1 : decide (0 < l0.length) = true := dE (by omega)
    clear c11; obtain ⟨y184, hy184⟩ : ∃ y_ : List (S_impl_Peg), y_ = (([(⟨(rd_impl_Peg l0 0).f0, (rd_impl_Peg l0 0).f1⟩ : S_impl_Peg), (⟨a1_0, a1_1⟩ : S_impl_Peg), (⟨(rd_impl_Peg l0 2).f0, (rd_impl_Peg l0 2).f1⟩ : S_impl_Peg)] : List (S_impl_Peg))) := ⟨_, rfl⟩; rw [← hy184] at H; have Ny184 := aM hy184; clear hy184; obtain ⟨y189, hy189⟩ : ∃ y_ : List (S_impl_Peg), y_ = (([(⟨(rd_impl_Peg l0 0).f0, (rd_impl_Peg l0 0).f1⟩ : S_impl_Peg), (⟨(rd_impl_Peg l0 1).f0, (rd_impl_Peg l0 1).f1⟩ : S_impl_Peg), (⟨a1_0, a1_1⟩ : S_impl_Peg)] : List (S_impl_Peg))) := ⟨_, rfl⟩; rw [← hy189] at H; have Ny189 := aM hy189; clear hy189; obtain ⟨y192, hy192⟩ : ∃ y_ : List (List (S_impl_Peg)), y_ = (([y179, y184, y189] : List (List (S_impl_Peg)))) := ⟨_, rfl⟩; rw [← hy192] at H; have Ny192 := aM hy192; clear hy192
    simp only [Option.some.injEq, Prod.mk.injEq] at H
    obtain ⟨rfl, rfl⟩ := H
    go_enter Try.func44, Try.ntmps44
    try go_wp2_with (first | ((with_reducible refine gate_dst (N := 3) rfl ?_); refine bV 3 (cs := #[.int .i64 a1_0, .int .i64 a1_1]) (t := 26) rfl rfl (by first | (go_simp; done) | (go_simp; rfl)) ?_; intro gb173 hg w12 hbox hb; have BK173 := hbox; have GW173 := gZ HB hg; have GE173 := gZ HB hg; replace HB := tB HB hb; clear hb hbox hg) | ((with_reducible refine gC (f := 54) rfl ?_); refine goesL_ (some 7) rfl rfl Try.func54 kR rfl #[.slice A0 l0.length c0] rfl sQ ?_; (with_reducible refine (spec_trThree.calls k _ _ l0 true _ ?side1 ?side2 A3.out).mono ?_); (case side1 => repeat (first | exact (Kd.C_below HR0.out HB.out) | (with_reducible refine cA ?_ _) | (with_reducible refine cN ?_ _) | (with_reducible refine cD ?_))); (case side2 => exact HC0.out); rintro e w13 ⟨rfl, hb⟩; refine ⟨_, rfl, ?_⟩; replace BK173 := bB BK173 hb; replace HB := tB HB hb; (try clear hb); (try clear hb2); (try clear hk); (try clear hi); have hcz14_0 := vZ0 BK173; have hcz14_1 := vZ1 BK173; have hfz14_0 := kF BK173.out 0; have hfz14_1 := kF BK173.out 1) | (go_at_call 57; (with_reducible refine (spec_pgIs.calls a1_0 a1_1 true _ A5.out).mono ?_); rintro e w15 ⟨rfl, hb⟩; replace BK173 := bB BK173 hb; replace HB := tB HB hb; (try clear hb); (try clear hb2); (try clear hk); (try clear hi); have hcz16_0 := vZ0 BK173; have hcz16_1 := vZ1 BK173; have hfz16_0 := kF BK173.out 0; have hfz16_1 := kF BK173.out 1) | (go_at_call 96; (with_reducible refine (spec_pgWhere.calls k _ _ l0 a1_0 a1_1 t176 _ ?side1 ?side2 A7.out).mono ?_); (case side1 => repeat (first | exact (Kd.C_below HR0.out HB.out) | (with_reducible refine cA ?_ _) | (with_reducible refine cN ?_ _) | (with_reducible refine cD ?_))); (case side2 => exact HC0.out); rintro e w17 ⟨rfl, hb⟩; replace BK173 := bB BK173 hb; replace HB := tB HB hb; (try clear hb); (try clear hb2); (try clear hk); (try clear hi)))
    replace BK173 := aM (kD BK173.out); replace HB := aM (pD HB.out); have p177 : 0 ≤ (1 : Int) := (by omega)
    have q177 : 1 < (l0.length : Int) := dT aQ; obtain ⟨ad177, e177, hx177_0, hx177_1⟩ := at_impl_Peg HR0.out 1 p177 q177; have hw177_1 := hx177_1
    (try rw [show ((1 : Int)).toNat = 1 from rfl] at hw177_1)
    (try rw [show 1 * 2 = 2 from rfl] at hw177_1)
    (try simp only [Nat.reduceMul, Nat.reduceEqDiff, Go.Addr.add, ↓reduceIte] at hw177_1)
    have hw177_0 := hx177_0
    (try rw [show ((1 : Int)).toNat = 1 from rfl] at hw177_0)
    (try rw [show 1 * 2 = 2 from rfl] at hw177_0)
    (try simp only [Nat.reduceMul, Nat.reduceEqDiff, Go.Addr.add, ↓reduceIte] at hw177_0)
    cases e177
    (try simp only [show (1 : Int).toNat = 1 from rfl, Nat.reduceMul, Nat.reduceEqDiff, Go.Addr.add, ↓reduceIte] at hx177_0)
    (try simp only [show (1 : Int).toNat = 1 from rfl, Nat.reduceMul, Nat.reduceEqDiff, Go.Addr.add, ↓reduceIte] at hx177_1)
    have qi177 : (1 < l0.length) = True := eq_true (by omega)
    (try rw [show ((1 : Int)).toNat = 1 from rfl] at hx177_0)
    (try rw [show 1 * 2 = 2 from rfl] at hx177_0)
    (try rw [show ((1 : Int)).toNat = 1 from rfl] at hx177_1)
    (try rw [show 1 * 2 = 2 from rfl] at hx177_1)
    replace hx177_0 := hC HB hx177_0; replace hx177_1 := hC HB hx177_1; replace p177 := eq_true p177; replace q177 := eq_true q177; have p178 : 0 ≤ (2 : Int) := (by omega)
    have q178 : 2 < (l0.length : Int) := dT aQ; obtain ⟨ad178, e178, hx178_0, hx178_1⟩ := at_impl_Peg HR0.out 2 p178 q178; have hw178_1 := hx178_1
    (try rw [show ((2 : Int)).toNat = 2 from rfl] at hw178_1)
    (try rw [show 2 * 2 = 4 from rfl] at hw178_1)
    (try simp only [Nat.reduceMul, Nat.reduceEqDiff, Go.Addr.add, ↓reduceIte] at hw178_1)
    have hw178_0 := hx178_0
    (try rw [show ((2 : Int)).toNat = 2 from rfl] at hw178_0)
    (try rw [show 2 * 2 = 4 from rfl] at hw178_0)
    (try simp only [Nat.reduceMul, Nat.reduceEqDiff, Go.Addr.add, ↓reduceIte] at hw178_0)
    obtain rfl : ad177 = ad178 := (by injection e178)
    (try simp only [show (2 : Int).toNat = 2 from rfl, Nat.reduceMul, Nat.reduceEqDiff, Go.Addr.add, ↓reduceIte] at hx178_0)
    (try simp only [show (2 : Int).toNat = 2 from rfl, Nat.reduceMul, Nat.reduceEqDiff, Go.Addr.add, ↓reduceIte] at hx178_1)
    have qi178 : (2 < l0.length) = True := eq_true (by omega)
    (try rw [show ((2 : Int)).toNat = 2 from rfl] at hx178_0)
    (try rw [show 2 * 2 = 4 from rfl] at hx178_0)
    (try rw [show ((2 : Int)).toNat = 2 from rfl] at hx178_1)
    (try rw [show 2 * 2 = 4 from rfl] at hx178_1)
    replace hx178_0 := hC HB hx178_0; replace hx178_1 := hC HB hx178_1; replace p178 := eq_true p178; replace q178 := eq_true q178; have p182 : 0 ≤ (0 : Int) := (by omega)
    have q182 : 0 < (l0.length : Int) := dT aQ; obtain ⟨ad182, e182, hx182_0, hx182_1⟩ := at_impl_Peg HR0.out 0 p182 q182; have hw182_1 := hx182_1
    (try rw [show ((0 : Int)).toNat = 0 from rfl] at hw182_1)
    (try rw [show 0 * 2 = 0 from rfl] at hw182_1)
    (try rw [Addr.add_zero'] at hw182_1)
    have hw182_0 := hx182_0
    (try rw [show ((0 : Int)).toNat = 0 from rfl] at hw182_0)
    (try rw [show 0 * 2 = 0 from rfl] at hw182_0)
    (try rw [Addr.add_zero'] at hw182_0)
    obtain rfl : ad177 = ad182 := (by injection e182)
    have qi182 : (0 < l0.length) = True := eq_true (by omega)
    (try rw [show ((0 : Int)).toNat = 0 from rfl] at hx182_0)
    (try rw [show 0 * 2 = 0 from rfl] at hx182_0)
    (try rw [Addr.add_zero'] at hx182_0)
    (try rw [show ((0 : Int)).toNat = 0 from rfl] at hx182_1)
    (try rw [show 0 * 2 = 0 from rfl] at hx182_1)
    (try rw [Addr.add_zero'] at hx182_1)
    replace hx182_0 := hC HB hx182_0; replace hx182_1 := hC HB hx182_1; replace p182 := eq_true p182; replace q182 := eq_true q182; have p183 : 0 ≤ (2 : Int) := (by omega)
    have q183 : 2 < (l0.length : Int) := dT aQ; obtain ⟨ad183, e183, hx183_0, hx183_1⟩ := at_impl_Peg HR0.out 2 p183 q183; have hw183_1 := hx183_1
    (try rw [show ((2 : Int)).toNat = 2 from rfl] at hw183_1)
    (try rw [show 2 * 2 = 4 from rfl] at hw183_1)
    (try simp only [Nat.reduceMul, Nat.reduceEqDiff, Go.Addr.add, ↓reduceIte] at hw183_1)
    have hw183_0 := hx183_0
    (try rw [show ((2 : Int)).toNat = 2 from rfl] at hw183_0)
    (try rw [show 2 * 2 = 4 from rfl] at hw183_0)
    (try simp only [Nat.reduceMul, Nat.reduceEqDiff, Go.Addr.add, ↓reduceIte] at hw183_0)
    obtain rfl : ad177 = ad183 := (by injection e183)
    (try simp only [show (2 : Int).toNat = 2 from rfl, Nat.reduceMul, Nat.reduceEqDiff, Go.Addr.add, ↓reduceIte] at hx183_0)
    (try simp only [show (2 : Int).toNat = 2 from rfl, Nat.reduceMul, Nat.reduceEqDiff, Go.Addr.add, ↓reduceIte] at hx183_1)
    have qi183 : (2 < l0.length) = True := eq_true (by omega)
    (try rw [show ((2 : Int)).toNat = 2 from rfl] at hx183_0)
    (try rw [show 2 * 2 = 4 from rfl] at hx183_0)
    (try rw [show ((2 : Int)).toNat = 2 from rfl] at hx183_1)
    (try rw [show 2 * 2 = 4 from rfl] at hx183_1)
    replace hx183_0 := hC HB hx183_0; replace hx183_1 := hC HB hx183_1; replace p183 := eq_true p183; replace q183 := eq_true q183; have p187 : 0 ≤ (0 : Int) := (by omega)
    have q187 : 0 < (l0.length : Int) := dT aQ; obtain ⟨ad187, e187, hx187_0, hx187_1⟩ := at_impl_Peg HR0.out 0 p187 q187; have hw187_1 := hx187_1
    (try rw [show ((0 : Int)).toNat = 0 from rfl] at hw187_1)
    (try rw [show 0 * 2 = 0 from rfl] at hw187_1)
    (try rw [Addr.add_zero'] at hw187_1)
    have hw187_0 := hx187_0
    (try rw [show ((0 : Int)).toNat = 0 from rfl] at hw187_0)
    (try rw [show 0 * 2 = 0 from rfl] at hw187_0)
    (try rw [Addr.add_zero'] at hw187_0)
    obtain rfl : ad177 = ad187 := (by injection e187)
    have qi187 : (0 < l0.length) = True := eq_true (by omega)
    (try rw [show ((0 : Int)).toNat = 0 from rfl] at hx187_0)
    (try rw [show 0 * 2 = 0 from rfl] at hx187_0)
    (try rw [Addr.add_zero'] at hx187_0)
    (try rw [show ((0 : Int)).toNat = 0 from rfl] at hx187_1)
    (try rw [show 0 * 2 = 0 from rfl] at hx187_1)
    (try rw [Addr.add_zero'] at hx187_1)
    replace hx187_0 := hC HB hx187_0; replace hx187_1 := hC HB hx187_1; replace p187 := eq_true p187; replace q187 := eq_true q187; have p188 : 0 ≤ (1 : Int) := (by omega)
    have q188 : 1 < (l0.length : Int) := dT aQ; obtain ⟨ad188, e188, hx188_0, hx188_1⟩ := at_impl_Peg HR0.out 1 p188 q188; have hw188_1 := hx188_1
    (try rw [show ((1 : Int)).toNat = 1 from rfl] at hw188_1)
    (try rw [show 1 * 2 = 2 from rfl] at hw188_1)
    (try simp only [Nat.reduceMul, Nat.reduceEqDiff, Go.Addr.add, ↓reduceIte] at hw188_1)
    have hw188_0 := hx188_0
    (try rw [show ((1 : Int)).toNat = 1 from rfl] at hw188_0)
    (try rw [show 1 * 2 = 2 from rfl] at hw188_0)
    (try simp only [Nat.reduceMul, Nat.reduceEqDiff, Go.Addr.add, ↓reduceIte] at hw188_0)
    obtain rfl : ad177 = ad188 := (by injection e188)
    (try simp only [show (1 : Int).toNat = 1 from rfl, Nat.reduceMul, Nat.reduceEqDiff, Go.Addr.add, ↓reduceIte] at hx188_0)
    (try simp only [show (1 : Int).toNat = 1 from rfl, Nat.reduceMul, Nat.reduceEqDiff, Go.Addr.add, ↓reduceIte] at hx188_1)
    have qi188 : (1 < l0.length) = True := eq_true (by omega)
    (try rw [show ((1 : Int)).toNat = 1 from rfl] at hx188_0)
    (try rw [show 1 * 2 = 2 from rfl] at hx188_0)
    (try rw [show ((1 : Int)).toNat = 1 from rfl] at hx188_1)
    (try rw [show 1 * 2 = 2 from rfl] at hx188_1)
    replace hx188_0 := hC HB hx188_0; replace hx188_1 := hC HB hx188_1; replace p188 := eq_true p188; replace q188 := eq_true q188
    refine start_ (n := 27) (S := fun w' => True) (ds := []) (bA 27 0) kR rfl kR trivial (fun hHeld => ?_); refine with_tabW spec_SplitThree.tab3 spec_SplitThree.bits3 (fun HT_ HW_ => ?_)
    generalize w17.drew = w18 at BK173 HB hx177_0 hx177_1 hx178_0 hx178_1 hx182_0 hx182_1 hx183_0 hx183_1 hx187_0 hx187_1 hx188_0 hx188_1 hHeld ⊢
    refine pU 1 21 (bA 27 2) HT_ ?_; refine pU 4 24 (bA 27 18) HT_ ?_; refine pU 8 28 (bA 27 274) HT_ ?_; refine pU 12 32 (bA 27 4370) HT_ ?_; refine pU 16 36 (bA 27 69906) HT_ ?_; refine pU 19 39 (bA 27 594194) HT_ ?_
    refine inv_at [0, 2, 3, 5, 6, 7, 9, 10, 11, 13, 14, 15, 17, 18, 20, 21, 22, 23, 24, 25, 26] (fun a0_ b a w' => ∃ (v180 : Value) (v185 : Value) (v190 : Value) (v193 : Value) (m25_ : Value), a = putSel a0_ b [(0, 20, .agg #[.int .i64 a1_0, .int .i64 a1_1]), (2, 22, .pointer (some (ad177.add 2))), (3, 23, .agg #[.int .i64 ((rd_impl_Peg l0 1).f0), .int .i64 ((rd_impl_Peg l0 1).f1)]), (5, 25, .pointer (some (ad177.add 4))), (6, 26, .agg #[.int .i64 ((rd_impl_Peg l0 2).f0), .int .i64 ((rd_impl_Peg l0 2).f1)]), (7, 27, v180), (9, 29, .pointer (some ad177)), (10, 30, .agg #[.int .i64 ((rd_impl_Peg l0 0).f0), .int .i64 ((rd_impl_Peg l0 0).f1)]), (11, 31, .agg #[.int .i64 a1_0, .int .i64 a1_1]), (13, 33, .pointer (some (ad177.add 4))), (14, 34, .agg #[.int .i64 ((rd_impl_Peg l0 2).f0), .int .i64 ((rd_impl_Peg l0 2).f1)]), (15, 35, v185), (17, 37, .pointer (some ad177)), (18, 38, .agg #[.int .i64 ((rd_impl_Peg l0 0).f0), .int .i64 ((rd_impl_Peg l0 0).f1)]), (20, 40, .pointer (some (ad177.add 2))), (21, 41, .agg #[.int .i64 ((rd_impl_Peg l0 1).f0), .int .i64 ((rd_impl_Peg l0 1).f1)]), (22, 42, .agg #[.int .i64 a1_0, .int .i64 a1_1]), (23, 43, v190), (24, 44, v193), (25, 4, m25_), (26, 5, .bool true)] ∧ (w'.heap[gb173]? = some (.cells #[.int .i64 a1_0, .int .i64 a1_1] 26 (0, 0))) ∧ (Below w.heap.size w w') ∧ (b 7 = true → Kd.R kd_impl_Peg 26 w' w.heap.size (fun k_ => k_ ≠ gb173) v180 y179) ∧ (b 15 = true → Kd.R kd_impl_Peg 26 w' w.heap.size (fun k_ => k_ ≠ gb173) v185 y184) ∧ (b 23 = true → Kd.R kd_impl_Peg 26 w' w.heap.size (fun k_ => k_ ≠ gb173) v190 y189) ∧ (b 24 = true → Kd.S (Kd.slice 26 kd_impl_Peg) 29 w' w.heap.size (fun k_ => k_ ≠ gb173) v193 y192) ∧ (b 25 = true → (m25_ : Value) = v193) ∧ (b 7 = true → b 15 = true → ∀ k_, some k_ = (v180 : Value).ownBlock → some k_ ≠ (v185 : Value).ownBlock) ∧ (b 7 = true → b 23 = true → ∀ k_, some k_ = (v180 : Value).ownBlock → some k_ ≠ (v190 : Value).ownBlock) ∧ (b 15 = true → b 23 = true → ∀ k_, some k_ = (v185 : Value).ownBlock → some k_ ≠ (v190 : Value).ownBlock)) HT_.out HW_.out kR kR ?_ ?_ ?_
    ·exact ⟨.bool false, .bool false, .bool false, .bool false, .bool false, by simp only [putSel, Bool.false_eq_true, if_false], BK173.out, HB.out, fun h_ => absurd h_ (by decide), fun h_ => absurd h_ (by decide), fun h_ => absurd h_ (by decide), fun h_ => absurd h_ (by decide), fun h_ => absurd h_ (by decide), fun h_ => absurd h_ (by decide), fun h_ => absurd h_ (by decide), fun h_ => absurd h_ (by decide)⟩
    ·skip
     clear BK173 HB
     refine steps_cons ?_ ?_
     ·rintro b a w' ⟨v180, v185, v190, v193, m25_, ha, Q_BK173, Q_HB, Q_HO181, Q_HO186, Q_HO191, Q_HO194, Q_X25_, Q_D01, Q_D02, Q_D12⟩ hb_ hon hoff
      refine ⟨_, rfl, fun K hK => ?_⟩
      have e3 : a.tmps[3]? = some (.pointer (some ⟨gb173, 0, none⟩)) := by rw [ha]; exact (putSel_off rfl).trans rfl
      replace ha := aM ha; have BK173 := aM Q_BK173; have HB := aM Q_HB; have hc0_ : w'.cell? ⟨gb173, 0, none⟩ = some (.int .i64 a1_0) := vZ0 BK173; have hc1_ : w'.cell? ⟨gb173, 1, none⟩ = some (.int .i64 a1_1) := vZ1 BK173
      refine value_ (w1 := w') (v := .agg #[.int .i64 a1_0, .int .i64 a1_1]) (by rfl) rfl ?_ ?_
      ·go_simp
       (try simp only [i64_w])
       try rfl
      refine hK.out _ _ ⟨v180, v185, v190, v193, m25_, (by rw [ha.out]; exact putSel_upk 0 hb_ rfl rfl rfl), Q_BK173, Q_HB, fun h0_ => absurd ((hoff 7 kR).symm.trans h0_) (by decide), Q_HO186, Q_HO191, fun h0_ => absurd ((hoff 24 kR).symm.trans h0_) (by decide), fun h0_ => absurd ((hoff 25 kR).symm.trans h0_) (by decide), Q_D01, Q_D02, Q_D12⟩
     refine steps_cons ?_ ?_
     ·rintro b a w' ⟨v180, v185, v190, v193, m25_, ha, Q_BK173, Q_HB, Q_HO181, Q_HO186, Q_HO191, Q_HO194, Q_X25_, Q_D01, Q_D02, Q_D12⟩ hb_ hon hoff
      refine ⟨_, rfl, fun K hK => ?_⟩
      have e21 : a.tmps[21]? = some (.slice (some ad177) l0.length c0) := by rw [ha]; exact (putSel_off rfl).trans rfl
      replace ha := aM ha; have BK173 := aM Q_BK173; have HB := aM Q_HB; have hs0_ : w'.cell? ⟨ad177.block, ad177.off + 2, none⟩ = some (.int .i64 ((rd_impl_Peg l0 1).f0)) := (hC HB hw177_0 :); have hs1_ : w'.cell? ⟨ad177.block, ad177.off + 2 + 1, none⟩ = some (.int .i64 ((rd_impl_Peg l0 1).f1)) := (hC HB hw177_1 :)
      refine value_ (w1 := w') (v := .pointer (some (ad177.add 2))) (by rfl) rfl ?_ ?_
      ·go_simp
       (try simp only [i64_w])
       try rfl
      refine hK.out _ _ ⟨v180, v185, v190, v193, m25_, (by rw [ha.out]; exact putSel_upk 1 hb_ rfl rfl rfl), Q_BK173, Q_HB, fun h0_ => absurd ((hoff 7 kR).symm.trans h0_) (by decide), Q_HO186, Q_HO191, fun h0_ => absurd ((hoff 24 kR).symm.trans h0_) (by decide), fun h0_ => absurd ((hoff 25 kR).symm.trans h0_) (by decide), Q_D01, Q_D02, Q_D12⟩
     refine steps_cons ?_ ?_
     ·rintro b a w' ⟨v180, v185, v190, v193, m25_, ha, Q_BK173, Q_HB, Q_HO181, Q_HO186, Q_HO191, Q_HO194, Q_X25_, Q_D01, Q_D02, Q_D12⟩ hb_ hon hoff
      refine ⟨_, rfl, fun K hK => ?_⟩
      have e22 : a.tmps[22]? = some (.pointer (some (ad177.add 2))) := by rw [ha]; exact putSel_on (e := (2, 22, .pointer (some (ad177.add 2)))) 1 rfl rfl (hon 2 kR) rfl
      replace ha := aM ha; have BK173 := aM Q_BK173; have HB := aM Q_HB; have hs0_ : w'.cell? ⟨ad177.block, ad177.off + 2, none⟩ = some (.int .i64 ((rd_impl_Peg l0 1).f0)) := (hC HB hw177_0 :); have hs1_ : w'.cell? ⟨ad177.block, ad177.off + 2 + 1, none⟩ = some (.int .i64 ((rd_impl_Peg l0 1).f1)) := (hC HB hw177_1 :)
      refine value_ (w1 := w') (v := .agg #[.int .i64 ((rd_impl_Peg l0 1).f0), .int .i64 ((rd_impl_Peg l0 1).f1)]) (by rfl) rfl ?_ ?_
      ·go_simp
       (try simp only [i64_w])
       try rfl
      refine hK.out _ _ ⟨v180, v185, v190, v193, m25_, (by rw [ha.out]; exact putSel_upk 2 hb_ rfl rfl rfl), Q_BK173, Q_HB, fun h0_ => absurd ((hoff 7 kR).symm.trans h0_) (by decide), Q_HO186, Q_HO191, fun h0_ => absurd ((hoff 24 kR).symm.trans h0_) (by decide), fun h0_ => absurd ((hoff 25 kR).symm.trans h0_) (by decide), Q_D01, Q_D02, Q_D12⟩
     refine steps_cons ?_ ?_
     ·rintro b a w' ⟨v180, v185, v190, v193, m25_, ha, Q_BK173, Q_HB, Q_HO181, Q_HO186, Q_HO191, Q_HO194, Q_X25_, Q_D01, Q_D02, Q_D12⟩ hb_ hon hoff
      refine ⟨_, rfl, fun K hK => ?_⟩
      have e24 : a.tmps[24]? = some (.slice (some ad177) l0.length c0) := by rw [ha]; exact (putSel_off rfl).trans rfl
      replace ha := aM ha; have BK173 := aM Q_BK173; have HB := aM Q_HB; have hs2_ : w'.cell? ⟨ad177.block, ad177.off + 4, none⟩ = some (.int .i64 ((rd_impl_Peg l0 2).f0)) := (hC HB hw178_0 :); have hs3_ : w'.cell? ⟨ad177.block, ad177.off + 4 + 1, none⟩ = some (.int .i64 ((rd_impl_Peg l0 2).f1)) := (hC HB hw178_1 :)
      refine value_ (w1 := w') (v := .pointer (some (ad177.add 4))) (by rfl) rfl ?_ ?_
      ·go_simp
       (try simp only [i64_w])
       try rfl
      refine hK.out _ _ ⟨v180, v185, v190, v193, m25_, (by rw [ha.out]; exact putSel_upk 3 hb_ rfl rfl rfl), Q_BK173, Q_HB, fun h0_ => absurd ((hoff 7 kR).symm.trans h0_) (by decide), Q_HO186, Q_HO191, fun h0_ => absurd ((hoff 24 kR).symm.trans h0_) (by decide), fun h0_ => absurd ((hoff 25 kR).symm.trans h0_) (by decide), Q_D01, Q_D02, Q_D12⟩
     refine steps_cons ?_ ?_
     ·rintro b a w' ⟨v180, v185, v190, v193, m25_, ha, Q_BK173, Q_HB, Q_HO181, Q_HO186, Q_HO191, Q_HO194, Q_X25_, Q_D01, Q_D02, Q_D12⟩ hb_ hon hoff
      refine ⟨_, rfl, fun K hK => ?_⟩
      have e25 : a.tmps[25]? = some (.pointer (some (ad177.add 4))) := by rw [ha]; exact putSel_on (e := (5, 25, .pointer (some (ad177.add 4)))) 3 rfl rfl (hon 5 kR) rfl
      replace ha := aM ha; have BK173 := aM Q_BK173; have HB := aM Q_HB; have hs2_ : w'.cell? ⟨ad177.block, ad177.off + 4, none⟩ = some (.int .i64 ((rd_impl_Peg l0 2).f0)) := (hC HB hw178_0 :); have hs3_ : w'.cell? ⟨ad177.block, ad177.off + 4 + 1, none⟩ = some (.int .i64 ((rd_impl_Peg l0 2).f1)) := (hC HB hw178_1 :)
      refine value_ (w1 := w') (v := .agg #[.int .i64 ((rd_impl_Peg l0 2).f0), .int .i64 ((rd_impl_Peg l0 2).f1)]) (by rfl) rfl ?_ ?_
      ·go_simp
       (try simp only [i64_w])
       try rfl
      refine hK.out _ _ ⟨v180, v185, v190, v193, m25_, (by rw [ha.out]; exact putSel_upk 4 hb_ rfl rfl rfl), Q_BK173, Q_HB, fun h0_ => absurd ((hoff 7 kR).symm.trans h0_) (by decide), Q_HO186, Q_HO191, fun h0_ => absurd ((hoff 24 kR).symm.trans h0_) (by decide), fun h0_ => absurd ((hoff 25 kR).symm.trans h0_) (by decide), Q_D01, Q_D02, Q_D12⟩
     refine steps_cons ?_ ?_
     ·rintro b a w' ⟨v180, v185, v190, v193, m25_, ha, Q_BK173, Q_HB, Q_HO181, Q_HO186, Q_HO191, Q_HO194, Q_X25_, Q_D01, Q_D02, Q_D12⟩ hb_ hon hoff
      refine ⟨_, rfl, fun K hK => ?_⟩
      have e20 : a.tmps[20]? = some (.agg #[.int .i64 a1_0, .int .i64 a1_1]) := by rw [ha]; exact putSel_on (e := (0, 20, .agg #[.int .i64 a1_0, .int .i64 a1_1])) 0 rfl rfl (hon 0 kR) rfl
      have e23 : a.tmps[23]? = some (.agg #[.int .i64 ((rd_impl_Peg l0 1).f0), .int .i64 ((rd_impl_Peg l0 1).f1)]) := by rw [ha]; exact putSel_on (e := (3, 23, .agg #[.int .i64 ((rd_impl_Peg l0 1).f0), .int .i64 ((rd_impl_Peg l0 1).f1)])) 2 rfl rfl (hon 3 kR) rfl
      have e26 : a.tmps[26]? = some (.agg #[.int .i64 ((rd_impl_Peg l0 2).f0), .int .i64 ((rd_impl_Peg l0 2).f1)]) := by rw [ha]; exact putSel_on (e := (6, 26, .agg #[.int .i64 ((rd_impl_Peg l0 2).f0), .int .i64 ((rd_impl_Peg l0 2).f1)])) 4 rfl rfl (hon 6 kR) rfl
      replace ha := aM ha; have BK173 := aM Q_BK173; have HB := aM Q_HB
      refine Kd.R_lit_step kd_impl_Peg _ 26 ?hg (N := 27) ?hd (xs := ([(⟨a1_0, a1_1⟩ : S_impl_Peg), (⟨(rd_impl_Peg l0 1).f0, (rd_impl_Peg l0 1).f1⟩ : S_impl_Peg), (⟨(rd_impl_Peg l0 2).f0, (rd_impl_Peg l0 2).f1⟩ : S_impl_Peg)] : List (S_impl_Peg))) (inner := [.int .i64 a1_0, .int .i64 a1_1, .int .i64 ((rd_impl_Peg l0 1).f0), .int .i64 ((rd_impl_Peg l0 1).f1), .int .i64 ((rd_impl_Peg l0 2).f0), .int .i64 ((rd_impl_Peg l0 2).f1)]) (ok := fun _ => True) (okp := fun _ => True) ?hr ?hp (fun _ hk => hk) trivial (Below.refl _ _) (Nat.le_refl _) (by simp) ?_; (case hd => rfl); (case hg => rfl); (case hr => first | (go_simp; done) | (go_simp; rfl)); (case hp => exact (Reps.c2 (show Kd.M kd_impl_Peg _ _ _ (⟨a1_0, a1_1⟩ : S_impl_Peg) [.int .i64 a1_0, .int .i64 a1_1] from (kd_impl_Peg_mkM _ _ _ (⟨a1_0, a1_1⟩ : S_impl_Peg) )) (Reps.c2 (show Kd.M kd_impl_Peg _ _ _ (⟨(rd_impl_Peg l0 1).f0, (rd_impl_Peg l0 1).f1⟩ : S_impl_Peg) [.int .i64 ((rd_impl_Peg l0 1).f0), .int .i64 ((rd_impl_Peg l0 1).f1)] from (kd_impl_Peg_mkM _ _ _ (⟨(rd_impl_Peg l0 1).f0, (rd_impl_Peg l0 1).f1⟩ : S_impl_Peg) )) (Reps.c2 (show Kd.M kd_impl_Peg _ _ _ (⟨(rd_impl_Peg l0 2).f0, (rd_impl_Peg l0 2).f1⟩ : S_impl_Peg) [.int .i64 ((rd_impl_Peg l0 2).f0), .int .i64 ((rd_impl_Peg l0 2).f1)] from (kd_impl_Peg_mkM _ _ _ (⟨(rd_impl_Peg l0 2).f0, (rd_impl_Peg l0 2).f1⟩ : S_impl_Peg) )) (Reps.none _ _)))))
      intro v180 w19 ho20 hb hg_ hnew_
      clear hg_ hnew_
      (first | rw [← Ny179.out] at ho20 | (simp only [Int.reduceToNat] at ho20; rw [← Ny179.out] at ho20))
      have z_D01 : b 15 = true → ∀ k_, some k_ = (v180 : Value).ownBlock → some k_ ≠ (v185 : Value).ownBlock := fun h0_ k_ e1_ e2_ => absurd (Kd.R_lt (Q_HO186 h0_) k_ e2_.symm) (Nat.not_lt.2 (Kd.R_base ho20 k_ e1_.symm)); have z_D02 : b 23 = true → ∀ k_, some k_ = (v180 : Value).ownBlock → some k_ ≠ (v190 : Value).ownBlock := fun h0_ k_ e1_ e2_ => absurd (Kd.R_lt (Q_HO191 h0_) k_ e2_.symm) (Nat.not_lt.2 (Kd.R_base ho20 k_ e1_.symm)); have n0_ := aM (Kd.R_lower (Kd.R_newB ho20 (g := gb173) (o := .cells #[.int .i64 a1_0, .int .i64 a1_1] 26 (0, 0)) (gQ BK173)) (pZ bE)); have n1_ := bB BK173 hb; have n2_ := tB HB hb; have z_HO186 := fun (h0_ : b 15 = true) => (show Kd.R kd_impl_Peg 26 w19 w.heap.size (fun k_ => k_ ≠ gb173) v185 y184 from by first | exact (Kd.R_elder' (by (with_reducible repeat (first | apply rA | apply rN | apply rD)); exact (Q_HO186 h0_)) (Kd.R_base ho20) hb) | exact Kd.R_mono (Kd.R_elder' (by (with_reducible repeat (first | apply rA | apply rN | apply rD)); exact (Q_HO186 h0_)) (Kd.R_base ho20) hb) (fun _ h_ => by first | trivial | exact h_ | exact h_.1))
      have z_HO191 := fun (h0_ : b 23 = true) => (show Kd.R kd_impl_Peg 26 w19 w.heap.size (fun k_ => k_ ≠ gb173) v190 y189 from by first | exact (Kd.R_elder' (by (with_reducible repeat (first | apply rA | apply rN | apply rD)); exact (Q_HO191 h0_)) (Kd.R_base ho20) hb) | exact Kd.R_mono (Kd.R_elder' (by (with_reducible repeat (first | apply rA | apply rN | apply rD)); exact (Q_HO191 h0_)) (Kd.R_base ho20) hb) (fun _ h_ => by first | trivial | exact h_ | exact h_.1))
      clear BK173; clear HB; have HO181 := n0_; have BK173 := n1_; have HB := n2_; clear n0_ n1_ n2_; clear hb ho20
      refine hK.out _ _ ⟨v180, v185, v190, v193, m25_, (by rw [ha.out]; exact putSel_upk 5 hb_ rfl rfl rfl), (gQ BK173), bE, fun _ => (by (with_reducible repeat (first | apply rA | apply rN | apply rD)); exact Kd.R_mono HO181.out (fun _ hk => hk.2)), z_HO186, z_HO191, fun h0_ => absurd ((hoff 24 kR).symm.trans h0_) (by decide), fun h0_ => absurd ((hoff 25 kR).symm.trans h0_) (by decide), fun _ h0_ => z_D01 h0_, fun _ h0_ => z_D02 h0_, Q_D12⟩
     refine steps_cons ?_ ?_
     ·rintro b a w' ⟨v180, v185, v190, v193, m25_, ha, Q_BK173, Q_HB, Q_HO181, Q_HO186, Q_HO191, Q_HO194, Q_X25_, Q_D01, Q_D02, Q_D12⟩ hb_ hon hoff
      refine ⟨_, rfl, fun K hK => ?_⟩
      have e28 : a.tmps[28]? = some (.slice (some ad177) l0.length c0) := by rw [ha]; exact (putSel_off rfl).trans rfl
      replace ha := aM ha; have BK173 := aM Q_BK173; have HB := aM Q_HB; have hs4_ : w'.cell? ad177 = some (.int .i64 ((rd_impl_Peg l0 0).f0)) := (hC HB hw182_0 :); have hs5_ : w'.cell? ⟨ad177.block, ad177.off + 1, none⟩ = some (.int .i64 ((rd_impl_Peg l0 0).f1)) := (hC HB hw182_1 :)
      refine value_ (w1 := w') (v := .pointer (some ad177)) (by rfl) rfl ?_ ?_
      ·go_simp
       (try simp only [i64_w])
       try rfl
      refine hK.out _ _ ⟨v180, v185, v190, v193, m25_, (by rw [ha.out]; exact putSel_upk 6 hb_ rfl rfl rfl), Q_BK173, Q_HB, Q_HO181, fun h0_ => absurd ((hoff 15 kR).symm.trans h0_) (by decide), Q_HO191, fun h0_ => absurd ((hoff 24 kR).symm.trans h0_) (by decide), fun h0_ => absurd ((hoff 25 kR).symm.trans h0_) (by decide), Q_D01, Q_D02, Q_D12⟩
     refine steps_cons ?_ ?_
     ·rintro b a w' ⟨v180, v185, v190, v193, m25_, ha, Q_BK173, Q_HB, Q_HO181, Q_HO186, Q_HO191, Q_HO194, Q_X25_, Q_D01, Q_D02, Q_D12⟩ hb_ hon hoff
      refine ⟨_, rfl, fun K hK => ?_⟩
      have e29 : a.tmps[29]? = some (.pointer (some ad177)) := by rw [ha]; exact putSel_on (e := (9, 29, .pointer (some ad177))) 6 rfl rfl (hon 9 kR) rfl
      replace ha := aM ha; have BK173 := aM Q_BK173; have HB := aM Q_HB; have hs4_ : w'.cell? ad177 = some (.int .i64 ((rd_impl_Peg l0 0).f0)) := (hC HB hw182_0 :); have hs5_ : w'.cell? ⟨ad177.block, ad177.off + 1, none⟩ = some (.int .i64 ((rd_impl_Peg l0 0).f1)) := (hC HB hw182_1 :)
      refine value_ (w1 := w') (v := .agg #[.int .i64 ((rd_impl_Peg l0 0).f0), .int .i64 ((rd_impl_Peg l0 0).f1)]) (by rfl) rfl ?_ ?_
      ·go_simp
       (try simp only [i64_w])
       try rfl
      refine hK.out _ _ ⟨v180, v185, v190, v193, m25_, (by rw [ha.out]; exact putSel_upk 7 hb_ rfl rfl rfl), Q_BK173, Q_HB, Q_HO181, fun h0_ => absurd ((hoff 15 kR).symm.trans h0_) (by decide), Q_HO191, fun h0_ => absurd ((hoff 24 kR).symm.trans h0_) (by decide), fun h0_ => absurd ((hoff 25 kR).symm.trans h0_) (by decide), Q_D01, Q_D02, Q_D12⟩
     refine steps_cons ?_ ?_
     ·rintro b a w' ⟨v180, v185, v190, v193, m25_, ha, Q_BK173, Q_HB, Q_HO181, Q_HO186, Q_HO191, Q_HO194, Q_X25_, Q_D01, Q_D02, Q_D12⟩ hb_ hon hoff
      refine ⟨_, rfl, fun K hK => ?_⟩
      have e3 : a.tmps[3]? = some (.pointer (some ⟨gb173, 0, none⟩)) := by rw [ha]; exact (putSel_off rfl).trans rfl
      replace ha := aM ha; have BK173 := aM Q_BK173; have HB := aM Q_HB; have hc0_ : w'.cell? ⟨gb173, 0, none⟩ = some (.int .i64 a1_0) := vZ0 BK173; have hc1_ : w'.cell? ⟨gb173, 1, none⟩ = some (.int .i64 a1_1) := vZ1 BK173
      refine value_ (w1 := w') (v := .agg #[.int .i64 a1_0, .int .i64 a1_1]) (by rfl) rfl ?_ ?_
      ·go_simp
       (try simp only [i64_w])
       try rfl
      refine hK.out _ _ ⟨v180, v185, v190, v193, m25_, (by rw [ha.out]; exact putSel_upk 8 hb_ rfl rfl rfl), Q_BK173, Q_HB, Q_HO181, fun h0_ => absurd ((hoff 15 kR).symm.trans h0_) (by decide), Q_HO191, fun h0_ => absurd ((hoff 24 kR).symm.trans h0_) (by decide), fun h0_ => absurd ((hoff 25 kR).symm.trans h0_) (by decide), Q_D01, Q_D02, Q_D12⟩
     refine steps_cons ?_ ?_
     ·rintro b a w' ⟨v180, v185, v190, v193, m25_, ha, Q_BK173, Q_HB, Q_HO181, Q_HO186, Q_HO191, Q_HO194, Q_X25_, Q_D01, Q_D02, Q_D12⟩ hb_ hon hoff
      refine ⟨_, rfl, fun K hK => ?_⟩
      have e32 : a.tmps[32]? = some (.slice (some ad177) l0.length c0) := by rw [ha]; exact (putSel_off rfl).trans rfl
      replace ha := aM ha; have BK173 := aM Q_BK173; have HB := aM Q_HB; have hs6_ : w'.cell? ⟨ad177.block, ad177.off + 4, none⟩ = some (.int .i64 ((rd_impl_Peg l0 2).f0)) := (hC HB hw183_0 :); have hs7_ : w'.cell? ⟨ad177.block, ad177.off + 4 + 1, none⟩ = some (.int .i64 ((rd_impl_Peg l0 2).f1)) := (hC HB hw183_1 :)
      refine value_ (w1 := w') (v := .pointer (some (ad177.add 4))) (by rfl) rfl ?_ ?_
      ·go_simp
       (try simp only [i64_w])
       try rfl
      refine hK.out _ _ ⟨v180, v185, v190, v193, m25_, (by rw [ha.out]; exact putSel_upk 9 hb_ rfl rfl rfl), Q_BK173, Q_HB, Q_HO181, fun h0_ => absurd ((hoff 15 kR).symm.trans h0_) (by decide), Q_HO191, fun h0_ => absurd ((hoff 24 kR).symm.trans h0_) (by decide), fun h0_ => absurd ((hoff 25 kR).symm.trans h0_) (by decide), Q_D01, Q_D02, Q_D12⟩
     refine steps_cons ?_ ?_
     ·rintro b a w' ⟨v180, v185, v190, v193, m25_, ha, Q_BK173, Q_HB, Q_HO181, Q_HO186, Q_HO191, Q_HO194, Q_X25_, Q_D01, Q_D02, Q_D12⟩ hb_ hon hoff
      refine ⟨_, rfl, fun K hK => ?_⟩
      have e33 : a.tmps[33]? = some (.pointer (some (ad177.add 4))) := by rw [ha]; exact putSel_on (e := (13, 33, .pointer (some (ad177.add 4)))) 9 rfl rfl (hon 13 kR) rfl
      replace ha := aM ha; have BK173 := aM Q_BK173; have HB := aM Q_HB; have hs6_ : w'.cell? ⟨ad177.block, ad177.off + 4, none⟩ = some (.int .i64 ((rd_impl_Peg l0 2).f0)) := (hC HB hw183_0 :); have hs7_ : w'.cell? ⟨ad177.block, ad177.off + 4 + 1, none⟩ = some (.int .i64 ((rd_impl_Peg l0 2).f1)) := (hC HB hw183_1 :)
      refine value_ (w1 := w') (v := .agg #[.int .i64 ((rd_impl_Peg l0 2).f0), .int .i64 ((rd_impl_Peg l0 2).f1)]) (by rfl) rfl ?_ ?_
      ·go_simp
       (try simp only [i64_w])
       try rfl
      refine hK.out _ _ ⟨v180, v185, v190, v193, m25_, (by rw [ha.out]; exact putSel_upk 10 hb_ rfl rfl rfl), Q_BK173, Q_HB, Q_HO181, fun h0_ => absurd ((hoff 15 kR).symm.trans h0_) (by decide), Q_HO191, fun h0_ => absurd ((hoff 24 kR).symm.trans h0_) (by decide), fun h0_ => absurd ((hoff 25 kR).symm.trans h0_) (by decide), Q_D01, Q_D02, Q_D12⟩
     refine steps_cons ?_ ?_
     ·rintro b a w' ⟨v180, v185, v190, v193, m25_, ha, Q_BK173, Q_HB, Q_HO181, Q_HO186, Q_HO191, Q_HO194, Q_X25_, Q_D01, Q_D02, Q_D12⟩ hb_ hon hoff
      refine ⟨_, rfl, fun K hK => ?_⟩
      have e30 : a.tmps[30]? = some (.agg #[.int .i64 ((rd_impl_Peg l0 0).f0), .int .i64 ((rd_impl_Peg l0 0).f1)]) := by rw [ha]; exact putSel_on (e := (10, 30, .agg #[.int .i64 ((rd_impl_Peg l0 0).f0), .int .i64 ((rd_impl_Peg l0 0).f1)])) 7 rfl rfl (hon 10 kR) rfl
      have e31 : a.tmps[31]? = some (.agg #[.int .i64 a1_0, .int .i64 a1_1]) := by rw [ha]; exact putSel_on (e := (11, 31, .agg #[.int .i64 a1_0, .int .i64 a1_1])) 8 rfl rfl (hon 11 kR) rfl
      have e34 : a.tmps[34]? = some (.agg #[.int .i64 ((rd_impl_Peg l0 2).f0), .int .i64 ((rd_impl_Peg l0 2).f1)]) := by rw [ha]; exact putSel_on (e := (14, 34, .agg #[.int .i64 ((rd_impl_Peg l0 2).f0), .int .i64 ((rd_impl_Peg l0 2).f1)])) 10 rfl rfl (hon 14 kR) rfl
      replace ha := aM ha; have BK173 := aM Q_BK173; have HB := aM Q_HB
      refine Kd.R_lit_step kd_impl_Peg _ 26 ?hg (N := 35) ?hd (xs := ([(⟨(rd_impl_Peg l0 0).f0, (rd_impl_Peg l0 0).f1⟩ : S_impl_Peg), (⟨a1_0, a1_1⟩ : S_impl_Peg), (⟨(rd_impl_Peg l0 2).f0, (rd_impl_Peg l0 2).f1⟩ : S_impl_Peg)] : List (S_impl_Peg))) (inner := [.int .i64 ((rd_impl_Peg l0 0).f0), .int .i64 ((rd_impl_Peg l0 0).f1), .int .i64 a1_0, .int .i64 a1_1, .int .i64 ((rd_impl_Peg l0 2).f0), .int .i64 ((rd_impl_Peg l0 2).f1)]) (ok := fun _ => True) (okp := fun _ => True) ?hr ?hp (fun _ hk => hk) trivial (Below.refl _ _) (Nat.le_refl _) (by simp) ?_; (case hd => rfl); (case hg => rfl); (case hr => first | (go_simp; done) | (go_simp; rfl)); (case hp => exact (Reps.c2 (show Kd.M kd_impl_Peg _ _ _ (⟨(rd_impl_Peg l0 0).f0, (rd_impl_Peg l0 0).f1⟩ : S_impl_Peg) [.int .i64 ((rd_impl_Peg l0 0).f0), .int .i64 ((rd_impl_Peg l0 0).f1)] from (kd_impl_Peg_mkM _ _ _ (⟨(rd_impl_Peg l0 0).f0, (rd_impl_Peg l0 0).f1⟩ : S_impl_Peg) )) (Reps.c2 (show Kd.M kd_impl_Peg _ _ _ (⟨a1_0, a1_1⟩ : S_impl_Peg) [.int .i64 a1_0, .int .i64 a1_1] from (kd_impl_Peg_mkM _ _ _ (⟨a1_0, a1_1⟩ : S_impl_Peg) )) (Reps.c2 (show Kd.M kd_impl_Peg _ _ _ (⟨(rd_impl_Peg l0 2).f0, (rd_impl_Peg l0 2).f1⟩ : S_impl_Peg) [.int .i64 ((rd_impl_Peg l0 2).f0), .int .i64 ((rd_impl_Peg l0 2).f1)] from (kd_impl_Peg_mkM _ _ _ (⟨(rd_impl_Peg l0 2).f0, (rd_impl_Peg l0 2).f1⟩ : S_impl_Peg) )) (Reps.none _ _)))))
      intro v185 w19 ho20 hb hg_ hnew_
      clear hg_ hnew_
      (first | rw [← Ny184.out] at ho20 | (simp only [Int.reduceToNat] at ho20; rw [← Ny184.out] at ho20))
      have z_D01 : b 7 = true → ∀ k_, some k_ = (v180 : Value).ownBlock → some k_ ≠ (v185 : Value).ownBlock := fun h0_ k_ e1_ e2_ => absurd (Kd.R_lt (Q_HO181 h0_) k_ e1_.symm) (Nat.not_lt.2 (Kd.R_base ho20 k_ e2_.symm)); have z_D12 : b 23 = true → ∀ k_, some k_ = (v185 : Value).ownBlock → some k_ ≠ (v190 : Value).ownBlock := fun h0_ k_ e1_ e2_ => absurd (Kd.R_lt (Q_HO191 h0_) k_ e2_.symm) (Nat.not_lt.2 (Kd.R_base ho20 k_ e1_.symm)); have n0_ := aM (Kd.R_lower (Kd.R_newB ho20 (g := gb173) (o := .cells #[.int .i64 a1_0, .int .i64 a1_1] 26 (0, 0)) (gQ BK173)) (pZ bE)); have n1_ := bB BK173 hb; have n2_ := tB HB hb; have z_HO181 := fun (h0_ : b 7 = true) => (show Kd.R kd_impl_Peg 26 w19 w.heap.size (fun k_ => k_ ≠ gb173) v180 y179 from by first | exact (Kd.R_elder' (by (with_reducible repeat (first | apply rA | apply rN | apply rD)); exact (Q_HO181 h0_)) (Kd.R_base ho20) hb) | exact Kd.R_mono (Kd.R_elder' (by (with_reducible repeat (first | apply rA | apply rN | apply rD)); exact (Q_HO181 h0_)) (Kd.R_base ho20) hb) (fun _ h_ => by first | trivial | exact h_ | exact h_.1))
      have z_HO191 := fun (h0_ : b 23 = true) => (show Kd.R kd_impl_Peg 26 w19 w.heap.size (fun k_ => k_ ≠ gb173) v190 y189 from by first | exact (Kd.R_elder' (by (with_reducible repeat (first | apply rA | apply rN | apply rD)); exact (Q_HO191 h0_)) (Kd.R_base ho20) hb) | exact Kd.R_mono (Kd.R_elder' (by (with_reducible repeat (first | apply rA | apply rN | apply rD)); exact (Q_HO191 h0_)) (Kd.R_base ho20) hb) (fun _ h_ => by first | trivial | exact h_ | exact h_.1))
      clear BK173; clear HB; have HO186 := n0_; have BK173 := n1_; have HB := n2_; clear n0_ n1_ n2_; clear hb ho20
      refine hK.out _ _ ⟨v180, v185, v190, v193, m25_, (by rw [ha.out]; exact putSel_upk 11 hb_ rfl rfl rfl), (gQ BK173), bE, z_HO181, fun _ => (by (with_reducible repeat (first | apply rA | apply rN | apply rD)); exact Kd.R_mono HO186.out (fun _ hk => hk.2)), z_HO191, fun h0_ => absurd ((hoff 24 kR).symm.trans h0_) (by decide), fun h0_ => absurd ((hoff 25 kR).symm.trans h0_) (by decide), fun h0_ _ => z_D01 h0_, Q_D02, fun _ h0_ => z_D12 h0_⟩
     refine steps_cons ?_ ?_
     ·rintro b a w' ⟨v180, v185, v190, v193, m25_, ha, Q_BK173, Q_HB, Q_HO181, Q_HO186, Q_HO191, Q_HO194, Q_X25_, Q_D01, Q_D02, Q_D12⟩ hb_ hon hoff
      refine ⟨_, rfl, fun K hK => ?_⟩
      have e36 : a.tmps[36]? = some (.slice (some ad177) l0.length c0) := by rw [ha]; exact (putSel_off rfl).trans rfl
      replace ha := aM ha; have BK173 := aM Q_BK173; have HB := aM Q_HB; have hs8_ : w'.cell? ad177 = some (.int .i64 ((rd_impl_Peg l0 0).f0)) := (hC HB hw187_0 :); have hs9_ : w'.cell? ⟨ad177.block, ad177.off + 1, none⟩ = some (.int .i64 ((rd_impl_Peg l0 0).f1)) := (hC HB hw187_1 :)
      refine value_ (w1 := w') (v := .pointer (some ad177)) (by rfl) rfl ?_ ?_
      ·go_simp
       (try simp only [i64_w])
       try rfl
      refine hK.out _ _ ⟨v180, v185, v190, v193, m25_, (by rw [ha.out]; exact putSel_upk 12 hb_ rfl rfl rfl), Q_BK173, Q_HB, Q_HO181, Q_HO186, fun h0_ => absurd ((hoff 23 kR).symm.trans h0_) (by decide), fun h0_ => absurd ((hoff 24 kR).symm.trans h0_) (by decide), fun h0_ => absurd ((hoff 25 kR).symm.trans h0_) (by decide), Q_D01, Q_D02, Q_D12⟩
     refine steps_cons ?_ ?_
     ·rintro b a w' ⟨v180, v185, v190, v193, m25_, ha, Q_BK173, Q_HB, Q_HO181, Q_HO186, Q_HO191, Q_HO194, Q_X25_, Q_D01, Q_D02, Q_D12⟩ hb_ hon hoff
      refine ⟨_, rfl, fun K hK => ?_⟩
      have e37 : a.tmps[37]? = some (.pointer (some ad177)) := by rw [ha]; exact putSel_on (e := (17, 37, .pointer (some ad177))) 12 rfl rfl (hon 17 kR) rfl
      replace ha := aM ha; have BK173 := aM Q_BK173; have HB := aM Q_HB; have hs8_ : w'.cell? ad177 = some (.int .i64 ((rd_impl_Peg l0 0).f0)) := (hC HB hw187_0 :); have hs9_ : w'.cell? ⟨ad177.block, ad177.off + 1, none⟩ = some (.int .i64 ((rd_impl_Peg l0 0).f1)) := (hC HB hw187_1 :)
      refine value_ (w1 := w') (v := .agg #[.int .i64 ((rd_impl_Peg l0 0).f0), .int .i64 ((rd_impl_Peg l0 0).f1)]) (by rfl) rfl ?_ ?_
      ·go_simp
       (try simp only [i64_w])
       try rfl
      refine hK.out _ _ ⟨v180, v185, v190, v193, m25_, (by rw [ha.out]; exact putSel_upk 13 hb_ rfl rfl rfl), Q_BK173, Q_HB, Q_HO181, Q_HO186, fun h0_ => absurd ((hoff 23 kR).symm.trans h0_) (by decide), fun h0_ => absurd ((hoff 24 kR).symm.trans h0_) (by decide), fun h0_ => absurd ((hoff 25 kR).symm.trans h0_) (by decide), Q_D01, Q_D02, Q_D12⟩
     refine steps_cons ?_ ?_
     ·rintro b a w' ⟨v180, v185, v190, v193, m25_, ha, Q_BK173, Q_HB, Q_HO181, Q_HO186, Q_HO191, Q_HO194, Q_X25_, Q_D01, Q_D02, Q_D12⟩ hb_ hon hoff
      refine ⟨_, rfl, fun K hK => ?_⟩
      have e39 : a.tmps[39]? = some (.slice (some ad177) l0.length c0) := by rw [ha]; exact (putSel_off rfl).trans rfl
      replace ha := aM ha; have BK173 := aM Q_BK173; have HB := aM Q_HB; have hs10_ : w'.cell? ⟨ad177.block, ad177.off + 2, none⟩ = some (.int .i64 ((rd_impl_Peg l0 1).f0)) := (hC HB hw188_0 :); have hs11_ : w'.cell? ⟨ad177.block, ad177.off + 2 + 1, none⟩ = some (.int .i64 ((rd_impl_Peg l0 1).f1)) := (hC HB hw188_1 :)
      refine value_ (w1 := w') (v := .pointer (some (ad177.add 2))) (by rfl) rfl ?_ ?_
      ·go_simp
       (try simp only [i64_w])
       try rfl
      refine hK.out _ _ ⟨v180, v185, v190, v193, m25_, (by rw [ha.out]; exact putSel_upk 14 hb_ rfl rfl rfl), Q_BK173, Q_HB, Q_HO181, Q_HO186, fun h0_ => absurd ((hoff 23 kR).symm.trans h0_) (by decide), fun h0_ => absurd ((hoff 24 kR).symm.trans h0_) (by decide), fun h0_ => absurd ((hoff 25 kR).symm.trans h0_) (by decide), Q_D01, Q_D02, Q_D12⟩
     refine steps_cons ?_ ?_
     ·rintro b a w' ⟨v180, v185, v190, v193, m25_, ha, Q_BK173, Q_HB, Q_HO181, Q_HO186, Q_HO191, Q_HO194, Q_X25_, Q_D01, Q_D02, Q_D12⟩ hb_ hon hoff
      refine ⟨_, rfl, fun K hK => ?_⟩
      have e40 : a.tmps[40]? = some (.pointer (some (ad177.add 2))) := by rw [ha]; exact putSel_on (e := (20, 40, .pointer (some (ad177.add 2)))) 14 rfl rfl (hon 20 kR) rfl
      replace ha := aM ha; have BK173 := aM Q_BK173; have HB := aM Q_HB; have hs10_ : w'.cell? ⟨ad177.block, ad177.off + 2, none⟩ = some (.int .i64 ((rd_impl_Peg l0 1).f0)) := (hC HB hw188_0 :); have hs11_ : w'.cell? ⟨ad177.block, ad177.off + 2 + 1, none⟩ = some (.int .i64 ((rd_impl_Peg l0 1).f1)) := (hC HB hw188_1 :)
      refine value_ (w1 := w') (v := .agg #[.int .i64 ((rd_impl_Peg l0 1).f0), .int .i64 ((rd_impl_Peg l0 1).f1)]) (by rfl) rfl ?_ ?_
      ·go_simp
       (try simp only [i64_w])
       try rfl
      refine hK.out _ _ ⟨v180, v185, v190, v193, m25_, (by rw [ha.out]; exact putSel_upk 15 hb_ rfl rfl rfl), Q_BK173, Q_HB, Q_HO181, Q_HO186, fun h0_ => absurd ((hoff 23 kR).symm.trans h0_) (by decide), fun h0_ => absurd ((hoff 24 kR).symm.trans h0_) (by decide), fun h0_ => absurd ((hoff 25 kR).symm.trans h0_) (by decide), Q_D01, Q_D02, Q_D12⟩
     refine steps_cons ?_ ?_
     ·rintro b a w' ⟨v180, v185, v190, v193, m25_, ha, Q_BK173, Q_HB, Q_HO181, Q_HO186, Q_HO191, Q_HO194, Q_X25_, Q_D01, Q_D02, Q_D12⟩ hb_ hon hoff
      refine ⟨_, rfl, fun K hK => ?_⟩
      have e3 : a.tmps[3]? = some (.pointer (some ⟨gb173, 0, none⟩)) := by rw [ha]; exact (putSel_off rfl).trans rfl
      replace ha := aM ha; have BK173 := aM Q_BK173; have HB := aM Q_HB; have hc0_ : w'.cell? ⟨gb173, 0, none⟩ = some (.int .i64 a1_0) := vZ0 BK173; have hc1_ : w'.cell? ⟨gb173, 1, none⟩ = some (.int .i64 a1_1) := vZ1 BK173
      refine value_ (w1 := w') (v := .agg #[.int .i64 a1_0, .int .i64 a1_1]) (by rfl) rfl ?_ ?_
      ·go_simp
       (try simp only [i64_w])
       try rfl
      refine hK.out _ _ ⟨v180, v185, v190, v193, m25_, (by rw [ha.out]; exact putSel_upk 16 hb_ rfl rfl rfl), Q_BK173, Q_HB, Q_HO181, Q_HO186, fun h0_ => absurd ((hoff 23 kR).symm.trans h0_) (by decide), fun h0_ => absurd ((hoff 24 kR).symm.trans h0_) (by decide), fun h0_ => absurd ((hoff 25 kR).symm.trans h0_) (by decide), Q_D01, Q_D02, Q_D12⟩
     refine steps_cons ?_ ?_
     ·rintro b a w' ⟨v180, v185, v190, v193, m25_, ha, Q_BK173, Q_HB, Q_HO181, Q_HO186, Q_HO191, Q_HO194, Q_X25_, Q_D01, Q_D02, Q_D12⟩ hb_ hon hoff
      refine ⟨_, rfl, fun K hK => ?_⟩
      have e38 : a.tmps[38]? = some (.agg #[.int .i64 ((rd_impl_Peg l0 0).f0), .int .i64 ((rd_impl_Peg l0 0).f1)]) := by rw [ha]; exact putSel_on (e := (18, 38, .agg #[.int .i64 ((rd_impl_Peg l0 0).f0), .int .i64 ((rd_impl_Peg l0 0).f1)])) 13 rfl rfl (hon 18 kR) rfl
      have e41 : a.tmps[41]? = some (.agg #[.int .i64 ((rd_impl_Peg l0 1).f0), .int .i64 ((rd_impl_Peg l0 1).f1)]) := by rw [ha]; exact putSel_on (e := (21, 41, .agg #[.int .i64 ((rd_impl_Peg l0 1).f0), .int .i64 ((rd_impl_Peg l0 1).f1)])) 15 rfl rfl (hon 21 kR) rfl
      have e42 : a.tmps[42]? = some (.agg #[.int .i64 a1_0, .int .i64 a1_1]) := by rw [ha]; exact putSel_on (e := (22, 42, .agg #[.int .i64 a1_0, .int .i64 a1_1])) 16 rfl rfl (hon 22 kR) rfl
      replace ha := aM ha; have BK173 := aM Q_BK173; have HB := aM Q_HB
      refine Kd.R_lit_step kd_impl_Peg _ 26 ?hg (N := 43) ?hd (xs := ([(⟨(rd_impl_Peg l0 0).f0, (rd_impl_Peg l0 0).f1⟩ : S_impl_Peg), (⟨(rd_impl_Peg l0 1).f0, (rd_impl_Peg l0 1).f1⟩ : S_impl_Peg), (⟨a1_0, a1_1⟩ : S_impl_Peg)] : List (S_impl_Peg))) (inner := [.int .i64 ((rd_impl_Peg l0 0).f0), .int .i64 ((rd_impl_Peg l0 0).f1), .int .i64 ((rd_impl_Peg l0 1).f0), .int .i64 ((rd_impl_Peg l0 1).f1), .int .i64 a1_0, .int .i64 a1_1]) (ok := fun _ => True) (okp := fun _ => True) ?hr ?hp (fun _ hk => hk) trivial (Below.refl _ _) (Nat.le_refl _) (by simp) ?_; (case hd => rfl); (case hg => rfl); (case hr => first | (go_simp; done) | (go_simp; rfl)); (case hp => exact (Reps.c2 (show Kd.M kd_impl_Peg _ _ _ (⟨(rd_impl_Peg l0 0).f0, (rd_impl_Peg l0 0).f1⟩ : S_impl_Peg) [.int .i64 ((rd_impl_Peg l0 0).f0), .int .i64 ((rd_impl_Peg l0 0).f1)] from (kd_impl_Peg_mkM _ _ _ (⟨(rd_impl_Peg l0 0).f0, (rd_impl_Peg l0 0).f1⟩ : S_impl_Peg) )) (Reps.c2 (show Kd.M kd_impl_Peg _ _ _ (⟨(rd_impl_Peg l0 1).f0, (rd_impl_Peg l0 1).f1⟩ : S_impl_Peg) [.int .i64 ((rd_impl_Peg l0 1).f0), .int .i64 ((rd_impl_Peg l0 1).f1)] from (kd_impl_Peg_mkM _ _ _ (⟨(rd_impl_Peg l0 1).f0, (rd_impl_Peg l0 1).f1⟩ : S_impl_Peg) )) (Reps.c2 (show Kd.M kd_impl_Peg _ _ _ (⟨a1_0, a1_1⟩ : S_impl_Peg) [.int .i64 a1_0, .int .i64 a1_1] from (kd_impl_Peg_mkM _ _ _ (⟨a1_0, a1_1⟩ : S_impl_Peg) )) (Reps.none _ _)))))
      intro v190 w19 ho20 hb hg_ hnew_
      clear hg_ hnew_
      (first | rw [← Ny189.out] at ho20 | (simp only [Int.reduceToNat] at ho20; rw [← Ny189.out] at ho20))
      have z_D02 : b 7 = true → ∀ k_, some k_ = (v180 : Value).ownBlock → some k_ ≠ (v190 : Value).ownBlock := fun h0_ k_ e1_ e2_ => absurd (Kd.R_lt (Q_HO181 h0_) k_ e1_.symm) (Nat.not_lt.2 (Kd.R_base ho20 k_ e2_.symm)); have z_D12 : b 15 = true → ∀ k_, some k_ = (v185 : Value).ownBlock → some k_ ≠ (v190 : Value).ownBlock := fun h0_ k_ e1_ e2_ => absurd (Kd.R_lt (Q_HO186 h0_) k_ e1_.symm) (Nat.not_lt.2 (Kd.R_base ho20 k_ e2_.symm)); have n0_ := aM (Kd.R_lower (Kd.R_newB ho20 (g := gb173) (o := .cells #[.int .i64 a1_0, .int .i64 a1_1] 26 (0, 0)) (gQ BK173)) (pZ bE)); have n1_ := bB BK173 hb; have n2_ := tB HB hb; have z_HO181 := fun (h0_ : b 7 = true) => (show Kd.R kd_impl_Peg 26 w19 w.heap.size (fun k_ => k_ ≠ gb173) v180 y179 from by first | exact (Kd.R_elder' (by (with_reducible repeat (first | apply rA | apply rN | apply rD)); exact (Q_HO181 h0_)) (Kd.R_base ho20) hb) | exact Kd.R_mono (Kd.R_elder' (by (with_reducible repeat (first | apply rA | apply rN | apply rD)); exact (Q_HO181 h0_)) (Kd.R_base ho20) hb) (fun _ h_ => by first | trivial | exact h_ | exact h_.1))
      have z_HO186 := fun (h0_ : b 15 = true) => (show Kd.R kd_impl_Peg 26 w19 w.heap.size (fun k_ => k_ ≠ gb173) v185 y184 from by first | exact (Kd.R_elder' (by (with_reducible repeat (first | apply rA | apply rN | apply rD)); exact (Q_HO186 h0_)) (Kd.R_base ho20) hb) | exact Kd.R_mono (Kd.R_elder' (by (with_reducible repeat (first | apply rA | apply rN | apply rD)); exact (Q_HO186 h0_)) (Kd.R_base ho20) hb) (fun _ h_ => by first | trivial | exact h_ | exact h_.1))
      clear BK173; clear HB; have HO191 := n0_; have BK173 := n1_; have HB := n2_; clear n0_ n1_ n2_; clear hb ho20
      refine hK.out _ _ ⟨v180, v185, v190, v193, m25_, (by rw [ha.out]; exact putSel_upk 17 hb_ rfl rfl rfl), (gQ BK173), bE, z_HO181, z_HO186, fun _ => (by (with_reducible repeat (first | apply rA | apply rN | apply rD)); exact Kd.R_mono HO191.out (fun _ hk => hk.2)), fun h0_ => absurd ((hoff 24 kR).symm.trans h0_) (by decide), fun h0_ => absurd ((hoff 25 kR).symm.trans h0_) (by decide), Q_D01, fun h0_ _ => z_D02 h0_, fun h0_ _ => z_D12 h0_⟩
     refine steps_cons ?_ ?_
     ·rintro b a w' ⟨v180, v185, v190, v193, m25_, ha, Q_BK173, Q_HB, Q_HO181, Q_HO186, Q_HO191, Q_HO194, Q_X25_, Q_D01, Q_D02, Q_D12⟩ hb_ hon hoff
      refine ⟨_, rfl, fun K hK => ?_⟩
      have e27 : a.tmps[27]? = some (v180) := by rw [ha]; exact putSel_on (e := (7, 27, v180)) 5 rfl rfl (hon 7 kR) rfl
      have e35 : a.tmps[35]? = some (v185) := by rw [ha]; exact putSel_on (e := (15, 35, v185)) 11 rfl rfl (hon 15 kR) rfl
      have e43 : a.tmps[43]? = some (v190) := by rw [ha]; exact putSel_on (e := (23, 43, v190)) 17 rfl rfl (hon 23 kR) rfl
      replace ha := aM ha; have BK173 := aM Q_BK173; have HB := aM Q_HB; have HO181 := aM (Q_HO181 (hon 7 kR)); have HO186 := aM (Q_HO186 (hon 15 kR)); have HO191 := aM (Q_HO191 (hon 23 kR)); obtain ⟨Ao26, co26, eo26⟩ := Kd.R_slice HO181.out
      (first | subst eo26 | (injection eo26 with f1_ f2_ f3_; have f4_ := f1_.symm; have f5_ := f3_.symm; clear f1_ f2_ f3_; subst f4_; subst f5_))
      obtain ⟨Ao27, co27, eo27⟩ := Kd.R_slice HO186.out
      (first | subst eo27 | (injection eo27 with f1_ f2_ f3_; have f4_ := f1_.symm; have f5_ := f3_.symm; clear f1_ f2_ f3_; subst f4_; subst f5_))
      obtain ⟨Ao28, co28, eo28⟩ := Kd.R_slice HO191.out
      (first | subst eo28 | (injection eo28 with f1_ f2_ f3_; have f4_ := f1_.symm; have f5_ := f3_.symm; clear f1_ f2_ f3_; subst f4_; subst f5_))
      refine Kd.S_lits3_step kd_impl_Peg w.heap.size 29 26 ?hg (N := 44) ?hd (x1 := y179) (x2 := y184) (x3 := y189) (u1 := .slice Ao26 y179.length co26) (u2 := .slice Ao27 y184.length co27) (u3 := .slice Ao28 y189.length co28) (ok := (fun k_ => k_ ≠ gb173)) rfl (by (with_reducible repeat (first | apply rA | apply rN | apply rD)); exact HO181.out) (by (with_reducible repeat (first | apply rA | apply rN | apply rD)); exact HO186.out) (by (with_reducible repeat (first | apply rA | apply rN | apply rD)); exact HO191.out) (Q_D01 (hon 7 kR) (hon 15 kR)) (Q_D02 (hon 7 kR) (hon 23 kR)) (Q_D12 (hon 15 kR) (hon 23 kR)) ?hr (Kd.freshB (g := gb173) (o := .cells #[.int .i64 a1_0, .int .i64 a1_1] 26 (0, 0)) (gQ BK173) _ (Nat.le_refl _)) (pZ bE) ?_; (case hd => rfl); (case hg => rfl); (case hr => first | (go_simp; done) | (go_simp; rfl))
      intro v193 w29 ho30 hb hg_ hnew_
      clear hg_ hnew_
      (first | rw [← Ny192.out] at ho30 | (simp only [Int.reduceToNat] at ho30; rw [← Ny192.out] at ho30))
      have HO194 := aM ho30; replace HO181 := aM (Kd.R_below (by (with_reducible repeat (first | apply rA | apply rN | apply rD)); exact HO181.out) hb); replace HO186 := aM (Kd.R_below (by (with_reducible repeat (first | apply rA | apply rN | apply rD)); exact HO186.out) hb); replace HO191 := aM (Kd.R_below (by (with_reducible repeat (first | apply rA | apply rN | apply rD)); exact HO191.out) hb); replace BK173 := bB BK173 hb; replace HB := tB HB hb
      clear hb ho30
      refine hK.out _ _ ⟨.slice Ao26 y179.length co26, .slice Ao27 y184.length co27, .slice Ao28 y189.length co28, v193, m25_, (by rw [ha.out]; exact putSel_upk 18 hb_ rfl rfl rfl), (gQ BK173), bE, fun _ => (by (with_reducible repeat (first | apply rA | apply rN | apply rD)); exact HO181.out), fun _ => (by (with_reducible repeat (first | apply rA | apply rN | apply rD)); exact HO186.out), fun _ => (by (with_reducible repeat (first | apply rA | apply rN | apply rD)); exact HO191.out), fun _ => (by (with_reducible repeat (first | apply Kd.S_alloc | apply Kd.S_drewN | apply Kd.S_drew)); exact HO194.out), fun h0_ => absurd ((hoff 25 kR).symm.trans h0_) (by decide), Q_D01, Q_D02, Q_D12⟩
     refine steps_cons ?_ ?_
     ·rintro b a w' ⟨v180, v185, v190, v193, m25_, ha, Q_BK173, Q_HB, Q_HO181, Q_HO186, Q_HO191, Q_HO194, Q_X25_, Q_D01, Q_D02, Q_D12⟩ hb_ hon hoff
      refine ⟨_, rfl, fun K hK => ?_⟩
      have e44 : a.tmps[44]? = some (v193) := by rw [ha]; exact putSel_on (e := (24, 44, v193)) 18 rfl rfl (hon 24 kR) rfl
      replace ha := aM ha; have BK173 := aM Q_BK173; have HB := aM Q_HB; have HO181 := aM (Q_HO181 (hon 7 kR)); have HO186 := aM (Q_HO186 (hon 15 kR)); have HO191 := aM (Q_HO191 (hon 23 kR)); have HO194 := aM (Q_HO194 (hon 24 kR))
      refine value_ (w1 := w') (v := v193) (by rfl) rfl ?_ ?_
      ·go_simp
       (try simp only [i64_w])
       try rfl
      refine hK.out _ _ ⟨v180, v185, v190, v193, (v193), (by rw [ha.out]; exact putSel_upk 19 hb_ rfl rfl rfl), Q_BK173, Q_HB, Q_HO181, Q_HO186, Q_HO191, Q_HO194, fun _ => rfl, Q_D01, Q_D02, Q_D12⟩
     refine steps_cons ?_ ?_
     ·rintro b a w' ⟨v180, v185, v190, v193, m25_, ha, Q_BK173, Q_HB, Q_HO181, Q_HO186, Q_HO191, Q_HO194, Q_X25_, Q_D01, Q_D02, Q_D12⟩ hb_ hon hoff
      refine ⟨_, rfl, fun K hK => ?_⟩
      replace ha := aM ha; have BK173 := aM Q_BK173; have HB := aM Q_HB; have HO181 := aM (Q_HO181 (hon 7 kR)); have HO186 := aM (Q_HO186 (hon 15 kR)); have HO191 := aM (Q_HO191 (hon 23 kR)); have HO194 := aM (Q_HO194 (hon 24 kR))
      refine value_ (w1 := w') (v := .bool true) (by rfl) rfl ?_ ?_
      ·go_simp
       (try simp only [i64_w])
       try rfl
      refine hK.out _ _ ⟨v180, v185, v190, v193, m25_, (by rw [ha.out]; exact putSel_upk 20 hb_ rfl rfl rfl), Q_BK173, Q_HB, Q_HO181, Q_HO186, Q_HO191, Q_HO194, Q_X25_, Q_D01, Q_D02, Q_D12⟩
     exact steps_nil
    rintro b a w30 hall ⟨v180, v185, v190, v193, m25_, ha, Q_BK173, Q_HB, Q_HO181, Q_HO186, Q_HO191, Q_HO194, Q_X25_, Q_D01, Q_D02, Q_D12⟩; clear BK173 HB; have hb0_ := hall 0 kR; have hb2_ := hall 2 kR; have hb3_ := hall 3 kR; have hb5_ := hall 5 kR; have hb6_ := hall 6 kR; have hb7_ := hall 7 kR; have hb9_ := hall 9 kR; have hb10_ := hall 10 kR; have hb11_ := hall 11 kR; have hb13_ := hall 13 kR; have hb14_ := hall 14 kR; have hb15_ := hall 15 kR; have hb17_ := hall 17 kR; have hb18_ := hall 18 kR; have hb20_ := hall 20 kR; have hb21_ := hall 21 kR; have hb22_ := hall 22 kR; have hb23_ := hall 23 kR; have hb24_ := hall 24 kR; have hb25_ := hall 25 kR; have hb26_ := hall 26 kR; subst ha; obtain rfl := Q_X25_ hb25_
    simp only [putSel, hb0_, hb2_, hb3_, hb5_, hb6_, hb7_, hb9_, hb10_, hb11_, hb13_, hb14_, hb15_, hb17_, hb18_, hb20_, hb21_, hb22_, hb23_, hb24_, hb25_, hb26_, if_true, Act.put, sI, sZ, sS]
    have BK173 := aM Q_BK173; clear Q_BK173; have HB := aM Q_HB; clear Q_HB; have HO181 := aM (Q_HO181 hb7_); clear Q_HO181; have HO186 := aM (Q_HO186 hb15_); clear Q_HO186; have HO191 := aM (Q_HO191 hb23_); clear Q_HO191; have HO194 := aM (Q_HO194 hb24_); clear Q_HO194; clear hall hb0_ hb2_ hb3_ hb5_ hb6_ hb7_ hb9_ hb10_ hb11_ hb13_ hb14_ hb15_ hb17_ hb18_ hb20_ hb21_ hb22_ hb23_ hb24_ hb25_ hb26_
    try go_wp2
    go_ret2
    exact ⟨_, by first | rfl | (simp [errW_none, errW_some] <;> rfl) | (simp [*, errW_none, errW_some] <;> rfl), by (with_reducible repeat (first | apply Kd.S_alloc | apply Kd.S_drewN | apply Kd.S_drew)); exact Kd.S_mono HO194.out (fun _ hk => trivial), bE⟩
   ·rw [if_neg c8] at H; have c8b0 : (t176 == 1) = false := beq_eq_false_iff_ne.mpr c8; have c8b1 : (t176 != 1) = true := bne_iff_ne.mpr c8
    simp only [Option.some.injEq, Prod.mk.injEq] at H
    obtain ⟨rfl, rfl⟩ := H
    go_enter Try.func44, Try.ntmps44
    go_wp2_with (first | ((with_reducible refine gate_dst (N := 3) rfl ?_); refine bV 3 (cs := #[.int .i64 a1_0, .int .i64 a1_1]) (t := 26) rfl rfl (by first | (go_simp; done) | (go_simp; rfl)) ?_; intro gb173 hg w31 hbox hb; have BK173 := hbox; have GW173 := gZ HB hg; have GE173 := gZ HB hg; replace HB := tB HB hb; clear hb hbox hg) | ((with_reducible refine gC (f := 54) rfl ?_); refine goesL_ (some 7) rfl rfl Try.func54 kR rfl #[.slice A0 l0.length c0] rfl sQ ?_; (with_reducible refine (spec_trThree.calls k _ _ l0 true _ ?side1 ?side2 A3.out).mono ?_); (case side1 => repeat (first | exact (Kd.C_below HR0.out HB.out) | (with_reducible refine cA ?_ _) | (with_reducible refine cN ?_ _) | (with_reducible refine cD ?_))); (case side2 => exact HC0.out); rintro e w32 ⟨rfl, hb⟩; refine ⟨_, rfl, ?_⟩; replace BK173 := bB BK173 hb; replace HB := tB HB hb; (try clear hb); (try clear hb2); (try clear hk); (try clear hi); have hcz33_0 := vZ0 BK173; have hcz33_1 := vZ1 BK173; have hfz33_0 := kF BK173.out 0; have hfz33_1 := kF BK173.out 1) | (go_at_call 57; (with_reducible refine (spec_pgIs.calls a1_0 a1_1 true _ A5.out).mono ?_); rintro e w34 ⟨rfl, hb⟩; replace BK173 := bB BK173 hb; replace HB := tB HB hb; (try clear hb); (try clear hb2); (try clear hk); (try clear hi); have hcz35_0 := vZ0 BK173; have hcz35_1 := vZ1 BK173; have hfz35_0 := kF BK173.out 0; have hfz35_1 := kF BK173.out 1) | (go_at_call 96; (with_reducible refine (spec_pgWhere.calls k _ _ l0 a1_0 a1_1 t176 _ ?side1 ?side2 A7.out).mono ?_); (case side1 => repeat (first | exact (Kd.C_below HR0.out HB.out) | (with_reducible refine cA ?_ _) | (with_reducible refine cN ?_ _) | (with_reducible refine cD ?_))); (case side2 => exact HC0.out); rintro e w36 ⟨rfl, hb⟩; replace BK173 := bB BK173 hb; replace HB := tB HB hb; (try clear hb); (try clear hb2); (try clear hk); (try clear hi)))
    go_ret2
    exact ⟨_, by first | rfl | (simp [errW_none, errW_some] <;> rfl) | (simp [*, errW_none, errW_some] <;> rfl), by first | exact Kd.S_nil _ _ _ _ _ | exact Kd.N_nil _ _ _ _ _ | exact Kd.V_nil _ _ _ _ _ | exact Kd.Q_nil _ _ _ _ _ | exact Kd.R_nil _ _ _ _ _, bE⟩
  ·replace c6 := Bool.eq_false_iff.mpr c6; subst c6; replace H := iF H
   simp only [Option.some.injEq, Prod.mk.injEq] at H
   obtain ⟨rfl, rfl⟩ := H
   go_enter Try.func44, Try.ntmps44
   go_wp2_with (first | ((with_reducible refine gate_dst (N := 3) rfl ?_); refine bV 3 (cs := #[.int .i64 a1_0, .int .i64 a1_1]) (t := 26) rfl rfl (by first | (go_simp; done) | (go_simp; rfl)) ?_; intro gb173 hg w37 hbox hb; have BK173 := hbox; have GW173 := gZ HB hg; have GE173 := gZ HB hg; replace HB := tB HB hb; clear hb hbox hg) | ((with_reducible refine gC (f := 54) rfl ?_); refine goesL_ (some 7) rfl rfl Try.func54 kR rfl #[.slice A0 l0.length c0] rfl sQ ?_; (with_reducible refine (spec_trThree.calls k _ _ l0 true _ ?side1 ?side2 A3.out).mono ?_); (case side1 => repeat (first | exact (Kd.C_below HR0.out HB.out) | (with_reducible refine cA ?_ _) | (with_reducible refine cN ?_ _) | (with_reducible refine cD ?_))); (case side2 => exact HC0.out); rintro e w38 ⟨rfl, hb⟩; refine ⟨_, rfl, ?_⟩; replace BK173 := bB BK173 hb; replace HB := tB HB hb; (try clear hb); (try clear hb2); (try clear hk); (try clear hi); have hcz39_0 := vZ0 BK173; have hcz39_1 := vZ1 BK173; have hfz39_0 := kF BK173.out 0; have hfz39_1 := kF BK173.out 1) | (go_at_call 57; (with_reducible refine (spec_pgIs.calls a1_0 a1_1 false _ A5.out).mono ?_); rintro e w40 ⟨rfl, hb⟩; replace BK173 := bB BK173 hb; replace HB := tB HB hb; (try clear hb); (try clear hb2); (try clear hk); (try clear hi)))
   go_ret2
   exact ⟨_, by first | rfl | (simp [errW_none, errW_some] <;> rfl) | (simp [*, errW_none, errW_some] <;> rfl), by first | exact Kd.S_nil _ _ _ _ _ | exact Kd.N_nil _ _ _ _ _ | exact Kd.V_nil _ _ _ _ _ | exact Kd.Q_nil _ _ _ _ _ | exact Kd.R_nil _ _ _ _ _, bE⟩
 ·replace c4 := Bool.eq_false_iff.mpr c4; subst c4; replace H := iF H
  simp only [Option.some.injEq, Prod.mk.injEq] at H
  obtain ⟨rfl, rfl⟩ := H
  go_enter Try.func44, Try.ntmps44
  go_wp2_with (first | ((with_reducible refine gate_dst (N := 3) rfl ?_); refine bV 3 (cs := #[.int .i64 a1_0, .int .i64 a1_1]) (t := 26) rfl rfl (by first | (go_simp; done) | (go_simp; rfl)) ?_; intro gb173 hg w41 hbox hb; have BK173 := hbox; have GW173 := gZ HB hg; have GE173 := gZ HB hg; replace HB := tB HB hb; clear hb hbox hg) | ((with_reducible refine gC (f := 54) rfl ?_); refine goesL_ (some 7) rfl rfl Try.func54 kR rfl #[.slice A0 l0.length c0] rfl sQ ?_; (with_reducible refine (spec_trThree.calls k _ _ l0 false _ ?side1 ?side2 A3.out).mono ?_); (case side1 => repeat (first | exact (Kd.C_below HR0.out HB.out) | (with_reducible refine cA ?_ _) | (with_reducible refine cN ?_ _) | (with_reducible refine cD ?_))); (case side2 => exact HC0.out); rintro e w42 ⟨rfl, hb⟩; refine ⟨_, rfl, ?_⟩; replace BK173 := bB BK173 hb; replace HB := tB HB hb; (try clear hb); (try clear hb2); (try clear hk); (try clear hi)))
  go_ret2
  exact ⟨_, by first | rfl | (simp [errW_none, errW_some] <;> rfl) | (simp [*, errW_none, errW_some] <;> rfl), by first | exact Kd.S_nil _ _ _ _ _ | exact Kd.N_nil _ _ _ _ _ | exact Kd.V_nil _ _ _ _ _ | exact Kd.Q_nil _ _ _ _ _ | exact Kd.R_nil _ _ _ _ _, bE⟩

end Go.Proofs.Ytklhakfmegbobaa.X
