-- thin
-- short
-- compact
import Derived.Test.YtklhakfmegbobaaXA
import Derived.Test.YtklhakfmegbobaaX0
import Derived.Test.YtklhakfmegbobaaX9
import Derived.Test.YtklhakfmegbobaaX13
import Derived.Test.YtklhakfmegbobaaX14
import Derived.Test.YtklhakfmegbobaaXW2
namespace Go.Proofs.Ytklhakfmegbobaa.X
open Go.RowKit Go.Proofs.Ytklhakfmegbobaa.XW Go.Proofs.YtklhakfmegbobaaW.PrintWords Go.Proofs.YtklhakfmegbobaaW.PrintLast Go.Proofs.YtklhakfmegbobaaW.PrintMore
attribute [local go_sem] max2_int min2_int max_two min_two max_three min_three max_four min_four   -- for this text's walks alone
set_option linter.unusedVariables false
set_option linter.unusedSimpArgs false

def impl_SplitThree.f (k : Nat) (l0 : List (S_impl_Peg)) (a1_0 : Int) (a1_1 : Int) : Option ((List (List (S_impl_Peg))) × Bool) := (impl_isThree.f k l0).bind fun t274 => (if t274 = true then ((impl_IsPeg.f a1_0 a1_1).bind fun t275 => (if t275 = true then ((impl_where.f k l0 a1_0 a1_1).bind fun t276 => (if t276 ≤ 0 then (some (([] : List (List (S_impl_Peg))), false)) else (if 1 < (l0.length : Int) then (if 2 < (l0.length : Int) then (if 0 < (l0.length : Int) then (some ((([(([(⟨a1_0, a1_1⟩ : S_impl_Peg), (⟨(rd_impl_Peg l0 1).f0, (rd_impl_Peg l0 1).f1⟩ : S_impl_Peg), (⟨(rd_impl_Peg l0 2).f0, (rd_impl_Peg l0 2).f1⟩ : S_impl_Peg)] : List (S_impl_Peg))), (([(⟨(rd_impl_Peg l0 0).f0, (rd_impl_Peg l0 0).f1⟩ : S_impl_Peg), (⟨a1_0, a1_1⟩ : S_impl_Peg), (⟨(rd_impl_Peg l0 2).f0, (rd_impl_Peg l0 2).f1⟩ : S_impl_Peg)] : List (S_impl_Peg))), (([(⟨(rd_impl_Peg l0 0).f0, (rd_impl_Peg l0 0).f1⟩ : S_impl_Peg), (⟨(rd_impl_Peg l0 1).f0, (rd_impl_Peg l0 1).f1⟩ : S_impl_Peg), (⟨a1_0, a1_1⟩ : S_impl_Peg)] : List (S_impl_Peg)))] : List (List (S_impl_Peg)))), true)) else (none)) else (none)) else (none)))) else (some (([] : List (List (S_impl_Peg))), false)))) else (some (([] : List (List (S_impl_Peg))), false)))
theorem impl_SplitThree.mono : ∀ a0 a1 a2 k, LeO (impl_SplitThree.f k a0 a1 a2) (impl_SplitThree.f (k + 1) a0 a1 a2) := by
 intro a0 a1 a2 k
 unfold impl_SplitThree.f
 repeat' first | (with_reducible exact impl_isThree.mono _ _) | (with_reducible exact impl_where.mono _ _ _ _) | (with_reducible exact LeO.refl _) | (with_reducible exact LeO.none _) | (with_reducible refine LeO.ite ?_ ?_) | (with_reducible refine LeO.bind ?_ (fun _ => ?_)) | exact impl_isThree.mono _ _ | exact impl_where.mono _ _ _ _ | exact LeO.none _ | refine LeO.ite ?_ ?_ | refine LeO.bind ?_ (fun _ => ?_)
def impl_SplitThree.T3 : Bool × List (List Nat × List Nat) := (true, [([], []), ([], []), ([1], [1]), ([2], [2]), ([], []), ([4], [4]), ([5], [5]), ([0, 3, 6], [0, 3, 6]), ([], []), ([8], [8]), ([9], [9]), ([], []), ([], []), ([12], [12]), ([13], [13]), ([10, 11, 14], [10, 11, 14]), ([], []), ([16], [16]), ([17], [17]), ([], []), ([19], [19]), ([20], [20]), ([], []), ([18, 21, 22], [18, 21, 22]), ([7, 15, 23], [7, 15, 23]), ([24, 0, 1, 2, 3, 4, 5, 6, 7, 8, 9, 10, 11, 12, 13, 14, 15, 16, 17, 18, 19, 20, 21, 22, 23, 24], [24]), ([25, 0, 1, 2, 3, 4, 5, 6, 7, 8, 9, 10, 11, 12, 13, 14, 15, 16, 17, 18, 19, 20, 21, 22, 23, 24, 25], [])])
def impl_SplitThree.B3 : List Nat := [0, 0, 2, 6, 0, 16, 48, 127, 0, 256, 768, 0, 0, 4096, 12288, 32512, 0, 65536, 196608, 0, 524288, 1572864, 0, 8323072, 16777215, 33554431, 67108863]
theorem impl_SplitThree.tab3 : rtab .any (opsOf Try.f46 3) = impl_SplitThree.T3 := by kernel_rfl
theorem impl_SplitThree.bits3 : waitsOk impl_SplitThree.T3.2 impl_SplitThree.B3 = true := by kernel_rfl
set_option maxHeartbeats 8000000 in
set_option maxRecDepth 100000 in
theorem impl_SplitThree.calls (k : Nat) (A0 : Option Addr) (c0 : Nat) (l0 : List (S_impl_Peg)) (a1_0 : Int) (a1_1 : Int) (r1 : List (List (S_impl_Peg))) (r2 : Bool) (w : World) (hr0 : Kd.C kd_impl_Peg w A0 l0.length l0) (hc0 : l0.length ≤ c0) (h : impl_SplitThree.f k l0 a1_0 a1_1 = some (r1, r2)) :
  Calls Try.prog 46 #[.slice A0 l0.length c0, .agg #[.int .i64 a1_0, .int .i64 a1_1]] w fun e w' => ∃ v0_ : Value, e = .returned (.tuple #[v0_, .bool r2]) ∧ Kd.S (Kd.slice 26 kd_impl_Peg) 29 w' w.heap.size (fun _ => True) v0_ r1 ∧ Below w.heap.size w w' := by
 have hu26 := Try.underlying26; have HR0 := aM hr0; have HC0 := aM hc0; clear hr0 hc0; have HB := aM (Below.refl w.heap.size w)
 unfold impl_SplitThree.f at h; have H := h; clear h
 replace H := bS H; obtain ⟨t274, A3, H⟩ := H
 by_cases c4 : t274 = true
 ·subst c4; replace H := iT H; replace H := bS H; obtain ⟨t275, A5, H⟩ := H
  by_cases c6 : t275 = true
  ·subst c6; replace H := iT H; replace H := bS H; obtain ⟨t276, A7, H⟩ := H
   by_cases c8 : t276 ≤ 0
   ·rw [if_pos c8] at H; have c8b0 := dE c8; clear c8
    simp only [Option.some.injEq, Prod.mk.injEq] at H
    obtain ⟨rfl, rfl⟩ := H
    go_enter Try.func46, Try.ntmps46
    go_wp2_with (first | ((with_reducible refine gate_dst (N := 3) rfl ?_); refine bV 3 (cs := #[.int .i64 a1_0, .int .i64 a1_1]) (t := 26) rfl rfl (by first | (go_simp; done) | (go_simp; rfl)) ?_; intro gb273 hg w9 hbox hb; have BK273 := hbox; have GW273 := gZ HB hg; have GE273 := gZ HB hg; replace HB := tB HB hb; clear hb hbox hg) | ((with_reducible refine gC (f := 58) rfl ?_); refine goesL_ (some 7) rfl rfl Try.func58 kR rfl #[.slice A0 l0.length c0] rfl sQ ?_; (with_reducible refine (impl_isThree.calls k _ _ l0 true _ ?side1 ?side2 A3.out).mono ?_); (case side1 => repeat (first | exact (Kd.C_below HR0.out HB.out) | (with_reducible refine cA ?_ _) | (with_reducible refine cN ?_ _) | (with_reducible refine cD ?_))); (case side2 => exact HC0.out); rintro e w10 ⟨rfl, hb⟩; refine ⟨_, rfl, ?_⟩; replace BK273 := bB BK273 hb; replace HB := tB HB hb; (try clear hb); (try clear hb2); (try clear hk); (try clear hi); have hcz11_0 := vZ0 BK273; have hcz11_1 := vZ1 BK273; have hfz11_0 := kF BK273.out 0; have hfz11_1 := kF BK273.out 1) | (go_at_call 62; (with_reducible refine (impl_IsPeg.calls a1_0 a1_1 true _ A5.out).mono ?_); rintro e w12 ⟨rfl, hb⟩; replace BK273 := bB BK273 hb; replace HB := tB HB hb; (try clear hb); (try clear hb2); (try clear hk); (try clear hi); have hcz13_0 := vZ0 BK273; have hcz13_1 := vZ1 BK273; have hfz13_0 := kF BK273.out 0; have hfz13_1 := kF BK273.out 1) | (go_at_call 94; (with_reducible refine (impl_where.calls k _ _ l0 a1_0 a1_1 t276 _ ?side1 ?side2 A7.out).mono ?_); (case side1 => repeat (first | exact (Kd.C_below HR0.out HB.out) | (with_reducible refine cA ?_ _) | (with_reducible refine cN ?_ _) | (with_reducible refine cD ?_))); (case side2 => exact HC0.out); rintro e w14 ⟨rfl, hb⟩; replace BK273 := bB BK273 hb; replace HB := tB HB hb; (try clear hb); (try clear hb2); (try clear hk); (try clear hi)))
    go_ret2
    exact ⟨_, by first | rfl | (simp [errW_none, errW_some] <;> rfl) | (simp [*, errW_none, errW_some] <;> rfl), by first | exact Kd.S_nil _ _ _ _ _ | exact Kd.N_nil _ _ _ _ _ | exact Kd.V_nil _ _ _ _ _ | exact Kd.Q_nil _ _ _ _ _ | exact Kd.R_nil _ _ _ _ _, bE⟩
   ·rw [if_neg c8] at H; have c8b0 := decide_eq_false c8; clear c8; replace H := iN H; obtain ⟨c15, H⟩ := H; have c15b0 := dE c15; have c15b1 : decide (1 < l0.length) = true := dE (by omega)
    clear c15; replace H := iN H; obtain ⟨c16, H⟩ := H; have c16b0 := dE c16; have c16b1 : decide (2 < l0.length) = true := dE (by omega)
    clear c16; obtain ⟨y279, hy279⟩ : ∃ y_ : List (S_impl_Peg), y_ = (([(⟨a1_0, a1_1⟩ : S_impl_Peg), (⟨(rd_impl_Peg l0 1).f0, (rd_impl_Peg l0 1).f1⟩ : S_impl_Peg), (⟨(rd_impl_Peg l0 2).f0, (rd_impl_Peg l0 2).f1⟩ : S_impl_Peg)] : List (S_impl_Peg))) := ⟨_, rfl⟩; rw [← hy279] at H; have Ny279 := aM hy279; clear hy279; replace H := iN H; obtain ⟨c17, H⟩ := H; have c17b0 := dE c17; have c17b1 : decide (0 < l0.length) = true := dE (by omega)
    clear c17; obtain ⟨y284, hy284⟩ : ∃ y_ : List (S_impl_Peg), y_ = (([(⟨(rd_impl_Peg l0 0).f0, (rd_impl_Peg l0 0).f1⟩ : S_impl_Peg), (⟨a1_0, a1_1⟩ : S_impl_Peg), (⟨(rd_impl_Peg l0 2).f0, (rd_impl_Peg l0 2).f1⟩ : S_impl_Peg)] : List (S_impl_Peg))) := ⟨_, rfl⟩; rw [← hy284] at H; have Ny284 := aM hy284; clear hy284; obtain ⟨y289, hy289⟩ : ∃ y_ : List (S_impl_Peg), y_ = (([(⟨(rd_impl_Peg l0 0).f0, (rd_impl_Peg l0 0).f1⟩ : S_impl_Peg), (⟨(rd_impl_Peg l0 1).f0, (rd_impl_Peg l0 1).f1⟩ : S_impl_Peg), (⟨a1_0, a1_1⟩ : S_impl_Peg)] : List (S_impl_Peg))) := ⟨_, rfl⟩; rw [← hy289] at H; have Ny289 := aM hy289; clear hy289; obtain ⟨y292, hy292⟩ : ∃ y_ : List (List (S_impl_Peg)), y_ = (([y279, y284, y289] : List (List (S_impl_Peg)))) := ⟨_, rfl⟩; rw [← hy292] at H; have Ny292 := aM hy292; clear hy292
    simp only [Option.some.injEq, Prod.mk.injEq] at H
    obtain ⟨rfl, rfl⟩ := H
    go_enter Try.func46, Try.ntmps46
    try go_wp2_with (first | ((with_reducible refine gate_dst (N := 3) rfl ?_); refine bV 3 (cs := #[.int .i64 a1_0, .int .i64 a1_1]) (t := 26) rfl rfl (by first | (go_simp; done) | (go_simp; rfl)) ?_; intro gb273 hg w18 hbox hb; have BK273 := hbox; have GW273 := gZ HB hg; have GE273 := gZ HB hg; replace HB := tB HB hb; clear hb hbox hg) | ((with_reducible refine gC (f := 58) rfl ?_); refine goesL_ (some 7) rfl rfl Try.func58 kR rfl #[.slice A0 l0.length c0] rfl sQ ?_; (with_reducible refine (impl_isThree.calls k _ _ l0 true _ ?side1 ?side2 A3.out).mono ?_); (case side1 => repeat (first | exact (Kd.C_below HR0.out HB.out) | (with_reducible refine cA ?_ _) | (with_reducible refine cN ?_ _) | (with_reducible refine cD ?_))); (case side2 => exact HC0.out); rintro e w19 ⟨rfl, hb⟩; refine ⟨_, rfl, ?_⟩; replace BK273 := bB BK273 hb; replace HB := tB HB hb; (try clear hb); (try clear hb2); (try clear hk); (try clear hi); have hcz20_0 := vZ0 BK273; have hcz20_1 := vZ1 BK273; have hfz20_0 := kF BK273.out 0; have hfz20_1 := kF BK273.out 1) | (go_at_call 62; (with_reducible refine (impl_IsPeg.calls a1_0 a1_1 true _ A5.out).mono ?_); rintro e w21 ⟨rfl, hb⟩; replace BK273 := bB BK273 hb; replace HB := tB HB hb; (try clear hb); (try clear hb2); (try clear hk); (try clear hi); have hcz22_0 := vZ0 BK273; have hcz22_1 := vZ1 BK273; have hfz22_0 := kF BK273.out 0; have hfz22_1 := kF BK273.out 1) | (go_at_call 94; (with_reducible refine (impl_where.calls k _ _ l0 a1_0 a1_1 t276 _ ?side1 ?side2 A7.out).mono ?_); (case side1 => repeat (first | exact (Kd.C_below HR0.out HB.out) | (with_reducible refine cA ?_ _) | (with_reducible refine cN ?_ _) | (with_reducible refine cD ?_))); (case side2 => exact HC0.out); rintro e w23 ⟨rfl, hb⟩; replace BK273 := bB BK273 hb; replace HB := tB HB hb; (try clear hb); (try clear hb2); (try clear hk); (try clear hi)))
    replace BK273 := aM (kD BK273.out); replace HB := aM (pD HB.out); have p277 : 0 ≤ (1 : Int) := (by omega)
    have q277 : 1 < (l0.length : Int) := dT aQ; obtain ⟨ad277, e277, hx277_0, hx277_1⟩ := at_impl_Peg HR0.out 1 p277 q277; have hw277_1 := hx277_1
    (try rw [show ((1 : Int)).toNat = 1 from rfl] at hw277_1)
    (try rw [show 1 * 2 = 2 from rfl] at hw277_1)
    (try simp only [Nat.reduceMul, Nat.reduceEqDiff, Go.Addr.add, ↓reduceIte] at hw277_1)
    have hw277_0 := hx277_0
    (try rw [show ((1 : Int)).toNat = 1 from rfl] at hw277_0)
    (try rw [show 1 * 2 = 2 from rfl] at hw277_0)
    (try simp only [Nat.reduceMul, Nat.reduceEqDiff, Go.Addr.add, ↓reduceIte] at hw277_0)
    cases e277
    (try simp only [show (1 : Int).toNat = 1 from rfl, Nat.reduceMul, Nat.reduceEqDiff, Go.Addr.add, ↓reduceIte] at hx277_0)
    (try simp only [show (1 : Int).toNat = 1 from rfl, Nat.reduceMul, Nat.reduceEqDiff, Go.Addr.add, ↓reduceIte] at hx277_1)
    have qi277 : (1 < l0.length) = True := eq_true (by omega)
    (try rw [show ((1 : Int)).toNat = 1 from rfl] at hx277_0)
    (try rw [show 1 * 2 = 2 from rfl] at hx277_0)
    (try rw [show ((1 : Int)).toNat = 1 from rfl] at hx277_1)
    (try rw [show 1 * 2 = 2 from rfl] at hx277_1)
    replace hx277_0 := hC HB hx277_0; replace hx277_1 := hC HB hx277_1; replace p277 := eq_true p277; replace q277 := eq_true q277; have p278 : 0 ≤ (2 : Int) := (by omega)
    have q278 : 2 < (l0.length : Int) := dT aQ; obtain ⟨ad278, e278, hx278_0, hx278_1⟩ := at_impl_Peg HR0.out 2 p278 q278; have hw278_1 := hx278_1
    (try rw [show ((2 : Int)).toNat = 2 from rfl] at hw278_1)
    (try rw [show 2 * 2 = 4 from rfl] at hw278_1)
    (try simp only [Nat.reduceMul, Nat.reduceEqDiff, Go.Addr.add, ↓reduceIte] at hw278_1)
    have hw278_0 := hx278_0
    (try rw [show ((2 : Int)).toNat = 2 from rfl] at hw278_0)
    (try rw [show 2 * 2 = 4 from rfl] at hw278_0)
    (try simp only [Nat.reduceMul, Nat.reduceEqDiff, Go.Addr.add, ↓reduceIte] at hw278_0)
    obtain rfl : ad277 = ad278 := (by injection e278)
    (try simp only [show (2 : Int).toNat = 2 from rfl, Nat.reduceMul, Nat.reduceEqDiff, Go.Addr.add, ↓reduceIte] at hx278_0)
    (try simp only [show (2 : Int).toNat = 2 from rfl, Nat.reduceMul, Nat.reduceEqDiff, Go.Addr.add, ↓reduceIte] at hx278_1)
    have qi278 : (2 < l0.length) = True := eq_true (by omega)
    (try rw [show ((2 : Int)).toNat = 2 from rfl] at hx278_0)
    (try rw [show 2 * 2 = 4 from rfl] at hx278_0)
    (try rw [show ((2 : Int)).toNat = 2 from rfl] at hx278_1)
    (try rw [show 2 * 2 = 4 from rfl] at hx278_1)
    replace hx278_0 := hC HB hx278_0; replace hx278_1 := hC HB hx278_1; replace p278 := eq_true p278; replace q278 := eq_true q278; have p282 : 0 ≤ (0 : Int) := (by omega)
    have q282 : 0 < (l0.length : Int) := dT aQ; obtain ⟨ad282, e282, hx282_0, hx282_1⟩ := at_impl_Peg HR0.out 0 p282 q282; have hw282_1 := hx282_1
    (try rw [show ((0 : Int)).toNat = 0 from rfl] at hw282_1)
    (try rw [show 0 * 2 = 0 from rfl] at hw282_1)
    (try rw [Addr.add_zero'] at hw282_1)
    have hw282_0 := hx282_0
    (try rw [show ((0 : Int)).toNat = 0 from rfl] at hw282_0)
    (try rw [show 0 * 2 = 0 from rfl] at hw282_0)
    (try rw [Addr.add_zero'] at hw282_0)
    obtain rfl : ad277 = ad282 := (by injection e282)
    have qi282 : (0 < l0.length) = True := eq_true (by omega)
    (try rw [show ((0 : Int)).toNat = 0 from rfl] at hx282_0)
    (try rw [show 0 * 2 = 0 from rfl] at hx282_0)
    (try rw [Addr.add_zero'] at hx282_0)
    (try rw [show ((0 : Int)).toNat = 0 from rfl] at hx282_1)
    (try rw [show 0 * 2 = 0 from rfl] at hx282_1)
    (try rw [Addr.add_zero'] at hx282_1)
    replace hx282_0 := hC HB hx282_0; replace hx282_1 := hC HB hx282_1; replace p282 := eq_true p282; replace q282 := eq_true q282; have p283 : 0 ≤ (2 : Int) := (by omega)
    have q283 : 2 < (l0.length : Int) := dT aQ; obtain ⟨ad283, e283, hx283_0, hx283_1⟩ := at_impl_Peg HR0.out 2 p283 q283; have hw283_1 := hx283_1
    (try rw [show ((2 : Int)).toNat = 2 from rfl] at hw283_1)
    (try rw [show 2 * 2 = 4 from rfl] at hw283_1)
    (try simp only [Nat.reduceMul, Nat.reduceEqDiff, Go.Addr.add, ↓reduceIte] at hw283_1)
    have hw283_0 := hx283_0
    (try rw [show ((2 : Int)).toNat = 2 from rfl] at hw283_0)
    (try rw [show 2 * 2 = 4 from rfl] at hw283_0)
    (try simp only [Nat.reduceMul, Nat.reduceEqDiff, Go.Addr.add, ↓reduceIte] at hw283_0)
    obtain rfl : ad277 = ad283 := (by injection e283)
    (try simp only [show (2 : Int).toNat = 2 from rfl, Nat.reduceMul, Nat.reduceEqDiff, Go.Addr.add, ↓reduceIte] at hx283_0)
    (try simp only [show (2 : Int).toNat = 2 from rfl, Nat.reduceMul, Nat.reduceEqDiff, Go.Addr.add, ↓reduceIte] at hx283_1)
    have qi283 : (2 < l0.length) = True := eq_true (by omega)
    (try rw [show ((2 : Int)).toNat = 2 from rfl] at hx283_0)
    (try rw [show 2 * 2 = 4 from rfl] at hx283_0)
    (try rw [show ((2 : Int)).toNat = 2 from rfl] at hx283_1)
    (try rw [show 2 * 2 = 4 from rfl] at hx283_1)
    replace hx283_0 := hC HB hx283_0; replace hx283_1 := hC HB hx283_1; replace p283 := eq_true p283; replace q283 := eq_true q283; have p287 : 0 ≤ (0 : Int) := (by omega)
    have q287 : 0 < (l0.length : Int) := dT aQ; obtain ⟨ad287, e287, hx287_0, hx287_1⟩ := at_impl_Peg HR0.out 0 p287 q287; have hw287_1 := hx287_1
    (try rw [show ((0 : Int)).toNat = 0 from rfl] at hw287_1)
    (try rw [show 0 * 2 = 0 from rfl] at hw287_1)
    (try rw [Addr.add_zero'] at hw287_1)
    have hw287_0 := hx287_0
    (try rw [show ((0 : Int)).toNat = 0 from rfl] at hw287_0)
    (try rw [show 0 * 2 = 0 from rfl] at hw287_0)
    (try rw [Addr.add_zero'] at hw287_0)
    obtain rfl : ad277 = ad287 := (by injection e287)
    have qi287 : (0 < l0.length) = True := eq_true (by omega)
    (try rw [show ((0 : Int)).toNat = 0 from rfl] at hx287_0)
    (try rw [show 0 * 2 = 0 from rfl] at hx287_0)
    (try rw [Addr.add_zero'] at hx287_0)
    (try rw [show ((0 : Int)).toNat = 0 from rfl] at hx287_1)
    (try rw [show 0 * 2 = 0 from rfl] at hx287_1)
    (try rw [Addr.add_zero'] at hx287_1)
    replace hx287_0 := hC HB hx287_0; replace hx287_1 := hC HB hx287_1; replace p287 := eq_true p287; replace q287 := eq_true q287; have p288 : 0 ≤ (1 : Int) := (by omega)
    have q288 : 1 < (l0.length : Int) := dT aQ; obtain ⟨ad288, e288, hx288_0, hx288_1⟩ := at_impl_Peg HR0.out 1 p288 q288; have hw288_1 := hx288_1
    (try rw [show ((1 : Int)).toNat = 1 from rfl] at hw288_1)
    (try rw [show 1 * 2 = 2 from rfl] at hw288_1)
    (try simp only [Nat.reduceMul, Nat.reduceEqDiff, Go.Addr.add, ↓reduceIte] at hw288_1)
    have hw288_0 := hx288_0
    (try rw [show ((1 : Int)).toNat = 1 from rfl] at hw288_0)
    (try rw [show 1 * 2 = 2 from rfl] at hw288_0)
    (try simp only [Nat.reduceMul, Nat.reduceEqDiff, Go.Addr.add, ↓reduceIte] at hw288_0)
    obtain rfl : ad277 = ad288 := (by injection e288)
    (try simp only [show (1 : Int).toNat = 1 from rfl, Nat.reduceMul, Nat.reduceEqDiff, Go.Addr.add, ↓reduceIte] at hx288_0)
    (try simp only [show (1 : Int).toNat = 1 from rfl, Nat.reduceMul, Nat.reduceEqDiff, Go.Addr.add, ↓reduceIte] at hx288_1)
    have qi288 : (1 < l0.length) = True := eq_true (by omega)
    (try rw [show ((1 : Int)).toNat = 1 from rfl] at hx288_0)
    (try rw [show 1 * 2 = 2 from rfl] at hx288_0)
    (try rw [show ((1 : Int)).toNat = 1 from rfl] at hx288_1)
    (try rw [show 1 * 2 = 2 from rfl] at hx288_1)
    replace hx288_0 := hC HB hx288_0; replace hx288_1 := hC HB hx288_1; replace p288 := eq_true p288; replace q288 := eq_true q288
    refine start_ (n := 27) (S := fun w' => True) (ds := []) (bA 27 0) kR rfl kR trivial (fun hHeld => ?_); refine with_tabW impl_SplitThree.tab3 impl_SplitThree.bits3 (fun HT_ HW_ => ?_)
    generalize w23.drew = w24 at BK273 HB hx277_0 hx277_1 hx278_0 hx278_1 hx282_0 hx282_1 hx283_0 hx283_1 hx287_0 hx287_1 hx288_0 hx288_1 hHeld ⊢
    refine pU 1 21 (bA 27 2) HT_ ?_; refine pU 4 24 (bA 27 18) HT_ ?_; refine pU 8 28 (bA 27 274) HT_ ?_; refine pU 12 32 (bA 27 4370) HT_ ?_; refine pU 16 36 (bA 27 69906) HT_ ?_; refine pU 19 39 (bA 27 594194) HT_ ?_
    refine inv_at [0, 2, 3, 5, 6, 7, 9, 10, 11, 13, 14, 15, 17, 18, 20, 21, 22, 23, 24, 25, 26] (fun a0_ b a w' => ∃ (v280 : Value) (v285 : Value) (v290 : Value) (v293 : Value) (m25_ : Value), a = putSel a0_ b [(0, 20, .agg #[.int .i64 a1_0, .int .i64 a1_1]), (2, 22, .pointer (some (ad277.add 2))), (3, 23, .agg #[.int .i64 ((rd_impl_Peg l0 1).f0), .int .i64 ((rd_impl_Peg l0 1).f1)]), (5, 25, .pointer (some (ad277.add 4))), (6, 26, .agg #[.int .i64 ((rd_impl_Peg l0 2).f0), .int .i64 ((rd_impl_Peg l0 2).f1)]), (7, 27, v280), (9, 29, .pointer (some ad277)), (10, 30, .agg #[.int .i64 ((rd_impl_Peg l0 0).f0), .int .i64 ((rd_impl_Peg l0 0).f1)]), (11, 31, .agg #[.int .i64 a1_0, .int .i64 a1_1]), (13, 33, .pointer (some (ad277.add 4))), (14, 34, .agg #[.int .i64 ((rd_impl_Peg l0 2).f0), .int .i64 ((rd_impl_Peg l0 2).f1)]), (15, 35, v285), (17, 37, .pointer (some ad277)), (18, 38, .agg #[.int .i64 ((rd_impl_Peg l0 0).f0), .int .i64 ((rd_impl_Peg l0 0).f1)]), (20, 40, .pointer (some (ad277.add 2))), (21, 41, .agg #[.int .i64 ((rd_impl_Peg l0 1).f0), .int .i64 ((rd_impl_Peg l0 1).f1)]), (22, 42, .agg #[.int .i64 a1_0, .int .i64 a1_1]), (23, 43, v290), (24, 44, v293), (25, 4, m25_), (26, 5, .bool true)] ∧ (w'.heap[gb273]? = some (.cells #[.int .i64 a1_0, .int .i64 a1_1] 26 (0, 0))) ∧ (Below w.heap.size w w') ∧ (b 7 = true → Kd.R kd_impl_Peg 26 w' w.heap.size (fun k_ => k_ ≠ gb273) v280 y279) ∧ (b 15 = true → Kd.R kd_impl_Peg 26 w' w.heap.size (fun k_ => k_ ≠ gb273) v285 y284) ∧ (b 23 = true → Kd.R kd_impl_Peg 26 w' w.heap.size (fun k_ => k_ ≠ gb273) v290 y289) ∧ (b 24 = true → Kd.S (Kd.slice 26 kd_impl_Peg) 29 w' w.heap.size (fun k_ => k_ ≠ gb273) v293 y292) ∧ (b 25 = true → (m25_ : Value) = v293) ∧ (b 7 = true → b 15 = true → ∀ k_, some k_ = (v280 : Value).ownBlock → some k_ ≠ (v285 : Value).ownBlock) ∧ (b 7 = true → b 23 = true → ∀ k_, some k_ = (v280 : Value).ownBlock → some k_ ≠ (v290 : Value).ownBlock) ∧ (b 15 = true → b 23 = true → ∀ k_, some k_ = (v285 : Value).ownBlock → some k_ ≠ (v290 : Value).ownBlock)) HT_.out HW_.out kR kR ?_ ?_ ?_
    ·exact ⟨.bool false, .bool false, .bool false, .bool false, .bool false, by simp only [putSel, Bool.false_eq_true, if_false], BK273.out, HB.out, fun h_ => absurd h_ (by decide), fun h_ => absurd h_ (by decide), fun h_ => absurd h_ (by decide), fun h_ => absurd h_ (by decide), fun h_ => absurd h_ (by decide), fun h_ => absurd h_ (by decide), fun h_ => absurd h_ (by decide), fun h_ => absurd h_ (by decide)⟩
    ·skip
     clear BK273 HB
     refine steps_cons ?_ ?_
     ·rintro b a w' ⟨v280, v285, v290, v293, m25_, ha, Q_BK273, Q_HB, Q_HO281, Q_HO286, Q_HO291, Q_HO294, Q_X25_, Q_D01, Q_D02, Q_D12⟩ hb_ hon hoff
      refine ⟨_, rfl, fun K hK => ?_⟩
      have e3 : a.tmps[3]? = some (.pointer (some ⟨gb273, 0, none⟩)) := by rw [ha]; exact (putSel_off rfl).trans rfl
      replace ha := aM ha; have BK273 := aM Q_BK273; have HB := aM Q_HB; have hc0_ : w'.cell? ⟨gb273, 0, none⟩ = some (.int .i64 a1_0) := vZ0 BK273; have hc1_ : w'.cell? ⟨gb273, 1, none⟩ = some (.int .i64 a1_1) := vZ1 BK273
      refine value_ (w1 := w') (v := .agg #[.int .i64 a1_0, .int .i64 a1_1]) (by rfl) rfl ?_ ?_
      ·go_simp
       (try simp only [i64_w])
       try rfl
      refine hK.out _ _ ⟨v280, v285, v290, v293, m25_, (by rw [ha.out]; exact putSel_upk 0 hb_ rfl rfl rfl), Q_BK273, Q_HB, fun h0_ => absurd ((hoff 7 kR).symm.trans h0_) (by decide), Q_HO286, Q_HO291, fun h0_ => absurd ((hoff 24 kR).symm.trans h0_) (by decide), fun h0_ => absurd ((hoff 25 kR).symm.trans h0_) (by decide), Q_D01, Q_D02, Q_D12⟩
     refine steps_cons ?_ ?_
     ·rintro b a w' ⟨v280, v285, v290, v293, m25_, ha, Q_BK273, Q_HB, Q_HO281, Q_HO286, Q_HO291, Q_HO294, Q_X25_, Q_D01, Q_D02, Q_D12⟩ hb_ hon hoff
      refine ⟨_, rfl, fun K hK => ?_⟩
      have e21 : a.tmps[21]? = some (.slice (some ad277) l0.length c0) := by rw [ha]; exact (putSel_off rfl).trans rfl
      replace ha := aM ha; have BK273 := aM Q_BK273; have HB := aM Q_HB; have hs0_ : w'.cell? ⟨ad277.block, ad277.off + 2, none⟩ = some (.int .i64 ((rd_impl_Peg l0 1).f0)) := (hC HB hw277_0 :); have hs1_ : w'.cell? ⟨ad277.block, ad277.off + 2 + 1, none⟩ = some (.int .i64 ((rd_impl_Peg l0 1).f1)) := (hC HB hw277_1 :)
      refine value_ (w1 := w') (v := .pointer (some (ad277.add 2))) (by rfl) rfl ?_ ?_
      ·go_simp
       (try simp only [i64_w])
       try rfl
      refine hK.out _ _ ⟨v280, v285, v290, v293, m25_, (by rw [ha.out]; exact putSel_upk 1 hb_ rfl rfl rfl), Q_BK273, Q_HB, fun h0_ => absurd ((hoff 7 kR).symm.trans h0_) (by decide), Q_HO286, Q_HO291, fun h0_ => absurd ((hoff 24 kR).symm.trans h0_) (by decide), fun h0_ => absurd ((hoff 25 kR).symm.trans h0_) (by decide), Q_D01, Q_D02, Q_D12⟩
     refine steps_cons ?_ ?_
     ·rintro b a w' ⟨v280, v285, v290, v293, m25_, ha, Q_BK273, Q_HB, Q_HO281, Q_HO286, Q_HO291, Q_HO294, Q_X25_, Q_D01, Q_D02, Q_D12⟩ hb_ hon hoff
      refine ⟨_, rfl, fun K hK => ?_⟩
      have e22 : a.tmps[22]? = some (.pointer (some (ad277.add 2))) := by rw [ha]; exact putSel_on (e := (2, 22, .pointer (some (ad277.add 2)))) 1 rfl rfl (hon 2 kR) rfl
      replace ha := aM ha; have BK273 := aM Q_BK273; have HB := aM Q_HB; have hs0_ : w'.cell? ⟨ad277.block, ad277.off + 2, none⟩ = some (.int .i64 ((rd_impl_Peg l0 1).f0)) := (hC HB hw277_0 :); have hs1_ : w'.cell? ⟨ad277.block, ad277.off + 2 + 1, none⟩ = some (.int .i64 ((rd_impl_Peg l0 1).f1)) := (hC HB hw277_1 :)
      refine value_ (w1 := w') (v := .agg #[.int .i64 ((rd_impl_Peg l0 1).f0), .int .i64 ((rd_impl_Peg l0 1).f1)]) (by rfl) rfl ?_ ?_
      ·go_simp
       (try simp only [i64_w])
       try rfl
      refine hK.out _ _ ⟨v280, v285, v290, v293, m25_, (by rw [ha.out]; exact putSel_upk 2 hb_ rfl rfl rfl), Q_BK273, Q_HB, fun h0_ => absurd ((hoff 7 kR).symm.trans h0_) (by decide), Q_HO286, Q_HO291, fun h0_ => absurd ((hoff 24 kR).symm.trans h0_) (by decide), fun h0_ => absurd ((hoff 25 kR).symm.trans h0_) (by decide), Q_D01, Q_D02, Q_D12⟩
     refine steps_cons ?_ ?_
     ·rintro b a w' ⟨v280, v285, v290, v293, m25_, ha, Q_BK273, Q_HB, Q_HO281, Q_HO286, Q_HO291, Q_HO294, Q_X25_, Q_D01, Q_D02, Q_D12⟩ hb_ hon hoff
      refine ⟨_, rfl, fun K hK => ?_⟩
      have e24 : a.tmps[24]? = some (.slice (some ad277) l0.length c0) := by rw [ha]; exact (putSel_off rfl).trans rfl
      replace ha := aM ha; have BK273 := aM Q_BK273; have HB := aM Q_HB; have hs2_ : w'.cell? ⟨ad277.block, ad277.off + 4, none⟩ = some (.int .i64 ((rd_impl_Peg l0 2).f0)) := (hC HB hw278_0 :); have hs3_ : w'.cell? ⟨ad277.block, ad277.off + 4 + 1, none⟩ = some (.int .i64 ((rd_impl_Peg l0 2).f1)) := (hC HB hw278_1 :)
      refine value_ (w1 := w') (v := .pointer (some (ad277.add 4))) (by rfl) rfl ?_ ?_
      ·go_simp
       (try simp only [i64_w])
       try rfl
      refine hK.out _ _ ⟨v280, v285, v290, v293, m25_, (by rw [ha.out]; exact putSel_upk 3 hb_ rfl rfl rfl), Q_BK273, Q_HB, fun h0_ => absurd ((hoff 7 kR).symm.trans h0_) (by decide), Q_HO286, Q_HO291, fun h0_ => absurd ((hoff 24 kR).symm.trans h0_) (by decide), fun h0_ => absurd ((hoff 25 kR).symm.trans h0_) (by decide), Q_D01, Q_D02, Q_D12⟩
     refine steps_cons ?_ ?_
     ·rintro b a w' ⟨v280, v285, v290, v293, m25_, ha, Q_BK273, Q_HB, Q_HO281, Q_HO286, Q_HO291, Q_HO294, Q_X25_, Q_D01, Q_D02, Q_D12⟩ hb_ hon hoff
      refine ⟨_, rfl, fun K hK => ?_⟩
      have e25 : a.tmps[25]? = some (.pointer (some (ad277.add 4))) := by rw [ha]; exact putSel_on (e := (5, 25, .pointer (some (ad277.add 4)))) 3 rfl rfl (hon 5 kR) rfl
      replace ha := aM ha; have BK273 := aM Q_BK273; have HB := aM Q_HB; have hs2_ : w'.cell? ⟨ad277.block, ad277.off + 4, none⟩ = some (.int .i64 ((rd_impl_Peg l0 2).f0)) := (hC HB hw278_0 :); have hs3_ : w'.cell? ⟨ad277.block, ad277.off + 4 + 1, none⟩ = some (.int .i64 ((rd_impl_Peg l0 2).f1)) := (hC HB hw278_1 :)
      refine value_ (w1 := w') (v := .agg #[.int .i64 ((rd_impl_Peg l0 2).f0), .int .i64 ((rd_impl_Peg l0 2).f1)]) (by rfl) rfl ?_ ?_
      ·go_simp
       (try simp only [i64_w])
       try rfl
      refine hK.out _ _ ⟨v280, v285, v290, v293, m25_, (by rw [ha.out]; exact putSel_upk 4 hb_ rfl rfl rfl), Q_BK273, Q_HB, fun h0_ => absurd ((hoff 7 kR).symm.trans h0_) (by decide), Q_HO286, Q_HO291, fun h0_ => absurd ((hoff 24 kR).symm.trans h0_) (by decide), fun h0_ => absurd ((hoff 25 kR).symm.trans h0_) (by decide), Q_D01, Q_D02, Q_D12⟩
     refine steps_cons ?_ ?_
     ·rintro b a w' ⟨v280, v285, v290, v293, m25_, ha, Q_BK273, Q_HB, Q_HO281, Q_HO286, Q_HO291, Q_HO294, Q_X25_, Q_D01, Q_D02, Q_D12⟩ hb_ hon hoff
      refine ⟨_, rfl, fun K hK => ?_⟩
      have e20 : a.tmps[20]? = some (.agg #[.int .i64 a1_0, .int .i64 a1_1]) := by rw [ha]; exact putSel_on (e := (0, 20, .agg #[.int .i64 a1_0, .int .i64 a1_1])) 0 rfl rfl (hon 0 kR) rfl
      have e23 : a.tmps[23]? = some (.agg #[.int .i64 ((rd_impl_Peg l0 1).f0), .int .i64 ((rd_impl_Peg l0 1).f1)]) := by rw [ha]; exact putSel_on (e := (3, 23, .agg #[.int .i64 ((rd_impl_Peg l0 1).f0), .int .i64 ((rd_impl_Peg l0 1).f1)])) 2 rfl rfl (hon 3 kR) rfl
      have e26 : a.tmps[26]? = some (.agg #[.int .i64 ((rd_impl_Peg l0 2).f0), .int .i64 ((rd_impl_Peg l0 2).f1)]) := by rw [ha]; exact putSel_on (e := (6, 26, .agg #[.int .i64 ((rd_impl_Peg l0 2).f0), .int .i64 ((rd_impl_Peg l0 2).f1)])) 4 rfl rfl (hon 6 kR) rfl
      replace ha := aM ha; have BK273 := aM Q_BK273; have HB := aM Q_HB
      refine Kd.R_lit_step kd_impl_Peg _ 26 ?hg (N := 27) ?hd (xs := ([(⟨a1_0, a1_1⟩ : S_impl_Peg), (⟨(rd_impl_Peg l0 1).f0, (rd_impl_Peg l0 1).f1⟩ : S_impl_Peg), (⟨(rd_impl_Peg l0 2).f0, (rd_impl_Peg l0 2).f1⟩ : S_impl_Peg)] : List (S_impl_Peg))) (inner := [.int .i64 a1_0, .int .i64 a1_1, .int .i64 ((rd_impl_Peg l0 1).f0), .int .i64 ((rd_impl_Peg l0 1).f1), .int .i64 ((rd_impl_Peg l0 2).f0), .int .i64 ((rd_impl_Peg l0 2).f1)]) (ok := fun _ => True) (okp := fun _ => True) ?hr ?hp (fun _ hk => hk) trivial (Below.refl _ _) (Nat.le_refl _) (by simp) ?_; (case hd => rfl); (case hg => rfl); (case hr => first | (go_simp; done) | (go_simp; rfl)); (case hp => exact (Reps.c2 (show Kd.M kd_impl_Peg _ _ _ (⟨a1_0, a1_1⟩ : S_impl_Peg) [.int .i64 a1_0, .int .i64 a1_1] from (kd_impl_Peg_mkM _ _ _ (⟨a1_0, a1_1⟩ : S_impl_Peg) )) (Reps.c2 (show Kd.M kd_impl_Peg _ _ _ (⟨(rd_impl_Peg l0 1).f0, (rd_impl_Peg l0 1).f1⟩ : S_impl_Peg) [.int .i64 ((rd_impl_Peg l0 1).f0), .int .i64 ((rd_impl_Peg l0 1).f1)] from (kd_impl_Peg_mkM _ _ _ (⟨(rd_impl_Peg l0 1).f0, (rd_impl_Peg l0 1).f1⟩ : S_impl_Peg) )) (Reps.c2 (show Kd.M kd_impl_Peg _ _ _ (⟨(rd_impl_Peg l0 2).f0, (rd_impl_Peg l0 2).f1⟩ : S_impl_Peg) [.int .i64 ((rd_impl_Peg l0 2).f0), .int .i64 ((rd_impl_Peg l0 2).f1)] from (kd_impl_Peg_mkM _ _ _ (⟨(rd_impl_Peg l0 2).f0, (rd_impl_Peg l0 2).f1⟩ : S_impl_Peg) )) (Reps.none _ _)))))
      intro v280 w25 ho26 hb hg_ hnew_
      clear hg_ hnew_
      (first | rw [← Ny279.out] at ho26 | (simp only [Int.reduceToNat] at ho26; rw [← Ny279.out] at ho26))
      have z_D01 : b 15 = true → ∀ k_, some k_ = (v280 : Value).ownBlock → some k_ ≠ (v285 : Value).ownBlock := fun h0_ k_ e1_ e2_ => absurd (Kd.R_lt (Q_HO286 h0_) k_ e2_.symm) (Nat.not_lt.2 (Kd.R_base ho26 k_ e1_.symm)); have z_D02 : b 23 = true → ∀ k_, some k_ = (v280 : Value).ownBlock → some k_ ≠ (v290 : Value).ownBlock := fun h0_ k_ e1_ e2_ => absurd (Kd.R_lt (Q_HO291 h0_) k_ e2_.symm) (Nat.not_lt.2 (Kd.R_base ho26 k_ e1_.symm)); have n0_ := aM (Kd.R_lower (Kd.R_newB ho26 (g := gb273) (o := .cells #[.int .i64 a1_0, .int .i64 a1_1] 26 (0, 0)) (gQ BK273)) (pZ bE)); have n1_ := bB BK273 hb; have n2_ := tB HB hb; have z_HO286 := fun (h0_ : b 15 = true) => (show Kd.R kd_impl_Peg 26 w25 w.heap.size (fun k_ => k_ ≠ gb273) v285 y284 from by first | exact (Kd.R_elder' (by (with_reducible repeat (first | apply rA | apply rN | apply rD)); exact (Q_HO286 h0_)) (Kd.R_base ho26) hb) | exact Kd.R_mono (Kd.R_elder' (by (with_reducible repeat (first | apply rA | apply rN | apply rD)); exact (Q_HO286 h0_)) (Kd.R_base ho26) hb) (fun _ h_ => by first | trivial | exact h_ | exact h_.1))
      have z_HO291 := fun (h0_ : b 23 = true) => (show Kd.R kd_impl_Peg 26 w25 w.heap.size (fun k_ => k_ ≠ gb273) v290 y289 from by first | exact (Kd.R_elder' (by (with_reducible repeat (first | apply rA | apply rN | apply rD)); exact (Q_HO291 h0_)) (Kd.R_base ho26) hb) | exact Kd.R_mono (Kd.R_elder' (by (with_reducible repeat (first | apply rA | apply rN | apply rD)); exact (Q_HO291 h0_)) (Kd.R_base ho26) hb) (fun _ h_ => by first | trivial | exact h_ | exact h_.1))
      clear BK273; clear HB; have HO281 := n0_; have BK273 := n1_; have HB := n2_; clear n0_ n1_ n2_; clear hb ho26
      refine hK.out _ _ ⟨v280, v285, v290, v293, m25_, (by rw [ha.out]; exact putSel_upk 5 hb_ rfl rfl rfl), (gQ BK273), bE, fun _ => (by (with_reducible repeat (first | apply rA | apply rN | apply rD)); exact Kd.R_mono HO281.out (fun _ hk => hk.2)), z_HO286, z_HO291, fun h0_ => absurd ((hoff 24 kR).symm.trans h0_) (by decide), fun h0_ => absurd ((hoff 25 kR).symm.trans h0_) (by decide), fun _ h0_ => z_D01 h0_, fun _ h0_ => z_D02 h0_, Q_D12⟩
     refine steps_cons ?_ ?_
     ·rintro b a w' ⟨v280, v285, v290, v293, m25_, ha, Q_BK273, Q_HB, Q_HO281, Q_HO286, Q_HO291, Q_HO294, Q_X25_, Q_D01, Q_D02, Q_D12⟩ hb_ hon hoff
      refine ⟨_, rfl, fun K hK => ?_⟩
      have e28 : a.tmps[28]? = some (.slice (some ad277) l0.length c0) := by rw [ha]; exact (putSel_off rfl).trans rfl
      replace ha := aM ha; have BK273 := aM Q_BK273; have HB := aM Q_HB; have hs4_ : w'.cell? ad277 = some (.int .i64 ((rd_impl_Peg l0 0).f0)) := (hC HB hw282_0 :); have hs5_ : w'.cell? ⟨ad277.block, ad277.off + 1, none⟩ = some (.int .i64 ((rd_impl_Peg l0 0).f1)) := (hC HB hw282_1 :)
      refine value_ (w1 := w') (v := .pointer (some ad277)) (by rfl) rfl ?_ ?_
      ·go_simp
       (try simp only [i64_w])
       try rfl
      refine hK.out _ _ ⟨v280, v285, v290, v293, m25_, (by rw [ha.out]; exact putSel_upk 6 hb_ rfl rfl rfl), Q_BK273, Q_HB, Q_HO281, fun h0_ => absurd ((hoff 15 kR).symm.trans h0_) (by decide), Q_HO291, fun h0_ => absurd ((hoff 24 kR).symm.trans h0_) (by decide), fun h0_ => absurd ((hoff 25 kR).symm.trans h0_) (by decide), Q_D01, Q_D02, Q_D12⟩
     refine steps_cons ?_ ?_
     ·rintro b a w' ⟨v280, v285, v290, v293, m25_, ha, Q_BK273, Q_HB, Q_HO281, Q_HO286, Q_HO291, Q_HO294, Q_X25_, Q_D01, Q_D02, Q_D12⟩ hb_ hon hoff
      refine ⟨_, rfl, fun K hK => ?_⟩
      have e29 : a.tmps[29]? = some (.pointer (some ad277)) := by rw [ha]; exact putSel_on (e := (9, 29, .pointer (some ad277))) 6 rfl rfl (hon 9 kR) rfl
      replace ha := aM ha; have BK273 := aM Q_BK273; have HB := aM Q_HB; have hs4_ : w'.cell? ad277 = some (.int .i64 ((rd_impl_Peg l0 0).f0)) := (hC HB hw282_0 :); have hs5_ : w'.cell? ⟨ad277.block, ad277.off + 1, none⟩ = some (.int .i64 ((rd_impl_Peg l0 0).f1)) := (hC HB hw282_1 :)
      refine value_ (w1 := w') (v := .agg #[.int .i64 ((rd_impl_Peg l0 0).f0), .int .i64 ((rd_impl_Peg l0 0).f1)]) (by rfl) rfl ?_ ?_
      ·go_simp
       (try simp only [i64_w])
       try rfl
      refine hK.out _ _ ⟨v280, v285, v290, v293, m25_, (by rw [ha.out]; exact putSel_upk 7 hb_ rfl rfl rfl), Q_BK273, Q_HB, Q_HO281, fun h0_ => absurd ((hoff 15 kR).symm.trans h0_) (by decide), Q_HO291, fun h0_ => absurd ((hoff 24 kR).symm.trans h0_) (by decide), fun h0_ => absurd ((hoff 25 kR).symm.trans h0_) (by decide), Q_D01, Q_D02, Q_D12⟩
     refine steps_cons ?_ ?_
     ·rintro b a w' ⟨v280, v285, v290, v293, m25_, ha, Q_BK273, Q_HB, Q_HO281, Q_HO286, Q_HO291, Q_HO294, Q_X25_, Q_D01, Q_D02, Q_D12⟩ hb_ hon hoff
      refine ⟨_, rfl, fun K hK => ?_⟩
      have e3 : a.tmps[3]? = some (.pointer (some ⟨gb273, 0, none⟩)) := by rw [ha]; exact (putSel_off rfl).trans rfl
      replace ha := aM ha; have BK273 := aM Q_BK273; have HB := aM Q_HB; have hc0_ : w'.cell? ⟨gb273, 0, none⟩ = some (.int .i64 a1_0) := vZ0 BK273; have hc1_ : w'.cell? ⟨gb273, 1, none⟩ = some (.int .i64 a1_1) := vZ1 BK273
      refine value_ (w1 := w') (v := .agg #[.int .i64 a1_0, .int .i64 a1_1]) (by rfl) rfl ?_ ?_
      ·go_simp
       (try simp only [i64_w])
       try rfl
      refine hK.out _ _ ⟨v280, v285, v290, v293, m25_, (by rw [ha.out]; exact putSel_upk 8 hb_ rfl rfl rfl), Q_BK273, Q_HB, Q_HO281, fun h0_ => absurd ((hoff 15 kR).symm.trans h0_) (by decide), Q_HO291, fun h0_ => absurd ((hoff 24 kR).symm.trans h0_) (by decide), fun h0_ => absurd ((hoff 25 kR).symm.trans h0_) (by decide), Q_D01, Q_D02, Q_D12⟩
     refine steps_cons ?_ ?_
     ·rintro b a w' ⟨v280, v285, v290, v293, m25_, ha, Q_BK273, Q_HB, Q_HO281, Q_HO286, Q_HO291, Q_HO294, Q_X25_, Q_D01, Q_D02, Q_D12⟩ hb_ hon hoff
      refine ⟨_, rfl, fun K hK => ?_⟩
      have e32 : a.tmps[32]? = some (.slice (some ad277) l0.length c0) := by rw [ha]; exact (putSel_off rfl).trans rfl
      replace ha := aM ha; have BK273 := aM Q_BK273; have HB := aM Q_HB; have hs6_ : w'.cell? ⟨ad277.block, ad277.off + 4, none⟩ = some (.int .i64 ((rd_impl_Peg l0 2).f0)) := (hC HB hw283_0 :); have hs7_ : w'.cell? ⟨ad277.block, ad277.off + 4 + 1, none⟩ = some (.int .i64 ((rd_impl_Peg l0 2).f1)) := (hC HB hw283_1 :)
      refine value_ (w1 := w') (v := .pointer (some (ad277.add 4))) (by rfl) rfl ?_ ?_
      ·go_simp
       (try simp only [i64_w])
       try rfl
      refine hK.out _ _ ⟨v280, v285, v290, v293, m25_, (by rw [ha.out]; exact putSel_upk 9 hb_ rfl rfl rfl), Q_BK273, Q_HB, Q_HO281, fun h0_ => absurd ((hoff 15 kR).symm.trans h0_) (by decide), Q_HO291, fun h0_ => absurd ((hoff 24 kR).symm.trans h0_) (by decide), fun h0_ => absurd ((hoff 25 kR).symm.trans h0_) (by decide), Q_D01, Q_D02, Q_D12⟩
     refine steps_cons ?_ ?_
     ·rintro b a w' ⟨v280, v285, v290, v293, m25_, ha, Q_BK273, Q_HB, Q_HO281, Q_HO286, Q_HO291, Q_HO294, Q_X25_, Q_D01, Q_D02, Q_D12⟩ hb_ hon hoff
      refine ⟨_, rfl, fun K hK => ?_⟩
      have e33 : a.tmps[33]? = some (.pointer (some (ad277.add 4))) := by rw [ha]; exact putSel_on (e := (13, 33, .pointer (some (ad277.add 4)))) 9 rfl rfl (hon 13 kR) rfl
      replace ha := aM ha; have BK273 := aM Q_BK273; have HB := aM Q_HB; have hs6_ : w'.cell? ⟨ad277.block, ad277.off + 4, none⟩ = some (.int .i64 ((rd_impl_Peg l0 2).f0)) := (hC HB hw283_0 :); have hs7_ : w'.cell? ⟨ad277.block, ad277.off + 4 + 1, none⟩ = some (.int .i64 ((rd_impl_Peg l0 2).f1)) := (hC HB hw283_1 :)
      refine value_ (w1 := w') (v := .agg #[.int .i64 ((rd_impl_Peg l0 2).f0), .int .i64 ((rd_impl_Peg l0 2).f1)]) (by rfl) rfl ?_ ?_
      ·go_simp
       (try simp only [i64_w])
       try rfl
      refine hK.out _ _ ⟨v280, v285, v290, v293, m25_, (by rw [ha.out]; exact putSel_upk 10 hb_ rfl rfl rfl), Q_BK273, Q_HB, Q_HO281, fun h0_ => absurd ((hoff 15 kR).symm.trans h0_) (by decide), Q_HO291, fun h0_ => absurd ((hoff 24 kR).symm.trans h0_) (by decide), fun h0_ => absurd ((hoff 25 kR).symm.trans h0_) (by decide), Q_D01, Q_D02, Q_D12⟩
     refine steps_cons ?_ ?_
     ·rintro b a w' ⟨v280, v285, v290, v293, m25_, ha, Q_BK273, Q_HB, Q_HO281, Q_HO286, Q_HO291, Q_HO294, Q_X25_, Q_D01, Q_D02, Q_D12⟩ hb_ hon hoff
      refine ⟨_, rfl, fun K hK => ?_⟩
      have e30 : a.tmps[30]? = some (.agg #[.int .i64 ((rd_impl_Peg l0 0).f0), .int .i64 ((rd_impl_Peg l0 0).f1)]) := by rw [ha]; exact putSel_on (e := (10, 30, .agg #[.int .i64 ((rd_impl_Peg l0 0).f0), .int .i64 ((rd_impl_Peg l0 0).f1)])) 7 rfl rfl (hon 10 kR) rfl
      have e31 : a.tmps[31]? = some (.agg #[.int .i64 a1_0, .int .i64 a1_1]) := by rw [ha]; exact putSel_on (e := (11, 31, .agg #[.int .i64 a1_0, .int .i64 a1_1])) 8 rfl rfl (hon 11 kR) rfl
      have e34 : a.tmps[34]? = some (.agg #[.int .i64 ((rd_impl_Peg l0 2).f0), .int .i64 ((rd_impl_Peg l0 2).f1)]) := by rw [ha]; exact putSel_on (e := (14, 34, .agg #[.int .i64 ((rd_impl_Peg l0 2).f0), .int .i64 ((rd_impl_Peg l0 2).f1)])) 10 rfl rfl (hon 14 kR) rfl
      replace ha := aM ha; have BK273 := aM Q_BK273; have HB := aM Q_HB
      refine Kd.R_lit_step kd_impl_Peg _ 26 ?hg (N := 35) ?hd (xs := ([(⟨(rd_impl_Peg l0 0).f0, (rd_impl_Peg l0 0).f1⟩ : S_impl_Peg), (⟨a1_0, a1_1⟩ : S_impl_Peg), (⟨(rd_impl_Peg l0 2).f0, (rd_impl_Peg l0 2).f1⟩ : S_impl_Peg)] : List (S_impl_Peg))) (inner := [.int .i64 ((rd_impl_Peg l0 0).f0), .int .i64 ((rd_impl_Peg l0 0).f1), .int .i64 a1_0, .int .i64 a1_1, .int .i64 ((rd_impl_Peg l0 2).f0), .int .i64 ((rd_impl_Peg l0 2).f1)]) (ok := fun _ => True) (okp := fun _ => True) ?hr ?hp (fun _ hk => hk) trivial (Below.refl _ _) (Nat.le_refl _) (by simp) ?_; (case hd => rfl); (case hg => rfl); (case hr => first | (go_simp; done) | (go_simp; rfl)); (case hp => exact (Reps.c2 (show Kd.M kd_impl_Peg _ _ _ (⟨(rd_impl_Peg l0 0).f0, (rd_impl_Peg l0 0).f1⟩ : S_impl_Peg) [.int .i64 ((rd_impl_Peg l0 0).f0), .int .i64 ((rd_impl_Peg l0 0).f1)] from (kd_impl_Peg_mkM _ _ _ (⟨(rd_impl_Peg l0 0).f0, (rd_impl_Peg l0 0).f1⟩ : S_impl_Peg) )) (Reps.c2 (show Kd.M kd_impl_Peg _ _ _ (⟨a1_0, a1_1⟩ : S_impl_Peg) [.int .i64 a1_0, .int .i64 a1_1] from (kd_impl_Peg_mkM _ _ _ (⟨a1_0, a1_1⟩ : S_impl_Peg) )) (Reps.c2 (show Kd.M kd_impl_Peg _ _ _ (⟨(rd_impl_Peg l0 2).f0, (rd_impl_Peg l0 2).f1⟩ : S_impl_Peg) [.int .i64 ((rd_impl_Peg l0 2).f0), .int .i64 ((rd_impl_Peg l0 2).f1)] from (kd_impl_Peg_mkM _ _ _ (⟨(rd_impl_Peg l0 2).f0, (rd_impl_Peg l0 2).f1⟩ : S_impl_Peg) )) (Reps.none _ _)))))
      intro v285 w25 ho26 hb hg_ hnew_
      clear hg_ hnew_
      (first | rw [← Ny284.out] at ho26 | (simp only [Int.reduceToNat] at ho26; rw [← Ny284.out] at ho26))
      have z_D01 : b 7 = true → ∀ k_, some k_ = (v280 : Value).ownBlock → some k_ ≠ (v285 : Value).ownBlock := fun h0_ k_ e1_ e2_ => absurd (Kd.R_lt (Q_HO281 h0_) k_ e1_.symm) (Nat.not_lt.2 (Kd.R_base ho26 k_ e2_.symm)); have z_D12 : b 23 = true → ∀ k_, some k_ = (v285 : Value).ownBlock → some k_ ≠ (v290 : Value).ownBlock := fun h0_ k_ e1_ e2_ => absurd (Kd.R_lt (Q_HO291 h0_) k_ e2_.symm) (Nat.not_lt.2 (Kd.R_base ho26 k_ e1_.symm)); have n0_ := aM (Kd.R_lower (Kd.R_newB ho26 (g := gb273) (o := .cells #[.int .i64 a1_0, .int .i64 a1_1] 26 (0, 0)) (gQ BK273)) (pZ bE)); have n1_ := bB BK273 hb; have n2_ := tB HB hb; have z_HO281 := fun (h0_ : b 7 = true) => (show Kd.R kd_impl_Peg 26 w25 w.heap.size (fun k_ => k_ ≠ gb273) v280 y279 from by first | exact (Kd.R_elder' (by (with_reducible repeat (first | apply rA | apply rN | apply rD)); exact (Q_HO281 h0_)) (Kd.R_base ho26) hb) | exact Kd.R_mono (Kd.R_elder' (by (with_reducible repeat (first | apply rA | apply rN | apply rD)); exact (Q_HO281 h0_)) (Kd.R_base ho26) hb) (fun _ h_ => by first | trivial | exact h_ | exact h_.1))
      have z_HO291 := fun (h0_ : b 23 = true) => (show Kd.R kd_impl_Peg 26 w25 w.heap.size (fun k_ => k_ ≠ gb273) v290 y289 from by first | exact (Kd.R_elder' (by (with_reducible repeat (first | apply rA | apply rN | apply rD)); exact (Q_HO291 h0_)) (Kd.R_base ho26) hb) | exact Kd.R_mono (Kd.R_elder' (by (with_reducible repeat (first | apply rA | apply rN | apply rD)); exact (Q_HO291 h0_)) (Kd.R_base ho26) hb) (fun _ h_ => by first | trivial | exact h_ | exact h_.1))
      clear BK273; clear HB; have HO286 := n0_; have BK273 := n1_; have HB := n2_; clear n0_ n1_ n2_; clear hb ho26
      refine hK.out _ _ ⟨v280, v285, v290, v293, m25_, (by rw [ha.out]; exact putSel_upk 11 hb_ rfl rfl rfl), (gQ BK273), bE, z_HO281, fun _ => (by (with_reducible repeat (first | apply rA | apply rN | apply rD)); exact Kd.R_mono HO286.out (fun _ hk => hk.2)), z_HO291, fun h0_ => absurd ((hoff 24 kR).symm.trans h0_) (by decide), fun h0_ => absurd ((hoff 25 kR).symm.trans h0_) (by decide), fun h0_ _ => z_D01 h0_, Q_D02, fun _ h0_ => z_D12 h0_⟩
     refine steps_cons ?_ ?_
     ·rintro b a w' ⟨v280, v285, v290, v293, m25_, ha, Q_BK273, Q_HB, Q_HO281, Q_HO286, Q_HO291, Q_HO294, Q_X25_, Q_D01, Q_D02, Q_D12⟩ hb_ hon hoff
      refine ⟨_, rfl, fun K hK => ?_⟩
      have e36 : a.tmps[36]? = some (.slice (some ad277) l0.length c0) := by rw [ha]; exact (putSel_off rfl).trans rfl
      replace ha := aM ha; have BK273 := aM Q_BK273; have HB := aM Q_HB; have hs8_ : w'.cell? ad277 = some (.int .i64 ((rd_impl_Peg l0 0).f0)) := (hC HB hw287_0 :); have hs9_ : w'.cell? ⟨ad277.block, ad277.off + 1, none⟩ = some (.int .i64 ((rd_impl_Peg l0 0).f1)) := (hC HB hw287_1 :)
      refine value_ (w1 := w') (v := .pointer (some ad277)) (by rfl) rfl ?_ ?_
      ·go_simp
       (try simp only [i64_w])
       try rfl
      refine hK.out _ _ ⟨v280, v285, v290, v293, m25_, (by rw [ha.out]; exact putSel_upk 12 hb_ rfl rfl rfl), Q_BK273, Q_HB, Q_HO281, Q_HO286, fun h0_ => absurd ((hoff 23 kR).symm.trans h0_) (by decide), fun h0_ => absurd ((hoff 24 kR).symm.trans h0_) (by decide), fun h0_ => absurd ((hoff 25 kR).symm.trans h0_) (by decide), Q_D01, Q_D02, Q_D12⟩
     refine steps_cons ?_ ?_
     ·rintro b a w' ⟨v280, v285, v290, v293, m25_, ha, Q_BK273, Q_HB, Q_HO281, Q_HO286, Q_HO291, Q_HO294, Q_X25_, Q_D01, Q_D02, Q_D12⟩ hb_ hon hoff
      refine ⟨_, rfl, fun K hK => ?_⟩
      have e37 : a.tmps[37]? = some (.pointer (some ad277)) := by rw [ha]; exact putSel_on (e := (17, 37, .pointer (some ad277))) 12 rfl rfl (hon 17 kR) rfl
      replace ha := aM ha; have BK273 := aM Q_BK273; have HB := aM Q_HB; have hs8_ : w'.cell? ad277 = some (.int .i64 ((rd_impl_Peg l0 0).f0)) := (hC HB hw287_0 :); have hs9_ : w'.cell? ⟨ad277.block, ad277.off + 1, none⟩ = some (.int .i64 ((rd_impl_Peg l0 0).f1)) := (hC HB hw287_1 :)
      refine value_ (w1 := w') (v := .agg #[.int .i64 ((rd_impl_Peg l0 0).f0), .int .i64 ((rd_impl_Peg l0 0).f1)]) (by rfl) rfl ?_ ?_
      ·go_simp
       (try simp only [i64_w])
       try rfl
      refine hK.out _ _ ⟨v280, v285, v290, v293, m25_, (by rw [ha.out]; exact putSel_upk 13 hb_ rfl rfl rfl), Q_BK273, Q_HB, Q_HO281, Q_HO286, fun h0_ => absurd ((hoff 23 kR).symm.trans h0_) (by decide), fun h0_ => absurd ((hoff 24 kR).symm.trans h0_) (by decide), fun h0_ => absurd ((hoff 25 kR).symm.trans h0_) (by decide), Q_D01, Q_D02, Q_D12⟩
     refine steps_cons ?_ ?_
     ·rintro b a w' ⟨v280, v285, v290, v293, m25_, ha, Q_BK273, Q_HB, Q_HO281, Q_HO286, Q_HO291, Q_HO294, Q_X25_, Q_D01, Q_D02, Q_D12⟩ hb_ hon hoff
      refine ⟨_, rfl, fun K hK => ?_⟩
      have e39 : a.tmps[39]? = some (.slice (some ad277) l0.length c0) := by rw [ha]; exact (putSel_off rfl).trans rfl
      replace ha := aM ha; have BK273 := aM Q_BK273; have HB := aM Q_HB; have hs10_ : w'.cell? ⟨ad277.block, ad277.off + 2, none⟩ = some (.int .i64 ((rd_impl_Peg l0 1).f0)) := (hC HB hw288_0 :); have hs11_ : w'.cell? ⟨ad277.block, ad277.off + 2 + 1, none⟩ = some (.int .i64 ((rd_impl_Peg l0 1).f1)) := (hC HB hw288_1 :)
      refine value_ (w1 := w') (v := .pointer (some (ad277.add 2))) (by rfl) rfl ?_ ?_
      ·go_simp
       (try simp only [i64_w])
       try rfl
      refine hK.out _ _ ⟨v280, v285, v290, v293, m25_, (by rw [ha.out]; exact putSel_upk 14 hb_ rfl rfl rfl), Q_BK273, Q_HB, Q_HO281, Q_HO286, fun h0_ => absurd ((hoff 23 kR).symm.trans h0_) (by decide), fun h0_ => absurd ((hoff 24 kR).symm.trans h0_) (by decide), fun h0_ => absurd ((hoff 25 kR).symm.trans h0_) (by decide), Q_D01, Q_D02, Q_D12⟩
     refine steps_cons ?_ ?_
     ·rintro b a w' ⟨v280, v285, v290, v293, m25_, ha, Q_BK273, Q_HB, Q_HO281, Q_HO286, Q_HO291, Q_HO294, Q_X25_, Q_D01, Q_D02, Q_D12⟩ hb_ hon hoff
      refine ⟨_, rfl, fun K hK => ?_⟩
      have e40 : a.tmps[40]? = some (.pointer (some (ad277.add 2))) := by rw [ha]; exact putSel_on (e := (20, 40, .pointer (some (ad277.add 2)))) 14 rfl rfl (hon 20 kR) rfl
      replace ha := aM ha; have BK273 := aM Q_BK273; have HB := aM Q_HB; have hs10_ : w'.cell? ⟨ad277.block, ad277.off + 2, none⟩ = some (.int .i64 ((rd_impl_Peg l0 1).f0)) := (hC HB hw288_0 :); have hs11_ : w'.cell? ⟨ad277.block, ad277.off + 2 + 1, none⟩ = some (.int .i64 ((rd_impl_Peg l0 1).f1)) := (hC HB hw288_1 :)
      refine value_ (w1 := w') (v := .agg #[.int .i64 ((rd_impl_Peg l0 1).f0), .int .i64 ((rd_impl_Peg l0 1).f1)]) (by rfl) rfl ?_ ?_
      ·go_simp
       (try simp only [i64_w])
       try rfl
      refine hK.out _ _ ⟨v280, v285, v290, v293, m25_, (by rw [ha.out]; exact putSel_upk 15 hb_ rfl rfl rfl), Q_BK273, Q_HB, Q_HO281, Q_HO286, fun h0_ => absurd ((hoff 23 kR).symm.trans h0_) (by decide), fun h0_ => absurd ((hoff 24 kR).symm.trans h0_) (by decide), fun h0_ => absurd ((hoff 25 kR).symm.trans h0_) (by decide), Q_D01, Q_D02, Q_D12⟩
     refine steps_cons ?_ ?_
     ·rintro b a w' ⟨v280, v285, v290, v293, m25_, ha, Q_BK273, Q_HB, Q_HO281, Q_HO286, Q_HO291, Q_HO294, Q_X25_, Q_D01, Q_D02, Q_D12⟩ hb_ hon hoff
      refine ⟨_, rfl, fun K hK => ?_⟩
      have e3 : a.tmps[3]? = some (.pointer (some ⟨gb273, 0, none⟩)) := by rw [ha]; exact (putSel_off rfl).trans rfl
      replace ha := aM ha; have BK273 := aM Q_BK273; have HB := aM Q_HB; have hc0_ : w'.cell? ⟨gb273, 0, none⟩ = some (.int .i64 a1_0) := vZ0 BK273; have hc1_ : w'.cell? ⟨gb273, 1, none⟩ = some (.int .i64 a1_1) := vZ1 BK273
      refine value_ (w1 := w') (v := .agg #[.int .i64 a1_0, .int .i64 a1_1]) (by rfl) rfl ?_ ?_
      ·go_simp
       (try simp only [i64_w])
       try rfl
      refine hK.out _ _ ⟨v280, v285, v290, v293, m25_, (by rw [ha.out]; exact putSel_upk 16 hb_ rfl rfl rfl), Q_BK273, Q_HB, Q_HO281, Q_HO286, fun h0_ => absurd ((hoff 23 kR).symm.trans h0_) (by decide), fun h0_ => absurd ((hoff 24 kR).symm.trans h0_) (by decide), fun h0_ => absurd ((hoff 25 kR).symm.trans h0_) (by decide), Q_D01, Q_D02, Q_D12⟩
     refine steps_cons ?_ ?_
     ·rintro b a w' ⟨v280, v285, v290, v293, m25_, ha, Q_BK273, Q_HB, Q_HO281, Q_HO286, Q_HO291, Q_HO294, Q_X25_, Q_D01, Q_D02, Q_D12⟩ hb_ hon hoff
      refine ⟨_, rfl, fun K hK => ?_⟩
      have e38 : a.tmps[38]? = some (.agg #[.int .i64 ((rd_impl_Peg l0 0).f0), .int .i64 ((rd_impl_Peg l0 0).f1)]) := by rw [ha]; exact putSel_on (e := (18, 38, .agg #[.int .i64 ((rd_impl_Peg l0 0).f0), .int .i64 ((rd_impl_Peg l0 0).f1)])) 13 rfl rfl (hon 18 kR) rfl
      have e41 : a.tmps[41]? = some (.agg #[.int .i64 ((rd_impl_Peg l0 1).f0), .int .i64 ((rd_impl_Peg l0 1).f1)]) := by rw [ha]; exact putSel_on (e := (21, 41, .agg #[.int .i64 ((rd_impl_Peg l0 1).f0), .int .i64 ((rd_impl_Peg l0 1).f1)])) 15 rfl rfl (hon 21 kR) rfl
      have e42 : a.tmps[42]? = some (.agg #[.int .i64 a1_0, .int .i64 a1_1]) := by rw [ha]; exact putSel_on (e := (22, 42, .agg #[.int .i64 a1_0, .int .i64 a1_1])) 16 rfl rfl (hon 22 kR) rfl
      replace ha := aM ha; have BK273 := aM Q_BK273; have HB := aM Q_HB
      refine Kd.R_lit_step kd_impl_Peg _ 26 ?hg (N := 43) ?hd (xs := ([(⟨(rd_impl_Peg l0 0).f0, (rd_impl_Peg l0 0).f1⟩ : S_impl_Peg), (⟨(rd_impl_Peg l0 1).f0, (rd_impl_Peg l0 1).f1⟩ : S_impl_Peg), (⟨a1_0, a1_1⟩ : S_impl_Peg)] : List (S_impl_Peg))) (inner := [.int .i64 ((rd_impl_Peg l0 0).f0), .int .i64 ((rd_impl_Peg l0 0).f1), .int .i64 ((rd_impl_Peg l0 1).f0), .int .i64 ((rd_impl_Peg l0 1).f1), .int .i64 a1_0, .int .i64 a1_1]) (ok := fun _ => True) (okp := fun _ => True) ?hr ?hp (fun _ hk => hk) trivial (Below.refl _ _) (Nat.le_refl _) (by simp) ?_; (case hd => rfl); (case hg => rfl); (case hr => first | (go_simp; done) | (go_simp; rfl)); (case hp => exact (Reps.c2 (show Kd.M kd_impl_Peg _ _ _ (⟨(rd_impl_Peg l0 0).f0, (rd_impl_Peg l0 0).f1⟩ : S_impl_Peg) [.int .i64 ((rd_impl_Peg l0 0).f0), .int .i64 ((rd_impl_Peg l0 0).f1)] from (kd_impl_Peg_mkM _ _ _ (⟨(rd_impl_Peg l0 0).f0, (rd_impl_Peg l0 0).f1⟩ : S_impl_Peg) )) (Reps.c2 (show Kd.M kd_impl_Peg _ _ _ (⟨(rd_impl_Peg l0 1).f0, (rd_impl_Peg l0 1).f1⟩ : S_impl_Peg) [.int .i64 ((rd_impl_Peg l0 1).f0), .int .i64 ((rd_impl_Peg l0 1).f1)] from (kd_impl_Peg_mkM _ _ _ (⟨(rd_impl_Peg l0 1).f0, (rd_impl_Peg l0 1).f1⟩ : S_impl_Peg) )) (Reps.c2 (show Kd.M kd_impl_Peg _ _ _ (⟨a1_0, a1_1⟩ : S_impl_Peg) [.int .i64 a1_0, .int .i64 a1_1] from (kd_impl_Peg_mkM _ _ _ (⟨a1_0, a1_1⟩ : S_impl_Peg) )) (Reps.none _ _)))))
      intro v290 w25 ho26 hb hg_ hnew_
      clear hg_ hnew_
      (first | rw [← Ny289.out] at ho26 | (simp only [Int.reduceToNat] at ho26; rw [← Ny289.out] at ho26))
      have z_D02 : b 7 = true → ∀ k_, some k_ = (v280 : Value).ownBlock → some k_ ≠ (v290 : Value).ownBlock := fun h0_ k_ e1_ e2_ => absurd (Kd.R_lt (Q_HO281 h0_) k_ e1_.symm) (Nat.not_lt.2 (Kd.R_base ho26 k_ e2_.symm)); have z_D12 : b 15 = true → ∀ k_, some k_ = (v285 : Value).ownBlock → some k_ ≠ (v290 : Value).ownBlock := fun h0_ k_ e1_ e2_ => absurd (Kd.R_lt (Q_HO286 h0_) k_ e1_.symm) (Nat.not_lt.2 (Kd.R_base ho26 k_ e2_.symm)); have n0_ := aM (Kd.R_lower (Kd.R_newB ho26 (g := gb273) (o := .cells #[.int .i64 a1_0, .int .i64 a1_1] 26 (0, 0)) (gQ BK273)) (pZ bE)); have n1_ := bB BK273 hb; have n2_ := tB HB hb; have z_HO281 := fun (h0_ : b 7 = true) => (show Kd.R kd_impl_Peg 26 w25 w.heap.size (fun k_ => k_ ≠ gb273) v280 y279 from by first | exact (Kd.R_elder' (by (with_reducible repeat (first | apply rA | apply rN | apply rD)); exact (Q_HO281 h0_)) (Kd.R_base ho26) hb) | exact Kd.R_mono (Kd.R_elder' (by (with_reducible repeat (first | apply rA | apply rN | apply rD)); exact (Q_HO281 h0_)) (Kd.R_base ho26) hb) (fun _ h_ => by first | trivial | exact h_ | exact h_.1))
      have z_HO286 := fun (h0_ : b 15 = true) => (show Kd.R kd_impl_Peg 26 w25 w.heap.size (fun k_ => k_ ≠ gb273) v285 y284 from by first | exact (Kd.R_elder' (by (with_reducible repeat (first | apply rA | apply rN | apply rD)); exact (Q_HO286 h0_)) (Kd.R_base ho26) hb) | exact Kd.R_mono (Kd.R_elder' (by (with_reducible repeat (first | apply rA | apply rN | apply rD)); exact (Q_HO286 h0_)) (Kd.R_base ho26) hb) (fun _ h_ => by first | trivial | exact h_ | exact h_.1))
      clear BK273; clear HB; have HO291 := n0_; have BK273 := n1_; have HB := n2_; clear n0_ n1_ n2_; clear hb ho26
      refine hK.out _ _ ⟨v280, v285, v290, v293, m25_, (by rw [ha.out]; exact putSel_upk 17 hb_ rfl rfl rfl), (gQ BK273), bE, z_HO281, z_HO286, fun _ => (by (with_reducible repeat (first | apply rA | apply rN | apply rD)); exact Kd.R_mono HO291.out (fun _ hk => hk.2)), fun h0_ => absurd ((hoff 24 kR).symm.trans h0_) (by decide), fun h0_ => absurd ((hoff 25 kR).symm.trans h0_) (by decide), Q_D01, fun h0_ _ => z_D02 h0_, fun h0_ _ => z_D12 h0_⟩
     refine steps_cons ?_ ?_
     ·rintro b a w' ⟨v280, v285, v290, v293, m25_, ha, Q_BK273, Q_HB, Q_HO281, Q_HO286, Q_HO291, Q_HO294, Q_X25_, Q_D01, Q_D02, Q_D12⟩ hb_ hon hoff
      refine ⟨_, rfl, fun K hK => ?_⟩
      have e27 : a.tmps[27]? = some (v280) := by rw [ha]; exact putSel_on (e := (7, 27, v280)) 5 rfl rfl (hon 7 kR) rfl
      have e35 : a.tmps[35]? = some (v285) := by rw [ha]; exact putSel_on (e := (15, 35, v285)) 11 rfl rfl (hon 15 kR) rfl
      have e43 : a.tmps[43]? = some (v290) := by rw [ha]; exact putSel_on (e := (23, 43, v290)) 17 rfl rfl (hon 23 kR) rfl
      replace ha := aM ha; have BK273 := aM Q_BK273; have HB := aM Q_HB; have HO281 := aM (Q_HO281 (hon 7 kR)); have HO286 := aM (Q_HO286 (hon 15 kR)); have HO291 := aM (Q_HO291 (hon 23 kR)); obtain ⟨Ao32, co32, eo32⟩ := Kd.R_slice HO281.out
      (first | subst eo32 | (injection eo32 with f1_ f2_ f3_; have f4_ := f1_.symm; have f5_ := f3_.symm; clear f1_ f2_ f3_; subst f4_; subst f5_))
      obtain ⟨Ao33, co33, eo33⟩ := Kd.R_slice HO286.out
      (first | subst eo33 | (injection eo33 with f1_ f2_ f3_; have f4_ := f1_.symm; have f5_ := f3_.symm; clear f1_ f2_ f3_; subst f4_; subst f5_))
      obtain ⟨Ao34, co34, eo34⟩ := Kd.R_slice HO291.out
      (first | subst eo34 | (injection eo34 with f1_ f2_ f3_; have f4_ := f1_.symm; have f5_ := f3_.symm; clear f1_ f2_ f3_; subst f4_; subst f5_))
      refine Kd.S_lits3_step kd_impl_Peg w.heap.size 29 26 ?hg (N := 44) ?hd (x1 := y279) (x2 := y284) (x3 := y289) (u1 := .slice Ao32 y279.length co32) (u2 := .slice Ao33 y284.length co33) (u3 := .slice Ao34 y289.length co34) (ok := (fun k_ => k_ ≠ gb273)) rfl (by (with_reducible repeat (first | apply rA | apply rN | apply rD)); exact HO281.out) (by (with_reducible repeat (first | apply rA | apply rN | apply rD)); exact HO286.out) (by (with_reducible repeat (first | apply rA | apply rN | apply rD)); exact HO291.out) (Q_D01 (hon 7 kR) (hon 15 kR)) (Q_D02 (hon 7 kR) (hon 23 kR)) (Q_D12 (hon 15 kR) (hon 23 kR)) ?hr (Kd.freshB (g := gb273) (o := .cells #[.int .i64 a1_0, .int .i64 a1_1] 26 (0, 0)) (gQ BK273) _ (Nat.le_refl _)) (pZ bE) ?_; (case hd => rfl); (case hg => rfl); (case hr => first | (go_simp; done) | (go_simp; rfl))
      intro v293 w35 ho36 hb hg_ hnew_
      clear hg_ hnew_
      (first | rw [← Ny292.out] at ho36 | (simp only [Int.reduceToNat] at ho36; rw [← Ny292.out] at ho36))
      have HO294 := aM ho36; replace HO281 := aM (Kd.R_below (by (with_reducible repeat (first | apply rA | apply rN | apply rD)); exact HO281.out) hb); replace HO286 := aM (Kd.R_below (by (with_reducible repeat (first | apply rA | apply rN | apply rD)); exact HO286.out) hb); replace HO291 := aM (Kd.R_below (by (with_reducible repeat (first | apply rA | apply rN | apply rD)); exact HO291.out) hb); replace BK273 := bB BK273 hb; replace HB := tB HB hb
      clear hb ho36
      refine hK.out _ _ ⟨.slice Ao32 y279.length co32, .slice Ao33 y284.length co33, .slice Ao34 y289.length co34, v293, m25_, (by rw [ha.out]; exact putSel_upk 18 hb_ rfl rfl rfl), (gQ BK273), bE, fun _ => (by (with_reducible repeat (first | apply rA | apply rN | apply rD)); exact HO281.out), fun _ => (by (with_reducible repeat (first | apply rA | apply rN | apply rD)); exact HO286.out), fun _ => (by (with_reducible repeat (first | apply rA | apply rN | apply rD)); exact HO291.out), fun _ => (by (with_reducible repeat (first | apply Kd.S_alloc | apply Kd.S_drewN | apply Kd.S_drew)); exact HO294.out), fun h0_ => absurd ((hoff 25 kR).symm.trans h0_) (by decide), Q_D01, Q_D02, Q_D12⟩
     refine steps_cons ?_ ?_
     ·rintro b a w' ⟨v280, v285, v290, v293, m25_, ha, Q_BK273, Q_HB, Q_HO281, Q_HO286, Q_HO291, Q_HO294, Q_X25_, Q_D01, Q_D02, Q_D12⟩ hb_ hon hoff
      refine ⟨_, rfl, fun K hK => ?_⟩
      have e44 : a.tmps[44]? = some (v293) := by rw [ha]; exact putSel_on (e := (24, 44, v293)) 18 rfl rfl (hon 24 kR) rfl
      replace ha := aM ha; have BK273 := aM Q_BK273; have HB := aM Q_HB; have HO281 := aM (Q_HO281 (hon 7 kR)); have HO286 := aM (Q_HO286 (hon 15 kR)); have HO291 := aM (Q_HO291 (hon 23 kR)); have HO294 := aM (Q_HO294 (hon 24 kR))
      refine value_ (w1 := w') (v := v293) (by rfl) rfl ?_ ?_
      ·go_simp
       (try simp only [i64_w])
       try rfl
      refine hK.out _ _ ⟨v280, v285, v290, v293, (v293), (by rw [ha.out]; exact putSel_upk 19 hb_ rfl rfl rfl), Q_BK273, Q_HB, Q_HO281, Q_HO286, Q_HO291, Q_HO294, fun _ => rfl, Q_D01, Q_D02, Q_D12⟩
     refine steps_cons ?_ ?_
     ·rintro b a w' ⟨v280, v285, v290, v293, m25_, ha, Q_BK273, Q_HB, Q_HO281, Q_HO286, Q_HO291, Q_HO294, Q_X25_, Q_D01, Q_D02, Q_D12⟩ hb_ hon hoff
      refine ⟨_, rfl, fun K hK => ?_⟩
      replace ha := aM ha; have BK273 := aM Q_BK273; have HB := aM Q_HB; have HO281 := aM (Q_HO281 (hon 7 kR)); have HO286 := aM (Q_HO286 (hon 15 kR)); have HO291 := aM (Q_HO291 (hon 23 kR)); have HO294 := aM (Q_HO294 (hon 24 kR))
      refine value_ (w1 := w') (v := .bool true) (by rfl) rfl ?_ ?_
      ·go_simp
       (try simp only [i64_w])
       try rfl
      refine hK.out _ _ ⟨v280, v285, v290, v293, m25_, (by rw [ha.out]; exact putSel_upk 20 hb_ rfl rfl rfl), Q_BK273, Q_HB, Q_HO281, Q_HO286, Q_HO291, Q_HO294, Q_X25_, Q_D01, Q_D02, Q_D12⟩
     exact steps_nil
    rintro b a w36 hall ⟨v280, v285, v290, v293, m25_, ha, Q_BK273, Q_HB, Q_HO281, Q_HO286, Q_HO291, Q_HO294, Q_X25_, Q_D01, Q_D02, Q_D12⟩; clear BK273 HB; have hb0_ := hall 0 kR; have hb2_ := hall 2 kR; have hb3_ := hall 3 kR; have hb5_ := hall 5 kR; have hb6_ := hall 6 kR; have hb7_ := hall 7 kR; have hb9_ := hall 9 kR; have hb10_ := hall 10 kR; have hb11_ := hall 11 kR; have hb13_ := hall 13 kR; have hb14_ := hall 14 kR; have hb15_ := hall 15 kR; have hb17_ := hall 17 kR; have hb18_ := hall 18 kR; have hb20_ := hall 20 kR; have hb21_ := hall 21 kR; have hb22_ := hall 22 kR; have hb23_ := hall 23 kR; have hb24_ := hall 24 kR; have hb25_ := hall 25 kR; have hb26_ := hall 26 kR; subst ha; obtain rfl := Q_X25_ hb25_
    simp only [putSel, hb0_, hb2_, hb3_, hb5_, hb6_, hb7_, hb9_, hb10_, hb11_, hb13_, hb14_, hb15_, hb17_, hb18_, hb20_, hb21_, hb22_, hb23_, hb24_, hb25_, hb26_, if_true, Act.put, sI, sZ, sS]
    have BK273 := aM Q_BK273; clear Q_BK273; have HB := aM Q_HB; clear Q_HB; have HO281 := aM (Q_HO281 hb7_); clear Q_HO281; have HO286 := aM (Q_HO286 hb15_); clear Q_HO286; have HO291 := aM (Q_HO291 hb23_); clear Q_HO291; have HO294 := aM (Q_HO294 hb24_); clear Q_HO294; clear hall hb0_ hb2_ hb3_ hb5_ hb6_ hb7_ hb9_ hb10_ hb11_ hb13_ hb14_ hb15_ hb17_ hb18_ hb20_ hb21_ hb22_ hb23_ hb24_ hb25_ hb26_
    try go_wp2
    go_ret2
    exact ⟨_, by first | rfl | (simp [errW_none, errW_some] <;> rfl) | (simp [*, errW_none, errW_some] <;> rfl), by (with_reducible repeat (first | apply Kd.S_alloc | apply Kd.S_drewN | apply Kd.S_drew)); exact Kd.S_mono HO294.out (fun _ hk => trivial), bE⟩
  ·replace c6 := Bool.eq_false_iff.mpr c6; subst c6; replace H := iF H
   simp only [Option.some.injEq, Prod.mk.injEq] at H
   obtain ⟨rfl, rfl⟩ := H
   go_enter Try.func46, Try.ntmps46
   go_wp2_with (first | ((with_reducible refine gate_dst (N := 3) rfl ?_); refine bV 3 (cs := #[.int .i64 a1_0, .int .i64 a1_1]) (t := 26) rfl rfl (by first | (go_simp; done) | (go_simp; rfl)) ?_; intro gb273 hg w37 hbox hb; have BK273 := hbox; have GW273 := gZ HB hg; have GE273 := gZ HB hg; replace HB := tB HB hb; clear hb hbox hg) | ((with_reducible refine gC (f := 58) rfl ?_); refine goesL_ (some 7) rfl rfl Try.func58 kR rfl #[.slice A0 l0.length c0] rfl sQ ?_; (with_reducible refine (impl_isThree.calls k _ _ l0 true _ ?side1 ?side2 A3.out).mono ?_); (case side1 => repeat (first | exact (Kd.C_below HR0.out HB.out) | (with_reducible refine cA ?_ _) | (with_reducible refine cN ?_ _) | (with_reducible refine cD ?_))); (case side2 => exact HC0.out); rintro e w38 ⟨rfl, hb⟩; refine ⟨_, rfl, ?_⟩; replace BK273 := bB BK273 hb; replace HB := tB HB hb; (try clear hb); (try clear hb2); (try clear hk); (try clear hi); have hcz39_0 := vZ0 BK273; have hcz39_1 := vZ1 BK273; have hfz39_0 := kF BK273.out 0; have hfz39_1 := kF BK273.out 1) | (go_at_call 62; (with_reducible refine (impl_IsPeg.calls a1_0 a1_1 false _ A5.out).mono ?_); rintro e w40 ⟨rfl, hb⟩; replace BK273 := bB BK273 hb; replace HB := tB HB hb; (try clear hb); (try clear hb2); (try clear hk); (try clear hi)))
   go_ret2
   exact ⟨_, by first | rfl | (simp [errW_none, errW_some] <;> rfl) | (simp [*, errW_none, errW_some] <;> rfl), by first | exact Kd.S_nil _ _ _ _ _ | exact Kd.N_nil _ _ _ _ _ | exact Kd.V_nil _ _ _ _ _ | exact Kd.Q_nil _ _ _ _ _ | exact Kd.R_nil _ _ _ _ _, bE⟩
 ·replace c4 := Bool.eq_false_iff.mpr c4; subst c4; replace H := iF H
  simp only [Option.some.injEq, Prod.mk.injEq] at H
  obtain ⟨rfl, rfl⟩ := H
  go_enter Try.func46, Try.ntmps46
  go_wp2_with (first | ((with_reducible refine gate_dst (N := 3) rfl ?_); refine bV 3 (cs := #[.int .i64 a1_0, .int .i64 a1_1]) (t := 26) rfl rfl (by first | (go_simp; done) | (go_simp; rfl)) ?_; intro gb273 hg w41 hbox hb; have BK273 := hbox; have GW273 := gZ HB hg; have GE273 := gZ HB hg; replace HB := tB HB hb; clear hb hbox hg) | ((with_reducible refine gC (f := 58) rfl ?_); refine goesL_ (some 7) rfl rfl Try.func58 kR rfl #[.slice A0 l0.length c0] rfl sQ ?_; (with_reducible refine (impl_isThree.calls k _ _ l0 false _ ?side1 ?side2 A3.out).mono ?_); (case side1 => repeat (first | exact (Kd.C_below HR0.out HB.out) | (with_reducible refine cA ?_ _) | (with_reducible refine cN ?_ _) | (with_reducible refine cD ?_))); (case side2 => exact HC0.out); rintro e w42 ⟨rfl, hb⟩; refine ⟨_, rfl, ?_⟩; replace BK273 := bB BK273 hb; replace HB := tB HB hb; (try clear hb); (try clear hb2); (try clear hk); (try clear hi)))
  go_ret2
  exact ⟨_, by first | rfl | (simp [errW_none, errW_some] <;> rfl) | (simp [*, errW_none, errW_some] <;> rfl), by first | exact Kd.S_nil _ _ _ _ _ | exact Kd.N_nil _ _ _ _ _ | exact Kd.V_nil _ _ _ _ _ | exact Kd.Q_nil _ _ _ _ _ | exact Kd.R_nil _ _ _ _ _, bE⟩

end Go.Proofs.Ytklhakfmegbobaa.X
