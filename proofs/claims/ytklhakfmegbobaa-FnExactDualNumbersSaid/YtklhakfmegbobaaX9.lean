-- thin
-- short
-- compact
import Derived.Test.YtklhakfmegbobaaXA
import Derived.Test.YtklhakfmegbobaaX0
import Derived.Test.YtklhakfmegbobaaX1
import Derived.Test.YtklhakfmegbobaaX7
import Derived.Test.YtklhakfmegbobaaX8
import Derived.Test.YtklhakfmegbobaaXW2
namespace Go.Proofs.Ytklhakfmegbobaa.X
open Go.RowKit Go.Proofs.Ytklhakfmegbobaa.XW Go.Proofs.YtklhakfmegbobaaW.PrintWords Go.Proofs.YtklhakfmegbobaaW.PrintLast Go.Proofs.YtklhakfmegbobaaW.PrintMore
attribute [local go_sem] max2_int min2_int max_two min_two max_three min_three max_four min_four   -- for this text's walks alone
set_option linter.unusedVariables false
set_option linter.unusedSimpArgs false

attribute [local go_sem high] eqA26
def impl_areAround.l0 : Nat → List Int → Int → List Int → Int → Int → Option (Bool)
 | 0, _, _, _, _, _ => none
 | k + 1, x0, x3, x7, x8, x9 => if x9 < x8 then (if 0 ≤ x9 then (if x9 < (x7.length : Int) then (impl_areAround.l0 k x0 (wrap64 (x3 + (rd x7 x9))) x7 x8 (wrap64 (x9 + 1))) else (none)) else (none)) else (if x3 = (wrap64 ((wrap64 (3 * (x0.length : Int))) - 12)) then ((impl_pegsBy.f k x0).bind fun t223 => (if 0 ≤ (x0.length : Int) then (if (x0.length : Int) < (t223.length : Int) then (if 0 < (t223.length : Int) then (if (((rd_impl_Peg t223 (x0.length : Int)).f0) == ((rd_impl_Peg t223 0).f0) && (((rd_impl_Peg t223 (x0.length : Int)).f1) == ((rd_impl_Peg t223 0).f1))) = true then (if 0 ≤ (wrap64 ((x0.length : Int) + 1)) then (if (wrap64 ((x0.length : Int) + 1)) < (t223.length : Int) then (if 1 < (t223.length : Int) then (some (((rd_impl_Peg t223 (wrap64 ((x0.length : Int) + 1))).f0) == ((rd_impl_Peg t223 1).f0) && (((rd_impl_Peg t223 (wrap64 ((x0.length : Int) + 1))).f1) == ((rd_impl_Peg t223 1).f1)))) else (none)) else (none)) else (none)) else (some false)) else (none)) else (none)) else (none))) else (some false))
def impl_areAround.f (k : Nat) (l0 : List Int) : Option (Bool) := impl_areAround.l0 k l0 0 l0 (l0.length : Int) 0
theorem impl_areAround.mono_l : ∀ k, (∀ y0 y1 y2 y3 y4, LeO (impl_areAround.l0 k y0 y1 y2 y3 y4) (impl_areAround.l0 (k + 1) y0 y1 y2 y3 y4))
 | 0 => fun _ _ _ _ _ r h => by simp [impl_areAround.l0] at h
 | k + 1 => by
  have ih0 := impl_areAround.mono_l k
  ·intro y0 y1 y2 y3 y4
   unfold impl_areAround.l0
   repeat' first
   | (with_reducible exact ih0 _ _ _ _ _)
   | (with_reducible exact impl_pegsBy.mono _ _)
   | (with_reducible exact LeO.refl _)
   | (with_reducible exact LeO.none _)
   | (with_reducible refine LeO.ite ?_ ?_)
   | (with_reducible refine LeO.bind ?_ (fun _ => ?_))
   | exact ih0 _ _ _ _ _
   | exact impl_pegsBy.mono _ _
   | exact LeO.none _
   | refine LeO.ite ?_ ?_
   | refine LeO.bind ?_ (fun _ => ?_)
theorem impl_areAround.mono : ∀ a0 k, LeO (impl_areAround.f k a0) (impl_areAround.f (k + 1) a0) := by
 intro a0 k
 have ih0 := impl_areAround.mono_l k
 unfold impl_areAround.f
 repeat' first | (with_reducible exact ih0 _ _ _ _ _) | (with_reducible exact impl_pegsBy.mono _ _) | (with_reducible exact LeO.refl _) | (with_reducible exact LeO.none _) | (with_reducible refine LeO.ite ?_ ?_) | (with_reducible refine LeO.bind ?_ (fun _ => ?_)) | exact ih0 _ _ _ _ _ | exact impl_pegsBy.mono _ _ | exact LeO.none _ | refine LeO.ite ?_ ?_ | refine LeO.bind ?_ (fun _ => ?_)
set_option maxHeartbeats 8000000 in
set_option maxRecDepth 100000 in
theorem impl_areAround.calls (k : Nat) (A0 : Option Addr) (c0 : Nat) (l0 : List Int) (r : Bool) (w : World) (hr0 : Kd.C (Kd.int .i64) w A0 l0.length l0) (hc0 : l0.length ≤ c0) (h : impl_areAround.f k l0 = some r) :
  Calls Try.prog 73 #[.slice A0 l0.length c0] w fun e w' => e = .returned (.bool r) ∧ Below w.heap.size w w' := by
 have hu26 := Try.underlying26; have HR0 := aM hr0; have HC0 := aM hc0; clear hr0 hc0; have HB := aM (Below.refl w.heap.size w)
 unfold impl_areAround.f at h; have H := h; clear h
 have H' := aM H; clear H
 go_enter Try.func73, Try.ntmps73
 go_wp2
 repeat (go_quiet (fail); try go_wp2)
 go_loopg [3, 9] k (fun kq v3 v9 w' => ∃ (x3_1 : Int) (x9_1 : Int), v3 = .int .i64 x3_1 ∧ v9 = .int .i64 x9_1 ∧ Aside0 (impl_areAround.l0 kq l0 x3_1 l0 (l0.length : Int) x9_1 = some r) ∧ Aside0 (kq ≤ k) ∧ Aside0 (Below w.heap.size w w'))
 case atStart => exact ⟨(0), (0), eQ, eQ, H', ⟨Nat.le_refl _⟩, ⟨bQ⟩⟩
 case round =>
  clear H'; obtain ⟨x3_1, x9_1, rfl, rfl, HA, HK1, HB⟩ := hrel
  cases gk with
  | zero => exact absurd HA.out (by simp [impl_areAround.l0])
  | succ k1 =>
   have H := HA.out; clear HA
   simp only [impl_areAround.l0] at H
   by_cases c2 : x9_1 < (l0.length : Int)
   ·rw [if_pos c2] at H; have c2b0 := dE c2; clear c2; replace H := iD H; obtain ⟨c3b0, H⟩ := H; replace H := iD H; obtain ⟨c4b0, H⟩ := H; have H' := aM H; clear H; have p222 : 0 ≤ (x9_1 : Int) := dT aQ; have q222 : x9_1 < (l0.length : Int) := dT aQ; obtain ⟨ad222, e222, hx222_0⟩ := Kd.at_int HR0.out x9_1 p222 q222
    cases e222
    replace hx222_0 := hC HB hx222_0; replace p222 := eq_true p222; replace q222 := eq_true q222; go_wp2
    repeat (go_quiet (fail); try go_wp2)
    go_roundg k1
    case measure => have := HK1.out; omega
    case rel => exact ⟨(wrap64 (x3_1 + (rd l0 x9_1))), (wrap64 (x9_1 + 1)), eQ, eQ, H', ⟨by have := HK1.out; omega⟩, ⟨bQ⟩⟩
   ·rw [if_neg c2] at H; have c2b0 := decide_eq_false c2; clear c2
    by_cases c5 : x3_1 = (wrap64 ((wrap64 (3 * (l0.length : Int))) - 12))
    ·rw [if_pos c5] at H; have c5b0 : (x3_1 == (wrap64 ((wrap64 (3 * (l0.length : Int))) - 12))) = true := beq_iff_eq.mpr c5; have c5b1 : (x3_1 != (wrap64 ((wrap64 (3 * (l0.length : Int))) - 12))) = false := bne_eq_false_iff_eq.mpr c5; clear c5; replace H := bS H; obtain ⟨t223, A6, H⟩ := H; replace H := iN H; obtain ⟨c7, H⟩ := H; have c7b0 := dE c7; have c7b1 : decide (0 ≤ l0.length) = true := dE (by omega)
     clear c7; replace H := iN H; obtain ⟨c8, H⟩ := H; have c8b0 := dE c8; have c8b1 : decide (l0.length < t223.length) = true := dE (Int.ofNat_lt.mp c8); clear c8; replace H := iN H; obtain ⟨c9, H⟩ := H; have c9b0 := dE c9; have c9b1 : decide (0 < t223.length) = true := dE (by omega)
     clear c9
     by_cases c10 : (((rd_impl_Peg t223 (l0.length : Int)).f0) == ((rd_impl_Peg t223 0).f0) && (((rd_impl_Peg t223 (l0.length : Int)).f1) == ((rd_impl_Peg t223 0).f1))) = true
     ·rw [if_pos c10] at H; have c10b0 := c10
      (try (have c10b1 : decide (((rd_impl_Peg t223 (l0.length : Int)).f0) = ((rd_impl_Peg t223 0).f0) && (((rd_impl_Peg t223 (l0.length : Int)).f1) == ((rd_impl_Peg t223 0).f1))) = true := by simpa using c10))
      (try (have c10b2 : (((rd_impl_Peg t223 (l0.length : Int)).f0) == ((rd_impl_Peg t223 0).f0) && (((rd_impl_Peg t223 (l0.length : Int)).f1) == ((rd_impl_Peg t223 0).f1))) = true := by simpa using c10))
      clear c10; obtain ⟨ji11, hji11⟩ : ∃ j_ : Int, (wrap64 ((l0.length : Int) + 1)) = j_ := ⟨_, rfl⟩
      (first | rw [hji11] at H | simp only [hji11] at H)
      (try rw [hji11] at A6)
      have hji11w : (IntKind.i64.wrap ((l0.length : Int) + 1)) = ji11 := (i64_w _).trans hji11; replace H := iD H; obtain ⟨c12b0, H⟩ := H; replace H := iD H; obtain ⟨c13b0, H⟩ := H; replace H := iN H; obtain ⟨c14, H⟩ := H; have c14b0 := dE c14; have c14b1 : decide (1 < t223.length) = true := dE (by omega)
      clear c14; obtain rfl := Option.some.inj H
      go_wp2_with (first | (go_at_call 75; (with_reducible refine (impl_pegsBy.calls k1 _ _ l0 t223 _ ?side1 ?side2 A6.out).mono ?_); (case side1 => repeat (first | exact (Kd.C_below HR0.out HB.out) | (with_reducible refine cA ?_ _) | (with_reducible refine cN ?_ _) | (with_reducible refine cD ?_))); (case side2 => exact HC0.out); rintro e w15 ⟨v224, rfl, ho0, hb⟩; have HO225 := aM (Kd.R_lower ho0 (pZ bQ)); replace HB := tB HB hb; (try clear hb); (try clear hb2); (try clear hk); (try clear hi); (try clear ho0); obtain ⟨Ao16, co16, eo16⟩ := Kd.R_slice HO225.out; subst eo16; have p226 : 0 ≤ ((l0.length : Int) : Int) := dT aQ; have q226 : (l0.length : Int) < (t223.length : Int) := dT aQ; obtain ⟨ad226, e226, hx226_0, hx226_1⟩ := at_impl_Peg (rR HO225.out).2.2 (l0.length : Int) p226 q226; cases e226; (try simp only [Go.IntWalk.toNatUp] at hx226_0); (try simp only [Go.IntWalk.toNatUp] at hx226_1); replace p226 := eq_true p226; replace q226 := eq_true q226; have p227 : 0 ≤ (0 : Int) := (by omega); have q227 : 0 < (t223.length : Int) := dT aQ; obtain ⟨ad227, e227, hx227_0, hx227_1⟩ := at_impl_Peg (rR HO225.out).2.2 0 p227 q227; obtain rfl : ad226 = ad227 := (by injection e227); have qi227 : (0 < t223.length) = True := eq_true (by omega); (try rw [show ((0 : Int)).toNat = 0 from rfl] at hx227_0); (try rw [show 0 * 2 = 0 from rfl] at hx227_0); (try rw [Addr.add_zero'] at hx227_0); (try rw [show ((0 : Int)).toNat = 0 from rfl] at hx227_1); (try rw [show 0 * 2 = 0 from rfl] at hx227_1); (try rw [Addr.add_zero'] at hx227_1); replace p227 := eq_true p227; replace q227 := eq_true q227; have p228 : 0 ≤ ((ji11) : Int) := dT aQ; have q228 : (ji11) < (t223.length : Int) := dT aQ; obtain ⟨ad228, e228, hx228_0, hx228_1⟩ := at_impl_Peg (rR HO225.out).2.2 (ji11) p228 q228; obtain rfl : ad226 = ad228 := (by injection e228); replace p228 := eq_true p228; replace q228 := eq_true q228; have p229 : 0 ≤ (1 : Int) := (by omega); have q229 : 1 < (t223.length : Int) := dT aQ; obtain ⟨ad229, e229, hx229_0, hx229_1⟩ := at_impl_Peg (rR HO225.out).2.2 1 p229 q229; obtain rfl : ad226 = ad229 := (by injection e229); (try simp only [show (1 : Int).toNat = 1 from rfl, Nat.reduceMul, Nat.reduceEqDiff, Go.Addr.add, ↓reduceIte] at hx229_0); (try simp only [show (1 : Int).toNat = 1 from rfl, Nat.reduceMul, Nat.reduceEqDiff, Go.Addr.add, ↓reduceIte] at hx229_1); have qi229 : (1 < t223.length) = True := eq_true (by omega); (try rw [show ((1 : Int)).toNat = 1 from rfl] at hx229_0); (try rw [show 1 * 2 = 2 from rfl] at hx229_0); (try rw [show ((1 : Int)).toNat = 1 from rfl] at hx229_1); (try rw [show 1 * 2 = 2 from rfl] at hx229_1); replace p229 := eq_true p229; replace q229 := eq_true q229))
      repeat (go_quiet (first | (go_at_call 75; (with_reducible refine (impl_pegsBy.calls k1 _ _ l0 t223 _ ?side1 ?side2 A6.out).mono ?_); (case side1 => repeat (first | exact (Kd.C_below HR0.out HB.out) | (with_reducible refine cA ?_ _) | (with_reducible refine cN ?_ _) | (with_reducible refine cD ?_))); (case side2 => exact HC0.out); rintro e w15 ⟨v224, rfl, ho0, hb⟩; have n0_ := aM (Kd.R_lower ho0 (pZ bQ)); have n1_ := tB HB hb; clear HB; have HO225 := n0_; have HB := n1_; clear n0_ n1_; (try clear hb); (try clear hb2); (try clear hk); (try clear hi); (try clear ho0); obtain ⟨Ao16, co16, eo16⟩ := Kd.R_slice HO225.out; subst eo16; have p226 : 0 ≤ ((l0.length : Int) : Int) := dT aQ; have q226 : (l0.length : Int) < (t223.length : Int) := dT aQ; obtain ⟨ad226, e226, hx226_0, hx226_1⟩ := at_impl_Peg (rR HO225.out).2.2 (l0.length : Int) p226 q226; cases e226; (try simp only [Go.IntWalk.toNatUp] at hx226_0); (try simp only [Go.IntWalk.toNatUp] at hx226_1); replace p226 := eq_true p226; replace q226 := eq_true q226; have p227 : 0 ≤ (0 : Int) := (by omega); have q227 : 0 < (t223.length : Int) := dT aQ; obtain ⟨ad227, e227, hx227_0, hx227_1⟩ := at_impl_Peg (rR HO225.out).2.2 0 p227 q227; obtain rfl : ad226 = ad227 := (by injection e227); have qi227 : (0 < t223.length) = True := eq_true (by omega); (try rw [show ((0 : Int)).toNat = 0 from rfl] at hx227_0); (try rw [show 0 * 2 = 0 from rfl] at hx227_0); (try rw [Addr.add_zero'] at hx227_0); (try rw [show ((0 : Int)).toNat = 0 from rfl] at hx227_1); (try rw [show 0 * 2 = 0 from rfl] at hx227_1); (try rw [Addr.add_zero'] at hx227_1); replace p227 := eq_true p227; replace q227 := eq_true q227; have p228 : 0 ≤ ((ji11) : Int) := dT aQ; have q228 : (ji11) < (t223.length : Int) := dT aQ; obtain ⟨ad228, e228, hx228_0, hx228_1⟩ := at_impl_Peg (rR HO225.out).2.2 (ji11) p228 q228; obtain rfl : ad226 = ad228 := (by injection e228); replace p228 := eq_true p228; replace q228 := eq_true q228; have p229 : 0 ≤ (1 : Int) := (by omega); have q229 : 1 < (t223.length : Int) := dT aQ; obtain ⟨ad229, e229, hx229_0, hx229_1⟩ := at_impl_Peg (rR HO225.out).2.2 1 p229 q229; obtain rfl : ad226 = ad229 := (by injection e229); (try simp only [show (1 : Int).toNat = 1 from rfl, Nat.reduceMul, Nat.reduceEqDiff, Go.Addr.add, ↓reduceIte] at hx229_0); (try simp only [show (1 : Int).toNat = 1 from rfl, Nat.reduceMul, Nat.reduceEqDiff, Go.Addr.add, ↓reduceIte] at hx229_1); have qi229 : (1 < t223.length) = True := eq_true (by omega); (try rw [show ((1 : Int)).toNat = 1 from rfl] at hx229_0); (try rw [show 1 * 2 = 2 from rfl] at hx229_0); (try rw [show ((1 : Int)).toNat = 1 from rfl] at hx229_1); (try rw [show 1 * 2 = 2 from rfl] at hx229_1); replace p229 := eq_true p229; replace q229 := eq_true q229)); try go_wp2_with (first | (go_at_call 75; (with_reducible refine (impl_pegsBy.calls k1 _ _ l0 t223 _ ?side1 ?side2 A6.out).mono ?_); (case side1 => repeat (first | exact (Kd.C_below HR0.out HB.out) | (with_reducible refine cA ?_ _) | (with_reducible refine cN ?_ _) | (with_reducible refine cD ?_))); (case side2 => exact HC0.out); rintro e w15 ⟨v224, rfl, ho0, hb⟩; have n0_ := aM (Kd.R_lower ho0 (pZ bQ)); have n1_ := tB HB hb; clear HB; have HO225 := n0_; have HB := n1_; clear n0_ n1_; (try clear hb); (try clear hb2); (try clear hk); (try clear hi); (try clear ho0); obtain ⟨Ao16, co16, eo16⟩ := Kd.R_slice HO225.out; subst eo16; have p226 : 0 ≤ ((l0.length : Int) : Int) := dT aQ; have q226 : (l0.length : Int) < (t223.length : Int) := dT aQ; obtain ⟨ad226, e226, hx226_0, hx226_1⟩ := at_impl_Peg (rR HO225.out).2.2 (l0.length : Int) p226 q226; cases e226; (try simp only [Go.IntWalk.toNatUp] at hx226_0); (try simp only [Go.IntWalk.toNatUp] at hx226_1); replace p226 := eq_true p226; replace q226 := eq_true q226; have p227 : 0 ≤ (0 : Int) := (by omega); have q227 : 0 < (t223.length : Int) := dT aQ; obtain ⟨ad227, e227, hx227_0, hx227_1⟩ := at_impl_Peg (rR HO225.out).2.2 0 p227 q227; obtain rfl : ad226 = ad227 := (by injection e227); have qi227 : (0 < t223.length) = True := eq_true (by omega); (try rw [show ((0 : Int)).toNat = 0 from rfl] at hx227_0); (try rw [show 0 * 2 = 0 from rfl] at hx227_0); (try rw [Addr.add_zero'] at hx227_0); (try rw [show ((0 : Int)).toNat = 0 from rfl] at hx227_1); (try rw [show 0 * 2 = 0 from rfl] at hx227_1); (try rw [Addr.add_zero'] at hx227_1); replace p227 := eq_true p227; replace q227 := eq_true q227; have p228 : 0 ≤ ((ji11) : Int) := dT aQ; have q228 : (ji11) < (t223.length : Int) := dT aQ; obtain ⟨ad228, e228, hx228_0, hx228_1⟩ := at_impl_Peg (rR HO225.out).2.2 (ji11) p228 q228; obtain rfl : ad226 = ad228 := (by injection e228); replace p228 := eq_true p228; replace q228 := eq_true q228; have p229 : 0 ≤ (1 : Int) := (by omega); have q229 : 1 < (t223.length : Int) := dT aQ; obtain ⟨ad229, e229, hx229_0, hx229_1⟩ := at_impl_Peg (rR HO225.out).2.2 1 p229 q229; obtain rfl : ad226 = ad229 := (by injection e229); (try simp only [show (1 : Int).toNat = 1 from rfl, Nat.reduceMul, Nat.reduceEqDiff, Go.Addr.add, ↓reduceIte] at hx229_0); (try simp only [show (1 : Int).toNat = 1 from rfl, Nat.reduceMul, Nat.reduceEqDiff, Go.Addr.add, ↓reduceIte] at hx229_1); have qi229 : (1 < t223.length) = True := eq_true (by omega); (try rw [show ((1 : Int)).toNat = 1 from rfl] at hx229_0); (try rw [show 1 * 2 = 2 from rfl] at hx229_0); (try rw [show ((1 : Int)).toNat = 1 from rfl] at hx229_1); (try rw [show 1 * 2 = 2 from rfl] at hx229_1); replace p229 := eq_true p229; replace q229 := eq_true q229)))
      go_ret
      exact ⟨by first | rfl | (simp [errW_none, errW_some] <;> rfl) | (simp only [← hji11]; first | rfl | (simp [errW_none, errW_some] <;> rfl)) | (simp [*, errW_none, errW_some] <;> rfl), bQ⟩
     ·rw [if_neg c10] at H; have c10b0 : (((rd_impl_Peg t223 (l0.length : Int)).f0) == ((rd_impl_Peg t223 0).f0) && (((rd_impl_Peg t223 (l0.length : Int)).f1) == ((rd_impl_Peg t223 0).f1))) = false := by simpa using c10
      (try (have c10b1 : decide (((rd_impl_Peg t223 (l0.length : Int)).f0) = ((rd_impl_Peg t223 0).f0) && (((rd_impl_Peg t223 (l0.length : Int)).f1) == ((rd_impl_Peg t223 0).f1))) = false := by simpa using c10))
      (try (have c10b2 : (((rd_impl_Peg t223 (l0.length : Int)).f0) == ((rd_impl_Peg t223 0).f0) && (((rd_impl_Peg t223 (l0.length : Int)).f1) == ((rd_impl_Peg t223 0).f1))) = false := by simpa using c10))
      (try (have c10b3 : ¬ (((rd_impl_Peg t223 (l0.length : Int)).f0) = ((rd_impl_Peg t223 0).f0) && (((rd_impl_Peg t223 (l0.length : Int)).f1) == ((rd_impl_Peg t223 0).f1))) := by simpa using c10))
      clear c10; obtain rfl := Option.some.inj H
      go_wp2_with (first | (go_at_call 75; (with_reducible refine (impl_pegsBy.calls k1 _ _ l0 t223 _ ?side1 ?side2 A6.out).mono ?_); (case side1 => repeat (first | exact (Kd.C_below HR0.out HB.out) | (with_reducible refine cA ?_ _) | (with_reducible refine cN ?_ _) | (with_reducible refine cD ?_))); (case side2 => exact HC0.out); rintro e w17 ⟨v224, rfl, ho0, hb⟩; have HO225 := aM (Kd.R_lower ho0 (pZ bQ)); replace HB := tB HB hb; (try clear hb); (try clear hb2); (try clear hk); (try clear hi); (try clear ho0); obtain ⟨Ao18, co18, eo18⟩ := Kd.R_slice HO225.out; subst eo18; have p226 : 0 ≤ ((l0.length : Int) : Int) := dT aQ; have q226 : (l0.length : Int) < (t223.length : Int) := dT aQ; obtain ⟨ad226, e226, hx226_0, hx226_1⟩ := at_impl_Peg (rR HO225.out).2.2 (l0.length : Int) p226 q226; cases e226; (try simp only [Go.IntWalk.toNatUp] at hx226_0); (try simp only [Go.IntWalk.toNatUp] at hx226_1); replace p226 := eq_true p226; replace q226 := eq_true q226; have p227 : 0 ≤ (0 : Int) := (by omega); have q227 : 0 < (t223.length : Int) := dT aQ; obtain ⟨ad227, e227, hx227_0, hx227_1⟩ := at_impl_Peg (rR HO225.out).2.2 0 p227 q227; obtain rfl : ad226 = ad227 := (by injection e227); have qi227 : (0 < t223.length) = True := eq_true (by omega); (try rw [show ((0 : Int)).toNat = 0 from rfl] at hx227_0); (try rw [show 0 * 2 = 0 from rfl] at hx227_0); (try rw [Addr.add_zero'] at hx227_0); (try rw [show ((0 : Int)).toNat = 0 from rfl] at hx227_1); (try rw [show 0 * 2 = 0 from rfl] at hx227_1); (try rw [Addr.add_zero'] at hx227_1); replace p227 := eq_true p227; replace q227 := eq_true q227))
      repeat (go_quiet (first | (go_at_call 75; (with_reducible refine (impl_pegsBy.calls k1 _ _ l0 t223 _ ?side1 ?side2 A6.out).mono ?_); (case side1 => repeat (first | exact (Kd.C_below HR0.out HB.out) | (with_reducible refine cA ?_ _) | (with_reducible refine cN ?_ _) | (with_reducible refine cD ?_))); (case side2 => exact HC0.out); rintro e w17 ⟨v224, rfl, ho0, hb⟩; have n0_ := aM (Kd.R_lower ho0 (pZ bQ)); have n1_ := tB HB hb; clear HB; have HO225 := n0_; have HB := n1_; clear n0_ n1_; (try clear hb); (try clear hb2); (try clear hk); (try clear hi); (try clear ho0); obtain ⟨Ao18, co18, eo18⟩ := Kd.R_slice HO225.out; subst eo18; have p226 : 0 ≤ ((l0.length : Int) : Int) := dT aQ; have q226 : (l0.length : Int) < (t223.length : Int) := dT aQ; obtain ⟨ad226, e226, hx226_0, hx226_1⟩ := at_impl_Peg (rR HO225.out).2.2 (l0.length : Int) p226 q226; cases e226; (try simp only [Go.IntWalk.toNatUp] at hx226_0); (try simp only [Go.IntWalk.toNatUp] at hx226_1); replace p226 := eq_true p226; replace q226 := eq_true q226; have p227 : 0 ≤ (0 : Int) := (by omega); have q227 : 0 < (t223.length : Int) := dT aQ; obtain ⟨ad227, e227, hx227_0, hx227_1⟩ := at_impl_Peg (rR HO225.out).2.2 0 p227 q227; obtain rfl : ad226 = ad227 := (by injection e227); have qi227 : (0 < t223.length) = True := eq_true (by omega); (try rw [show ((0 : Int)).toNat = 0 from rfl] at hx227_0); (try rw [show 0 * 2 = 0 from rfl] at hx227_0); (try rw [Addr.add_zero'] at hx227_0); (try rw [show ((0 : Int)).toNat = 0 from rfl] at hx227_1); (try rw [show 0 * 2 = 0 from rfl] at hx227_1); (try rw [Addr.add_zero'] at hx227_1); replace p227 := eq_true p227; replace q227 := eq_true q227)); try go_wp2_with (first | (go_at_call 75; (with_reducible refine (impl_pegsBy.calls k1 _ _ l0 t223 _ ?side1 ?side2 A6.out).mono ?_); (case side1 => repeat (first | exact (Kd.C_below HR0.out HB.out) | (with_reducible refine cA ?_ _) | (with_reducible refine cN ?_ _) | (with_reducible refine cD ?_))); (case side2 => exact HC0.out); rintro e w17 ⟨v224, rfl, ho0, hb⟩; have n0_ := aM (Kd.R_lower ho0 (pZ bQ)); have n1_ := tB HB hb; clear HB; have HO225 := n0_; have HB := n1_; clear n0_ n1_; (try clear hb); (try clear hb2); (try clear hk); (try clear hi); (try clear ho0); obtain ⟨Ao18, co18, eo18⟩ := Kd.R_slice HO225.out; subst eo18; have p226 : 0 ≤ ((l0.length : Int) : Int) := dT aQ; have q226 : (l0.length : Int) < (t223.length : Int) := dT aQ; obtain ⟨ad226, e226, hx226_0, hx226_1⟩ := at_impl_Peg (rR HO225.out).2.2 (l0.length : Int) p226 q226; cases e226; (try simp only [Go.IntWalk.toNatUp] at hx226_0); (try simp only [Go.IntWalk.toNatUp] at hx226_1); replace p226 := eq_true p226; replace q226 := eq_true q226; have p227 : 0 ≤ (0 : Int) := (by omega); have q227 : 0 < (t223.length : Int) := dT aQ; obtain ⟨ad227, e227, hx227_0, hx227_1⟩ := at_impl_Peg (rR HO225.out).2.2 0 p227 q227; obtain rfl : ad226 = ad227 := (by injection e227); have qi227 : (0 < t223.length) = True := eq_true (by omega); (try rw [show ((0 : Int)).toNat = 0 from rfl] at hx227_0); (try rw [show 0 * 2 = 0 from rfl] at hx227_0); (try rw [Addr.add_zero'] at hx227_0); (try rw [show ((0 : Int)).toNat = 0 from rfl] at hx227_1); (try rw [show 0 * 2 = 0 from rfl] at hx227_1); (try rw [Addr.add_zero'] at hx227_1); replace p227 := eq_true p227; replace q227 := eq_true q227)))
      go_ret
      exact ⟨wQ, bQ⟩
    ·rw [if_neg c5] at H; have c5b0 : (x3_1 == (wrap64 ((wrap64 (3 * (l0.length : Int))) - 12))) = false := beq_eq_false_iff_ne.mpr c5; have c5b1 : (x3_1 != (wrap64 ((wrap64 (3 * (l0.length : Int))) - 12))) = true := bne_iff_ne.mpr c5; obtain rfl := Option.some.inj H; go_wp2
     repeat (go_quiet (fail); try go_wp2)
     go_ret
     exact ⟨wQ, bQ⟩

-- NOT PRINTED: function 139 (slices_IndexFunc_impl_Peg)

-- NOT PRINTED: function 121 (slices_ContainsFunc_impl_Peg)

def impl_IsPeg.f (a0_0 : Int) (a0_1 : Int) : Option (Bool) := (impl_within.f a0_0 (-40) 40).bind fun t231 => (if t231 = true then ((impl_within.f a0_1 (-40) 40).bind fun t232 => (some t232)) else (some false))
set_option maxHeartbeats 8000000 in
set_option maxRecDepth 100000 in
theorem impl_IsPeg.calls (a0_0 : Int) (a0_1 : Int) (r : Bool) (w : World) (h : impl_IsPeg.f a0_0 a0_1 = some r) :
  Calls Try.prog 62 #[.agg #[.int .i64 a0_0, .int .i64 a0_1]] w fun e w' => e = .returned (.bool r) ∧ Below w.heap.size w w' := by
 have hu26 := Try.underlying26; have HB := aM (Below.refl w.heap.size w)
 unfold impl_IsPeg.f at h; have H := h; clear h
 replace H := bS H; obtain ⟨t231, A2, H⟩ := H
 by_cases c3 : t231 = true
 ·subst c3; replace H := iT H; replace H := bS H; obtain ⟨t232, A4, H⟩ := H; obtain rfl := Option.some.inj H
  go_enter Try.func62, Try.ntmps62
  go_wp2_with (first | ((with_reducible refine gate_dst (N := 1) rfl ?_); refine bV 1 (cs := #[.int .i64 a0_0, .int .i64 a0_1]) (t := 26) rfl rfl (by first | (go_simp; done) | (go_simp; rfl)) ?_; intro gb230 hg w5 hbox hb; have BK230 := hbox; have GW230 := gZ HB hg; have GE230 := gZ HB hg; replace HB := tB HB hb; clear hb hbox hg; have hcz6_0 := vZ0 BK230; have hcz6_1 := vZ1 BK230; have hfz6_0 := kF BK230.out 0; have hfz6_1 := kF BK230.out 1) | ((with_reducible refine gC (f := 59) rfl ?_); refine goesL_ (some 5) rfl rfl Try.func59 kR rfl #[.int .i64 a0_0, .int .i64 (-40), .int .i64 40] rfl sQ ?_; (with_reducible refine (impl_within.calls a0_0 (-40) 40 true _ A2.out).mono ?_); rintro e w' ⟨rfl, ⟨nd, rfl⟩⟩; refine ⟨_, rfl, ?_⟩) | (go_at_call 59; (with_reducible refine (impl_within.calls a0_1 (-40) 40 t232 _ A4.out).mono ?_); rintro e w' ⟨rfl, ⟨nd, rfl⟩⟩))
  go_ret
  exact ⟨wQ, bE⟩
 ·replace c3 := Bool.eq_false_iff.mpr c3; subst c3; replace H := iF H; obtain rfl := Option.some.inj H
  go_enter Try.func62, Try.ntmps62
  go_wp2_with (first | ((with_reducible refine gate_dst (N := 1) rfl ?_); refine bV 1 (cs := #[.int .i64 a0_0, .int .i64 a0_1]) (t := 26) rfl rfl (by first | (go_simp; done) | (go_simp; rfl)) ?_; intro gb230 hg w7 hbox hb; have BK230 := hbox; have GW230 := gZ HB hg; have GE230 := gZ HB hg; replace HB := tB HB hb; clear hb hbox hg; have hcz8_0 := vZ0 BK230; have hcz8_1 := vZ1 BK230; have hfz8_0 := kF BK230.out 0; have hfz8_1 := kF BK230.out 1) | ((with_reducible refine gC (f := 59) rfl ?_); refine goesL_ (some 5) rfl rfl Try.func59 kR rfl #[.int .i64 a0_0, .int .i64 (-40), .int .i64 40] rfl sQ ?_; (with_reducible refine (impl_within.calls a0_0 (-40) 40 false _ A2.out).mono ?_); rintro e w' ⟨rfl, ⟨nd, rfl⟩⟩; refine ⟨_, rfl, ?_⟩))
  go_ret
  exact ⟨wQ, bE⟩

def impl_arePegs_1.f (a0_0 : Int) (a0_1 : Int) : Option (Bool) := (impl_IsPeg.f a0_0 a0_1).bind fun t234 => (some (!t234))
set_option maxHeartbeats 8000000 in
set_option maxRecDepth 100000 in
theorem impl_arePegs_1.calls (a0_0 : Int) (a0_1 : Int) (r : Bool) (w : World) (h : impl_arePegs_1.f a0_0 a0_1 = some r) :
  Calls Try.prog 122 #[.agg #[.int .i64 a0_0, .int .i64 a0_1]] w fun e w' => e = .returned (.bool r) ∧ Below w.heap.size w w' := by
 have hu26 := Try.underlying26; have HB := aM (Below.refl w.heap.size w)
 unfold impl_arePegs_1.f at h; have H := h; clear h
 replace H := bS H; obtain ⟨t234, A2, H⟩ := H; obtain rfl := Option.some.inj H
 go_enter Try.func122, Try.ntmps122
 go_wp2_with (first | ((with_reducible refine gate_dst (N := 1) rfl ?_); refine bV 1 (cs := #[.int .i64 a0_0, .int .i64 a0_1]) (t := 26) rfl rfl (by first | (go_simp; done) | (go_simp; rfl)) ?_; intro gb233 hg w3 hbox hb; have BK233 := hbox; have GW233 := gZ HB hg; have GE233 := gZ HB hg; replace HB := tB HB hb; clear hb hbox hg; have hcz4_0 := vZ0 BK233; have hcz4_1 := vZ1 BK233; have hfz4_0 := kF BK233.out 0; have hfz4_1 := kF BK233.out 1) | ((with_reducible refine gC (f := 62) rfl ?_); refine goesL_ (some 4) rfl rfl Try.func62 kR rfl #[.agg #[.int .i64 a0_0, .int .i64 a0_1]] rfl sQ ?_; (with_reducible refine (impl_IsPeg.calls a0_0 a0_1 t234 _ A2.out).mono ?_); rintro e w5 ⟨rfl, hb⟩; refine ⟨_, rfl, ?_⟩; replace BK233 := bB BK233 hb; replace HB := tB HB hb; (try clear hb); (try clear hb2); (try clear hk); (try clear hi)))
 go_ret
 exact ⟨wQ, bE⟩

def slices_IndexFunc_impl_Peg_at_impl_arePegs_1.l0 : Nat → List (S_impl_Peg) → Int → Int → Option (Int)
 | 0, _, _, _ => none
 | k + 1, x0, x7, x8 => if x8 < x7 then (if 0 ≤ x8 then (if x8 < (x0.length : Int) then ((impl_arePegs_1.f ((rd_impl_Peg x0 x8).f0) ((rd_impl_Peg x0 x8).f1)).bind fun t236 => (if t236 = true then (some x8) else (slices_IndexFunc_impl_Peg_at_impl_arePegs_1.l0 k x0 x7 (wrap64 (x8 + 1))))) else (none)) else (none)) else (some (-1))
def slices_IndexFunc_impl_Peg_at_impl_arePegs_1.f (k : Nat) (l0 : List (S_impl_Peg)) : Option (Int) := slices_IndexFunc_impl_Peg_at_impl_arePegs_1.l0 k l0 (l0.length : Int) 0
theorem slices_IndexFunc_impl_Peg_at_impl_arePegs_1.mono_l : ∀ k, (∀ y0 y1 y2, LeO (slices_IndexFunc_impl_Peg_at_impl_arePegs_1.l0 k y0 y1 y2) (slices_IndexFunc_impl_Peg_at_impl_arePegs_1.l0 (k + 1) y0 y1 y2))
 | 0 => fun _ _ _ r h => by simp [slices_IndexFunc_impl_Peg_at_impl_arePegs_1.l0] at h
 | k + 1 => by
  have ih0 := slices_IndexFunc_impl_Peg_at_impl_arePegs_1.mono_l k
  ·intro y0 y1 y2
   unfold slices_IndexFunc_impl_Peg_at_impl_arePegs_1.l0
   repeat' first
   | (with_reducible exact ih0 _ _ _)
   | (with_reducible exact LeO.refl _)
   | (with_reducible exact LeO.none _)
   | (with_reducible refine LeO.ite ?_ ?_)
   | (with_reducible refine LeO.bind ?_ (fun _ => ?_))
   | exact ih0 _ _ _
   | exact LeO.none _
   | refine LeO.ite ?_ ?_
   | refine LeO.bind ?_ (fun _ => ?_)
theorem slices_IndexFunc_impl_Peg_at_impl_arePegs_1.mono : ∀ a0 k, LeO (slices_IndexFunc_impl_Peg_at_impl_arePegs_1.f k a0) (slices_IndexFunc_impl_Peg_at_impl_arePegs_1.f (k + 1) a0) := by
 intro a0 k
 have ih0 := slices_IndexFunc_impl_Peg_at_impl_arePegs_1.mono_l k
 unfold slices_IndexFunc_impl_Peg_at_impl_arePegs_1.f
 repeat' first | (with_reducible exact ih0 _ _ _) | (with_reducible exact LeO.refl _) | (with_reducible exact LeO.none _) | (with_reducible refine LeO.ite ?_ ?_) | (with_reducible refine LeO.bind ?_ (fun _ => ?_)) | exact ih0 _ _ _ | exact LeO.none _ | refine LeO.ite ?_ ?_ | refine LeO.bind ?_ (fun _ => ?_)
set_option maxHeartbeats 8000000 in
set_option maxRecDepth 100000 in
theorem slices_IndexFunc_impl_Peg_at_impl_arePegs_1.calls (k : Nat) (A0 : Option Addr) (c0 : Nat) (l0 : List (S_impl_Peg)) (r : Int) (w : World) (hr0 : Kd.C kd_impl_Peg w A0 l0.length l0) (hc0 : l0.length ≤ c0) (h : slices_IndexFunc_impl_Peg_at_impl_arePegs_1.f k l0 = some r) :
  Calls Try.prog 139 #[.slice A0 l0.length c0, .func (.func 122) #[] #[]] w fun e w' => e = .returned (.int .i64 r) ∧ Below w.heap.size w w' := by
 have hu26 := Try.underlying26; have HR0 := aM hr0; have HC0 := aM hc0; clear hr0 hc0; have HB := aM (Below.refl w.heap.size w)
 unfold slices_IndexFunc_impl_Peg_at_impl_arePegs_1.f at h; have H := h; clear h
 have H' := aM H; clear H
 go_enter Try.func139, Try.ntmps139
 go_wp2
 go_loopg [8] k (fun kq v8 w' => ∃ (x8_1 : Int), v8 = .int .i64 x8_1 ∧ Aside0 (slices_IndexFunc_impl_Peg_at_impl_arePegs_1.l0 kq l0 (l0.length : Int) x8_1 = some r) ∧ Aside0 (kq ≤ k) ∧ Aside0 (Below w.heap.size w w'))
 case atStart => exact ⟨(0), eQ, H', ⟨Nat.le_refl _⟩, ⟨bQ⟩⟩
 case round =>
  clear H'; obtain ⟨x8_1, rfl, HA, HK1, HB⟩ := hrel
  cases gk with
  | zero => exact absurd HA.out (by simp [slices_IndexFunc_impl_Peg_at_impl_arePegs_1.l0])
  | succ k1 =>
   have H := HA.out; clear HA
   simp only [slices_IndexFunc_impl_Peg_at_impl_arePegs_1.l0] at H
   by_cases c2 : x8_1 < (l0.length : Int)
   ·rw [if_pos c2] at H; have c2b0 := dE c2; clear c2; replace H := iD H; obtain ⟨c3b0, H⟩ := H; replace H := iD H; obtain ⟨c4b0, H⟩ := H; replace H := bS H; obtain ⟨t236, A5, H⟩ := H
    by_cases c6 : t236 = true
    ·subst c6; replace H := iT H; obtain rfl := Option.some.inj H; have p235 : 0 ≤ (x8_1 : Int) := dT aQ; have q235 : x8_1 < (l0.length : Int) := dT aQ; obtain ⟨ad235, e235, hx235_0, hx235_1⟩ := at_impl_Peg HR0.out x8_1 p235 q235
     cases e235
     replace hx235_0 := hC HB hx235_0; replace hx235_1 := hC HB hx235_1; replace p235 := eq_true p235; replace q235 := eq_true q235
     go_wp2_with (first | ((with_reducible refine gate_tmp rfl ?_); refine goesLT_ (some 16) rfl rfl Try.func122 kR rfl #[.agg #[.int .i64 ((rd_impl_Peg l0 x8_1).f0), .int .i64 ((rd_impl_Peg l0 x8_1).f1)]] rfl (by first | rfl | (simp [Act.eval]; done)) sQ ?_; (with_reducible refine (impl_arePegs_1.calls ((rd_impl_Peg l0 x8_1).f0) ((rd_impl_Peg l0 x8_1).f1) true _ A5.out).mono ?_); rintro e w7 ⟨rfl, hb⟩; refine ⟨_, rfl, ?_⟩; replace HB := tB HB hb; (try clear hb); (try clear hb2); (try clear hk); (try clear hi)))
     go_ret
     exact ⟨wQ, bQ⟩
    ·replace c6 := Bool.eq_false_iff.mpr c6; subst c6; replace H := iF H; have H' := aM H; clear H; have p235 : 0 ≤ (x8_1 : Int) := dT aQ; have q235 : x8_1 < (l0.length : Int) := dT aQ; obtain ⟨ad235, e235, hx235_0, hx235_1⟩ := at_impl_Peg HR0.out x8_1 p235 q235
     cases e235
     replace hx235_0 := hC HB hx235_0; replace hx235_1 := hC HB hx235_1; replace p235 := eq_true p235; replace q235 := eq_true q235
     go_wp2_with (first | ((with_reducible refine gate_tmp rfl ?_); refine goesLT_ (some 16) rfl rfl Try.func122 kR rfl #[.agg #[.int .i64 ((rd_impl_Peg l0 x8_1).f0), .int .i64 ((rd_impl_Peg l0 x8_1).f1)]] rfl (by first | rfl | (simp [Act.eval]; done)) sQ ?_; (with_reducible refine (impl_arePegs_1.calls ((rd_impl_Peg l0 x8_1).f0) ((rd_impl_Peg l0 x8_1).f1) false _ A5.out).mono ?_); rintro e w8 ⟨rfl, hb⟩; refine ⟨_, rfl, ?_⟩; replace HB := tB HB hb; (try clear hb); (try clear hb2); (try clear hk); (try clear hi)))
     go_roundg k1
     case measure => have := HK1.out; omega
     case rel => exact ⟨(wrap64 (x8_1 + 1)), eQ, H', ⟨by have := HK1.out; omega⟩, ⟨bQ⟩⟩
   ·rw [if_neg c2] at H; have c2b0 := decide_eq_false c2; clear c2; obtain rfl := Option.some.inj H; go_wp2
    go_ret
    exact ⟨wQ, bQ⟩

def slices_ContainsFunc_impl_Peg_at_impl_arePegs_1.f (k : Nat) (l0 : List (S_impl_Peg)) : Option (Bool) := (slices_IndexFunc_impl_Peg_at_impl_arePegs_1.f k l0).bind fun t237 => (some (decide (t237 ≥ 0)))
theorem slices_ContainsFunc_impl_Peg_at_impl_arePegs_1.mono : ∀ a0 k, LeO (slices_ContainsFunc_impl_Peg_at_impl_arePegs_1.f k a0) (slices_ContainsFunc_impl_Peg_at_impl_arePegs_1.f (k + 1) a0) := by
 intro a0 k
 unfold slices_ContainsFunc_impl_Peg_at_impl_arePegs_1.f
 repeat' first | (with_reducible exact slices_IndexFunc_impl_Peg_at_impl_arePegs_1.mono _ _) | (with_reducible exact LeO.refl _) | (with_reducible exact LeO.none _) | (with_reducible refine LeO.ite ?_ ?_) | (with_reducible refine LeO.bind ?_ (fun _ => ?_)) | exact slices_IndexFunc_impl_Peg_at_impl_arePegs_1.mono _ _ | exact LeO.none _ | refine LeO.ite ?_ ?_ | refine LeO.bind ?_ (fun _ => ?_)
set_option maxHeartbeats 8000000 in
set_option maxRecDepth 100000 in
theorem slices_ContainsFunc_impl_Peg_at_impl_arePegs_1.calls (k : Nat) (A0 : Option Addr) (c0 : Nat) (l0 : List (S_impl_Peg)) (r : Bool) (w : World) (hr0 : Kd.C kd_impl_Peg w A0 l0.length l0) (hc0 : l0.length ≤ c0) (h : slices_ContainsFunc_impl_Peg_at_impl_arePegs_1.f k l0 = some r) :
  Calls Try.prog 121 #[.slice A0 l0.length c0, .func (.func 122) #[] #[]] w fun e w' => e = .returned (.bool r) ∧ Below w.heap.size w w' := by
 have HR0 := aM hr0; have HC0 := aM hc0; clear hr0 hc0; have HB := aM (Below.refl w.heap.size w)
 unfold slices_ContainsFunc_impl_Peg_at_impl_arePegs_1.f at h; have H := h; clear h
 replace H := bS H; obtain ⟨t237, A2, H⟩ := H; obtain rfl := Option.some.inj H
 go_enter Try.func121, Try.ntmps121
 go_wp2_with (first | ((with_reducible refine gC (f := 139) rfl ?_); refine goesL_ (some 7) rfl rfl Try.func139 kR rfl #[.slice A0 l0.length c0, .func (.func 122) #[] #[]] rfl sQ ?_; (with_reducible refine (slices_IndexFunc_impl_Peg_at_impl_arePegs_1.calls k _ _ l0 t237 _ ?side1 ?side2 A2.out).mono ?_); (case side1 => repeat (first | exact HR0.out | (with_reducible refine cA ?_ _) | (with_reducible refine cN ?_ _) | (with_reducible refine cD ?_))); (case side2 => exact HC0.out); rintro e w3 ⟨rfl, hb⟩; refine ⟨_, rfl, ?_⟩; replace HB := tB HB hb; (try clear hb); (try clear hb2); (try clear hk); (try clear hi)))
 go_ret
 exact ⟨wQ, bQ⟩

def impl_arePegs.f (k : Nat) (l0 : List (S_impl_Peg)) : Option (Bool) := (slices_ContainsFunc_impl_Peg_at_impl_arePegs_1.f k l0).bind fun t238 => (some (!t238))
theorem impl_arePegs.mono : ∀ a0 k, LeO (impl_arePegs.f k a0) (impl_arePegs.f (k + 1) a0) := by
 intro a0 k
 unfold impl_arePegs.f
 repeat' first | (with_reducible exact slices_ContainsFunc_impl_Peg_at_impl_arePegs_1.mono _ _) | (with_reducible exact LeO.refl _) | (with_reducible exact LeO.none _) | (with_reducible refine LeO.ite ?_ ?_) | (with_reducible refine LeO.bind ?_ (fun _ => ?_)) | exact slices_ContainsFunc_impl_Peg_at_impl_arePegs_1.mono _ _ | exact LeO.none _ | refine LeO.ite ?_ ?_ | refine LeO.bind ?_ (fun _ => ?_)
set_option maxHeartbeats 8000000 in
set_option maxRecDepth 100000 in
theorem impl_arePegs.calls (k : Nat) (A0 : Option Addr) (c0 : Nat) (l0 : List (S_impl_Peg)) (r : Bool) (w : World) (hr0 : Kd.C kd_impl_Peg w A0 l0.length l0) (hc0 : l0.length ≤ c0) (h : impl_arePegs.f k l0 = some r) :
  Calls Try.prog 74 #[.slice A0 l0.length c0] w fun e w' => e = .returned (.bool r) ∧ Below w.heap.size w w' := by
 have HR0 := aM hr0; have HC0 := aM hc0; clear hr0 hc0; have HB := aM (Below.refl w.heap.size w)
 unfold impl_arePegs.f at h; have H := h; clear h
 replace H := bS H; obtain ⟨t238, A2, H⟩ := H; obtain rfl := Option.some.inj H
 go_enter Try.func74, Try.ntmps74
 go_wp2_with (first | ((with_reducible refine gC (f := 121) rfl ?_); refine goesL_ (some 4) rfl rfl Try.func121 kR rfl #[.slice A0 l0.length c0, .func (.func 122) #[] #[]] rfl sQ ?_; (with_reducible refine (slices_ContainsFunc_impl_Peg_at_impl_arePegs_1.calls k _ _ l0 t238 _ ?side1 ?side2 A2.out).mono ?_); (case side1 => repeat (first | exact HR0.out | (with_reducible refine cA ?_ _) | (with_reducible refine cN ?_ _) | (with_reducible refine cD ?_))); (case side2 => exact HC0.out); rintro e w3 ⟨rfl, hb⟩; refine ⟨_, rfl, ?_⟩; replace HB := tB HB hb; (try clear hb); (try clear hb2); (try clear hk); (try clear hi)))
 go_ret
 exact ⟨wQ, bQ⟩

def impl_at.f (l0 : List (S_impl_Peg)) (a1 : Int) : Option (Int × Int) := if (l0.length : Int) = 0 then (none) else (if 0 ≤ (Int.tmod (wrap64 ((Int.tmod a1 (l0.length : Int)) + (l0.length : Int))) (l0.length : Int)) then (if (Int.tmod (wrap64 ((Int.tmod a1 (l0.length : Int)) + (l0.length : Int))) (l0.length : Int)) < (l0.length : Int) then (some ((rd_impl_Peg l0 (Int.tmod (wrap64 ((Int.tmod a1 (l0.length : Int)) + (l0.length : Int))) (l0.length : Int))).f0, (rd_impl_Peg l0 (Int.tmod (wrap64 ((Int.tmod a1 (l0.length : Int)) + (l0.length : Int))) (l0.length : Int))).f1)) else (none)) else (none))
set_option maxHeartbeats 8000000 in
set_option maxRecDepth 100000 in
theorem impl_at.calls (A0 : Option Addr) (c0 : Nat) (l0 : List (S_impl_Peg)) (a1 : Int) (r1 : Int) (r2 : Int) (w : World) (hr0 : Kd.C kd_impl_Peg w A0 l0.length l0) (hc0 : l0.length ≤ c0) (h : impl_at.f l0 a1 = some (r1, r2)) :
  Calls Try.prog 108 #[.slice A0 l0.length c0, .int .i64 a1] w fun e w' => e = .returned (.agg #[.int .i64 r1, .int .i64 r2]) ∧ Below w.heap.size w w' := by
 have hu26 := Try.underlying26; have HR0 := aM hr0; have HC0 := aM hc0; clear hr0 hc0; have HB := aM (Below.refl w.heap.size w)
 unfold impl_at.f at h; have H := h; clear h
 replace H := iM H; obtain ⟨c3, H⟩ := H; have c3b0 : ((l0.length : Int) == 0) = false := beq_eq_false_iff_ne.mpr c3; have c3b1 : ((l0.length : Int) != 0) = true := bne_iff_ne.mpr c3; have c3b2 : ¬ (l0 = []) := fun h_ => c3 (by rw [h_]; rfl)
 obtain ⟨ji4, hji4⟩ : ∃ j_ : Int, (Int.tmod (wrap64 ((Int.tmod a1 (l0.length : Int)) + (l0.length : Int))) (l0.length : Int)) = j_ := ⟨_, rfl⟩
 (first | rw [hji4] at H | simp only [hji4] at H)
 replace H := iD H; obtain ⟨c5b0, H⟩ := H; replace H := iD H; obtain ⟨c6b0, H⟩ := H
 simp only [Option.some.injEq, Prod.mk.injEq] at H
 obtain ⟨rfl, rfl⟩ := H
 go_enter Try.func108, Try.ntmps108
 go_wp2_with (first | ((with_reducible refine gate_dst (N := 4) rfl ?_); refine bV 4 (cs := #[.int .i64 0, .int .i64 0]) (t := 26) rfl rfl (by first | (go_simp; done) | (go_simp; rfl)) ?_; intro gb239 hg w7 hbox hb; have BK239 := hbox; have GW239 := gZ HB hg; have GE239 := gZ HB hg; replace HB := tB HB hb; clear hb hbox hg; have p240 : 0 ≤ ((ji4) : Int) := dT aQ; have q240 : (ji4) < (l0.length : Int) := dT aQ; obtain ⟨ad240, e240, hx240_0, hx240_1⟩ := at_impl_Peg HR0.out (ji4) p240 q240; cases e240; replace hx240_0 := hC HB hx240_0; replace hx240_1 := hC HB hx240_1; replace p240 := eq_true p240; replace q240 := eq_true q240; have hcz8_0 := vZ0 BK239; have hcz8_1 := vZ1 BK239; have hfz8_0 := kF BK239.out 0; have hfz8_1 := kF BK239.out 1))
 refine bodyPost_ret (results_cell_row rfl _ _ gb239 26 #[.int .i64 ((rd_impl_Peg l0 (ji4)).f0), .int .i64 ((rd_impl_Peg l0 (ji4)).f1)] (0, 0) _ rfl (fQ BK239) Try.underlying26 rfl kR) rfl ?_
 exact ⟨by first | rfl | (simp [errW_none, errW_some] <;> rfl) | (simp only [← hji4]; first | rfl | (simp [errW_none, errW_some] <;> rfl)) | (simp [*, errW_none, errW_some] <;> rfl), bE⟩
def impl_told.l0 : Nat → List (S_impl_Peg) → Int → Int → List (S_impl_Peg) → Int → Int → Option ((List (S_impl_Peg)))
 | 0, _, _, _, _, _, _ => none
 | k + 1, x0, x1, x2, x7, x13, x14 => if x14 < x13 then ((impl_at.f x0 (wrap64 (x1 + (wrap64 (x14 * x2))))).bind fun bt244 => (if x7.length < 8796093022208 then (impl_told.l0 k x0 x1 x2 (x7 ++ [(⟨bt244.1, bt244.2⟩ : S_impl_Peg)]) x13 (wrap64 (x14 + 1))) else (none))) else (some x7)
def impl_told.f (k : Nat) (l0 : List (S_impl_Peg)) (a1 : Int) (a2 : Int) : Option ((List (S_impl_Peg))) := if 0 ≤ (l0.length : Int) then (if ((l0.length : Int) : Int).toNat ≤ 17592186044416 then (impl_told.l0 k l0 a1 a2 (([] : List (S_impl_Peg))) (l0.length : Int) 0) else (none)) else (none)
theorem impl_told.mono_l : ∀ k, (∀ y0 y1 y2 y3 y4 y5, LeO (impl_told.l0 k y0 y1 y2 y3 y4 y5) (impl_told.l0 (k + 1) y0 y1 y2 y3 y4 y5))
 | 0 => fun _ _ _ _ _ _ r h => by simp [impl_told.l0] at h
 | k + 1 => by
  have ih0 := impl_told.mono_l k
  ·intro y0 y1 y2 y3 y4 y5
   unfold impl_told.l0
   repeat' first
   | (with_reducible exact ih0 _ _ _ _ _ _)
   | (with_reducible exact LeO.refl _)
   | (with_reducible exact LeO.none _)
   | (with_reducible refine LeO.ite ?_ ?_)
   | (with_reducible refine LeO.bind ?_ (fun _ => ?_))
   | exact ih0 _ _ _ _ _ _
   | exact LeO.none _
   | refine LeO.ite ?_ ?_
   | refine LeO.bind ?_ (fun _ => ?_)
theorem impl_told.mono : ∀ a0 a1 a2 k, LeO (impl_told.f k a0 a1 a2) (impl_told.f (k + 1) a0 a1 a2) := by
 intro a0 a1 a2 k
 have ih0 := impl_told.mono_l k
 unfold impl_told.f
 repeat' first | (with_reducible exact ih0 _ _ _ _ _ _) | (with_reducible exact LeO.refl _) | (with_reducible exact LeO.none _) | (with_reducible refine LeO.ite ?_ ?_) | (with_reducible refine LeO.bind ?_ (fun _ => ?_)) | exact ih0 _ _ _ _ _ _ | exact LeO.none _ | refine LeO.ite ?_ ?_ | refine LeO.bind ?_ (fun _ => ?_)
set_option maxHeartbeats 8000000 in
set_option maxRecDepth 100000 in
theorem impl_told.calls (k : Nat) (A0 : Option Addr) (c0 : Nat) (l0 : List (S_impl_Peg)) (a1 : Int) (a2 : Int) (r : List (S_impl_Peg)) (w : World) (hr0 : Kd.C kd_impl_Peg w A0 l0.length l0) (hc0 : l0.length ≤ c0) (h : impl_told.f k l0 a1 a2 = some r) :
  Calls Try.prog 66 #[.slice A0 l0.length c0, .int .i64 a1, .int .i64 a2] w fun e w' => ∃ v0_ : Value, e = .returned (v0_) ∧ Kd.R kd_impl_Peg 26 w' w.heap.size (fun _ => True) v0_ r ∧ Below w.heap.size w w' := by
 have HR0 := aM hr0; have HC0 := aM hc0; clear hr0 hc0; have HB := aM (Below.refl w.heap.size w)
 unfold impl_told.f at h; have H := h; clear h
 replace H := iN H; obtain ⟨c4, H⟩ := H; have c4b0 := eq_true c4; have c4b1 := dE c4; clear c4; replace H := iN H; obtain ⟨c5, H⟩ := H; have c5b0 := eq_true c5; have c5b1 := dE c5; clear c5; obtain ⟨y241, hy241⟩ : ∃ y_ : List (S_impl_Peg), y_ = (([] : List (S_impl_Peg))) := ⟨_, rfl⟩; rw [← hy241] at H; have Ny241 := aM hy241; clear hy241; have H' := aM H; clear H
 go_enter Try.func66, Try.ntmps66
 go_wp2_with (first | ((with_reducible refine gate_dst (N := 11) rfl ?_); refine Kd.R_makecap kd_impl_Peg _ 26 rfl (N := 11) rfl 29 _ _ rfl (l0.length : Int) rfl rfl Try.underlying29 (.agg #[(.int .i64 0), (.int .i64 0)]) 16 info26 rfl (by decide) (by omega) z_impl_Peg (ok := fun _ => True) (okp := fun _ => True) (kd_impl_Peg_mkM _ _ _ z_impl_Peg ) (fun _ hk => hk) trivial (dT aQ) (Nat.le_trans (Nat.mul_le_mul_right _ (dT aQ : (l0.length : Int).toNat ≤ 17592186044416)) (by omega)) (Below.refl _ _) (Nat.le_refl _) ?_; intro v242 w6 ho7 hb hg_ hnew_; clear hg_ hnew_; (first | rw [← Ny241.out] at ho7 | (simp only [Int.reduceToNat] at ho7; rw [← Ny241.out] at ho7)); have HO243 := aM (Kd.R_lower ho7 (pZ bQ)); replace HB := tB HB hb; clear hb ho7))
 go_loopg [7, 14] k (fun kq v7 v14 w' => ∃ (x7_1 : List (S_impl_Peg)) (x14_1 : Int), v14 = .int .i64 x14_1 ∧ Aside0 (impl_told.l0 kq l0 a1 a2 x7_1 (l0.length : Int) x14_1 = some r) ∧ Aside0 (kq ≤ k) ∧ Aside0 (Kd.R kd_impl_Peg 26 w' w.heap.size (fun _ => True) v7 x7_1) ∧ Aside0 (Below w.heap.size w w'))
 case atStart => exact ⟨(y241), (0), eQ, H', ⟨Nat.le_refl _⟩, ⟨by (with_reducible repeat (first | apply rA | apply rN | apply rD)); exact HO243.out⟩, ⟨bQ⟩⟩
 case round =>
  clear H'; (try clear c4); (try clear c4b0); (try clear c4b1); (try clear c5); (try clear c5b0); (try clear c5b1); obtain ⟨x7_1, x14_1, rfl, HA, HK1, HO_7, HB⟩ := hrel
  cases gk with
  | zero => exact absurd HA.out (by simp [impl_told.l0])
  | succ k1 =>
   have H := HA.out; clear HA
   simp only [impl_told.l0] at H
   by_cases c8 : x14_1 < (l0.length : Int)
   ·rw [if_pos c8] at H; have c8b0 := dE c8; clear c8; replace H := bS H; obtain ⟨⟨t244, t245⟩, A9, H⟩ := H; replace H := iN H; obtain ⟨c10, H⟩ := H; have LMc10 := aM c10; clear c10; obtain ⟨y246, hy246⟩ : ∃ y_ : List (S_impl_Peg), y_ = (x7_1 ++ [(⟨t244, t245⟩ : S_impl_Peg)]) := ⟨_, rfl⟩; rw [← hy246] at H; have Ny246 := aM hy246; clear hy246; have H' := aM H; clear H
    go_wp2_with (first | ((with_reducible refine gC (f := 108) rfl ?_); refine goesL_ (some 24) rfl rfl Try.func108 kR rfl #[.slice A0 l0.length c0, .int .i64 (wrap64 (a1 + (wrap64 (x14_1 * a2))))] rfl sQ ?_; (with_reducible refine (impl_at.calls _ _ l0 (wrap64 (a1 + (wrap64 (x14_1 * a2)))) t244 t245 _ ?side1 ?side2 A9.out).mono ?_); (case side1 => repeat (first | exact (Kd.C_below HR0.out HB.out) | (with_reducible refine cA ?_ _) | (with_reducible refine cN ?_ _) | (with_reducible refine cD ?_))); (case side2 => exact HC0.out); rintro e w11 ⟨rfl, hb⟩; refine ⟨_, rfl, ?_⟩; replace HO_7 := aM (Kd.R_below (by (with_reducible repeat (first | apply rA | apply rN | apply rD)); exact HO_7.out) hb); replace HB := tB HB hb; (try clear hb); (try clear hb2); (try clear hk); (try clear hi)) | ((with_reducible refine gate_builtin (b := .append) (xs := #[.tmp 17, .tmp 25]) rfl ?_); at_builtin; refine Kd.R_append kd_impl_Peg (w0 := w) w.heap.size rfl (.tmp 17) (.tmp 25) 29 26 (.agg #[(.int .i64 0), (.int .i64 0)]) 16 rfl Try.underlying29 info26 rfl (by decide) (by omega) u7 x7_1 (⟨t244, t245⟩ : S_impl_Peg) [.int .i64 t244, .int .i64 t245] (fun _ => True) (fun _ => False) rfl rfl ?aP (fun _ hk => hk.elim) ?aF ?aO ?aB ?aS ?aL ?_; (case aP => exact kd_impl_Peg_mkM _ _ _ (⟨t244, t245⟩ : S_impl_Peg)); (case aB => exact bQ); (case aF => exact (fun _ _ => trivial)); (case aO => exact (by (with_reducible repeat (first | apply rA | apply rN | apply rD)); exact HO_7.out)); (case aS => exact (pZ bQ)); (case aL => have := LMc10.out; omega); intro v247 w12 ho hb hg hat; rw [← Ny246.out] at ho; have n0_ := aM (hb); have n1_ := aM (ho); clear HB; clear HO_7; have HB := n0_; have HO248 := n1_; clear n0_ n1_; clear ho hb hg hat))
    go_roundg k1
    case measure => have := HK1.out; omega
    case rel => exact ⟨(y246), (wrap64 (x14_1 + 1)), eQ, H', ⟨by have := HK1.out; omega⟩, ⟨by (with_reducible repeat (first | apply rA | apply rN | apply rD)); exact HO248.out⟩, ⟨bQ⟩⟩
   ·rw [if_neg c8] at H; have c8b0 := decide_eq_false c8; clear c8; obtain rfl := Option.some.inj H; go_wp2
    go_ret
    exact ⟨_, by first | rfl | (simp [errW_none, errW_some] <;> rfl) | (simp [*, errW_none, errW_some] <;> rfl), by (with_reducible repeat (first | apply rA | apply rN | apply rD)); exact HO_7.out, bQ⟩
end Go.Proofs.Ytklhakfmegbobaa.X
