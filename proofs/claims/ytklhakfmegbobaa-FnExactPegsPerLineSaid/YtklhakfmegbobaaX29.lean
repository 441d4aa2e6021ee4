-- thin
-- short
-- compact
import Derived.Test.YtklhakfmegbobaaXA
import Derived.Test.YtklhakfmegbobaaX0
import Derived.Test.YtklhakfmegbobaaX2
import Derived.Test.YtklhakfmegbobaaX4
import Derived.Test.YtklhakfmegbobaaX17
import Derived.Test.YtklhakfmegbobaaX18
import Derived.Test.YtklhakfmegbobaaX19
namespace Go.Proofs.Ytklhakfmegbobaa.X
open Go.RowKit Go.Proofs.Ytklhakfmegbobaa.XW Go.Proofs.YtklhakfmegbobaaW.PrintWords Go.Proofs.YtklhakfmegbobaaW.PrintLast Go.Proofs.YtklhakfmegbobaaW.PrintMore
attribute [local go_sem] max2_int min2_int max_two min_two max_three min_three max_four min_four   -- for this text's walks alone
set_option linter.unusedVariables false
set_option linter.unusedSimpArgs false

def laws_markIntS.l0 : Nat → List Int → Int → Int → Option (Int × List Int)
 | 0, _, _, _ => none
 | k + 1, x0, x1, x5 => if x5 < (x0.length : Int) then (if 0 ≤ x5 then (laws_markIntS.l0 k (x0.set (x5 : Int).toNat x1) (wrap64 (x1 + 1)) (wrap64 (x5 + 1))) else (none)) else (some (x1, x0))
def laws_markIntS.f (k : Nat) (l0 : List Int) (a1 : Int) : Option (Int × List Int) := laws_markIntS.l0 k l0 a1 0
theorem laws_markIntS.mono_l : ∀ k, (∀ y0 y1 y2, LeO (laws_markIntS.l0 k y0 y1 y2) (laws_markIntS.l0 (k + 1) y0 y1 y2))
 | 0 => fun _ _ _ r h => by simp [laws_markIntS.l0] at h
 | k + 1 => by
  have ih0 := laws_markIntS.mono_l k
  ·intro y0 y1 y2
   unfold laws_markIntS.l0
   repeat' first
   | (with_reducible exact ih0 _ _ _)
   | (with_reducible exact LeO.refl _)
   | (with_reducible exact LeO.none _)
   | (with_reducible refine LeO.ite ?_ ?_)
   | (with_reducible refine LeO.bind ?_ (fun _ => ?_))
   | exact ih0 _ _ _
   | exact LeO.none _
   | refine LeO.ite ?_ ?_
   | refine LeO.bind ?_ (fun _ => ?_)
theorem laws_markIntS.mono : ∀ a0 a1 k, LeO (laws_markIntS.f k a0 a1) (laws_markIntS.f (k + 1) a0 a1) := by
 intro a0 a1 k
 have ih0 := laws_markIntS.mono_l k
 unfold laws_markIntS.f
 repeat' first | (with_reducible exact ih0 _ _ _) | (with_reducible exact LeO.refl _) | (with_reducible exact LeO.none _) | (with_reducible refine LeO.ite ?_ ?_) | (with_reducible refine LeO.bind ?_ (fun _ => ?_)) | exact ih0 _ _ _ | exact LeO.none _ | refine LeO.ite ?_ ?_ | refine LeO.bind ?_ (fun _ => ?_)
set_option maxHeartbeats 8000000 in
set_option maxRecDepth 100000 in
theorem laws_markIntS.calls (k : Nat) (P0_ : Nat → Prop) (u9000_ : Value) (l0 : List Int) (a1 : Int) (r1 : Int) (r2 : List Int) (w0 w : World) (hB : Below w0.heap.size w0 w) (ho0 : Kd.R (Kd.int .i64) 3 w w0.heap.size P0_ u9000_ l0) (h : laws_markIntS.f k l0 a1 = some (r1, r2)) :
  Calls Try.prog 31 #[u9000_, .int .i64 a1] w fun e w' => e = .returned (.int .i64 r1) ∧ Kd.R (Kd.int .i64) 3 w' w0.heap.size (fun k_ => (P0_ k_ ∨ w.heap.size ≤ k_)) u9000_ r2 ∧ Below w0.heap.size w0 w' ∧ Kept w w' (fun k_ => P0_ k_) := by
 have HO0 := aM (show Kd.R (Kd.int .i64) 3 w w0.heap.size (fun k_ => (P0_ k_ ∨ w.heap.size ≤ k_)) u9000_ l0 from Kd.R_mono ho0 (fun k_ hk => (.inl hk))); have HK := aM (Kept.refl w (fun k_ => P0_ k_)); have HW0 := aM hB.size; have HB := aM hB; clear hB
 unfold laws_markIntS.f at h; have H := h; clear h
 have H' := aM H; clear H
 go_enter Try.func31, Try.ntmps31
 go_wp2
 go_loopg [1, 5] k (fun kq v1 v5 w' => ∃ (x0_1 : List Int) (x1_1 : Int) (x5_1 : Int), v1 = .int .i64 x1_1 ∧ v5 = .int .i64 x5_1 ∧ Aside0 (laws_markIntS.l0 kq x0_1 x1_1 x5_1 = some (r1, r2)) ∧ Aside0 (kq ≤ k) ∧ Aside0 (Kd.R (Kd.int .i64) 3 w' w0.heap.size (fun k_ => (P0_ k_ ∨ w.heap.size ≤ k_)) u9000_ x0_1) ∧ Aside0 (Kept w w' (fun k_ => P0_ k_)) ∧ Aside0 (Below w0.heap.size w0 w'))
 case atStart => exact ⟨(l0), (a1), (0), eQ, eQ, H', ⟨Nat.le_refl _⟩, ⟨by (with_reducible repeat (first | apply rA | apply rN | apply rD)); exact HO0.out⟩, ⟨by repeat (first | (with_reducible first | exact HK.out | apply Kept.alloc | apply Kept.drewN | apply Kept.drew) | exact HK.out)⟩, ⟨bQ⟩⟩
 case round =>
  clear H'; obtain ⟨x0_1, x1_1, x5_1, rfl, rfl, HA, HK1, HO_0, HK, HB⟩ := hrel
  cases gk with
  | zero => exact absurd HA.out (by simp [laws_markIntS.l0])
  | succ k1 =>
   have H := HA.out; clear HA
   simp only [laws_markIntS.l0] at H
   by_cases c3 : x5_1 < (x0_1.length : Int)
   ·rw [if_pos c3] at H; have c3b0 := dE c3; clear c3; replace H := iD H; obtain ⟨c4b0, H⟩ := H; obtain ⟨y556, hy556⟩ : ∃ y_ : List Int, y_ = (x0_1.set (x5_1 : Int).toNat x1_1) := ⟨_, rfl⟩; rw [← hy556] at H; have Ny556 := aM hy556; clear hy556; have H' := aM H; clear H; obtain ⟨Ao6, co6, eo6⟩ := Kd.R_slice HO_0.out; subst eo6; have p5 : 0 ≤ (x5_1 : Int) := dT aQ; have q5 : (x5_1 : Int) < ((x0_1.length : Int) : Int) := dT aQ; obtain ⟨go5, co5, eo5, gb5, gl5, cl5, HG5⟩ := Kd.R_form HO_0.out (by omega)
    (first | cases eo5 | (injection eo5 with ea_ en_ ec_; (first | subst ea_ | (injection ea_ with ea_; subst ea_)); subst ec_; clear en_))
    have GB5 := aM gb5; have GG5 := aM HG5; clear gb5 gl5 HG5; have HMgo5 := aM (show (P0_ go5 ∨ w.heap.size ≤ go5) from (HO_0.out.1 _ rfl)); obtain ⟨hx5_0, hf5_0⟩ := Kd.R_celln 0 HO_0.out (x5_1 : Int) p5 q5; replace p5 := eq_true p5; replace q5 := eq_true q5; have HP7 := Kd.R_putg HO_0.out (x5_1 : Int) x1_1
    go_wp2_with (first | ((with_reducible refine gate_store (t := 3) (p := 15) rfl ?_); refine store_event (t := 3) (p := 15) (v := ?vo_w8) (w1 := (wr.setCell ⟨go5, (x5_1 : Int).toNat, none⟩ (.int .i64 x1_1))) ?hg ?ho ?hn ?hr ?_; (case ho => rfl); (case hg => rfl); (case hn => rfl); (case hr => first | (go_simp; done) | (go_simp; rfl)); intro w8 hw; have hg : wr.grownBy w8 (some go5) := (by rw [hw]; exact HP7.2); have hp_ : Kd.R (Kd.int .i64) 3 w8 w0.heap.size (fun k_ => (P0_ k_ ∨ w.heap.size ≤ k_)) (.slice (some ⟨go5, 0, none⟩) x0_1.length co6) y556 := (by rw [hw, Ny556.out]; exact HP7.1); clear HP7; replace HB := aM ((by rw [hw]; exact pS (HB.out) GB5.out : Below w0.heap.size w0 w8)); replace HK := aM (Kept.of_grown (S := (fun k_ => P0_ k_)) hg (by repeat (first | (with_reducible first | exact HK.out | apply Kept.alloc | apply Kept.drewN | apply Kept.drew) | exact HK.out)) (fun k_ e_ => (HO_0.out.1 k_ e_))); replace HO_0 := aM (hp_); clear hg hw hp_))
    go_roundg k1
    case measure => have := HK1.out; omega
    case rel => exact ⟨(y556), (wrap64 (x1_1 + 1)), (wrap64 (x5_1 + 1)), eQ, eQ, H', ⟨by have := HK1.out; omega⟩, ⟨by (with_reducible repeat (first | apply rA | apply rN | apply rD)); exact HO_0.out⟩, ⟨by repeat (first | (with_reducible first | exact HK.out | apply Kept.alloc | apply Kept.drewN | apply Kept.drew) | exact HK.out)⟩, ⟨bQ⟩⟩
   ·rw [if_neg c3] at H; have c3b0 := decide_eq_false c3; clear c3
    simp only [Option.some.injEq, Prod.mk.injEq] at H
    obtain ⟨rfl, rfl⟩ := H; obtain ⟨Ao9, co9, eo9⟩ := Kd.R_slice HO_0.out; subst eo9; go_wp2
    go_ret
    exact ⟨wQ, by (with_reducible repeat (first | apply rA | apply rN | apply rD)); exact HO_0.out, by repeat (first | (with_reducible first | exact HB.out | apply pA | apply pN | apply pD) | exact HB.out), by repeat (first | (with_reducible first | exact HK.out | apply Kept.alloc | apply Kept.drewN | apply Kept.drew) | exact HK.out)⟩

def spec_wiDirection.f (k : Nat) (a0 : Int) (a1 : Int) : Option (Bool) := (spec_l1In.f a0 (-200) 200).bind fun t557 => (if t557 = true then ((spec_l1In.f a1 (-200) 200).bind fun t558 => (if t558 = true then ((spec_pgCommon.f k a0 a1).bind fun t559 => (some (t559 == 1))) else (some false))) else (some false))
theorem spec_wiDirection.mono : ∀ a0 a1 k, LeO (spec_wiDirection.f k a0 a1) (spec_wiDirection.f (k + 1) a0 a1) := by
 intro a0 a1 k
 unfold spec_wiDirection.f
 repeat' first | (with_reducible exact spec_pgCommon.mono _ _ _) | (with_reducible exact LeO.refl _) | (with_reducible exact LeO.none _) | (with_reducible refine LeO.ite ?_ ?_) | (with_reducible refine LeO.bind ?_ (fun _ => ?_)) | exact spec_pgCommon.mono _ _ _ | exact LeO.none _ | refine LeO.ite ?_ ?_ | refine LeO.bind ?_ (fun _ => ?_)
set_option maxHeartbeats 8000000 in
set_option maxRecDepth 100000 in
theorem spec_wiDirection.calls (k : Nat) (a0 : Int) (a1 : Int) (r : Bool) (w : World) (h : spec_wiDirection.f k a0 a1 = some r) :
  Calls Try.prog 129 #[.int .i64 a0, .int .i64 a1] w fun e w' => e = .returned (.bool r) ∧ Drawn0 w w' := by
 unfold spec_wiDirection.f at h; have H := h; clear h
 replace H := bS H; obtain ⟨t557, A3, H⟩ := H
 by_cases c4 : t557 = true
 ·subst c4; replace H := iT H; replace H := bS H; obtain ⟨t558, A5, H⟩ := H
  by_cases c6 : t558 = true
  ·subst c6; replace H := iT H; replace H := bS H; obtain ⟨t559, A7, H⟩ := H; obtain rfl := Option.some.inj H
   go_enter Try.func129, Try.ntmps129
   go_wp2_with (first | ((with_reducible refine gC (f := 79) rfl ?_); refine goesL_ (some 6) rfl rfl Try.func79 kR rfl #[.int .i64 a0, .int .i64 (-200), .int .i64 200] rfl sQ ?_; (with_reducible refine (spec_l1In.calls a0 (-200) 200 true _ A3.out).mono ?_); rintro e w' ⟨rfl, ⟨nd, rfl⟩⟩; refine ⟨_, rfl, ?_⟩) | (go_at_call 79; (with_reducible refine (spec_l1In.calls a1 (-200) 200 true _ A5.out).mono ?_); rintro e w' ⟨rfl, ⟨nd, rfl⟩⟩) | (go_at_call 142; (with_reducible refine (spec_pgCommon.calls k a0 a1 t559 _ A7.out).mono ?_); rintro e w' ⟨rfl, ⟨nd, rfl⟩⟩))
   go_ret
   exact ⟨eQ, dQ⟩
  ·replace c6 := Bool.eq_false_iff.mpr c6; subst c6; replace H := iF H; obtain rfl := Option.some.inj H
   go_enter Try.func129, Try.ntmps129
   go_wp2_with (first | ((with_reducible refine gC (f := 79) rfl ?_); refine goesL_ (some 6) rfl rfl Try.func79 kR rfl #[.int .i64 a0, .int .i64 (-200), .int .i64 200] rfl sQ ?_; (with_reducible refine (spec_l1In.calls a0 (-200) 200 true _ A3.out).mono ?_); rintro e w' ⟨rfl, ⟨nd, rfl⟩⟩; refine ⟨_, rfl, ?_⟩) | (go_at_call 79; (with_reducible refine (spec_l1In.calls a1 (-200) 200 false _ A5.out).mono ?_); rintro e w' ⟨rfl, ⟨nd, rfl⟩⟩))
   go_ret
   exact ⟨eQ, dQ⟩
 ·replace c4 := Bool.eq_false_iff.mpr c4; subst c4; replace H := iF H; obtain rfl := Option.some.inj H
  go_enter Try.func129, Try.ntmps129
  go_wp2_with (first | ((with_reducible refine gC (f := 79) rfl ?_); refine goesL_ (some 6) rfl rfl Try.func79 kR rfl #[.int .i64 a0, .int .i64 (-200), .int .i64 200] rfl sQ ?_; (with_reducible refine (spec_l1In.calls a0 (-200) 200 false _ A3.out).mono ?_); rintro e w' ⟨rfl, ⟨nd, rfl⟩⟩; refine ⟨_, rfl, ?_⟩))
  go_ret
  exact ⟨eQ, dQ⟩

def spec_wiAsked.f (k : Nat) (l0 : List (S_impl_Peg)) (a1 : Int) (a2 : Int) : Option (Bool) := (spec_pgGood.f k l0).bind fun t560 => (if t560 = true then ((spec_wiDirection.f k a1 a2).bind fun t561 => (some t561)) else (some false))
theorem spec_wiAsked.mono : ∀ a0 a1 a2 k, LeO (spec_wiAsked.f k a0 a1 a2) (spec_wiAsked.f (k + 1) a0 a1 a2) := by
 intro a0 a1 a2 k
 unfold spec_wiAsked.f
 repeat' first | (with_reducible exact spec_pgGood.mono _ _) | (with_reducible exact spec_wiDirection.mono _ _ _) | (with_reducible exact LeO.refl _) | (with_reducible exact LeO.none _) | (with_reducible refine LeO.ite ?_ ?_) | (with_reducible refine LeO.bind ?_ (fun _ => ?_)) | exact spec_pgGood.mono _ _ | exact spec_wiDirection.mono _ _ _ | exact LeO.none _ | refine LeO.ite ?_ ?_ | refine LeO.bind ?_ (fun _ => ?_)
set_option maxHeartbeats 8000000 in
set_option maxRecDepth 100000 in
theorem spec_wiAsked.calls (k : Nat) (A0 : Option Addr) (c0 : Nat) (l0 : List (S_impl_Peg)) (a1 : Int) (a2 : Int) (r : Bool) (w : World) (hr0 : Kd.C kd_impl_Peg w A0 l0.length l0) (hc0 : l0.length ≤ c0) (h : spec_wiAsked.f k l0 a1 a2 = some r) :
  Calls Try.prog 89 #[.slice A0 l0.length c0, .int .i64 a1, .int .i64 a2] w fun e w' => e = .returned (.bool r) ∧ Below w.heap.size w w' := by
 have HR0 := aM hr0; have HC0 := aM hc0; clear hr0 hc0; have HB := aM (Below.refl w.heap.size w)
 unfold spec_wiAsked.f at h; have H := h; clear h
 replace H := bS H; obtain ⟨t560, A4, H⟩ := H
 by_cases c5 : t560 = true
 ·subst c5; replace H := iT H; replace H := bS H; obtain ⟨t561, A6, H⟩ := H; obtain rfl := Option.some.inj H
  go_enter Try.func89, Try.ntmps89
  go_wp2_with (first | ((with_reducible refine gC (f := 63) rfl ?_); refine goesL_ (some 8) rfl rfl Try.func63 kR rfl #[.slice A0 l0.length c0] rfl sQ ?_; (with_reducible refine (spec_pgGood.calls k _ _ l0 true _ ?side1 ?side2 A4.out).mono ?_); (case side1 => repeat (first | exact HR0.out | (with_reducible refine cA ?_ _) | (with_reducible refine cN ?_ _) | (with_reducible refine cD ?_))); (case side2 => exact HC0.out); rintro e w7 ⟨rfl, hb⟩; refine ⟨_, rfl, ?_⟩; replace HB := tB HB hb; (try clear hb); (try clear hb2); (try clear hk); (try clear hi)) | (go_at_call 129; (with_reducible refine (spec_wiDirection.calls k a1 a2 t561 _ A6.out).mono ?_); rintro e w' ⟨rfl, ⟨nd, rfl⟩⟩))
  go_ret
  exact ⟨wQ, bQ⟩
 ·replace c5 := Bool.eq_false_iff.mpr c5; subst c5; replace H := iF H; obtain rfl := Option.some.inj H
  go_enter Try.func89, Try.ntmps89
  go_wp2_with (first | ((with_reducible refine gC (f := 63) rfl ?_); refine goesL_ (some 8) rfl rfl Try.func63 kR rfl #[.slice A0 l0.length c0] rfl sQ ?_; (with_reducible refine (spec_pgGood.calls k _ _ l0 false _ ?side1 ?side2 A4.out).mono ?_); (case side1 => repeat (first | exact HR0.out | (with_reducible refine cA ?_ _) | (with_reducible refine cN ?_ _) | (with_reducible refine cD ?_))); (case side2 => exact HC0.out); rintro e w8 ⟨rfl, hb⟩; refine ⟨_, rfl, ?_⟩; replace HB := tB HB hb; (try clear hb); (try clear hb2); (try clear hk); (try clear hi)))
  go_ret
  exact ⟨wQ, bQ⟩

def spec_l1Least.f (a0 : Int) (a1 : Int) : Option (Int) := if a0 < a1 then (some a0) else (some a1)
set_option maxHeartbeats 8000000 in
set_option maxRecDepth 100000 in
theorem spec_l1Least.calls (a0 : Int) (a1 : Int) (r : Int) (w : World) (h : spec_l1Least.f a0 a1 = some r) :
  Calls Try.prog 143 #[.int .i64 a0, .int .i64 a1] w fun e w' => e = .returned (.int .i64 r) ∧ Drawn0 w w' := by
 unfold spec_l1Least.f at h; have H := h; clear h
 by_cases c3 : a0 < a1
 ·rw [if_pos c3] at H; have c3b0 := dE c3; clear c3; obtain rfl := Option.some.inj H
  go_enter Try.func143, Try.ntmps143
  go_wp2
  go_ret
  exact ⟨eQ, dQ⟩
 ·rw [if_neg c3] at H; have c3b0 := decide_eq_false c3; clear c3; obtain rfl := Option.some.inj H
  go_enter Try.func143, Try.ntmps143
  go_wp2
  go_ret
  exact ⟨eQ, dQ⟩

def spec_wiRange.l0 : Nat → Int → Int → Int → Int → List (S_impl_Peg) → Int → Int → Option (Int × Int)
 | 0, _, _, _, _, _, _, _ => none
 | k + 1, x1, x2, x8, x9, x27, x28, x29 => if x29 < x28 then (if 0 ≤ x29 then (if x29 < (x27.length : Int) then ((spec_l1Least.f x8 (wrap64 ((wrap64 (x1 * ((rd_impl_Peg x27 x29).f0))) + (wrap64 (x2 * ((rd_impl_Peg x27 x29).f1)))))).bind fun t566 => ((spec_l1Most.f x9 (wrap64 ((wrap64 (x1 * ((rd_impl_Peg x27 x29).f0))) + (wrap64 (x2 * ((rd_impl_Peg x27 x29).f1)))))).bind fun t567 => (spec_wiRange.l0 k x1 x2 t566 t567 x27 x28 (wrap64 (x29 + 1))))) else (none)) else (none)) else (some (x8, x9))
def spec_wiRange.f (k : Nat) (l0 : List (S_impl_Peg)) (a1 : Int) (a2 : Int) : Option (Int × Int) := if 0 < (l0.length : Int) then (spec_wiRange.l0 k a1 a2 (wrap64 ((wrap64 (a1 * ((rd_impl_Peg l0 0).f0))) + (wrap64 (a2 * ((rd_impl_Peg l0 0).f1))))) (wrap64 ((wrap64 (a1 * ((rd_impl_Peg l0 0).f0))) + (wrap64 (a2 * ((rd_impl_Peg l0 0).f1))))) l0 (l0.length : Int) 0) else (none)
theorem spec_wiRange.mono_l : ∀ k, (∀ y0 y1 y2 y3 y4 y5 y6, LeO (spec_wiRange.l0 k y0 y1 y2 y3 y4 y5 y6) (spec_wiRange.l0 (k + 1) y0 y1 y2 y3 y4 y5 y6))
 | 0 => fun _ _ _ _ _ _ _ r h => by simp [spec_wiRange.l0] at h
 | k + 1 => by
  have ih0 := spec_wiRange.mono_l k
  ·intro y0 y1 y2 y3 y4 y5 y6
   unfold spec_wiRange.l0
   repeat' first
   | (with_reducible exact ih0 _ _ _ _ _ _ _)
   | (with_reducible exact LeO.refl _)
   | (with_reducible exact LeO.none _)
   | (with_reducible refine LeO.ite ?_ ?_)
   | (with_reducible refine LeO.bind ?_ (fun _ => ?_))
   | exact ih0 _ _ _ _ _ _ _
   | exact LeO.none _
   | refine LeO.ite ?_ ?_
   | refine LeO.bind ?_ (fun _ => ?_)
theorem spec_wiRange.mono : ∀ a0 a1 a2 k, LeO (spec_wiRange.f k a0 a1 a2) (spec_wiRange.f (k + 1) a0 a1 a2) := by
 intro a0 a1 a2 k
 have ih0 := spec_wiRange.mono_l k
 unfold spec_wiRange.f
 repeat' first | (with_reducible exact ih0 _ _ _ _ _ _ _) | (with_reducible exact LeO.refl _) | (with_reducible exact LeO.none _) | (with_reducible refine LeO.ite ?_ ?_) | (with_reducible refine LeO.bind ?_ (fun _ => ?_)) | exact ih0 _ _ _ _ _ _ _ | exact LeO.none _ | refine LeO.ite ?_ ?_ | refine LeO.bind ?_ (fun _ => ?_)
set_option maxHeartbeats 8000000 in
set_option maxRecDepth 100000 in
theorem spec_wiRange.calls (k : Nat) (A0 : Option Addr) (c0 : Nat) (l0 : List (S_impl_Peg)) (a1 : Int) (a2 : Int) (r1 : Int) (r2 : Int) (w : World) (hr0 : Kd.C kd_impl_Peg w A0 l0.length l0) (hc0 : l0.length ≤ c0) (h : spec_wiRange.f k l0 a1 a2 = some (r1, r2)) :
  Calls Try.prog 130 #[.slice A0 l0.length c0, .int .i64 a1, .int .i64 a2] w fun e w' => e = .returned (.tuple #[.int .i64 r1, .int .i64 r2]) ∧ Below w.heap.size w w' := by
 have hu26 := Try.underlying26; have HR0 := aM hr0; have HC0 := aM hc0; clear hr0 hc0; have HB := aM (Below.refl w.heap.size w)
 unfold spec_wiRange.f at h; have H := h; clear h
 replace H := iN H; obtain ⟨c4, H⟩ := H; have c4b0 := dE c4; have c4b1 : decide (0 < l0.length) = true := dE (by omega)
 clear c4; have H' := aM H; clear H; have p562 : 0 ≤ (0 : Int) := (by omega)
 have q562 : 0 < (l0.length : Int) := dT aQ; obtain ⟨ad562, e562, hx562_0, hx562_1⟩ := at_impl_Peg HR0.out 0 p562 q562
 cases e562
 have qi562 : (0 < l0.length) = True := eq_true (by omega)
 (try rw [show ((0 : Int)).toNat = 0 from rfl] at hx562_0)
 (try rw [show 0 * 2 = 0 from rfl] at hx562_0)
 (try rw [Addr.add_zero'] at hx562_0)
 (try rw [show ((0 : Int)).toNat = 0 from rfl] at hx562_1)
 (try rw [show 0 * 2 = 0 from rfl] at hx562_1)
 (try rw [Addr.add_zero'] at hx562_1)
 replace p562 := eq_true p562; replace q562 := eq_true q562; have p563 : 0 ≤ (0 : Int) := (by omega)
 have q563 : 0 < (l0.length : Int) := dT aQ; obtain ⟨ad563, e563, hx563_0, hx563_1⟩ := at_impl_Peg HR0.out 0 p563 q563; obtain rfl : ad562 = ad563 := (by injection e563)
 have qi563 : (0 < l0.length) = True := eq_true (by omega)
 (try rw [show ((0 : Int)).toNat = 0 from rfl] at hx563_0)
 (try rw [show 0 * 2 = 0 from rfl] at hx563_0)
 (try rw [Addr.add_zero'] at hx563_0)
 (try rw [show ((0 : Int)).toNat = 0 from rfl] at hx563_1)
 (try rw [show 0 * 2 = 0 from rfl] at hx563_1)
 (try rw [Addr.add_zero'] at hx563_1)
 replace p563 := eq_true p563; replace q563 := eq_true q563
 go_enter Try.func130, Try.ntmps130
 go_wp2
 repeat (go_quiet (fail); try go_wp2)
 go_loopg [8, 9, 29] k (fun kq v8 v9 v29 w' => ∃ (x8_1 : Int) (x9_1 : Int) (x29_1 : Int), v8 = .int .i64 x8_1 ∧ v9 = .int .i64 x9_1 ∧ v29 = .int .i64 x29_1 ∧ Aside0 (spec_wiRange.l0 kq a1 a2 x8_1 x9_1 l0 (l0.length : Int) x29_1 = some (r1, r2)) ∧ Aside0 (kq ≤ k) ∧ Aside0 (Below w.heap.size w w'))
 case atStart => exact ⟨(wrap64 ((wrap64 (a1 * ((rd_impl_Peg l0 0).f0))) + (wrap64 (a2 * ((rd_impl_Peg l0 0).f1))))), (wrap64 ((wrap64 (a1 * ((rd_impl_Peg l0 0).f0))) + (wrap64 (a2 * ((rd_impl_Peg l0 0).f1))))), (0), eQ, eQ, eQ, H', ⟨Nat.le_refl _⟩, ⟨bQ⟩⟩
 case round =>
  clear H'; (try clear c4); (try clear c4b0); (try clear c4b1); (try clear hx562_0); (try clear hx562_1); (try clear hx563_0); (try clear hx563_1); (try clear p562); (try clear p563); (try clear q562); (try clear q563); obtain ⟨x8_1, x9_1, x29_1, rfl, rfl, rfl, HA, HK1, HB⟩ := hrel
  cases gk with
  | zero => exact absurd HA.out (by simp [spec_wiRange.l0])
  | succ k1 =>
   have H := HA.out; clear HA
   simp only [spec_wiRange.l0] at H
   by_cases c5 : x29_1 < (l0.length : Int)
   ·rw [if_pos c5] at H; have c5b0 := dE c5; clear c5; replace H := iD H; obtain ⟨c6b0, H⟩ := H; replace H := iD H; obtain ⟨c7b0, H⟩ := H; replace H := bS H; obtain ⟨t566, A8, H⟩ := H; replace H := bS H; obtain ⟨t567, A9, H⟩ := H; have H' := aM H; clear H; have p564 : 0 ≤ (x29_1 : Int) := dT aQ; have q564 : x29_1 < (l0.length : Int) := dT aQ; obtain ⟨ad564, e564, hx564_0, hx564_1⟩ := at_impl_Peg HR0.out x29_1 p564 q564; obtain rfl : ad562 = ad564 := (by injection e564)
    replace hx564_0 := hC HB hx564_0; replace hx564_1 := hC HB hx564_1; replace p564 := eq_true p564; replace q564 := eq_true q564
    go_wp2_with (first | ((with_reducible refine gate_dst (N := 11) rfl ?_); refine bV 11 (cs := #[.int .i64 0, .int .i64 0]) (t := 26) rfl rfl (by first | (go_simp; done) | (go_simp; rfl)) ?_; intro gb565 hg w10 hbox hb; have BK565 := hbox; have GW565 := gZ HB hg; have GE565 := gZ HB hg; replace HB := tB HB hb; clear hb hbox hg; have hcz11_0 := vZ0 BK565; have hcz11_1 := vZ1 BK565; have hfz11_0 := kF BK565.out 0; have hfz11_1 := kF BK565.out 1) | (go_at_call 143; (with_reducible refine (spec_l1Least.calls x8_1 (wrap64 ((wrap64 (a1 * ((rd_impl_Peg l0 x29_1).f0))) + (wrap64 (a2 * ((rd_impl_Peg l0 x29_1).f1))))) t566 _ A8.out).mono ?_); rintro e w' ⟨rfl, ⟨nd, rfl⟩⟩; (try first | exact ⟨rfl, _, World.drewN_drewN _ _ _⟩ | exact ⟨rfl, _, Eq.trans (World.drewN_drewN _ _ _) (congrArg (World.drewN _) (Nat.add_assoc _ _ _))⟩)) | (go_at_call 141; (with_reducible refine (spec_l1Most.calls x9_1 (wrap64 ((wrap64 (a1 * ((rd_impl_Peg l0 x29_1).f0))) + (wrap64 (a2 * ((rd_impl_Peg l0 x29_1).f1))))) t567 _ A9.out).mono ?_); rintro e w' ⟨rfl, ⟨nd, rfl⟩⟩; (try first | exact ⟨rfl, _, World.drewN_drewN _ _ _⟩ | exact ⟨rfl, _, Eq.trans (World.drewN_drewN _ _ _) (congrArg (World.drewN _) (Nat.add_assoc _ _ _))⟩)))
    repeat (go_quiet (first | ((with_reducible refine gate_dst (N := 11) rfl ?_); refine bV 11 (cs := #[.int .i64 0, .int .i64 0]) (t := 26) rfl rfl (by first | (go_simp; done) | (go_simp; rfl)) ?_; intro gb565 hg w10 hbox hb; have n0_ := tB HB hb; have n1_ := hbox; have n2_ := gZ HB hg; have n3_ := gZ HB hg; clear HB; have HB := n0_; have BK565 := n1_; have GW565 := n2_; have GE565 := n3_; clear n0_ n1_ n2_ n3_; clear hb hbox hg; have hcz11_0 := vZ0 BK565; have hcz11_1 := vZ1 BK565; have hfz11_0 := kF BK565.out 0; have hfz11_1 := kF BK565.out 1) | (go_at_call 143; (with_reducible refine (spec_l1Least.calls x8_1 (wrap64 ((wrap64 (a1 * ((rd_impl_Peg l0 x29_1).f0))) + (wrap64 (a2 * ((rd_impl_Peg l0 x29_1).f1))))) t566 _ A8.out).mono ?_); rintro e w' ⟨rfl, ⟨nd, rfl⟩⟩; (try first | exact ⟨rfl, _, World.drewN_drewN _ _ _⟩ | exact ⟨rfl, _, Eq.trans (World.drewN_drewN _ _ _) (congrArg (World.drewN _) (Nat.add_assoc _ _ _))⟩)) | (go_at_call 141; (with_reducible refine (spec_l1Most.calls x9_1 (wrap64 ((wrap64 (a1 * ((rd_impl_Peg l0 x29_1).f0))) + (wrap64 (a2 * ((rd_impl_Peg l0 x29_1).f1))))) t567 _ A9.out).mono ?_); rintro e w' ⟨rfl, ⟨nd, rfl⟩⟩; (try first | exact ⟨rfl, _, World.drewN_drewN _ _ _⟩ | exact ⟨rfl, _, Eq.trans (World.drewN_drewN _ _ _) (congrArg (World.drewN _) (Nat.add_assoc _ _ _))⟩))); try go_wp2_with (first | ((with_reducible refine gate_dst (N := 11) rfl ?_); refine bV 11 (cs := #[.int .i64 0, .int .i64 0]) (t := 26) rfl rfl (by first | (go_simp; done) | (go_simp; rfl)) ?_; intro gb565 hg w10 hbox hb; have n0_ := tB HB hb; have n1_ := hbox; have n2_ := gZ HB hg; have n3_ := gZ HB hg; clear HB; have HB := n0_; have BK565 := n1_; have GW565 := n2_; have GE565 := n3_; clear n0_ n1_ n2_ n3_; clear hb hbox hg; have hcz11_0 := vZ0 BK565; have hcz11_1 := vZ1 BK565; have hfz11_0 := kF BK565.out 0; have hfz11_1 := kF BK565.out 1) | (go_at_call 143; (with_reducible refine (spec_l1Least.calls x8_1 (wrap64 ((wrap64 (a1 * ((rd_impl_Peg l0 x29_1).f0))) + (wrap64 (a2 * ((rd_impl_Peg l0 x29_1).f1))))) t566 _ A8.out).mono ?_); rintro e w' ⟨rfl, ⟨nd, rfl⟩⟩; (try first | exact ⟨rfl, _, World.drewN_drewN _ _ _⟩ | exact ⟨rfl, _, Eq.trans (World.drewN_drewN _ _ _) (congrArg (World.drewN _) (Nat.add_assoc _ _ _))⟩)) | (go_at_call 141; (with_reducible refine (spec_l1Most.calls x9_1 (wrap64 ((wrap64 (a1 * ((rd_impl_Peg l0 x29_1).f0))) + (wrap64 (a2 * ((rd_impl_Peg l0 x29_1).f1))))) t567 _ A9.out).mono ?_); rintro e w' ⟨rfl, ⟨nd, rfl⟩⟩; (try first | exact ⟨rfl, _, World.drewN_drewN _ _ _⟩ | exact ⟨rfl, _, Eq.trans (World.drewN_drewN _ _ _) (congrArg (World.drewN _) (Nat.add_assoc _ _ _))⟩))))
    go_roundg k1
    case measure => have := HK1.out; omega
    case rel => exact ⟨(t566), (t567), (wrap64 (x29_1 + 1)), eQ, eQ, eQ, H', ⟨by have := HK1.out; omega⟩, ⟨bE⟩⟩
   ·rw [if_neg c5] at H; have c5b0 := decide_eq_false c5; clear c5
    simp only [Option.some.injEq, Prod.mk.injEq] at H
    obtain ⟨rfl, rfl⟩ := H; go_wp2
    repeat (go_quiet (fail); try go_wp2)
    go_ret2
    exact ⟨wQ, bQ⟩
mutual
def spec_wiLines.l0 : Nat → List (S_impl_Peg) → Int → Int → Int → List Int → Int → Option (List Int)
 | 0, _, _, _, _, _, _ => none
 | k + 1, x0, x1, x2, x7, x9, x10 => if x10 ≤ 40 then (spec_wiLines.l1 k x0 x1 x2 x7 x9 x10 (-40)) else (some x9)
def spec_wiLines.l1 : Nat → List (S_impl_Peg) → Int → Int → Int → List Int → Int → Int → Option (List Int)
 | 0, _, _, _, _, _, _, _ => none
 | k + 1, x0, x1, x2, x7, x9, x10, x11 => if x11 ≤ 40 then ((spec_pgWhere.f k x0 x10 x11).bind fun t574 => (if t574 ≥ 0 then (if 0 ≤ (wrap64 ((wrap64 ((wrap64 (x1 * x10)) + (wrap64 (x2 * x11)))) - x7)) then (if (wrap64 ((wrap64 ((wrap64 (x1 * x10)) + (wrap64 (x2 * x11)))) - x7)) < (x9.length : Int) then (spec_wiLines.l1 k x0 x1 x2 x7 (x9.set ((wrap64 ((wrap64 ((wrap64 (x1 * x10)) + (wrap64 (x2 * x11)))) - x7)) : Int).toNat (wrap64 ((rd x9 (wrap64 ((wrap64 ((wrap64 (x1 * x10)) + (wrap64 (x2 * x11)))) - x7))) + 1))) x10 (wrap64 (x11 + 1))) else (none)) else (none)) else (spec_wiLines.l1 k x0 x1 x2 x7 x9 x10 (wrap64 (x11 + 1))))) else (spec_wiLines.l0 k x0 x1 x2 x7 x9 (wrap64 (x10 + 1)))
end
def spec_wiLines.f (k : Nat) (l0 : List (S_impl_Peg)) (a1 : Int) (a2 : Int) : Option (List Int) := (spec_wiRange.f k l0 a1 a2).bind fun bt568 => (if 0 ≤ (wrap64 ((wrap64 (bt568.2 - bt568.1)) + 1)) then (if (wrap64 ((wrap64 (bt568.2 - bt568.1)) + 1) : Int).toNat ≤ 35184372088832 then (spec_wiLines.l0 k l0 a1 a2 bt568.1 (List.replicate (wrap64 ((wrap64 (bt568.2 - bt568.1)) + 1) : Int).toNat 0) (-40)) else (none)) else (none))
theorem spec_wiLines.mono_l : ∀ k, (∀ y0 y1 y2 y3 y4 y5, LeO (spec_wiLines.l0 k y0 y1 y2 y3 y4 y5) (spec_wiLines.l0 (k + 1) y0 y1 y2 y3 y4 y5)) ∧ (∀ y0 y1 y2 y3 y4 y5 y6, LeO (spec_wiLines.l1 k y0 y1 y2 y3 y4 y5 y6) (spec_wiLines.l1 (k + 1) y0 y1 y2 y3 y4 y5 y6))
 | 0 => ⟨fun _ _ _ _ _ _ r h => by simp [spec_wiLines.l0] at h, fun _ _ _ _ _ _ _ r h => by simp [spec_wiLines.l1] at h⟩
 | k + 1 => by
  obtain ⟨ih0, ih1⟩ := spec_wiLines.mono_l k
  refine ⟨?_, ?_⟩ <;> intros <;> (first | unfold spec_wiLines.l0 | unfold spec_wiLines.l1) <;> repeat' first | (with_reducible exact ih0 _ _ _ _ _ _) | (with_reducible exact ih1 _ _ _ _ _ _ _) | (with_reducible exact spec_pgWhere.mono _ _ _ _) | (with_reducible exact spec_wiRange.mono _ _ _ _) | (with_reducible exact LeO.refl _) | (with_reducible exact LeO.none _) | (with_reducible refine LeO.ite ?_ ?_) | (with_reducible refine LeO.bind ?_ (fun _ => ?_)) | exact ih0 _ _ _ _ _ _ | exact ih1 _ _ _ _ _ _ _ | exact spec_pgWhere.mono _ _ _ _ | exact spec_wiRange.mono _ _ _ _ | exact LeO.none _ | refine LeO.ite ?_ ?_ | refine LeO.bind ?_ (fun _ => ?_)
theorem spec_wiLines.mono : ∀ a0 a1 a2 k, LeO (spec_wiLines.f k a0 a1 a2) (spec_wiLines.f (k + 1) a0 a1 a2) := by
 intro a0 a1 a2 k
 obtain ⟨ih0, ih1⟩ := spec_wiLines.mono_l k
 unfold spec_wiLines.f
 repeat' first | (with_reducible exact ih0 _ _ _ _ _ _) | (with_reducible exact ih1 _ _ _ _ _ _ _) | (with_reducible exact spec_pgWhere.mono _ _ _ _) | (with_reducible exact spec_wiRange.mono _ _ _ _) | (with_reducible exact LeO.refl _) | (with_reducible exact LeO.none _) | (with_reducible refine LeO.ite ?_ ?_) | (with_reducible refine LeO.bind ?_ (fun _ => ?_)) | exact ih0 _ _ _ _ _ _ | exact ih1 _ _ _ _ _ _ _ | exact spec_pgWhere.mono _ _ _ _ | exact spec_wiRange.mono _ _ _ _ | exact LeO.none _ | refine LeO.ite ?_ ?_ | refine LeO.bind ?_ (fun _ => ?_)
set_option maxHeartbeats 8000000 in
set_option maxRecDepth 100000 in
theorem spec_wiLines.calls (k : Nat) (A0 : Option Addr) (c0 : Nat) (l0 : List (S_impl_Peg)) (a1 : Int) (a2 : Int) (r : List Int) (w : World) (hr0 : Kd.C kd_impl_Peg w A0 l0.length l0) (hc0 : l0.length ≤ c0) (h : spec_wiLines.f k l0 a1 a2 = some r) :
  Calls Try.prog 90 #[.slice A0 l0.length c0, .int .i64 a1, .int .i64 a2] w fun e w' => ∃ v0_ : Value, e = .returned (v0_) ∧ Kd.R (Kd.int .i64) 3 w' w.heap.size (fun _ => True) v0_ r ∧ Below w.heap.size w w' := by
 have hu26 := Try.underlying26; have HR0 := aM hr0; have HC0 := aM hc0; clear hr0 hc0; have HB := aM (Below.refl w.heap.size w)
 unfold spec_wiLines.f at h; have H := h; clear h
 replace H := bS H; obtain ⟨⟨t568, t569⟩, A4, H⟩ := H; obtain ⟨ji5, hji5⟩ : ∃ j_ : Int, (wrap64 ((wrap64 (t569 - t568)) + 1)) = j_ := ⟨_, rfl⟩
 (first | rw [hji5] at H | simp only [hji5] at H)
 (try rw [hji5] at A4)
 have hji5w : (IntKind.i64.wrap ((wrap64 (t569 - t568)) + 1)) = ji5 := (i64_w _).trans hji5; replace H := iN H; obtain ⟨c6, H⟩ := H; have c6b0 := eq_true c6; have c6b1 := dE c6; clear c6; replace H := iN H; obtain ⟨c7, H⟩ := H; have c7b0 := eq_true c7; have c7b1 := dE c7; clear c7; obtain ⟨y570, hy570⟩ : ∃ y_ : List Int, y_ = (List.replicate (ji5 : Int).toNat 0) := ⟨_, rfl⟩; rw [← hy570] at H; have Ny570 := aM hy570; clear hy570; have H' := aM H; clear H
 go_enter Try.func90, Try.ntmps90
 go_wp2_with (first | ((with_reducible refine gC (f := 130) rfl ?_); refine goesL_ (some 17) rfl rfl Try.func130 kR rfl #[.slice A0 l0.length c0, .int .i64 a1, .int .i64 a2] rfl sQ ?_; (with_reducible refine (spec_wiRange.calls k _ _ l0 a1 a2 t568 t569 _ ?side1 ?side2 A4.out).mono ?_); (case side1 => repeat (first | exact HR0.out | (with_reducible refine cA ?_ _) | (with_reducible refine cN ?_ _) | (with_reducible refine cD ?_))); (case side2 => exact HC0.out); rintro e w8 ⟨rfl, hb⟩; refine ⟨_, rfl, ?_⟩; replace HB := tB HB hb; (try clear hb); (try clear hb2); (try clear hk); (try clear hi)) | ((with_reducible refine gate_dst (N := 24) rfl ?_); refine Kd.R_make (Kd.int .i64) _ 3 rfl (N := 24) rfl 23 _ _ rfl ji5 rfl rfl Try.underlying23 (.int .i64 0) 8 info3 rfl (by decide) (by omega) 0 (ok := fun _ => True) (okp := fun _ => True) rfl (fun _ hk => hk) trivial (dT aQ) (Nat.le_trans (Nat.mul_le_mul_right _ (dT aQ : ji5.toNat ≤ 35184372088832)) (by omega)) (Below.refl _ _) (Nat.le_refl _) ?_; intro v571 w9 ho10 hb hg_ hnew_; clear hg_ hnew_; (first | rw [← Ny570.out] at ho10 | (simp only [Int.reduceToNat] at ho10; rw [← Ny570.out] at ho10)); have HO572 := aM (Kd.R_lower ho10 (pZ bQ)); replace HB := tB HB hb; clear hb ho10))
 go_loopg [10] k (fun kq v10 w' => ∃ (x9_1 : List Int) (x10_1 : Int), v10 = .int .i64 x10_1 ∧ Aside0 (spec_wiLines.l0 kq l0 a1 a2 t568 x9_1 x10_1 = some r) ∧ Aside0 (kq ≤ k) ∧ Aside0 (Kd.R (Kd.int .i64) 3 w' w.heap.size (fun _ => True) v571 x9_1) ∧ Aside0 (Below w.heap.size w w'))
 case atStart => exact ⟨(y570), ((-40)), eQ, H', ⟨Nat.le_refl _⟩, ⟨by (with_reducible repeat (first | apply rA | apply rN | apply rD)); exact HO572.out⟩, ⟨bQ⟩⟩
 case round =>
  clear H'; (try clear c6); (try clear c6b0); (try clear c6b1); (try clear c7); (try clear c7b0); (try clear c7b1); obtain ⟨x9_1, x10_1, rfl, HA, HK1, HO_9, HB⟩ := hrel
  cases gk with
  | zero => exact absurd HA.out (by simp [spec_wiLines.l0])
  | succ k1 =>
   have H := HA.out; clear HA
   simp only [spec_wiLines.l0] at H
   by_cases c11 : x10_1 ≤ 40
   ·rw [if_pos c11] at H; have c11b0 := dE c11; clear c11; have H' := aM H; clear H; go_wp2
    go_loopg [11] k1 (fun kq v11 w' => ∃ (x9_2 : List Int) (x11_2 : Int), v11 = .int .i64 x11_2 ∧ Aside0 (spec_wiLines.l1 kq l0 a1 a2 t568 x9_2 x10_1 x11_2 = some r) ∧ Aside0 (kq ≤ k1) ∧ Aside0 (Kd.R (Kd.int .i64) 3 w' w.heap.size (fun _ => True) v571 x9_2) ∧ Aside0 (Below w.heap.size w w'))
    case atStart => exact ⟨(x9_1), ((-40)), eQ, H', ⟨Nat.le_refl _⟩, ⟨by (with_reducible repeat (first | apply rA | apply rN | apply rD)); exact HO_9.out⟩, ⟨bQ⟩⟩
    case round =>
     clear H'; (try clear c6); (try clear c6b0); (try clear c6b1); (try clear c7); (try clear c7b0); (try clear c7b1); (try clear c11); (try clear c11b0); obtain ⟨x9_2, x11_2, rfl, HA, HK2, HO_9, HB⟩ := hrel
     cases gk with
     | zero => exact absurd HA.out (by simp [spec_wiLines.l1])
     | succ k2 =>
      have H := HA.out; clear HA
      simp only [spec_wiLines.l1] at H
      by_cases c12 : x11_2 ≤ 40
      ·rw [if_pos c12] at H; have c12b0 := dE c12; clear c12; replace H := bS H; obtain ⟨t574, A13, H⟩ := H
       by_cases c14 : t574 ≥ 0
       ·rw [if_pos c14] at H; have c14b0 := dE c14; clear c14; obtain ⟨ji15, hji15⟩ : ∃ j_ : Int, (wrap64 ((wrap64 ((wrap64 (a1 * x10_1)) + (wrap64 (a2 * x11_2)))) - t568)) = j_ := ⟨_, rfl⟩
        (first | rw [hji15] at H | simp only [hji15] at H)
        (try rw [hji15] at A13)
        have hji15w : (IntKind.i64.wrap ((wrap64 ((wrap64 (a1 * x10_1)) + (wrap64 (a2 * x11_2)))) - t568)) = ji15 := (i64_w _).trans hji15; replace H := iD H; obtain ⟨c16b0, H⟩ := H; replace H := iD H; obtain ⟨c17b0, H⟩ := H; obtain ⟨y576, hy576⟩ : ∃ y_ : List Int, y_ = (x9_2.set ((ji15) : Int).toNat (wrap64 ((rd x9_2 (ji15)) + 1))) := ⟨_, rfl⟩; rw [← hy576] at H; have Ny576 := aM hy576; clear hy576; have H' := aM H; clear H
        go_wp2_with (first | ((with_reducible refine gate_dst (N := 12) rfl ?_); refine bV 12 (cs := #[.int .i64 0, .int .i64 0]) (t := 26) rfl rfl (by first | (go_simp; done) | (go_simp; rfl)) ?_; intro gb573 hg w19 hbox hb; have BK573 := hbox; have GW573 := gZ HB hg; have GE573 := gZ HB hg; replace HO_9 := aM (Kd.R_below (by (with_reducible repeat (first | apply rA | apply rN | apply rD)); exact HO_9.out) hb); replace HB := tB HB hb; clear hb hbox hg; have hcz20_0 := vZ0 BK573; have hcz20_1 := vZ1 BK573; have hfz20_0 := kF BK573.out 0; have hfz20_1 := kF BK573.out 1) | ((with_reducible refine gC (f := 96) rfl ?_); refine goesL_ (some 38) rfl rfl Try.func96 kR rfl #[.slice A0 l0.length c0, .agg #[.int .i64 x10_1, .int .i64 x11_2]] rfl sQ ?_; (with_reducible refine (spec_pgWhere.calls k2 _ _ l0 x10_1 x11_2 t574 _ ?side1 ?side2 A13.out).mono ?_); (case side1 => exact Kd.C_below HR0.out bE); (case side2 => exact HC0.out); rintro e w21 ⟨rfl, hb⟩; refine ⟨_, rfl, ?_⟩; replace HO_9 := aM (Kd.R_below (by (with_reducible repeat (first | apply rA | apply rN | apply rD)); exact (Kd.R_mono (Kd.R_far (p := ⟨gb573, 1, none⟩) (Kd.R_far (p := ⟨gb573, 0, none⟩) (Kd.R_types HO_9.out BK573.out (by decide)) (fun _ hk => hk.2) (.int .i64 x10_1)) (fun _ hk => hk.2) (.int .i64 x11_2)) (fun _ h_ => h_.1))) hb); replace BK573 := aM (blk_below (g := gb573) (o := .cells #[.int .i64 x10_1, .int .i64 x11_2] 26 (0, 0)) (fQ BK573) hb); replace HB := tB HB hb; (try clear hb); (try clear hb2); (try clear hk); (try clear hi); obtain ⟨Ao22, co22, eo22⟩ := Kd.R_slice HO_9.out; subst eo22; have p575 : 0 ≤ ((ji15) : Int) := dT aQ; have q575 : (ji15) < (x9_2.length : Int) := dT aQ; obtain ⟨ad575, e575, hx575_0⟩ := Kd.at_int (rR HO_9.out).2.2 (ji15) p575 q575; cases e575; replace p575 := eq_true p575; replace q575 := eq_true q575; have p18 : 0 ≤ ((ji15) : Int) := dT aQ; have q18 : ((ji15) : Int) < ((x9_2.length : Int) : Int) := dT aQ; obtain ⟨go18, co18, eo18, gb18, gl18, cl18, HG18⟩ := Kd.R_form HO_9.out (by omega); (first | cases eo18 | (injection eo18 with ea_ en_ ec_; (first | subst ea_ | (injection ea_ with ea_; subst ea_)); subst ec_; clear en_)); have GB18 := aM gb18; have GG18 := aM HG18; clear gb18 gl18 HG18; (first | simp only [add_plain] at hx575_0 | skip); obtain ⟨hx18_0, hf18_0⟩ := Kd.R_celln 0 HO_9.out ((ji15) : Int) p18 q18; replace p18 := eq_true p18; replace q18 := eq_true q18; obtain ⟨hy23_, hz23_⟩ := Kd.R_celln 0 HO_9.out ((ji15) : Int) (dT aQ) (dT aQ); have HP23 := Kd.R_putg HO_9.out ((ji15) : Int) (wrap64 ((rd x9_2 (ji15)) + 1))) | ((with_reducible refine gate_store (t := 3) (p := 53) rfl ?_); refine store_event (t := 3) (p := 53) (v := ?vo_w24) (w1 := (w21.setCell ⟨go18, ((ji15) : Int).toNat, none⟩ (.int .i64 (wrap64 ((rd x9_2 (ji15)) + 1))))) ?hg ?ho ?hn ?hr ?_; (case ho => rfl); (case hg => rfl); (case hn => rfl); (case hr => first | (go_simp; done) | (go_simp; rfl)); intro w24 hw; have hg : w21.grownBy w24 (some go18) := (by rw [hw]; exact HP23.2); have hp_ : Kd.R (Kd.int .i64) 3 w24 w.heap.size (fun _ => True) (.slice (some ⟨go18, 0, none⟩) x9_2.length co22) y576 := (by rw [hw, Ny576.out]; exact HP23.1); clear HP23; replace BK573 := aM (blk_grown (g := gb573) (o := .cells #[.int .i64 x10_1, .int .i64 x11_2] 26 (0, 0)) (gQ BK573) hg (Kd.R_ne HO_9.out BK573.out (by decide))); replace HO_9 := aM (hp_); replace HB := aM ((by rw [hw]; exact pS (HB.out) GB18.out : Below w.heap.size w w24)); clear hg hw hp_))
        go_roundg k2
        case measure => have := HK1.out; have := HK2.out; omega
        case rel => exact ⟨(y576), (wrap64 (x11_2 + 1)), eQ, H', ⟨by have := HK1.out; have := HK2.out; omega⟩, ⟨by (with_reducible repeat (first | apply rA | apply rN | apply rD)); exact HO_9.out⟩, ⟨bE⟩⟩
       ·rw [if_neg c14] at H; have c14b0 := decide_eq_false c14; clear c14; have H' := aM H; clear H
        go_wp2_with (first | ((with_reducible refine gate_dst (N := 12) rfl ?_); refine bV 12 (cs := #[.int .i64 0, .int .i64 0]) (t := 26) rfl rfl (by first | (go_simp; done) | (go_simp; rfl)) ?_; intro gb573 hg w25 hbox hb; have BK573 := hbox; have GW573 := gZ HB hg; have GE573 := gZ HB hg; replace HO_9 := aM (Kd.R_below (by (with_reducible repeat (first | apply rA | apply rN | apply rD)); exact HO_9.out) hb); replace HB := tB HB hb; clear hb hbox hg; have hcz26_0 := vZ0 BK573; have hcz26_1 := vZ1 BK573; have hfz26_0 := kF BK573.out 0; have hfz26_1 := kF BK573.out 1) | ((with_reducible refine gC (f := 96) rfl ?_); refine goesL_ (some 38) rfl rfl Try.func96 kR rfl #[.slice A0 l0.length c0, .agg #[.int .i64 x10_1, .int .i64 x11_2]] rfl sQ ?_; (with_reducible refine (spec_pgWhere.calls k2 _ _ l0 x10_1 x11_2 t574 _ ?side1 ?side2 A13.out).mono ?_); (case side1 => exact Kd.C_below HR0.out bE); (case side2 => exact HC0.out); rintro e w27 ⟨rfl, hb⟩; refine ⟨_, rfl, ?_⟩; replace HO_9 := aM (Kd.R_below (by (with_reducible repeat (first | apply rA | apply rN | apply rD)); exact (Kd.R_mono (Kd.R_far (p := ⟨gb573, 1, none⟩) (Kd.R_far (p := ⟨gb573, 0, none⟩) (Kd.R_types HO_9.out BK573.out (by decide)) (fun _ hk => hk.2) (.int .i64 x10_1)) (fun _ hk => hk.2) (.int .i64 x11_2)) (fun _ h_ => h_.1))) hb); replace BK573 := aM (blk_below (g := gb573) (o := .cells #[.int .i64 x10_1, .int .i64 x11_2] 26 (0, 0)) (fQ BK573) hb); replace HB := tB HB hb; (try clear hb); (try clear hb2); (try clear hk); (try clear hi)))
        go_roundg k2
        case measure => have := HK1.out; have := HK2.out; omega
        case rel => exact ⟨(x9_2), (wrap64 (x11_2 + 1)), eQ, H', ⟨by have := HK1.out; have := HK2.out; omega⟩, ⟨by (with_reducible repeat (first | apply rA | apply rN | apply rD)); exact HO_9.out⟩, ⟨bE⟩⟩
      ·rw [if_neg c12] at H; have c12b0 := decide_eq_false c12; clear c12; have H' := aM H; clear H; go_wp2
       go_roundg k2
       case measure => have := HK1.out; have := HK2.out; omega
       case rel => exact ⟨(x9_2), (wrap64 (x10_1 + 1)), eQ, H', ⟨by have := HK1.out; have := HK2.out; omega⟩, ⟨by (with_reducible repeat (first | apply rA | apply rN | apply rD)); exact HO_9.out⟩, ⟨bQ⟩⟩
   ·rw [if_neg c11] at H; have c11b0 := decide_eq_false c11; clear c11; obtain rfl := Option.some.inj H; go_wp2
    go_ret
    exact ⟨_, by first | rfl | (simp [errW_none, errW_some] <;> rfl) | (simp only [← hji5]; first | rfl | (simp [errW_none, errW_some] <;> rfl)) | (simp [*, errW_none, errW_some] <;> rfl), by (with_reducible repeat (first | apply rA | apply rN | apply rD)); exact HO_9.out, bQ⟩
end Go.Proofs.Ytklhakfmegbobaa.X
