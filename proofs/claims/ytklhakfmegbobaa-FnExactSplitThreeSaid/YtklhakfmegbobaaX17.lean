-- thin
-- short
-- compact
import Derived.Test.YtklhakfmegbobaaXA
import Derived.Test.YtklhakfmegbobaaX0
import Derived.Test.YtklhakfmegbobaaX16
namespace Go.Proofs.Ytklhakfmegbobaa.X
open Go.RowKit Go.Proofs.Ytklhakfmegbobaa.XW Go.Proofs.YtklhakfmegbobaaW.PrintWords Go.Proofs.YtklhakfmegbobaaW.PrintLast Go.Proofs.YtklhakfmegbobaaW.PrintMore
attribute [local go_sem] max2_int min2_int max_two min_two max_three min_three max_four min_four   -- for this text's walks alone
set_option linter.unusedVariables false
set_option linter.unusedSimpArgs false

def laws_heldPegSS.l0 : Nat → List (List (S_impl_Peg)) → Int → Int → Option (Int)
 | 0, _, _, _ => none
 | k + 1, x0, x1, x5 => if x5 < (x0.length : Int) then (if 0 ≤ x5 then ((laws_heldPegS.f k (rd_L3 x0 x5) x1).bind fun t301 => (if t301 < 0 then (some (-1)) else (laws_heldPegSS.l0 k x0 t301 (wrap64 (x5 + 1))))) else (none)) else (some x1)
def laws_heldPegSS.f (k : Nat) (l0 : List (List (S_impl_Peg))) (a1 : Int) : Option (Int) := laws_heldPegSS.l0 k l0 a1 0
theorem laws_heldPegSS.mono_l : ∀ k, (∀ y0 y1 y2, LeO (laws_heldPegSS.l0 k y0 y1 y2) (laws_heldPegSS.l0 (k + 1) y0 y1 y2))
 | 0 => fun _ _ _ r h => by simp [laws_heldPegSS.l0] at h
 | k + 1 => by
  have ih0 := laws_heldPegSS.mono_l k
  ·intro y0 y1 y2
   unfold laws_heldPegSS.l0
   repeat' first
   | (with_reducible exact ih0 _ _ _)
   | (with_reducible exact laws_heldPegS.mono _ _ _)
   | (with_reducible exact LeO.refl _)
   | (with_reducible exact LeO.none _)
   | (with_reducible refine LeO.ite ?_ ?_)
   | (with_reducible refine LeO.bind ?_ (fun _ => ?_))
   | exact ih0 _ _ _
   | exact laws_heldPegS.mono _ _ _
   | exact LeO.none _
   | refine LeO.ite ?_ ?_
   | refine LeO.bind ?_ (fun _ => ?_)
theorem laws_heldPegSS.mono : ∀ a0 a1 k, LeO (laws_heldPegSS.f k a0 a1) (laws_heldPegSS.f (k + 1) a0 a1) := by
 intro a0 a1 k
 have ih0 := laws_heldPegSS.mono_l k
 unfold laws_heldPegSS.f
 repeat' first | (with_reducible exact ih0 _ _ _) | (with_reducible exact laws_heldPegS.mono _ _ _) | (with_reducible exact LeO.refl _) | (with_reducible exact LeO.none _) | (with_reducible refine LeO.ite ?_ ?_) | (with_reducible refine LeO.bind ?_ (fun _ => ?_)) | exact ih0 _ _ _ | exact laws_heldPegS.mono _ _ _ | exact LeO.none _ | refine LeO.ite ?_ ?_ | refine LeO.bind ?_ (fun _ => ?_)
set_option maxHeartbeats 8000000 in
set_option maxRecDepth 100000 in
theorem laws_heldPegSS.calls (k : Nat) (A0 : Option Addr) (c0 : Nat) (l0 : List (List (S_impl_Peg))) (a1 : Int) (r : Int) (w : World) (hr0 : Kd.C (Kd.slice 26 kd_impl_Peg) w A0 l0.length l0) (hc0 : l0.length ≤ c0) (h : laws_heldPegSS.f k l0 a1 = some r) :
  Calls Try.prog 49 #[.slice A0 l0.length c0, .int .i64 a1] w fun e w' => e = .returned (.int .i64 r) ∧ Drawn0 w w' := by
 have HR0 := aM hr0; have HC0 := aM hc0; clear hr0 hc0
 unfold laws_heldPegSS.f at h; have H := h; clear h
 have H' := aM H; clear H
 go_enter Try.func49, Try.ntmps49
 go_wp2
 go_loopg [1, 5] k (fun kq v1 v5 w' => ∃ (x1_1 : Int) (x5_1 : Int), v1 = .int .i64 x1_1 ∧ v5 = .int .i64 x5_1 ∧ Aside0 (laws_heldPegSS.l0 kq l0 x1_1 x5_1 = some r) ∧ Aside0 (kq ≤ k) ∧ Drawn0 w w')
 case atStart => exact ⟨(a1), (0), eQ, eQ, H', ⟨Nat.le_refl _⟩, dQ⟩
 case round =>
  clear H'; obtain ⟨x1_1, x5_1, rfl, rfl, HA, HK1, ⟨m1, rfl⟩⟩ := hrel
  cases gk with
  | zero => exact absurd HA.out (by simp [laws_heldPegSS.l0])
  | succ k1 =>
   have H := HA.out; clear HA
   simp only [laws_heldPegSS.l0] at H
   by_cases c3 : x5_1 < (l0.length : Int)
   ·rw [if_pos c3] at H; have c3b0 := dE c3; clear c3; replace H := iD H; obtain ⟨c4b0, H⟩ := H; replace H := bS H; obtain ⟨t301, A5, H⟩ := H
    by_cases c6 : t301 < 0
    ·rw [if_pos c6] at H; have c6b0 := dE c6; clear c6; obtain rfl := Option.some.inj H; have p300 : 0 ≤ (x5_1 : Int) := dT aQ; have q300 : x5_1 < (l0.length : Int) := dT aQ; obtain ⟨ad300, A300_0, c300_0, e300, hx300_0, hl300_0, hi300_0⟩ := at_L3 HR0.out x5_1 p300 q300
     cases e300
     have HR300_0 := aM hi300_0; have HC300_0 := aM hl300_0; clear hi300_0 hl300_0; replace p300 := eq_true p300; replace q300 := eq_true q300
     go_wp2_with (first | ((with_reducible refine gC (f := 26) rfl ?_); refine goesL_ (some 17) rfl rfl Try.func26 kR rfl #[.slice A300_0 (rd_L3 l0 x5_1).length c300_0, .int .i64 x1_1] rfl sQ ?_; (with_reducible refine (laws_heldPegS.calls k1 _ _ (rd_L3 l0 x5_1) x1_1 t301 _ ?side1 ?side2 A5.out).mono ?_); (case side1 => repeat (first | exact HR300_0.out | (with_reducible refine cA ?_ _) | (with_reducible refine cN ?_ _) | (with_reducible refine cD ?_))); (case side2 => exact HC300_0.out); rintro e w' ⟨rfl, ⟨nd, rfl⟩⟩; refine ⟨_, rfl, ?_⟩))
     go_ret
     exact ⟨eQ, dQ⟩
    ·rw [if_neg c6] at H; have c6b0 := decide_eq_false c6; clear c6; have H' := aM H; clear H; have p300 : 0 ≤ (x5_1 : Int) := dT aQ; have q300 : x5_1 < (l0.length : Int) := dT aQ; obtain ⟨ad300, A300_0, c300_0, e300, hx300_0, hl300_0, hi300_0⟩ := at_L3 HR0.out x5_1 p300 q300
     cases e300
     have HR300_0 := aM hi300_0; have HC300_0 := aM hl300_0; clear hi300_0 hl300_0; replace p300 := eq_true p300; replace q300 := eq_true q300
     go_wp2_with (first | ((with_reducible refine gC (f := 26) rfl ?_); refine goesL_ (some 17) rfl rfl Try.func26 kR rfl #[.slice A300_0 (rd_L3 l0 x5_1).length c300_0, .int .i64 x1_1] rfl sQ ?_; (with_reducible refine (laws_heldPegS.calls k1 _ _ (rd_L3 l0 x5_1) x1_1 t301 _ ?side1 ?side2 A5.out).mono ?_); (case side1 => repeat (first | exact HR300_0.out | (with_reducible refine cA ?_ _) | (with_reducible refine cN ?_ _) | (with_reducible refine cD ?_))); (case side2 => exact HC300_0.out); rintro e w' ⟨rfl, ⟨nd, rfl⟩⟩; refine ⟨_, rfl, ?_⟩))
     go_roundg k1
     case measure => have := HK1.out; omega
     case rel => exact ⟨(t301), (wrap64 (x5_1 + 1)), eQ, eQ, H', ⟨by have := HK1.out; omega⟩, dQ⟩
   ·rw [if_neg c3] at H; have c3b0 := decide_eq_false c3; clear c3; obtain rfl := Option.some.inj H; go_wp2
    go_ret
    exact ⟨eQ, dQ⟩

end Go.Proofs.Ytklhakfmegbobaa.X
