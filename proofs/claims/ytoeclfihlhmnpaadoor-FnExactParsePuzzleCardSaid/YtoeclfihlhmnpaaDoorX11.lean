-- thin
-- short
-- compact
import Derived.Test.YtoeclfihlhmnpaaDoorXA
import Derived.Test.YtoeclfihlhmnpaaDoorX0
namespace Go.Proofs.YtoeclfihlhmnpaaDoor.X
open Go.RowKit Go.Proofs.YtoeclfihlhmnpaaDoor.XW Go.Proofs.YtoeclfihlhmnpaaDoorW.PrintWords Go.Proofs.YtoeclfihlhmnpaaDoorW.PrintLast Go.Proofs.YtoeclfihlhmnpaaDoorW.PrintMore
attribute [local go_sem] max2_int min2_int max_two min_two max_three min_three max_four min_four   -- for this text's walks alone
set_option linter.unusedVariables false
set_option linter.unusedSimpArgs false

def laws_heldClueS.l0 : Nat → List (S_impl_Clue) → Int → Int → Option (Int)
 | 0, _, _, _ => none
 | k + 1, x0, x1, x5 => if x5 < (x0.length : Int) then (if 0 ≤ x5 then (if ((rd_impl_Clue x0 x5).f0) = x1 then (if ((rd_impl_Clue x0 x5).f1) = (wrap64 (x1 + 1)) then (if ((rd_impl_Clue x0 x5).f2) = (wrap64 ((wrap64 (x1 + 1)) + 1)) then (if ((rd_impl_Clue x0 x5).f3) = (wrap64 ((wrap64 ((wrap64 (x1 + 1)) + 1)) + 1)) then (laws_heldClueS.l0 k x0 (wrap64 ((wrap64 ((wrap64 ((wrap64 (x1 + 1)) + 1)) + 1)) + 1)) (wrap64 (x5 + 1))) else (some (-1))) else (some (-1))) else (some (-1))) else (some (-1))) else (none)) else (some x1)
def laws_heldClueS.f (k : Nat) (l0 : List (S_impl_Clue)) (a1 : Int) : Option (Int) := laws_heldClueS.l0 k l0 a1 0
theorem laws_heldClueS.mono_l : ∀ k, (∀ y0 y1 y2, LeO (laws_heldClueS.l0 k y0 y1 y2) (laws_heldClueS.l0 (k + 1) y0 y1 y2))
 | 0 => fun _ _ _ r h => by simp [laws_heldClueS.l0] at h
 | k + 1 => by
  have ih0 := laws_heldClueS.mono_l k
  ·intro y0 y1 y2
   unfold laws_heldClueS.l0
   repeat' first
   | (with_reducible exact ih0 _ _ _)
   | (with_reducible exact LeO.refl _)
   | (with_reducible exact LeO.none _)
   | (with_reducible refine LeO.ite ?_ ?_)
   | (with_reducible refine LeO.bind ?_ (fun _ => ?_))
   | exact ih0 _ _ _
   | exact LeO.none _
   | refine LeO.ite ?_ ?_
   | refine LeO.bind ?_ (fun _ => ?_)
theorem laws_heldClueS.mono : ∀ a0 a1 k, LeO (laws_heldClueS.f k a0 a1) (laws_heldClueS.f (k + 1) a0 a1) := by
 intro a0 a1 k
 have ih0 := laws_heldClueS.mono_l k
 unfold laws_heldClueS.f
 repeat' first | (with_reducible exact ih0 _ _ _) | (with_reducible exact LeO.refl _) | (with_reducible exact LeO.none _) | (with_reducible refine LeO.ite ?_ ?_) | (with_reducible refine LeO.bind ?_ (fun _ => ?_)) | exact ih0 _ _ _ | exact LeO.none _ | refine LeO.ite ?_ ?_ | refine LeO.bind ?_ (fun _ => ?_)
set_option maxHeartbeats 8000000 in
set_option maxRecDepth 100000 in
theorem laws_heldClueS.calls (k : Nat) (A0 : Option Addr) (c0 : Nat) (l0 : List (S_impl_Clue)) (a1 : Int) (r : Int) (w : World) (hr0 : Kd.C kd_impl_Clue w A0 l0.length l0) (hc0 : l0.length ≤ c0) (h : laws_heldClueS.f k l0 a1 = some r) :
  Calls Tryd.prog 22 #[.slice A0 l0.length c0, .int .i64 a1] w fun e w' => e = .returned (.int .i64 r) ∧ Drawn0 w w' := by
 have HR0 := aM hr0; have HC0 := aM hc0; clear hr0 hc0
 unfold laws_heldClueS.f at h; have H := h; clear h
 have H' := aM H; clear H
 go_enter Tryd.func22, Tryd.ntmps22
 go_wp2
 go_loopg [1, 5] k (fun kq v1 v5 w' => ∃ (x1_1 : Int) (x5_1 : Int), v1 = .int .i64 x1_1 ∧ v5 = .int .i64 x5_1 ∧ Aside0 (laws_heldClueS.l0 kq l0 x1_1 x5_1 = some r) ∧ Aside0 (kq ≤ k) ∧ Drawn0 w w')
 case atStart => exact ⟨(a1), (0), eQ, eQ, H', ⟨Nat.le_refl _⟩, dQ⟩
 case round =>
  clear H'; obtain ⟨x1_1, x5_1, rfl, rfl, HA, HK1, ⟨m1, rfl⟩⟩ := hrel
  cases gk with
  | zero => exact absurd HA.out (by simp [laws_heldClueS.l0])
  | succ k1 =>
   have H := HA.out; clear HA
   simp only [laws_heldClueS.l0] at H
   by_cases c3 : x5_1 < (l0.length : Int)
   ·rw [if_pos c3] at H; have c3b0 := dE c3; clear c3; replace H := iD H; obtain ⟨c4b0, H⟩ := H
    by_cases c5 : ((rd_impl_Clue l0 x5_1).f0) = x1_1
    ·rw [if_pos c5] at H; have c5b0 : (((rd_impl_Clue l0 x5_1).f0) == x1_1) = true := beq_iff_eq.mpr c5; have c5b1 : (((rd_impl_Clue l0 x5_1).f0) != x1_1) = false := bne_eq_false_iff_eq.mpr c5; clear c5
     by_cases c6 : ((rd_impl_Clue l0 x5_1).f1) = (wrap64 (x1_1 + 1))
     ·rw [if_pos c6] at H; have c6b0 : (((rd_impl_Clue l0 x5_1).f1) == (wrap64 (x1_1 + 1))) = true := beq_iff_eq.mpr c6; have c6b1 : (((rd_impl_Clue l0 x5_1).f1) != (wrap64 (x1_1 + 1))) = false := bne_eq_false_iff_eq.mpr c6; clear c6
      by_cases c7 : ((rd_impl_Clue l0 x5_1).f2) = (wrap64 ((wrap64 (x1_1 + 1)) + 1))
      ·rw [if_pos c7] at H; have c7b0 : (((rd_impl_Clue l0 x5_1).f2) == (wrap64 ((wrap64 (x1_1 + 1)) + 1))) = true := beq_iff_eq.mpr c7; have c7b1 : (((rd_impl_Clue l0 x5_1).f2) != (wrap64 ((wrap64 (x1_1 + 1)) + 1))) = false := bne_eq_false_iff_eq.mpr c7; clear c7
       by_cases c8 : ((rd_impl_Clue l0 x5_1).f3) = (wrap64 ((wrap64 ((wrap64 (x1_1 + 1)) + 1)) + 1))
       ·rw [if_pos c8] at H; have c8b0 : (((rd_impl_Clue l0 x5_1).f3) == (wrap64 ((wrap64 ((wrap64 (x1_1 + 1)) + 1)) + 1))) = true := beq_iff_eq.mpr c8; have c8b1 : (((rd_impl_Clue l0 x5_1).f3) != (wrap64 ((wrap64 ((wrap64 (x1_1 + 1)) + 1)) + 1))) = false := bne_eq_false_iff_eq.mpr c8; clear c8; have H' := aM H; clear H; have p225 : 0 ≤ (x5_1 : Int) := dT aQ; have q225 : x5_1 < (l0.length : Int) := dT aQ; obtain ⟨ad225, e225, hx225_0, hx225_1, hx225_2, hx225_3⟩ := at_impl_Clue HR0.out x5_1 p225 q225
        cases e225
        replace p225 := eq_true p225; replace q225 := eq_true q225; have p226 : 0 ≤ (x5_1 : Int) := dT aQ; have q226 : x5_1 < (l0.length : Int) := dT aQ; obtain ⟨ad226, e226, hx226_0, hx226_1, hx226_2, hx226_3⟩ := at_impl_Clue HR0.out x5_1 p226 q226; obtain rfl : ad225 = ad226 := (by injection e226)
        replace p226 := eq_true p226; replace q226 := eq_true q226; have p227 : 0 ≤ (x5_1 : Int) := dT aQ; have q227 : x5_1 < (l0.length : Int) := dT aQ; obtain ⟨ad227, e227, hx227_0, hx227_1, hx227_2, hx227_3⟩ := at_impl_Clue HR0.out x5_1 p227 q227; obtain rfl : ad225 = ad227 := (by injection e227)
        replace p227 := eq_true p227; replace q227 := eq_true q227; have p228 : 0 ≤ (x5_1 : Int) := dT aQ; have q228 : x5_1 < (l0.length : Int) := dT aQ; obtain ⟨ad228, e228, hx228_0, hx228_1, hx228_2, hx228_3⟩ := at_impl_Clue HR0.out x5_1 p228 q228; obtain rfl : ad225 = ad228 := (by injection e228)
        replace p228 := eq_true p228; replace q228 := eq_true q228; go_wp2
        go_roundg k1
        case measure => have := HK1.out; omega
        case rel => exact ⟨(wrap64 ((wrap64 ((wrap64 ((wrap64 (x1_1 + 1)) + 1)) + 1)) + 1)), (wrap64 (x5_1 + 1)), eQ, eQ, H', ⟨by have := HK1.out; omega⟩, dQ⟩
       ·rw [if_neg c8] at H; have c8b0 : (((rd_impl_Clue l0 x5_1).f3) == (wrap64 ((wrap64 ((wrap64 (x1_1 + 1)) + 1)) + 1))) = false := beq_eq_false_iff_ne.mpr c8; have c8b1 : (((rd_impl_Clue l0 x5_1).f3) != (wrap64 ((wrap64 ((wrap64 (x1_1 + 1)) + 1)) + 1))) = true := bne_iff_ne.mpr c8; obtain rfl := Option.some.inj H; have p225 : 0 ≤ (x5_1 : Int) := dT aQ; have q225 : x5_1 < (l0.length : Int) := dT aQ; obtain ⟨ad225, e225, hx225_0, hx225_1, hx225_2, hx225_3⟩ := at_impl_Clue HR0.out x5_1 p225 q225
        cases e225
        replace p225 := eq_true p225; replace q225 := eq_true q225; have p226 : 0 ≤ (x5_1 : Int) := dT aQ; have q226 : x5_1 < (l0.length : Int) := dT aQ; obtain ⟨ad226, e226, hx226_0, hx226_1, hx226_2, hx226_3⟩ := at_impl_Clue HR0.out x5_1 p226 q226; obtain rfl : ad225 = ad226 := (by injection e226)
        replace p226 := eq_true p226; replace q226 := eq_true q226; have p227 : 0 ≤ (x5_1 : Int) := dT aQ; have q227 : x5_1 < (l0.length : Int) := dT aQ; obtain ⟨ad227, e227, hx227_0, hx227_1, hx227_2, hx227_3⟩ := at_impl_Clue HR0.out x5_1 p227 q227; obtain rfl : ad225 = ad227 := (by injection e227)
        replace p227 := eq_true p227; replace q227 := eq_true q227; have p228 : 0 ≤ (x5_1 : Int) := dT aQ; have q228 : x5_1 < (l0.length : Int) := dT aQ; obtain ⟨ad228, e228, hx228_0, hx228_1, hx228_2, hx228_3⟩ := at_impl_Clue HR0.out x5_1 p228 q228; obtain rfl : ad225 = ad228 := (by injection e228)
        replace p228 := eq_true p228; replace q228 := eq_true q228; go_wp2
        go_ret
        exact ⟨eQ, dQ⟩
      ·rw [if_neg c7] at H; have c7b0 : (((rd_impl_Clue l0 x5_1).f2) == (wrap64 ((wrap64 (x1_1 + 1)) + 1))) = false := beq_eq_false_iff_ne.mpr c7; have c7b1 : (((rd_impl_Clue l0 x5_1).f2) != (wrap64 ((wrap64 (x1_1 + 1)) + 1))) = true := bne_iff_ne.mpr c7; obtain rfl := Option.some.inj H; have p225 : 0 ≤ (x5_1 : Int) := dT aQ; have q225 : x5_1 < (l0.length : Int) := dT aQ; obtain ⟨ad225, e225, hx225_0, hx225_1, hx225_2, hx225_3⟩ := at_impl_Clue HR0.out x5_1 p225 q225
       cases e225
       replace p225 := eq_true p225; replace q225 := eq_true q225; have p226 : 0 ≤ (x5_1 : Int) := dT aQ; have q226 : x5_1 < (l0.length : Int) := dT aQ; obtain ⟨ad226, e226, hx226_0, hx226_1, hx226_2, hx226_3⟩ := at_impl_Clue HR0.out x5_1 p226 q226; obtain rfl : ad225 = ad226 := (by injection e226)
       replace p226 := eq_true p226; replace q226 := eq_true q226; have p227 : 0 ≤ (x5_1 : Int) := dT aQ; have q227 : x5_1 < (l0.length : Int) := dT aQ; obtain ⟨ad227, e227, hx227_0, hx227_1, hx227_2, hx227_3⟩ := at_impl_Clue HR0.out x5_1 p227 q227; obtain rfl : ad225 = ad227 := (by injection e227)
       replace p227 := eq_true p227; replace q227 := eq_true q227; go_wp2
       go_ret
       exact ⟨eQ, dQ⟩
     ·rw [if_neg c6] at H; have c6b0 : (((rd_impl_Clue l0 x5_1).f1) == (wrap64 (x1_1 + 1))) = false := beq_eq_false_iff_ne.mpr c6; have c6b1 : (((rd_impl_Clue l0 x5_1).f1) != (wrap64 (x1_1 + 1))) = true := bne_iff_ne.mpr c6; obtain rfl := Option.some.inj H; have p225 : 0 ≤ (x5_1 : Int) := dT aQ; have q225 : x5_1 < (l0.length : Int) := dT aQ; obtain ⟨ad225, e225, hx225_0, hx225_1, hx225_2, hx225_3⟩ := at_impl_Clue HR0.out x5_1 p225 q225
      cases e225
      replace p225 := eq_true p225; replace q225 := eq_true q225; have p226 : 0 ≤ (x5_1 : Int) := dT aQ; have q226 : x5_1 < (l0.length : Int) := dT aQ; obtain ⟨ad226, e226, hx226_0, hx226_1, hx226_2, hx226_3⟩ := at_impl_Clue HR0.out x5_1 p226 q226; obtain rfl : ad225 = ad226 := (by injection e226)
      replace p226 := eq_true p226; replace q226 := eq_true q226; go_wp2
      go_ret
      exact ⟨eQ, dQ⟩
    ·rw [if_neg c5] at H; have c5b0 : (((rd_impl_Clue l0 x5_1).f0) == x1_1) = false := beq_eq_false_iff_ne.mpr c5; have c5b1 : (((rd_impl_Clue l0 x5_1).f0) != x1_1) = true := bne_iff_ne.mpr c5; obtain rfl := Option.some.inj H; have p225 : 0 ≤ (x5_1 : Int) := dT aQ; have q225 : x5_1 < (l0.length : Int) := dT aQ; obtain ⟨ad225, e225, hx225_0, hx225_1, hx225_2, hx225_3⟩ := at_impl_Clue HR0.out x5_1 p225 q225
     cases e225
     replace p225 := eq_true p225; replace q225 := eq_true q225; go_wp2
     go_ret
     exact ⟨eQ, dQ⟩
   ·rw [if_neg c3] at H; have c3b0 := decide_eq_false c3; clear c3; obtain rfl := Option.some.inj H; go_wp2
    go_ret
    exact ⟨eQ, dQ⟩

def laws_heldPuzzle.f (k : Nat) (a0_0 : Int) (l0_1 : List (S_impl_Clue)) (a1 : Int) : Option (Int) := (laws_heldClueS.f k l0_1 a1).bind fun t230 => (if t230 < 0 then (some (-1)) else (some t230))
theorem laws_heldPuzzle.mono : ∀ a0 a1 a2 k, LeO (laws_heldPuzzle.f k a0 a1 a2) (laws_heldPuzzle.f (k + 1) a0 a1 a2) := by
 intro a0 a1 a2 k
 unfold laws_heldPuzzle.f
 repeat' first | (with_reducible exact laws_heldClueS.mono _ _ _) | (with_reducible exact LeO.refl _) | (with_reducible exact LeO.none _) | (with_reducible refine LeO.ite ?_ ?_) | (with_reducible refine LeO.bind ?_ (fun _ => ?_)) | exact laws_heldClueS.mono _ _ _ | exact LeO.none _ | refine LeO.ite ?_ ?_ | refine LeO.bind ?_ (fun _ => ?_)
set_option maxHeartbeats 8000000 in
set_option maxRecDepth 100000 in
theorem laws_heldPuzzle.calls (k : Nat) (a0_0 : Int) (A0_1 : Option Addr) (c0_1 : Nat) (l0_1 : List (S_impl_Clue)) (a1 : Int) (r : Int) (w : World) (hr0_1 : Kd.C kd_impl_Clue w A0_1 l0_1.length l0_1) (hc0_1 : l0_1.length ≤ c0_1) (h : laws_heldPuzzle.f k a0_0 l0_1 a1 = some r) :
  Calls Tryd.prog 9 #[.agg #[.int .i64 a0_0, .slice A0_1 l0_1.length c0_1], .int .i64 a1] w fun e w' => e = .returned (.int .i64 r) ∧ Below w.heap.size w w' := by
 have hu24 := Tryd.underlying24; have HR0_1 := aM hr0_1; have HC0_1 := aM hc0_1; clear hr0_1 hc0_1; have HB := aM (Below.refl w.heap.size w)
 unfold laws_heldPuzzle.f at h; have H := h; clear h
 replace H := bS H; obtain ⟨t230, A3, H⟩ := H
 by_cases c4 : t230 < 0
 ·rw [if_pos c4] at H; have c4b0 := dE c4; clear c4; obtain rfl := Option.some.inj H
  go_enter Tryd.func9, Tryd.ntmps9
  go_wp2_with (first | ((with_reducible refine gate_dst (N := 2) rfl ?_); refine bV 2 (cs := #[.int .i64 a0_0, .slice A0_1 l0_1.length c0_1]) (t := 24) rfl rfl (by first | (go_simp; done) | (go_simp; rfl)) ?_; intro gb229 hg w5 hbox hb; have BK229 := hbox; have GW229 := gZ HB hg; have GE229 := gZ HB hg; replace HB := tB HB hb; clear hb hbox hg; have hcz6_0 := vZ0 BK229; have hcz6_1 := vZ1 BK229; have hfz6_0 := kF BK229.out 0; have hfz6_1 := kF BK229.out 1) | ((with_reducible refine gC (f := 22) rfl ?_); refine goesL_ (some 8) rfl rfl Tryd.func22 kR rfl #[.slice A0_1 l0_1.length c0_1, .int .i64 a1] rfl sQ ?_; (with_reducible refine (laws_heldClueS.calls k _ _ l0_1 a1 t230 _ ?side1 ?side2 A3.out).mono ?_); (case side1 => repeat (first | exact (Kd.C_below HR0_1.out HB.out) | (with_reducible refine cA ?_ _) | (with_reducible refine cN ?_ _) | (with_reducible refine cD ?_))); (case side2 => exact HC0_1.out); rintro e w' ⟨rfl, ⟨nd, rfl⟩⟩; refine ⟨_, rfl, ?_⟩))
  go_ret
  exact ⟨wQ, bE⟩
 ·rw [if_neg c4] at H; have c4b0 := decide_eq_false c4; clear c4; obtain rfl := Option.some.inj H
  go_enter Tryd.func9, Tryd.ntmps9
  go_wp2_with (first | ((with_reducible refine gate_dst (N := 2) rfl ?_); refine bV 2 (cs := #[.int .i64 a0_0, .slice A0_1 l0_1.length c0_1]) (t := 24) rfl rfl (by first | (go_simp; done) | (go_simp; rfl)) ?_; intro gb229 hg w7 hbox hb; have BK229 := hbox; have GW229 := gZ HB hg; have GE229 := gZ HB hg; replace HB := tB HB hb; clear hb hbox hg; have hcz8_0 := vZ0 BK229; have hcz8_1 := vZ1 BK229; have hfz8_0 := kF BK229.out 0; have hfz8_1 := kF BK229.out 1) | ((with_reducible refine gC (f := 22) rfl ?_); refine goesL_ (some 8) rfl rfl Tryd.func22 kR rfl #[.slice A0_1 l0_1.length c0_1, .int .i64 a1] rfl sQ ?_; (with_reducible refine (laws_heldClueS.calls k _ _ l0_1 a1 t230 _ ?side1 ?side2 A3.out).mono ?_); (case side1 => repeat (first | exact (Kd.C_below HR0_1.out HB.out) | (with_reducible refine cA ?_ _) | (with_reducible refine cN ?_ _) | (with_reducible refine cD ?_))); (case side2 => exact HC0_1.out); rintro e w' ⟨rfl, ⟨nd, rfl⟩⟩; refine ⟨_, rfl, ?_⟩))
  go_ret
  exact ⟨wQ, bE⟩

end Go.Proofs.YtoeclfihlhmnpaaDoor.X
