-- thin
/- The law FnExactMostOnLine holds: for all arguments the program's MostOnLine answers as the reference's, and the arguments are left as they were. No condition. -/
import Derived.Test.YtfihohongkfibaaX0
import Derived.Test.YtfihohongkfibaaX8
import Derived.Test.YtfihohongkfibaaX16
import Derived.Test.YtfihohongkfibaaX17
import Derived.Test.YtfihohongkfibaaBBase
import Derived.Test.YtfihohongkfibaaBCore
import Derived.Test.YtfihohongkfibaaBPoly
import Derived.Test.YtfihohongkfibaaBAsk
import Derived.Test.YtfihohongkfibaaBArea
import Derived.Test.YtfihohongkfibaaBSteps
import Derived.Test.YtfihohongkfibaaBMinMax
import Derived.Test.YtfihohongkfibaaBRange
import Derived.Test.YtfihohongkfibaaBWidth
import Derived.Test.YtfihohongkfibaaBWhere
import Derived.Test.YtfihohongkfibaaBBox
import Derived.Test.YtfihohongkfibaaBGrid
import Derived.Test.YtfihohongkfibaaBSide
import Derived.Test.YtfihohongkfibaaBLines
namespace Go.Proofs.Ytfihohongkfibaa.Pure
open Go.RowKit Go.Proofs.Ytfihohongkfibaa.XW Go.Proofs.Ytfihohongkfibaa.X Go.Proofs.YtfihohongkfibaaW.PrintWords Go.Proofs.YtfihohongkfibaaW.PrintLast Go.Proofs.Ytfihohongkfibaa.B
set_option linter.unusedVariables false
set_option linter.unusedSimpArgs false
set_option maxRecDepth 20000

/-- The greatest one of 0 and the first i numbers. -/
def mxL (c : List Int) : Nat → Int
 | 0 => 0
 | i + 1 => mx (mxL c i) (c.getD i 0)
theorem rd_g (l : List Int) (i : Nat) : rd l (i : Int) = l.getD i 0 := by
 unfold rd
 rw [Int.toNat_natCast]
theorem mx_nn {a b : Int} (h : 0 ≤ a) : 0 ≤ mx a b := by
 unfold mx
 split <;> omega
def NN (c : List Int) : Prop := ∀ i : Nat, 0 ≤ c.getD i 0
theorem NN.cel {l : List S_impl_Peg} {u v b x y : Int} {c : List Int} (h : NN c) : NN (cel l u v b x y c) := by
 unfold B.cel
 split
 ·intro i
  have r : 0 ≤ rd c (vl u v ⟨x, y⟩ - b) := h _
  rw [List.getD_eq_getElem?_getD, List.getElem?_set]
  repeat' split
  ·show 0 ≤ rd c (vl u v ⟨x, y⟩ - b) + 1
   omega
  ·exact Int.le_refl _
  ·have := h i
   rw [List.getD_eq_getElem?_getD] at this
   exact this
 ·exact h
theorem NN.fld {f : Int → List Int → List Int} (hf : ∀ x c, NN c → NN (f x c)) : ∀ (d : Nat) (x : Int) (c : List Int), NN c → NN (fld f d x c) := by
 intro d
 induction d with
 | zero => exact fun x c h => h
 | succ d ih => exact fun x c h => ih _ _ (hf x c h)
theorem lnN_nn (l : List S_impl_Peg) (u v : Int) : NN (lnN l u v) := by
 unfold lnN
 refine NN.fld (fun x c h => NN.fld (fun y c h => h.cel) _ _ _ h) _ _ _ ?_
 intro i
 rw [List.getD_eq_getElem?_getD, List.getElem?_replicate]
 split <;> exact Int.le_refl _
noncomputable def ans_MostOnLine (l : List S_impl_Peg) (u v : Int) : Int × Bool := if wideB l u v = true then (mxL (lnN l u v) (lnN l u v).length, true) else (0, false)
theorem ev_spec_most (c : List Int) (hn : c.length ≤ 100000) : Ev (fun k => spec_MostOnLine.l0 k 0 c c.length 0) (mxL c c.length, true) := by
 have go : ∀ (e i : Nat), i + e = c.length → Ev (fun k => spec_MostOnLine.l0 k (mxL c i) c c.length i) (mxL c c.length, true) := by
  intro e
  induction e with
  | zero =>
   intro i hi
   refine Ev.succ ?_
   obtain rfl : i = c.length := by omega
   simp (disch := omega) only [spec_MostOnLine.l0, if_neg]
   exact Ev.now _
  | succ e ih =>
   intro i hi
   refine Ev.succ ?_
   simp (disch := omega) only [spec_MostOnLine.l0, if_pos, spec_most_eq, Option.bind_some, rd_g, w64]
   exact ih (i + 1) (by omega)
 exact go c.length 0 (by omega)
theorem ev_impl_max (c : List Int) (h0 : 0 < c.length) (hn : c.length ≤ 100000) (hc : 0 ≤ c.getD 0 0) : Ev (fun k => slices_Max_int.f k c) (mxL c c.length) := by
 unfold slices_Max_int.f
 simp (disch := omega) only [if_neg, if_pos]
 have go : ∀ (e i : Nat), i + e = c.length → Ev (fun k => slices_Max_int.l0 k c (mxL c i) i) (mxL c c.length) := by
  intro e
  induction e with
  | zero =>
   intro i hi
   refine Ev.succ ?_
   obtain rfl : i = c.length := by omega
   simp (disch := omega) only [slices_Max_int.l0, if_neg]
   exact Ev.now _
  | succ e ih =>
   intro i hi
   refine Ev.succ ?_
   simp (disch := omega) only [slices_Max_int.l0, if_pos, rd_g, w64]
   exact ih (i + 1) (by omega)
 have e1 : mxL c 1 = rd c 0 := by
  show mx 0 (c.getD 0 0) = c.getD 0 0
  unfold mx
  split <;> omega
 have := go (c.length - 1) 1 (by omega)
 rw [e1] at this
 exact this
theorem ev_spec_MostOnLine (l : List S_impl_Peg) (u v : Int) : Ev (fun k => spec_MostOnLine.f k l u v) (ans_MostOnLine l u v) := by
 unfold spec_MostOnLine.f ans_MostOnLine
 refine Ev.asked (ev_spec_wide l u v) (fun h => ?_) (fun h => ?_)
 ·rw [if_pos h]
  simp only [if_true]
  obtain ⟨ok, hd⟩ := wideB_iff h
  obtain ⟨hb, ht, hbt⟩ := ln_bd ok hd
  refine Ev.bind (ev_spec_wiLines l u v h) ?_
  exact ev_spec_most _ (by rw [lnN_len]; omega)
 ·rw [if_neg (by rw [h]; simp)]
  exact Ev.now _
theorem ev_impl_MostOnLine (l : List S_impl_Peg) (u v : Int) : Ev (fun k => impl_MostOnLine.f k l u v) (ans_MostOnLine l u v) := by
 unfold impl_MostOnLine.f ans_MostOnLine
 refine Ev.bind (ev_impl_PegsPerLine l u v) ?_
 unfold ans_PegsPerLine
 by_cases h : wideB l u v = true
 ·obtain ⟨ok, hd⟩ := wideB_iff h
  obtain ⟨hb, ht, hbt⟩ := ln_bd ok hd
  simp only [if_pos h, if_true]
  exact Ev.bind (ev_impl_max _ (by rw [lnN_len]; omega) (by rw [lnN_len]; omega) (lnN_nn l u v 0)) (Ev.now _)
 ·simp only [if_neg h, Bool.false_eq_true, if_false]
  exact Ev.now _
theorem FnExactMostOnLine : laws_FnExactMostOnLine.Pure := by
 intro l0 x1 x2 hl0 hx1 hx2
 have hl0 := hl0.1
 refine Ev.rounds ?_
 unfold laws_FnExactMostOnLine.f
 rw [szPegS_eq l0 hl0]
 simp only [Option.bind_some]
 by_cases gl0 : 1048576 < l0.length
 ·simp only [if_pos gl0]
  exact Ev.now _
 simp only [if_neg gl0]
 simp (disch := omega) only [if_neg]
 have el0 : l0.length ≤ 1048576 := by omega
 obtain ⟨R, hR⟩ : ∃ R, R = ans_MostOnLine (toP l0) x1 x2 := ⟨_, rfl⟩
 have hS := ev_spec_MostOnLine (toP l0) x1 x2
 have hM := ev_impl_MostOnLine (toP l0) x1 x2
 rw [← hR] at hS hM
 repeat (first | exact Ev.now _ | refine Ev.bind (ev_toPegS l0 el0) ?_ | refine Ev.bind hS ?_ | refine Ev.bind hM ?_ | refine Ev.bind (ev_eqPegS (toP l0) (by rw [toP_length]; omega)) ?_ | simp only [eq_self, if_true, bne_self_eq_false, Bool.false_eq_true, if_false, Option.bind_some] | simp (disch := omega) only [if_neg, if_pos] | (refine Ev.succ ?_; simp only [laws_FnExactMostOnLine.j0, Bool.false_eq_true, if_false]))

end Go.Proofs.Ytfihohongkfibaa.Pure
