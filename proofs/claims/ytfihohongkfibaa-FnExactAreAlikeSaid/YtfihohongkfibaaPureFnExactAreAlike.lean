-- thin
/- The law FnExactAreAlike holds: for all arguments the program's AreAlike answers as the reference's, and the arguments are left as they were. No condition. -/
import Derived.Test.YtfihohongkfibaaX0
import Derived.Test.YtfihohongkfibaaX2
import Derived.Test.YtfihohongkfibaaX19
import Derived.Test.YtfihohongkfibaaX20
import Derived.Test.YtfihohongkfibaaBBase
import Derived.Test.YtfihohongkfibaaBCore
import Derived.Test.YtfihohongkfibaaBPoly
import Derived.Test.YtfihohongkfibaaBAsk
import Derived.Test.YtfihohongkfibaaBTold
import Derived.Test.YtfihohongkfibaaBOrder
import Derived.Test.YtfihohongkfibaaBGcd
import Derived.Test.YtfihohongkfibaaBFrame
import Derived.Test.YtfihohongkfibaaBKind
namespace Go.Proofs.Ytfihohongkfibaa.Pure
open Go.RowKit Go.Proofs.Ytfihohongkfibaa.XW Go.Proofs.Ytfihohongkfibaa.X Go.Proofs.YtfihohongkfibaaW.PrintWords Go.Proofs.YtfihohongkfibaaW.PrintLast Go.Proofs.Ytfihohongkfibaa.B
set_option linter.unusedVariables false
set_option linter.unusedSimpArgs false
set_option maxRecDepth 20000

theorem szPegS_eq' (l : List S_laws_Peg) (n : Int) (hn : l.length ≤ 9223372036854775807) (h : 0 ≤ n ∧ n ≤ 1048576) : laws_szPegS.f l n = some (if n < l.length then -1 else n - (l.length : Int)) := by
 unfold laws_szPegS.f
 rw [w64 (by omega)]
 by_cases c : n < l.length
 ·simp (disch := omega) only [if_pos]
 ·simp (disch := omega) only [if_neg]
noncomputable def ans_AreAlike (l m : List S_impl_Peg) : Bool × Bool := if good l = true then (if good m = true then (decide (kd l = kd m), true) else (false, false)) else (false, false)
theorem ev_alike {l m : List S_impl_Peg} (h : Poly l) (k : Poly m) : Ev (fun n => spec_mvAlike.f n l m) (decide (kd l = kd m)) := by
 unfold spec_mvAlike.f
 have h3 := h.lo
 have h9 := h.hi
 have k3 := k.lo
 have k9 := k.hi
 have el := kd_length (l := l) (by omega)
 have em := kd_length (l := m) (by omega)
 by_cases e : l.length = m.length
 ·simp (disch := omega) only [if_pos]
  refine Ev.bind h.ev_spec_kind ?_
  refine Ev.bind k.ev_spec_kind ?_
  refine Ev.asked (ev_before _ _ (by omega) (by omega)) (fun b => ?_) (fun b => ?_)
  ·simp only [if_true]
   refine Ev.some ?_
   symm
   rw [decide_eq_false_iff_not]
   intro c
   rw [c, bef_irr] at b
   exact absurd b (by simp)
  ·simp only [Bool.false_eq_true, if_false]
   refine Ev.bind (ev_before _ _ (by omega) (by omega)) ?_
   refine Ev.some ?_
   cases b2 : bef (kd m) (kd l) with
   | true =>
    symm
    show decide _ = false
    rw [decide_eq_false_iff_not]
    intro c
    rw [c, bef_irr] at b2
    exact absurd b2 (by simp)
   | false =>
    symm
    show decide _ = true
    rw [decide_eq_true_eq]
    exact bef_tot _ _ (by omega) b b2
 ·simp (disch := omega) only [if_neg]
  refine Ev.some ?_
  symm
  rw [decide_eq_false_iff_not]
  intro c
  rw [c] at el
  omega
theorem ev_equal (a b : List S_impl_Peg) (hn : a.length ≤ 100000) (hb : b.length ≤ 100000) : Ev (fun k => slices_Equal_impl_Peg.f k a b) (decide (a = b)) := by
 unfold slices_Equal_impl_Peg.f
 by_cases e : a.length = b.length
 ·simp (disch := omega) only [if_pos]
  have go : ∀ (d i : Nat), i + d = a.length → (∀ j, j < i → pt a j = pt b j) → Ev (fun k => slices_Equal_impl_Peg.l0 k a b a.length i) (decide (a = b)) := by
   intro d
   induction d with
   | zero =>
    intro i hi hj
    refine Ev.succ ?_
    obtain rfl : i = a.length := by omega
    simp (disch := omega) only [slices_Equal_impl_Peg.l0, if_neg]
    refine Ev.some ?_
    symm
    rw [decide_eq_true_eq]
    refine List.ext_getElem e fun i h1 h2 => ?_
    have := hj i h1
    unfold pt at this
    rw [List.getD_eq_getElem?_getD, List.getD_eq_getElem?_getD, List.getElem?_eq_getElem h1, List.getElem?_eq_getElem h2] at this
    exact this
   | succ d ih =>
    intro i hi hj
    refine Ev.succ ?_
    simp (disch := omega) only [slices_Equal_impl_Peg.l0, if_pos, rd_pt, w64, ne_dec]
    by_cases c : pt a i = pt b i
    ·simp only [c, decide_true, Bool.not_true, Bool.false_eq_true, if_false]
     refine ih (i + 1) (by omega) fun j hj1 => ?_
     by_cases ej : j = i
     ·rw [ej]
      exact c
     ·exact hj j (by omega)
    ·simp only [c, decide_false, Bool.not_false, if_true]
     refine Ev.some ?_
     symm
     rw [decide_eq_false_iff_not]
     intro f
     exact c (by rw [f])
  exact go a.length 0 (by omega) (fun j hj => absurd hj (Nat.not_lt_zero _))
 ·simp (disch := omega) only [if_neg]
  refine Ev.some ?_
  symm
  rw [decide_eq_false_iff_not]
  intro c
  rw [c] at e
  exact e rfl
theorem ev_spec_AreAlike (l m : List S_impl_Peg) : Ev (fun k => spec_AreAlike.f k l m) (ans_AreAlike l m) := by
 unfold spec_AreAlike.f ans_AreAlike
 refine askS l (fun h => ?_) ?_
 ·simp only [if_true]
  refine askS m (fun k => ?_) ?_
  ·simp only [if_true]
   exact Ev.bind (ev_alike h k) (Ev.now _)
  ·simp only [Bool.false_eq_true, if_false]
   exact Ev.now _
 ·simp only [Bool.false_eq_true, if_false]
  exact Ev.now _
theorem ev_impl_AreAlike (l m : List S_impl_Peg) : Ev (fun k => impl_AreAlike.f k l m) (ans_AreAlike l m) := by
 unfold impl_AreAlike.f ans_AreAlike
 refine askI l (fun h => ?_) ?_
 ·simp only [if_true]
  refine askI m (fun k => ?_) ?_
  ·refine Ev.succ ?_
   have h3 := h.lo
   have h9 := h.hi
   have k3 := k.lo
   have k9 := k.hi
   have el := kd_length (l := l) (by omega)
   have em := kd_length (l := m) (by omega)
   simp only [impl_AreAlike.j0, Bool.not_true, Bool.false_eq_true, if_false]
   refine Ev.bind h.ev_impl_kind ?_
   refine Ev.bind k.ev_impl_kind ?_
   exact Ev.bind (ev_equal _ _ (by omega) (by omega)) (Ev.now _)
  ·refine Ev.succ ?_
   simp only [impl_AreAlike.j0, Bool.not_false, if_true]
   exact Ev.now _
 ·simp only [Bool.false_eq_true, if_false]
  refine Ev.succ ?_
  simp only [impl_AreAlike.j0, if_true]
  exact Ev.now _
theorem FnExactAreAlike : laws_FnExactAreAlike.Pure := by
 intro l0 l1 hl0 hl1
 have hl0 := hl0.1
 have hl1 := hl1.1
 refine Ev.rounds ?_
 unfold laws_FnExactAreAlike.f
 rw [szPegS_eq l0 hl0]
 simp only [Option.bind_some]
 by_cases gl0 : 1048576 < l0.length
 ·simp only [if_pos gl0]
  exact Ev.now _
 simp only [if_neg gl0]
 simp (disch := omega) only [if_neg]
 rw [szPegS_eq' l1 _ hl1 (by omega)]
 simp only [Option.bind_some]
 by_cases gl1 : 1048576 < l0.length + l1.length
 ·simp (disch := omega) only [if_pos]
  exact Ev.now _
 simp (disch := omega) only [if_neg]
 have el0 : l0.length ≤ 1048576 := by omega
 have el1 : l1.length ≤ 1048576 := by omega
 obtain ⟨R, hR⟩ : ∃ R, R = ans_AreAlike (toP l0) (toP l1) := ⟨_, rfl⟩
 have hS := ev_spec_AreAlike (toP l0) (toP l1)
 have hM := ev_impl_AreAlike (toP l0) (toP l1)
 rw [← hR] at hS hM
 repeat (first | exact Ev.now _ | refine Ev.bind (ev_toPegS l0 el0) ?_ | refine Ev.bind (ev_toPegS l1 el1) ?_ | refine Ev.bind hS ?_ | refine Ev.bind hM ?_ | refine Ev.bind (ev_eqPegS (toP l0) (by rw [toP_length]; omega)) ?_ | refine Ev.bind (ev_eqPegS (toP l1) (by rw [toP_length]; omega)) ?_ | simp only [eq_self, if_true, bne_self_eq_false, Bool.false_eq_true, if_false, Option.bind_some] | simp (disch := omega) only [if_neg, if_pos] | (refine Ev.succ ?_; simp only [laws_FnExactAreAlike.j0, Bool.false_eq_true, if_false]))

end Go.Proofs.Ytfihohongkfibaa.Pure
