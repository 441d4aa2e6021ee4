-- thin
/- The law FnExactKindOfPolygon holds: for all arguments the program's KindOfPolygon answers as the reference's, and the arguments are left as they were. No condition. -/
import Derived.Test.YtfihohongkfibaaX0
import Derived.Test.YtfihohongkfibaaX10
import Derived.Test.YtfihohongkfibaaX17
import Derived.Test.YtfihohongkfibaaX18
import Derived.Test.YtfihohongkfibaaBBase
import Derived.Test.YtfihohongkfibaaBCore
import Derived.Test.YtfihohongkfibaaBPoly
import Derived.Test.YtfihohongkfibaaBAsk
import Derived.Test.YtfihohongkfibaaBTold
import Derived.Test.YtfihohongkfibaaBOrder
import Derived.Test.YtfihohongkfibaaBGcd
import Derived.Test.YtfihohongkfibaaBFrame
import Derived.Test.YtfihohongkfibaaBKind
import Derived.Test.YtfihohongkfibaaBMarkP
namespace Go.Proofs.Ytfihohongkfibaa.Pure
open Go.RowKit Go.Proofs.Ytfihohongkfibaa.XW Go.Proofs.Ytfihohongkfibaa.X Go.Proofs.YtfihohongkfibaaW.PrintWords Go.Proofs.YtfihohongkfibaaW.PrintLast Go.Proofs.Ytfihohongkfibaa.B
set_option linter.unusedVariables false
set_option linter.unusedSimpArgs false
set_option maxRecDepth 20000

noncomputable def ans_KindOfPolygon (l : List S_impl_Peg) : List S_impl_Peg × Bool := if good l = true then (if allPegs (kd l) = true then (kd l, true) else ([], false)) else ([], false)
theorem ans_KindOfPolygon_len (l : List S_impl_Peg) : (ans_KindOfPolygon l).1.length ≤ 1099511627776 := by
 unfold ans_KindOfPolygon
 split
 ·rename_i h
  have p := good_iff.1 h
  have h3 := p.lo
  have h9 := p.hi
  have := kd_length (l := l) (by omega)
  split
  ·show (kd l).length ≤ _
   omega
  ·show 0 ≤ _
   omega
 ·show 0 ≤ _
  omega
theorem ev_spec_pegs (x : List S_impl_Peg) (hn : x.length ≤ 100000) : Ev (fun k => spec_KindOfPolygon.l0 k x x x.length 0) (if allPegs x = true then (x, true) else ([], false)) := by
 have go : ∀ (e i : Nat), i + e = x.length → (∀ j, j < i → Sm 40 (pt x j)) → Ev (fun k => spec_KindOfPolygon.l0 k x x x.length i) (if allPegs x = true then (x, true) else ([], false)) := by
  intro e
  induction e with
  | zero =>
   intro i hi hj
   refine Ev.succ ?_
   obtain rfl : i = x.length := by omega
   simp (disch := omega) only [spec_KindOfPolygon.l0, if_neg]
   rw [if_pos (allPegs_iff.2 hj)]
   exact Ev.now _
  | succ e ih =>
   intro i hi hj
   refine Ev.succ ?_
   simp (disch := omega) only [spec_KindOfPolygon.l0, if_pos, rd_pt, is_peg_eq, Option.bind_some, w64]
   by_cases c : Sm 40 (pt x i)
   ·simp only [c, decide_true, if_true]
    refine ih (i + 1) (by omega) fun j hj1 => ?_
    by_cases ej : j = i
    ·rw [ej]
     exact c
    ·exact hj j (by omega)
   ·simp only [c, decide_false, Bool.false_eq_true, if_false]
    refine Ev.some ?_
    rw [if_neg (fun k => c (allPegs_iff.1 k i (by omega)))]
 exact go x.length 0 (by omega) (fun j hj => absurd hj (Nat.not_lt_zero _))
theorem ev_spec_KindOfPolygon (l : List S_impl_Peg) : Ev (fun k => spec_KindOfPolygon.f k l) (ans_KindOfPolygon l) := by
 unfold spec_KindOfPolygon.f ans_KindOfPolygon
 refine askS l (fun h => ?_) ?_
 ·simp only [if_true]
  have h3 := h.lo
  have h9 := h.hi
  refine Ev.bind h.ev_spec_kind ?_
  exact ev_spec_pegs (kd l) (by rw [kd_length (l := l) (by omega)]; omega)
 ·simp only [Bool.false_eq_true, if_false]
  exact Ev.now _
theorem ev_impl_KindOfPolygon (l : List S_impl_Peg) : Ev (fun k => impl_KindOfPolygon.f k l) (ans_KindOfPolygon l) := by
 unfold impl_KindOfPolygon.f ans_KindOfPolygon
 refine askI l (fun h => ?_) ?_
 ·simp only [if_true]
  have h3 := h.lo
  have h9 := h.hi
  refine Ev.bind h.ev_impl_kind ?_
  refine Ev.asked (ev_arePegs (kd l) (by rw [kd_length (l := l) (by omega)]; omega)) (fun c => ?_) (fun c => ?_)
  ·simp only [if_pos c, if_true]
   exact Ev.now _
  ·rw [if_neg (show ¬ allPegs (kd l) = true by rw [c]; simp)]
   simp only [Bool.false_eq_true, if_false]
   exact Ev.now _
 ·simp only [Bool.false_eq_true, if_false]
  exact Ev.now _
theorem FnExactKindOfPolygon : laws_FnExactKindOfPolygon.Pure := by
 intro l0 hl0
 have hl0 := hl0.1
 refine Ev.rounds ?_
 unfold laws_FnExactKindOfPolygon.f
 rw [szPegS_eq l0 hl0]
 simp only [Option.bind_some]
 by_cases gl0 : 1048576 < l0.length
 ·simp only [if_pos gl0]
  exact Ev.now _
 simp only [if_neg gl0]
 simp (disch := omega) only [if_neg]
 have el0 : l0.length ≤ 1048576 := by omega
 obtain ⟨R, hR⟩ : ∃ R, R = ans_KindOfPolygon (toP l0) := ⟨_, rfl⟩
 have hS := ev_spec_KindOfPolygon (toP l0)
 have hM := ev_impl_KindOfPolygon (toP l0)
 rw [← hR] at hS hM
 have hb := ans_KindOfPolygon_len (toP l0)
 rw [← hR] at hb
 repeat (first | exact Ev.now _ | refine Ev.bind (ev_toPegS l0 el0) ?_ | refine Ev.bind hS ?_ | refine Ev.bind hM ?_ | refine Ev.bind (ev_eqPegS (toP l0) (by rw [toP_length]; omega)) ?_ | refine Ev.bind (ev_eqPegS _ hb) ?_ | refine Ev.bind (ev_markPegS _ _ hb (by omega)) ?_ | refine Ev.bind (ev_heldPegS _ _ hb (by omega)) ?_ | refine Ev.bind (ev_markPegS (toP l0) 1 (by rw [toP_length]; omega) (by omega)) ?_ | simp only [eq_self, if_true, bne_self_eq_false, Bool.false_eq_true, if_false, Option.bind_some] | simp (disch := omega) only [if_neg, if_pos] | (refine Ev.succ ?_; simp only [laws_FnExactKindOfPolygon.j0, laws_FnExactKindOfPolygon.j1, laws_FnExactKindOfPolygon.j2, Bool.false_eq_true, if_false]))

end Go.Proofs.Ytfihohongkfibaa.Pure
