/- The law FnExactLinesOfCut holds: for all arguments the program's LinesOfCut answers as the reference's, and the arguments are left as they were. No condition. -/
import Derived.Test.YtiacfkilmknldaaX0
import Derived.Test.YtiacfkilmknldaaX49
import Derived.Test.YtiacfkilmknldaaX50
import Derived.Test.YtiacfkilmknldaaBBase
import Derived.Test.YtiacfkilmknldaaBCore
import Derived.Test.YtiacfkilmknldaaBPoly
import Derived.Test.YtiacfkilmknldaaBArea
import Derived.Test.YtiacfkilmknldaaBSteps
import Derived.Test.YtiacfkilmknldaaBRound
import Derived.Test.YtiacfkilmknldaaBInner
namespace Go.Proofs.Ytiacfkilmknldaa.Pure
open Go.RowKit Go.Proofs.Ytiacfkilmknldaa.XW Go.Proofs.Ytiacfkilmknldaa.X Go.Proofs.YtiacfkilmknldaaW.PrintWords Go.Proofs.YtiacfkilmknldaaW.PrintLast Go.Proofs.Ytiacfkilmknldaa.B
set_option linter.unusedVariables false
set_option linter.unusedSimpArgs false
set_option maxRecDepth 20000

noncomputable def cuttable (l : List S_impl_Peg) : Bool := if good l = true then decide (ab (ar l) ≤ 10) else false
theorem cut_poly {l : List S_impl_Peg} (h : cuttable l = true) : Poly l := by
  unfold cuttable at h
  split at h
  · rename_i hg
    exact good_iff.1 hg
  · cases h
theorem ev_spec_cut (l : List S_impl_Peg) : Ev (fun k => spec_cuGood.f k l) (cuttable l) := by
  unfold spec_cuGood.f cuttable
  refine Ev.asked (ev_spec_good l) (fun h => ?_) (fun h => ?_)
  · have ok := good_iff.1 h
    have hb := ok.area_bd
    simp only [h, if_true]
    refine Ev.bind ok.sarea ?_
    rw [spec_abs_eq (by omega)]
    exact Ev.now _
  · simp only [h, Bool.false_eq_true, if_false]
    exact Ev.now _
theorem ev_impl_cut (l : List S_impl_Peg) : Ev (fun k => impl_isCuttable.f k l) (cuttable l) := by
  unfold impl_isCuttable.f cuttable
  refine Ev.asked (ev_impl_IsPolygon l) (fun h => ?_) (fun h => ?_)
  · have ok := good_iff.1 h
    have hb := ok.area_bd
    simp only [h, if_true]
    refine Ev.bind ok.area ?_
    rw [impl_size_eq (by omega)]
    exact Ev.now _
  · simp only [h, Bool.false_eq_true, if_false]
    exact Ev.now _
noncomputable def ans_LinesOfCut (l : List S_impl_Peg) : Int × Bool := if cuttable l = true then (wrap64 (Int.tdiv (wrap64 (wrap64 (3 * ab (ar l)) + rn l)) 2), true) else (0, false)
theorem ev_spec_LinesOfCut (l : List S_impl_Peg) : Ev (fun k => spec_LinesOfCut.f k l) (ans_LinesOfCut l) := by
  unfold spec_LinesOfCut.f ans_LinesOfCut
  refine Ev.asked (ev_spec_cut l) (fun h => ?_) (fun h => ?_)
  · have ok := cut_poly h
    simp only [h, if_true]
    refine Ev.bind ok.sarea ?_
    rw [ok.abs_s]
    simp only [Option.bind_some]
    exact Ev.bind ok.sround (Ev.now _)
  · simp only [h, Bool.false_eq_true, if_false]
    exact Ev.now _
theorem ev_impl_LinesOfCut (l : List S_impl_Peg) : Ev (fun k => impl_LinesOfCut.f k l) (ans_LinesOfCut l) := by
  unfold impl_LinesOfCut.f ans_LinesOfCut
  refine Ev.asked (ev_impl_cut l) (fun h => ?_) (fun h => ?_)
  · have ok := cut_poly h
    simp only [h, if_true]
    refine Ev.bind ok.area ?_
    rw [ok.abs_i rfl]
    simp only [Option.bind_some]
    exact Ev.bind ok.round (Ev.now _)
  · simp only [h, Bool.false_eq_true, if_false]
    exact Ev.now _
theorem FnExactLinesOfCut : laws_FnExactLinesOfCut.Pure := by
  intro l0 hl0
  have hl0 := hl0.1
  refine Ev.rounds ?_
  unfold laws_FnExactLinesOfCut.f
  rw [szPegS_eq l0 hl0]
  simp only [Option.bind_some]
  by_cases gl0 : 1048576 < l0.length
  · simp only [if_pos gl0]
    exact Ev.now _
  simp only [if_neg gl0]
  simp (disch := omega) only [if_neg]
  have el0 : l0.length ≤ 1048576 := by omega
  obtain ⟨R, hR⟩ : ∃ R, R = ans_LinesOfCut (toP l0) := ⟨_, rfl⟩
  have hS := ev_spec_LinesOfCut (toP l0)
  have hM := ev_impl_LinesOfCut (toP l0)
  rw [← hR] at hS hM
  repeat (first | exact Ev.now _ | refine Ev.bind (ev_toPegS l0 el0) ?_ | refine Ev.bind hS ?_ | refine Ev.bind hM ?_ | refine Ev.bind (ev_eqPegS (toP l0) (by rw [toP_length]; omega)) ?_ | simp only [eq_self, if_true, bne_self_eq_false, Bool.false_eq_true, if_false, Option.bind_some] | simp (disch := omega) only [if_neg, if_pos] | (refine Ev.succ ?_; simp only [laws_FnExactLinesOfCut.j0, Bool.false_eq_true, if_false]))

end Go.Proofs.Ytiacfkilmknldaa.Pure
