/- The law FnExactWidthIn holds: for all arguments the program's WidthIn answers as the reference's, and the arguments are left as they were. No condition. -/
import Derived.Test.YtiacfkilmknldaaX0
import Derived.Test.YtiacfkilmknldaaX51
import Derived.Test.YtiacfkilmknldaaX52
import Derived.Test.YtiacfkilmknldaaX53
import Derived.Test.YtiacfkilmknldaaBBase
import Derived.Test.YtiacfkilmknldaaBCore
import Derived.Test.YtiacfkilmknldaaBPoly
import Derived.Test.YtiacfkilmknldaaBArea
import Derived.Test.YtiacfkilmknldaaBSteps
import Derived.Test.YtiacfkilmknldaaBMinMax
import Derived.Test.YtiacfkilmknldaaBRange
import Derived.Test.YtiacfkilmknldaaBWidth
namespace Go.Proofs.Ytiacfkilmknldaa.Pure
open Go.RowKit Go.Proofs.Ytiacfkilmknldaa.XW Go.Proofs.Ytiacfkilmknldaa.X Go.Proofs.YtiacfkilmknldaaW.PrintWords Go.Proofs.YtiacfkilmknldaaW.PrintLast Go.Proofs.Ytiacfkilmknldaa.B
set_option linter.unusedVariables false
set_option linter.unusedSimpArgs false
set_option maxRecDepth 20000

noncomputable def ans_WidthIn (l : List S_impl_Peg) (u v : Int) : Int × Bool :=
  if wideB l u v = true then (wrap64 (mxN (fun i => vl u v (pt l i)) l.length - mnN (fun i => vl u v (pt l i)) l.length), true) else (0, false)
theorem ev_spec_WidthIn (l : List S_impl_Peg) (u v : Int) : Ev (fun k => spec_WidthIn.f k l u v) (ans_WidthIn l u v) := by
  unfold spec_WidthIn.f ans_WidthIn
  refine Ev.asked (ev_spec_wide l u v) (fun h => ?_) (fun h => ?_)
  · obtain ⟨ok, hd⟩ := wideB_iff h
    obtain ⟨hu, hv⟩ := dirB_bd hd
    have h3 := ok.lo
    have h10 := ok.hi
    simp only [h, if_true]
    unfold spec_wiWidth.f
    refine Ev.bind (a := wrap64 (mxN (fun i => vl u v (pt l i)) l.length - mnN (fun i => vl u v (pt l i)) l.length)) ?_ (Ev.now _)
    exact Ev.bind (ev_spec_range l u v (by omega) (by omega) (by omega) (by omega) (fun i hi => ok.big i hi)) (Ev.now _)
  · simp only [h, Bool.false_eq_true, if_false]
    exact Ev.now _
theorem ev_impl_WidthIn (l : List S_impl_Peg) (u v : Int) : Ev (fun k => impl_WidthIn.f k l u v) (ans_WidthIn l u v) := by
  unfold impl_WidthIn.f ans_WidthIn
  refine Ev.asked (ev_impl_wide l u v) (fun h => ?_) (fun h => ?_)
  · obtain ⟨ok, hd⟩ := wideB_iff h
    obtain ⟨hu, hv⟩ := dirB_bd hd
    have h3 := ok.lo
    have h10 := ok.hi
    simp only [h, if_true]
    unfold impl_width.f
    refine Ev.bind (a := wrap64 (mxN (fun i => vl u v (pt l i)) l.length - mnN (fun i => vl u v (pt l i)) l.length)) ?_ (Ev.now _)
    exact Ev.bind (ev_impl_extent l u v (by omega) (by omega) (by omega) (by omega) (fun i hi => ok.big i hi)) (Ev.now _)
  · simp only [h, Bool.false_eq_true, if_false]
    exact Ev.now _
theorem FnExactWidthIn : laws_FnExactWidthIn.Pure := by
  intro l0 x1 x2 hl0 hx1 hx2
  have hl0 := hl0.1
  refine Ev.rounds ?_
  unfold laws_FnExactWidthIn.f
  rw [szPegS_eq l0 hl0]
  simp only [Option.bind_some]
  by_cases gl0 : 1048576 < l0.length
  · simp only [if_pos gl0]
    exact Ev.now _
  simp only [if_neg gl0]
  simp (disch := omega) only [if_neg]
  have el0 : l0.length ≤ 1048576 := by omega
  obtain ⟨R, hR⟩ : ∃ R, R = ans_WidthIn (toP l0) x1 x2 := ⟨_, rfl⟩
  have hS := ev_spec_WidthIn (toP l0) x1 x2
  have hM := ev_impl_WidthIn (toP l0) x1 x2
  rw [← hR] at hS hM
  repeat (first | exact Ev.now _ | refine Ev.bind (ev_toPegS l0 el0) ?_ | refine Ev.bind hS ?_ | refine Ev.bind hM ?_ | refine Ev.bind (ev_eqPegS (toP l0) (by rw [toP_length]; omega)) ?_ | simp only [eq_self, if_true, bne_self_eq_false, Bool.false_eq_true, if_false, Option.bind_some] | simp (disch := omega) only [if_neg, if_pos] | (refine Ev.succ ?_; simp only [laws_FnExactWidthIn.j0, Bool.false_eq_true, if_false]))

end Go.Proofs.Ytiacfkilmknldaa.Pure
