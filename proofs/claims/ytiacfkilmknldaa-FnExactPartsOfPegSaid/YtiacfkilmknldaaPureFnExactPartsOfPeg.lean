/- The law FnExactPartsOfPeg holds: for all arguments the program's PartsOfPeg answers as the reference's, and the arguments are left as they were. No condition. -/
import Derived.Test.YtiacfkilmknldaaX0
import Derived.Test.YtiacfkilmknldaaX6
import Derived.Test.YtiacfkilmknldaaX31
import Derived.Test.YtiacfkilmknldaaX32
import Derived.Test.YtiacfkilmknldaaX34
import Derived.Test.YtiacfkilmknldaaBBase
import Derived.Test.YtiacfkilmknldaaBCore
import Derived.Test.YtiacfkilmknldaaBPoly
import Derived.Test.YtiacfkilmknldaaBArea
import Derived.Test.YtiacfkilmknldaaBEqIntS
import Derived.Test.YtiacfkilmknldaaBMarkI
import Derived.Test.YtiacfkilmknldaaBMarkP
namespace Go.Proofs.Ytiacfkilmknldaa.Pure
open Go.RowKit Go.Proofs.Ytiacfkilmknldaa.XW Go.Proofs.Ytiacfkilmknldaa.X Go.Proofs.YtiacfkilmknldaaW.PrintWords Go.Proofs.YtiacfkilmknldaaW.PrintLast Go.Proofs.Ytiacfkilmknldaa.B
set_option linter.unusedVariables false
set_option linter.unusedSimpArgs false
set_option maxRecDepth 20000

noncomputable def prt (l : List S_impl_Peg) (p : S_impl_Peg) : List Int := [tn p (pt l 1) (pt l 2), tn (pt l 0) p (pt l 2), tn (pt l 0) (pt l 1) p]
noncomputable def ans_PartsOfPeg (l : List S_impl_Peg) (x y : Int) : List Int × Bool := if three l = true then (if decide (Sm 40 ⟨x, y⟩) = true then (prt l ⟨x, y⟩, true) else ([], false)) else ([], false)
theorem ans_PartsOfPeg_len (l : List S_impl_Peg) (x y : Int) : (ans_PartsOfPeg l x y).1.length ≤ 1099511627776 := by
  unfold ans_PartsOfPeg
  split
  · split
    · show 3 ≤ _
      omega
    · show 0 ≤ _
      omega
  · show 0 ≤ _
    omega
theorem ev_spec_PartsOfPeg (l : List S_impl_Peg) (x y : Int) : Ev (fun k => spec_PartsOfPeg.f k l x y) (ans_PartsOfPeg l x y) := by
  unfold spec_PartsOfPeg.f ans_PartsOfPeg
  refine ask3S l (fun h3 ok => ?_) (Ev.now _)
  have e := is_peg_eq ⟨x, y⟩
  simp only at e
  simp only [if_true, e, Option.bind_some]
  by_cases h : Sm 40 ⟨x, y⟩
  · have hb : Sm 1000000 ⟨x, y⟩ := h.mono (by omega)
    have p0 := ok.big 0 (by omega)
    have p1 := ok.big 1 (by omega)
    have p2 := ok.big 2 (by omega)
    have t0 := spec_turn_eq hb p1 p2
    have t1 := spec_turn_eq p0 hb p2
    have t2 := spec_turn_eq p0 p1 hb
    simp only at t0 t1 t2
    simp (disch := omega) only [h, decide_true, if_true, spec_trParts.f, if_pos, rd0, rd1, rd2, t0, t1, t2, Option.bind_some]
    exact Ev.now _
  · simp only [h, decide_false, Bool.false_eq_true, if_false]
    exact Ev.now _
theorem ev_impl_PartsOfPeg (l : List S_impl_Peg) (x y : Int) : Ev (fun k => impl_PartsOfPeg.f k l x y) (ans_PartsOfPeg l x y) := by
  unfold impl_PartsOfPeg.f ans_PartsOfPeg
  refine ask3I l (fun h3 ok => ?_) (Ev.now _)
  have e := is_peg_impl ⟨x, y⟩
  simp only at e
  simp only [if_true, e, Option.bind_some]
  by_cases h : Sm 40 ⟨x, y⟩
  · have hb : Sm 1000000 ⟨x, y⟩ := h.mono (by omega)
    have p0 := ok.big 0 (by omega)
    have p1 := ok.big 1 (by omega)
    have p2 := ok.big 2 (by omega)
    have t0 := impl_turn_eq hb p1 p2
    have t1 := impl_turn_eq p0 hb p2
    have t2 := impl_turn_eq p0 p1 hb
    simp only at t0 t1 t2
    simp (disch := omega) only [h, decide_true, if_true, impl_parts.f, if_pos, rd0, rd1, rd2, t0, t1, t2, Option.bind_some]
    exact Ev.now _
  · simp only [h, decide_false, Bool.false_eq_true, if_false]
    exact Ev.now _
theorem FnExactPartsOfPeg : laws_FnExactPartsOfPeg.Pure := by
  intro l0 x1 y1 hl0 hx1 hy1
  have hl0 := hl0.1
  refine Ev.rounds ?_
  unfold laws_FnExactPartsOfPeg.f
  rw [szPegS_eq l0 hl0]
  simp only [Option.bind_some]
  by_cases gl0 : 1048576 < l0.length
  · simp only [if_pos gl0]
    exact Ev.now _
  simp only [if_neg gl0]
  simp (disch := omega) only [if_neg]
  have el0 : l0.length ≤ 1048576 := by omega
  obtain ⟨R, hR⟩ : ∃ R, R = ans_PartsOfPeg (toP l0) x1 y1 := ⟨_, rfl⟩
  have hS := ev_spec_PartsOfPeg (toP l0) x1 y1
  have hM := ev_impl_PartsOfPeg (toP l0) x1 y1
  rw [← hR] at hS hM
  have hb := ans_PartsOfPeg_len (toP l0) x1 y1
  rw [← hR] at hb
  repeat (first | exact Ev.now _ | refine Ev.bind (ev_toPegS l0 el0) ?_ | refine Ev.bind hS ?_ | refine Ev.bind hM ?_ | refine Ev.bind (ev_eqPegS (toP l0) (by rw [toP_length]; omega)) ?_ | refine Ev.bind (ev_eqIntS _ hb) ?_ | refine Ev.bind (ev_markIntS _ _ hb (by omega)) ?_ | refine Ev.bind (ev_heldIntS _ _ hb (by omega)) ?_ | refine Ev.bind (ev_markPegS (toP l0) 1 (by rw [toP_length]; omega) (by omega)) ?_ | simp only [eq_self, if_true, bne_self_eq_false, Bool.false_eq_true, if_false, Option.bind_some, laws_toPeg.f] | simp (disch := omega) only [if_neg, if_pos] | (refine Ev.succ ?_; simp only [laws_FnExactPartsOfPeg.j0, laws_FnExactPartsOfPeg.j1, laws_FnExactPartsOfPeg.j2, Bool.false_eq_true, if_false]))

end Go.Proofs.Ytiacfkilmknldaa.Pure
