-- thin
/- The law FnExactBackPolygon holds: for all arguments the program's BackPolygon answers as the reference's, and the arguments are left as they were. No condition. -/
import Derived.Test.YtklhakfmegbobaaX0
import Derived.Test.YtklhakfmegbobaaX15
import Derived.Test.YtklhakfmegbobaaX16
import Derived.Test.YtklhakfmegbobaaBBase
import Derived.Test.YtklhakfmegbobaaBCore
import Derived.Test.YtklhakfmegbobaaBPoly
import Derived.Test.YtklhakfmegbobaaBAsk
import Derived.Test.YtklhakfmegbobaaBTold
import Derived.Test.YtklhakfmegbobaaBMarkP
namespace Go.Proofs.Ytklhakfmegbobaa.Pure
open Go.RowKit Go.Proofs.Ytklhakfmegbobaa.XW Go.Proofs.Ytklhakfmegbobaa.X Go.Proofs.YtklhakfmegbobaaW.PrintWords Go.Proofs.YtklhakfmegbobaaW.PrintLast Go.Proofs.Ytklhakfmegbobaa.B
set_option linter.unusedVariables false
set_option linter.unusedSimpArgs false
set_option maxRecDepth 20000

noncomputable def ans_BackPolygon (l : List S_impl_Peg) : List S_impl_Peg × Bool := if good l = true then (tld l 0 (-1), true) else ([], false)
theorem ans_BackPolygon_len (l : List S_impl_Peg) : (ans_BackPolygon l).1.length ≤ 1099511627776 := by
 unfold ans_BackPolygon
 split
 ·rename_i h
  have := (good_iff.1 h).hi
  show (tld l 0 (-1)).length ≤ _
  rw [tld_length]
  omega
 ·show 0 ≤ _
  omega
theorem ev_spec_BackPolygon (l : List S_impl_Peg) : Ev (fun k => spec_BackPolygon.f k l) (ans_BackPolygon l) := by
 unfold spec_BackPolygon.f ans_BackPolygon
 refine askS l (fun ok => ?_) (Ev.now _)
 have h10 := ok.hi
 have h3 := ok.lo
 exact Ev.bind (ev_spec_back l (by omega) (by omega)) (Ev.now _)
theorem ev_impl_BackPolygon (l : List S_impl_Peg) : Ev (fun k => impl_BackPolygon.f k l) (ans_BackPolygon l) := by
 unfold impl_BackPolygon.f ans_BackPolygon
 refine askI l (fun ok => ?_) (Ev.now _)
 have h10 := ok.hi
 exact Ev.bind (ev_told l (by omega) (by omega) (by omega)) (Ev.now _)
theorem FnExactBackPolygon : laws_FnExactBackPolygon.Pure := by
 intro l0 hl0
 have hl0 := hl0.1
 refine Ev.rounds ?_
 unfold laws_FnExactBackPolygon.f
 rw [szPegS_eq l0 hl0]
 simp only [Option.bind_some]
 by_cases gl0 : 1048576 < l0.length
 ·simp only [if_pos gl0]
  exact Ev.now _
 simp only [if_neg gl0]
 simp (disch := omega) only [if_neg]
 have el0 : l0.length ≤ 1048576 := by omega
 obtain ⟨R, hR⟩ : ∃ R, R = ans_BackPolygon (toP l0) := ⟨_, rfl⟩
 have hS := ev_spec_BackPolygon (toP l0)
 have hM := ev_impl_BackPolygon (toP l0)
 rw [← hR] at hS hM
 have hb := ans_BackPolygon_len (toP l0)
 rw [← hR] at hb
 repeat (first | exact Ev.now _ | refine Ev.bind (ev_toPegS l0 el0) ?_ | refine Ev.bind hS ?_ | refine Ev.bind hM ?_ | refine Ev.bind (ev_eqPegS (toP l0) (by rw [toP_length]; omega)) ?_ | refine Ev.bind (ev_eqPegS _ hb) ?_ | refine Ev.bind (ev_markPegS _ _ hb (by omega)) ?_ | refine Ev.bind (ev_heldPegS _ _ hb (by omega)) ?_ | refine Ev.bind (ev_markPegS (toP l0) 1 (by rw [toP_length]; omega) (by omega)) ?_ | simp only [eq_self, if_true, bne_self_eq_false, Bool.false_eq_true, if_false, Option.bind_some] | simp (disch := omega) only [if_neg, if_pos] | (refine Ev.succ ?_; simp only [laws_FnExactBackPolygon.j0, laws_FnExactBackPolygon.j1, laws_FnExactBackPolygon.j2, Bool.false_eq_true, if_false]))

end Go.Proofs.Ytklhakfmegbobaa.Pure
