-- thin
/- The law FnExactSplitThree holds: for all arguments the program's SplitThree answers as the reference's, and the arguments are left as they were. No condition. -/
import Derived.Test.YtklhakfmegbobaaX0
import Derived.Test.YtklhakfmegbobaaX2
import Derived.Test.YtklhakfmegbobaaX8
import Derived.Test.YtklhakfmegbobaaX15
import Derived.Test.YtklhakfmegbobaaX18
import Derived.Test.YtklhakfmegbobaaBBase
import Derived.Test.YtklhakfmegbobaaBCore
import Derived.Test.YtklhakfmegbobaaBPoly
import Derived.Test.YtklhakfmegbobaaBAsk
import Derived.Test.YtklhakfmegbobaaBThree
import Derived.Test.YtklhakfmegbobaaBWhere
import Derived.Test.YtklhakfmegbobaaBMarkP
import Derived.Test.YtklhakfmegbobaaBMarkSP
namespace Go.Proofs.Ytklhakfmegbobaa.Pure
open Go.RowKit Go.Proofs.Ytklhakfmegbobaa.XW Go.Proofs.Ytklhakfmegbobaa.X Go.Proofs.YtklhakfmegbobaaW.PrintWords Go.Proofs.YtklhakfmegbobaaW.PrintLast Go.Proofs.Ytklhakfmegbobaa.B
set_option linter.unusedVariables false
set_option linter.unusedSimpArgs false
set_option maxRecDepth 20000

noncomputable def splt (l : List S_impl_Peg) (p : S_impl_Peg) : List (List S_impl_Peg) := [[p, pt l 1, pt l 2], [pt l 0, p, pt l 2], [pt l 0, pt l 1, p]]
noncomputable def ans_SplitThree (l : List S_impl_Peg) (x y : Int) : List (List S_impl_Peg) × Bool := if three l = true then (if decide (Sm 40 ⟨x, y⟩) = true then (if wh l ⟨x, y⟩ = 1 then (splt l ⟨x, y⟩, true) else ([], false)) else ([], false)) else ([], false)
theorem splt_short (l : List S_impl_Peg) (p : S_impl_Peg) : Short (splt l p) := Short.of (show 3 ≤ 1000000 by omega) (fun r hr => by
 unfold splt at hr
 simp only [List.mem_cons, List.not_mem_nil, or_false] at hr
 rcases hr with rfl | rfl | rfl
 ·exact (show 3 ≤ 1000 by omega)
 ·exact (show 3 ≤ 1000 by omega)
 ·exact (show 3 ≤ 1000 by omega))
theorem nil_short : Short [] := Short.of (show 0 ≤ 1000000 by omega) (fun r hr => absurd hr List.not_mem_nil)
theorem ans_SplitThree_len (l : List S_impl_Peg) (x y : Int) : Short (ans_SplitThree l x y).1 := by
 unfold ans_SplitThree
 split
 ·split
  ·split
   ·exact splt_short _ _
   ·exact nil_short
  ·exact nil_short
 ·exact nil_short
theorem ev_spec_SplitThree (l : List S_impl_Peg) (x y : Int) : Ev (fun k => spec_SplitThree.f k l x y) (ans_SplitThree l x y) := by
 unfold spec_SplitThree.f ans_SplitThree
 refine ask3S l (fun h3 ok => ?_) (Ev.now _)
 have e := is_peg_eq ⟨x, y⟩
 simp only at e
 simp only [if_true, e, Option.bind_some]
 refine Ev.iteB (fun hp => ?_) (fun _ => Ev.now _)
 have hs := (of_decide_eq_true hp).mono (C := 1000000) (by omega)
 refine Ev.bind (ok.swhere hs) ?_
 by_cases c : wh l ⟨x, y⟩ = 1
 ·simp (disch := omega) only [if_pos c, if_pos, rd0, rd1, rd2]
  exact Ev.now _
 ·simp only [if_neg c]
  exact Ev.now _
theorem ev_impl_SplitThree (l : List S_impl_Peg) (x y : Int) : Ev (fun k => impl_SplitThree.f k l x y) (ans_SplitThree l x y) := by
 unfold impl_SplitThree.f ans_SplitThree
 refine ask3I l (fun h3 ok => ?_) (Ev.now _)
 have e := is_peg_impl ⟨x, y⟩
 simp only at e
 simp only [if_true, e, Option.bind_some]
 refine Ev.iteB (fun hp => ?_) (fun _ => Ev.now _)
 have hs := (of_decide_eq_true hp).mono (C := 1000000) (by omega)
 refine Ev.bind (ok.where_ hs) ?_
 have hb := wh_bd l ⟨x, y⟩
 by_cases c : wh l ⟨x, y⟩ = 1
 ·rw [if_pos c]
  simp (disch := omega) only [if_neg, if_pos, rd0, rd1, rd2]
  exact Ev.now _
 ·rw [if_neg c]
  by_cases c2 : wh l ⟨x, y⟩ ≤ 0
  ·simp only [if_pos c2]
   exact Ev.now _
  ·exact absurd c (by omega)
theorem FnExactSplitThree : laws_FnExactSplitThree.Pure := by
 intro l0 x1 y1 hl0 hx1 hy1
 have hl0 := hl0.1
 refine Ev.rounds ?_
 unfold laws_FnExactSplitThree.f
 rw [szPegS_eq l0 hl0]
 simp only [Option.bind_some]
 by_cases gl0 : 1048576 < l0.length
 ·simp only [if_pos gl0]
  exact Ev.now _
 simp only [if_neg gl0]
 simp (disch := omega) only [if_neg]
 have el0 : l0.length ≤ 1048576 := by omega
 obtain ⟨R, hR⟩ : ∃ R, R = ans_SplitThree (toP l0) x1 y1 := ⟨_, rfl⟩
 have hS := ev_spec_SplitThree (toP l0) x1 y1
 have hM := ev_impl_SplitThree (toP l0) x1 y1
 rw [← hR] at hS hM
 have hb := ans_SplitThree_len (toP l0) x1 y1
 rw [← hR] at hb
 have hc := cum_bd hb R.1.length
 repeat (first | exact Ev.now _ | refine Ev.bind (ev_toPegS l0 el0) ?_ | refine Ev.bind hS ?_ | refine Ev.bind hM ?_ | refine Ev.bind (ev_eqPegS (toP l0) (by rw [toP_length]; omega)) ?_ | refine Ev.bind (ev_eqPegSS hb) ?_ | refine Ev.bind (ev_markPegSS hb) ?_ | refine Ev.bind (ev_heldPegSS hb) ?_ | refine Ev.bind (ev_markPegS (toP l0) 1 (by rw [toP_length]; omega) (by omega)) ?_ | simp only [eq_self, if_true, bne_self_eq_false, Bool.false_eq_true, if_false, Option.bind_some, laws_toPeg.f] | simp (disch := omega) only [if_neg, if_pos] | (refine Ev.succ ?_; simp only [laws_FnExactSplitThree.j0, laws_FnExactSplitThree.j1, laws_FnExactSplitThree.j2, Bool.false_eq_true, if_false]))

end Go.Proofs.Ytklhakfmegbobaa.Pure
