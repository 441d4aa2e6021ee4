-- thin
/- Triangles: both sides ask first whether a list is one. -/
import Derived.Test.YtklhakfmegbobaaX0
import Derived.Test.YtklhakfmegbobaaX6
import Derived.Test.YtklhakfmegbobaaX13
import Derived.Test.YtklhakfmegbobaaBBase
import Derived.Test.YtklhakfmegbobaaBCore
import Derived.Test.YtklhakfmegbobaaBPoly
import Derived.Test.YtklhakfmegbobaaBAsk
namespace Go.Proofs.Ytklhakfmegbobaa.B
open Go.RowKit Go.Proofs.Ytklhakfmegbobaa.XW Go.Proofs.Ytklhakfmegbobaa.X Go.Proofs.YtklhakfmegbobaaW.PrintWords Go.Proofs.YtklhakfmegbobaaW.PrintLast Go.Proofs.Ytklhakfmegbobaa.B
set_option linter.unusedVariables false
set_option linter.unusedSimpArgs false
set_option maxRecDepth 20000

/-! ### Triangles -/
open Classical in
noncomputable def three (l : List S_impl_Peg) : Bool := decide (l.length = 3) && good l
theorem three_iff {l : List S_impl_Peg} : three l = true ↔ l.length = 3 ∧ Poly l := by
 unfold three
 rw [Bool.and_eq_true, decide_eq_true_eq, good_iff]
theorem ev_spec_three (l : List S_impl_Peg) : Ev (fun k => spec_trThree.f k l) (three l) := by
 unfold spec_trThree.f three
 by_cases h : l.length = 3
 ·simp (disch := omega) only [if_pos, h, decide_true, Bool.true_and]
  exact Ev.bind (ev_spec_good l) (Ev.now _)
 ·simp (disch := omega) only [if_neg, h, decide_false, Bool.false_and]
  exact Ev.now _
theorem ev_impl_three (l : List S_impl_Peg) : Ev (fun k => impl_isThree.f k l) (three l) := by
 unfold impl_isThree.f three
 by_cases h : l.length = 3
 ·simp (disch := omega) only [if_pos, h, decide_true, Bool.true_and]
  exact Ev.bind (ev_impl_IsPolygon l) (Ev.now _)
 ·simp (disch := omega) only [if_neg, h, decide_false, Bool.false_and]
  exact Ev.now _
theorem three_sm {l : List S_impl_Peg} (h : three l = true) : l.length = 3 ∧ Sm 40 (pt l 0) ∧ Sm 40 (pt l 1) ∧ Sm 40 (pt l 2) := by
 obtain ⟨h3, ok⟩ := three_iff.1 h
 exact ⟨h3, ok.pegs 0 (by omega), ok.pegs 1 (by omega), ok.pegs 2 (by omega)⟩
section
variable {α : Type} {f : Nat → Bool → Option α} {r s : α} (l : List S_impl_Peg)
theorem ask3S (hy : l.length = 3 → Poly l → Ev (fun k => f k true) r) (hn : Ev (fun k => f k false) s) : Ev (fun k => (spec_trThree.f k l).bind (f k)) (if three l = true then r else s) :=
 Ev.asked (ev_spec_three l) (fun h => by rw [if_pos h]; exact hy (three_iff.1 h).1 (three_iff.1 h).2) (fun h => by rw [if_neg (by rw [h]; simp)]; exact hn)
theorem ask3I (hy : l.length = 3 → Poly l → Ev (fun k => f k true) r) (hn : Ev (fun k => f k false) s) : Ev (fun k => (impl_isThree.f k l).bind (f k)) (if three l = true then r else s) :=
 Ev.asked (ev_impl_three l) (fun h => by rw [if_pos h]; exact hy (three_iff.1 h).1 (three_iff.1 h).2) (fun h => by rw [if_neg (by rw [h]; simp)]; exact hn)
end

end Go.Proofs.Ytklhakfmegbobaa.B
