/- The law FnExactMiddleThree holds: for all arguments the program's MiddleThree answers as the reference's, and the arguments are left as they were. No condition. -/
import Derived.Test.YtiacfkilmknldaaX0
import Derived.Test.YtiacfkilmknldaaX24
import Derived.Test.YtiacfkilmknldaaX25
import Derived.Test.YtiacfkilmknldaaX26
import Derived.Test.YtiacfkilmknldaaBBase
import Derived.Test.YtiacfkilmknldaaBCore
import Derived.Test.YtiacfkilmknldaaBPoly
import Derived.Test.YtiacfkilmknldaaBArea
import Derived.Test.YtiacfkilmknldaaBMarkP
namespace Go.Proofs.Ytiacfkilmknldaa.Pure
open Go.RowKit Go.Proofs.Ytiacfkilmknldaa.XW Go.Proofs.Ytiacfkilmknldaa.X Go.Proofs.YtiacfkilmknldaaW.PrintWords Go.Proofs.YtiacfkilmknldaaW.PrintLast Go.Proofs.Ytiacfkilmknldaa.B
set_option linter.unusedVariables false
set_option linter.unusedSimpArgs false
set_option maxRecDepth 20000

def midr (l : List S_impl_Peg) : Nat → Nat → List S_impl_Peg → List S_impl_Peg × Bool
  | 0, _, acc => (acc, true)
  | d + 1, i, acc =>
    if Int.tmod ((pt l (nx l.length i)).f0 + (pt l (nx l.length (nx l.length i))).f0) 2 = 0 then
      (if Int.tmod ((pt l (nx l.length i)).f1 + (pt l (nx l.length (nx l.length i))).f1) 2 = 0 then
        midr l d (i + 1) (acc ++ [⟨wrap64 (Int.tdiv ((pt l (nx l.length i)).f0 + (pt l (nx l.length (nx l.length i))).f0) 2), wrap64 (Int.tdiv ((pt l (nx l.length i)).f1 + (pt l (nx l.length (nx l.length i))).f1) 2)⟩])
      else ([], false)) else ([], false)
theorem midr_len (l : List S_impl_Peg) : ∀ d i acc, (midr l d i acc).1.length ≤ acc.length + d := by
  intro d
  induction d with
  | zero =>
    intro i acc
    show acc.length ≤ acc.length + 0
    omega
  | succ d ih =>
    intro i acc
    unfold midr
    split
    · split
      · refine Nat.le_trans (ih _ _) ?_
        simp
        omega
      · show 0 ≤ _
        omega
    · show 0 ≤ _
      omega
noncomputable def ans_MiddleThree (l : List S_impl_Peg) : List S_impl_Peg × Bool := if three l = true then midr l 3 0 [] else ([], false)
theorem ans_MiddleThree_len (l : List S_impl_Peg) : (ans_MiddleThree l).1.length ≤ 1099511627776 := by
  unfold ans_MiddleThree
  split
  · have := midr_len l 3 0 []
    simp at this
    omega
  · show 0 ≤ _
    omega
theorem ev_spec_MiddleThree (l : List S_impl_Peg) : Ev (fun k => spec_MiddleThree.f k l) (ans_MiddleThree l) := by
  unfold spec_MiddleThree.f ans_MiddleThree
  refine ask3S l (fun h3 ok => ?_) (Ev.now _)
  simp only [if_true]
  have go : ∀ (d i : Nat) (acc : List S_impl_Peg), i + d = 3 → acc.length = i → Ev (fun k => spec_MiddleThree.l0 k l acc l.length i) (midr l d i acc) := by
    intro d
    induction d with
    | zero =>
      intro i acc hi ha
      refine Ev.succ ?_
      simp (disch := omega) only [spec_MiddleThree.l0, if_neg]
      exact Ev.now _
    | succ d ih =>
      intro i acc hi ha
      refine Ev.succ ?_
      have n1 := nx_lt (n := l.length) (i := i) (by omega)
      have n2 := nx_lt n1
      have p1 := ok.pegs _ n1
      have p2 := ok.pegs _ n2
      unfold Sm at p1 p2
      have t1 : Int.tmod ((i : Int) + 1) 3 = (nx l.length i : Int) := by
        have := tmod1 (n := l.length) (i := i) (by omega)
        rw [h3] at this
        rw [h3]
        exact this
      have t2 : Int.tmod ((i : Int) + 2) 3 = (nx l.length (nx l.length i) : Int) := by
        have := tmod2 (n := l.length) (i := i) (by omega) (by omega)
        rw [h3] at this
        rw [h3]
        exact this
      unfold midr
      simp (disch := omega) only [spec_MiddleThree.l0, if_pos, w64, t1, t2]
      simp (disch := omega) only [if_pos, rd_pt, w64]
      split
      · split
        · exact ih (i + 1) _ (by omega) (by simp [ha])
        · exact Ev.now _
      · exact Ev.now _
  exact go 3 0 [] (by omega) rfl
theorem ev_impl_MiddleThree (l : List S_impl_Peg) : Ev (fun k => impl_MiddleThree.f k l) (ans_MiddleThree l) := by
  unfold impl_MiddleThree.f ans_MiddleThree
  refine ask3I l (fun h3 ok => ?_) (Ev.now _)
  simp only [if_true]
  have go : ∀ (d i : Nat) (acc : List S_impl_Peg), i + d = 3 → acc.length = i → Ev (fun k => impl_MiddleThree.l0 k l acc l.length i) (midr l d i acc) := by
    intro d
    induction d with
    | zero =>
      intro i acc hi ha
      refine Ev.succ ?_
      simp (disch := omega) only [impl_MiddleThree.l0, if_neg]
      exact Ev.now _
    | succ d ih =>
      intro i acc hi ha
      refine Ev.succ ?_
      have hil : i < l.length := by omega
      have n1 := nx_lt hil
      have n2 := nx_lt n1
      have p1 := ok.pegs _ n1
      have p2 := ok.pegs _ n2
      unfold Sm at p1 p2
      unfold midr
      simp (disch := omega) only [impl_MiddleThree.l0, if_pos, w64, at_next l i hil (by omega), at_next2 l i hil (by omega) (by omega), Option.bind_some, impl_Peg_plus.f]
      split
      · split
        · exact ih (i + 1) _ (by omega) (by simp [ha])
        · exact Ev.now _
      · exact Ev.now _
  exact go 3 0 [] (by omega) rfl
theorem FnExactMiddleThree : laws_FnExactMiddleThree.Pure := by
  intro l0 hl0
  have hl0 := hl0.1
  refine Ev.rounds ?_
  unfold laws_FnExactMiddleThree.f
  rw [szPegS_eq l0 hl0]
  simp only [Option.bind_some]
  by_cases gl0 : 1048576 < l0.length
  · simp only [if_pos gl0]
    exact Ev.now _
  simp only [if_neg gl0]
  simp (disch := omega) only [if_neg]
  have el0 : l0.length ≤ 1048576 := by omega
  obtain ⟨R, hR⟩ : ∃ R, R = ans_MiddleThree (toP l0) := ⟨_, rfl⟩
  have hS := ev_spec_MiddleThree (toP l0)
  have hM := ev_impl_MiddleThree (toP l0)
  rw [← hR] at hS hM
  have hb := ans_MiddleThree_len (toP l0)
  rw [← hR] at hb
  repeat (first | exact Ev.now _ | refine Ev.bind (ev_toPegS l0 el0) ?_ | refine Ev.bind hS ?_ | refine Ev.bind hM ?_ | refine Ev.bind (ev_eqPegS (toP l0) (by rw [toP_length]; omega)) ?_ | refine Ev.bind (ev_eqPegS _ hb) ?_ | refine Ev.bind (ev_markPegS _ _ hb (by omega)) ?_ | refine Ev.bind (ev_heldPegS _ _ hb (by omega)) ?_ | refine Ev.bind (ev_markPegS (toP l0) 1 (by rw [toP_length]; omega) (by omega)) ?_ | simp only [eq_self, if_true, bne_self_eq_false, Bool.false_eq_true, if_false, Option.bind_some] | simp (disch := omega) only [if_neg, if_pos] | (refine Ev.succ ?_; simp only [laws_FnExactMiddleThree.j0, laws_FnExactMiddleThree.j1, laws_FnExactMiddleThree.j2, Bool.false_eq_true, if_false]))

end Go.Proofs.Ytiacfkilmknldaa.Pure
