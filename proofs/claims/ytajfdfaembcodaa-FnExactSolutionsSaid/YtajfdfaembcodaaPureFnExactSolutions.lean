-- thin
/- The law FnExactSolutions holds: for all arguments the program's Solutions answers as the reference's, and the arguments are left as they were. No condition. -/
import Derived.Test.YtajfdfaembcodaaX0
import Derived.Test.YtajfdfaembcodaaX12
import Derived.Test.YtajfdfaembcodaaX14
import Derived.Test.YtajfdfaembcodaaBBase
import Derived.Test.YtajfdfaembcodaaBClueNum
import Derived.Test.YtajfdfaembcodaaBClues
import Derived.Test.YtajfdfaembcodaaBSols
import Derived.Test.YtajfdfaembcodaaBLawZ
import Derived.Test.YtajfdfaembcodaaBEqPZ
namespace Go.Proofs.Ytajfdfaembcodaa.Pure
open Go.RowKit Go.Proofs.Ytajfdfaembcodaa.XW Go.Proofs.Ytajfdfaembcodaa.X Go.Proofs.YtajfdfaembcodaaW.PrintWords Go.Proofs.YtajfdfaembcodaaW.PrintLast Go.Proofs.Ytajfdfaembcodaa.B
set_option linter.unusedVariables false
set_option linter.unusedSimpArgs false
set_option maxRecDepth 20000

def ans_Solutions (s : Int) (cs : List S_impl_Clue) : List S_impl_Peg × Bool := if gd s cs = true then (sol s cs, true) else ([], false)
theorem ans_Solutions_len (s : Int) (cs : List S_impl_Clue) : (ans_Solutions s cs).1.length ≤ 1099511627776 := by
 unfold ans_Solutions
 split
 ·rename_i h
  obtain ⟨hs, _, _⟩ := gd_iff h
  have := sol_length hs cs
  show (sol s cs).length ≤ _
  omega
 ·show 0 ≤ _
  omega
theorem ev_spec_Solutions (s : Int) (cs : List S_impl_Clue) : Ev (fun k => spec_Solutions.f k s cs) (ans_Solutions s cs) := by
 unfold spec_Solutions.f ans_Solutions
 refine askGS s cs (fun hs h6 hc => ?_) (Ev.now _)
 exact Ev.bind (ev_spec_sol hs (by omega) hc) (Ev.now _)
theorem ev_impl_Solutions (s : Int) (cs : List S_impl_Clue) : Ev (fun k => impl_Solutions.f k s cs) (ans_Solutions s cs) := by
 unfold impl_Solutions.f ans_Solutions
 refine askGI s cs (fun hs h6 hc => ?_) (Ev.now _)
 simp only [if_true]
 refine Ev.bind (ev_impl_sol hs (by omega) hc cs) ?_
 have := sol_length hs cs
 unfold slices_Clone_impl_Peg.f
 simp only [Option.bind_some]
 simp (disch := omega) only [if_pos, List.length_nil, List.nil_append, Option.bind_some]
 exact Ev.now _
theorem FnExactSolutions : laws_FnExactSolutions.Pure := by
 intro z0 q0 hz0 hq0
 have hq0 := hq0.1
 refine Ev.rounds ?_
 unfold laws_FnExactSolutions.f
 rw [szPuzzle_eq z0 q0 hq0]
 simp only [Option.bind_some]
 by_cases gq0 : 1048576 < q0.length
 ·simp only [if_pos gq0]
  exact Ev.now _
 simp only [if_neg gq0]
 simp (disch := omega) only [if_neg]
 have eq0 : q0.length ≤ 1048576 := by omega
 obtain ⟨R, hR⟩ : ∃ R, R = ans_Solutions z0 (toC q0) := ⟨_, rfl⟩
 have hS := ev_spec_Solutions z0 (toC q0)
 have hM := ev_impl_Solutions z0 (toC q0)
 rw [← hR] at hS hM
 have hb := ans_Solutions_len z0 (toC q0)
 rw [← hR] at hb
 repeat (first | exact Ev.now _ | refine Ev.bind (ev_toPuzzle z0 q0 eq0) ?_ | refine Ev.bind hS ?_ | refine Ev.bind hM ?_ | refine Ev.bind (ev_eqPuzzle z0 (toC q0) (by rw [toC_length]; omega)) ?_ | refine Ev.bind (ev_eqPegS _ hb) ?_ | refine Ev.bind (ev_markPegS _ _ hb (by omega)) ?_ | refine Ev.bind (ev_heldPegS _ _ hb (by omega)) ?_ | refine Ev.bind (ev_markPuzzle z0 (toC q0) 1 (by rw [toC_length]; omega) (by omega)) ?_ | simp only [eq_self, if_true, bne_self_eq_false, Bool.false_eq_true, if_false, Option.bind_some] | simp (disch := omega) only [if_neg, if_pos] | (refine Ev.succ ?_; simp only [laws_FnExactSolutions.j0, laws_FnExactSolutions.j1, laws_FnExactSolutions.j2, Bool.false_eq_true, if_false]))

end Go.Proofs.Ytajfdfaembcodaa.Pure
