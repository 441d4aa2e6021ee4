/- The law FnExactIsDesk holds: for every desk the program's IsDesk answers as the reference's, and the desk is left as it was. No condition. -/
import Derived.Test.YtnlkglbpihgcmaaX0
import Derived.Test.YtnlkglbpihgcmaaX2
import Derived.Test.YtnlkglbpihgcmaaX5
import Derived.Test.YtnlkglbpihgcmaaX20
import Derived.Test.YtnlkglbpihgcmaaX21
import Derived.Test.YtnlkglbpihgcmaaBBase
import Derived.Test.YtnlkglbpihgcmaaBCore
import Derived.Test.YtnlkglbpihgcmaaBPoly
namespace Go.Proofs.Ytnlkglbpihgcmaa.Pure
open Go.RowKit Go.Proofs.Ytnlkglbpihgcmaa.XW Go.Proofs.Ytnlkglbpihgcmaa.X Go.Proofs.YtnlkglbpihgcmaaW.PrintWords Go.Proofs.YtnlkglbpihgcmaaW.PrintLast Go.Proofs.Ytnlkglbpihgcmaa.B
set_option linter.unusedVariables false
set_option linter.unusedSimpArgs false
set_option maxRecDepth 20000

theorem szPegS_eq2 (l : List S_laws_Peg) (a : Int) (hn : l.length ≤ 9223372036854775807) (ha : 0 ≤ a ∧ a ≤ 1048576) : laws_szPegS.f l a = some (if a < l.length then -1 else a - (l.length : Int)) := by
  unfold laws_szPegS.f
  rw [w64 (by omega)]
  split <;> split <;> first | rfl | omega
theorem FnExactIsDesk : laws_FnExactIsDesk.Pure := by
  intro l q hl hq
  have hl := hl.1
  have hq := hq.1
  refine Ev.rounds ?_
  unfold laws_FnExactIsDesk.f laws_szDesk.f
  rw [szPegS_eq l hl]
  simp only [Option.bind_some]
  by_cases h : 1048576 < l.length
  · simp only [if_pos h]
    exact Ev.now _
  · simp only [if_neg h]
    simp (disch := omega) only [if_neg]
    rw [szPegS_eq2 q _ hq (by omega)]
    simp only [Option.bind_some]
    by_cases h2 : 1048576 - (l.length : Int) < q.length
    · simp only [if_pos h2]
      exact Ev.now _
    · simp only [if_neg h2]
      simp (disch := omega) only [if_neg, Option.bind_some]
      have e1 : l.length ≤ 1048576 := by omega
      have e2 : q.length ≤ 1048576 := by omega
      have hd : Ev (fun k => laws_toDesk.f k l q) (toP l, toP q) := by
        unfold laws_toDesk.f
        exact Ev.bind (ev_toPegS l e1) (Ev.bind (ev_toPegS q e2) (Ev.now _))
      have hs : Ev (fun k => spec_IsDesk.f k (toP l) (toP q)) (good (toP l) && good (toP q)) := by
        unfold spec_IsDesk.f spec_coGood.f
        refine Ev.bind (a := good (toP l) && good (toP q)) ?_ (Ev.now _)
        refine Ev.bind (ev_spec_good _) ?_
        cases good (toP l)
        · exact Ev.now _
        · simp only [if_true, Bool.true_and]
          exact Ev.bind (ev_spec_good _) (Ev.now _)
      have hi : Ev (fun k => impl_IsDesk.f k (toP l) (toP q)) (good (toP l) && good (toP q)) := by
        unfold impl_IsDesk.f
        refine Ev.bind (ev_impl_IsPolygon _) ?_
        cases good (toP l)
        · exact Ev.now _
        · simp only [if_true, Bool.true_and]
          exact Ev.bind (ev_impl_IsPolygon _) (Ev.now _)
      refine Ev.bind hd ?_
      refine Ev.bind hs ?_
      refine Ev.bind hd ?_
      refine Ev.bind hi ?_
      simp only [bne_self_eq_false, Bool.false_eq_true, if_false]
      refine Ev.bind hd ?_
      unfold laws_eqDesk.f
      refine Ev.bind (a := true) ?_ (by simp only [if_true]; exact Ev.now _)
      refine Ev.bind (ev_eqPegS _ (by rw [toP_length]; omega)) ?_
      simp only [if_true]
      refine Ev.bind (ev_eqPegS _ (by rw [toP_length]; omega)) ?_
      simp only [if_true]
      exact Ev.now _

end Go.Proofs.Ytnlkglbpihgcmaa.Pure
