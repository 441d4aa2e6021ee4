-- thin
/- The order of pegs, and the turn of three. -/
import Derived.Test.YtoeclfihlhmnpaaX0
import Derived.Test.YtoeclfihlhmnpaaX4
import Derived.Test.YtoeclfihlhmnpaaX11
import Derived.Test.YtoeclfihlhmnpaaX12
import Derived.Test.YtoeclfihlhmnpaaX17
import Derived.Test.YtoeclfihlhmnpaaBBase
import Derived.Test.YtoeclfihlhmnpaaBClueNum
namespace Go.Proofs.Ytoeclfihlhmnpaa.B
open Go.RowKit Go.Proofs.Ytoeclfihlhmnpaa.XW Go.Proofs.Ytoeclfihlhmnpaa.X Go.Proofs.YtoeclfihlhmnpaaW.PrintWords Go.Proofs.YtoeclfihlhmnpaaW.PrintLast Go.Proofs.Ytoeclfihlhmnpaa.B
set_option linter.unusedVariables false
set_option linter.unusedSimpArgs false
set_option maxRecDepth 20000

def lss (p q : S_impl_Peg) : Bool := if p.f0 < q.f0 then true else if p.f0 = q.f0 then decide (p.f1 < q.f1) else false
def cmpI (a b : Int) : Int := if a < b then -1 else if a > b then 1 else 0
def cmpP (p q : S_impl_Peg) : Int := if cmpI p.f0 q.f0 = 0 then cmpI p.f1 q.f1 else cmpI p.f0 q.f0
theorem cmpP_lss (p q : S_impl_Peg) : cmpP p q < 0 ↔ lss p q = true := by
 unfold cmpP cmpI lss
 repeat' split
 all_goals simp_all
 all_goals omega
theorem cmp_compare_eq (a b : Int) : cmp_Compare_int.f a b = some (cmpI a b) := by
 unfold cmp_Compare_int.f cmp_isNaN_int.f cmpI
 simp only [bne_self_eq_false, Option.bind_some, Bool.false_eq_true, if_false]
 repeat' split
 all_goals first | rfl | omega
theorem ev_or2 (a b : Int) : Ev (fun k => cmp_Or_int.f k [a, b]) (if a = 0 then b else a) := by
 unfold cmp_Or_int.f
 refine Ev.succ ?_
 simp only [cmp_Or_int.l0, List.length_cons, List.length_nil]
 simp (disch := omega) only [if_pos, w64]
 have e0 : rd [a, b] 0 = a := rfl
 have e1 : rd [a, b] (0 + 1) = b := rfl
 rw [e0]
 by_cases h : a = 0
 ·simp only [if_pos h]
  refine Ev.succ ?_
  simp only [cmp_Or_int.l0, List.length_cons, List.length_nil]
  simp (disch := omega) only [if_pos, w64]
  rw [e1]
  by_cases hb : b = 0
  ·simp only [if_pos hb]
   refine Ev.succ ?_
   simp only [cmp_Or_int.l0, List.length_cons, List.length_nil]
   simp (disch := omega) only [if_neg]
   exact Ev.some hb.symm
  ·simp only [if_neg hb]
   exact Ev.now _
 ·simp only [if_neg h]
  exact Ev.now _
theorem ev_compare (p q : S_impl_Peg) : Ev (fun k => impl_comparePegs.f k p.f0 p.f1 q.f0 q.f1) (cmpP p q) := by
 unfold impl_comparePegs.f
 simp only [cmp_compare_eq, Option.bind_some]
 exact Ev.bind (ev_or2 _ _) (Ev.now _)
theorem less_eq (p q : S_impl_Peg) : spec_pgLess.f p.f0 p.f1 q.f0 q.f1 = some (lss p q) := by
 unfold spec_pgLess.f lss
 repeat' split
 all_goals first | rfl | omega
theorem lss_iff {p q : S_impl_Peg} : lss p q = true ↔ (p.f0 < q.f0 ∨ (p.f0 = q.f0 ∧ p.f1 < q.f1)) := by
 unfold lss
 repeat' split
 all_goals first | omega | (simp; omega)
theorem impl_turn_eq {a b c : S_impl_Peg} (ha : Sm 1000000 a) (hb : Sm 1000000 b) (hc : Sm 1000000 c) : impl_turn.f a.f0 a.f1 b.f0 b.f1 c.f0 c.f1 = some (tn a b c) := by
 rw [← spec_turn_eq ha hb hc]
 rfl

end Go.Proofs.Ytoeclfihlhmnpaa.B
