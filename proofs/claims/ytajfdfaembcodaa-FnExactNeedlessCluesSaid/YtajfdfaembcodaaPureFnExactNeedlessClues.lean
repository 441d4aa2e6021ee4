-- thin
/- The law FnExactNeedlessClues holds: for all arguments the program's NeedlessClues answers as the reference's, and the arguments are left as they were. No condition. -/
import Derived.Test.YtajfdfaembcodaaX0
import Derived.Test.YtajfdfaembcodaaX16
import Derived.Test.YtajfdfaembcodaaX18
import Derived.Test.YtajfdfaembcodaaX19
import Derived.Test.YtajfdfaembcodaaBBase
import Derived.Test.YtajfdfaembcodaaBClueNum
import Derived.Test.YtajfdfaembcodaaBClues
import Derived.Test.YtajfdfaembcodaaBSols
import Derived.Test.YtajfdfaembcodaaBDrops
import Derived.Test.YtajfdfaembcodaaBLawZ
import Derived.Test.YtajfdfaembcodaaBEqIntS
import Derived.Test.YtajfdfaembcodaaBMarkI
namespace Go.Proofs.Ytajfdfaembcodaa.Pure
open Go.RowKit Go.Proofs.Ytajfdfaembcodaa.XW Go.Proofs.Ytajfdfaembcodaa.X Go.Proofs.YtajfdfaembcodaaW.PrintWords Go.Proofs.YtajfdfaembcodaaW.PrintLast Go.Proofs.Ytajfdfaembcodaa.B
set_option linter.unusedVariables false
set_option linter.unusedSimpArgs false
set_option maxRecDepth 20000

def nd (s : Int) (cs : List S_impl_Clue) : Nat → Nat → List Int
 | 0, _ => []
 | d + 1, i => if (sol s (cs.eraseIdx i)).length = (sol s cs).length then (i : Int) :: nd s cs d (i + 1) else nd s cs d (i + 1)
theorem nd_length (s : Int) (cs : List S_impl_Clue) : ∀ d i, (nd s cs d i).length ≤ d := by
 intro d
 induction d with
 | zero => intro i; exact Nat.le_refl _
 | succ d ih =>
  intro i
  unfold nd
  split
  ·show (nd s cs d (i + 1)).length + 1 ≤ d + 1
   have := ih (i + 1)
   omega
  ·have := ih (i + 1)
   omega
def ans_NeedlessClues (s : Int) (cs : List S_impl_Clue) : List Int × Bool := if gd s cs = true then (nd s cs cs.length 0, true) else ([], false)
theorem ans_NeedlessClues_len (s : Int) (cs : List S_impl_Clue) : (ans_NeedlessClues s cs).1.length ≤ 1099511627776 := by
 unfold ans_NeedlessClues
 split
 ·rename_i h
  obtain ⟨_, h6, _⟩ := gd_iff h
  have := nd_length s cs cs.length 0
  show (nd s cs cs.length 0).length ≤ _
  omega
 ·show 0 ≤ _
  omega
theorem ev_spec_NeedlessClues (s : Int) (cs : List S_impl_Clue) : Ev (fun k => spec_NeedlessClues.f k s cs) (ans_NeedlessClues s cs) := by
 unfold spec_NeedlessClues.f ans_NeedlessClues
 refine askGS s cs (fun hs h6 hc => ?_) (Ev.now _)
 simp only [if_true]
 refine Ev.bind (ev_spec_sol hs (by omega) hc) ?_
 have go : ∀ (d i : Nat) (acc : List Int), i + d = cs.length → acc.length ≤ i → Ev (fun k => spec_NeedlessClues.l0 k acc ((sol s cs).length : Int) cs.length i s cs) (acc ++ nd s cs d i, true) := by
  intro d
  induction d with
  | zero =>
   intro i acc hi ha
   refine Ev.succ ?_
   simp (disch := omega) only [spec_NeedlessClues.l0, if_neg]
   refine Ev.some ?_
   rw [show nd s cs 0 i = [] from rfl, List.append_nil]
  | succ d ih =>
   intro i acc hi ha
   refine Ev.succ ?_
   simp (disch := omega) only [spec_NeedlessClues.l0, if_pos, without_eq, Option.bind_some, w64]
   refine Ev.bind (ev_spec_left hs (by omega) hc i) ?_
   unfold nd
   by_cases h : (sol s (cs.eraseIdx i)).length = (sol s cs).length
   ·rw [if_pos h]
    simp (disch := omega) only [if_pos]
    have h2 := ih (i + 1) (acc ++ [(i : Int)]) (by omega) (by rw [List.length_append]; show acc.length + 1 ≤ _; omega)
    rw [List.append_assoc] at h2
    exact h2
   ·rw [if_neg h]
    simp (disch := omega) only [if_neg]
    exact ih (i + 1) acc (by omega) (by omega)
 exact go cs.length 0 [] (by omega) (Nat.le_refl _)
theorem ev_impl_NeedlessClues (s : Int) (cs : List S_impl_Clue) : Ev (fun k => impl_NeedlessClues.f k s cs) (ans_NeedlessClues s cs) := by
 unfold impl_NeedlessClues.f ans_NeedlessClues
 refine askGI s cs (fun hs h6 hc => ?_) (Ev.now _)
 simp only [if_true]
 refine Ev.bind (ev_impl_sol hs (by omega) hc cs) ?_
 have go : ∀ (d i : Nat) (acc : List Int), i + d = cs.length → acc.length ≤ i → Ev (fun k => impl_NeedlessClues.l0 k ((sol s cs).length : Int) acc cs.length i s cs) (acc ++ nd s cs d i, true) := by
  intro d
  induction d with
  | zero =>
   intro i acc hi ha
   refine Ev.succ ?_
   simp (disch := omega) only [impl_NeedlessClues.l0, if_neg]
   refine Ev.some ?_
   rw [show nd s cs 0 i = [] from rfl, List.append_nil]
  | succ d ih =>
   intro i acc hi ha
   refine Ev.succ ?_
   simp (disch := omega) only [impl_NeedlessClues.l0, if_pos, dropped_eq, Option.bind_some, w64]
   refine Ev.bind (ev_impl_left hs (by omega) hc cs i) ?_
   unfold nd
   by_cases h : (sol s (cs.eraseIdx i)).length = (sol s cs).length
   ·rw [if_pos h]
    simp (disch := omega) only [if_pos]
    have h2 := ih (i + 1) (acc ++ [(i : Int)]) (by omega) (by rw [List.length_append]; show acc.length + 1 ≤ _; omega)
    rw [List.append_assoc] at h2
    exact h2
   ·rw [if_neg h]
    simp (disch := omega) only [if_neg]
    exact ih (i + 1) acc (by omega) (by omega)
 exact go cs.length 0 [] (by omega) (Nat.le_refl _)
theorem FnExactNeedlessClues : laws_FnExactNeedlessClues.Pure := by
 intro z0 q0 hz0 hq0
 have hq0 := hq0.1
 refine Ev.rounds ?_
 unfold laws_FnExactNeedlessClues.f
 rw [szPuzzle_eq z0 q0 hq0]
 simp only [Option.bind_some]
 by_cases gq0 : 1048576 < q0.length
 ·simp only [if_pos gq0]
  exact Ev.now _
 simp only [if_neg gq0]
 simp (disch := omega) only [if_neg]
 have eq0 : q0.length ≤ 1048576 := by omega
 obtain ⟨R, hR⟩ : ∃ R, R = ans_NeedlessClues z0 (toC q0) := ⟨_, rfl⟩
 have hS := ev_spec_NeedlessClues z0 (toC q0)
 have hM := ev_impl_NeedlessClues z0 (toC q0)
 rw [← hR] at hS hM
 have hb := ans_NeedlessClues_len z0 (toC q0)
 rw [← hR] at hb
 repeat (first | exact Ev.now _ | refine Ev.bind (ev_toPuzzle z0 q0 eq0) ?_ | refine Ev.bind hS ?_ | refine Ev.bind hM ?_ | refine Ev.bind (ev_eqPuzzle z0 (toC q0) (by rw [toC_length]; omega)) ?_ | refine Ev.bind (ev_eqIntS _ hb) ?_ | refine Ev.bind (ev_markIntS _ _ hb (by omega)) ?_ | refine Ev.bind (ev_heldIntS _ _ hb (by omega)) ?_ | refine Ev.bind (ev_markPuzzle z0 (toC q0) 1 (by rw [toC_length]; omega) (by omega)) ?_ | simp only [eq_self, if_true, bne_self_eq_false, Bool.false_eq_true, if_false, Option.bind_some] | simp (disch := omega) only [if_neg, if_pos] | (refine Ev.succ ?_; simp only [laws_FnExactNeedlessClues.j0, laws_FnExactNeedlessClues.j1, laws_FnExactNeedlessClues.j2, Bool.false_eq_true, if_false]))

end Go.Proofs.Ytajfdfaembcodaa.Pure
