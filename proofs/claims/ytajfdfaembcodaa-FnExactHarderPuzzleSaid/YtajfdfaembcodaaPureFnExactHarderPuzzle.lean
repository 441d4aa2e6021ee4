-- thin
/- The law FnExactHarderPuzzle holds: for all arguments the program's HarderPuzzle answers as the reference's, and the arguments are left as they were. No condition. -/
import Derived.Test.YtajfdfaembcodaaX0
import Derived.Test.YtajfdfaembcodaaX20
import Derived.Test.YtajfdfaembcodaaX22
import Derived.Test.YtajfdfaembcodaaBBase
import Derived.Test.YtajfdfaembcodaaBClueNum
import Derived.Test.YtajfdfaembcodaaBClues
import Derived.Test.YtajfdfaembcodaaBSols
import Derived.Test.YtajfdfaembcodaaBDrops
import Derived.Test.YtajfdfaembcodaaBLawZ
import Derived.Test.YtajfdfaembcodaaBHeldZ
namespace Go.Proofs.Ytajfdfaembcodaa.Pure
open Go.RowKit Go.Proofs.Ytajfdfaembcodaa.XW Go.Proofs.Ytajfdfaembcodaa.X Go.Proofs.YtajfdfaembcodaaW.PrintWords Go.Proofs.YtajfdfaembcodaaW.PrintLast Go.Proofs.Ytajfdfaembcodaa.B
set_option linter.unusedVariables false
set_option linter.unusedSimpArgs false
set_option maxRecDepth 20000

def sv (s : Int) (cs : List S_impl_Clue) : Bool := ((sol s cs).length : Int) == 1
def hz (s : Int) : Nat → List S_impl_Clue → Nat → List S_impl_Clue
 | 0, cs, _ => cs
 | d + 1, cs, i => if sv s (cs.eraseIdx i) = true then hz s d (cs.eraseIdx i) i else hz s d cs (i + 1)
theorem hz_length (s : Int) : ∀ d cs i, (hz s d cs i).length ≤ cs.length := by
 intro d
 induction d with
 | zero => intro cs i; exact Nat.le_refl _
 | succ d ih =>
  intro cs i
  unfold hz
  split
  ·exact Nat.le_trans (ih _ _) (List.length_eraseIdx_le _ _)
  ·exact ih _ _
def ans_HarderPuzzle (s : Int) (cs : List S_impl_Clue) : Int × List S_impl_Clue × Bool := if gd s cs = true then (if sv s cs = true then (s, hz s cs.length cs 0, true) else (0, [], false)) else (0, [], false)
theorem ans_HarderPuzzle_len (s : Int) (cs : List S_impl_Clue) : (ans_HarderPuzzle s cs).2.1.length ≤ 1099511627776 := by
 unfold ans_HarderPuzzle
 split
 ·rename_i h
  obtain ⟨_, h6, _⟩ := gd_iff h
  split
  ·have := hz_length s cs.length cs 0
   show (hz s cs.length cs 0).length ≤ _
   omega
  ·show 0 ≤ _
   omega
 ·show 0 ≤ _
  omega
section
variable {s : Int} (hs : 1 ≤ s ∧ s ≤ 12)
include hs
theorem ev_impl_solved {cs : List S_impl_Clue} (hn : cs.length ≤ 1000) (hc : ∀ c, c ∈ cs → CP s c) (cs0 : List S_impl_Clue) : Ev (fun k => impl_Puzzle_isSolved.f k s cs0 cs) (sv s cs) := by
 unfold impl_Puzzle_isSolved.f
 exact Ev.bind (ev_impl_sol hs hn hc cs0) (Ev.now _)
theorem ev_spec_solved {cs : List S_impl_Clue} (hn : cs.length ≤ 1000) (hc : ∀ c, c ∈ cs → CP s c) : Ev (fun k => spec_pzSolved.f k s cs) (sv s cs) := by
 unfold spec_pzSolved.f
 exact Ev.bind (ev_spec_sol hs hn hc) (Ev.now _)
theorem ev_spec_hz (cs0 : List S_impl_Clue) : ∀ (d i : Nat) (cs : List S_impl_Clue), i + d = cs.length → cs.length ≤ 1000 → (∀ c, c ∈ cs → CP s c) → Ev (fun k => spec_HarderPuzzle.l0 k cs i s cs0) (s, hz s d cs i, true) := by
 intro d
 induction d with
 | zero =>
  intro i cs hi hn hc
  refine Ev.succ ?_
  simp (disch := omega) only [spec_HarderPuzzle.l0, if_neg]
  exact Ev.now _
 | succ d ih =>
  intro i cs hi hn hc
  refine Ev.succ ?_
  have hil : i < cs.length := by omega
  have hl := erase_length hil
  simp (disch := omega) only [spec_HarderPuzzle.l0, if_pos, without_eq, Option.bind_some, w64]
  refine Ev.bind (ev_spec_solved hs (by omega) (CP.erase hc i)) ?_
  unfold hz
  cases sv s (cs.eraseIdx i) with
  | true => simp only [if_true]; exact ih i _ (by omega) (by omega) (CP.erase hc i)
  | false => simp only [Bool.false_eq_true, if_false]; exact ih (i + 1) cs (by omega) hn hc
theorem ev_impl_hz (cs0 : List S_impl_Clue) : ∀ (d i : Nat) (cs : List S_impl_Clue), i + d = cs.length → cs.length ≤ 1000 → (∀ c, c ∈ cs → CP s c) → Ev (fun k => impl_HarderPuzzle.l0 k cs i s cs0) (s, hz s d cs i, true) := by
 intro d
 induction d with
 | zero =>
  intro i cs hi hn hc
  refine Ev.succ ?_
  simp (disch := omega) only [impl_HarderPuzzle.l0, if_neg]
  exact Ev.now _
 | succ d ih =>
  intro i cs hi hn hc
  refine Ev.succ ?_
  have hil : i < cs.length := by omega
  have hl := erase_length hil
  simp (disch := omega) only [impl_HarderPuzzle.l0, if_pos, dropped_eq, Option.bind_some, w64]
  refine Ev.bind (ev_impl_solved hs (by omega) (CP.erase hc i) cs0) ?_
  unfold hz
  cases sv s (cs.eraseIdx i) with
  | true => simp only [if_true]; exact ih i _ (by omega) (by omega) (CP.erase hc i)
  | false => simp only [Bool.false_eq_true, if_false]; exact ih (i + 1) cs (by omega) hn hc
end
theorem ev_spec_HarderPuzzle (s : Int) (cs : List S_impl_Clue) : Ev (fun k => spec_HarderPuzzle.f k s cs) (ans_HarderPuzzle s cs) := by
 unfold spec_HarderPuzzle.f ans_HarderPuzzle
 refine askGS s cs (fun hs h6 hc => ?_) ?_
 ·simp only [if_true]
  refine Ev.bind (ev_spec_solved hs (by omega) hc) ?_
  refine Ev.succ ?_
  cases sv s cs with
  | true =>
   simp (disch := omega) only [spec_HarderPuzzle.j0, Bool.not_true, Bool.false_eq_true, if_false, if_true, Option.bind_some, List.length_nil, if_pos, List.nil_append]
   exact ev_spec_hz hs cs cs.length 0 cs (by omega) (by omega) hc
  | false =>
   simp only [spec_HarderPuzzle.j0, Bool.not_false, if_true, Bool.false_eq_true, if_false]
   exact Ev.now _
 ·simp only [Bool.false_eq_true, if_false]
  refine Ev.succ ?_
  simp only [spec_HarderPuzzle.j0, if_true]
  exact Ev.now _
theorem ev_impl_HarderPuzzle (s : Int) (cs : List S_impl_Clue) : Ev (fun k => impl_HarderPuzzle.f k s cs) (ans_HarderPuzzle s cs) := by
 unfold impl_HarderPuzzle.f ans_HarderPuzzle
 refine askGI s cs (fun hs h6 hc => ?_) ?_
 ·simp only [if_true]
  refine Ev.bind (ev_impl_solved hs (by omega) hc cs) ?_
  refine Ev.succ ?_
  cases sv s cs with
  | true =>
   simp only [impl_HarderPuzzle.j0, Bool.not_true, Bool.false_eq_true, if_false, if_true, clone_eq cs (show cs.length ≤ 1000 by omega), Option.bind_some]
   exact ev_impl_hz hs cs cs.length 0 cs (by omega) (by omega) hc
  | false =>
   simp only [impl_HarderPuzzle.j0, Bool.not_false, if_true, Bool.false_eq_true, if_false]
   exact Ev.now _
 ·simp only [Bool.false_eq_true, if_false]
  refine Ev.succ ?_
  simp only [impl_HarderPuzzle.j0, if_true]
  exact Ev.now _
theorem FnExactHarderPuzzle : laws_FnExactHarderPuzzle.Pure := by
 intro z0 q0 hz0 hq0
 have hq0 := hq0.1
 refine Ev.rounds ?_
 unfold laws_FnExactHarderPuzzle.f
 rw [szPuzzle_eq z0 q0 hq0]
 simp only [Option.bind_some]
 by_cases gq0 : 1048576 < q0.length
 ·simp only [if_pos gq0]
  exact Ev.now _
 simp only [if_neg gq0]
 simp (disch := omega) only [if_neg]
 have eq0 : q0.length ≤ 1048576 := by omega
 obtain ⟨R, hR⟩ : ∃ R, R = ans_HarderPuzzle z0 (toC q0) := ⟨_, rfl⟩
 have hS := ev_spec_HarderPuzzle z0 (toC q0)
 have hM := ev_impl_HarderPuzzle z0 (toC q0)
 rw [← hR] at hS hM
 have hb := ans_HarderPuzzle_len z0 (toC q0)
 rw [← hR] at hb
 repeat (first | exact Ev.now _ | refine Ev.bind (ev_toPuzzle z0 q0 eq0) ?_ | refine Ev.bind hS ?_ | refine Ev.bind hM ?_ | refine Ev.bind (ev_eqPuzzle z0 (toC q0) (by rw [toC_length]; omega)) ?_ | refine Ev.bind (ev_eqPuzzle _ _ hb) ?_ | refine Ev.bind (ev_markPuzzle _ _ _ hb (by omega)) ?_ | refine Ev.bind (ev_heldPuzzle _ _ _ hb (by omega)) ?_ | refine Ev.bind (ev_markPuzzle z0 (toC q0) 1 (by rw [toC_length]; omega) (by omega)) ?_ | simp only [eq_self, if_true, bne_self_eq_false, Bool.false_eq_true, if_false, Option.bind_some] | simp (disch := omega) only [if_neg, if_pos] | (refine Ev.succ ?_; simp only [laws_FnExactHarderPuzzle.j0, laws_FnExactHarderPuzzle.j1, laws_FnExactHarderPuzzle.j2, Bool.false_eq_true, if_false]))

end Go.Proofs.Ytajfdfaembcodaa.Pure
