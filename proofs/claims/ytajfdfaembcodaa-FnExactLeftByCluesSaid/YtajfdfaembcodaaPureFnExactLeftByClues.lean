-- thin
/- The law FnExactLeftByClues holds: for all arguments the program's LeftByClues answers as the reference's, and the arguments are left as they were. No condition. -/
import Derived.Test.YtajfdfaembcodaaX0
import Derived.Test.YtajfdfaembcodaaX4
import Derived.Test.YtajfdfaembcodaaX8
import Derived.Test.YtajfdfaembcodaaX11
import Derived.Test.YtajfdfaembcodaaBBase
import Derived.Test.YtajfdfaembcodaaBClueNum
import Derived.Test.YtajfdfaembcodaaBClues
import Derived.Test.YtajfdfaembcodaaBSols
import Derived.Test.YtajfdfaembcodaaBLawZ
import Derived.Test.YtajfdfaembcodaaBEqIntS
import Derived.Test.YtajfdfaembcodaaBMarkI
namespace Go.Proofs.Ytajfdfaembcodaa.Pure
open Go.RowKit Go.Proofs.Ytajfdfaembcodaa.XW Go.Proofs.Ytajfdfaembcodaa.X Go.Proofs.YtajfdfaembcodaaW.PrintWords Go.Proofs.YtajfdfaembcodaaW.PrintLast Go.Proofs.Ytajfdfaembcodaa.B
set_option linter.unusedVariables false
set_option linter.unusedSimpArgs false
set_option maxRecDepth 20000

def lft (s : Int) (cs : List S_impl_Clue) : List Int := (List.range (cs.length + 1)).map fun (k : Nat) => ((sol s (cs.take k)).length : Int)
theorem lft_length (s : Int) (cs : List S_impl_Clue) : (lft s cs).length = cs.length + 1 := by simp [lft]
def ans_LeftByClues (s : Int) (cs : List S_impl_Clue) : List Int × Bool := if gd s cs = true then (lft s cs, true) else ([], false)
theorem ans_LeftByClues_len (s : Int) (cs : List S_impl_Clue) : (ans_LeftByClues s cs).1.length ≤ 1099511627776 := by
 unfold ans_LeftByClues
 split
 ·rename_i h
  obtain ⟨_, h6, _⟩ := gd_iff h
  show (lft s cs).length ≤ _
  rw [lft_length]
  omega
 ·show 0 ≤ _
  omega
theorem ev_spec_LeftByClues (s : Int) (cs : List S_impl_Clue) : Ev (fun k => spec_LeftByClues.f k s cs) (ans_LeftByClues s cs) := by
 unfold spec_LeftByClues.f ans_LeftByClues
 refine askGS s cs (fun hs h6 hc => ?_) (Ev.now _)
 simp only [if_true]
 have go : ∀ (d i : Nat), i + d = cs.length + 1 → Ev (fun k => spec_LeftByClues.l0 k ((lft s cs).take i) i s cs) (lft s cs, true) := by
  intro d
  induction d with
  | zero =>
   intro i hi
   refine Ev.succ ?_
   simp (disch := omega) only [spec_LeftByClues.l0, if_neg]
   rw [List.take_of_length_le (by rw [lft_length]; omega)]
   exact Ev.now _
  | succ d ih =>
   intro i hi
   refine Ev.succ ?_
   have hlen : ((lft s cs).take i).length = i := rmap_take_length (by omega)
   simp (disch := omega) only [spec_LeftByClues.l0, if_pos, Int.toNat_natCast, w64]
   refine Ev.bind (ev_spec_sol hs (by rw [List.length_take]; omega) (CP.take hc i)) ?_
   try simp (disch := omega) only [if_pos]
   have h := ih (i + 1) (by omega)
   have e : (lft s cs).take (i + 1) = (lft s cs).take i ++ [((sol s (cs.take i)).length : Int)] := rmap_take (by omega)
   rw [e] at h
   exact h
 exact go (cs.length + 1) 0 (by omega)
theorem ev_impl_LeftByClues (s : Int) (cs : List S_impl_Clue) : Ev (fun k => impl_LeftByClues.f k s cs) (ans_LeftByClues s cs) := by
 unfold impl_LeftByClues.f ans_LeftByClues
 refine askGI s cs (fun hs h6 hc => ?_) (Ev.now _)
 simp only [if_true]
 rw [w64 (by omega)]
 have go : ∀ (d i : Nat), i + d = cs.length + 1 → Ev (fun k => impl_LeftByClues.l0 k ((lft s cs).take i) ((cs.length : Int) + 1) i s cs) (lft s cs, true) := by
  intro d
  induction d with
  | zero =>
   intro i hi
   refine Ev.succ ?_
   simp (disch := omega) only [impl_LeftByClues.l0, if_neg]
   rw [List.take_of_length_le (by rw [lft_length]; omega)]
   exact Ev.now _
  | succ d ih =>
   intro i hi
   refine Ev.succ ?_
   have hlen : ((lft s cs).take i).length = i := rmap_take_length (by omega)
   simp (disch := omega) only [impl_LeftByClues.l0, if_pos, Int.toNat_natCast, w64]
   refine Ev.bind (ev_impl_sol hs (by rw [List.length_take]; omega) (CP.take hc i) cs) ?_
   try simp (disch := omega) only [if_pos]
   have h := ih (i + 1) (by omega)
   have e : (lft s cs).take (i + 1) = (lft s cs).take i ++ [((sol s (cs.take i)).length : Int)] := rmap_take (by omega)
   rw [e] at h
   exact h
 exact go (cs.length + 1) 0 (by omega)
theorem FnExactLeftByClues : laws_FnExactLeftByClues.Pure := by
 intro z0 q0 hz0 hq0
 have hq0 := hq0.1
 refine Ev.rounds ?_
 unfold laws_FnExactLeftByClues.f
 rw [szPuzzle_eq z0 q0 hq0]
 simp only [Option.bind_some]
 by_cases gq0 : 1048576 < q0.length
 ·simp only [if_pos gq0]
  exact Ev.now _
 simp only [if_neg gq0]
 simp (disch := omega) only [if_neg]
 have eq0 : q0.length ≤ 1048576 := by omega
 obtain ⟨R, hR⟩ : ∃ R, R = ans_LeftByClues z0 (toC q0) := ⟨_, rfl⟩
 have hS := ev_spec_LeftByClues z0 (toC q0)
 have hM := ev_impl_LeftByClues z0 (toC q0)
 rw [← hR] at hS hM
 have hb := ans_LeftByClues_len z0 (toC q0)
 rw [← hR] at hb
 repeat (first | exact Ev.now _ | refine Ev.bind (ev_toPuzzle z0 q0 eq0) ?_ | refine Ev.bind hS ?_ | refine Ev.bind hM ?_ | refine Ev.bind (ev_eqPuzzle z0 (toC q0) (by rw [toC_length]; omega)) ?_ | refine Ev.bind (ev_eqIntS _ hb) ?_ | refine Ev.bind (ev_markIntS _ _ hb (by omega)) ?_ | refine Ev.bind (ev_heldIntS _ _ hb (by omega)) ?_ | refine Ev.bind (ev_markPuzzle z0 (toC q0) 1 (by rw [toC_length]; omega) (by omega)) ?_ | simp only [eq_self, if_true, bne_self_eq_false, Bool.false_eq_true, if_false, Option.bind_some] | simp (disch := omega) only [if_neg, if_pos] | (refine Ev.succ ?_; simp only [laws_FnExactLeftByClues.j0, laws_FnExactLeftByClues.j1, laws_FnExactLeftByClues.j2, Bool.false_eq_true, if_false]))

end Go.Proofs.Ytajfdfaembcodaa.Pure
