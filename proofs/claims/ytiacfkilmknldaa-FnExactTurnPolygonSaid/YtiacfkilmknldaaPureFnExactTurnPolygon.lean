/- The law FnExactTurnPolygon holds: for all arguments the program's TurnPolygon answers as the reference's, and the arguments are left as they were. No condition. -/
import Derived.Test.YtiacfkilmknldaaX0
import Derived.Test.YtiacfkilmknldaaX29
import Derived.Test.YtiacfkilmknldaaX30
import Derived.Test.YtiacfkilmknldaaBBase
import Derived.Test.YtiacfkilmknldaaBCore
import Derived.Test.YtiacfkilmknldaaBPoly
import Derived.Test.YtiacfkilmknldaaBArea
import Derived.Test.YtiacfkilmknldaaBMap
import Derived.Test.YtiacfkilmknldaaBMarkP
namespace Go.Proofs.Ytiacfkilmknldaa.Pure
open Go.RowKit Go.Proofs.Ytiacfkilmknldaa.XW Go.Proofs.Ytiacfkilmknldaa.X Go.Proofs.YtiacfkilmknldaaW.PrintWords Go.Proofs.YtiacfkilmknldaaW.PrintLast Go.Proofs.Ytiacfkilmknldaa.B
set_option linter.unusedVariables false
set_option linter.unusedSimpArgs false
set_option maxRecDepth 20000

def mapTurnPolygon (p : S_impl_Peg) : S_impl_Peg := ⟨-p.f1, p.f0⟩
theorem ev_changed (l : List S_impl_Peg) : Ev (fun k => impl_changed_at_impl_TurnPolygon_1.f k l) (if good l = true then chg mapTurnPolygon l else ([], false)) := by
  unfold impl_changed_at_impl_TurnPolygon_1.f
  refine askI l (fun ok => ?_) (Ev.now _)
  have h10 := ok.hi
  simp only [if_true]
  have go : ∀ (e i : Nat), i + e = l.length → Ev (fun k => impl_changed_at_impl_TurnPolygon_1.l0 k ((l.map mapTurnPolygon).take i) l l.length i) (chg mapTurnPolygon l) := by
    intro e
    induction e with
    | zero =>
      intro i hi
      refine Ev.succ ?_
      obtain rfl : i = l.length := by omega
      simp (disch := omega) only [impl_changed_at_impl_TurnPolygon_1.l0, if_neg]
      rw [List.take_of_length_le (by simp)]
      refine Ev.bind (ev_arePegs _ (by simp; omega)) ?_
      unfold chg
      cases allPegs (l.map mapTurnPolygon)
      · exact Ev.now _
      · exact Ev.now _
    | succ e ih =>
      intro i hi
      refine Ev.succ ?_
      have hil : i < l.length := by omega
      have hlen := map_take_length (f := mapTurnPolygon) (l := l) (i := i) (by omega)
      have hp := ok.pegs i hil
      unfold Sm at hp
      simp (disch := omega) only [impl_changed_at_impl_TurnPolygon_1.l0, if_pos, rd_pt, impl_TurnPolygon_1.f, Option.bind_some, hlen, w64]
      have := ih (i + 1) (by omega)
      rw [map_take hil] at this
      exact this
  have := go l.length 0 (by omega)
  simpa using this
theorem lin_eq : lin 0 (-1) 1 0 0 0 = mapTurnPolygon := by
  funext p
  refine peg_ext ?_ ?_
  · show _ * p.f0 + _ * p.f1 + 0 = _
    simp only [mapTurnPolygon]
    omega
  · show _ * p.f0 + _ * p.f1 + 0 = _
    simp only [mapTurnPolygon]
    omega
noncomputable def ans_TurnPolygon (l : List S_impl_Peg) : List S_impl_Peg × Bool := if good l = true then chg mapTurnPolygon l else ([], false)
theorem ans_TurnPolygon_len (l : List S_impl_Peg) : (ans_TurnPolygon l).1.length ≤ 1099511627776 := by
  unfold ans_TurnPolygon
  split
  · rename_i h
    exact chg_len _ (by have := (good_iff.1 h).hi; omega)
  · show 0 ≤ _
    omega
theorem ev_spec_TurnPolygon (l : List S_impl_Peg) : Ev (fun k => spec_TurnPolygon.f k l) (ans_TurnPolygon l) := by
  unfold spec_TurnPolygon.f ans_TurnPolygon
  refine askS l (fun ok => ?_) (Ev.now _)
  have h10 := ok.hi
  have h := ev_spec_map l (a := 0) (b := (-1)) (c := 1) (d := 0) (x := 0) (y := 0) (by omega) (by omega) (by omega) (by omega) (by omega) (by omega) (by omega) (fun i hi => ok.big i hi)
  rw [lin_eq] at h
  exact Ev.bind h (Ev.now _)
theorem ev_impl_TurnPolygon (l : List S_impl_Peg) : Ev (fun k => impl_TurnPolygon.f k l) (ans_TurnPolygon l) := by
  unfold impl_TurnPolygon.f
  exact Ev.bind (ev_changed l) (Ev.now _)
theorem FnExactTurnPolygon : laws_FnExactTurnPolygon.Pure := by
  intro l0 hl0
  have hl0 := hl0.1
  refine Ev.rounds ?_
  unfold laws_FnExactTurnPolygon.f
  rw [szPegS_eq l0 hl0]
  simp only [Option.bind_some]
  by_cases gl0 : 1048576 < l0.length
  · simp only [if_pos gl0]
    exact Ev.now _
  simp only [if_neg gl0]
  simp (disch := omega) only [if_neg]
  have el0 : l0.length ≤ 1048576 := by omega
  obtain ⟨R, hR⟩ : ∃ R, R = ans_TurnPolygon (toP l0) := ⟨_, rfl⟩
  have hS := ev_spec_TurnPolygon (toP l0)
  have hM := ev_impl_TurnPolygon (toP l0)
  rw [← hR] at hS hM
  have hb := ans_TurnPolygon_len (toP l0)
  rw [← hR] at hb
  repeat (first | exact Ev.now _ | refine Ev.bind (ev_toPegS l0 el0) ?_ | refine Ev.bind hS ?_ | refine Ev.bind hM ?_ | refine Ev.bind (ev_eqPegS (toP l0) (by rw [toP_length]; omega)) ?_ | refine Ev.bind (ev_eqPegS _ hb) ?_ | refine Ev.bind (ev_markPegS _ _ hb (by omega)) ?_ | refine Ev.bind (ev_heldPegS _ _ hb (by omega)) ?_ | refine Ev.bind (ev_markPegS (toP l0) 1 (by rw [toP_length]; omega) (by omega)) ?_ | simp only [eq_self, if_true, bne_self_eq_false, Bool.false_eq_true, if_false, Option.bind_some] | simp (disch := omega) only [if_neg, if_pos] | (refine Ev.succ ?_; simp only [laws_FnExactTurnPolygon.j0, laws_FnExactTurnPolygon.j1, laws_FnExactTurnPolygon.j2, Bool.false_eq_true, if_false]))

end Go.Proofs.Ytiacfkilmknldaa.Pure
