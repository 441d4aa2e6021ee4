-- thin
/- The law FnExactListInside holds: for all arguments the program's ListInside answers as the reference's, and the arguments are left as they were. No condition. -/
import Derived.Test.YtiacfkilmknldaaX0
import Derived.Test.YtiacfkilmknldaaX59
import Derived.Test.YtiacfkilmknldaaX61
import Derived.Test.YtiacfkilmknldaaX62
import Derived.Test.YtiacfkilmknldaaBBase
import Derived.Test.YtiacfkilmknldaaBCore
import Derived.Test.YtiacfkilmknldaaBPoly
import Derived.Test.YtiacfkilmknldaaBAsk
import Derived.Test.YtiacfkilmknldaaBMinMax
import Derived.Test.YtiacfkilmknldaaBWhere
import Derived.Test.YtiacfkilmknldaaBBox
import Derived.Test.YtiacfkilmknldaaBGrid
import Derived.Test.YtiacfkilmknldaaBMarkP
namespace Go.Proofs.Ytiacfkilmknldaa.Pure
open Go.RowKit Go.Proofs.Ytiacfkilmknldaa.XW Go.Proofs.Ytiacfkilmknldaa.X Go.Proofs.YtiacfkilmknldaaW.PrintWords Go.Proofs.YtiacfkilmknldaaW.PrintLast Go.Proofs.Ytiacfkilmknldaa.B
set_option linter.unusedVariables false
set_option linter.unusedSimpArgs false
set_option maxRecDepth 20000

def ptIf (l : List S_impl_Peg) (x y : Int) : List S_impl_Peg := if wh l ⟨x, y⟩ > 0 then [⟨x, y⟩] else []
theorem ptIf_len (l : List S_impl_Peg) (x y : Int) : (ptIf l x y).length ≤ 1 := by
 unfold ptIf
 split
 ·show 1 ≤ 1
  omega
 ·show 0 ≤ 1
  omega
def colI (l : List S_impl_Peg) (x : Int) : List S_impl_Peg := seg (ptIf l x) 81 (-40)
def lstI (l : List S_impl_Peg) : List S_impl_Peg := seg (colI l) 81 (-40)
theorem colI_len (l : List S_impl_Peg) (x : Int) : (colI l x).length ≤ 81 := by
 have := seg_len (f := ptIf l x) (B := 1) 81 (-40) (fun y => ptIf_len l x y)
 unfold colI
 omega
theorem lstI_len (l : List S_impl_Peg) : (lstI l).length ≤ 6561 := by
 have := seg_len (f := colI l) (B := 81) 81 (-40) (fun y => colI_len l y)
 unfold lstI
 omega
noncomputable def ans_ListInside (l : List S_impl_Peg) : List S_impl_Peg × Bool := if good l = true then (lstI l, true) else ([], false)
theorem ans_ListInside_len (l : List S_impl_Peg) : (ans_ListInside l).1.length ≤ 1099511627776 := by
 unfold ans_ListInside
 split
 ·have := lstI_len l
  show (lstI l).length ≤ _
  omega
 ·show 0 ≤ _
  omega
theorem ev_spec_list {l : List S_impl_Peg} (ok : Poly l) : Ev (fun k => spec_pgList.f k l) (lstI l) := by
 unfold spec_pgList.f
 have inn : ∀ (x : Int) (R : List S_impl_Peg → List S_impl_Peg), -40 ≤ x → x ≤ 40 → (∀ acc : List S_impl_Peg, acc.length ≤ 81 * (x + 41).toNat → Ev (fun k => spec_pgList.l0 k l acc (x + 1)) (R acc)) →
   ∀ (d : Nat) (y : Int) (acc : List S_impl_Peg), -40 ≤ y → y + d = 41 → acc.length ≤ 81 * (x + 40).toNat + (y + 40).toNat → Ev (fun k => spec_pgList.l1 k l acc x y) (R (acc ++ seg (ptIf l x) d y)) := by
  intro x R hx1 hx2 hR d
  induction d with
  | zero =>
   intro y acc hy1 hy2 ha
   refine Ev.succ ?_
   simp (disch := omega) only [spec_pgList.l1, if_neg, w64]
   have : acc ++ seg (ptIf l x) 0 y = acc := by simp [seg]
   rw [this]
   exact hR acc (by omega)
  | succ d ih =>
   intro y acc hy1 hy2 ha
   refine Ev.succ ?_
   simp (disch := omega) only [spec_pgList.l1, if_pos, w64]
   have hw := ok.swhere (p := ⟨x, y⟩) (by unfold Sm; simp only; omega)
   refine Ev.bind hw ?_
   have e : acc ++ seg (ptIf l x) (d + 1) y = (acc ++ ptIf l x y) ++ seg (ptIf l x) d (y + 1) := by
    show acc ++ (ptIf l x y ++ seg (ptIf l x) d (y + 1)) = _
    rw [List.append_assoc]
   rw [e]
   by_cases hp : wh l ⟨x, y⟩ > 0
   ·simp only [if_pos hp]
    have : ptIf l x y = [⟨x, y⟩] := by unfold ptIf; rw [if_pos hp]
    rw [this]
    exact ih (y + 1) _ (by omega) (by omega) (by simp; omega)
   ·simp only [if_neg hp]
    have : ptIf l x y = [] := by unfold ptIf; rw [if_neg hp]
    rw [this, List.append_nil]
    exact ih (y + 1) _ (by omega) (by omega) (by omega)
 have out : ∀ (d : Nat) (x : Int) (acc : List S_impl_Peg), -40 ≤ x → x + d = 41 → acc.length ≤ 81 * (x + 40).toNat → Ev (fun k => spec_pgList.l0 k l acc x) (acc ++ seg (colI l) d x) := by
  intro d
  induction d with
  | zero =>
   intro x acc h1 h2 ha
   refine Ev.succ ?_
   simp (disch := omega) only [spec_pgList.l0, if_neg]
   exact Ev.some (by simp [seg])
  | succ d ih =>
   intro x acc h1 h2 ha
   refine Ev.succ ?_
   simp (disch := omega) only [spec_pgList.l0, if_pos]
   have := inn x (fun a => a ++ seg (colI l) d (x + 1)) (by omega) (by omega) (fun a h => ih (x + 1) a (by omega) (by omega) (by omega)) 81 (-40) acc (by omega) (by omega) (by omega)
   have e : seg (ptIf l x) 81 (-40) = colI l x := by unfold colI; rfl
   rw [e] at this
   simp only [List.append_assoc] at this
   exact this
 have := out 81 (-40) [] (by omega) (by omega) (by simp)
 rw [List.nil_append] at this
 exact this
theorem ev_spec_ListInside (l : List S_impl_Peg) : Ev (fun k => spec_ListInside.f k l) (ans_ListInside l) := by
 unfold spec_ListInside.f ans_ListInside
 exact askS l (fun ok => Ev.bind (ev_spec_list ok) (Ev.now _)) (Ev.now _)
theorem ev_impl_ListInside (l : List S_impl_Peg) : Ev (fun k => impl_ListInside.f k l) (ans_ListInside l) := by
 unfold impl_ListInside.f ans_ListInside
 refine askI l (fun ok => ?_) (Ev.now _)
 have h3 := ok.lo
 have h10 := ok.hi
 simp only [if_true]
 refine Ev.bind (ev_impl_box l (by omega) (by omega)) ?_
 have bd : ∀ i, i < l.length → (-40 ≤ (pt l i).f0 ∧ (pt l i).f0 ≤ 40) ∧ (-40 ≤ (pt l i).f1 ∧ (pt l i).f1 ≤ 40) := fun i hi => by
  have := ok.pegs i hi
  unfold Sm at this
  omega
 have a0 := mnN_bd (f := fun i => (pt l i).f0) (m := l.length) (A := -40) (B := 40) (bd 0 (by omega)).1 (fun i hi => (bd i hi).1)
 have a1 := mnN_bd (f := fun i => (pt l i).f1) (m := l.length) (A := -40) (B := 40) (bd 0 (by omega)).2 (fun i hi => (bd i hi).2)
 have b0 := mxN_bd (f := fun i => (pt l i).f0) (m := l.length) (A := -40) (B := 40) (bd 0 (by omega)).1 (fun i hi => (bd i hi).1)
 have b1 := mxN_bd (f := fun i => (pt l i).f1) (m := l.length) (A := -40) (B := 40) (bd 0 (by omega)).2 (fun i hi => (bd i hi).2)
 have c0 : mnN (fun i => (pt l i).f0) l.length ≤ mxN (fun i => (pt l i).f0) l.length := by
  have h1 := mnN_le (f := fun i => (pt l i).f0) (m := l.length) 0 (by omega)
  have h2 := le_mxN (f := fun i => (pt l i).f0) (m := l.length) 0 (by omega)
  omega
 have c1 : mnN (fun i => (pt l i).f1) l.length ≤ mxN (fun i => (pt l i).f1) l.length := by
  have h1 := mnN_le (f := fun i => (pt l i).f1) (m := l.length) 0 (by omega)
  have h2 := le_mxN (f := fun i => (pt l i).f1) (m := l.length) 0 (by omega)
  omega
 have hbox := wh_box (l := l) (by omega)
 have hcol : ∀ x, colI l x = seg (ptIf l x) (mxN (fun i => (pt l i).f1) l.length - mnN (fun i => (pt l i).f1) l.length + 1).toNat (mnN (fun i => (pt l i).f1) l.length) := by
  intro x
  unfold colI
  refine seg_part (by omega) (by omega) (by omega) fun y hy => ?_
  unfold ptIf
  rw [if_neg]
  have := hbox ⟨x, y⟩ (by simp only; omega)
  omega
 have hlst : lstI l = seg (colI l) (mxN (fun i => (pt l i).f0) l.length - mnN (fun i => (pt l i).f0) l.length + 1).toNat (mnN (fun i => (pt l i).f0) l.length) := by
  unfold lstI
  refine seg_part (by omega) (by omega) (by omega) fun x hx => ?_
  unfold colI
  refine seg_nil 81 (-40) fun y _ _ => ?_
  unfold ptIf
  rw [if_neg]
  have := hbox ⟨x, y⟩ (by simp only; omega)
  omega
 rw [hlst]
 revert a0 a1 b0 b1 c0 c1 hcol
 generalize mnN (fun i => (pt l i).f0) l.length = lx
 generalize mnN (fun i => (pt l i).f1) l.length = ly
 generalize mxN (fun i => (pt l i).f0) l.length = hx
 generalize mxN (fun i => (pt l i).f1) l.length = hy
 intro a0 a1 b0 b1 c0 c1 hcol
 have inn : ∀ (x : Int) (R : List S_impl_Peg → List S_impl_Peg × Bool), -40 ≤ x → x ≤ 40 → (∀ acc : List S_impl_Peg, acc.length ≤ 81 * (x + 41).toNat → Ev (fun k => impl_ListInside.l0 k l acc (x + 1) lx ly hx hy) (R acc)) →
   ∀ (d : Nat) (y : Int) (acc : List S_impl_Peg), -40 ≤ y → y + d = hy + 1 → acc.length ≤ 81 * (x + 40).toNat + (y + 40).toNat → Ev (fun k => impl_ListInside.l1 k l acc x y lx ly hx hy) (R (acc ++ seg (ptIf l x) d y)) := by
  intro x R hx1 hx2 hR d
  induction d with
  | zero =>
   intro y acc hy1 hy2 ha
   refine Ev.succ ?_
   simp (disch := omega) only [impl_ListInside.l1, if_neg, w64]
   have : acc ++ seg (ptIf l x) 0 y = acc := by simp [seg]
   rw [this]
   exact hR acc (by omega)
  | succ d ih =>
   intro y acc hy1 hy2 ha
   refine Ev.succ ?_
   simp (disch := omega) only [impl_ListInside.l1, if_pos, w64]
   have hw := ok.where_ (p := ⟨x, y⟩) (by unfold Sm; simp only; omega)
   refine Ev.bind hw ?_
   have e : acc ++ seg (ptIf l x) (d + 1) y = (acc ++ ptIf l x y) ++ seg (ptIf l x) d (y + 1) := by
    show acc ++ (ptIf l x y ++ seg (ptIf l x) d (y + 1)) = _
    rw [List.append_assoc]
   rw [e]
   by_cases hp : wh l ⟨x, y⟩ > 0
   ·simp only [if_pos hp]
    have : ptIf l x y = [⟨x, y⟩] := by unfold ptIf; rw [if_pos hp]
    rw [this]
    exact ih (y + 1) _ (by omega) (by omega) (by simp; omega)
   ·simp only [if_neg hp]
    have : ptIf l x y = [] := by unfold ptIf; rw [if_neg hp]
    rw [this, List.append_nil]
    exact ih (y + 1) _ (by omega) (by omega) (by omega)
 have out : ∀ (d : Nat) (x : Int) (acc : List S_impl_Peg), -40 ≤ x → x + d = hx + 1 → acc.length ≤ 81 * (x + 40).toNat → Ev (fun k => impl_ListInside.l0 k l acc x lx ly hx hy) (acc ++ seg (colI l) d x, true) := by
  intro d
  induction d with
  | zero =>
   intro x acc h1 h2 ha
   refine Ev.succ ?_
   simp (disch := omega) only [impl_ListInside.l0, if_neg]
   exact Ev.some (by simp [seg])
  | succ d ih =>
   intro x acc h1 h2 ha
   refine Ev.succ ?_
   simp (disch := omega) only [impl_ListInside.l0, if_pos]
   have := inn x (fun a => (a ++ seg (colI l) d (x + 1), true)) (by omega) (by omega) (fun a h => ih (x + 1) a (by omega) (by omega) (by omega)) (hy - ly + 1).toNat ly acc (by omega) (by omega) (by omega)
   rw [← hcol x] at this
   simp only [List.append_assoc] at this
   exact this
 have := out (hx - lx + 1).toNat lx [] (by omega) (by omega) (by simp)
 rw [List.nil_append] at this
 exact this
theorem FnExactListInside : laws_FnExactListInside.Pure := by
 intro l0 hl0
 have hl0 := hl0.1
 refine Ev.rounds ?_
 unfold laws_FnExactListInside.f
 rw [szPegS_eq l0 hl0]
 simp only [Option.bind_some]
 by_cases gl0 : 1048576 < l0.length
 ·simp only [if_pos gl0]
  exact Ev.now _
 simp only [if_neg gl0]
 simp (disch := omega) only [if_neg]
 have el0 : l0.length ≤ 1048576 := by omega
 obtain ⟨R, hR⟩ : ∃ R, R = ans_ListInside (toP l0) := ⟨_, rfl⟩
 have hS := ev_spec_ListInside (toP l0)
 have hM := ev_impl_ListInside (toP l0)
 rw [← hR] at hS hM
 have hb := ans_ListInside_len (toP l0)
 rw [← hR] at hb
 repeat (first | exact Ev.now _ | refine Ev.bind (ev_toPegS l0 el0) ?_ | refine Ev.bind hS ?_ | refine Ev.bind hM ?_ | refine Ev.bind (ev_eqPegS (toP l0) (by rw [toP_length]; omega)) ?_ | refine Ev.bind (ev_eqPegS _ hb) ?_ | refine Ev.bind (ev_markPegS _ _ hb (by omega)) ?_ | refine Ev.bind (ev_heldPegS _ _ hb (by omega)) ?_ | refine Ev.bind (ev_markPegS (toP l0) 1 (by rw [toP_length]; omega) (by omega)) ?_ | simp only [eq_self, if_true, bne_self_eq_false, Bool.false_eq_true, if_false, Option.bind_some] | simp (disch := omega) only [if_neg, if_pos] | (refine Ev.succ ?_; simp only [laws_FnExactListInside.j0, laws_FnExactListInside.j1, laws_FnExactListInside.j2, Bool.false_eq_true, if_false]))

end Go.Proofs.Ytiacfkilmknldaa.Pure
