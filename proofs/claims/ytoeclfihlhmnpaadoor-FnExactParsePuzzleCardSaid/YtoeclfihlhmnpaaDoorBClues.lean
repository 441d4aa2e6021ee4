-- thin
/- Clues and puzzles, in the reference and in the program. -/
import Derived.Test.YtoeclfihlhmnpaaDoorX0
import Derived.Test.YtoeclfihlhmnpaaDoorX1
import Derived.Test.YtoeclfihlhmnpaaDoorX2
import Derived.Test.YtoeclfihlhmnpaaDoorX6
import Derived.Test.YtoeclfihlhmnpaaDoorX7
import Derived.Test.YtoeclfihlhmnpaaDoorBBase
namespace Go.Proofs.YtoeclfihlhmnpaaDoor.B
open Go.RowKit Go.Proofs.YtoeclfihlhmnpaaDoor.XW Go.Proofs.YtoeclfihlhmnpaaDoor.X Go.Proofs.YtoeclfihlhmnpaaDoorW.PrintWords Go.Proofs.YtoeclfihlhmnpaaDoorW.PrintLast Go.Proofs.YtoeclfihlhmnpaaDoor.B
set_option linter.unusedVariables false
set_option linter.unusedSimpArgs false
set_option maxRecDepth 20000

theorem impl_within_eq (n a b : Int) : impl_within.f n a b = some (decide (a ≤ n) && decide (n ≤ b)) := by
 unfold impl_within.f
 split
 ·rename_i h
  have : a ≤ n := h
  simp [this]
 ·rename_i h
  have : ¬ a ≤ n := h
  simp [this]
theorem spec_in_eq (n a b : Int) : spec_l1In.f n a b = some (decide (a ≤ n) && decide (n ≤ b)) := by
 unfold spec_l1In.f
 split
 ·rename_i h
  have : a ≤ n := h
  simp [this]
 ·rename_i h
  have : ¬ a ≤ n := h
  simp [this]
def cl (l : List S_impl_Clue) (i : Nat) : S_impl_Clue := l.getD i z_impl_Clue
theorem rd_cl (l : List S_impl_Clue) (i : Nat) : rd_impl_Clue l (i : Int) = cl l i := by
 unfold rd_impl_Clue cl
 rw [Int.toNat_natCast]
theorem cl_mem {l : List S_impl_Clue} {i : Nat} (h : i < l.length) : cl l i ∈ l := by
 unfold cl
 rw [List.getD_eq_getElem?_getD, List.getElem?_eq_getElem h]
 exact List.getElem_mem h
theorem drop_cl {l : List S_impl_Clue} {i : Nat} (h : i < l.length) : l.drop i = cl l i :: l.drop (i + 1) := by
 rw [List.drop_eq_getElem_cons h]
 congr 1
 unfold cl
 rw [List.getD_eq_getElem?_getD, List.getElem?_eq_getElem h]
 rfl
/-- A clue of a board. -/
def CP (s : Int) (c : S_impl_Clue) : Prop :=
 0 ≤ c.f1 ∧ ((c.f0 = 0 ∨ c.f0 = 1) ∧ c.f1 ≤ s ∧ c.f2 = 0 ∧ c.f3 = 0 ∨ c.f0 = 2 ∧ c.f1 ≤ 2 * s ∧ c.f2 = 0 ∧ c.f3 = 0 ∨
  (c.f0 = 3 ∧ c.f3 ≤ s * s ∨ c.f0 = 4 ∧ c.f3 ≤ 2 * s * s ∨ c.f0 = 5 ∧ c.f3 ≤ 1) ∧ c.f1 ≤ s ∧ 0 ≤ c.f2 ∧ c.f2 ≤ s ∧ 0 ≤ c.f3)
instance (s : Int) (c : S_impl_Clue) : Decidable (CP s c) := by
 unfold CP
 infer_instance
def okC (s : Int) (c : S_impl_Clue) : Bool := decide (CP s c)
theorem okC_iff {s : Int} {c : S_impl_Clue} : okC s c = true ↔ CP s c := by
 unfold okC
 rw [decide_eq_true_eq]
theorem ok_ev {s : Int} {c : S_impl_Clue} {b : Bool} (h : b = true ↔ CP s c) : Ev (fun _ : Nat => some b) (okC s c) := by
 refine Ev.some ?_
 rw [Bool.eq_iff_iff, okC_iff]
 exact h
theorem Ev.ite_ {α : Type} {p : Prop} [Decidable p] {f g : Nat → Option α} {r : α} (h : p → Ev f r) (h' : ¬ p → Ev g r) : Ev (fun k => if p then f k else g k) r := by
 by_cases c : p
 ·simpa only [if_pos c] using h c
 ·simpa only [if_neg c] using h' c
theorem Ev.iteP {α : Type} {p : Prop} [Decidable p] {f g : Nat → Option α} {r s : α} (h : p → Ev f r) (h' : ¬ p → Ev g s) : Ev (fun k => if p then f k else g k) (if p then r else s) := by
 by_cases c : p
 ·simpa only [if_pos c] using h c
 ·simpa only [if_neg c] using h' c
section
variable {s : Int} (hs : 1 ≤ s ∧ s ≤ 12)
include hs
theorem sq_eq : wrap64 (s * s) = s * s ∧ wrap64 (2 * s * s) = 2 * s * s := by
 have h1 := mul_bd (x := s) (y := s) (A := 12) (B := 12) (by omega) (by omega)
 have h2 := mul_bd (x := 2 * s) (y := s) (A := 24) (B := 12) (by omega) (by omega)
 rw [w64 (x := s * s) (by omega), w64 (x := 2 * s * s) (by omega)]
 exact ⟨rfl, rfl⟩
theorem ev_spec_clue (c : S_impl_Clue) : Ev (fun k => spec_pzClue.f k s c.f0 c.f1 c.f2 c.f3) (okC s c) := by
 obtain ⟨e1, e2⟩ := sq_eq hs
 have j0 : ∀ b : Bool, (b = true ↔ (c.f0 = 0 ∨ c.f0 = 1)) → Ev (fun k => spec_pzClue.j0 k s c.f0 b c.f0 c.f1 c.f2 c.f3) (okC s c) := by
  intro b hb
  refine Ev.succ ?_
  simp only [spec_pzClue.j0, spec_in_eq, Option.bind_some, e1, e2, w64 (x := 2 * s) (by omega)]
  repeat' (refine Ev.ite_ (fun _ => ?_) (fun _ => ?_))
  all_goals
   simp only [Bool.and_eq_true, decide_eq_true_eq, hb] at *
   refine ok_ev ?_
   simp only [Bool.and_eq_true, decide_eq_true_eq, beq_iff_eq, Bool.false_eq_true, false_iff]
   unfold CP
   omega
 unfold spec_pzClue.f
 refine Ev.ite_ (fun h => j0 _ ?_) (fun h => j0 _ ?_)
 ·rw [beq_iff_eq]
  omega
 ·rw [beq_iff_eq]
  omega
theorem ev_impl_clue (c : S_impl_Clue) : Ev (fun k => impl_IsClue.f k s c.f0 c.f1 c.f2 c.f3) (okC s c) := by
 obtain ⟨e1, e2⟩ := sq_eq hs
 have j1 : ∀ b : Bool, (b = true ↔ (c.f0 = 0 ∨ c.f0 = 1 ∨ c.f0 = 2)) → (0 ≤ c.f1 ∧ c.f1 ≤ 2 * s ∧ 0 ≤ c.f2 ∧ c.f2 ≤ s ∧ (c.f0 = 2 ∨ c.f1 ≤ s)) → Ev (fun k => impl_IsClue.j1 k s c.f0 b c.f0 c.f1 c.f2 c.f3) (okC s c) := by
  intro b hb h1
  refine Ev.succ ?_
  simp only [impl_IsClue.j1, impl_within_eq, Option.bind_some, e1, e2, w64 (x := 2 * s) (by omega)]
  repeat' (refine Ev.ite_ (fun _ => ?_) (fun _ => ?_))
  all_goals
   simp only [Bool.and_eq_true, decide_eq_true_eq, hb] at *
   refine ok_ev ?_
   simp only [Bool.and_eq_true, decide_eq_true_eq, beq_iff_eq, Bool.false_eq_true, false_iff]
   unfold CP
   omega
 have j0 : ∀ b : Bool, (b = false ↔ (0 ≤ c.f1 ∧ c.f1 ≤ 2 * s ∧ 0 ≤ c.f2 ∧ c.f2 ≤ s ∧ (c.f0 = 2 ∨ c.f1 ≤ s))) → Ev (fun k => impl_IsClue.j0 k s b c.f0 c.f1 c.f2 c.f3) (okC s c) := by
  intro b hb
  refine Ev.succ ?_
  cases b with
  | true =>
   simp only [impl_IsClue.j0, if_true]
   refine ok_ev ?_
   have : ¬ (0 ≤ c.f1 ∧ c.f1 ≤ 2 * s ∧ 0 ≤ c.f2 ∧ c.f2 ≤ s ∧ (c.f0 = 2 ∨ c.f1 ≤ s)) := fun h => absurd (hb.2 h) (by simp)
   simp only [Bool.false_eq_true, false_iff]
   unfold CP
   omega
  | false =>
   have h1 := hb.1 rfl
   simp only [impl_IsClue.j0, Bool.false_eq_true, if_false]
   refine Ev.ite_ (fun h => j1 _ ?_ h1) (fun h => Ev.ite_ (fun h' => j1 _ ?_ h1) (fun h' => j1 _ ?_ h1))
   ·rw [beq_iff_eq]
    omega
   ·rw [beq_iff_eq]
    omega
   ·rw [beq_iff_eq]
    omega
 unfold impl_IsClue.f impl_isSide.f
 simp only [impl_within_eq, Option.bind_some, w64 (x := 2 * s) (by omega)]
 have hsd : (decide (1 ≤ s) && decide (s ≤ 12)) = true := by
  rw [Bool.and_eq_true, decide_eq_true_eq, decide_eq_true_eq]
  exact hs
 rw [hsd]
 simp only [if_true]
 refine Ev.ite_ (fun h => ?_) (fun h => ?_)
 ·rw [Bool.and_eq_true, decide_eq_true_eq, decide_eq_true_eq] at h
  refine Ev.ite_ (fun h2 => ?_) (fun h2 => ?_)
  ·rw [Bool.and_eq_true, decide_eq_true_eq, decide_eq_true_eq] at h2
   refine Ev.ite_ (fun h3 => j0 _ ?_) (fun h3 => j0 _ ?_)
   ·simp only [true_iff]
    omega
   ·rw [decide_eq_false_iff_not]
    omega
  ·rw [Bool.and_eq_true, decide_eq_true_eq, decide_eq_true_eq] at h2
   refine j0 _ ?_
   simp only [Bool.true_eq_false, false_iff]
   omega
 ·rw [Bool.and_eq_true, decide_eq_true_eq, decide_eq_true_eq] at h
  refine j0 _ ?_
  simp only [Bool.true_eq_false, false_iff]
  omega
end
/-! ### What a clue tells of a peg -/
def fi {α : Type} (P : α → Bool) : List α → Nat → Int
 | [], _ => -1
 | a :: r, i => if P a = true then (i : Int) else fi P r (i + 1)
theorem fi_any {α : Type} (P : α → Bool) : ∀ (l : List α) (i : Nat), decide (fi P l i ≥ 0) = l.any P := by
 intro l
 induction l with
 | nil => intro i; rfl
 | cons a r ih =>
  intro i
  show decide ((if P a = true then (i : Int) else fi P r (i + 1)) ≥ 0) = (P a || r.any P)
  cases P a
  ·simpa using ih (i + 1)
  ·simp
/-! ### Is it a puzzle -/
def gd (s : Int) (cs : List S_impl_Clue) : Bool := if (decide (1 ≤ s) && decide (s ≤ 12)) = true then (if cs.length ≤ 6 then cs.all (okC s) else false) else false
theorem gd_iff {s : Int} {cs : List S_impl_Clue} (h : gd s cs = true) : (1 ≤ s ∧ s ≤ 12) ∧ cs.length ≤ 6 ∧ ∀ c, c ∈ cs → CP s c := by
 unfold gd at h
 split at h
 ·rename_i h1
  rw [Bool.and_eq_true, decide_eq_true_eq, decide_eq_true_eq] at h1
  split at h
  ·rename_i h2
   rw [List.all_eq_true] at h
   exact ⟨h1, h2, fun c hc => okC_iff.1 (h c hc)⟩
  ·exact absurd h (by simp)
 ·exact absurd h (by simp)
theorem ev_spec_gd (s : Int) (cs : List S_impl_Clue) : Ev (fun k => spec_pzGood.f k s cs) (gd s cs) := by
 unfold spec_pzGood.f spec_pzSide.f gd
 simp only [spec_in_eq, Option.bind_some]
 by_cases h : (decide (1 ≤ s) && decide (s ≤ 12)) = true
 ·simp only [if_pos h]
  rw [Bool.and_eq_true, decide_eq_true_eq, decide_eq_true_eq] at h
  by_cases h6 : cs.length ≤ 6
  ·rw [if_pos h6, decide_eq_false (by omega)]
   refine Ev.succ ?_
   simp only [spec_pzGood.j0, Bool.false_eq_true, if_false]
   have go : ∀ (d i : Nat), i + d = cs.length → Ev (fun k => spec_pzGood.l0 k cs cs.length i s cs) ((cs.drop i).all (okC s)) := by
    intro d
    induction d with
    | zero =>
     intro i hi
     refine Ev.succ ?_
     simp (disch := omega) only [spec_pzGood.l0, if_neg]
     rw [List.drop_of_length_le (by omega)]
     exact Ev.now _
    | succ d ih =>
     intro i hi
     refine Ev.succ ?_
     have hil : i < cs.length := by omega
     simp (disch := omega) only [spec_pzGood.l0, if_pos, rd_cl, w64]
     refine Ev.bind (ev_spec_clue h _) ?_
     rw [drop_cl hil, List.all_cons]
     cases okC s (cl cs i) with
     | true => simp only [if_true, Bool.true_and]; exact ih (i + 1) (by omega)
     | false => simp only [Bool.false_eq_true, if_false, Bool.false_and]; exact Ev.now _
   have := go cs.length 0 (by omega)
   rw [List.drop_zero] at this
   exact this
  ·rw [if_neg h6, decide_eq_true (by omega)]
   refine Ev.succ ?_
   simp only [spec_pzGood.j0, if_true]
   exact Ev.now _
 ·simp only [if_neg h]
  refine Ev.succ ?_
  simp only [spec_pzGood.j0, if_true]
  exact Ev.now _
theorem ev_impl_gd (s : Int) (cs : List S_impl_Clue) : Ev (fun k => impl_IsPuzzle.f k s cs) (gd s cs) := by
 unfold impl_IsPuzzle.f impl_isSide.f gd
 simp only [impl_within_eq, Option.bind_some]
 refine Ev.iteB (fun h => ?_) (fun _ => Ev.now _)
 rw [Bool.and_eq_true, decide_eq_true_eq, decide_eq_true_eq] at h
 by_cases h6 : cs.length ≤ 6
 ·rw [if_pos h6]
  simp (disch := omega) only [if_pos]
  unfold slices_ContainsFunc_impl_Clue_at_impl_IsPuzzle_1.f slices_IndexFunc_impl_Clue_at_impl_IsPuzzle_1.f
  have go : ∀ (d i : Nat), i + d = cs.length → Ev (fun k => slices_IndexFunc_impl_Clue_at_impl_IsPuzzle_1.l0 k cs cs.length i s cs) (fi (fun c => !okC s c) (cs.drop i) i) := by
   intro d
   induction d with
   | zero =>
    intro i hi
    refine Ev.succ ?_
    simp (disch := omega) only [slices_IndexFunc_impl_Clue_at_impl_IsPuzzle_1.l0, if_neg]
    rw [List.drop_of_length_le (by omega)]
    exact Ev.now _
   | succ d ih =>
    intro i hi
    refine Ev.succ ?_
    have hil : i < cs.length := by omega
    simp (disch := omega) only [slices_IndexFunc_impl_Clue_at_impl_IsPuzzle_1.l0, if_pos, rd_cl, w64]
    unfold impl_IsPuzzle_1.f
    rw [drop_cl hil]
    show Ev _ (if (!okC s (cl cs i)) = true then (i : Int) else fi _ (cs.drop (i + 1)) (i + 1))
    refine Ev.bind (a := !okC s (cl cs i)) (Ev.bind (ev_impl_clue h _) (Ev.now _)) ?_
    exact Ev.iteB (fun _ => Ev.now _) (fun _ => ih (i + 1) (by omega))
  have := go cs.length 0 (by omega)
  refine Ev.bind (a := !cs.all (okC s)) (Ev.bind this (Ev.some ?_)) (Ev.some ?_)
  ·rw [fi_any, List.drop_zero, List.not_all_eq_any_not]
  ·rw [Bool.not_not]
 ·rw [if_neg h6]
  simp (disch := omega) only [if_neg]
  exact Ev.now _
section
variable {α : Type} {f : Nat → Bool → Option α} {r t : α} (s : Int) (cs : List S_impl_Clue)
theorem askGS (hy : (1 ≤ s ∧ s ≤ 12) → cs.length ≤ 6 → (∀ c, c ∈ cs → CP s c) → Ev (fun k => f k true) r) (hn : Ev (fun k => f k false) t) : Ev (fun k => (spec_pzGood.f k s cs).bind (f k)) (if gd s cs = true then r else t) := by
 refine Ev.bind (ev_spec_gd s cs) ?_
 cases h : gd s cs with
 | true => obtain ⟨h1, h2, h3⟩ := gd_iff h; simpa using hy h1 h2 h3
 | false => simpa using hn
theorem askGI (hy : (1 ≤ s ∧ s ≤ 12) → cs.length ≤ 6 → (∀ c, c ∈ cs → CP s c) → Ev (fun k => f k true) r) (hn : Ev (fun k => f k false) t) : Ev (fun k => (impl_IsPuzzle.f k s cs).bind (f k)) (if gd s cs = true then r else t) := by
 refine Ev.bind (ev_impl_gd s cs) ?_
 cases h : gd s cs with
 | true => obtain ⟨h1, h2, h3⟩ := gd_iff h; simpa using hy h1 h2 h3
 | false => simpa using hn
end

end Go.Proofs.YtoeclfihlhmnpaaDoor.B
