/- Clues of a board, and whether a peg fits one, in the reference and in the program. -/
import Derived.Test.YtoeclfihlhmnpaaX0
import Derived.Test.YtoeclfihlhmnpaaX3
import Derived.Test.YtoeclfihlhmnpaaX4
import Derived.Test.YtoeclfihlhmnpaaX6
import Derived.Test.YtoeclfihlhmnpaaX7
import Derived.Test.YtoeclfihlhmnpaaX10
import Derived.Test.YtoeclfihlhmnpaaX11
import Derived.Test.YtoeclfihlhmnpaaBBase
import Derived.Test.YtoeclfihlhmnpaaBClueNum
namespace Go.Proofs.Ytoeclfihlhmnpaa.B
open Go.RowKit Go.Proofs.Ytoeclfihlhmnpaa.XW Go.Proofs.Ytoeclfihlhmnpaa.X Go.Proofs.YtoeclfihlhmnpaaW.PrintWords Go.Proofs.YtoeclfihlhmnpaaW.PrintLast Go.Proofs.Ytoeclfihlhmnpaa.B
set_option linter.unusedVariables false
set_option linter.unusedSimpArgs false
set_option maxRecDepth 20000

def cl (l : List S_impl_Clue) (i : Nat) : S_impl_Clue := l.getD i z_impl_Clue
theorem rd_cl (l : List S_impl_Clue) (i : Nat) : rd_impl_Clue l (i : Int) = cl l i := by
  unfold rd_impl_Clue cl
  rw [Int.toNat_natCast]
theorem cl_mem {l : List S_impl_Clue} {i : Nat} (h : i < l.length) : cl l i ∈ l := by
  unfold cl
  rw [List.getD_eq_getElem?_getD, List.getElem?_eq_getElem h]
  exact List.getElem_mem h
theorem drop_cl {l : List S_impl_Clue} {i : Nat} (h : i < l.length) : l.drop i = cl l i :: l.drop (i + 1) := by
  rw [List.drop_eq_getElem_cons h]
  congr 1
  unfold cl
  rw [List.getD_eq_getElem?_getD, List.getElem?_eq_getElem h]
  rfl
/-- A clue of a board. -/
def CP (s : Int) (c : S_impl_Clue) : Prop :=
  0 ≤ c.f1 ∧ ((c.f0 = 0 ∨ c.f0 = 1) ∧ c.f1 ≤ s ∧ c.f2 = 0 ∧ c.f3 = 0 ∨ c.f0 = 2 ∧ c.f1 ≤ 2 * s ∧ c.f2 = 0 ∧ c.f3 = 0 ∨
    (c.f0 = 3 ∧ c.f3 ≤ s * s ∨ c.f0 = 4 ∧ c.f3 ≤ 2 * s * s ∨ c.f0 = 5 ∧ c.f3 ≤ 1) ∧ c.f1 ≤ s ∧ 0 ≤ c.f2 ∧ c.f2 ≤ s ∧ 0 ≤ c.f3)
instance (s : Int) (c : S_impl_Clue) : Decidable (CP s c) := by
  unfold CP
  infer_instance
def okC (s : Int) (c : S_impl_Clue) : Bool := decide (CP s c)
theorem okC_iff {s : Int} {c : S_impl_Clue} : okC s c = true ↔ CP s c := by
  unfold okC
  rw [decide_eq_true_eq]
theorem ok_ev {s : Int} {c : S_impl_Clue} {b : Bool} (h : b = true ↔ CP s c) : Ev (fun _ : Nat => some b) (okC s c) := by
  refine Ev.some ?_
  rw [Bool.eq_iff_iff, okC_iff]
  exact h
theorem Ev.ite_ {α : Type} {p : Prop} [Decidable p] {f g : Nat → Option α} {r : α} (h : p → Ev f r) (h' : ¬ p → Ev g r) : Ev (fun k => if p then f k else g k) r := by
  by_cases c : p
  · simpa only [if_pos c] using h c
  · simpa only [if_neg c] using h' c
theorem Ev.iteP {α : Type} {p : Prop} [Decidable p] {f g : Nat → Option α} {r s : α} (h : p → Ev f r) (h' : ¬ p → Ev g s) : Ev (fun k => if p then f k else g k) (if p then r else s) := by
  by_cases c : p
  · simpa only [if_pos c] using h c
  · simpa only [if_neg c] using h' c
section
variable {s : Int} (hs : 1 ≤ s ∧ s ≤ 12)
include hs
theorem sq_eq : wrap64 (s * s) = s * s ∧ wrap64 (2 * s * s) = 2 * s * s := by
  have h1 := mul_bd (x := s) (y := s) (A := 12) (B := 12) (by omega) (by omega)
  have h2 := mul_bd (x := 2 * s) (y := s) (A := 24) (B := 12) (by omega) (by omega)
  rw [w64 (x := s * s) (by omega), w64 (x := 2 * s * s) (by omega)]
  exact ⟨rfl, rfl⟩
theorem ev_spec_clue (c : S_impl_Clue) : Ev (fun k => spec_pzClue.f k s c.f0 c.f1 c.f2 c.f3) (okC s c) := by
  obtain ⟨e1, e2⟩ := sq_eq hs
  have j0 : ∀ b : Bool, (b = true ↔ (c.f0 = 0 ∨ c.f0 = 1)) → Ev (fun k => spec_pzClue.j0 k s c.f0 b c.f0 c.f1 c.f2 c.f3) (okC s c) := by
    intro b hb
    refine Ev.succ ?_
    simp only [spec_pzClue.j0, spec_in_eq, Option.bind_some, e1, e2, w64 (x := 2 * s) (by omega)]
    repeat' (refine Ev.ite_ (fun _ => ?_) (fun _ => ?_))
    all_goals
      simp only [Bool.and_eq_true, decide_eq_true_eq, hb] at *
      refine ok_ev ?_
      simp only [Bool.and_eq_true, decide_eq_true_eq, beq_iff_eq, Bool.false_eq_true, false_iff]
      unfold CP
      omega
  unfold spec_pzClue.f
  refine Ev.ite_ (fun h => j0 _ ?_) (fun h => j0 _ ?_)
  · rw [beq_iff_eq]
    omega
  · rw [beq_iff_eq]
    omega
theorem ev_impl_clue (c : S_impl_Clue) : Ev (fun k => impl_IsClue.f k s c.f0 c.f1 c.f2 c.f3) (okC s c) := by
  obtain ⟨e1, e2⟩ := sq_eq hs
  have j1 : ∀ b : Bool, (b = true ↔ (c.f0 = 0 ∨ c.f0 = 1 ∨ c.f0 = 2)) → (0 ≤ c.f1 ∧ c.f1 ≤ 2 * s ∧ 0 ≤ c.f2 ∧ c.f2 ≤ s ∧ (c.f0 = 2 ∨ c.f1 ≤ s)) → Ev (fun k => impl_IsClue.j1 k s c.f0 b c.f0 c.f1 c.f2 c.f3) (okC s c) := by
    intro b hb h1
    refine Ev.succ ?_
    simp only [impl_IsClue.j1, impl_within_eq, Option.bind_some, e1, e2, w64 (x := 2 * s) (by omega)]
    repeat' (refine Ev.ite_ (fun _ => ?_) (fun _ => ?_))
    all_goals
      simp only [Bool.and_eq_true, decide_eq_true_eq, hb] at *
      refine ok_ev ?_
      simp only [Bool.and_eq_true, decide_eq_true_eq, beq_iff_eq, Bool.false_eq_true, false_iff]
      unfold CP
      omega
  have j0 : ∀ b : Bool, (b = false ↔ (0 ≤ c.f1 ∧ c.f1 ≤ 2 * s ∧ 0 ≤ c.f2 ∧ c.f2 ≤ s ∧ (c.f0 = 2 ∨ c.f1 ≤ s))) → Ev (fun k => impl_IsClue.j0 k s b c.f0 c.f1 c.f2 c.f3) (okC s c) := by
    intro b hb
    refine Ev.succ ?_
    cases b with
    | true =>
      simp only [impl_IsClue.j0, if_true]
      refine ok_ev ?_
      have : ¬ (0 ≤ c.f1 ∧ c.f1 ≤ 2 * s ∧ 0 ≤ c.f2 ∧ c.f2 ≤ s ∧ (c.f0 = 2 ∨ c.f1 ≤ s)) := fun h => absurd (hb.2 h) (by simp)
      simp only [Bool.false_eq_true, false_iff]
      unfold CP
      omega
    | false =>
      have h1 := hb.1 rfl
      simp only [impl_IsClue.j0, Bool.false_eq_true, if_false]
      refine Ev.ite_ (fun h => j1 _ ?_ h1) (fun h => Ev.ite_ (fun h' => j1 _ ?_ h1) (fun h' => j1 _ ?_ h1))
      · rw [beq_iff_eq]
        omega
      · rw [beq_iff_eq]
        omega
      · rw [beq_iff_eq]
        omega
  unfold impl_IsClue.f impl_isSide.f
  simp only [impl_within_eq, Option.bind_some, w64 (x := 2 * s) (by omega)]
  have hsd : (decide (1 ≤ s) && decide (s ≤ 12)) = true := by
    rw [Bool.and_eq_true, decide_eq_true_eq, decide_eq_true_eq]
    exact hs
  rw [hsd]
  simp only [if_true]
  refine Ev.ite_ (fun h => ?_) (fun h => ?_)
  · rw [Bool.and_eq_true, decide_eq_true_eq, decide_eq_true_eq] at h
    refine Ev.ite_ (fun h2 => ?_) (fun h2 => ?_)
    · rw [Bool.and_eq_true, decide_eq_true_eq, decide_eq_true_eq] at h2
      refine Ev.ite_ (fun h3 => j0 _ ?_) (fun h3 => j0 _ ?_)
      · simp only [true_iff]
        omega
      · rw [decide_eq_false_iff_not]
        omega
    · rw [Bool.and_eq_true, decide_eq_true_eq, decide_eq_true_eq] at h2
      refine j0 _ ?_
      simp only [Bool.true_eq_false, false_iff]
      omega
  · rw [Bool.and_eq_true, decide_eq_true_eq, decide_eq_true_eq] at h
    refine j0 _ ?_
    simp only [Bool.true_eq_false, false_iff]
    omega
end
/-! ### What a clue tells of a peg -/
def cq (c : S_impl_Clue) : S_impl_Peg := ⟨c.f1, c.f2⟩
def far (q p : S_impl_Peg) : Int := (q.f0 - p.f0) * (q.f0 - p.f0) + (q.f1 - p.f1) * (q.f1 - p.f1)
def vl (n : Int) (q p : S_impl_Peg) : Int := if n = 0 then p.f0 else if n = 1 then p.f1 else if n = 2 then p.f0 + p.f1 else if n = 3 then ab (q.f0 * p.f1 - q.f1 * p.f0) else if n = 4 then far q p else if st q p < 2 then 1 else 0
/-- A peg fits a clue. -/
def fit (c : S_impl_Clue) (p : S_impl_Peg) : Bool := if c.f0 < 3 then vl c.f0 (cq c) p == c.f1 else vl c.f0 (cq c) p == c.f3
theorem st_sym (p q : S_impl_Peg) : st p q = st q p := by
  unfold st gc
  congr 1
  show Nat.gcd (p.f0 - q.f0).natAbs (p.f1 - q.f1).natAbs = Nat.gcd (q.f0 - p.f0).natAbs (q.f1 - p.f1).natAbs
  congr 1 <;> omega
theorem far_sym (p q : S_impl_Peg) : far p q = far q p := by
  unfold far
  have e : ∀ x y : Int, (x - y) * (x - y) = (y - x) * (y - x) := fun x y => by
    rw [← Int.neg_sub x y, Int.neg_mul_neg]
  rw [e, e p.f1]
theorem far_bd {p q : S_impl_Peg} (hp : Sm 1000 p) (hq : Sm 1000 q) : 0 ≤ far q p ∧ far q p ≤ 8000000 := by
  unfold Sm at *
  unfold far
  have h1 := mul_bd (x := q.f0 - p.f0) (y := q.f0 - p.f0) (A := 2000) (B := 2000) (by omega) (by omega)
  have h2 := mul_bd (x := q.f1 - p.f1) (y := q.f1 - p.f1) (A := 2000) (B := 2000) (by omega) (by omega)
  have h3 := sqr_nonneg (q.f0 - p.f0)
  have h4 := sqr_nonneg (q.f1 - p.f1)
  omega
section
variable {c : S_impl_Clue} {p : S_impl_Peg} (hc : Sm 1000 (cq c)) (hp : Sm 1000 p)
include hc hp
theorem prods : (-1000000 ≤ c.f1 * p.f1 ∧ c.f1 * p.f1 ≤ 1000000) ∧ (-1000000 ≤ c.f2 * p.f0 ∧ c.f2 * p.f0 ≤ 1000000) := by
  unfold Sm cq at hc
  unfold Sm at hp
  simp only at hc
  have h1 := mul_bd (x := c.f1) (y := p.f1) (A := 1000) (B := 1000) (by omega) (by omega)
  have h2 := mul_bd (x := c.f2) (y := p.f0) (A := 1000) (B := 1000) (by omega) (by omega)
  omega
theorem ev_spec_value : Ev (fun k => spec_pzValue.f k c.f0 c.f1 c.f2 p.f0 p.f1) (vl c.f0 (cq c) p) := by
  obtain ⟨q1, q2⟩ := prods hc hp
  have hst := ev_spec_step (p := cq c) (q := p) (hc.mono (by omega)) (hp.mono (by omega))
  have hf := far_bd hp hc
  have h0 := spec_turn_eq (a := ⟨0, 0⟩) (b := cq c) (c := p) ⟨by show _ ≤ (0 : Int); omega, by show (0 : Int) ≤ _; omega, by show _ ≤ (0 : Int); omega, by show (0 : Int) ≤ _; omega⟩ (hc.mono (by omega)) (hp.mono (by omega))
  have e0 : tn ⟨0, 0⟩ (cq c) p = c.f1 * p.f1 - c.f2 * p.f0 := by
    unfold tn cq
    simp
  rw [e0] at h0
  unfold spec_pzValue.f vl
  refine Ev.iteP (fun _ => Ev.now _) (fun _ => Ev.iteP (fun _ => Ev.now _) (fun _ => Ev.iteP (fun _ => ?_) (fun _ => Ev.iteP (fun _ => ?_) (fun _ => Ev.iteP (fun _ => ?_) (fun _ => ?_)))))
  · unfold Sm at hp
    rw [w64 (by omega)]
    exact Ev.now _
  · show Ev (fun k => (spec_pgTurn.f 0 0 (cq c).f0 (cq c).f1 p.f0 p.f1).bind _) _
    simp only [h0, Option.bind_some, spec_abs_eq (n := c.f1 * p.f1 - c.f2 * p.f0) (by omega)]
    exact Ev.now _
  · unfold spec_bdFar.f
    unfold Sm cq at hc
    unfold Sm at hp
    simp only at hc
    unfold far cq at hf
    simp only at hf
    have h1 := sqr_nonneg (c.f1 - p.f0)
    have h2 := sqr_nonneg (c.f2 - p.f1)
    simp only [Option.bind_some]
    rw [w64 (x := c.f1 - p.f0) (by omega), w64 (x := c.f2 - p.f1) (by omega), w64 (x := (c.f1 - p.f0) * (c.f1 - p.f0)) (by omega), w64 (x := (c.f2 - p.f1) * (c.f2 - p.f1)) (by omega), w64 (by omega)]
    exact Ev.now _
  · refine Ev.bind hst ?_
    exact Ev.iteP (fun _ => Ev.now _) (fun _ => Ev.now _)
theorem ev_spec_fits : Ev (fun k => spec_pzFits.f k c.f0 c.f1 c.f2 c.f3 p.f0 p.f1) (fit c p) := by
  unfold spec_pzFits.f fit
  refine Ev.bind (ev_spec_value hc hp) ?_
  exact Ev.iteP (fun _ => Ev.now _) (fun _ => Ev.now _)
theorem ev_impl_fits (hk : 0 ≤ c.f0) : Ev (fun k => impl_fits.f k c.f0 c.f1 c.f2 c.f3 p.f0 p.f1) (fit c p) := by
  obtain ⟨q1, q2⟩ := prods hc hp
  have hst := ev_impl_steps (p := p) (q := cq c) (hp.mono (by omega)) (hc.mono (by omega))
  rw [st_sym] at hst
  have hf := far_bd hp hc
  unfold impl_fits.f impl_asHas.f fit vl
  by_cases k0 : c.f0 = 0
  · simp only [if_pos k0, Option.bind_some, beq_self_eq_true, Bool.true_and, Bool.and_true]
    rw [if_pos (by omega)]
    exact Ev.now _
  by_cases k1 : c.f0 = 1
  · simp only [if_neg k0, if_pos k1, Option.bind_some, beq_self_eq_true, Bool.true_and, Bool.and_true]
    rw [if_pos (by omega)]
    exact Ev.now _
  by_cases k2 : c.f0 = 2
  · simp only [if_neg k0, if_neg k1, if_pos k2, Option.bind_some, beq_self_eq_true, Bool.true_and, Bool.and_true]
    unfold Sm at hp
    rw [if_pos (by omega), w64 (by omega)]
    exact Ev.now _
  have h3 : ¬ c.f0 < 3 := by omega
  simp only [if_neg k0, if_neg k1, if_neg k2, if_neg h3]
  by_cases k3 : c.f0 = 3
  · simp only [if_pos k3]
    unfold impl_cross.f
    simp only [Option.bind_some]
    rw [w64 (x := c.f1 * p.f1) (by omega), w64 (x := c.f2 * p.f0) (by omega), w64 (x := c.f1 * p.f1 - c.f2 * p.f0) (by omega), impl_size_eq (n := c.f1 * p.f1 - c.f2 * p.f0) (by omega)]
    simp only [Option.bind_some, beq_self_eq_true, Bool.true_and]
    exact Ev.now _
  by_cases k4 : c.f0 = 4
  · simp only [if_neg k3, if_pos k4]
    rw [far_sym] at hf ⊢
    unfold impl_Peg_less.f impl_Peg_square.f
    unfold Sm cq at hc
    unfold Sm at hp
    simp only at hc
    unfold far cq at hf ⊢
    simp only at hf ⊢
    have h1 := sqr_nonneg (p.f0 - c.f1)
    have h2 := sqr_nonneg (p.f1 - c.f2)
    simp only [Option.bind_some]
    rw [w64 (x := p.f0 - c.f1) (by omega), w64 (x := p.f1 - c.f2) (by omega), w64 (x := (p.f0 - c.f1) * (p.f0 - c.f1)) (by omega), w64 (x := (p.f1 - c.f2) * (p.f1 - c.f2)) (by omega), w64 (by omega)]
    simp only [beq_self_eq_true, Bool.true_and]
    exact Ev.now _
  · simp only [if_neg k3, if_neg k4]
    refine Ev.bind (g := fun k => (impl_steps.f k p.f0 p.f1 c.f1 c.f2).bind fun t => if t < 2 then some (c.f0, c.f1, c.f2, 1) else some (c.f0, c.f1, c.f2, 0)) (a := if st (cq c) p < 2 then (c.f0, c.f1, c.f2, (1 : Int)) else (c.f0, c.f1, c.f2, 0)) ?_ ?_
    · refine Ev.bind hst ?_
      exact Ev.iteP (fun _ => Ev.now _) (fun _ => Ev.now _)
    · refine Ev.some ?_
      split <;> simp
end

end Go.Proofs.Ytoeclfihlhmnpaa.B
