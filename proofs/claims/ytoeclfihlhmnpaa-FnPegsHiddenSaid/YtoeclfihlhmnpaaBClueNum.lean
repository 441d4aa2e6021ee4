/- Numbers between bounds, without signs, and their greatest common divisors. -/
import Derived.Test.YtoeclfihlhmnpaaX0
import Derived.Test.YtoeclfihlhmnpaaX3
import Derived.Test.YtoeclfihlhmnpaaX4
import Derived.Test.YtoeclfihlhmnpaaBBase
namespace Go.Proofs.Ytoeclfihlhmnpaa.B
open Go.RowKit Go.Proofs.Ytoeclfihlhmnpaa.XW Go.Proofs.Ytoeclfihlhmnpaa.X Go.Proofs.YtoeclfihlhmnpaaW.PrintWords Go.Proofs.YtoeclfihlhmnpaaW.PrintLast Go.Proofs.Ytoeclfihlhmnpaa.B
set_option linter.unusedVariables false
set_option linter.unusedSimpArgs false
set_option maxRecDepth 20000

theorem spec_turn_eq {a b c : S_impl_Peg} (ha : Sm 1000000 a) (hb : Sm 1000000 b) (hc : Sm 1000000 c) : spec_pgTurn.f a.f0 a.f1 b.f0 b.f1 c.f0 c.f1 = some (tn a b c) := by
  have h := tn_bd ha hb hc
  unfold spec_pgTurn.f
  unfold tn at *
  unfold Sm at *
  rw [w64 (x := b.f0 - a.f0) (by omega), w64 (x := c.f1 - a.f1) (by omega), w64 (x := b.f1 - a.f1) (by omega), w64 (x := c.f0 - a.f0) (by omega)]
  have h1 := mul_bd (x := b.f0 - a.f0) (y := c.f1 - a.f1) (A := 2000000) (B := 2000000) (by omega) (by omega)
  have h2 := mul_bd (x := b.f1 - a.f1) (y := c.f0 - a.f0) (A := 2000000) (B := 2000000) (by omega) (by omega)
  rw [w64 (x := (b.f0 - a.f0) * (c.f1 - a.f1)) (by omega), w64 (x := (b.f1 - a.f1) * (c.f0 - a.f0)) (by omega), w64 (by omega)]
theorem impl_within_eq (n a b : Int) : impl_within.f n a b = some (decide (a ≤ n) && decide (n ≤ b)) := by
  unfold impl_within.f
  split
  · rename_i h
    have : a ≤ n := h
    simp [this]
  · rename_i h
    have : ¬ a ≤ n := h
    simp [this]
theorem spec_in_eq (n a b : Int) : spec_l1In.f n a b = some (decide (a ≤ n) && decide (n ≤ b)) := by
  unfold spec_l1In.f
  split
  · rename_i h
    have : a ≤ n := h
    simp [this]
  · rename_i h
    have : ¬ a ≤ n := h
    simp [this]
def ab (n : Int) : Int := if n < 0 then -n else n
theorem impl_size_eq {n : Int} (h : -9223372036854775808 < n ∧ n ≤ 9223372036854775807) : impl_size.f n = some (ab n) := by
  unfold impl_size.f ab mx
  rw [w64 (by omega)]
  repeat' split
  all_goals first | rfl | omega | (congr 1; omega)
theorem spec_most_eq (a b : Int) : spec_l1Most.f a b = some (mx a b) := by
  unfold spec_l1Most.f mx
  repeat' split
  all_goals first | rfl | omega | (congr 1; omega)
theorem spec_abs_eq {n : Int} (h : -9223372036854775808 < n ∧ n ≤ 9223372036854775807) : spec_l1Abs.f n = some (ab n) := by
  unfold spec_l1Abs.f
  rw [w64 (by omega), spec_most_eq]
  simp only [Option.bind_some]
  unfold ab mx
  repeat' split
  all_goals first | rfl | omega | (congr 1; omega)
def gc (a b : Int) : Int := (Int.gcd a b : Int)
theorem gc_rec {a b : Int} : gc a b = gc b (Int.tmod a b) := by
  unfold gc
  congr 1
  show Nat.gcd a.natAbs b.natAbs = Nat.gcd b.natAbs (Int.tmod a b).natAbs
  rw [Int.natAbs_tmod, Nat.gcd_comm, Nat.gcd_rec, Nat.gcd_comm]
theorem gc_zero (a : Int) : gc a 0 = ab a := by
  unfold gc ab
  simp
  split <;> omega
theorem gc_bd (a b : Int) : 0 ≤ gc a b ∧ gc a b ≤ a.natAbs + b.natAbs := by
  unfold gc
  have h : Int.gcd a b ≤ a.natAbs + b.natAbs := by
    show Nat.gcd a.natAbs b.natAbs ≤ a.natAbs + b.natAbs
    by_cases h0 : a.natAbs = 0
    · rw [h0, Nat.gcd_zero_left]
      omega
    · have := Nat.gcd_le_left b.natAbs (show 0 < a.natAbs by omega)
      omega
  omega
theorem gc_pos {a b : Int} (h : a ≠ 0 ∨ b ≠ 0) : 0 < gc a b := by
  unfold gc
  have : 0 < Int.gcd a b := by
    rcases h with h | h
    · exact Nat.gcd_pos_of_pos_left _ (by omega)
    · exact Nat.gcd_pos_of_pos_right _ (by omega)
  omega
theorem tmod_small {a b : Int} (hb : b ≠ 0) : (Int.tmod a b).natAbs < b.natAbs := by
  rw [Int.natAbs_tmod]
  exact Nat.mod_lt _ (by omega)
theorem ev_impl_divisor_l : ∀ (n : Nat) (a b : Int), b.natAbs ≤ n → (a.natAbs ≤ 4611686018427387904) → (b.natAbs ≤ 4611686018427387904) → Ev (fun k => impl_divisor.l0 k a b) (gc a b) := by
  intro n
  induction n with
  | zero =>
    intro a b hb h1 h2
    obtain rfl : b = 0 := by omega
    refine Ev.succ ?_
    simp only [impl_divisor.l0, if_true, impl_size_eq (n := a) (by omega), Option.bind_some]
    exact Ev.some (gc_zero a).symm
  | succ n ih =>
    intro a b hb h1 h2
    refine Ev.succ ?_
    by_cases h0 : b = 0
    · subst h0
      simp only [impl_divisor.l0, if_true, impl_size_eq (n := a) (by omega), Option.bind_some]
      exact Ev.some (gc_zero a).symm
    · have hs := tmod_small (a := a) h0
      simp only [impl_divisor.l0, if_neg h0]
      rw [gc_rec]
      exact ih b (Int.tmod a b) (by omega) h2 (by omega)
theorem ev_impl_divisor (a b : Int) (h1 : a.natAbs ≤ 4611686018427387904) (h2 : b.natAbs ≤ 4611686018427387904) : Ev (fun k => impl_divisor.f k a b) (gc a b) := by
  unfold impl_divisor.f
  exact ev_impl_divisor_l b.natAbs a b (by omega) h1 h2
theorem ev_spec_common_l : ∀ (n : Nat) (a b : Int), 0 ≤ a → 0 ≤ b → b.natAbs ≤ n → Ev (fun k => spec_pgCommon.l0 k a b) (gc a b) := by
  intro n
  induction n with
  | zero =>
    intro a b ha hb h
    obtain rfl : b = 0 := by omega
    refine Ev.succ ?_
    simp (disch := omega) only [spec_pgCommon.l0, if_neg]
    refine Ev.some ?_
    rw [gc_zero]
    unfold ab
    split <;> omega
  | succ n ih =>
    intro a b ha hb h
    refine Ev.succ ?_
    by_cases h0 : b = 0
    · subst h0
      simp (disch := omega) only [spec_pgCommon.l0, if_neg]
      refine Ev.some ?_
      rw [gc_zero]
      unfold ab
      split <;> omega
    · have hs := tmod_small (a := a) h0
      simp (disch := omega) only [spec_pgCommon.l0, if_pos, if_neg]
      rw [gc_rec]
      exact ih b (Int.tmod a b) hb (Int.tmod_nonneg _ ha) (by omega)
theorem gc_ab (a b : Int) : gc (ab a) (ab b) = gc a b := by
  unfold gc
  congr 1
  show Nat.gcd (ab a).natAbs (ab b).natAbs = Nat.gcd a.natAbs b.natAbs
  have e : ∀ x : Int, (ab x).natAbs = x.natAbs := by
    intro x
    unfold ab
    split <;> omega
  rw [e, e]
theorem ev_spec_common (a b : Int) (h1 : a.natAbs ≤ 4611686018427387904) (h2 : b.natAbs ≤ 4611686018427387904) : Ev (fun k => spec_pgCommon.f k a b) (gc a b) := by
  unfold spec_pgCommon.f
  rw [spec_abs_eq (n := a) (by omega), spec_abs_eq (n := b) (by omega), ← gc_ab]
  simp only [Option.bind_some]
  exact ev_spec_common_l (ab b).natAbs _ _ (by unfold ab; split <;> omega) (by unfold ab; split <;> omega) (by omega)
/-- How many steps a line has. -/
def st (p q : S_impl_Peg) : Int := gc (p.f0 - q.f0) (p.f1 - q.f1)
theorem ev_impl_steps {p q : S_impl_Peg} (hp : Sm 1000000 p) (hq : Sm 1000000 q) : Ev (fun k => impl_steps.f k p.f0 p.f1 q.f0 q.f1) (st p q) := by
  unfold impl_steps.f
  unfold Sm at hp hq
  rw [w64 (x := p.f0 - q.f0) (by omega), w64 (x := p.f1 - q.f1) (by omega)]
  exact Ev.bind (ev_impl_divisor _ _ (by omega) (by omega)) (Ev.now _)
theorem ev_spec_step {p q : S_impl_Peg} (hp : Sm 1000000 p) (hq : Sm 1000000 q) : Ev (fun k => spec_pgStep.f k p.f0 p.f1 q.f0 q.f1) (st p q) := by
  unfold spec_pgStep.f
  unfold Sm at hp hq
  rw [w64 (x := p.f0 - q.f0) (by omega), w64 (x := p.f1 - q.f1) (by omega)]
  exact Ev.bind (ev_spec_common _ _ (by omega) (by omega)) (Ev.now _)
theorem st_bd {B : Int} {p q : S_impl_Peg} (hp : Sm B p) (hq : Sm B q) : 0 ≤ st p q ∧ st p q ≤ 4 * B := by
  unfold Sm at hp hq
  have := gc_bd (p.f0 - q.f0) (p.f1 - q.f1)
  unfold st
  omega

end Go.Proofs.Ytoeclfihlhmnpaa.B
