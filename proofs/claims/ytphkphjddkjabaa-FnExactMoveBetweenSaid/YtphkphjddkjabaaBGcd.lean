-- thin
/- Greatest common divisors, in the reference (for claims that reach neither areas nor steps in the program). -/
import Derived.Test.YtphkphjddkjabaaX0
import Derived.Test.YtphkphjddkjabaaX5
import Derived.Test.YtphkphjddkjabaaBBase
import Derived.Test.YtphkphjddkjabaaBCore
namespace Go.Proofs.Ytphkphjddkjabaa.B
open Go.RowKit Go.Proofs.Ytphkphjddkjabaa.XW Go.Proofs.Ytphkphjddkjabaa.X Go.Proofs.YtphkphjddkjabaaW.PrintWords Go.Proofs.YtphkphjddkjabaaW.PrintLast Go.Proofs.Ytphkphjddkjabaa.B
set_option linter.unusedVariables false
set_option linter.unusedSimpArgs false
set_option maxRecDepth 20000

/-! ### A number without its sign -/
def ab (n : Int) : Int := if n < 0 then -n else n
theorem spec_most_eq (a b : Int) : spec_l1Most.f a b = some (mx a b) := by
 unfold spec_l1Most.f mx
 repeat' split
 all_goals first | rfl | omega | (congr 1; omega)
theorem spec_abs_eq {n : Int} (h : -9223372036854775808 < n ∧ n ≤ 9223372036854775807) : spec_l1Abs.f n = some (ab n) := by
 unfold spec_l1Abs.f
 rw [w64 (by omega), spec_most_eq]
 simp only [Option.bind_some]
 unfold ab mx
 repeat' split
 all_goals first | rfl | omega | (congr 1; omega)


def gc (a b : Int) : Int := (Int.gcd a b : Int)
theorem gc_rec {a b : Int} : gc a b = gc b (Int.tmod a b) := by
 unfold gc
 congr 1
 show Nat.gcd a.natAbs b.natAbs = Nat.gcd b.natAbs (Int.tmod a b).natAbs
 rw [Int.natAbs_tmod, Nat.gcd_comm, Nat.gcd_rec, Nat.gcd_comm]
theorem gc_zero (a : Int) : gc a 0 = ab a := by
 unfold gc ab
 simp
 split <;> omega
theorem gc_bd (a b : Int) : 0 ≤ gc a b ∧ gc a b ≤ a.natAbs + b.natAbs := by
 unfold gc
 have h : Int.gcd a b ≤ a.natAbs + b.natAbs := by
  show Nat.gcd a.natAbs b.natAbs ≤ a.natAbs + b.natAbs
  by_cases h0 : a.natAbs = 0
  ·rw [h0, Nat.gcd_zero_left]
   omega
  ·have := Nat.gcd_le_left b.natAbs (show 0 < a.natAbs by omega)
   omega
 omega
theorem gc_pos {a b : Int} (h : a ≠ 0 ∨ b ≠ 0) : 0 < gc a b := by
 unfold gc
 have : 0 < Int.gcd a b := by
  rcases h with h | h
  ·exact Nat.gcd_pos_of_pos_left _ (by omega)
  ·exact Nat.gcd_pos_of_pos_right _ (by omega)
 omega
theorem tmod_small {a b : Int} (hb : b ≠ 0) : (Int.tmod a b).natAbs < b.natAbs := by
 rw [Int.natAbs_tmod]
 exact Nat.mod_lt _ (by omega)
theorem gc_ab (a b : Int) : gc (ab a) (ab b) = gc a b := by
 unfold gc
 congr 1
 show Nat.gcd (ab a).natAbs (ab b).natAbs = Nat.gcd a.natAbs b.natAbs
 have e : ∀ x : Int, (ab x).natAbs = x.natAbs := by
  intro x
  unfold ab
  split <;> omega
 rw [e, e]
theorem tdv_bd {x B : Int} (h : -B ≤ x ∧ x ≤ B) (d : Int) : -B ≤ Int.tdiv x d ∧ Int.tdiv x d ≤ B := by
 have h1 : (Int.tdiv x d).natAbs ≤ x.natAbs := by
  rw [Int.natAbs_tdiv]
  exact Nat.div_le_self _ _
 omega
theorem dv_eq {d n : Int} (hn : 0 < n) (h : n ∣ d) : n * Int.tdiv d n = d := by
 obtain ⟨c, rfl⟩ := h
 rw [Int.mul_tdiv_cancel_left _ (by omega)]

end Go.Proofs.Ytphkphjddkjabaa.B
