-- thin
/- Greatest common divisors, in the reference (for claims that reach neither areas nor steps in the program). -/
import Derived.Test.YtfihohongkfibaaX0
import Derived.Test.YtfihohongkfibaaX6
import Derived.Test.YtfihohongkfibaaBBase
import Derived.Test.YtfihohongkfibaaBCore
namespace Go.Proofs.Ytfihohongkfibaa.B
open Go.RowKit Go.Proofs.Ytfihohongkfibaa.XW Go.Proofs.Ytfihohongkfibaa.X Go.Proofs.YtfihohongkfibaaW.PrintWords Go.Proofs.YtfihohongkfibaaW.PrintLast Go.Proofs.Ytfihohongkfibaa.B
set_option linter.unusedVariables false
set_option linter.unusedSimpArgs false
set_option maxRecDepth 20000

/-! ### A number without its sign -/
def ab (n : Int) : Int := if n < 0 then -n else n
theorem spec_most_eq (a b : Int) : spec_l1Most.f a b = some (mx a b) := by
 unfold spec_l1Most.f mx
 repeat' split
 all_goals first | rfl | omega | (congr 1; omega)
theorem spec_abs_eq {n : Int} (h : -9223372036854775808 < n ∧ n ≤ 9223372036854775807) : spec_l1Abs.f n = some (ab n) := by
 unfold spec_l1Abs.f
 rw [w64 (by omega), spec_most_eq]
 simp only [Option.bind_some]
 unfold ab mx
 repeat' split
 all_goals first | rfl | omega | (congr 1; omega)


def gc (a b : Int) : Int := (Int.gcd a b : Int)
theorem gc_rec {a b : Int} : gc a b = gc b (Int.tmod a b) := by
 unfold gc
 congr 1
 show Nat.gcd a.natAbs b.natAbs = Nat.gcd b.natAbs (Int.tmod a b).natAbs
 rw [Int.natAbs_tmod, Nat.gcd_comm, Nat.gcd_rec, Nat.gcd_comm]
theorem gc_zero (a : Int) : gc a 0 = ab a := by
 unfold gc ab
 simp
 split <;> omega
theorem gc_bd (a b : Int) : 0 ≤ gc a b ∧ gc a b ≤ a.natAbs + b.natAbs := by
 unfold gc
 have h : Int.gcd a b ≤ a.natAbs + b.natAbs := by
  show Nat.gcd a.natAbs b.natAbs ≤ a.natAbs + b.natAbs
  by_cases h0 : a.natAbs = 0
  ·rw [h0, Nat.gcd_zero_left]
   omega
  ·have := Nat.gcd_le_left b.natAbs (show 0 < a.natAbs by omega)
   omega
 omega
theorem gc_pos {a b : Int} (h : a ≠ 0 ∨ b ≠ 0) : 0 < gc a b := by
 unfold gc
 have : 0 < Int.gcd a b := by
  rcases h with h | h
  ·exact Nat.gcd_pos_of_pos_left _ (by omega)
  ·exact Nat.gcd_pos_of_pos_right _ (by omega)
 omega
theorem tmod_small {a b : Int} (hb : b ≠ 0) : (Int.tmod a b).natAbs < b.natAbs := by
 rw [Int.natAbs_tmod]
 exact Nat.mod_lt _ (by omega)
theorem ev_spec_common_l : ∀ (n : Nat) (a b : Int), 0 ≤ a → 0 ≤ b → b.natAbs ≤ n → Ev (fun k => spec_pgCommon.l0 k a b) (gc a b) := by
 intro n
 induction n with
 | zero =>
  intro a b ha hb h
  obtain rfl : b = 0 := by omega
  refine Ev.succ ?_
  simp (disch := omega) only [spec_pgCommon.l0, if_neg]
  refine Ev.some ?_
  rw [gc_zero]
  unfold ab
  split <;> omega
 | succ n ih =>
  intro a b ha hb h
  refine Ev.succ ?_
  by_cases h0 : b = 0
  ·subst h0
   simp (disch := omega) only [spec_pgCommon.l0, if_neg]
   refine Ev.some ?_
   rw [gc_zero]
   unfold ab
   split <;> omega
  ·have hs := tmod_small (a := a) h0
   simp (disch := omega) only [spec_pgCommon.l0, if_pos, if_neg]
   rw [gc_rec]
   exact ih b (Int.tmod a b) hb (Int.tmod_nonneg _ ha) (by omega)
theorem gc_ab (a b : Int) : gc (ab a) (ab b) = gc a b := by
 unfold gc
 congr 1
 show Nat.gcd (ab a).natAbs (ab b).natAbs = Nat.gcd a.natAbs b.natAbs
 have e : ∀ x : Int, (ab x).natAbs = x.natAbs := by
  intro x
  unfold ab
  split <;> omega
 rw [e, e]
theorem ev_spec_common (a b : Int) (h1 : a.natAbs ≤ 4611686018427387904) (h2 : b.natAbs ≤ 4611686018427387904) : Ev (fun k => spec_pgCommon.f k a b) (gc a b) := by
 unfold spec_pgCommon.f
 rw [spec_abs_eq (n := a) (by omega), spec_abs_eq (n := b) (by omega), ← gc_ab]
 simp only [Option.bind_some]
 exact ev_spec_common_l (ab b).natAbs _ _ (by unfold ab; split <;> omega) (by unfold ab; split <;> omega) (by omega)
theorem tdv_bd {x B : Int} (h : -B ≤ x ∧ x ≤ B) (d : Int) : -B ≤ Int.tdiv x d ∧ Int.tdiv x d ≤ B := by
 have h1 : (Int.tdiv x d).natAbs ≤ x.natAbs := by
  rw [Int.natAbs_tdiv]
  exact Nat.div_le_self _ _
 omega
theorem dv_eq {d n : Int} (hn : 0 < n) (h : n ∣ d) : n * Int.tdiv d n = d := by
 obtain ⟨c, rfl⟩ := h
 rw [Int.mul_tdiv_cancel_left _ (by omega)]

end Go.Proofs.Ytfihohongkfibaa.B
