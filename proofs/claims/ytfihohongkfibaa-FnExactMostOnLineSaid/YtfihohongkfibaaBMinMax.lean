-- thin
/- The least and the greatest numbers of a list's pegs. -/
import Derived.Test.YtfihohongkfibaaX0
import Derived.Test.YtfihohongkfibaaBBase
namespace Go.Proofs.Ytfihohongkfibaa.B
open Go.RowKit Go.Proofs.Ytfihohongkfibaa.XW Go.Proofs.Ytfihohongkfibaa.X Go.Proofs.YtfihohongkfibaaW.PrintWords Go.Proofs.YtfihohongkfibaaW.PrintLast Go.Proofs.Ytfihohongkfibaa.B
set_option linter.unusedVariables false
set_option linter.unusedSimpArgs false
set_option maxRecDepth 20000

def mnN (f : Nat → Int) : Nat → Int
 | 0 => f 0
 | m + 1 => mn (mnN f m) (f m)
def mxN (f : Nat → Int) : Nat → Int
 | 0 => f 0
 | m + 1 => mx (mxN f m) (f m)
theorem mnN_bd {f : Nat → Int} {A B : Int} {m : Nat} (h0 : A ≤ f 0 ∧ f 0 ≤ B) (h : ∀ i, i < m → A ≤ f i ∧ f i ≤ B) : A ≤ mnN f m ∧ mnN f m ≤ B := by
 induction m with
 | zero => exact h0
 | succ m ih =>
  have h1 := ih (fun i hi => h i (by omega))
  have h2 := h m (by omega)
  show A ≤ mn (mnN f m) (f m) ∧ mn (mnN f m) (f m) ≤ B
  unfold mn
  split <;> omega
theorem mxN_bd {f : Nat → Int} {A B : Int} {m : Nat} (h0 : A ≤ f 0 ∧ f 0 ≤ B) (h : ∀ i, i < m → A ≤ f i ∧ f i ≤ B) : A ≤ mxN f m ∧ mxN f m ≤ B := by
 induction m with
 | zero => exact h0
 | succ m ih =>
  have h1 := ih (fun i hi => h i (by omega))
  have h2 := h m (by omega)
  show A ≤ mx (mxN f m) (f m) ∧ mx (mxN f m) (f m) ≤ B
  unfold mx
  split <;> omega
theorem mnN_le {f : Nat → Int} {m : Nat} : ∀ i, i < m → mnN f m ≤ f i := by
 induction m with
 | zero => intro i h; omega
 | succ m ih =>
  intro i hi
  show mn (mnN f m) (f m) ≤ f i
  unfold mn
  by_cases e : i = m
  ·subst e
   split <;> omega
  ·have := ih i (by omega)
   split <;> omega
theorem le_mxN {f : Nat → Int} {m : Nat} : ∀ i, i < m → f i ≤ mxN f m := by
 induction m with
 | zero => intro i h; omega
 | succ m ih =>
  intro i hi
  show f i ≤ mx (mxN f m) (f m)
  unfold mx
  by_cases e : i = m
  ·subst e
   split <;> omega
  ·have := ih i (by omega)
   split <;> omega

end Go.Proofs.Ytfihohongkfibaa.B
