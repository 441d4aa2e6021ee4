-- thin
/- Numbers without a wrap, eventual values, pegs read out of a list. -/
import Derived.Test.YtoeclfihlhmnpaaDoorX0
namespace Go.Proofs.YtoeclfihlhmnpaaDoor.B
open Go.RowKit Go.Proofs.YtoeclfihlhmnpaaDoor.XW Go.Proofs.YtoeclfihlhmnpaaDoor.X Go.Proofs.YtoeclfihlhmnpaaDoorW.PrintWords Go.Proofs.YtoeclfihlhmnpaaDoorW.PrintLast
set_option linter.unusedVariables false
set_option linter.unusedSimpArgs false
set_option maxRecDepth 20000

theorem w64 {x : Int} (h : -9223372036854775808 ≤ x ∧ x ≤ 9223372036854775807) : wrap64 x = x := by
 unfold wrap64
 omega
theorem Ev.succ {α : Type} {g : Nat → Option α} {r : α} (h : Ev (fun k => g (k + 1)) r) : Ev g r := by
 obtain ⟨K, hK⟩ := h
 refine ⟨K + 1, fun k hk => ?_⟩
 obtain ⟨j, rfl⟩ : ∃ j, k = j + 1 := ⟨k - 1, by omega⟩
 exact hK j (by omega)
theorem Ev.some {α : Type} {r s : α} (h : r = s) : Ev (fun _ => some r) s := by
 subst h
 exact Ev.now _
theorem Ev.bind0 {α β : Type} {g : Option α} {f : Nat → α → Option β} {a : α} {r : β} (h : g = .some a) (k : Ev (fun n => f n a) r) : Ev (fun n => g.bind (f n)) r := by
 subst h
 exact k
/-- Under an if of one Bool. -/
theorem Ev.iteB {α : Type} {b : Bool} {f g : Nat → Option α} {r s : α} (h : b = true → Ev f r) (h' : b = false → Ev g s) : Ev (fun k => if b = true then f k else g k) (if b = true then r else s) := by
 cases b
 ·simpa using h' rfl
 ·simpa using h rfl

theorem mul_bd {x y A B : Int} (hx : -A ≤ x ∧ x ≤ A) (hy : -B ≤ y ∧ y ≤ B) : -(A * B) ≤ x * y ∧ x * y ≤ A * B := by
 have hA : 0 ≤ A := by omega
 have hB : 0 ≤ B := by omega
 have h1 : (x.natAbs : Int) ≤ A := by omega
 have h2 : (y.natAbs : Int) ≤ B := by omega
 have h3 : ((x * y).natAbs : Int) ≤ A * B := by
  rw [Int.natAbs_mul, Int.natCast_mul]
  exact Int.mul_le_mul h1 h2 (by omega) hA
 omega
theorem bne_tf : (true != false) = true := rfl
theorem bne_ft : (false != true) = true := rfl
theorem bne_tt : (true != true) = false := rfl
theorem bne_ff : (false != false) = false := rfl
theorem beq_tf : (true == false) = false := rfl
theorem beq_ft : (false == true) = false := rfl
theorem beq_tt : (true == true) = true := rfl
theorem beq_ff : (false == false) = true := rfl

end Go.Proofs.YtoeclfihlhmnpaaDoor.B
