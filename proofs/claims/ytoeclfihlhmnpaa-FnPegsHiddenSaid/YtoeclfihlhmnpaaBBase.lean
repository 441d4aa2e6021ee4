/- Numbers without a wrap, eventual values, pegs read out of a list. -/
import Derived.Test.YtoeclfihlhmnpaaX0
namespace Go.Proofs.Ytoeclfihlhmnpaa.B
open Go.RowKit Go.Proofs.Ytoeclfihlhmnpaa.XW Go.Proofs.Ytoeclfihlhmnpaa.X Go.Proofs.YtoeclfihlhmnpaaW.PrintWords Go.Proofs.YtoeclfihlhmnpaaW.PrintLast
set_option linter.unusedVariables false
set_option linter.unusedSimpArgs false
set_option maxRecDepth 20000

theorem w64 {x : Int} (h : -9223372036854775808 ≤ x ∧ x ≤ 9223372036854775807) : wrap64 x = x := by
  unfold wrap64
  omega
theorem Ev.succ {α : Type} {g : Nat → Option α} {r : α} (h : Ev (fun k => g (k + 1)) r) : Ev g r := by
  obtain ⟨K, hK⟩ := h
  refine ⟨K + 1, fun k hk => ?_⟩
  obtain ⟨j, rfl⟩ : ∃ j, k = j + 1 := ⟨k - 1, by omega⟩
  exact hK j (by omega)
theorem Ev.some {α : Type} {r s : α} (h : r = s) : Ev (fun _ => some r) s := by
  subst h
  exact Ev.now _
theorem Ev.bind0 {α β : Type} {g : Option α} {f : Nat → α → Option β} {a : α} {r : β} (h : g = .some a) (k : Ev (fun n => f n a) r) : Ev (fun n => g.bind (f n)) r := by
  subst h
  exact k
/-- Under an if of one Bool. -/
theorem Ev.iteB {α : Type} {b : Bool} {f g : Nat → Option α} {r s : α} (h : b = true → Ev f r) (h' : b = false → Ev g s) : Ev (fun k => if b = true then f k else g k) (if b = true then r else s) := by
  cases b
  · simpa using h' rfl
  · simpa using h rfl

def pt (l : List S_impl_Peg) (i : Nat) : S_impl_Peg := l.getD i z_impl_Peg
theorem rd_pt (l : List S_impl_Peg) (i : Nat) : rd_impl_Peg l (i : Int) = pt l i := by
  unfold rd_impl_Peg pt
  rw [Int.toNat_natCast]
theorem pt_mem {l : List S_impl_Peg} {i : Nat} (h : i < l.length) : pt l i ∈ l := by
  unfold pt
  rw [List.getD_eq_getElem?_getD, List.getElem?_eq_getElem h]
  exact List.getElem_mem h
theorem peg_ext {p q : S_impl_Peg} (h0 : p.f0 = q.f0) (h1 : p.f1 = q.f1) : p = q := by
  cases p
  cases q
  simp_all
instance : DecidableEq S_impl_Peg := fun p q => if h : p.f0 = q.f0 ∧ p.f1 = q.f1 then isTrue (peg_ext h.1 h.2) else isFalse (fun e => h (by subst e; exact ⟨rfl, rfl⟩))
/-- A point whose numbers are small. -/
def Sm (B : Int) (p : S_impl_Peg) : Prop := -B ≤ p.f0 ∧ p.f0 ≤ B ∧ -B ≤ p.f1 ∧ p.f1 ≤ B
theorem Sm.mono {B C : Int} {p : S_impl_Peg} (h : Sm B p) (hc : B ≤ C) : Sm C p := by
  unfold Sm at *
  omega
theorem mul_bd {x y A B : Int} (hx : -A ≤ x ∧ x ≤ A) (hy : -B ≤ y ∧ y ≤ B) : -(A * B) ≤ x * y ∧ x * y ≤ A * B := by
  have hA : 0 ≤ A := by omega
  have hB : 0 ≤ B := by omega
  have h1 : (x.natAbs : Int) ≤ A := by omega
  have h2 : (y.natAbs : Int) ≤ B := by omega
  have h3 : ((x * y).natAbs : Int) ≤ A * B := by
    rw [Int.natAbs_mul, Int.natCast_mul]
    exact Int.mul_le_mul h1 h2 (by omega) hA
  omega
/-- Twice the area of three points. -/
def tn (a b c : S_impl_Peg) : Int := (b.f0 - a.f0) * (c.f1 - a.f1) - (b.f1 - a.f1) * (c.f0 - a.f0)
theorem tn_bd {B : Int} {a b c : S_impl_Peg} (ha : Sm B a) (hb : Sm B b) (hc : Sm B c) : -(8 * (B * B)) ≤ tn a b c ∧ tn a b c ≤ 8 * (B * B) := by
  unfold Sm at *
  unfold tn
  have h1 := mul_bd (x := b.f0 - a.f0) (y := c.f1 - a.f1) (A := 2 * B) (B := 2 * B) (by omega) (by omega)
  have h2 := mul_bd (x := b.f1 - a.f1) (y := c.f0 - a.f0) (A := 2 * B) (B := 2 * B) (by omega) (by omega)
  have e : 2 * B * (2 * B) = 4 * (B * B) := by rw [Int.mul_assoc, Int.mul_left_comm B 2 B, ← Int.mul_assoc]; rfl
  rw [e] at h1 h2
  omega
def sgn (n : Int) : Int := if n > 0 then 1 else if n < 0 then -1 else 0
theorem tmod_next {i n : Nat} (h : i < n) : Int.tmod ((i : Int) + 1) (n : Int) = ((if i + 1 = n then 0 else i + 1 : Nat) : Int) := by
  rw [Int.tmod_eq_emod_of_nonneg (by omega)]
  split
  · rename_i e
    rw [show ((i : Int) + 1) = (n : Int) by omega, Int.emod_self]
    rfl
  · rw [Int.emod_eq_of_lt (by omega) (by omega)]
    omega
theorem tmod_next2 {i n : Nat} (h : i < n) (h2 : 2 ≤ n) : Int.tmod ((i : Int) + 2) (n : Int) = ((if i + 2 < n then i + 2 else i + 2 - n : Nat) : Int) := by
  rw [Int.tmod_eq_emod_of_nonneg (by omega)]
  split
  · rw [Int.emod_eq_of_lt (by omega) (by omega)]
    omega
  · rename_i e
    rw [show ((i : Int) + 2) = ((i + 2 - n : Nat) : Int) + (n : Int) by omega, Int.add_emod_right, Int.emod_eq_of_lt (by omega) (by omega)]
/-- The corner behind corner i, around. -/
def nx (n i : Nat) : Nat := if i + 1 = n then 0 else i + 1
theorem nx_lt {n i : Nat} (h : i < n) : nx n i < n := by
  unfold nx
  split <;> omega
/-- The corner ahead of corner i, around. -/
def pv (n i : Nat) : Nat := if i = 0 then n - 1 else i - 1
theorem pv_lt {n i : Nat} (h : i < n) : pv n i < n := by
  unfold pv
  split <;> omega
theorem tmod1 {i n : Nat} (h : i < n) : Int.tmod ((i : Int) + 1) (n : Int) = (nx n i : Int) := tmod_next h
theorem tmod2 {i n : Nat} (h : i < n) (h2 : 3 ≤ n) : Int.tmod ((i : Int) + 2) (n : Int) = (nx n (nx n i) : Int) := by
  rw [tmod_next2 h (by omega)]
  unfold nx
  repeat' split
  all_goals omega
theorem sqr_nonneg (x : Int) : 0 ≤ x * x := by
  rcases Int.le_total 0 x with h | h
  · exact Int.mul_nonneg h h
  · exact Int.mul_nonneg_of_nonpos_of_nonpos h h
theorem bne_tf : (true != false) = true := rfl
theorem bne_ft : (false != true) = true := rfl
theorem bne_tt : (true != true) = false := rfl
theorem bne_ff : (false != false) = false := rfl
theorem beq_tf : (true == false) = false := rfl
theorem beq_ft : (false == true) = false := rfl
theorem beq_tt : (true == true) = true := rfl
theorem beq_ff : (false == false) = true := rfl

end Go.Proofs.Ytoeclfihlhmnpaa.B
