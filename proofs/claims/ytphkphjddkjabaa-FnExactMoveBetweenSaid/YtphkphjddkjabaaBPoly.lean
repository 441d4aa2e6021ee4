-- thin
/- The reference and the program agree on which lists are polygons. -/
import Derived.Test.YtphkphjddkjabaaX0
import Derived.Test.YtphkphjddkjabaaX2
import Derived.Test.YtphkphjddkjabaaX4
import Derived.Test.YtphkphjddkjabaaX9
import Derived.Test.YtphkphjddkjabaaX10
import Derived.Test.YtphkphjddkjabaaX12
import Derived.Test.YtphkphjddkjabaaBBase
import Derived.Test.YtphkphjddkjabaaBCore
namespace Go.Proofs.Ytphkphjddkjabaa.B
open Go.RowKit Go.Proofs.Ytphkphjddkjabaa.XW Go.Proofs.Ytphkphjddkjabaa.X Go.Proofs.YtphkphjddkjabaaW.PrintWords Go.Proofs.YtphkphjddkjabaaW.PrintLast Go.Proofs.Ytphkphjddkjabaa.B
set_option linter.unusedVariables false
set_option linter.unusedSimpArgs false
set_option maxRecDepth 20000

def Pg (p : S_impl_Peg) : Prop := Sm 40 p
/-- What a polygon is. -/
structure Poly (l : List S_impl_Peg) : Prop where
 lo : 3 ≤ l.length
 hi : l.length ≤ 10
 pegs : ∀ i, i < l.length → Sm 40 (pt l i)
 diff : ∀ i, i < l.length → ∀ j, j < i → pt l j ≠ pt l i
 turns : ∀ i, i < l.length → tn (pt l (pv l.length i)) (pt l i) (pt l (nx l.length i)) ≠ 0
 apart : ∀ i, i < l.length → ∀ k, k + 2 ≤ i → i - k < l.length - 1 → mt (pt l k) (pt l (nx l.length k)) (pt l i) (pt l (nx l.length i)) = false
open Classical in
noncomputable def good (l : List S_impl_Peg) : Bool := decide (Poly l)
theorem good_false {l : List S_impl_Peg} (h : Poly l → False) : false = good l := by
 unfold good
 symm
 rw [decide_eq_false_iff_not]
 exact h
theorem good_iff {l : List S_impl_Peg} : good l = true ↔ Poly l := by
 unfold good
 simp
theorem pv_nx {n i : Nat} (h : i < n) : pv n (nx n i) = i := by
 unfold pv nx
 repeat' split
 all_goals omega
theorem nx_pv {n i : Nat} (h : i < n) : nx n (pv n i) = i := by
 unfold pv nx
 repeat' split
 all_goals omega
instance (B : Int) (p : S_impl_Peg) : Decidable (Sm B p) := by
 unfold Sm
 infer_instance
theorem is_peg_eq (p : S_impl_Peg) : spec_pgIs.f p.f0 p.f1 = some (decide (Sm 40 p)) := by
 unfold spec_pgIs.f
 simp only [spec_in_eq, Option.bind_some]
 by_cases h : Sm 40 p
 ·obtain ⟨a, b, c, d⟩ := id h
  simp [h, a, b, c, d]
 ·simp only [h, decide_false]
  split
  ·rename_i h'
   simp only [Bool.and_eq_true, decide_eq_true_eq] at h'
   congr 1
   rw [Bool.and_eq_false_iff, decide_eq_false_iff_not, decide_eq_false_iff_not]
   by_cases c : -40 ≤ p.f1
   ·exact Or.inr fun d => h ⟨h'.1, h'.2, c, d⟩
   ·exact Or.inl c
  ·rfl
theorem is_peg_impl (p : S_impl_Peg) : impl_IsPeg.f p.f0 p.f1 = some (decide (Sm 40 p)) := by
 rw [← is_peg_eq]
 unfold impl_IsPeg.f spec_pgIs.f
 simp only [impl_within_eq, spec_in_eq]
theorem same_peg {p q : S_impl_Peg} : (p.f0 == q.f0 && (p.f1 == q.f1)) = true ↔ p = q := by
 constructor
 ·intro h
  simp only [Bool.and_eq_true, beq_iff_eq] at h
  exact peg_ext h.1 h.2
 ·rintro rfl
  simp

/-! ### The reference -/
section
variable (l : List S_impl_Peg) (h3 : 3 ≤ l.length) (h10 : l.length ≤ 10)
include h3 h10 in
theorem spec_l3 (hp : ∀ i, i < l.length → Sm 40 (pt l i)) (i : Nat) (hi : i < l.length)
  (next : Ev (fun k => spec_pgGood.l2 k l l.length l l.length ((i : Int) + 1)) (good l) ∨ ∃ k, i + 2 ≤ k ∧ k < l.length ∧ k - i < l.length - 1 ∧ mt (pt l i) (pt l (nx l.length i)) (pt l k) (pt l (nx l.length k)) = true) :
  ∀ (d k : Nat), k + d = l.length + 1 → i + 2 ≤ k → k ≤ l.length + 1 → (∀ k', i + 2 ≤ k' → k' < k → k' < l.length → k' - i < l.length - 1 → mt (pt l i) (pt l (nx l.length i)) (pt l k') (pt l (nx l.length k')) = false) →
   Ev (fun r => spec_pgGood.l3 r l l.length i k l l.length i (pt l i).f0 (pt l i).f1 (pt l (nx l.length i)).f0 (pt l (nx l.length i)).f1) (good l) := by
 have big : ∀ j, j < l.length → Sm 1000000 (pt l j) := fun j hj => (hp j hj).mono (by omega)
 intro d
 induction d with
 | zero =>
  intro k hk h2 hle hok
  refine Ev.succ ?_
  simp (disch := omega) only [spec_pgGood.l3, if_neg]
  refine Ev.succ ?_
  simp (disch := omega) only [spec_pgGood.j4, Bool.false_eq_true, if_false, w64]
  rcases next with h | ⟨k', a, b, c, e⟩
  ·exact h
  ·rw [hok k' a (by omega) b c] at e
   cases e
 | succ d ih =>
  intro k hk h2 hle hok
  refine Ev.succ ?_
  by_cases hkn : k < l.length
  ·simp (disch := omega) only [spec_pgGood.l3, if_pos, w64]
   refine Ev.succ ?_
   by_cases hc : k - i < l.length - 1
   ·have hcc : ((k : Int) - i < (l.length : Int) - 1) := by omega
    simp only [hcc, decide_true]
    simp (disch := omega) only [spec_pgGood.j4, if_true, if_pos, if_neg, w64]
    simp (disch := omega) only [tmod1]
    have hnk := nx_lt hkn
    simp (disch := omega) only [if_pos, rd_pt]
    refine Ev.bind (ev_spec_meet (big i hi) (big _ (nx_lt hi)) (big k hkn) (big _ hnk)) ?_
    cases hm : mt (pt l i) (pt l (nx l.length i)) (pt l k) (pt l (nx l.length k)) with
    | true =>
     simp only [if_true]
     refine Ev.some (good_false fun ok => ?_)
     have := ok.apart k hkn i (by omega) (by omega)
     rw [hm] at this
     cases this
    | false =>
     simp only [Bool.false_eq_true, if_false]
     refine ih (k + 1) (by omega) (by omega) (by omega) fun k' a b c e => ?_
     by_cases hkk : k' = k
     ·subst hkk
      exact hm
     ·exact hok k' a (by omega) c e
   ·have hcc : ¬ ((k : Int) - i < (l.length : Int) - 1) := by omega
    simp only [hcc, decide_false]
    simp (disch := omega) only [spec_pgGood.j4, Bool.false_eq_true, if_false, w64]
    rcases next with h | ⟨k', a, b, c, e⟩
    ·exact h
    ·rw [hok k' a (by omega) b c] at e
     cases e
  ·simp (disch := omega) only [spec_pgGood.l3, if_neg]
   refine Ev.succ ?_
   simp (disch := omega) only [spec_pgGood.j4, Bool.false_eq_true, if_false, w64]
   rcases next with h | ⟨k', a, b, c, e⟩
   ·exact h
   ·rw [hok k' a (by omega) b c] at e
    cases e
include h3 h10 in
theorem spec_l2 (hp : ∀ i, i < l.length → Sm 40 (pt l i)) (hd : ∀ i, i < l.length → ∀ j, j < i → pt l j ≠ pt l i) :
  ∀ (d i : Nat), i + d = l.length → (∀ j, j < i → tn (pt l j) (pt l (nx l.length j)) (pt l (nx l.length (nx l.length j))) ≠ 0) → (∀ j, j < i → ∀ k, j + 2 ≤ k → k < l.length → k - j < l.length - 1 → mt (pt l j) (pt l (nx l.length j)) (pt l k) (pt l (nx l.length k)) = false) →
   Ev (fun k => spec_pgGood.l2 k l l.length l l.length i) (good l) := by
 have big : ∀ j, j < l.length → Sm 1000000 (pt l j) := fun j hj => (hp j hj).mono (by omega)
 intro d
 induction d with
 | zero =>
  intro i hi ht hm
  refine Ev.succ ?_
  simp (disch := omega) only [spec_pgGood.l2, if_neg]
  refine Ev.some ?_
  symm
  rw [good_iff]
  refine ⟨h3, h10, hp, hd, fun j hj => ?_, fun j hj k h1 h2 => hm k (by omega) j h1 (by omega) h2⟩
  have := ht (pv l.length j) (by have := pv_lt hj; omega)
  rw [nx_pv hj] at this
  exact this
 | succ d ih =>
  intro i hi ht hm
  refine Ev.succ ?_
  have hil : i < l.length := by omega
  have n1 := nx_lt hil
  have n2 := nx_lt n1
  simp (disch := omega) only [spec_pgGood.l2, if_pos, if_neg, w64]
  simp (disch := omega) only [tmod1, tmod2]
  simp (disch := omega) only [if_pos, rd_pt]
  rw [spec_turn_eq (big i hil) (big _ n1) (big _ n2)]
  simp only [Option.bind_some]
  split
  ·rename_i h0
   refine Ev.some (good_false fun ok => ?_)
   have := ok.turns (nx l.length i) n1
   rw [pv_nx hil] at this
   exact this h0
  ·rename_i h0
   refine spec_l3 l h3 h10 hp i hil ?_ (l.length - i - 1) (i + 2) (by omega) (by omega) (by omega) (fun k' a b => by omega)
   by_cases hex : ∃ k, i + 2 ≤ k ∧ k < l.length ∧ k - i < l.length - 1 ∧ mt (pt l i) (pt l (nx l.length i)) (pt l k) (pt l (nx l.length k)) = true
   ·exact Or.inr hex
   ·refine Or.inl (ih (i + 1) (by omega) (fun j hj => ?_) (fun j hj k a b c => ?_))
    ·by_cases e : j = i
     ·subst e
      exact h0
     ·exact ht j (by omega)
    ·by_cases e : j = i
     ·subst e
      cases hmm : mt (pt l j) (pt l (nx l.length j)) (pt l k) (pt l (nx l.length k)) with
      | true => exact absurd ⟨k, a, b, c, hmm⟩ hex
      | false => rfl
     ·exact hm j (by omega) k a b c
include h3 h10 in
theorem spec_l1 (i : Nat) (hi : i < l.length) (next : (∀ j, j < i → pt l j ≠ pt l i) → Ev (fun k => spec_pgGood.l0 k l l.length l l.length ((i : Int) + 1)) (good l)) :
  ∀ (d j : Nat), j + d = i → (∀ j', j' < j → pt l j' ≠ pt l i) → Ev (fun k => spec_pgGood.l1 k l l.length l l.length i (l.take i) i j (pt l i).f0 (pt l i).f1) (good l) := by
 have hlen : (l.take i).length = i := by simp; omega
 have hpt : ∀ j, j < i → pt (l.take i) j = pt l j := fun j hj => by
  unfold pt
  rw [List.getD_eq_getElem?_getD, List.getD_eq_getElem?_getD, List.getElem?_take_of_lt hj]
 intro d
 induction d with
 | zero =>
  intro j hj hok
  refine Ev.succ ?_
  simp (disch := omega) only [spec_pgGood.l1, if_neg, w64]
  exact next (fun j' h => hok j' (by omega))
 | succ d ih =>
  intro j hj hok
  refine Ev.succ ?_
  simp (disch := omega) only [spec_pgGood.l1, if_pos, rd_pt, hpt j (by omega), w64, hlen]
  split
  ·rename_i h
   have := same_peg.1 h
   exact Ev.some (good_false fun ok => ok.diff i hi j (by omega) this.symm)
  ·rename_i h
   refine ih (j + 1) (by omega) fun j' hj' => ?_
   by_cases e : j' = j
   ·subst e
    exact fun e => h (same_peg.2 e.symm)
   ·exact hok j' (by omega)
include h3 h10 in
theorem spec_l0 : ∀ (d i : Nat), i + d = l.length → (∀ j, j < i → Sm 40 (pt l j)) → (∀ j, j < i → ∀ j', j' < j → pt l j' ≠ pt l j) → Ev (fun k => spec_pgGood.l0 k l l.length l l.length i) (good l) := by
 intro d
 induction d with
 | zero =>
  intro i hi hp hd
  refine Ev.succ ?_
  simp (disch := omega) only [spec_pgGood.l0, if_neg]
  exact spec_l2 l h3 h10 (fun j hj => hp j (by omega)) (fun j hj => hd j (by omega)) l.length 0 (by omega) (fun j h => by omega) (fun j h => by omega)
 | succ d ih =>
  intro i hi hp hd
  refine Ev.succ ?_
  have hil : i < l.length := by omega
  simp (disch := omega) only [spec_pgGood.l0, if_pos, rd_pt, is_peg_eq, Option.bind_some, Int.toNat_natCast]
  by_cases h : Sm 40 (pt l i)
  ·simp only [h, decide_true, if_true]
   have hlen : (l.take i).length = i := by simp; omega
   simp only [hlen]
   refine spec_l1 l h3 h10 i hil (fun hne => ?_) i 0 (by omega) (fun j h => by omega)
   refine ih (i + 1) (by omega) (fun j hj => ?_) (fun j hj => ?_)
   ·by_cases e : j = i
    ·subst e
     exact h
    ·exact hp j (by omega)
   ·by_cases e : j = i
    ·subst e
     exact hne
    ·exact hd j (by omega)
  ·simp only [h, decide_false, Bool.false_eq_true, if_false]
   exact Ev.some (good_false fun ok => h (ok.pegs i hil))
end
theorem ev_spec_good (l : List S_impl_Peg) : Ev (fun k => spec_pgGood.f k l) (good l) := by
 unfold spec_pgGood.f
 simp only [spec_in_eq, Option.bind_some]
 by_cases h : 3 ≤ l.length ∧ l.length ≤ 10
 ·have e : (decide ((3 : Int) ≤ (l.length : Int)) && decide ((l.length : Int) ≤ 10)) = true := by simp; omega
  simp only [e, if_true]
  exact spec_l0 l h.1 h.2 l.length 0 (by omega) (fun j h => by omega) (fun j h => by omega)
 ·have e : (decide ((3 : Int) ≤ (l.length : Int)) && decide ((l.length : Int) ≤ 10)) = false := by
   rw [Bool.and_eq_false_iff, decide_eq_false_iff_not, decide_eq_false_iff_not]
   omega
  simp only [e, Bool.false_eq_true, if_false]
  exact Ev.some (good_false fun ok => h ⟨ok.lo, ok.hi⟩)

/-! ### The program -/
theorem tmod_at {n : Nat} (a : Int) (hn : 0 < n) (hb : n ≤ 1099511627776) (h1 : -1099511627776 ≤ a) (h2 : a ≤ 1099511627776) : Int.tmod (wrap64 (Int.tmod a n + n)) n = ((a % (n : Int)).toNat : Int) := by
 have e0 := Int.emod_nonneg a (show (n : Int) ≠ 0 by omega)
 have e1 := Int.emod_lt_of_pos a (show (0 : Int) < n by omega)
 have key : Int.tmod a n + n = a % (n : Int) + (if 0 ≤ a ∨ (n : Int) ∣ a then (n : Int) else 0) := by
  rw [Int.tmod_eq_emod]
  split <;> omega
 have hle : a % (n : Int) ≤ n := by omega
 rw [key, w64 (by split <;> omega), Int.tmod_eq_emod_of_nonneg (by split <;> omega)]
 split
 ·rw [Int.add_emod_right, Int.emod_emod_of_dvd _ (Int.dvd_refl _)]
  omega
 ·rw [Int.add_zero, Int.emod_emod_of_dvd _ (Int.dvd_refl _)]
  omega
theorem at_eq (l : List S_impl_Peg) (a : Int) (hn : 0 < l.length) (hb : l.length ≤ 1099511627776) (h1 : -1099511627776 ≤ a) (h2 : a ≤ 1099511627776) :
  impl_at.f l a = some ((pt l (a % (l.length : Int)).toNat).f0, (pt l (a % (l.length : Int)).toNat).f1) := by
 have e0 := Int.emod_nonneg a (show (l.length : Int) ≠ 0 by omega)
 have e1 := Int.emod_lt_of_pos a (show (0 : Int) < l.length by omega)
 unfold impl_at.f
 rw [tmod_at a hn hb h1 h2]
 simp (disch := omega) only [if_neg, if_pos, rd_pt]
theorem at_next (l : List S_impl_Peg) (i : Nat) (hi : i < l.length) (hb : l.length ≤ 1099511627776) : impl_at.f l ((i : Int) + 1) = some ((pt l (nx l.length i)).f0, (pt l (nx l.length i)).f1) := by
 rw [at_eq l _ (by omega) hb (by omega) (by omega)]
 have : (((i : Int) + 1) % (l.length : Int)).toNat = nx l.length i := by
  have := tmod1 hi
  rw [Int.tmod_eq_emod_of_nonneg (by omega)] at this
  omega
 rw [this]
theorem at_prev (l : List S_impl_Peg) (i : Nat) (hi : i < l.length) (hb : l.length ≤ 1099511627776) : impl_at.f l ((i : Int) - 1) = some ((pt l (pv l.length i)).f0, (pt l (pv l.length i)).f1) := by
 rw [at_eq l _ (by omega) hb (by omega) (by omega)]
 have : (((i : Int) - 1) % (l.length : Int)).toNat = pv l.length i := by
  unfold pv
  split
  ·rename_i h
   subst h
   rw [show (((0 : Nat) : Int) - 1) = ((l.length - 1 : Nat) : Int) + (l.length : Int) * (-1) by omega, Int.add_mul_emod_self_left, Int.emod_eq_of_lt (by omega) (by omega)]
   omega
  ·rw [Int.emod_eq_of_lt (by omega) (by omega)]
   omega
 rw [this]
def allPegs (l : List S_impl_Peg) : Bool := l.all fun p => decide (Sm 40 p)
theorem ev_notPegs_l (l : List S_impl_Peg) (hb : l.length ≤ 1099511627776) : ∀ (d i : Nat), i + d = l.length → (∀ j, j < i → Sm 40 (pt l j)) → Ev (fun k => (slices_IndexFunc_impl_Peg_at_impl_arePegs_1.l0 k l l.length i).bind fun t => some (decide (t ≥ 0))) (!allPegs l) := by
 intro d
 induction d with
 | zero =>
  intro i hi hp
  refine Ev.succ ?_
  simp (disch := omega) only [slices_IndexFunc_impl_Peg_at_impl_arePegs_1.l0, if_neg, Option.bind_some]
  refine Ev.some ?_
  have : allPegs l = true := by
   unfold allPegs
   rw [List.all_eq_true]
   intro p hmem
   obtain ⟨j, hj, rfl⟩ := List.getElem_of_mem hmem
   have := hp j (by omega)
   unfold pt at this
   rw [List.getD_eq_getElem?_getD, List.getElem?_eq_getElem hj] at this
   simpa using this
  rw [this]
  rfl
 | succ d ih =>
  intro i hi hp
  refine Ev.succ ?_
  simp (disch := omega) only [slices_IndexFunc_impl_Peg_at_impl_arePegs_1.l0, if_pos, rd_pt, impl_arePegs_1.f, is_peg_impl, Option.bind_some, w64]
  by_cases h : Sm 40 (pt l i)
  ·simp only [h, decide_true, Bool.not_true, Bool.false_eq_true, if_false]
   refine ih (i + 1) (by omega) fun j hj => ?_
   by_cases e : j = i
   ·subst e
    exact h
   ·exact hp j (by omega)
  ·simp only [h, decide_false, Bool.not_false, if_true, Option.bind_some]
   refine Ev.some ?_
   have : allPegs l = false := by
    unfold allPegs
    rw [List.all_eq_false]
    exact ⟨pt l i, pt_mem (by omega), by simp [h]⟩
   rw [this]
   simp
theorem ev_arePegs (l : List S_impl_Peg) (hb : l.length ≤ 1099511627776) : Ev (fun k => impl_arePegs.f k l) (allPegs l) := by
 unfold impl_arePegs.f slices_ContainsFunc_impl_Peg_at_impl_arePegs_1.f slices_IndexFunc_impl_Peg_at_impl_arePegs_1.f
 refine Ev.bind (a := !allPegs l) (ev_notPegs_l l hb l.length 0 (by omega) (fun j h => by omega)) ?_
 exact Ev.some (by simp)
theorem allPegs_iff {l : List S_impl_Peg} : allPegs l = true ↔ ∀ i, i < l.length → Sm 40 (pt l i) := by
 unfold allPegs
 rw [List.all_eq_true]
 constructor
 ·intro h i hi
  simpa using h _ (pt_mem hi)
 ·intro h p hmem
  obtain ⟨j, hj, rfl⟩ := List.getElem_of_mem hmem
  have := h j hj
  unfold pt at this
  rw [List.getD_eq_getElem?_getD, List.getElem?_eq_getElem hj] at this
  simpa using this
theorem ev_contains_l (l : List S_impl_Peg) (p : S_impl_Peg) (hb : l.length ≤ 1099511627776) : ∀ (d i : Nat), i + d = l.length → (∀ j, j < i → pt l j ≠ p) → Ev (fun k => (slices_Index_impl_Peg.l0 k l l.length i p.f0 p.f1).bind fun t => some (decide (t ≥ 0))) (decide (p ∈ l)) := by
 intro d
 induction d with
 | zero =>
  intro i hi hp
  refine Ev.succ ?_
  simp (disch := omega) only [slices_Index_impl_Peg.l0, if_neg, Option.bind_some]
  refine Ev.some ?_
  have : ¬ p ∈ l := by
   intro hmem
   obtain ⟨j, hj, he⟩ := List.getElem_of_mem hmem
   refine hp j (by omega) ?_
   unfold pt
   rw [List.getD_eq_getElem?_getD, List.getElem?_eq_getElem hj]
   exact he
  simp [this]
 | succ d ih =>
  intro i hi hp
  refine Ev.succ ?_
  simp (disch := omega) only [slices_Index_impl_Peg.l0, if_pos, rd_pt, w64]
  split
  ·rename_i h
   have := same_peg.1 h
   simp only [Option.bind_some]
   refine Ev.some ?_
   have hm : p ∈ l := by rw [this]; exact pt_mem (by omega)
   simp [hm]
  ·rename_i h
   refine ih (i + 1) (by omega) fun j hj => ?_
   by_cases e : j = i
   ·subst e
    exact fun e => h (same_peg.2 e.symm)
   ·exact hp j (by omega)
theorem ev_contains (l : List S_impl_Peg) (p : S_impl_Peg) (hb : l.length ≤ 1099511627776) : Ev (fun k => slices_Contains_impl_Peg.f k l p.f0 p.f1) (decide (p ∈ l)) := by
 unfold slices_Contains_impl_Peg.f slices_Index_impl_Peg.f
 exact ev_contains_l l p hb l.length 0 (by omega) (fun j h => by omega)
section
variable (l : List S_impl_Peg) (h3 : 3 ≤ l.length) (h10 : l.length ≤ 10) (hp : ∀ i, i < l.length → Sm 40 (pt l i))
def impl_pre (i : Nat) : Prop := (∀ j, j < i → ∀ j', j' < j → pt l j' ≠ pt l j) ∧ (∀ j, j < i → tn (pt l (pv l.length j)) (pt l j) (pt l (nx l.length j)) ≠ 0) ∧
 ∀ j, j < i → ∀ k, k + 2 ≤ j → j - k < l.length - 1 → mt (pt l k) (pt l (nx l.length k)) (pt l j) (pt l (nx l.length j)) = false
include h3 h10 hp in
theorem impl_l1 (i : Nat) (hi : i < l.length) (next : (∀ k, k + 2 ≤ i → i - k < l.length - 1 → mt (pt l k) (pt l (nx l.length k)) (pt l i) (pt l (nx l.length i)) = false) → Ev (fun k => impl_IsPolygon.l0 k l l.length l l.length ((i : Int) + 1)) (good l)) :
  ∀ (d k : Nat), k + d = i → (∀ k', k' < k → k' + 2 ≤ i → i - k' < l.length - 1 → mt (pt l k') (pt l (nx l.length k')) (pt l i) (pt l (nx l.length i)) = false) →
   Ev (fun r => impl_IsPolygon.l1 r l l.length i l l.length i i k (pt l i).f0 (pt l i).f1) (good l) := by
 have big : ∀ j, j < l.length → Sm 1000000 (pt l j) := fun j hj => (hp j hj).mono (by omega)
 intro d
 induction d with
 | zero =>
  intro k hk hok
  refine Ev.succ ?_
  simp (disch := omega) only [impl_IsPolygon.l1, if_neg, w64]
  exact next fun k' a b => hok k' (by omega) a b
 | succ d ih =>
  intro k hk hok
  refine Ev.succ ?_
  simp (disch := omega) only [impl_IsPolygon.l1, if_pos, w64]
  have skip : (k + 2 ≤ i → i - k < l.length - 1 → False) → Ev (fun r => impl_IsPolygon.j4 r l l.length i k l l.length i i k true (pt l i).f0 (pt l i).f1) (good l) := by
   intro hno
   refine Ev.succ ?_
   simp (disch := omega) only [impl_IsPolygon.j4, if_true, w64]
   refine ih (k + 1) (by omega) fun k' a b c => ?_
   by_cases e : k' = k
   ·subst e
    exact (hno b c).elim
   ·exact hok k' (by omega) b c
  have check : k + 2 ≤ i → i - k < l.length - 1 → Ev (fun r => impl_IsPolygon.j4 r l l.length i k l l.length i i k false (pt l i).f0 (pt l i).f1) (good l) := by
   intro h1 h2
   refine Ev.succ ?_
   simp (disch := omega) only [impl_IsPolygon.j4, Bool.false_eq_true, if_false, if_pos, w64, at_next l i hi (by omega), Option.bind_some, rd_pt]
   have hk1 : nx l.length k = k + 1 := by unfold nx; rw [if_neg (by omega)]
   have hrd : rd_impl_Peg l ((k : Int) + 1) = pt l (nx l.length k) := by rw [hk1]; rfl
   simp only [hrd]
   refine Ev.bind (ev_impl_meet (big k (by omega)) (big _ (nx_lt (by omega))) (big i hi) (big _ (nx_lt hi))) ?_
   cases hm : mt (pt l k) (pt l (nx l.length k)) (pt l i) (pt l (nx l.length i)) with
   | true =>
    simp only [if_true]
    refine Ev.some (good_false fun ok => ?_)
    have := ok.apart i hi k h1 h2
    rw [hm] at this
    cases this
   | false =>
    simp only [Bool.false_eq_true, if_false]
    refine ih (k + 1) (by omega) fun k' a b c => ?_
    by_cases e : k' = k
    ·subst e
     exact hm
    ·exact hok k' (by omega) b c
  by_cases hs : k + 1 = i
  ·simp (disch := omega) only [if_pos]
   exact skip (by omega)
  ·simp (disch := omega) only [if_neg]
   by_cases hn : i + 1 = l.length
   ·simp (disch := omega) only [if_pos]
    by_cases hk0 : k = 0
    ·subst hk0
     exact skip (by omega)
    ·have : ((k : Int) == 0) = false := by rw [beq_eq_false_iff_ne]; omega
     simp only [this]
     exact check (by omega) (by omega)
   ·simp (disch := omega) only [if_neg]
    exact check (by omega) (by omega)
include h3 h10 hp in
theorem impl_l0 : ∀ (d i : Nat), i + d = l.length → impl_pre l i → Ev (fun k => impl_IsPolygon.l0 k l l.length l l.length i) (good l) := by
 have big : ∀ j, j < l.length → Sm 1000000 (pt l j) := fun j hj => (hp j hj).mono (by omega)
 intro d
 induction d with
 | zero =>
  intro i hi hpre
  refine Ev.succ ?_
  simp (disch := omega) only [impl_IsPolygon.l0, if_neg]
  refine Ev.some ?_
  symm
  rw [good_iff]
  exact ⟨h3, h10, hp, fun j hj => hpre.1 j (by omega), fun j hj => hpre.2.1 j (by omega), fun j hj => hpre.2.2 j (by omega)⟩
 | succ d ih =>
  intro i hi hpre
  refine Ev.succ ?_
  have hil : i < l.length := by omega
  simp (disch := omega) only [impl_IsPolygon.l0, if_pos, rd_pt, Int.toNat_natCast, w64, at_prev l i hil (by omega), at_next l i hil (by omega), Option.bind_some]
  refine Ev.bind (ev_contains _ _ (by simp; omega)) ?_
  have hmem : pt l i ∈ l.take i ↔ ∃ j, j < i ∧ pt l j = pt l i := by
   constructor
   ·intro hm
    obtain ⟨j, hj, he⟩ := List.getElem_of_mem hm
    have hj' : j < i := by simp at hj; omega
    refine ⟨j, hj', ?_⟩
    rw [List.getElem_take] at he
    rw [← he]
    unfold pt
    rw [List.getD_eq_getElem?_getD, List.getElem?_eq_getElem (by omega)]
    rfl
   ·rintro ⟨j, hj, he⟩
    rw [← he]
    have : pt (l.take i) j = pt l j := by
     unfold pt
     rw [List.getD_eq_getElem?_getD, List.getD_eq_getElem?_getD, List.getElem?_take_of_lt hj]
    rw [← this]
    exact pt_mem (by simp; omega)
  have fin : Ev (fun k => impl_IsPolygon.j2 k l l.length i l l.length i true (pt l i).f0 (pt l i).f1) false := by
   refine Ev.succ ?_
   simp only [impl_IsPolygon.j2, if_true]
   exact Ev.now _
  by_cases hc : pt l i ∈ l.take i
  ·simp only [hc, decide_true, if_true]
   obtain ⟨j, hj, he⟩ := hmem.1 hc
   rw [← good_false fun ok => ok.diff i hil j hj he]
   exact fin
  ·simp only [hc, decide_false, Bool.false_eq_true, if_false]
   rw [impl_turn_eq (big _ (pv_lt hil)) (big _ hil) (big _ (nx_lt hil))]
   simp only [Option.bind_some]
   by_cases ht : tn (pt l (pv l.length i)) (pt l i) (pt l (nx l.length i)) = 0
   ·have : (tn (pt l (pv l.length i)) (pt l i) (pt l (nx l.length i)) == 0) = true := by simp [ht]
    simp only [this]
    rw [← good_false fun ok => ok.turns i hil ht]
    exact fin
   ·have : (tn (pt l (pv l.length i)) (pt l i) (pt l (nx l.length i)) == 0) = false := by simp [ht]
    simp only [this]
    refine Ev.succ ?_
    simp only [impl_IsPolygon.j2, Bool.false_eq_true, if_false]
    refine impl_l1 l h3 h10 hp i hil (fun hm => ?_) i 0 (by omega) (fun k' h => by omega)
    refine ih (i + 1) (by omega) ⟨fun j hj => ?_, fun j hj => ?_, fun j hj => ?_⟩
    ·by_cases e : j = i
     ·subst e
      exact fun j' hj' he => hc (hmem.2 ⟨j', hj', he⟩)
     ·exact hpre.1 j (by omega)
    ·by_cases e : j = i
     ·subst e
      exact ht
     ·exact hpre.2.1 j (by omega)
    ·by_cases e : j = i
     ·subst e
      exact hm
     ·exact hpre.2.2 j (by omega)
end
theorem ev_impl_IsPolygon (l : List S_impl_Peg) : Ev (fun k => impl_IsPolygon.f k l) (good l) := by
 unfold impl_IsPolygon.f
 simp only [impl_within_eq, Option.bind_some]
 have no : ∀ h : (Poly l → False), Ev (fun k => impl_IsPolygon.j0 k l l.length true) (good l) := by
  intro h
  rw [← good_false h]
  refine Ev.succ ?_
  simp only [impl_IsPolygon.j0, if_true]
  exact Ev.now _
 by_cases h : 3 ≤ l.length ∧ l.length ≤ 10
 ·have e : (decide ((3 : Int) ≤ (l.length : Int)) && decide ((l.length : Int) ≤ 10)) = true := by simp; omega
  simp only [e, if_true]
  refine Ev.bind (ev_arePegs l (by omega)) ?_
  cases ha : allPegs l with
  | true =>
   refine Ev.succ ?_
   simp only [impl_IsPolygon.j0, Bool.not_true, Bool.false_eq_true, if_false]
   exact impl_l0 l h.1 h.2 (allPegs_iff.1 ha) l.length 0 (by omega) ⟨fun j h => by omega, fun j h => by omega, fun j h => by omega⟩
  | false =>
   simp only [Bool.not_false]
   refine no fun ok => ?_
   rw [allPegs_iff.2 ok.pegs] at ha
   cases ha
 ·have e : (decide ((3 : Int) ≤ (l.length : Int)) && decide ((l.length : Int) ≤ 10)) = false := by
   rw [Bool.and_eq_false_iff, decide_eq_false_iff_not, decide_eq_false_iff_not]
   omega
  simp only [e, Bool.false_eq_true, if_false]
  exact no fun ok => h ⟨ok.lo, ok.hi⟩
theorem at_next2 (l : List S_impl_Peg) (i : Nat) (hi : i < l.length) (h3 : 3 ≤ l.length) (hb : l.length ≤ 100000) : impl_at.f l ((i : Int) + 2) = some ((pt l (nx l.length (nx l.length i))).f0, (pt l (nx l.length (nx l.length i))).f1) := by
 rw [at_eq l _ (by omega) (by omega) (by omega) (by omega)]
 have : (((i : Int) + 2) % (l.length : Int)).toNat = nx l.length (nx l.length i) := by
  have := tmod2 hi h3
  rw [Int.tmod_eq_emod_of_nonneg (by omega)] at this
  omega
 rw [this]

end Go.Proofs.Ytphkphjddkjabaa.B
