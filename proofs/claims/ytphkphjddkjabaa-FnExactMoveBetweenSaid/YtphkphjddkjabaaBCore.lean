-- thin
/- Lists of pegs copied and compared; three points, lines that meet; what a polygon is, in the reference and in the program. -/
import Derived.Test.YtphkphjddkjabaaX0
import Derived.Test.YtphkphjddkjabaaX2
import Derived.Test.YtphkphjddkjabaaX3
import Derived.Test.YtphkphjddkjabaaX9
import Derived.Test.YtphkphjddkjabaaX10
import Derived.Test.YtphkphjddkjabaaX11
import Derived.Test.YtphkphjddkjabaaX17
import Derived.Test.YtphkphjddkjabaaX18
import Derived.Test.YtphkphjddkjabaaBBase
namespace Go.Proofs.Ytphkphjddkjabaa.B
open Go.RowKit Go.Proofs.Ytphkphjddkjabaa.XW Go.Proofs.Ytphkphjddkjabaa.X Go.Proofs.YtphkphjddkjabaaW.PrintWords Go.Proofs.YtphkphjddkjabaaW.PrintLast Go.Proofs.Ytphkphjddkjabaa.B
set_option linter.unusedVariables false
set_option linter.unusedSimpArgs false
set_option maxRecDepth 20000

def toP (l : List S_laws_Peg) : List S_impl_Peg := l.map fun p => ⟨p.f0, p.f1⟩
theorem toP_length (l : List S_laws_Peg) : (toP l).length = l.length := by simp [toP]
theorem ev_toPegS_l (l : List S_laws_Peg) (hn : l.length ≤ 1048576) : ∀ (d i : Nat) (x : List S_impl_Peg), i + d = l.length → x.length = l.length → (∀ j, j < i → x[j]? = (toP l)[j]?) → Ev (fun k => laws_toPegS.l0 k l x i) (toP l) := by
 intro d
 induction d with
 | zero =>
  intro i x hi hx hj
  refine Ev.succ ?_
  simp (disch := omega) only [laws_toPegS.l0, if_neg]
  refine Ev.some ?_
  refine List.ext_getElem? fun j => ?_
  by_cases h : j < i
  ·exact hj j h
  ·rw [List.getElem?_eq_none (by omega), List.getElem?_eq_none (by rw [toP_length]; omega)]
 | succ d ih =>
  intro i x hi hx hj
  refine Ev.succ ?_
  simp (disch := omega) only [laws_toPegS.l0, if_pos, laws_toPeg.f, Option.bind_some, w64, Int.toNat_natCast]
  refine ih (i + 1) _ (by omega) (by simp [hx]) fun j hj' => ?_
  by_cases e : j = i
  ·subst e
   have hlt : j < l.length := by omega
   rw [List.getElem?_set_self (by omega)]
   simp [toP, hlt, rd_laws_Peg, List.getD]
  ·rw [List.getElem?_set_ne (by omega)]
   exact hj j (by omega)
theorem ev_toPegS (l : List S_laws_Peg) (hn : l.length ≤ 1048576) : Ev (fun k => laws_toPegS.f k l) (toP l) := by
 unfold laws_toPegS.f
 simp (disch := omega) only [if_pos]
 exact ev_toPegS_l l hn l.length 0 _ (by omega) (by simp) (fun j h => by omega)
theorem ev_eqPegS_l (l : List S_impl_Peg) (hn : l.length ≤ 1099511627776) : ∀ (d i : Nat), i + d = l.length → Ev (fun k => laws_eqPegS.l0 k l l i) true := by
 intro d
 induction d with
 | zero =>
  intro i hi
  refine Ev.succ ?_
  simp (disch := omega) only [laws_eqPegS.l0, if_neg]
  exact Ev.now _
 | succ d ih =>
  intro i hi
  refine Ev.succ ?_
  simp (disch := omega) only [laws_eqPegS.l0, if_pos, laws_eqPeg.f, Option.bind_some, w64]
  exact ih (i + 1) (by omega)
theorem ev_eqPegS (l : List S_impl_Peg) (hn : l.length ≤ 1099511627776) : Ev (fun k => laws_eqPegS.f k l l) true := by
 unfold laws_eqPegS.f
 simp only [if_true]
 exact ev_eqPegS_l l hn l.length 0 (by omega)
theorem szPegS_eq (l : List S_laws_Peg) (hn : l.length ≤ 9223372036854775807) : laws_szPegS.f l 1048576 = some (if 1048576 < l.length then -1 else 1048576 - (l.length : Int)) := by
 unfold laws_szPegS.f
 rw [w64 (by omega)]
 split <;> split <;> first | rfl | omega

/-! ### Three points, lines -/
theorem spec_turn_eq {a b c : S_impl_Peg} (ha : Sm 1000000 a) (hb : Sm 1000000 b) (hc : Sm 1000000 c) : spec_pgTurn.f a.f0 a.f1 b.f0 b.f1 c.f0 c.f1 = some (tn a b c) := by
 have h := tn_bd ha hb hc
 unfold spec_pgTurn.f
 unfold tn at *
 unfold Sm at *
 rw [w64 (x := b.f0 - a.f0) (by omega), w64 (x := c.f1 - a.f1) (by omega), w64 (x := b.f1 - a.f1) (by omega), w64 (x := c.f0 - a.f0) (by omega)]
 have h1 := mul_bd (x := b.f0 - a.f0) (y := c.f1 - a.f1) (A := 2000000) (B := 2000000) (by omega) (by omega)
 have h2 := mul_bd (x := b.f1 - a.f1) (y := c.f0 - a.f0) (A := 2000000) (B := 2000000) (by omega) (by omega)
 rw [w64 (x := (b.f0 - a.f0) * (c.f1 - a.f1)) (by omega), w64 (x := (b.f1 - a.f1) * (c.f0 - a.f0)) (by omega), w64 (by omega)]
theorem impl_turn_eq {a b c : S_impl_Peg} (ha : Sm 1000000 a) (hb : Sm 1000000 b) (hc : Sm 1000000 c) : impl_turn.f a.f0 a.f1 b.f0 b.f1 c.f0 c.f1 = some (tn a b c) := by
 rw [← spec_turn_eq ha hb hc]
 rfl
theorem spec_sign_eq (n : Int) : spec_l1Sign.f n = some (sgn n) := by
 unfold spec_l1Sign.f sgn
 repeat' split
 all_goals first | rfl | omega
theorem impl_sign_eq (n : Int) : impl_sign.f n = some (sgn n) := by
 unfold impl_sign.f sgn mn mx
 repeat' split
 all_goals first | rfl | (congr 1; omega)
def onb (a b p : S_impl_Peg) : Bool := decide (tn a b p = 0) && (decide ((a.f0 - p.f0) * (b.f0 - p.f0) ≤ 0) && decide ((a.f1 - p.f1) * (b.f1 - p.f1) ≤ 0))
theorem btw {a b p : Int} : (a - p) * (b - p) ≤ 0 ↔ (mn a b ≤ p ∧ p ≤ mx a b) := by
 unfold mn mx
 constructor
 ·intro h
  constructor
  ·split
   ·rename_i hab
    by_cases hp : b ≤ p
    ·exact hp
    ·have := Int.mul_pos (a := a - p) (b := b - p) (by omega) (by omega)
     omega
   ·rename_i hab
    by_cases hp : a ≤ p
    ·exact hp
    ·have := Int.mul_pos (a := a - p) (b := b - p) (by omega) (by omega)
     omega
  ·split
   ·rename_i hab
    by_cases hp : p ≤ b
    ·exact hp
    ·have := Int.mul_pos_of_neg_of_neg (a := a - p) (b := b - p) (by omega) (by omega)
     omega
   ·rename_i hab
    by_cases hp : p ≤ a
    ·exact hp
    ·have := Int.mul_pos_of_neg_of_neg (a := a - p) (b := b - p) (by omega) (by omega)
     omega
 ·rintro ⟨h1, h2⟩
  split at h1 <;> split at h2 <;> first | omega | skip
  ·exact Int.mul_nonpos_of_nonneg_of_nonpos (by omega) (by omega)
  ·exact Int.mul_nonpos_of_nonpos_of_nonneg (by omega) (by omega)
  ·exact Int.mul_nonpos_of_nonpos_of_nonneg (by omega) (by omega)
theorem spec_on_eq {a b p : S_impl_Peg} (ha : Sm 1000000 a) (hb : Sm 1000000 b) (hp : Sm 1000000 p) : spec_pgOn.f a.f0 a.f1 b.f0 b.f1 p.f0 p.f1 = some (onb a b p) := by
 unfold spec_pgOn.f onb
 rw [spec_turn_eq ha hb hp]
 unfold Sm at *
 have h1 := mul_bd (x := a.f0 - p.f0) (y := b.f0 - p.f0) (A := 2000000) (B := 2000000) (by omega) (by omega)
 have h2 := mul_bd (x := a.f1 - p.f1) (y := b.f1 - p.f1) (A := 2000000) (B := 2000000) (by omega) (by omega)
 simp (disch := omega) only [Option.bind_some, w64]
 split
 ·rename_i h
  split
  ·rename_i h'
   simp [h, h']
  ·rename_i h'
   simp [h']
 ·rename_i h
  simp [h]
theorem impl_within_eq (n a b : Int) : impl_within.f n a b = some (decide (a ≤ n) && decide (n ≤ b)) := by
 unfold impl_within.f
 split
 ·rename_i h
  have : a ≤ n := h
  simp [this]
 ·rename_i h
  have : ¬ a ≤ n := h
  simp [this]
theorem spec_in_eq (n a b : Int) : spec_l1In.f n a b = some (decide (a ≤ n) && decide (n ≤ b)) := by
 unfold spec_l1In.f
 split
 ·rename_i h
  have : a ≤ n := h
  simp [this]
 ·rename_i h
  have : ¬ a ≤ n := h
  simp [this]
theorem impl_on_eq {a b p : S_impl_Peg} (ha : Sm 1000000 a) (hb : Sm 1000000 b) (hp : Sm 1000000 p) : impl_isOn.f a.f0 a.f1 b.f0 b.f1 p.f0 p.f1 = some (onb a b p) := by
 unfold impl_isOn.f onb
 rw [impl_turn_eq ha hb hp]
 simp only [Option.bind_some, impl_within_eq]
 rw [show decide ((a.f0 - p.f0) * (b.f0 - p.f0) ≤ 0) = (decide (mn a.f0 b.f0 ≤ p.f0) && decide (p.f0 ≤ mx a.f0 b.f0)) by rw [decide_eq_decide.2 btw, Bool.decide_and],
  show decide ((a.f1 - p.f1) * (b.f1 - p.f1) ≤ 0) = (decide (mn a.f1 b.f1 ≤ p.f1) && decide (p.f1 ≤ mx a.f1 b.f1)) by rw [decide_eq_decide.2 btw, Bool.decide_and]]
 split
 ·rename_i h
  split
  ·rename_i h'
   simp [h, h']
  ·rename_i h'
   have h' := Bool.eq_false_iff.mpr h'
   simp [h']
 ·rename_i h
  simp [h]
def crs (a b c d : S_impl_Peg) : Bool := decide (sgn (tn a b c) * sgn (tn a b d) < 0) && decide (sgn (tn c d a) * sgn (tn c d b) < 0)
def mt (a b c d : S_impl_Peg) : Bool := crs a b c d || (onb a b c || (onb a b d || (onb c d a || onb c d b)))
theorem sgn_bd (n : Int) : -1 ≤ sgn n ∧ sgn n ≤ 1 := by
 unfold sgn
 repeat' split
 all_goals omega
theorem sgn_mul_bd (m n : Int) : -1 ≤ sgn m * sgn n ∧ sgn m * sgn n ≤ 1 := by
 have := mul_bd (sgn_bd m) (sgn_bd n)
 omega
theorem ev_spec_meet {a b c d : S_impl_Peg} (ha : Sm 1000000 a) (hb : Sm 1000000 b) (hc : Sm 1000000 c) (hd : Sm 1000000 d) : Ev (fun k => spec_pgMeet.f k a.f0 a.f1 b.f0 b.f1 c.f0 c.f1 d.f0 d.f1) (mt a b c d) := by
 unfold spec_pgMeet.f
 simp only [spec_on_eq ha hb hc, spec_on_eq ha hb hd, spec_on_eq hc hd ha, spec_on_eq hc hd hb, Option.bind_some]
 have e1 := sgn_mul_bd (tn a b c) (tn a b d)
 have e2 := sgn_mul_bd (tn c d a) (tn c d b)
 have key : ∀ x : Bool, (x = true → mt a b c d = true) → (x = false → mt a b c d = crs a b c d) → Ev (fun k => spec_pgMeet.j0 k x a.f0 a.f1 b.f0 b.f1 c.f0 c.f1 d.f0 d.f1) (mt a b c d) := by
  intro x h1 h2
  refine Ev.succ ?_
  simp only [spec_pgMeet.j0, spec_turn_eq ha hb hc, spec_turn_eq ha hb hd, spec_turn_eq hc hd ha, spec_turn_eq hc hd hb, spec_sign_eq, Option.bind_some]
  simp (disch := omega) only [w64]
  cases x with
  | true => simp only [if_true]; exact Ev.some (h1 rfl).symm
  | false =>
   simp only [Bool.false_eq_true, if_false]
   rw [h2 rfl]
   unfold crs
   split
   ·rename_i h
    exact Ev.some (by simp [h])
   ·rename_i h
    exact Ev.some (by simp [h])
 unfold mt at key ⊢
 cases h1 : onb a b c <;> cases h2 : onb a b d <;> cases h3 : onb c d a <;> cases h4 : onb c d b <;> simp only [h1, h2, h3, h4, if_true, Bool.false_eq_true, if_false] at key ⊢ <;> exact key _ (by simp) (by simp)
theorem ev_impl_meet {a b c d : S_impl_Peg} (ha : Sm 1000000 a) (hb : Sm 1000000 b) (hc : Sm 1000000 c) (hd : Sm 1000000 d) : Ev (fun k => impl_meet.f k a.f0 a.f1 b.f0 b.f1 c.f0 c.f1 d.f0 d.f1) (mt a b c d) := by
 have e1 := sgn_mul_bd (tn a b c) (tn a b d)
 have e2 := sgn_mul_bd (tn c d a) (tn c d b)
 unfold impl_meet.f
 simp only [impl_turn_eq ha hb hc, impl_turn_eq ha hb hd, impl_turn_eq hc hd ha, impl_turn_eq hc hd hb, impl_sign_eq, Option.bind_some]
 simp (disch := omega) only [w64]
 have key : ∀ x : Bool, x = crs a b c d → Ev (fun k => impl_meet.j0 k x a.f0 a.f1 b.f0 b.f1 c.f0 c.f1 d.f0 d.f1) (mt a b c d) := by
  intro x h
  refine Ev.succ ?_
  simp only [impl_meet.j0, impl_on_eq ha hb hc, impl_on_eq ha hb hd, impl_on_eq hc hd ha, impl_on_eq hc hd hb, Option.bind_some]
  unfold mt
  rw [← h]
  cases x <;> cases h1 : onb a b c <;> cases h2 : onb a b d <;> cases h3 : onb c d a <;> cases h4 : onb c d b <;> simp only [h1, h2, h3, h4, if_true, Bool.false_eq_true, if_false] <;> exact Ev.some rfl
 split
 ·rename_i h
  exact key _ (by unfold crs; simp [h])
 ·rename_i h
  exact key _ (by unfold crs; simp [h])

end Go.Proofs.Ytphkphjddkjabaa.B
