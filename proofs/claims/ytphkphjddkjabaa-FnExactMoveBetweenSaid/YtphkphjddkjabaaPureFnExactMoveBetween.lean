-- thin
/- The law FnExactMoveBetween holds: for all arguments the program's MoveBetween answers as the reference's, and the arguments are left as they were. No condition. -/
import Derived.Test.YtphkphjddkjabaaX0
import Derived.Test.YtphkphjddkjabaaX6
import Derived.Test.YtphkphjddkjabaaX7
import Derived.Test.YtphkphjddkjabaaX8
import Derived.Test.YtphkphjddkjabaaX9
import Derived.Test.YtphkphjddkjabaaX15
import Derived.Test.YtphkphjddkjabaaX16
import Derived.Test.YtphkphjddkjabaaX17
import Derived.Test.YtphkphjddkjabaaX19
import Derived.Test.YtphkphjddkjabaaBBase
import Derived.Test.YtphkphjddkjabaaBCore
import Derived.Test.YtphkphjddkjabaaBPoly
import Derived.Test.YtphkphjddkjabaaBAsk
import Derived.Test.YtphkphjddkjabaaBTold
import Derived.Test.YtphkphjddkjabaaBWay
import Derived.Test.YtphkphjddkjabaaBOrder
import Derived.Test.YtphkphjddkjabaaBGcd
import Derived.Test.YtphkphjddkjabaaBFrame
import Derived.Test.YtphkphjddkjabaaBTurn
import Derived.Test.YtphkphjddkjabaaBAlike
namespace Go.Proofs.Ytphkphjddkjabaa.Pure
open Go.RowKit Go.Proofs.Ytphkphjddkjabaa.XW Go.Proofs.Ytphkphjddkjabaa.X Go.Proofs.YtphkphjddkjabaaW.PrintWords Go.Proofs.YtphkphjddkjabaaW.PrintLast Go.Proofs.Ytphkphjddkjabaa.B
set_option linter.unusedVariables false
set_option linter.unusedSimpArgs false
set_option maxRecDepth 20000

theorem impl_size_eq {n : Int} (h : -9223372036854775808 < n ∧ n ≤ 9223372036854775807) : impl_size.f n = some (ab n) := by
 unfold impl_size.f ab mx
 rw [w64 (by omega)]
 repeat' split
 all_goals first | rfl | omega | (congr 1; omega)
theorem rd_nat (l : List Int) (i : Nat) : rd l (i : Int) = l.getD i 0 := rfl
def in20 (x : Int) : Bool := decide (-20 ≤ x) && decide (x ≤ 20)
theorem in20_iff {x : Int} : in20 x = true ↔ -20 ≤ x ∧ x ≤ 20 := by
 unfold in20
 rw [Bool.and_eq_true, decide_eq_true_eq, decide_eq_true_eq]
theorem ev_spec_all (n : List Int) (lo hi : Int) (hn : n.length ≤ 1099511627776) : Ev (fun k => spec_l1All.f k n lo hi) (n.all fun x => decide (lo ≤ x) && decide (x ≤ hi)) := by
 unfold spec_l1All.f
 have go : ∀ (d i : Nat), i + d = n.length → Ev (fun k => spec_l1All.l0 k lo hi n n.length i) ((n.drop i).all fun x => decide (lo ≤ x) && decide (x ≤ hi)) := by
  intro d
  induction d with
  | zero =>
   intro i hi'
   refine Ev.succ ?_
   obtain rfl : i = n.length := by omega
   simp (disch := omega) only [spec_l1All.l0, if_neg]
   exact Ev.some (by simp)
  | succ d ih =>
   intro i hi'
   refine Ev.succ ?_
   have hil : i < n.length := by omega
   have e : rd n (i : Int) = n[i] := by rw [rd_nat, List.getD_eq_getElem?_getD, List.getElem?_eq_getElem hil]; rfl
   rw [List.drop_eq_getElem_cons hil]
   simp (disch := omega) only [spec_l1All.l0, if_pos, spec_in_eq, Option.bind_some, w64, e, List.all_cons]
   cases hx : (decide (lo ≤ n[i]) && decide (n[i] ≤ hi)) with
   | true => simp only [if_true, Bool.true_and]; exact ih (i + 1) (by omega)
   | false => simp only [Bool.false_eq_true, if_false, Bool.false_and]; exact Ev.now _
 have := go n.length 0 (by omega)
 simpa using this
def isMv (a b c d x y : Int) : Bool := if (in20 a && (in20 b && (in20 c && in20 d))) = true then (if (way x && way y) = true then ab (a * d - b * c) == 1 else false) else false
theorem isMv_iff {a b c d x y : Int} (h : isMv a b c d x y = true) : (-20 ≤ a ∧ a ≤ 20) ∧ (-20 ≤ b ∧ b ≤ 20) ∧ (-20 ≤ c ∧ c ≤ 20) ∧ (-20 ≤ d ∧ d ≤ 20) ∧ (-80 ≤ x ∧ x ≤ 80) ∧ (-80 ≤ y ∧ y ≤ 80) := by
 unfold isMv at h
 split at h
 ·rename_i h1
  split at h
  ·rename_i h2
   simp only [Bool.and_eq_true] at h1 h2
   rw [in20_iff, in20_iff, in20_iff, in20_iff] at h1
   rw [way_iff, way_iff] at h2
   exact ⟨h1.1, h1.2.1, h1.2.2.1, h1.2.2.2, h2.1, h2.2⟩
  ·exact absurd h (by simp)
 ·exact absurd h (by simp)
theorem side_sm {a b c d : Int} (ha : -20 ≤ a ∧ a ≤ 20) (hb : -20 ≤ b ∧ b ≤ 20) (hc : -20 ≤ c ∧ c ≤ 20) (hd : -20 ≤ d ∧ d ≤ 20) : wrap64 (wrap64 (a * d) - wrap64 (b * c)) = a * d - b * c ∧ -800 ≤ a * d - b * c ∧ a * d - b * c ≤ 800 := by
 have h1 := mul_bd (x := a) (y := d) (A := 20) (B := 20) (by omega) (by omega)
 have h2 := mul_bd (x := b) (y := c) (A := 20) (B := 20) (by omega) (by omega)
 rw [w64 (x := a * d) (by omega), w64 (x := b * c) (by omega), w64 (by omega)]
 omega
theorem all4 (a b c d : Int) : ([a, b, c, d].all fun x => decide (-20 ≤ x) && decide (x ≤ 20)) = (in20 a && (in20 b && (in20 c && in20 d))) := by
 simp only [List.all_cons, List.all_nil, Bool.and_true]
 rfl
theorem all2 (x y : Int) : ([x, y].all fun x => decide (-80 ≤ x) && decide (x ≤ 80)) = (way x && way y) := by
 simp only [List.all_cons, List.all_nil, Bool.and_true]
 rfl
theorem ev_spec_mv (a b c d x y : Int) : Ev (fun k => spec_mvGood.f k a b c d x y) (isMv a b c d x y) := by
 unfold spec_mvGood.f isMv
 have h4 := ev_spec_all [a, b, c, d] (-20) 20 (by simp)
 have h2 := ev_spec_all [x, y] (-80) 80 (by simp)
 rw [all4] at h4
 rw [all2] at h2
 refine Ev.bind h4 ?_
 refine Ev.iteB (fun g4 => ?_) (fun _ => Ev.now _)
 refine Ev.bind h2 ?_
 refine Ev.iteB (fun g2 => ?_) (fun _ => Ev.now _)
 simp only [Bool.and_eq_true, in20_iff] at g4
 obtain ⟨s0, s1, s2⟩ := side_sm g4.1 g4.2.1 g4.2.2.1 g4.2.2.2
 rw [s0, spec_abs_eq (by omega)]
 exact Ev.now _
theorem ev_impl_mv (a b c d x y : Int) (hx : (Lit.int .i64 x).wf = true) (hy : (Lit.int .i64 y).wf = true) : Ev (fun k => impl_IsMove.f k a b c d x y) (isMv a b c d x y) := by
 unfold impl_IsMove.f isMv
 simp only [Option.bind_some]
 have stp : ∀ (i : Nat) (r : Bool), i < 4 → (in20 ([a, b, c, d].getD i 0) = true → Ev (fun k => impl_IsMove.l0 k [a, b, c, d] ([a, b, c, d].length : Int) ((i + 1 : Nat) : Int) a b c d x y) r) → Ev (fun k => impl_IsMove.l0 k [a, b, c, d] ([a, b, c, d].length : Int) (i : Int) a b c d x y) (if in20 ([a, b, c, d].getD i 0) = true then r else false) := by
  intro i r hi h
  refine Ev.succ ?_
  have e4 : ([a, b, c, d].length : Int) = 4 := rfl
  rw [e4] at h ⊢
  simp (disch := omega) only [impl_IsMove.l0, if_pos, e4, impl_within_eq, Option.bind_some, rd_nat, w64]
  refine Ev.iteB (b := in20 ([a, b, c, d].getD i 0)) (fun g => ?_) (fun _ => Ev.now _)
  exact h g
 have last : (in20 a = true → in20 b = true → in20 c = true → in20 d = true → Ev (fun k => impl_IsMove.l0 k [a, b, c, d] ([a, b, c, d].length : Int) ((4 : Nat) : Int) a b c d x y) (if (way x && way y) = true then ab (a * d - b * c) == 1 else false)) := by
  intro ha hb hc hd
  refine Ev.succ ?_
  have e4 : ([a, b, c, d].length : Int) = 4 := rfl
  rw [e4]
  simp (disch := omega) only [impl_IsMove.l0, if_neg, is_way_eq hx hy, Option.bind_some]
  refine Ev.iteB (fun _ => ?_) (fun _ => Ev.now _)
  rw [in20_iff] at ha hb hc hd
  obtain ⟨s0, s1, s2⟩ := side_sm ha hb hc hd
  unfold impl_Move_side.f
  simp only [Option.bind_some]
  rw [s0, impl_size_eq (by omega)]
  exact Ev.now _
 have h0 := stp 0 _ (by omega) (fun g0 => stp 1 _ (by omega) (fun g1 => stp 2 _ (by omega) (fun g2 => stp 3 _ (by omega) (fun g3 => last g0 g1 g2 g3))))
 have : (if in20 ([a, b, c, d].getD 0 0) = true then (if in20 ([a, b, c, d].getD 1 0) = true then (if in20 ([a, b, c, d].getD 2 0) = true then (if in20 ([a, b, c, d].getD 3 0) = true then (if (way x && way y) = true then ab (a * d - b * c) == 1 else false) else false) else false) else false) else false) = (if (in20 a && (in20 b && (in20 c && in20 d))) = true then (if (way x && way y) = true then ab (a * d - b * c) == 1 else false) else false) := by
  show (if in20 a = true then (if in20 b = true then (if in20 c = true then (if in20 d = true then _ else false) else false) else false) else false) = _
  cases in20 a <;> cases in20 b <;> cases in20 c <;> cases in20 d <;> simp
 rw [this] at h0
 exact h0
/-- The numbers that tell the move from one list to another. -/
def tD (p : List S_impl_Peg) : Int := vx p * wy p - vy p * wx p
def tE (p o : List S_impl_Peg) : Int := Int.tdiv (vx o * wy p - wx o * vy p) (tD p)
def tF (p o : List S_impl_Peg) : Int := Int.tdiv (wx o * vx p - vx o * wx p) (tD p)
def tG (p o : List S_impl_Peg) : Int := Int.tdiv (vy o * wy p - wy o * vy p) (tD p)
def tH (p o : List S_impl_Peg) : Int := Int.tdiv (wy o * vx p - vy o * wx p) (tD p)
def tX (p o : List S_impl_Peg) (e f : Int) : Int := (pt o 0).f0 - e * (pt p 0).f0 - f * (pt p 0).f1
def tY (p o : List S_impl_Peg) (g h : Int) : Int := (pt o 0).f1 - g * (pt p 0).f0 - h * (pt p 0).f1
def mt2 (p o : List S_impl_Peg) : Int × Int × Int × Int × Int × Int × Bool :=
 if fr o = fr p then (tE p o, tF p o, tG p o, tH p o, tX p o (tE p o) (tF p o), tY p o (tG p o) (tH p o), true) else (0, 0, 0, 0, 0, 0, false)
theorem tdiv_bd2 {x D B : Int} (h : -B ≤ x ∧ x ≤ B) : -B ≤ Int.tdiv x D ∧ Int.tdiv x D ≤ B := tdv_bd h D
section
variable {p o : List S_impl_Peg} (hp : FrOK p) (ho : FrOK o) (hl : p.length = o.length)
include hp ho hl
omit ho in
/-- All corners are brought where they belong. -/
theorem ev_mv_l1 {e f g h X Y : Int} (he : -100000 ≤ e ∧ e ≤ 100000) (hf : -100000 ≤ f ∧ f ≤ 100000) (hg : -100000 ≤ g ∧ g ≤ 100000) (hh : -100000 ≤ h ∧ h ≤ 100000) (hX : -100000000 ≤ X ∧ X ≤ 100000000) (hY : -100000000 ≤ Y ∧ Y ≤ 100000000) :
  ∀ (d i : Nat), i + d = p.length → ((∀ j, i ≤ j → j < p.length → e * (pt p j).f0 + f * (pt p j).f1 + X = (pt o j).f0 ∧ g * (pt p j).f0 + h * (pt p j).f1 + Y = (pt o j).f1) → Ev (fun k => spec_mvTo.l1 k o p p.length i e f g h X Y) (e, f, g, h, X, Y, true)) ∧ (¬ (∀ j, i ≤ j → j < p.length → e * (pt p j).f0 + f * (pt p j).f1 + X = (pt o j).f0 ∧ g * (pt p j).f0 + h * (pt p j).f1 + Y = (pt o j).f1) → Ev (fun k => spec_mvTo.l1 k o p p.length i e f g h X Y) (0, 0, 0, 0, 0, 0, false)) := by
 intro d
 induction d with
 | zero =>
  intro i hi
  refine ⟨fun _ => Ev.succ ?_, fun h1 => absurd (fun j h2 h3 => by omega) h1⟩
  simp (disch := omega) only [spec_mvTo.l1, if_neg]
  exact Ev.now _
 | succ d ih =>
  intro i hi
  have hil : i < p.length := by omega
  have h10 := hp.hi
  have q := hp.pegs i hil
  unfold Sm at q
  have m1 := mul_bd he (show -100 ≤ (pt p i).f0 ∧ (pt p i).f0 ≤ 100 by omega)
  have m2 := mul_bd hf (show -100 ≤ (pt p i).f1 ∧ (pt p i).f1 ≤ 100 by omega)
  have m3 := mul_bd hg (show -100 ≤ (pt p i).f0 ∧ (pt p i).f0 ≤ 100 by omega)
  have m4 := mul_bd hh (show -100 ≤ (pt p i).f1 ∧ (pt p i).f1 ≤ 100 by omega)
  have eb : br e f g h X Y (pt p i).f0 (pt p i).f1 = ⟨e * (pt p i).f0 + f * (pt p i).f1 + X, g * (pt p i).f0 + h * (pt p i).f1 + Y⟩ := by
   unfold br
   rw [w64 (x := e * (pt p i).f0) (by omega), w64 (x := f * (pt p i).f1) (by omega), w64 (x := g * (pt p i).f0) (by omega), w64 (x := h * (pt p i).f1) (by omega), w64 (x := e * (pt p i).f0 + f * (pt p i).f1) (by omega), w64 (x := g * (pt p i).f0 + h * (pt p i).f1) (by omega), w64 (by omega), w64 (by omega)]
  obtain ⟨n1, n2⟩ := ih (i + 1) (by omega)
  refine ⟨fun h1 => Ev.succ ?_, fun h1 => Ev.succ ?_⟩
  ·simp (disch := omega) only [spec_mvTo.l1, if_pos, rd_pt, mvPeg_eq, Option.bind_some, w64 (x := (i : Int) + 1), eb]
   have c := h1 i (Nat.le_refl _) hil
   have hc : ¬ ((!(e * (pt p i).f0 + f * (pt p i).f1 + X == (pt o i).f0)) || (!(g * (pt p i).f0 + h * (pt p i).f1 + Y == (pt o i).f1))) = true := by simp [c.1, c.2]
   simp (disch := omega) only [if_neg hc, w64 (x := (i : Int) + 1)]
   exact n1 fun j h2 h3 => h1 j (by omega) h3
  ·simp (disch := omega) only [spec_mvTo.l1, if_pos, rd_pt, mvPeg_eq, Option.bind_some, w64 (x := (i : Int) + 1), eb]
   by_cases c : e * (pt p i).f0 + f * (pt p i).f1 + X = (pt o i).f0 ∧ g * (pt p i).f0 + h * (pt p i).f1 + Y = (pt o i).f1
   ·have hc : ¬ ((!(e * (pt p i).f0 + f * (pt p i).f1 + X == (pt o i).f0)) || (!(g * (pt p i).f0 + h * (pt p i).f1 + Y == (pt o i).f1))) = true := by simp [c.1, c.2]
    simp (disch := omega) only [if_neg hc, w64 (x := (i : Int) + 1)]
    refine n2 fun h2 => h1 fun j h3 h4 => ?_
    by_cases e3 : j = i
    ·rw [e3]; exact c
    ·exact h2 j (by omega) h4
   ·have hc : ((!(e * (pt p i).f0 + f * (pt p i).f1 + X == (pt o i).f0)) || (!(g * (pt p i).f0 + h * (pt p i).f1 + Y == (pt o i).f1))) = true := by
     simp only [Bool.or_eq_true, Bool.not_eq_true', beq_eq_false_iff_ne]
     by_cases c1 : e * (pt p i).f0 + f * (pt p i).f1 + X = (pt o i).f0
     ·exact Or.inr fun c2 => c ⟨c1, c2⟩
     ·exact Or.inl c1
    simp only [if_pos hc]
    exact Ev.now _
abbrev mv0 : Int × Int × Int × Int × Int × Int × Bool := (0, 0, 0, 0, 0, 0, false)
/-- All that the reference asks of a move from the one to the other. -/
def Asked (p o : List S_impl_Peg) : Prop :=
 Int.tmod (vx o * wy p - wx o * vy p) (tD p) = 0 ∧ Int.tmod (wx o * vx p - vx o * wx p) (tD p) = 0 ∧ Int.tmod (vy o * wy p - wy o * vy p) (tD p) = 0 ∧ Int.tmod (wy o * vx p - vy o * wx p) (tD p) = 0 ∧ ab (tE p o * tH p o - tF p o * tG p o) = 1 ∧
 ∀ j, 0 ≤ j → j < p.length → tE p o * (pt p j).f0 + tF p o * (pt p j).f1 + tX p o (tE p o) (tF p o) = (pt o j).f0 ∧ tG p o * (pt p j).f0 + tH p o * (pt p j).f1 + tY p o (tG p o) (tH p o) = (pt o j).f1
theorem asked_iff : fr o = fr p ↔ Asked p o := by
 have h3 := hp.lo
 have hD : tD p ≠ 0 := hp.tri'
 rw [fr_iff hp ho hl]
 constructor
 ·rintro ⟨e, f, g, h, hb⟩
  obtain ⟨n1, n2, n3, n4⟩ := hb.nums h3
  have e1 : tE p o = e := by
   unfold tE
   rw [n1]
   exact Int.mul_tdiv_cancel e hD
  have e2 : tF p o = f := by
   unfold tF
   rw [n2]
   exact Int.mul_tdiv_cancel f hD
  have e3 : tG p o = g := by
   unfold tG
   rw [n3]
   exact Int.mul_tdiv_cancel g hD
  have e4 : tH p o = h := by
   unfold tH
   rw [n4]
   exact Int.mul_tdiv_cancel h hD
  unfold Asked
  rw [e1, e2, e3, e4, n1, n2, n3, n4]
  refine ⟨Int.mul_tmod_left e _, Int.mul_tmod_left f _, Int.mul_tmod_left g _, Int.mul_tmod_left h _, ?_, fun j _ hj => ?_⟩
  ·unfold ab
   rcases hb.1 with d | d <;> rw [d] <;> rfl
  ·obtain ⟨d1, d2⟩ := hb.2 j hj
   unfold dx dy at d1 d2
   unfold tX tY
   rw [Int.mul_sub, Int.mul_sub] at d1 d2
   omega
 ·rintro ⟨_, _, _, _, hd, hc⟩
  refine ⟨tE p o, tF p o, tG p o, tH p o, ?_, fun i hi => ?_⟩
  ·unfold ab at hd
   split at hd <;> omega
  ·obtain ⟨d1, d2⟩ := hc i (by omega) hi
   unfold tX at d1
   unfold tY at d2
   unfold dx dy
   rw [Int.mul_sub, Int.mul_sub, Int.mul_sub, Int.mul_sub]
   omega
omit hl in
theorem tn_bd4 : (-80000 ≤ vx o * wy p - wx o * vy p ∧ vx o * wy p - wx o * vy p ≤ 80000) ∧ (-80000 ≤ wx o * vx p - vx o * wx p ∧ wx o * vx p - vx o * wx p ≤ 80000) ∧ (-80000 ≤ vy o * wy p - wy o * vy p ∧ vy o * wy p - wy o * vy p ≤ 80000) ∧ (-80000 ≤ wy o * vx p - vy o * wx p ∧ wy o * vx p - vy o * wx p ≤ 80000) ∧ (-80000 ≤ tD p ∧ tD p ≤ 80000) := by
 obtain ⟨a1, a2, a3, a4⟩ := hp.small
 obtain ⟨b1, b2, b3, b4⟩ := ho.small
 have m1 := mul_bd b1 a4
 have m2 := mul_bd b3 a2
 have m3 := mul_bd b3 a1
 have m4 := mul_bd b1 a3
 have m5 := mul_bd b2 a4
 have m6 := mul_bd b4 a2
 have m7 := mul_bd b4 a1
 have m8 := mul_bd b2 a3
 have m9 := mul_bd a1 a4
 have m0 := mul_bd a2 a3
 unfold tD
 omega
omit hl in
theorem w_nums : wrap64 (wrap64 (vx o * wy p) - wrap64 (wx o * vy p)) = vx o * wy p - wx o * vy p ∧ wrap64 (wrap64 (wx o * vx p) - wrap64 (vx o * wx p)) = wx o * vx p - vx o * wx p ∧ wrap64 (wrap64 (vy o * wy p) - wrap64 (wy o * vy p)) = vy o * wy p - wy o * vy p ∧ wrap64 (wrap64 (wy o * vx p) - wrap64 (vy o * wx p)) = wy o * vx p - vy o * wx p ∧ wrap64 (wrap64 (vx p * wy p) - wrap64 (vy p * wx p)) = tD p := by
 obtain ⟨a1, a2, a3, a4⟩ := hp.small
 obtain ⟨b1, b2, b3, b4⟩ := ho.small
 have m1 := mul_bd b1 a4
 have m2 := mul_bd b3 a2
 have m3 := mul_bd b3 a1
 have m4 := mul_bd b1 a3
 have m5 := mul_bd b2 a4
 have m6 := mul_bd b4 a2
 have m7 := mul_bd b4 a1
 have m8 := mul_bd b2 a3
 have m9 := mul_bd a1 a4
 have m0 := mul_bd a2 a3
 unfold tD
 simp (disch := omega) only [w64, and_self]
omit hl in
theorem t_bd : (-80000 ≤ tE p o ∧ tE p o ≤ 80000) ∧ (-80000 ≤ tF p o ∧ tF p o ≤ 80000) ∧ (-80000 ≤ tG p o ∧ tG p o ≤ 80000) ∧ (-80000 ≤ tH p o ∧ tH p o ≤ 80000) := by
 obtain ⟨m1, m2, m3, m4, _⟩ := tn_bd4 hp ho
 exact ⟨tdiv_bd2 m1, tdiv_bd2 m2, tdiv_bd2 m3, tdiv_bd2 m4⟩
omit hl in
theorem p0_bd : (-100 ≤ (pt p 0).f0 ∧ (pt p 0).f0 ≤ 100) ∧ (-100 ≤ (pt p 0).f1 ∧ (pt p 0).f1 ≤ 100) ∧ (-100 ≤ (pt o 0).f0 ∧ (pt o 0).f0 ≤ 100) ∧ (-100 ≤ (pt o 0).f1 ∧ (pt o 0).f1 ≤ 100) := by
 have h3 := hp.lo
 have k3 := ho.lo
 have a := hp.pegs 0 (by omega)
 have b := ho.pegs 0 (by omega)
 unfold Sm at a b
 omega
omit hl in
theorem w_shift : wrap64 (wrap64 ((pt o 0).f0 - wrap64 (tE p o * (pt p 0).f0)) - wrap64 (tF p o * (pt p 0).f1)) = tX p o (tE p o) (tF p o) ∧ wrap64 (wrap64 ((pt o 0).f1 - wrap64 (tG p o * (pt p 0).f0)) - wrap64 (tH p o * (pt p 0).f1)) = tY p o (tG p o) (tH p o) ∧ (-100000000 ≤ tX p o (tE p o) (tF p o) ∧ tX p o (tE p o) (tF p o) ≤ 100000000) ∧ (-100000000 ≤ tY p o (tG p o) (tH p o) ∧ tY p o (tG p o) (tH p o) ≤ 100000000) := by
 obtain ⟨a, b, c, d⟩ := t_bd hp ho
 obtain ⟨e, f, g, h⟩ := p0_bd hp ho
 have m1 := mul_bd a e
 have m2 := mul_bd b f
 have m3 := mul_bd c e
 have m4 := mul_bd d f
 unfold tX tY
 refine ⟨?_, ?_, ?_, ?_⟩
 ·simp (disch := omega) only [w64]
 ·simp (disch := omega) only [w64]
 ·omega
 ·omega
omit hp ho hl in
/-- One of the four quotients. -/
theorem ev_quot {D : Int} (hD : D ≠ 0) {x : List Int} (hx : x.length = 4) {i : Nat} (hi : i < 4) {r : Int × Int × Int × Int × Int × Int × Bool} (hq : -80000 ≤ Int.tdiv (x.getD i 0) D ∧ Int.tdiv (x.getD i 0) D ≤ 80000)
  (hy : Int.tmod (x.getD i 0) D = 0 → Ev (fun k => spec_mvTo.l0 k p o D (x.set i (Int.tdiv (x.getD i 0) D)) 4 ((i + 1 : Nat) : Int)) r) (hn : ¬ Int.tmod (x.getD i 0) D = 0 → mv0 = r) :
  Ev (fun k => spec_mvTo.l0 k p o D x 4 (i : Int)) r := by
 refine Ev.succ ?_
 simp (disch := omega) only [spec_mvTo.l0, if_pos, if_neg hD, rd_nat, Int.toNat_natCast, w64]
 by_cases c : Int.tmod (x.getD i 0) D = 0
 ·simp only [if_pos c]
  exact hy c
 ·simp only [if_neg c]
  exact Ev.some (hn c)
theorem ev_mvTo : Ev (fun k => spec_mvTo.f k p o) (mt2 p o) := by
 unfold spec_mvTo.f
 have h3 := hp.lo
 have k3 := ho.lo
 have hD : tD p ≠ 0 := hp.tri'
 obtain ⟨e0, e1, e2, e3⟩ := hp.ways
 obtain ⟨f0, f1, f2, f3⟩ := ho.ways
 obtain ⟨w1, w2, w3, w4, w5⟩ := w_nums hp ho
 obtain ⟨b1, b2, b3, b4⟩ := t_bd hp ho
 obtain ⟨s1, s2, s3, s4⟩ := w_shift hp ho
 simp (disch := omega) only [if_pos, rd0, rd1, rd2, Option.bind_some, e0, e1, e2, e3, f0, f1, f2, f3, w1, w2, w3, w4, w5]
 have hm : mt2 p o = if fr o = fr p then (tE p o, tF p o, tG p o, tH p o, tX p o (tE p o) (tF p o), tY p o (tG p o) (tH p o), true) else mv0 := rfl
 have hno : ¬ Asked p o → mv0 = mt2 p o := fun c => by rw [hm, if_neg (fun e => c ((asked_iff hp ho hl).1 e))]
 have hyes : Asked p o → (tE p o, tF p o, tG p o, tH p o, tX p o (tE p o) (tF p o), tY p o (tG p o) (tH p o), true) = mt2 p o := fun c => by rw [hm, if_pos ((asked_iff hp ho hl).2 c)]
 have hlen : (([vx o * wy p - wx o * vy p, wx o * vx p - vx o * wx p, vy o * wy p - wy o * vy p, wy o * vx p - vy o * wx p] : List Int).length : Int) = 4 := rfl
 rw [hlen]
 refine ev_quot hD rfl (i := 0) (by omega) b1 (fun c0 => ?_) (fun c => hno fun a => c a.1)
 refine ev_quot hD rfl (i := 1) (by omega) b2 (fun c1 => ?_) (fun c => hno fun a => c a.2.1)
 refine ev_quot hD rfl (i := 2) (by omega) b3 (fun c2 => ?_) (fun c => hno fun a => c a.2.2.1)
 refine ev_quot hD rfl (i := 3) (by omega) b4 (fun c3 => ?_) (fun c => hno fun a => c a.2.2.2.1)
 show Ev (fun k => spec_mvTo.l0 k p o (tD p) [tE p o, tF p o, tG p o, tH p o] 4 4) (mt2 p o)
 refine Ev.succ ?_
 have g0 : rd [tE p o, tF p o, tG p o, tH p o] 0 = tE p o := rfl
 have g1 : rd [tE p o, tF p o, tG p o, tH p o] 1 = tF p o := rfl
 have g2 : rd [tE p o, tF p o, tG p o, tH p o] 2 = tG p o := rfl
 have g3 : rd [tE p o, tF p o, tG p o, tH p o] 3 = tH p o := rfl
 have gl : (([tE p o, tF p o, tG p o, tH p o] : List Int).length : Int) = 4 := rfl
 have m1 := mul_bd b1 b4
 have m2 := mul_bd b2 b3
 have e44 : ¬ (4 : Int) < 4 := by omega
 simp (disch := omega) only [spec_mvTo.l0, if_neg e44, if_pos, gl, g0, g1, g2, g3, rd0, s1, s2, w64, spec_abs_eq, Option.bind_some]
 by_cases c4 : ab (tE p o * tH p o - tF p o * tG p o) = 1
 ·simp only [if_pos c4]
  obtain ⟨y, n⟩ := ev_mv_l1 (o := o) hp hl (e := tE p o) (f := tF p o) (g := tG p o) (h := tH p o) (by omega) (by omega) (by omega) (by omega) s3 s4 p.length 0 (by omega)
  by_cases c5 : ∀ j, 0 ≤ j → j < p.length → tE p o * (pt p j).f0 + tF p o * (pt p j).f1 + tX p o (tE p o) (tF p o) = (pt o j).f0 ∧ tG p o * (pt p j).f0 + tH p o * (pt p j).f1 + tY p o (tG p o) (tH p o) = (pt o j).f1
  ·have := y c5
   rw [← hyes ⟨c0, c1, c2, c3, c4, c5⟩]
   exact this
  ·have := n c5
   rw [← hno fun a => c5 a.2.2.2.2.2]
   exact this
 ·simp only [if_neg c4]
  exact Ev.some (hno fun a => c4 a.2.2.2.2.1)
theorem between_eq : impl_between.f p o = some (tE p o, tF p o, tG p o, tH p o, tX p o (tE p o) (tF p o), tY p o (tG p o) (tH p o)) := by
 unfold impl_between.f
 have h3 := hp.lo
 have k3 := ho.lo
 have hD : tD p ≠ 0 := hp.tri'
 obtain ⟨e0, e1, e2, e3⟩ := hp.ways
 obtain ⟨f0, f1, f2, f3⟩ := ho.ways
 obtain ⟨w1, w2, w3, w4, w5⟩ := w_nums hp ho
 obtain ⟨b1, b2, b3, b4⟩ := t_bd hp ho
 obtain ⟨p1, p2, p3, p4⟩ := p0_bd hp ho
 have m1 := mul_bd b1 p1
 have m2 := mul_bd b2 p2
 have m3 := mul_bd b3 p1
 have m4 := mul_bd b4 p2
 simp (disch := omega) only [if_pos, rd0, rd1, rd2, Option.bind_some, impl_Peg_less.f, impl_cross.f, e0, e1, e2, e3, f0, f1, f2, f3, w1, w2, w3, w4, w5, if_neg hD, bring_eq]
 have q1 : wrap64 (Int.tdiv (vx o * wy p - wx o * vy p) (tD p)) = tE p o := w64 (by unfold tE at b1; omega)
 have q2 : wrap64 (Int.tdiv (wx o * vx p - vx o * wx p) (tD p)) = tF p o := w64 (by unfold tF at b2; omega)
 have q3 : wrap64 (Int.tdiv (vy o * wy p - wy o * vy p) (tD p)) = tG p o := w64 (by unfold tG at b3; omega)
 have q4 : wrap64 (Int.tdiv (wy o * vx p - vy o * wx p) (tD p)) = tH p o := w64 (by unfold tH at b4; omega)
 rw [q1, q2, q3, q4]
 unfold br tX tY
 simp (disch := omega) only [w64]
 simp only [Option.some.injEq, Prod.mk.injEq, true_and]
 omega
end
/-- The move from one list to another, if it is one. -/
noncomputable def mvAt (p o : List S_impl_Peg) : Int × Int × Int × Int × Int × Int × Bool :=
 if isMv (tE p o) (tF p o) (tG p o) (tH p o) (tX p o (tE p o) (tF p o)) (tY p o (tG p o) (tH p o)) = true then (tE p o, tF p o, tG p o, tH p o, tX p o (tE p o) (tF p o), tY p o (tG p o) (tH p o), true) else mv0
noncomputable def srch (p q : List S_impl_Peg) : Nat → Nat → Int × Int × Int × Int × Int × Int × Bool
 | 0, _ => mv0
 | d + 1, k => if fr (tld q (k : Int) 1) = fr p then mvAt p (tld q (k : Int) 1) else if fr (tld q (k : Int) (-1)) = fr p then mvAt p (tld q (k : Int) (-1)) else srch p q d (k + 1)
theorem tld_bk {l : List S_impl_Peg} {a : Nat} (ha : a < l.length) : tld (tld l (a : Int) 1) 0 (-1) = tld l (a : Int) (-1) := by
 have e1 : (tld l (a : Int) 1).length = l.length := tld_length _ _ _
 have : ∀ m, m = l.length → (List.range m).map (fun k => pt (tld l (a : Int) 1) (tldi m 0 (-1) k)) = (List.range l.length).map fun k => pt l (tldi l.length (a : Int) (-1) k) := by
  intro m hm
  subst hm
  refine List.map_congr_left fun j hj => ?_
  rw [List.mem_range] at hj
  rw [tldi_back hj, tldi_down ha hj, tld_pt _ _ (by split <;> omega), tldi1 ha (by split <;> omega)]
  congr 1
  repeat' split
  all_goals omega
 exact this _ e1
section
variable {p q : List S_impl_Peg} (hp : Poly p) (hq : Poly q) (hl : p.length = q.length)
include hp hq hl
omit hq hl in
theorem pOK : FrOK p := by
 have := hp.trn.fr_up (a := 0) (by have := hp.lo; omega)
 rw [tld_zero] at this
 exact this
omit hp hq hl in
theorem ev_mvIf (o : List S_impl_Peg) : Ev (fun k => spec_mvIf.f k (tE p o) (tF p o) (tG p o) (tH p o) (tX p o (tE p o) (tF p o)) (tY p o (tG p o) (tH p o))) (mvAt p o) := by
 unfold spec_mvIf.f mvAt
 refine Ev.bind (ev_spec_mv _ _ _ _ _ _) ?_
 exact Ev.iteB (fun _ => Ev.now _) (fun _ => Ev.now _)
omit hp hq hl in
theorem wf_of {x : Int} (h : -9223372036854775808 ≤ x ∧ x ≤ 9223372036854775807) : (Lit.int .i64 x).wf = true := by
 unfold Lit.wf
 rw [Bool.and_eq_true, decide_eq_true_eq, decide_eq_true_eq, show IntKind.min .i64 = -9223372036854775808 from rfl, show IntKind.max .i64 = 9223372036854775807 from rfl]
 exact h
omit hq hl in
theorem ev_checked {o : List S_impl_Peg} (ho : FrOK o) (hlo : p.length = o.length) : Ev (fun k => impl_checkedMove.f k (tE p o) (tF p o) (tG p o) (tH p o) (tX p o (tE p o) (tF p o)) (tY p o (tG p o) (tH p o))) (mvAt p o) := by
 unfold impl_checkedMove.f mvAt
 obtain ⟨_, _, s3, s4⟩ := w_shift (pOK hp) ho
 refine Ev.bind (ev_impl_mv _ _ _ _ _ _ (wf_of (by omega)) (wf_of (by omega))) ?_
 exact Ev.iteB (fun _ => Ev.now _) (fun _ => Ev.now _)
theorem ev_spec_l0 : ∀ (d i : Nat), i + d = q.length → Ev (fun k => spec_MoveBetween.l0 k p q (q.length : Int) (i : Int)) (srch p q d i) := by
 have q3 := hq.lo
 have q9 := hq.hi
 have hP := pOK hp
 intro d
 induction d with
 | zero =>
  intro i hi
  refine Ev.succ ?_
  simp (disch := omega) only [spec_MoveBetween.l0, if_neg]
  exact Ev.now _
 | succ d ih =>
  intro i hi
  have hiq : i < q.length := by omega
  have hU := hq.trn.fr_up hiq
  have hB := hq.trn.fr_down hiq
  have eU : p.length = (tld q (i : Int) 1).length := by rw [tld_length]; exact hl
  have eB : p.length = (tld q (i : Int) (-1)).length := by rw [tld_length]; exact hl
  refine Ev.succ ?_
  have l1 : (q.drop i).length ≤ 10 := by simp; omega
  have l2 : (q.take i).length ≤ 10 := by simp; omega
  have l3 : (([] : List S_impl_Peg) ++ q.drop i).length ≤ 10 := l1
  have l0 : ([] : List S_impl_Peg).length = 0 := rfl
  simp (disch := omega) only [spec_MoveBetween.l0, if_pos, Option.bind_some, Int.toNat_natCast]
  simp only [List.nil_append, tld_turn (Nat.le_of_lt hiq)]
  refine Ev.bind (ev_spec_back _ (by rw [tld_length]; omega) (by rw [tld_length]; omega)) ?_
  rw [tld_bk hiq]
  have gl : (([tld q (i : Int) 1, tld q (i : Int) (-1)] : List (List S_impl_Peg)).length : Int) = 2 := rfl
  rw [gl]
  have r0 : rd_L3 [tld q (i : Int) 1, tld q (i : Int) (-1)] 0 = tld q (i : Int) 1 := rfl
  have r1 : rd_L3 [tld q (i : Int) 1, tld q (i : Int) (-1)] 1 = tld q (i : Int) (-1) := rfl
  have n := ih (i + 1) (by omega)
  refine Ev.succ ?_
  simp (disch := omega) only [spec_MoveBetween.l1, if_pos, gl, r0, Option.bind_some]
  refine Ev.bind (ev_mvTo hP hU eU) ?_
  unfold srch mt2
  by_cases c1 : fr (tld q (i : Int) 1) = fr p
  ·simp only [if_pos c1, if_true]
   refine Ev.bind (ev_mvIf _) ?_
   exact Ev.now _
  ·simp only [if_neg c1, Bool.false_eq_true, if_false]
   refine Ev.succ ?_
   have w1 : wrap64 (0 + 1) = 1 := w64 (by omega)
   simp (disch := omega) only [spec_MoveBetween.l1, if_pos, gl, w1, r1, Option.bind_some]
   refine Ev.bind (ev_mvTo hP hB eB) ?_
   unfold mt2
   by_cases c2 : fr (tld q (i : Int) (-1)) = fr p
   ·simp only [if_pos c2, if_true]
    refine Ev.bind (ev_mvIf _) ?_
    exact Ev.now _
   ·simp only [if_neg c2, Bool.false_eq_true, if_false]
    refine Ev.succ ?_
    have w2 : wrap64 (1 + 1) = 2 := w64 (by omega)
    have e22 : ¬ (2 : Int) < 2 := by omega
    simp (disch := omega) only [spec_MoveBetween.l1, w2, if_neg e22, w64]
    exact n
theorem ev_impl_l0 : ∀ (d i : Nat), i + d = q.length → Ev (fun k => impl_MoveBetween.l0 k p q (fr p) (q.length : Int) (i : Int)) (srch p q d i) := by
 have q3 := hq.lo
 have q9 := hq.hi
 have hP := pOK hp
 have lp : (fr p).length ≤ 10 := by rw [fr_length]; omega
 intro d
 induction d with
 | zero =>
  intro i hi
  refine Ev.succ ?_
  simp (disch := omega) only [impl_MoveBetween.l0, if_neg]
  exact Ev.now _
 | succ d ih =>
  intro i hi
  have hiq : i < q.length := by omega
  have hU := hq.trn.fr_up hiq
  have hB := hq.trn.fr_down hiq
  have eU : p.length = (tld q (i : Int) 1).length := by rw [tld_length]; exact hl
  have eB : p.length = (tld q (i : Int) (-1)).length := by rw [tld_length]; exact hl
  have lU : (fr (tld q (i : Int) 1)).length ≤ 10 := by rw [fr_length, tld_length]; omega
  have lB : (fr (tld q (i : Int) (-1))).length ≤ 10 := by rw [fr_length, tld_length]; omega
  have gl : (([1, -1] : List Int).length : Int) = 2 := rfl
  have r0 : rd [1, -1] 0 = 1 := rfl
  have r1 : rd [1, -1] 1 = -1 := rfl
  have n := ih (i + 1) (by omega)
  refine Ev.succ ?_
  simp (disch := omega) only [impl_MoveBetween.l0, if_pos, Option.bind_some, gl]
  refine Ev.succ ?_
  simp (disch := omega) only [impl_MoveBetween.l1, if_pos, gl, r0]
  refine Ev.bind (ev_told q (by omega) (by omega) (by omega)) ?_
  refine Ev.bind hU.ev_impl ?_
  refine Ev.bind (ev_equal _ _ (by omega) (by omega)) ?_
  unfold srch
  by_cases c1 : fr (tld q (i : Int) 1) = fr p
  ·simp only [if_pos c1, decide_eq_true c1, if_true, between_eq hP hU eU, Option.bind_some]
   refine Ev.bind (ev_checked hp hU eU) ?_
   exact Ev.now _
  ·simp only [if_neg c1, decide_eq_false c1, Bool.false_eq_true, if_false]
   refine Ev.succ ?_
   have w1 : wrap64 (0 + 1) = 1 := w64 (by omega)
   simp (disch := omega) only [impl_MoveBetween.l1, if_pos, gl, w1, r1]
   refine Ev.bind (ev_told q (by omega) (by omega) (by omega)) ?_
   refine Ev.bind hB.ev_impl ?_
   refine Ev.bind (ev_equal _ _ (by omega) (by omega)) ?_
   by_cases c2 : fr (tld q (i : Int) (-1)) = fr p
   ·simp only [if_pos c2, decide_eq_true c2, if_true, between_eq hP hB eB, Option.bind_some]
    refine Ev.bind (ev_checked hp hB eB) ?_
    exact Ev.now _
   ·simp only [if_neg c2, decide_eq_false c2, Bool.false_eq_true, if_false]
    refine Ev.succ ?_
    have w2 : wrap64 (1 + 1) = 2 := w64 (by omega)
    have e22 : ¬ (2 : Int) < 2 := by omega
    simp (disch := omega) only [impl_MoveBetween.l1, w2, if_neg e22, w64]
    exact n
end
noncomputable def ans_MoveBetween (p q : List S_impl_Peg) : Int × Int × Int × Int × Int × Int × Bool := if good p = true then (if good q = true then (if p.length = q.length then srch p q q.length 0 else mv0) else mv0) else mv0
theorem ev_spec_MoveBetween (p q : List S_impl_Peg) : Ev (fun k => spec_MoveBetween.f k p q) (ans_MoveBetween p q) := by
 unfold spec_MoveBetween.f ans_MoveBetween
 refine askS p (fun hp => ?_) ?_
 ·simp only [if_true]
  refine askS q (fun hq => ?_) ?_
  ·refine Ev.succ ?_
   simp only [if_true, spec_MoveBetween.j0]
   by_cases c : p.length = q.length
   ·have e : ((p.length : Int) != (q.length : Int)) = false := by rw [c]; exact bne_self_eq_false _
    simp only [e, Bool.false_eq_true, if_false, if_pos c]
    exact ev_spec_l0 hp hq c q.length 0 (by omega)
   ·have e : ((p.length : Int) != (q.length : Int)) = true := by rw [bne_iff_ne]; omega
    simp only [e, if_true, if_neg c]
    exact Ev.now _
  ·refine Ev.succ ?_
   simp only [spec_MoveBetween.j0, Bool.false_eq_true, if_false, if_true]
   exact Ev.now _
 ·refine Ev.succ ?_
  simp only [spec_MoveBetween.j0, Bool.false_eq_true, if_false, if_true]
  exact Ev.now _
theorem ev_impl_MoveBetween (p q : List S_impl_Peg) : Ev (fun k => impl_MoveBetween.f k p q) (ans_MoveBetween p q) := by
 unfold impl_MoveBetween.f ans_MoveBetween
 refine askI p (fun hp => ?_) ?_
 ·simp only [if_true]
  refine askI q (fun hq => ?_) ?_
  ·refine Ev.succ ?_
   simp only [if_true, impl_MoveBetween.j0]
   by_cases c : p.length = q.length
   ·have e : ((p.length : Int) != (q.length : Int)) = false := by rw [c]; exact bne_self_eq_false _
    simp only [e, Bool.false_eq_true, if_false, if_pos c]
    refine Ev.bind (pOK hp).ev_impl ?_
    exact ev_impl_l0 hp hq c q.length 0 (by omega)
   ·have e : ((p.length : Int) != (q.length : Int)) = true := by rw [bne_iff_ne]; omega
    simp only [e, if_true, if_neg c]
    exact Ev.now _
  ·refine Ev.succ ?_
   simp only [impl_MoveBetween.j0, Bool.false_eq_true, if_false, if_true]
   exact Ev.now _
 ·refine Ev.succ ?_
  simp only [impl_MoveBetween.j0, Bool.false_eq_true, if_false, if_true]
  exact Ev.now _
theorem FnExactMoveBetween : laws_FnExactMoveBetween.Pure := by
 intro l0 l1 hl0 hl1
 have hl0 := hl0.1
 have hl1 := hl1.1
 refine Ev.rounds ?_
 unfold laws_FnExactMoveBetween.f
 rw [szPegS_eq l0 hl0]
 simp only [Option.bind_some]
 by_cases gl0 : 1048576 < l0.length
 ·simp only [if_pos gl0]
  exact Ev.now _
 simp only [if_neg gl0]
 simp (disch := omega) only [if_neg]
 rw [szPegS_eq' l1 _ hl1 (by omega)]
 simp only [Option.bind_some]
 by_cases gl1 : 1048576 < l0.length + l1.length
 ·simp (disch := omega) only [if_pos]
  exact Ev.now _
 simp (disch := omega) only [if_neg]
 have el0 : l0.length ≤ 1048576 := by omega
 have el1 : l1.length ≤ 1048576 := by omega
 obtain ⟨R, hR⟩ : ∃ R, R = ans_MoveBetween (toP l0) (toP l1) := ⟨_, rfl⟩
 have hS := ev_spec_MoveBetween (toP l0) (toP l1)
 have hM := ev_impl_MoveBetween (toP l0) (toP l1)
 rw [← hR] at hS hM
 repeat (first | exact Ev.now _ | refine Ev.bind (ev_toPegS l0 el0) ?_ | refine Ev.bind (ev_toPegS l1 el1) ?_ | refine Ev.bind hS ?_ | refine Ev.bind hM ?_ | refine Ev.bind (ev_eqPegS (toP l0) (by rw [toP_length]; omega)) ?_ | refine Ev.bind (ev_eqPegS (toP l1) (by rw [toP_length]; omega)) ?_ | simp only [eq_self, if_true, bne_self_eq_false, Bool.false_eq_true, if_false, Option.bind_some, laws_eqMove.f] | simp (disch := omega) only [if_neg, if_pos] | (refine Ev.succ ?_; simp only [laws_FnExactMoveBetween.j0, Bool.false_eq_true, if_false]))

end Go.Proofs.Ytphkphjddkjabaa.Pure
