-- thin
/- The frame of corners, in the reference and in the program. -/
import Derived.Test.YtphkphjddkjabaaX0
import Derived.Test.YtphkphjddkjabaaX5
import Derived.Test.YtphkphjddkjabaaX9
import Derived.Test.YtphkphjddkjabaaX13
import Derived.Test.YtphkphjddkjabaaX14
import Derived.Test.YtphkphjddkjabaaBBase
import Derived.Test.YtphkphjddkjabaaBCore
import Derived.Test.YtphkphjddkjabaaBPoly
import Derived.Test.YtphkphjddkjabaaBAsk
import Derived.Test.YtphkphjddkjabaaBTold
import Derived.Test.YtphkphjddkjabaaBOrder
import Derived.Test.YtphkphjddkjabaaBGcd
namespace Go.Proofs.Ytphkphjddkjabaa.B
open Go.RowKit Go.Proofs.Ytphkphjddkjabaa.XW Go.Proofs.Ytphkphjddkjabaa.X Go.Proofs.YtphkphjddkjabaaW.PrintWords Go.Proofs.YtphkphjddkjabaaW.PrintLast Go.Proofs.Ytphkphjddkjabaa.B
set_option linter.unusedVariables false
set_option linter.unusedSimpArgs false
set_option maxRecDepth 20000

/-- The rests of two numbers, one behind the other, and what makes the last one of the two. -/
def bz : Nat → Int → Int → Int → Int → Int → Int → Int × Int × Int
 | 0, a, _, u, v, _, _ => (a, u, v)
 | n + 1, a, b, u, v, x, y => if b = 0 then (a, u, v) else bz n b (wrap64 (a - wrap64 (wrap64 (Int.tdiv a b) * b))) x y (wrap64 (u - wrap64 (wrap64 (Int.tdiv a b) * x))) (wrap64 (v - wrap64 (wrap64 (Int.tdiv a b) * y)))
theorem rest_eq {a b : Int} (h0 : b ≠ 0) (h1 : a.natAbs ≤ 1000000000) (h2 : b.natAbs ≤ 1000000000) : wrap64 (a - wrap64 (wrap64 (Int.tdiv a b) * b)) = Int.tmod a b := by
 have e := Int.tmod_add_mul_tdiv a b
 have hs := tmod_small (a := a) h0
 have hd := tdv_bd (x := a) (B := 1000000000) (by omega) b
 rw [Int.mul_comm b] at e
 rw [w64 (x := Int.tdiv a b) (by omega), w64 (x := _ * _) (by omega), w64 (by omega)]
 omega
theorem bz_gc : ∀ (n : Nat) (a b u v x y : Int), b.natAbs ≤ n → a.natAbs ≤ 1000000000 → b.natAbs ≤ 1000000000 → ab (bz n a b u v x y).1 = gc a b ∧ (bz n a b u v x y).1.natAbs ≤ 1000000000 := by
 intro n
 induction n with
 | zero =>
  intro a b u v x y hb h1 h2
  obtain rfl : b = 0 := by omega
  exact ⟨(gc_zero a).symm, h1⟩
 | succ n ih =>
  intro a b u v x y hb h1 h2
  unfold bz
  by_cases h0 : b = 0
  ·subst h0
   rw [if_pos rfl]
   exact ⟨(gc_zero a).symm, h1⟩
  ·have hs := tmod_small (a := a) h0
   rw [if_neg h0, rest_eq h0 h1 h2, gc_rec]
   exact ih _ _ _ _ _ _ (by omega) h2 (by omega)
theorem ev_bezout : ∀ (n : Nat) (a b u v x y : Int), b.natAbs ≤ n → a.natAbs ≤ 1000000000 → b.natAbs ≤ 1000000000 → Ev (fun k => impl_bezout.l0 k a b u v x y) (bz n a b u v x y) := by
 intro n
 induction n with
 | zero =>
  intro a b u v x y hb h1 h2
  obtain rfl : b = 0 := by omega
  refine Ev.succ ?_
  simp only [impl_bezout.l0, if_true]
  exact Ev.now _
 | succ n ih =>
  intro a b u v x y hb h1 h2
  refine Ev.succ ?_
  unfold bz
  by_cases h0 : b = 0
  ·subst h0
   simp only [impl_bezout.l0, if_true]
   exact Ev.now _
  ·have hs := tmod_small (a := a) h0
   simp only [impl_bezout.l0, if_neg h0]
   refine ih _ _ _ _ _ _ ?_ h2 ?_ <;> rw [rest_eq h0 h1 h2] <;> omega
def uv (e : Int × Int × Int) : Int × Int := if e.1 < 0 then (wrap64 (-e.2.1), wrap64 (-e.2.2)) else (e.2.1, e.2.2)
/-- What a move brings a way to, as the machine counts. -/
def br (A B C D E F x y : Int) : S_impl_Peg := ⟨wrap64 (wrap64 (wrap64 (A * x) + wrap64 (B * y)) + E), wrap64 (wrap64 (wrap64 (C * x) + wrap64 (D * y)) + F)⟩
theorem mvPeg_eq (A B C D E F x y : Int) : spec_mvPeg.f A B C D E F x y = some ((br A B C D E F x y).f0, (br A B C D E F x y).f1) := rfl
theorem bring_eq (A B C D E F x y : Int) : impl_Move_bring.f A B C D E F x y = some ((br A B C D E F x y).f0, (br A B C D E F x y).f1) := rfl
section
variable (l : List S_impl_Peg)
def vx : Int := (pt l 1).f0 - (pt l 0).f0
def vy : Int := (pt l 1).f1 - (pt l 0).f1
def wx : Int := (pt l 2).f0 - (pt l 0).f0
def wy : Int := (pt l 2).f1 - (pt l 0).f1
def bl : Int × Int × Int := bz (vy l).natAbs (vx l) (vy l) 1 0 0 1
def fg : Int := gc (vx l) (vy l)
def fc : Int := wrap64 (Int.tdiv (wrap64 (-(vy l))) (fg l))
def fd : Int := wrap64 (Int.tdiv (vx l) (fg l))
def fth : S_impl_Peg := br (uv (bl l)).1 (uv (bl l)).2 (fc l) (fd l) 0 0 (wx l) (wy l)
def fk (X Y : Int) : Int := wrap64 (Int.tdiv (wrap64 (Int.tmod (wrap64 (Int.tmod X Y + Y)) Y - X)) Y)
def fin (c d X Y : Int) : List S_impl_Peg := (List.range l.length).map fun i => br (wrap64 ((uv (bl l)).1 + wrap64 (fk X Y * c))) (wrap64 ((uv (bl l)).2 + wrap64 (fk X Y * d))) c d 0 0 (wrap64 ((pt l i).f0 - (pt l 0).f0)) (wrap64 ((pt l i).f1 - (pt l 0).f1))
def fr : List S_impl_Peg := if (fth l).f1 < 0 then fin l (wrap64 (-(fc l))) (wrap64 (-(fd l))) (fth l).f0 (wrap64 (-(fth l).f1)) else fin l (fc l) (fd l) (fth l).f0 (fth l).f1
end
theorem fin_length (l : List S_impl_Peg) (c d X Y : Int) : (fin l c d X Y).length = l.length := by simp [fin]
theorem fr_length (l : List S_impl_Peg) : (fr l).length = l.length := by
 unfold fr
 split <;> exact fin_length _ _ _ _ _
/-- Corners that have a frame. -/
structure FrOK (l : List S_impl_Peg) : Prop where
 lo : 3 ≤ l.length
 hi : l.length ≤ 10
 pegs : ∀ i, i < l.length → Sm 100 (pt l i)
 tri : tn (pt l 0) (pt l 1) (pt l 2) ≠ 0
namespace FrOK
variable {l : List S_impl_Peg} (h : FrOK l)
include h
theorem small : (-200 ≤ vx l ∧ vx l ≤ 200) ∧ (-200 ≤ vy l ∧ vy l ≤ 200) ∧ (-200 ≤ wx l ∧ wx l ≤ 200) ∧ (-200 ≤ wy l ∧ wy l ≤ 200) := by
 have hl := h.lo
 have h0 := h.pegs 0 (by omega)
 have h1 := h.pegs 1 (by omega)
 have h2 := h.pegs 2 (by omega)
 unfold Sm at h0 h1 h2
 unfold vx vy wx wy
 omega
theorem tri' : vx l * wy l - vy l * wx l ≠ 0 := h.tri
theorem gpos : 0 < fg l := by
 refine gc_pos ?_
 by_cases c : vx l = 0
 ·by_cases c1 : vy l = 0
  ·have := h.tri'
   rw [c, c1, Int.zero_mul, Int.zero_mul] at this
   omega
  ·exact Or.inr c1
 ·exact Or.inl c
theorem third : (fth l).f1 ≠ 0 ∧ -80000 ≤ (fth l).f1 ∧ (fth l).f1 ≤ 80000 := by
 obtain ⟨a, b, c, d⟩ := h.small
 have g := h.gpos
 have b1 := tdv_bd (x := -(vy l)) (B := 200) (by omega) (fg l)
 have b2 := tdv_bd (x := vx l) (B := 200) (by omega) (fg l)
 have ec : fc l = Int.tdiv (-(vy l)) (fg l) := by
  unfold fc
  rw [w64 (x := -(vy l)) (by omega), w64 (by omega)]
 have ed : fd l = Int.tdiv (vx l) (fg l) := by
  unfold fd
  rw [w64 (by omega)]
 have d1 := dv_eq (d := -(vy l)) g (by unfold fg gc; exact Int.dvd_neg.2 (Int.gcd_dvd_right _ _))
 have d2 := dv_eq (d := vx l) g (by unfold fg gc; exact Int.gcd_dvd_left _ _)
 rw [← ec] at d1 b1
 rw [← ed] at d2 b2
 have m1 := mul_bd (x := fc l) (y := wx l) (A := 200) (B := 200) (by omega) (by omega)
 have m2 := mul_bd (x := fd l) (y := wy l) (A := 200) (B := 200) (by omega) (by omega)
 have e : (fth l).f1 = fc l * wx l + fd l * wy l := by
  unfold fth br
  simp only
  rw [w64 (x := fc l * wx l) (by omega), w64 (x := fd l * wy l) (by omega), w64 (x := fc l * wx l + fd l * wy l) (by omega), Int.add_zero, w64 (by omega)]
 refine ⟨fun z => ?_, by omega⟩
 rw [e] at z
 have : fg l * (fc l * wx l + fd l * wy l) = vx l * wy l - vy l * wx l := by
  rw [Int.mul_add, ← Int.mul_assoc, ← Int.mul_assoc, d1, d2, Int.neg_mul]
  omega
 rw [z, Int.mul_zero] at this
 exact h.tri' this.symm
theorem sgn1 : ab (bl l).1 = fg l ∧ (bl l).1.natAbs ≤ 1000000000 := by
 obtain ⟨a, b, c, d⟩ := h.small
 exact bz_gc _ _ _ _ _ _ _ (Nat.le_refl _) (by omega) (by omega)
end FrOK
section
variable {l : List S_impl_Peg} {c d X Y : Int} (hn : 3 ≤ l.length ∧ l.length ≤ 10) (hY : Y ≠ 0)
include hn hY
theorem ev_impl_fin : Ev (fun k => impl_frame.j1 k l (uv (bl l)).1 (uv (bl l)).2 c d 0 0 X Y) (fin l c d X Y) := by
 refine Ev.succ ?_
 simp (disch := omega) only [impl_frame.j1, if_neg hY, if_pos]
 have go : ∀ (e i : Nat), i + e = l.length → Ev (fun k => impl_frame.l0 k l ((fin l c d X Y).take i) l l.length i (wrap64 ((uv (bl l)).1 + wrap64 (fk X Y * c))) (wrap64 ((uv (bl l)).2 + wrap64 (fk X Y * d))) c d 0 0) (fin l c d X Y) := by
  intro e
  induction e with
  | zero =>
   intro i hi
   refine Ev.succ ?_
   obtain rfl : i = l.length := by omega
   simp (disch := omega) only [impl_frame.l0, if_neg]
   exact Ev.some (List.take_of_length_le (by rw [fin_length]; omega))
  | succ e ih =>
   intro i hi
   refine Ev.succ ?_
   have hil : i < l.length := by omega
   have hlen : ((fin l c d X Y).take i).length = i := rmap_take_length (by omega)
   have nxt := ih (i + 1) (by omega)
   unfold fin at nxt
   rw [rmap_take hil] at nxt
   simp (disch := omega) only [impl_frame.l0, if_pos, rd_pt, rd0, impl_Peg_less.f, bring_eq, Option.bind_some, hlen, w64 (x := (i : Int) + 1)]
   exact nxt
 exact go l.length 0 (by omega)
end
namespace FrOK
variable {l : List S_impl_Peg} (h : FrOK l)
include h
theorem ways : wrap64 ((pt l 1).f0 - (pt l 0).f0) = vx l ∧ wrap64 ((pt l 1).f1 - (pt l 0).f1) = vy l ∧ wrap64 ((pt l 2).f0 - (pt l 0).f0) = wx l ∧ wrap64 ((pt l 2).f1 - (pt l 0).f1) = wy l := by
 obtain ⟨a, b, c, d⟩ := h.small
 unfold vx at a ⊢
 unfold vy at b ⊢
 unfold wx at c ⊢
 unfold wy at d ⊢
 exact ⟨w64 (by omega), w64 (by omega), w64 (by omega), w64 (by omega)⟩
theorem ev_j0 {g : Int} (hg : g = fg l) : Ev (fun k => impl_frame.j0 k l g (uv (bl l)).1 (uv (bl l)).2 (vx l) (vy l)) (fr l) := by
 refine Ev.succ ?_
 subst hg
 have hl := h.lo
 have hh := h.hi
 obtain ⟨e0, e1, e2, e3⟩ := h.ways
 have g0 : ¬ fg l = 0 := by
  have := h.gpos
  omega
 obtain ⟨t1, t2, t3⟩ := h.third
 simp (disch := omega) only [impl_frame.j0, if_neg g0, if_pos, rd0, rd2, impl_Peg_less.f, Option.bind_some, e2, e3, bring_eq]
 unfold fr
 by_cases n : (fth l).f1 < 0
 ·rw [if_pos n]
  have hy : wrap64 (-(fth l).f1) ≠ 0 := by
   rw [w64 (by omega)]
   omega
  unfold fth fc fd at n
  simp only [if_pos n]
  exact ev_impl_fin ⟨hl, hh⟩ hy
 ·rw [if_neg n]
  unfold fth fc fd at n
  simp only [if_neg n]
  exact ev_impl_fin ⟨hl, hh⟩ t1
theorem ev_impl : Ev (fun k => impl_frame.f k l) (fr l) := by
 unfold impl_frame.f
 have hl := h.lo
 obtain ⟨e0, e1, e2, e3⟩ := h.ways
 obtain ⟨a, b, c, d⟩ := h.small
 obtain ⟨s1, s2⟩ := h.sgn1
 simp (disch := omega) only [if_pos, rd0, rd1, impl_Peg_less.f, Option.bind_some, e0, e1]
 refine Ev.bind (ev_bezout (vy l).natAbs (vx l) (vy l) 1 0 0 1 (Nat.le_refl _) (by omega) (by omega)) ?_
 have hj := fun (g : Int) => h.ev_j0 (g := g)
 unfold uv at hj
 by_cases n : (bl l).1 < 0
 ·simp only [if_pos n] at hj
  have e : ab (bl l).1 = wrap64 (-(bl l).1) := by
   unfold ab
   rw [if_pos n, w64 (by omega)]
  unfold bl at n hj e s1
  simp only [if_pos n]
  exact hj _ (by rw [← e, s1])
 ·simp only [if_neg n] at hj
  have e : ab (bl l).1 = (bl l).1 := by
   unfold ab
   rw [if_neg n]
  unfold bl at n hj e s1
  simp only [if_neg n]
  exact hj _ (by rw [← e, s1])
end FrOK

end Go.Proofs.Ytphkphjddkjabaa.B
