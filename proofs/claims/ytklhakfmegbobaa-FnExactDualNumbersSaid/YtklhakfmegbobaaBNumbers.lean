-- thin
/- The points that numbers make, and the polygon of numbers, in the reference and in the program. -/
import Derived.Test.YtklhakfmegbobaaX0
import Derived.Test.YtklhakfmegbobaaX4
import Derived.Test.YtklhakfmegbobaaX5
import Derived.Test.YtklhakfmegbobaaX8
import Derived.Test.YtklhakfmegbobaaX9
import Derived.Test.YtklhakfmegbobaaBBase
import Derived.Test.YtklhakfmegbobaaBCore
import Derived.Test.YtklhakfmegbobaaBPoly
import Derived.Test.YtklhakfmegbobaaBAsk
import Derived.Test.YtklhakfmegbobaaBArea
import Derived.Test.YtklhakfmegbobaaBTold
import Derived.Test.YtklhakfmegbobaaBFirst
import Derived.Test.YtklhakfmegbobaaBIntS
namespace Go.Proofs.Ytklhakfmegbobaa.B
open Go.RowKit Go.Proofs.Ytklhakfmegbobaa.XW Go.Proofs.Ytklhakfmegbobaa.X Go.Proofs.YtklhakfmegbobaaW.PrintWords Go.Proofs.YtklhakfmegbobaaW.PrintLast Go.Proofs.Ytklhakfmegbobaa.B
set_option linter.unusedVariables false
set_option linter.unusedSimpArgs false
set_option maxRecDepth 20000

theorem pt_app_lt {l m : List S_impl_Peg} {i : Nat} (h : i < l.length) : pt (l ++ m) i = pt l i := by
 unfold pt
 rw [List.getD_eq_getElem?_getD, List.getD_eq_getElem?_getD, List.getElem?_append_left h]
theorem pt_app_eq (l : List S_impl_Peg) (c : S_impl_Peg) : pt (l ++ [c]) l.length = c := by
 unfold pt
 rw [List.getD_eq_getElem?_getD]
 simp
/-- Number i of a list, around. -/
def qn (q : List Int) (i : Nat) : Int := q.getD (i % q.length) 0
/-- The points that numbers make. -/
def pg (q : List Int) : Nat → S_impl_Peg
 | 0 => ⟨1, 0⟩
 | 1 => ⟨0, 1⟩
 | j + 2 => ⟨qn q (j + 1) * (pg q (j + 1)).f0 - (pg q j).f0, qn q (j + 1) * (pg q (j + 1)).f1 - (pg q j).f1⟩
def bd7 : Nat → Int
 | 0 => 1
 | j + 1 => 7 * bd7 j
theorem bd7_pos : ∀ j, 1 ≤ bd7 j := by
 intro j
 induction j with
 | zero => exact Int.le_refl _
 | succ j ih =>
  show 1 ≤ 7 * bd7 j
  omega
theorem bd7_mono {i j : Nat} (h : i ≤ j) : bd7 i ≤ bd7 j := by
 induction j with
 | zero =>
  obtain rfl : i = 0 := by omega
  exact Int.le_refl _
 | succ j ih =>
  by_cases e : i = j + 1
  ·subst e
   exact Int.le_refl _
  ·have := ih (by omega)
   have := bd7_pos j
   show bd7 i ≤ 7 * bd7 j
   omega
/-- Numbers as they may be around. -/
structure Num (q : List Int) : Prop where
 lo : 3 ≤ q.length
 hi : q.length ≤ 9
 all : ∀ i, i < q.length → -6 ≤ q.getD i 0 ∧ q.getD i 0 ≤ 2
theorem Num.qn {q : List Int} (h : Num q) (i : Nat) : -6 ≤ qn q i ∧ qn q i ≤ 2 := h.all _ (Nat.mod_lt _ (by have := h.lo; omega))
theorem pg_sm {q : List Int} (h : Num q) : ∀ j, Sm (bd7 j) (pg q j) ∧ Sm (bd7 (j + 1)) (pg q (j + 1)) := by
 intro j
 induction j with
 | zero =>
  constructor
  ·show Sm 1 ⟨1, 0⟩
   unfold Sm
   simp
  ·show Sm 7 ⟨0, 1⟩
   unfold Sm
   simp
 | succ j ih =>
  refine ⟨ih.2, ?_⟩
  have hq := h.qn (j + 1)
  have h1 := ih.1
  have h2 := ih.2
  unfold Sm at h1 h2 ⊢
  have m1 := mul_bd (x := qn q (j + 1)) (y := (pg q (j + 1)).f0) (A := 6) (B := bd7 (j + 1)) (by omega) (by omega)
  have m2 := mul_bd (x := qn q (j + 1)) (y := (pg q (j + 1)).f1) (A := 6) (B := bd7 (j + 1)) (by omega) (by omega)
  have e1 : bd7 (j + 1) = 7 * bd7 j := rfl
  have e2 : bd7 (j + 1 + 1) = 7 * bd7 (j + 1) := rfl
  have := bd7_pos j
  show _ ≤ qn q (j + 1) * (pg q (j + 1)).f0 - (pg q j).f0 ∧ _ ≤ _ ∧ _ ≤ qn q (j + 1) * (pg q (j + 1)).f1 - (pg q j).f1 ∧ _ ≤ _
  show _ ≤ _ ∧ qn q (j + 1) * (pg q (j + 1)).f0 - (pg q j).f0 ≤ _ ∧ _ ≤ _ ∧ qn q (j + 1) * (pg q (j + 1)).f1 - (pg q j).f1 ≤ _
  omega
theorem pg_big {q : List Int} (h : Num q) {j : Nat} (hj : j ≤ 11) : Sm 2000000000 (pg q j) := by
 refine (pg_sm h j).1.mono ?_
 have : bd7 j ≤ bd7 11 := bd7_mono hj
 have e : bd7 11 = 1977326743 := by decide
 omega
/-- All points, with the two behind the last one. -/
def pgs (q : List Int) (n : Nat) : List S_impl_Peg := (List.range n).map (pg q)
theorem pgs_length (q : List Int) (n : Nat) : (pgs q n).length = n := by simp [pgs]
theorem pgs_pt (q : List Int) {n i : Nat} (h : i < n) : pt (pgs q n) i = pg q i := rmap_pt h
theorem pgs_succ (q : List Int) (n : Nat) : pgs q (n + 1) = pgs q n ++ [pg q n] := by
 unfold pgs
 rw [List.range_succ, List.map_append]
 rfl
theorem pgs_two (q : List Int) : pgs q 2 = [⟨1, 0⟩, ⟨0, 1⟩] := rfl
theorem rd_qn {q : List Int} {i : Nat} (h : i < q.length) : rd q (Int.tmod ((i : Int) + 1) (q.length : Int)) = qn q (i + 1) := by
 rw [tmod1 h, rd_nat]
 unfold qn nx
 congr 1
 split
 ·rename_i e
  rw [e, Nat.mod_self]
 ·rw [Nat.mod_eq_of_lt (by omega)]
section
variable {q : List Int} (h : Num q)
include h
theorem pg_step {i : Nat} (hi : i < q.length) : (⟨wrap64 ((wrap64 (qn q (i + 1) * (pg q (i + 1)).f0)) - (pg q i).f0), wrap64 ((wrap64 (qn q (i + 1) * (pg q (i + 1)).f1)) - (pg q i).f1)⟩ : S_impl_Peg) = pg q (i + 2) := by
 have hq := h.qn (i + 1)
 have h9 := h.hi
 have h1 := pg_big h (j := i) (by omega)
 have h2 := pg_big h (j := i + 1) (by omega)
 unfold Sm at h1 h2
 have m1 := mul_bd (x := qn q (i + 1)) (y := (pg q (i + 1)).f0) (A := 6) (B := 2000000000) (by omega) (by omega)
 have m2 := mul_bd (x := qn q (i + 1)) (y := (pg q (i + 1)).f1) (A := 6) (B := 2000000000) (by omega) (by omega)
 simp (disch := omega) only [w64]
 rfl
theorem ev_impl_pegsBy : Ev (fun k => impl_pegsBy.f k q) (pgs q (q.length + 2)) := by
 unfold impl_pegsBy.f
 have h9 := h.hi
 have h3 := h.lo
 have go : ∀ (e i : Nat), i + e = q.length → Ev (fun k => impl_pegsBy.l0 k q (pgs q (i + 2)) q.length i) (pgs q (q.length + 2)) := by
  intro e
  induction e with
  | zero =>
   intro i hi
   refine Ev.succ ?_
   obtain rfl : i = q.length := by omega
   simp (disch := omega) only [impl_pegsBy.l0, if_neg]
   exact Ev.now _
  | succ e ih =>
   intro i hi
   refine Ev.succ ?_
   have hil : i < q.length := by omega
   have ht := tmod1 hil
   have hn1 := nx_lt hil
   have hlen := pgs_length q (i + 2)
   have e1 : ((i : Int) + 1) = ((i + 1 : Nat) : Int) := by omega
   simp (disch := omega) only [impl_pegsBy.l0, if_pos, if_neg, w64, hlen, rd_qn hil]
   rw [e1]
   simp (disch := omega) only [rd_pt, pgs_pt q (show i + 1 < i + 2 by omega), pgs_pt q (show i < i + 2 by omega), pg_step h hil]
   have := ih (i + 1) (by omega)
   rw [pgs_succ] at this
   exact this
 exact go q.length 0 (by omega)
theorem ev_spec_make : Ev (fun k => spec_duMake.f k q) (pgs q (q.length + 2)) := by
 unfold spec_duMake.f
 have h9 := h.hi
 have h3 := h.lo
 have go : ∀ (e i : Nat), i + e = q.length → Ev (fun k => spec_duMake.l0 k q (pgs q (i + 2)) q.length i) (pgs q (q.length + 2)) := by
  intro e
  induction e with
  | zero =>
   intro i hi
   refine Ev.succ ?_
   obtain rfl : i = q.length := by omega
   simp (disch := omega) only [spec_duMake.l0, if_neg]
   exact Ev.now _
  | succ e ih =>
   intro i hi
   refine Ev.succ ?_
   have hil : i < q.length := by omega
   have ht := tmod1 hil
   have hn1 := nx_lt hil
   have hlen := pgs_length q (i + 2)
   have e1 : (((i + 2 : Nat) : Int) - 1) = ((i + 1 : Nat) : Int) := by omega
   have e2 : (((i + 2 : Nat) : Int) - 2) = (i : Int) := by omega
   simp (disch := omega) only [spec_duMake.l0, if_pos, if_neg, w64, hlen, rd_qn hil, e1, e2]
   simp (disch := omega) only [rd_pt, pgs_pt q (show i + 1 < i + 2 by omega), pgs_pt q (show i < i + 2 by omega), pg_step h hil]
   have := ih (i + 1) (by omega)
   rw [pgs_succ] at this
   exact this
 exact go q.length 0 (by omega)
end
/-! ### Numbers that are around -/
def sm (q : List Int) : Int := sumN (fun i => q.getD i 0) q.length
def arB (q : List Int) : Bool := decide (sm q = 3 * (q.length : Int) - 12) && (decide (pg q q.length = pg q 0) && decide (pg q (q.length + 1) = pg q 1))
theorem same_dec (p r : S_impl_Peg) : (p.f0 == r.f0 && (p.f1 == r.f1)) = decide (p = r) := by
 by_cases e : p = r
 ·rw [same_peg.2 e]
  simp [e]
 ·have : ¬ (p.f0 == r.f0 && (p.f1 == r.f1)) = true := fun c => e (same_peg.1 c)
  rw [Bool.eq_false_iff.2 this]
  simp [e]
section
variable {q : List Int} (h : Num q)
include h
theorem sm_bd (m : Nat) (hm : m ≤ q.length) : -60 ≤ sumN (fun i => q.getD i 0) m ∧ sumN (fun i => q.getD i 0) m ≤ 60 := by
 have := sumN_bd (f := fun i => q.getD i 0) (B := 6) (m := m) (fun i hi => by have := h.all i (by omega); omega)
 have := h.hi
 omega
theorem ev_spec_sum : Ev (fun k => spec_duSum.f k q) (sm q) := by
 unfold spec_duSum.f
 have h9 := h.hi
 have go : ∀ (e i : Nat), i + e = q.length → Ev (fun k => spec_duSum.l0 k (sumN (fun i => q.getD i 0) i) q q.length i) (sm q) := by
  intro e
  induction e with
  | zero =>
   intro i hi
   refine Ev.succ ?_
   obtain rfl : i = q.length := by omega
   simp (disch := omega) only [spec_duSum.l0, if_neg]
   exact Ev.now _
  | succ e ih =>
   intro i hi
   refine Ev.succ ?_
   have hb := sm_bd h (i + 1) (by omega)
   have hs : sumN (fun i => q.getD i 0) (i + 1) = sumN (fun i => q.getD i 0) i + q.getD i 0 := rfl
   simp (disch := omega) only [spec_duSum.l0, if_pos, w64, rd_nat]
   have := ih (i + 1) (by omega)
   rw [hs] at this
   exact this
 exact go q.length 0 (by omega)
theorem ev_spec_is : Ev (fun k => spec_duIs.f k q) (arB q) := by
 unfold spec_duIs.f
 have h9 := h.hi
 have h3 := h.lo
 refine Ev.bind (ev_spec_make h) ?_
 have hlen := pgs_length q (q.length + 2)
 have e1 : ((q.length : Int) + 1) = ((q.length + 1 : Nat) : Int) := by omega
 have r0 : rd_impl_Peg (pgs q (q.length + 2)) 0 = pg q 0 := by
  rw [rd0]
  exact pgs_pt q (by omega)
 have r1 : rd_impl_Peg (pgs q (q.length + 2)) 1 = pg q 1 := by
  rw [rd1]
  exact pgs_pt q (by omega)
 simp (disch := omega) only [if_pos, hlen, w64, e1, rd_pt, pgs_pt q (show q.length < q.length + 2 by omega), pgs_pt q (show q.length + 1 < q.length + 2 by omega), r0, r1, same_dec]
 unfold arB
 by_cases c0 : pg q q.length = pg q 0
 ·simp only [c0, decide_true, if_true]
  by_cases c1 : pg q (q.length + 1) = pg q 1
  ·simp only [c1, decide_true, if_true]
   refine Ev.bind (ev_spec_sum h) ?_
   refine Ev.some ?_
   by_cases c2 : sm q = 3 * (q.length : Int) - 12
   ·simp [c2]
   ·simp [c2]
  ·simp only [c1, decide_false, Bool.false_eq_true, if_false, Bool.and_false]
   exact Ev.now _
 ·simp only [c0, decide_false, Bool.false_eq_true, if_false, Bool.and_false, Bool.false_and]
  exact Ev.now _
theorem ev_impl_areAround : Ev (fun k => impl_areAround.f k q) (arB q) := by
 unfold impl_areAround.f
 have h9 := h.hi
 have h3 := h.lo
 have go : ∀ (e i : Nat), i + e = q.length → Ev (fun k => impl_areAround.l0 k q (sumN (fun i => q.getD i 0) i) q q.length i) (arB q) := by
  intro e
  induction e with
  | zero =>
   intro i hi
   refine Ev.succ ?_
   obtain rfl : i = q.length := by omega
   have hlen := pgs_length q (q.length + 2)
   have e1 : ((q.length : Int) + 1) = ((q.length + 1 : Nat) : Int) := by omega
   have r0 : rd_impl_Peg (pgs q (q.length + 2)) 0 = pg q 0 := by
    rw [rd0]
    exact pgs_pt q (by omega)
   have r1 : rd_impl_Peg (pgs q (q.length + 2)) 1 = pg q 1 := by
    rw [rd1]
    exact pgs_pt q (by omega)
   simp (disch := omega) only [impl_areAround.l0, if_neg, w64]
   have es : sumN (fun i => q.getD i 0) q.length = sm q := rfl
   rw [es]
   unfold arB
   by_cases c2 : sm q = 3 * (q.length : Int) - 12
   ·simp only [if_pos c2]
    refine Ev.bind (ev_impl_pegsBy h) ?_
    simp (disch := omega) only [if_pos, hlen, w64, e1, rd_pt, pgs_pt q (show q.length < q.length + 2 by omega), pgs_pt q (show q.length + 1 < q.length + 2 by omega), r0, r1, same_dec]
    by_cases c0 : pg q q.length = pg q 0
    ·simp only [c0, c2, decide_true, if_true, Bool.true_and]
     exact Ev.now _
    ·simp only [c0, decide_false, Bool.false_eq_true, if_false, Bool.and_false, Bool.false_and]
     exact Ev.now _
   ·simp only [if_neg c2, c2, decide_false, Bool.false_and]
    exact Ev.now _
  | succ e ih =>
   intro i hi
   refine Ev.succ ?_
   have hb := sm_bd h (i + 1) (by omega)
   have hs : sumN (fun i => q.getD i 0) (i + 1) = sumN (fun i => q.getD i 0) i + q.getD i 0 := rfl
   simp (disch := omega) only [impl_areAround.l0, if_pos, w64, rd_nat]
   have := ih (i + 1) (by omega)
   rw [hs] at this
   exact this
 exact go q.length 0 (by omega)
end
/-! ### The polygon of numbers -/
def cor (q : List Int) : Nat → List S_impl_Peg
 | 0 => []
 | i + 1 => if q.getD i 0 = 2 then cor q i else cor q i ++ [pg q i]
theorem cor_len (q : List Int) : ∀ i, (cor q i).length ≤ i := by
 intro i
 induction i with
 | zero => exact Nat.le_refl _
 | succ i ih =>
  unfold cor
  split
  ·omega
  ·rw [List.length_append]
   show _ + 1 ≤ _
   omega
theorem cor_sm {q : List Int} {B : Int} : ∀ i, (∀ j, j < i → Sm B (pg q j)) → ∀ t, t < (cor q i).length → Sm B (pt (cor q i) t) := by
 intro i
 induction i with
 | zero =>
  intro h t ht
  exact absurd ht (Nat.not_lt_zero _)
 | succ i ih =>
  intro h t ht
  have ih := ih (fun j hj => h j (by omega))
  unfold cor at ht ⊢
  split at ht
  ·rename_i e
   rw [if_pos e]
   exact ih t ht
  ·rename_i e
   rw [if_neg e]
   by_cases c : t < (cor q i).length
   ·rw [pt_app_lt c]
    exact ih t c
   ·rw [List.length_append] at ht
    have : t = (cor q i).length := by
     have : ([pg q i] : List S_impl_Peg).length = 1 := rfl
     omega
    rw [this, pt_app_eq]
    exact h i (by omega)
theorem pg_add_two (q : List Int) (j : Nat) : (pg q (j + 2)).f0 = qn q (j + 1) * (pg q (j + 1)).f0 - (pg q j).f0 ∧ (pg q (j + 2)).f1 = qn q (j + 1) * (pg q (j + 1)).f1 - (pg q j).f1 := ⟨rfl, rfl⟩
theorem cr_one (q : List Int) : ∀ j, cr (pg q j) (pg q (j + 1)) = 1 := by
 intro j
 induction j with
 | zero => rfl
 | succ j ih =>
  obtain ⟨e0, e1⟩ := pg_add_two q j
  unfold cr at ih ⊢
  rw [e0, e1]
  grind
/-- Between two kept points all steps are alike. -/
theorem pg_line {q : List Int} {i : Nat} : ∀ d, (∀ k, i < k → k < i + d → qn q k = 2) → cr (pg q i) (pg q (i + d)) = d ∧ ((pg q (i + d + 1)).f0 - (pg q (i + d)).f0 = (pg q (i + 1)).f0 - (pg q i).f0 ∧ (pg q (i + d + 1)).f1 - (pg q (i + d)).f1 = (pg q (i + 1)).f1 - (pg q i).f1 ∨ (0 < d ∧ qn q (i + d) ≠ 2)) := by
 intro d
 induction d with
 | zero =>
  intro h
  refine ⟨by rw [Nat.add_zero, cr_self]; rfl, Or.inl ⟨rfl, rfl⟩⟩
 | succ d ih =>
  intro h
  obtain ⟨h1, h2⟩ := ih (fun k a b => h k a (by omega))
  have h3 : (pg q (i + d + 1)).f0 - (pg q (i + d)).f0 = (pg q (i + 1)).f0 - (pg q i).f0 ∧ (pg q (i + d + 1)).f1 - (pg q (i + d)).f1 = (pg q (i + 1)).f1 - (pg q i).f1 := by
   rcases h2 with h2 | ⟨hd, hq⟩
   ·exact h2
   ·exact absurd (h (i + d) (by omega) (by omega)) hq
  have one := cr_one q i
  constructor
  ·rw [show i + (d + 1) = i + d + 1 by omega]
   unfold cr at h1 one ⊢
   have e0 : (pg q (i + d + 1)).f0 = (pg q (i + d)).f0 + ((pg q (i + 1)).f0 - (pg q i).f0) := by omega
   have e1 : (pg q (i + d + 1)).f1 = (pg q (i + d)).f1 + ((pg q (i + 1)).f1 - (pg q i).f1) := by omega
   rw [e0, e1]
   have : ((d + 1 : Nat) : Int) = (d : Int) + 1 := by omega
   rw [this]
   grind
  ·by_cases c : qn q (i + (d + 1)) = 2
   ·refine Or.inl ?_
    obtain ⟨e0, e1⟩ := pg_add_two q (i + d)
    rw [show i + d + 1 = i + (d + 1) by omega] at e0 e1 h3
    rw [show i + (d + 1) + 1 = i + d + 2 by omega]
    rw [c] at e0 e1
    omega
   ·exact Or.inr ⟨by omega, c⟩
theorem pg_turn {q : List Int} (h : arB q = true) : ∀ t, pg q (q.length + t) = pg q t ∧ pg q (q.length + t + 1) = pg q (t + 1) := by
 unfold arB at h
 simp only [Bool.and_eq_true, decide_eq_true_eq] at h
 intro t
 induction t with
 | zero => exact ⟨h.2.1, h.2.2⟩
 | succ t ih =>
  refine ⟨ih.2, ?_⟩
  obtain ⟨e0, e1⟩ := pg_add_two q (q.length + t)
  obtain ⟨d0, d1⟩ := pg_add_two q t
  have eq : qn q (q.length + t + 1) = qn q (t + 1) := by
   unfold qn
   rw [show q.length + t + 1 = t + 1 + q.length by omega, Nat.add_mod_right]
  rw [ih.1, ih.2, eq] at e0 e1
  exact peg_ext (by rw [show q.length + (t + 1) + 1 = q.length + t + 2 by omega, e0, d0]) (by rw [show q.length + (t + 1) + 1 = q.length + t + 2 by omega, e1, d1])
theorem qn_lt {q : List Int} {k : Nat} (h : k < q.length) : qn q k = q.getD k 0 := by
 unfold qn
 rw [Nat.mod_eq_of_lt h]
/-- What the kept points up to number i have in common. -/
def Inv (q : List Int) (i : Nat) : Prop := (cor q i = [] ∧ ∀ k, k < i → q.getD k 0 = 2) ∨ ∃ f g, f ≤ g ∧ g < i ∧ (∀ k, k < f → q.getD k 0 = 2) ∧ (∀ k, g < k → k < i → q.getD k 0 = 2) ∧ 0 < (cor q i).length ∧ pt (cor q i) 0 = pg q f ∧ pt (cor q i) ((cor q i).length - 1) = pg q g ∧ sumN (fun t => cr (pt (cor q i) t) (pt (cor q i) (t + 1))) ((cor q i).length - 1) = (g : Int) - f
theorem inv_all {q : List Int} : ∀ i, i ≤ q.length → Inv q i := by
 intro i
 induction i with
 | zero =>
  intro _
  exact Or.inl ⟨rfl, fun k hk => absurd hk (Nat.not_lt_zero _)⟩
 | succ i ih =>
  intro hi
  have ih := ih (by omega)
  by_cases c : q.getD i 0 = 2
  ·have e : cor q (i + 1) = cor q i := by
    show (if q.getD i 0 = 2 then cor q i else cor q i ++ [pg q i]) = _
    rw [if_pos c]
   rcases ih with ⟨h1, h2⟩ | ⟨f, g, a1, a2, a3, a4, a5, a6, a7, a8⟩
   ·refine Or.inl ⟨by rw [e, h1], fun k hk => ?_⟩
    by_cases ek : k = i
    ·rw [ek, c]
    ·exact h2 k (by omega)
   ·refine Or.inr ⟨f, g, a1, by omega, a3, fun k b1 b2 => ?_, by rw [e]; exact a5, by rw [e]; exact a6, by rw [e]; exact a7, by rw [e]; exact a8⟩
    by_cases ek : k = i
    ·rw [ek, c]
    ·exact a4 k b1 (by omega)
  ·have e : cor q (i + 1) = cor q i ++ [pg q i] := by
    show (if q.getD i 0 = 2 then cor q i else cor q i ++ [pg q i]) = _
    rw [if_neg c]
   rcases ih with ⟨h1, h2⟩ | ⟨f, g, a1, a2, a3, a4, a5, a6, a7, a8⟩
   ·refine Or.inr ⟨i, i, Nat.le_refl _, by omega, h2, fun k b1 b2 => by omega, ?_, ?_, ?_, ?_⟩
    ·rw [e, h1]
     show 0 < 1
     omega
    ·rw [e, h1]
     rfl
    ·rw [e, h1]
     rfl
    ·rw [e, h1]
     show (0 : Int) = _
     omega
   ·have el : (cor q i ++ [pg q i]).length = (cor q i).length + 1 := by simp
    refine Or.inr ⟨f, i, by omega, by omega, a3, fun k b1 b2 => by omega, by rw [e, el]; omega, ?_, ?_, ?_⟩
    ·rw [e, pt_app_lt a5]
     exact a6
    ·rw [e, el, show (cor q i).length + 1 - 1 = (cor q i).length by omega, pt_app_eq]
    ·rw [e, el, show (cor q i).length + 1 - 1 = (cor q i).length - 1 + 1 by omega]
     show sumN _ ((cor q i).length - 1) + cr (pt (cor q i ++ [pg q i]) ((cor q i).length - 1)) (pt (cor q i ++ [pg q i]) ((cor q i).length - 1 + 1)) = _
     rw [pt_app_lt (show (cor q i).length - 1 < (cor q i).length by omega), show (cor q i).length - 1 + 1 = (cor q i).length by omega, pt_app_eq, a7]
     rw [sumN_congr (g := fun t => cr (pt (cor q i) t) (pt (cor q i) (t + 1))) (fun t ht => by rw [pt_app_lt (by omega), pt_app_lt (by omega)]), a8]
     have := (pg_line (q := q) (i := g) (i - g) (fun k b1 b2 => by rw [qn_lt (by omega)]; exact a4 k b1 (by omega))).1
     rw [show g + (i - g) = i by omega] at this
     rw [this]
     omega
theorem ar_split {l : List S_impl_Peg} (h : 0 < l.length) : ar l = sumN (fun i => cr (pt l i) (pt l (i + 1))) (l.length - 1) + cr (pt l (l.length - 1)) (pt l 0) := by
 unfold ar
 have e : sumN (fun i => cr (pt l i) (pt l (nx l.length i))) l.length = sumN (fun i => cr (pt l i) (pt l (nx l.length i))) (l.length - 1) + cr (pt l (l.length - 1)) (pt l (nx l.length (l.length - 1))) := by
  conv => lhs; rw [show l.length = l.length - 1 + 1 by omega]
  show _ + _ = _
  rw [show l.length - 1 + 1 = l.length by omega]
 rw [e, sumN_congr (f := fun i => cr (pt l i) (pt l (nx l.length i))) (g := fun i => cr (pt l i) (pt l (i + 1))) (fun i hi => by
  show cr _ (pt l (nx l.length i)) = cr _ _
  unfold nx
  rw [if_neg (by omega)])]
 have : nx l.length (l.length - 1) = 0 := by unfold nx; rw [if_pos (by omega)]
 rw [this]
/-- The corners' area is as many as there are numbers. -/
theorem cor_ar {q : List Int} (hq : Num q) (h : arB q = true) (h0 : 0 < (cor q q.length).length) : ar (cor q q.length) = q.length := by
 rcases inv_all (q := q) q.length (Nat.le_refl _) with ⟨h1, _⟩ | ⟨f, g, a1, a2, a3, a4, a5, a6, a7, a8⟩
 ·rw [h1] at h0
  exact absurd h0 (Nat.not_lt_zero _)
 ·rw [ar_split h0, a8, a7, a6]
  have h3 := hq.lo
  have := (pg_line (q := q) (i := g) (q.length + f - g) (fun k b1 b2 => by
   by_cases c : k < q.length
   ·rw [qn_lt c]
    exact a4 k b1 c
   ·have : qn q k = q.getD (k - q.length) 0 := by
     unfold qn
     rw [show k = k - q.length + q.length by omega, Nat.add_mod_right, Nat.mod_eq_of_lt (by omega)]
     congr 1
     omega
    rw [this]
    exact a3 _ (by omega))).1
  rw [show g + (q.length + f - g) = q.length + f by omega, (pg_turn h f).1] at this
  rw [this]
  omega
/-- The reference's area of the corners is not less than 0. -/
theorem ev_cor_area {q : List Int} (hq : Num q) (h : arB q = true) (hs : ∀ j, j < q.length → Sm 40 (pg q j)) : ∃ a, 0 ≤ a ∧ Ev (fun k => spec_pgArea.f k (cor q q.length)) a := by
 have hl := cor_len q q.length
 have h9 := hq.hi
 by_cases c : 2 ≤ (cor q q.length).length
 ·refine ⟨ar (cor q q.length), by rw [cor_ar hq h (by omega)]; omega, ev_spec_area _ (by omega) (fun i hi => (cor_sm q.length hs i hi).mono (by omega)) c⟩
 ·refine ⟨0, Int.le_refl _, ?_⟩
  unfold spec_pgArea.f
  refine Ev.succ ?_
  simp (disch := omega) only [spec_pgArea.l0, if_neg]
  exact Ev.now _

end Go.Proofs.Ytklhakfmegbobaa.B
