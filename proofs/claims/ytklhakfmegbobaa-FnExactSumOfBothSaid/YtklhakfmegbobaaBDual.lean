-- thin
/- The dual of a polygon about 0, 0, all points around it and their numbers, in the reference and in the program. -/
import Derived.Test.YtklhakfmegbobaaX0
import Derived.Test.YtklhakfmegbobaaX11
import Derived.Test.YtklhakfmegbobaaX12
import Derived.Test.YtklhakfmegbobaaX14
import Derived.Test.YtklhakfmegbobaaX15
import Derived.Test.YtklhakfmegbobaaBBase
import Derived.Test.YtklhakfmegbobaaBCore
import Derived.Test.YtklhakfmegbobaaBPoly
import Derived.Test.YtklhakfmegbobaaBAsk
import Derived.Test.YtklhakfmegbobaaBArea
import Derived.Test.YtklhakfmegbobaaBTold
import Derived.Test.YtklhakfmegbobaaBOrder
import Derived.Test.YtklhakfmegbobaaBFirst
import Derived.Test.YtklhakfmegbobaaBSteps
namespace Go.Proofs.Ytklhakfmegbobaa.B
open Go.RowKit Go.Proofs.Ytklhakfmegbobaa.XW Go.Proofs.Ytklhakfmegbobaa.X Go.Proofs.YtklhakfmegbobaaW.PrintWords Go.Proofs.YtklhakfmegbobaaW.PrintLast Go.Proofs.Ytklhakfmegbobaa.B
set_option linter.unusedVariables false
set_option linter.unusedSimpArgs false
set_option maxRecDepth 20000

theorem tdv_bd {x B : Int} (h : -B ≤ x ∧ x ≤ B) (d : Int) : -B ≤ Int.tdiv x d ∧ Int.tdiv x d ≤ B := by
 have h1 : (Int.tdiv x d).natAbs ≤ x.natAbs := by
  rw [Int.natAbs_tdiv]
  exact Nat.div_le_self _ _
 omega
/-! ### The first corner of a list -/
theorem fiN_least (l : List S_impl_Peg) : ∀ i j, j < i → ¬ lss (pt l j) (pt l (fiN l i)) = true := by
 intro i
 induction i with
 | zero => exact fun j hj => absurd hj (Nat.not_lt_zero _)
 | succ i ih =>
  intro j hj
  unfold fiN
  by_cases c : lss (pt l i) (pt l (fiN l i)) = true
  ·rw [if_pos c]
   by_cases e : j = i
   ·subst e
    rw [lss_iff]
    omega
   ·have := ih j (by omega)
    rw [lss_iff] at this c ⊢
    omega
  ·rw [if_neg c]
   by_cases e : j = i
   ·subst e
    exact c
   ·exact ih j (by omega)
theorem fi_zero {l : List S_impl_Peg} (h : ∀ j, j < l.length → ¬ lss (pt l j) (pt l 0) = true) : fi l = 0 := by
 have go : ∀ i, i ≤ l.length → fiN l i = 0 := by
  intro i
  induction i with
  | zero => exact fun _ => rfl
  | succ i ih =>
   intro hi
   unfold fiN
   rw [ih (by omega), if_neg (h i (by omega))]
 exact go _ (Nat.le_refl _)
/-- All neighbours stand so. -/
def Adj (R : S_impl_Peg → S_impl_Peg → Prop) (l : List S_impl_Peg) : Prop := ∀ i, i < l.length → R (pt l i) (pt l (nx l.length i))
def Adj3 (R : S_impl_Peg → S_impl_Peg → S_impl_Peg → Prop) (l : List S_impl_Peg) : Prop := ∀ i, i < l.length → R (pt l i) (pt l (nx l.length i)) (pt l (nx l.length (nx l.length i)))
theorem Adj.turn {R : S_impl_Peg → S_impl_Peg → Prop} {l : List S_impl_Peg} {a : Nat} (h : Adj R l) (ha : a < l.length) : Adj R (tld l a 1) := by
 intro i hi
 rw [tld_length] at hi ⊢
 rw [tld_nx ha hi, tld_pt _ _ hi]
 exact h _ (tldi_lt _ _ _ (by omega))
theorem Adj3.turn {R : S_impl_Peg → S_impl_Peg → S_impl_Peg → Prop} {l : List S_impl_Peg} {a : Nat} (h : Adj3 R l) (ha : a < l.length) : Adj3 R (tld l a 1) := by
 intro i hi
 rw [tld_length] at hi ⊢
 rw [tld_nx ha (nx_lt hi), tld_nx ha hi, tld_pt _ _ hi, tldi_nx ha hi]
 exact h _ (tldi_lt _ _ _ (by omega))
def tf (l : List S_impl_Peg) : List S_impl_Peg := tld l (fi l) 1
theorem tf_length (l : List S_impl_Peg) : (tf l).length = l.length := tld_length _ _ _
theorem tf_zero {l : List S_impl_Peg} (h : 0 < l.length) : pt (tf l) 0 = pt l (fi l) := by
 unfold tf
 rw [tld_pt _ _ h, tldi1 (fi_lt h) h, if_pos (by have := fi_lt h; omega), Nat.add_zero]
theorem tf_least {l : List S_impl_Peg} (h : 0 < l.length) : ∀ j, j < l.length → ¬ lss (pt (tf l) j) (pt (tf l) 0) = true := by
 intro j hj
 rw [tf_zero h]
 unfold tf
 rw [tld_pt _ _ hj]
 exact fiN_least l _ _ (tldi_lt _ _ _ h)
theorem fi_tf {l : List S_impl_Peg} (h : 0 < l.length) : fi (tf l) = 0 := fi_zero (by rw [tf_length]; exact tf_least h)
theorem tf_self {l : List S_impl_Peg} (h : fi l = 0) : tf l = l := by
 unfold tf
 rw [h, tld_zero]
theorem tf_sm {l : List S_impl_Peg} {B : Int} (h : ∀ i, i < l.length → Sm B (pt l i)) : ∀ i, i < l.length → Sm B (pt (tf l) i) := by
 intro i hi
 unfold tf
 rw [tld_pt _ _ hi]
 exact h _ (tldi_lt _ _ _ (by omega))
/-! ### Areas -/
theorem sumN_pos {f : Nat → Int} {m : Nat} (h : ∀ i, i < m → 0 < f i) : 0 ≤ sumN f m ∧ (0 < m → 0 < sumN f m) := by
 induction m with
 | zero => exact ⟨Int.le_refl _, fun c => absurd c (Nat.not_lt_zero _)⟩
 | succ m ih =>
  have h1 := ih (fun i hi => h i (by omega))
  have h2 := h m (by omega)
  show 0 ≤ sumN f m + f m ∧ (_ → 0 < sumN f m + f m)
  omega
def Pos (a b : S_impl_Peg) : Prop := 0 < cr a b
theorem adj_area {l : List S_impl_Peg} (h : Adj Pos l) (h0 : 0 < l.length) : 0 < ar l := (sumN_pos (fun i hi => h i hi)).2 h0
theorem adj_two {l : List S_impl_Peg} (h : Adj Pos l) (h0 : 0 < l.length) : 2 ≤ l.length := by
 by_cases c : l.length = 1
 ·have := h 0 h0
  rw [c] at this
  unfold Pos at this
  rw [show nx 1 0 = 0 from rfl, cr_self] at this
  omega
 ·omega
theorem ev_first_pos {l : List S_impl_Peg} (hn : l.length ≤ 100000) (hp : ∀ i, i < l.length → Sm 1000000 (pt l i)) (h : Adj Pos l) (h0 : 0 < l.length) : Ev (fun k => spec_pgFirst.f k l) (tf l) := by
 have := adj_area h h0
 exact ev_spec_first l hn (ev_spec_area l hn hp (adj_two h h0)) (by omega)
theorem ev_tellFirst {l : List S_impl_Peg} (hn : l.length ≤ 100000) (hp : ∀ i, i < l.length → Sm 1000000 (pt l i)) (h : Adj Pos l) (h0 : 0 < l.length) : Ev (fun k => impl_tellFirst.f k l) (tf l) := by
 unfold impl_tellFirst.f
 have ha := adj_area h h0
 refine Ev.bind (ev_impl_first l (by omega)) ?_
 refine Ev.bind (ev_impl_twice l hn hp) ?_
 have es : sgn (ar l) = 1 := by
  unfold sgn
  rw [if_pos ha]
 have hf := fi_lt h0
 simp only [impl_sign_eq, Option.bind_some, es]
 exact Ev.bind (ev_told l hn (by omega) (by omega)) (Ev.now _)
/-! ### The dual -/
def jv (a b : S_impl_Peg) : S_impl_Peg := ⟨Int.tdiv (b.f1 - a.f1) (cr a b), Int.tdiv (a.f0 - b.f0) (cr a b)⟩
def du (l : List S_impl_Peg) : List S_impl_Peg := (List.range l.length).map fun i => jv (pt l i) (pt l (nx l.length i))
def Hop (a b : S_impl_Peg) : Prop := st a b = cr a b ∧ 0 < cr a b
theorem du_length (l : List S_impl_Peg) : (du l).length = l.length := by simp [du]
theorem du_pt {l : List S_impl_Peg} {i : Nat} (h : i < l.length) : pt (du l) i = jv (pt l i) (pt l (nx l.length i)) := rmap_pt h
theorem jv_sm {a b : S_impl_Peg} {B : Int} (ha : Sm B a) (hb : Sm B b) : Sm (2 * B) (jv a b) := by
 unfold Sm at *
 have h1 := tdv_bd (x := b.f1 - a.f1) (B := 2 * B) (by omega) (cr a b)
 have h2 := tdv_bd (x := a.f0 - b.f0) (B := 2 * B) (by omega) (cr a b)
 exact ⟨h2.1 |> fun _ => h1.1, h1.2, h2.1, h2.2⟩
theorem du_sm {l : List S_impl_Peg} {B : Int} (h : ∀ i, i < l.length → Sm B (pt l i)) : ∀ i, i < (du l).length → Sm (2 * B) (pt (du l) i) := by
 intro i hi
 rw [du_length] at hi
 rw [du_pt hi]
 exact jv_sm (h _ hi) (h _ (nx_lt hi))
theorem du_adj {l : List S_impl_Peg} (h : Adj3 (fun a b c => Pos (jv a b) (jv b c)) l) : Adj Pos (du l) := by
 intro i hi
 rw [du_length] at hi ⊢
 rw [du_pt hi, du_pt (nx_lt hi)]
 exact h i hi
section
variable {l r : List S_impl_Peg} (hn : l.length ≤ 1000) (hp : ∀ i, i < l.length → Sm 1000 (pt l i)) (hg : Adj Hop l)
include hn hp hg
theorem ev_spec_du (hr : Ev (fun k => spec_pgFirst.f k (du l)) r) : Ev (fun k => spec_duDual.l0 k l [] l l.length 0) r := by
 have go : ∀ (e i : Nat), i + e = l.length → Ev (fun k => spec_duDual.l0 k l ((du l).take i) l l.length i) r := by
  intro e
  induction e with
  | zero =>
   intro i hi
   refine Ev.succ ?_
   obtain rfl : i = l.length := by omega
   simp (disch := omega) only [spec_duDual.l0, if_neg]
   rw [List.take_of_length_le (by rw [du_length]; omega)]
   exact Ev.bind hr (Ev.now _)
  | succ e ih =>
   intro i hi
   refine Ev.succ ?_
   have hil : i < l.length := by omega
   have n1 := nx_lt hil
   have hlen : ((du l).take i).length = i := rmap_take_length (by omega)
   obtain ⟨hs, hc⟩ := hg i hil
   have s0 := hp i hil
   have s1 := hp _ n1
   have nxt := ih (i + 1) (by omega)
   unfold du at nxt
   rw [rmap_take hil] at nxt
   simp (disch := omega) only [spec_duDual.l0, if_pos, if_neg, w64]
   simp (disch := omega) only [tmod1]
   simp (disch := omega) only [if_pos, rd_pt]
   refine Ev.bind (ev_spec_step (s0.mono (by omega)) (s1.mono (by omega))) ?_
   rw [hs]
   unfold Sm at s0 s1
   have b1 := tdv_bd (x := (pt l (nx l.length i)).f1 - (pt l i).f1) (B := 2000) (by omega) (cr (pt l i) (pt l (nx l.length i)))
   have b2 := tdv_bd (x := (pt l i).f0 - (pt l (nx l.length i)).f0) (B := 2000) (by omega) (cr (pt l i) (pt l (nx l.length i)))
   simp (disch := omega) only [if_pos, if_neg, w64, hlen]
   exact nxt
 have := go l.length 0 (by omega)
 simpa using this
theorem ev_impl_du (h0 : 0 < l.length) : Ev (fun k => impl_dual.l0 k l [] l l.length 0) (tf (du l)) := by
 have go : ∀ (e i : Nat), i + e = l.length → Ev (fun k => impl_dual.l0 k l ((du l).take i) l l.length i) (tf (du l)) := by
  intro e
  induction e with
  | zero =>
   intro i hi
   refine Ev.succ ?_
   obtain rfl : i = l.length := by omega
   have hl := du_length l
   have hf := fi_le (du l)
   simp (disch := omega) only [impl_dual.l0, if_neg]
   rw [List.take_of_length_le (by rw [du_length]; omega)]
   refine Ev.bind (ev_impl_first _ (by omega)) ?_
   exact Ev.bind (ev_told _ (by omega) (by omega) (by omega)) (Ev.now _)
  | succ e ih =>
   intro i hi
   refine Ev.succ ?_
   have hil : i < l.length := by omega
   have n1 := nx_lt hil
   have hlen : ((du l).take i).length = i := rmap_take_length (by omega)
   obtain ⟨hs, hc⟩ := hg i hil
   have s0 := hp i hil
   have s1 := hp _ n1
   have nxt := ih (i + 1) (by omega)
   unfold du at nxt
   rw [rmap_take hil] at nxt
   have ex := impl_cross_eq (s0.mono (show (1000 : Int) ≤ 1000000 by omega)) (s1.mono (show (1000 : Int) ≤ 1000000 by omega))
   unfold Sm at s0 s1
   have b1 := tdv_bd (x := (pt l (nx l.length i)).f1 - (pt l i).f1) (B := 2000) (by omega) (cr (pt l i) (pt l (nx l.length i)))
   have b2 := tdv_bd (x := (pt l i).f0 - (pt l (nx l.length i)).f0) (B := 2000) (by omega) (cr (pt l i) (pt l (nx l.length i)))
   simp (disch := omega) only [impl_dual.l0, if_pos, if_neg, w64, at_next l i hil (by omega), Option.bind_some, rd_pt, ex, hlen]
   exact nxt
 have := go l.length 0 (by omega)
 simpa using this
end
theorem st_dvd (a b : S_impl_Peg) : st a b ∣ b.f0 - a.f0 ∧ st a b ∣ b.f1 - a.f1 := by
 unfold st gc
 constructor
 ·have := Int.gcd_dvd_left (a := a.f0 - b.f0) (b := a.f1 - b.f1)
  rw [show b.f0 - a.f0 = -(a.f0 - b.f0) by omega]
  exact Int.dvd_neg.2 this
 ·have := Int.gcd_dvd_right (a := a.f0 - b.f0) (b := a.f1 - b.f1)
  rw [show b.f1 - a.f1 = -(a.f1 - b.f1) by omega]
  exact Int.dvd_neg.2 this
theorem tdiv_pull {k d n : Int} (hn : 0 < n) (h : n ∣ d) : Int.tdiv (k * d) n = Int.tdiv d n * k := by
 obtain ⟨c, rfl⟩ := h
 rw [Int.mul_tdiv_cancel_left _ (by omega), show k * (n * c) = n * (c * k) by rw [Int.mul_left_comm, Int.mul_comm k c], Int.mul_tdiv_cancel_left _ (by omega)]
theorem dv_eq {d n : Int} (hn : 0 < n) (h : n ∣ d) : n * Int.tdiv d n = d := by
 obtain ⟨c, rfl⟩ := h
 rw [Int.mul_tdiv_cancel_left _ (by omega)]

end Go.Proofs.Ytklhakfmegbobaa.B
