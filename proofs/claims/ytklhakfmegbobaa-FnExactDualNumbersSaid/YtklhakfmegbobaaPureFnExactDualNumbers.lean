-- thin
/- The law FnExactDualNumbers holds: for all arguments the program's DualNumbers answers as the reference's, and the arguments are left as they were. No condition. -/
import Derived.Test.YtklhakfmegbobaaX0
import Derived.Test.YtklhakfmegbobaaX15
import Derived.Test.YtklhakfmegbobaaX17
import Derived.Test.YtklhakfmegbobaaX18
import Derived.Test.YtklhakfmegbobaaX19
import Derived.Test.YtklhakfmegbobaaX20
import Derived.Test.YtklhakfmegbobaaX21
import Derived.Test.YtklhakfmegbobaaX22
import Derived.Test.YtklhakfmegbobaaBBase
import Derived.Test.YtklhakfmegbobaaBCore
import Derived.Test.YtklhakfmegbobaaBPoly
import Derived.Test.YtklhakfmegbobaaBAsk
import Derived.Test.YtklhakfmegbobaaBArea
import Derived.Test.YtklhakfmegbobaaBTold
import Derived.Test.YtklhakfmegbobaaBFirst
import Derived.Test.YtklhakfmegbobaaBIntS
import Derived.Test.YtklhakfmegbobaaBNumbers
import Derived.Test.YtklhakfmegbobaaBNumPol
import Derived.Test.YtklhakfmegbobaaBSteps
import Derived.Test.YtklhakfmegbobaaBDual
import Derived.Test.YtklhakfmegbobaaBDualTwo
import Derived.Test.YtklhakfmegbobaaBEqIntS
import Derived.Test.YtklhakfmegbobaaBMarkI
namespace Go.Proofs.Ytklhakfmegbobaa.Pure
open Go.RowKit Go.Proofs.Ytklhakfmegbobaa.XW Go.Proofs.Ytklhakfmegbobaa.X Go.Proofs.YtklhakfmegbobaaW.PrintWords Go.Proofs.YtklhakfmegbobaaW.PrintLast Go.Proofs.Ytklhakfmegbobaa.B
set_option linter.unusedVariables false
set_option linter.unusedSimpArgs false
set_option maxRecDepth 20000

/-- From one kept point to the next one. -/
def Link (q : List Int) (a b : Nat) : Prop := a < b ∧ (∀ k, a < k → k < b → qn q k = 2) ∧ qn q b ≠ 2
def wq (q : List Int) (j : Nat) : S_impl_Peg := ⟨(pg q (j + 1)).f1 - (pg q j).f1, (pg q j).f0 - (pg q (j + 1)).f0⟩
theorem Link.run {q : List Int} {a b : Nat} (h : Link q a b) : cr (pg q a) (pg q b) = (b : Int) - a ∧ (pg q b).f0 - (pg q a).f0 = ((b : Int) - a) * ((pg q (a + 1)).f0 - (pg q a).f0) ∧ (pg q b).f1 - (pg q a).f1 = ((b : Int) - a) * ((pg q (a + 1)).f1 - (pg q a).f1) ∧ (pg q b).f0 - (pg q (b - 1)).f0 = (pg q (a + 1)).f0 - (pg q a).f0 ∧ (pg q b).f1 - (pg q (b - 1)).f1 = (pg q (a + 1)).f1 - (pg q a).f1 := by
 obtain ⟨h1, h2, h3⟩ := h
 have go : ∀ d, 1 ≤ d → a + d ≤ b → (pg q (a + d)).f0 - (pg q a).f0 = (d : Int) * ((pg q (a + 1)).f0 - (pg q a).f0) ∧ (pg q (a + d)).f1 - (pg q a).f1 = (d : Int) * ((pg q (a + 1)).f1 - (pg q a).f1) ∧ (pg q (a + d)).f0 - (pg q (a + d - 1)).f0 = (pg q (a + 1)).f0 - (pg q a).f0 ∧ (pg q (a + d)).f1 - (pg q (a + d - 1)).f1 = (pg q (a + 1)).f1 - (pg q a).f1 := by
  intro d
  induction d with
  | zero => omega
  | succ d ih =>
   intro _ hd
   by_cases c : d = 0
   ·subst c
    simp
   ·obtain ⟨e0, e1, e2, e3⟩ := ih (by omega) (by omega)
    have q2 := h2 (a + d) (by omega) (by omega)
    obtain ⟨s0, s1⟩ := pg_add_two q (a + d - 1)
    rw [show a + d - 1 + 1 = a + d by omega, q2] at s0 s1
    rw [show a + d - 1 + 2 = a + (d + 1) by omega] at s0 s1
    rw [show a + (d + 1) - 1 = a + d by omega]
    have f0 : (pg q (a + (d + 1))).f0 - (pg q (a + d)).f0 = (pg q (a + 1)).f0 - (pg q a).f0 := by omega
    have f1 : (pg q (a + (d + 1))).f1 - (pg q (a + d)).f1 = (pg q (a + 1)).f1 - (pg q a).f1 := by omega
    refine ⟨?_, ?_, f0, f1⟩
    ·rw [show ((d + 1 : Nat) : Int) = (d : Int) + 1 by omega, Int.add_mul, Int.one_mul]
     omega
    ·rw [show ((d + 1 : Nat) : Int) = (d : Int) + 1 by omega, Int.add_mul, Int.one_mul]
     omega
 have g := go (b - a) (by omega) (by omega)
 have e : a + (b - a) = b := by omega
 rw [e, show ((b - a : Nat) : Int) = (b : Int) - a by omega] at g
 refine ⟨?_, g⟩
 have := (pg_line (q := q) (i := a) (b - a) (fun k x y => h2 k x (by omega))).1
 rw [e] at this
 omega
theorem gcd_one {a b x y : Int} (h : a * y - b * x = 1) : Int.gcd x y = 1 := by
 have d0 := Int.gcd_dvd_left (a := x) (b := y)
 have d1 := Int.gcd_dvd_right (a := x) (b := y)
 have : ((Int.gcd x y : Nat) : Int) ∣ 1 := by
  rw [← h]
  exact Int.dvd_sub (Int.dvd_trans d1 (Int.dvd_mul_left _ _)) (Int.dvd_trans d0 (Int.dvd_mul_left _ _))
 exact Nat.dvd_one.1 (Int.natCast_dvd_natCast.1 (by simpa using this))
theorem Link.hop {q : List Int} {a b : Nat} (h : Link q a b) : Hop (pg q a) (pg q b) := by
 obtain ⟨c, e0, e1, -, -⟩ := h.run
 have hl := h.1
 refine ⟨?_, by omega⟩
 rw [c]
 unfold st gc
 have one := cr_one q a
 unfold cr at one
 have g := gcd_one (a := (pg q a).f0) (b := (pg q a).f1) (x := (pg q (a + 1)).f0 - (pg q a).f0) (y := (pg q (a + 1)).f1 - (pg q a).f1) (by grind)
 rw [show (pg q a).f0 - (pg q b).f0 = (-((b : Int) - a)) * ((pg q (a + 1)).f0 - (pg q a).f0) by rw [Int.neg_mul]; omega, show (pg q a).f1 - (pg q b).f1 = (-((b : Int) - a)) * ((pg q (a + 1)).f1 - (pg q a).f1) by rw [Int.neg_mul]; omega, Int.gcd_mul_left, g]
 omega
theorem Link.jv {q : List Int} {a b : Nat} (h : Link q a b) : jv (pg q a) (pg q b) = wq q a := by
 obtain ⟨c, e0, e1, -, -⟩ := h.run
 have hl := h.1
 unfold B.jv wq
 rw [c, e1, show (pg q a).f0 - (pg q b).f0 = ((b : Int) - a) * ((pg q a).f0 - (pg q (a + 1)).f0) by
  rw [show (pg q a).f0 - (pg q (a + 1)).f0 = -((pg q (a + 1)).f0 - (pg q a).f0) by omega, Int.mul_neg]
  omega]
 rw [Int.mul_tdiv_cancel_left _ (by omega), Int.mul_tdiv_cancel_left _ (by omega)]
theorem Link.turn {q : List Int} {a b : Nat} (hq : Num q) (h : Link q a b) : Pos (wq q a) (wq q b) := by
 obtain ⟨c, -, -, e0, e1⟩ := h.run
 have hl := h.1
 have one := cr_one q (b - 1)
 have b2 := hq.qn b
 have n2 := h.2.2
 obtain ⟨s0, s1⟩ := pg_add_two q (b - 1)
 rw [show b - 1 + 1 = b by omega] at s0 s1 one
 rw [show b - 1 + 2 = b + 1 by omega] at s0 s1
 unfold Pos
 have : cr (wq q a) (wq q b) = 2 - qn q b := by
  unfold wq
  unfold cr at one ⊢
  simp only
  rw [s0, s1, ← e1, show (pg q a).f0 - (pg q (a + 1)).f0 = -((pg q b).f0 - (pg q (b - 1)).f0) by omega]
  grind
 omega
/-- The places of the kept points. -/
structure Ks (q : List Int) (i : Nat) (κ : Nat → Nat) : Prop where
 pts : ∀ t, t < (cor q i).length → pt (cor q i) t = pg q (κ t) ∧ κ t < i ∧ q.getD (κ t) 0 ≠ 2
 nxt : ∀ t, t + 1 < (cor q i).length → κ t < κ (t + 1) ∧ ∀ k, κ t < k → k < κ (t + 1) → q.getD k 0 = 2
 non : (cor q i).length = 0 → ∀ k, k < i → q.getD k 0 = 2
 fst : 0 < (cor q i).length → ∀ k, k < κ 0 → q.getD k 0 = 2
 lst : 0 < (cor q i).length → ∀ k, κ ((cor q i).length - 1) < k → k < i → q.getD k 0 = 2
theorem ks_all {q : List Int} : ∀ i, ∃ κ, Ks q i κ := by
 intro i
 induction i with
 | zero => exact ⟨id, fun t ht => absurd ht (Nat.not_lt_zero _), fun t ht => absurd ht (Nat.not_lt_zero _), fun _ k hk => absurd hk (Nat.not_lt_zero _), fun h => absurd h (Nat.lt_irrefl _), fun h => absurd h (Nat.lt_irrefl _)⟩
 | succ i ih =>
  obtain ⟨κ, h⟩ := ih
  by_cases c : q.getD i 0 = 2
  ·have e : cor q (i + 1) = cor q i := by
    show (if q.getD i 0 = 2 then cor q i else cor q i ++ [pg q i]) = _
    rw [if_pos c]
   refine ⟨κ, ?_, ?_, ?_, ?_, ?_⟩ <;> rw [e]
   ·exact fun t ht => ⟨(h.pts t ht).1, by have := (h.pts t ht).2.1; omega, (h.pts t ht).2.2⟩
   ·exact h.nxt
   ·intro h0 k hk
    by_cases ek : k = i
    ·rw [ek, c]
    ·exact h.non h0 k (by omega)
   ·exact h.fst
   ·intro h0 k h1 hk
    by_cases ek : k = i
    ·rw [ek, c]
    ·exact h.lst h0 k h1 (by omega)
  ·have e : cor q (i + 1) = cor q i ++ [pg q i] := by
    show (if q.getD i 0 = 2 then cor q i else cor q i ++ [pg q i]) = _
    rw [if_neg c]
   have el : (cor q i ++ [pg q i]).length = (cor q i).length + 1 := by simp
   refine ⟨fun t => if t < (cor q i).length then κ t else i, ?_, ?_, ?_, ?_, ?_⟩ <;> rw [e, el]
   ·intro t ht
    by_cases d : t < (cor q i).length
    ·simp only [if_pos d]
     rw [pt_app_lt d]
     exact ⟨(h.pts t d).1, by have := (h.pts t d).2.1; omega, (h.pts t d).2.2⟩
    ·simp only [if_neg d]
     rw [show t = (cor q i).length by omega, pt_app_eq]
     exact ⟨rfl, by omega, c⟩
   ·intro t ht
    by_cases d : t + 1 < (cor q i).length
    ·simp only [if_pos d, if_pos (show t < (cor q i).length by omega)]
     exact h.nxt t d
    ·simp only [if_neg d, if_pos (show t < (cor q i).length by omega)]
     refine ⟨(h.pts t (by omega)).2.1, fun k h1 hk => h.lst (by omega) k ?_ hk⟩
     rw [show (cor q i).length - 1 = t by omega]
     exact h1
   ·intro h0
    omega
   ·intro _ k hk
    by_cases d : 0 < (cor q i).length
    ·simp only [if_pos d] at hk
     exact h.fst d k hk
    ·simp only [if_neg d] at hk
     exact h.non (by omega) k hk
   ·intro _ k h1 hk
    rw [show (cor q i).length + 1 - 1 = (cor q i).length by omega] at h1
    simp only [if_neg (Nat.lt_irrefl _)] at h1
    omega
theorem qn_shift (q : List Int) (k : Nat) : qn q (q.length + k) = qn q k := by
 unfold qn
 rw [Nat.add_mod_left]
/-- The corners of numbers: each one leads to the next. -/
theorem cor_link {q : List Int} (hq : Num q) (h : arB q = true) : ∃ κ κ' : Nat → Nat, ∀ t, t < (cor q q.length).length → pt (cor q q.length) t = pg q (κ t) ∧ pt (cor q q.length) (nx (cor q q.length).length t) = pg q (κ' t) ∧ Link q (κ t) (κ' t) ∧ wq q (κ (nx (cor q q.length).length t)) = wq q (κ' t) := by
 obtain ⟨κ, hk⟩ := ks_all (q := q) q.length
 refine ⟨κ, fun t => if t + 1 = (cor q q.length).length then q.length + κ 0 else κ (t + 1), fun t ht => ?_⟩
 have m0 : 0 < (cor q q.length).length := by omega
 obtain ⟨p0, p1, p2⟩ := hk.pts t ht
 refine ⟨p0, ?_⟩
 unfold nx
 by_cases c : t + 1 = (cor q q.length).length
 ·simp only [if_pos c]
  obtain ⟨z0, z1, z2⟩ := hk.pts 0 m0
  refine ⟨?_, ⟨by omega, fun k k1 k2 => ?_, ?_⟩, ?_⟩
  ·rw [z0, (pg_turn h _).1]
  ·by_cases d : k < q.length
   ·rw [qn_lt d]
    refine hk.lst m0 k ?_ d
    rw [← c]
    exact k1
   ·rw [show k = q.length + (k - q.length) by omega, qn_shift, qn_lt (by omega)]
    exact hk.fst m0 _ (by omega)
  ·rw [qn_shift, qn_lt z1]
   exact z2
  ·unfold wq
   rw [(pg_turn h _).1, (pg_turn h _).2]
 ·simp only [if_neg c]
  obtain ⟨z0, z1, z2⟩ := hk.pts (t + 1) (by omega)
  obtain ⟨x1, x2⟩ := hk.nxt t (by omega)
  refine ⟨z0, ⟨x1, fun k k1 k2 => ?_, ?_⟩, trivial⟩
  ·rw [qn_lt (by omega)]
   exact x2 k k1 k2
  ·rw [qn_lt z1]
   exact z2
theorem cor_hop {q : List Int} (hq : Num q) (h : arB q = true) : Adj Hop (cor q q.length) := by
 obtain ⟨κ, κ', hl⟩ := cor_link hq h
 intro t ht
 obtain ⟨a, b, l, -⟩ := hl t ht
 rw [a, b]
 exact l.hop
theorem cor_two {q : List Int} (hq : Num q) (h : arB q = true) : Adj3 (fun a b c => Pos (jv a b) (jv b c)) (cor q q.length) := by
 obtain ⟨κ, κ', hl⟩ := cor_link hq h
 intro t ht
 obtain ⟨a, b, l, w⟩ := hl t ht
 obtain ⟨a', b', l', -⟩ := hl _ (nx_lt ht)
 have e : jv (pt (cor q q.length) (nx (cor q q.length).length t)) (pt (cor q q.length) (nx (cor q q.length).length (nx (cor q q.length).length t))) = wq q (κ' t) := by
  rw [a', b', l'.jv, w]
 rw [e, a, b, l.jv]
 exact l.turn hq
theorem cor_some {q : List Int} (hq : Num q) (h : arB q = true) : 0 < (cor q q.length).length := by
 obtain ⟨κ, hk⟩ := ks_all (q := q) q.length
 refine Nat.pos_of_ne_zero fun c => ?_
 have two := hk.non c
 have e : sm q = 2 * (q.length : Int) := by
  unfold sm
  have go : ∀ m, m ≤ q.length → sumN (fun i => q.getD i 0) m = 2 * (m : Int) := by
   intro m
   induction m with
   | zero => exact fun _ => rfl
   | succ m ih =>
    intro hm
    show sumN (fun i => q.getD i 0) m + q.getD m 0 = _
    rw [ih (by omega), two m (by omega)]
    omega
  exact go _ (Nat.le_refl _)
 unfold arB at h
 simp only [Bool.and_eq_true, decide_eq_true_eq] at h
 have := hq.hi
 omega
/-! ### The dual's numbers -/
def dualB (q : List Int) : List S_impl_Peg := tf (du (polB q))
def ans_DualNumbers (q : List Int) : List Int × Bool := if (ans_PolygonOfNumbers q).2 = true then (nu (al (dualB q) (dualB q).length), true) else ([], false)
theorem polB_tf (q : List Int) : polB q = tf (cor q q.length) := rfl
structure Whole (q : List Int) : Prop where
 len : 0 < (polB q).length ∧ (polB q).length ≤ 9
 sm : ∀ i, i < (polB q).length → Sm 40 (pt (polB q) i)
 hop : Adj Hop (polB q)
 pos : Adj Pos (polB q)
 fst : tf (polB q) = polB q
 dpos : Adj Pos (du (polB q))
theorem whole {q : List Int} (hq : Num q) (h : arB q = true) (hs : pegsB q = true) : Whole q := by
 have h0 := cor_some hq h
 have hl := cor_len q q.length
 have h9 := hq.hi
 have hf := fi_lt h0
 have hh : Adj Hop (polB q) := (cor_hop hq h).turn hf
 have e : (polB q).length = (cor q q.length).length := tf_length _
 refine ⟨by omega, ?_, hh, fun i hi => (hh i hi).2, ?_, du_adj ((cor_two hq h).turn hf)⟩
 ·rw [e]
  exact tf_sm (cor_sm q.length (pegsB_iff.1 hs))
 ·exact tf_self (fi_tf h0)
theorem ans_whole {q : List Int} (h : (ans_PolygonOfNumbers q).2 = true) : Whole q ∧ (ans_PolygonOfNumbers q).1 = polB q := by
 unfold ans_PolygonOfNumbers at h ⊢
 by_cases c0 : numB q = true
 ·rw [if_pos c0] at h ⊢
  by_cases c1 : arB q = true
  ·rw [if_pos c1] at h ⊢
   by_cases c2 : pegsB q = true
   ·rw [if_pos c2]
    exact ⟨whole (numB_iff c0) c1 c2, rfl⟩
   ·rw [if_neg c2] at h
    exact absurd h (by simp)
  ·rw [if_neg c1] at h
   exact absurd h (by simp)
 ·rw [if_neg c0] at h
  exact absurd h (by simp)
namespace Whole
variable {q : List Int} (h : Whole q)
include h
theorem dlen : 0 < (dualB q).length ∧ (dualB q).length ≤ 9 := by
 unfold dualB
 rw [tf_length, du_length]
 exact h.len
theorem dsm : ∀ i, i < (dualB q).length → Sm 1000 (pt (dualB q) i) := by
 intro i hi
 unfold dualB at hi ⊢
 rw [tf_length] at hi
 exact (tf_sm (du_sm h.sm) i hi).mono (by omega)
theorem dadj : Adj Pos (dualB q) := h.dpos.turn (fi_lt (by rw [du_length]; exact h.len.1))
theorem dfst : ∀ j, j < (dualB q).length → ¬ lss (pt (dualB q) j) (pt (dualB q) 0) = true := by
 unfold dualB
 rw [tf_length]
 exact tf_least (by rw [du_length]; exact h.len.1)
theorem dself : tf (dualB q) = dualB q := tf_self (fi_zero h.dfst)
theorem allen : (al (dualB q) (dualB q).length).length ≤ 1000000 := by
 have := al_len h.dsm _ (Nat.le_refl _)
 have := h.dlen
 omega
theorem sdual : Ev (fun k => spec_duDual.f k (polB q)) (dualB q) := by
 unfold spec_duDual.f
 have hl := h.len
 have e := ev_first_pos (by omega) (fun i hi => (h.sm i hi).mono (by omega)) h.pos hl.1
 rw [h.fst] at e
 refine Ev.bind e ?_
 refine ev_spec_du (by omega) (fun i hi => (h.sm i hi).mono (by omega)) h.hop ?_
 exact ev_first_pos (by rw [du_length]; omega) (fun i hi => (du_sm h.sm i hi).mono (by omega)) h.dpos (by rw [du_length]; exact hl.1)
theorem idual : Ev (fun k => impl_dual.f k (polB q)) (dualB q) := by
 unfold impl_dual.f
 have hl := h.len
 have e := ev_tellFirst (by omega) (fun i hi => (h.sm i hi).mono (by omega)) h.pos hl.1
 rw [h.fst] at e
 refine Ev.bind e ?_
 exact ev_impl_du (by omega) (fun i hi => (h.sm i hi).mono (by omega)) h.hop hl.1
theorem saround : Ev (fun k => spec_duAround.f k (dualB q)) (al (dualB q) (dualB q).length) := by
 unfold spec_duAround.f
 have hl := h.dlen
 have e := ev_first_pos (by omega) (fun i hi => (h.dsm i hi).mono (by omega)) h.dadj hl.1
 rw [h.dself] at e
 refine Ev.bind e ?_
 exact ev_spec_al (by omega) h.dsm
theorem iaround : Ev (fun k => impl_pegsAround.f k (dualB q)) (al (dualB q) (dualB q).length) := by
 unfold impl_pegsAround.f
 exact ev_impl_al (by have := h.dlen; omega) h.dsm (al_all h.dsm h.dadj h.dlen.1 h.dfst).2.2
theorem snu : Ev (fun k => spec_duNumbers.f k (al (dualB q) (dualB q).length)) (nu (al (dualB q) (dualB q).length)) := by
 have a := al_all h.dsm h.dadj h.dlen.1 h.dfst
 exact ev_spec_nu h.allen a.1 a.2.1
theorem inu : Ev (fun k => impl_ratios.f k (al (dualB q) (dualB q).length)) (nu (al (dualB q) (dualB q).length)) := by
 have a := al_all h.dsm h.dadj h.dlen.1 h.dfst
 exact ev_impl_nu h.allen a.1 a.2.1
end Whole
theorem ans_DualNumbers_len (q : List Int) : (ans_DualNumbers q).1.length ≤ 1099511627776 := by
 unfold ans_DualNumbers
 split
 ·rename_i h
  have := (ans_whole h).1.allen
  show (nu _).length ≤ _
  rw [nu_length]
  omega
 ·show 0 ≤ _
  omega
theorem ev_spec_DualNumbers (q : List Int) : Ev (fun k => spec_DualNumbers.f k q) (ans_DualNumbers q) := by
 unfold spec_DualNumbers.f ans_DualNumbers
 refine Ev.bind (ev_spec_PolygonOfNumbers q) ?_
 by_cases h : (ans_PolygonOfNumbers q).2 = true
 ·obtain ⟨w, e⟩ := ans_whole h
  rw [e]
  simp only [if_pos h]
  refine Ev.bind w.sdual ?_
  refine Ev.bind w.saround ?_
  exact Ev.bind w.snu (Ev.now _)
 ·simp only [if_neg h]
  exact Ev.now _
theorem ev_impl_DualNumbers (q : List Int) : Ev (fun k => impl_DualNumbers.f k q) (ans_DualNumbers q) := by
 unfold impl_DualNumbers.f ans_DualNumbers
 refine Ev.bind (ev_impl_PolygonOfNumbers q) ?_
 by_cases h : (ans_PolygonOfNumbers q).2 = true
 ·obtain ⟨w, e⟩ := ans_whole h
  rw [e]
  simp only [if_pos h]
  refine Ev.bind w.idual ?_
  refine Ev.bind w.iaround ?_
  exact Ev.bind w.inu (Ev.now _)
 ·simp only [if_neg h]
  exact Ev.now _
theorem FnExactDualNumbers : laws_FnExactDualNumbers.Pure := by
 intro n0 hn0
 have hn0 := hn0.1
 refine Ev.rounds ?_
 unfold laws_FnExactDualNumbers.f
 by_cases gn0 : 1048576 < n0.length
 ·simp (disch := omega) only [if_pos]
  exact Ev.now _
 simp (disch := omega) only [if_neg]
 have en0 : n0.length ≤ 1048576 := by omega
 obtain ⟨R, hR⟩ : ∃ R, R = ans_DualNumbers n0 := ⟨_, rfl⟩
 have hS := ev_spec_DualNumbers n0
 have hM := ev_impl_DualNumbers n0
 rw [← hR] at hS hM
 have hb := ans_DualNumbers_len n0
 rw [← hR] at hb
 repeat (first | exact Ev.now _ | refine Ev.bind (ev_toIntS n0 en0) ?_ | refine Ev.bind hS ?_ | refine Ev.bind hM ?_ | refine Ev.bind (ev_eqIntS n0 (by omega)) ?_ | refine Ev.bind (ev_eqIntS _ hb) ?_ | refine Ev.bind (ev_markIntS _ _ hb (by omega)) ?_ | refine Ev.bind (ev_heldIntS _ _ hb (by omega)) ?_ | refine Ev.bind (ev_markIntS n0 1 (by omega) (by omega)) ?_ | simp only [eq_self, if_true, bne_self_eq_false, Bool.false_eq_true, if_false, Option.bind_some] | simp (disch := omega) only [if_neg, if_pos] | (refine Ev.succ ?_; simp only [laws_FnExactDualNumbers.j0, laws_FnExactDualNumbers.j1, laws_FnExactDualNumbers.j2, Bool.false_eq_true, if_false]))

end Go.Proofs.Ytklhakfmegbobaa.Pure
