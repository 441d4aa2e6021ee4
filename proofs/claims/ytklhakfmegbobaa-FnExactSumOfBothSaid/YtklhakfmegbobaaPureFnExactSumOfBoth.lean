-- thin
/- The law FnExactSumOfBoth holds: for all arguments the program's SumOfBoth answers as the reference's, and the arguments are left as they were. No condition. -/
import Derived.Test.YtklhakfmegbobaaX0
import Derived.Test.YtklhakfmegbobaaX9
import Derived.Test.YtklhakfmegbobaaX12
import Derived.Test.YtklhakfmegbobaaX15
import Derived.Test.YtklhakfmegbobaaX21
import Derived.Test.YtklhakfmegbobaaX22
import Derived.Test.YtklhakfmegbobaaBBase
import Derived.Test.YtklhakfmegbobaaBCore
import Derived.Test.YtklhakfmegbobaaBPoly
import Derived.Test.YtklhakfmegbobaaBAsk
import Derived.Test.YtklhakfmegbobaaBArea
import Derived.Test.YtklhakfmegbobaaBGeo
import Derived.Test.YtklhakfmegbobaaBSimple
import Derived.Test.YtklhakfmegbobaaBGeoC
import Derived.Test.YtklhakfmegbobaaBWhere
import Derived.Test.YtklhakfmegbobaaBConvex
import Derived.Test.YtklhakfmegbobaaBSteps
import Derived.Test.YtklhakfmegbobaaBRound
import Derived.Test.YtklhakfmegbobaaBInner
import Derived.Test.YtklhakfmegbobaaBTold
import Derived.Test.YtklhakfmegbobaaBOrder
import Derived.Test.YtklhakfmegbobaaBFirst
import Derived.Test.YtklhakfmegbobaaBDual
import Derived.Test.YtklhakfmegbobaaBInward
import Derived.Test.YtklhakfmegbobaaBTell
namespace Go.Proofs.Ytklhakfmegbobaa.Pure
open Go.RowKit Go.Proofs.Ytklhakfmegbobaa.XW Go.Proofs.Ytklhakfmegbobaa.X Go.Proofs.YtklhakfmegbobaaW.PrintWords Go.Proofs.YtklhakfmegbobaaW.PrintLast Go.Proofs.Ytklhakfmegbobaa.B
set_option linter.unusedVariables false
set_option linter.unusedSimpArgs false
set_option maxRecDepth 20000

noncomputable def oneB (l : List S_impl_Peg) : Bool := if conv l = true then (if inn l = 1 then decide (wh l ⟨0, 0⟩ > 0) else false) else false
theorem sm_zero : Sm 1000000 ⟨0, 0⟩ := by unfold Sm; simp
theorem ev_impl_one {l : List S_impl_Peg} (ok : Poly l) : Ev (fun k => impl_isOneInside.f k l) (oneB l) := by
 unfold impl_isOneInside.f oneB
 refine Ev.asked (ev_impl_convex ok) (fun h => ?_) (fun h => ?_)
 ·simp only [h, if_true]
  refine Ev.bind ok.inner ?_
  by_cases h1 : inn l = 1
  ·simp only [h1, if_true]
   exact Ev.bind (ok.where_ (p := ⟨0, 0⟩) sm_zero) (Ev.now _)
  ·simp only [h1, if_false]
   exact Ev.now _
 ·simp only [h, Bool.false_eq_true, if_false]
  exact Ev.now _
theorem ev_spec_one {l : List S_impl_Peg} (ok : Poly l) : Ev (fun k => spec_duOne.f k l) (oneB l) := by
 unfold spec_duOne.f oneB
 refine Ev.bind (a := true) ((good_iff.2 ok) ▸ ev_spec_good l) ?_
 simp only [if_true]
 refine Ev.asked (ev_spec_convex ok) (fun h => ?_) (fun h => ?_)
 ·simp only [h, if_true]
  refine Ev.bind ok.sinner ?_
  by_cases h1 : inn l = 1
  ·simp only [h1, if_true]
   exact Ev.bind (ok.swhere (p := ⟨0, 0⟩) sm_zero) (Ev.now _)
  ·simp only [h1, if_false]
   exact Ev.now _
 ·simp only [h, Bool.false_eq_true, if_false]
  exact Ev.now _
theorem tldi_neg_nx {n a i : Nat} (ha : a < n) (hi : i < n) : tldi n (a : Int) (-1) i = nx n (tldi n (a : Int) (-1) (nx n i)) := by
 rw [tldi_neg ha (nx_lt hi), tldi_neg ha hi]
 unfold nx
 repeat' split
 all_goals omega
theorem tl_length (l : List S_impl_Peg) : (tl l).length = l.length := tld_length _ _ _
theorem adj_tl {R : S_impl_Peg → S_impl_Peg → Prop} {l : List S_impl_Peg} (ok : Poly l) (h1 : 0 < ar l → ∀ i, i < l.length → R (pt l i) (pt l (nx l.length i))) (h2 : ar l < 0 → ∀ i, i < l.length → R (pt l (nx l.length i)) (pt l i)) : Adj R (tl l) := by
 have h3 := ok.lo
 have hf := fi_lt (l := l) (by omega)
 unfold tl
 rcases sgn_cases (Poly.area_ne ok) with ⟨e, h⟩ | ⟨e, h⟩
 ·rw [e]
  exact Adj.turn (h1 h) hf
 ·rw [e]
  intro i hi
  rw [tld_length] at hi ⊢
  rw [tld_pt _ _ hi, tld_pt _ _ (nx_lt hi), tldi_neg_nx hf hi]
  exact h2 h _ (tldi_lt _ _ _ (by omega))
theorem adj3_tl {R : S_impl_Peg → S_impl_Peg → S_impl_Peg → Prop} {l : List S_impl_Peg} (ok : Poly l) (h1 : 0 < ar l → ∀ i, i < l.length → R (pt l i) (pt l (nx l.length i)) (pt l (nx l.length (nx l.length i)))) (h2 : ar l < 0 → ∀ i, i < l.length → R (pt l (nx l.length (nx l.length i))) (pt l (nx l.length i)) (pt l i)) : Adj3 R (tl l) := by
 have h3 := ok.lo
 have hf := fi_lt (l := l) (by omega)
 unfold tl
 rcases sgn_cases (Poly.area_ne ok) with ⟨e, h⟩ | ⟨e, h⟩
 ·rw [e]
  exact Adj3.turn (h1 h) hf
 ·rw [e]
  intro i hi
  rw [tld_length] at hi ⊢
  rw [tld_pt _ _ hi, tld_pt _ _ (nx_lt hi), tld_pt _ _ (nx_lt (nx_lt hi)), tldi_neg_nx hf hi, tldi_neg_nx hf (nx_lt hi)]
  exact h2 h _ (tldi_lt _ _ _ (by omega))
theorem st_swap (a b : S_impl_Peg) : st a b = st b a := by
 unfold st gc
 rw [show b.f0 - a.f0 = -(a.f0 - b.f0) by omega, show b.f1 - a.f1 = -(a.f1 - b.f1) by omega, Int.gcd_neg, Int.neg_gcd]
theorem jv_pos {a b c : S_impl_Peg} (h1 : Hop a b) (h2 : Hop b c) (ht : 0 < tn a b c) : Pos (jv a b) (jv b c) := by
 obtain ⟨e1, p1⟩ := h1
 obtain ⟨e2, p2⟩ := h2
 obtain ⟨d1, d2⟩ := st_dvd a b
 obtain ⟨d3, d4⟩ := st_dvd b c
 rw [e1] at d1 d2
 rw [e2] at d3 d4
 have q1 := dv_eq p1 d2
 have q2 := dv_eq p1 (show cr a b ∣ a.f0 - b.f0 by rw [show a.f0 - b.f0 = -(b.f0 - a.f0) by omega]; exact Int.dvd_neg.2 d1)
 have q3 := dv_eq p2 d4
 have q4 := dv_eq p2 (show cr b c ∣ b.f0 - c.f0 by rw [show b.f0 - c.f0 = -(c.f0 - b.f0) by omega]; exact Int.dvd_neg.2 d3)
 show 0 < Int.tdiv (b.f1 - a.f1) (cr a b) * Int.tdiv (b.f0 - c.f0) (cr b c) - Int.tdiv (a.f0 - b.f0) (cr a b) * Int.tdiv (c.f1 - b.f1) (cr b c)
 generalize Int.tdiv (b.f1 - a.f1) (cr a b) = w1 at *
 generalize Int.tdiv (b.f0 - c.f0) (cr b c) = w2 at *
 generalize Int.tdiv (a.f0 - b.f0) (cr a b) = w3 at *
 generalize Int.tdiv (c.f1 - b.f1) (cr b c) = w4 at *
 generalize cr a b = m at *
 generalize cr b c = n at *
 refine Geo.mpos (Int.mul_pos p1 p2) ?_
 have : m * n * (w1 * w2 - w3 * w4) = (m * w1) * (n * w2) - (m * w3) * (n * w4) := by grind
 rw [this, q1, q2, q3, q4]
 unfold tn at ht
 grind
noncomputable def ans_SumOfBoth (l : List S_impl_Peg) : Int × Bool := if good l = true then (if oneB l = true then (rn l + rn (tf (du (tl l))), true) else (0, false)) else (0, false)
section
variable {l : List S_impl_Peg} (ok : Poly l) (h1 : oneB l = true)
include ok h1
omit ok in
theorem one_parts : conv l = true ∧ inn l = 1 ∧ 0 < wh l oo := by
 unfold oneB at h1
 split at h1
 ·rename_i a
  split at h1
  ·rename_i b
   exact ⟨a, b, of_decide_eq_true h1⟩
  ·cases h1
 ·cases h1
theorem tl_hop : Adj Hop (tl l) := by
 obtain ⟨hc, hi, hw⟩ := one_parts h1
 refine adj_tl ok (fun ha i hil => ?_) (fun ha i hil => ?_)
 ·have e := hop ok hc hi hw hil
  have p := inward ok hc hw hil
  rw [show sgn (ar l) = 1 by unfold sgn; rw [if_pos ha], Int.one_mul] at e p
  exact ⟨e.symm, p⟩
 ·have e := hop ok hc hi hw hil
  have p := inward ok hc hw hil
  rw [show sgn (ar l) = -1 by unfold sgn; rw [if_neg (by omega), if_pos ha]] at e p
  refine ⟨?_, ?_⟩
  ·rw [st_swap, ← e, cr_swap (pt l (nx l.length i))]
   omega
  ·rw [cr_swap]
   omega
theorem tl_jv : Adj3 (fun a b c => Pos (jv a b) (jv b c)) (tl l) := by
 obtain ⟨hc, hi, hw⟩ := one_parts h1
 have hh := tl_hop ok h1
 have ht : Adj3 (fun a b c => 0 < tn a b c) (tl l) := by
  refine adj3_tl ok (fun ha i hil => ?_) (fun ha i hil => ?_)
  ·have e := turn_pos ok hc hil
   rw [show sgn (ar l) = 1 by unfold sgn; rw [if_pos ha], Int.one_mul] at e
   exact e
  ·have e := turn_pos ok hc hil
   rw [show sgn (ar l) = -1 by unfold sgn; rw [if_neg (by omega), if_pos ha]] at e
   unfold tn at e ⊢
   grind
 intro i hil
 exact jv_pos (hh i hil) (hh _ (nx_lt hil)) (ht i hil)
omit h1 in
theorem tl_sm : ∀ i, i < (tl l).length → Sm 40 (pt (tl l) i) := by
 intro i hi
 have h3 := ok.lo
 unfold tl at hi ⊢
 rw [tld_length] at hi
 rw [tld_pt _ _ hi]
 exact ok.pegs _ (tldi_lt _ _ _ (by omega))
omit h1 in
theorem rn_ok : 0 ≤ rn (tf (du (tl l))) ∧ rn (tf (du (tl l))) ≤ 100000 ∧ Ev (fun k => spec_pgRound.f k (tf (du (tl l)))) (rn (tf (du (tl l)))) ∧ Ev (fun k => impl_around.f k (tf (du (tl l)))) (rn (tf (du (tl l)))) := by
 have h10 := ok.hi
 have h3 := ok.lo
 have sm : ∀ i, i < (tf (du (tl l))).length → Sm 80 (pt (tf (du (tl l))) i) := by
  intro i hi
  rw [tf_length] at hi
  exact tf_sm (du_sm (tl_sm ok)) i hi
 have hl : (tf (du (tl l))).length = l.length := by rw [tf_length, du_length, tl_length]
 have hb := sumN_nn (f := fun i => st (pt (tf (du (tl l))) i) (pt (tf (du (tl l))) (nx (tf (du (tl l))).length i))) (B := 320) (m := (tf (du (tl l))).length) (fun i hi => st_bd (sm i hi) (sm _ (nx_lt hi)))
 refine ⟨hb.1, ?_, ?_, ?_⟩
 ·have : rn (tf (du (tl l))) ≤ 320 * ((tf (du (tl l))).length : Int) := hb.2
  rw [hl] at this
  omega
 ·exact ev_spec_round _ (by rw [hl]; omega) (fun i hi => (sm i hi).mono (by omega))
 ·exact ev_impl_around _ (by rw [hl]; omega) (fun i hi => (sm i hi).mono (by omega))
end
theorem ev_spec_SumOfBoth (l : List S_impl_Peg) : Ev (fun k => spec_SumOfBoth.f k l) (ans_SumOfBoth l) := by
 unfold spec_SumOfBoth.f ans_SumOfBoth
 by_cases hg : good l = true
 ·have ok := good_iff.1 hg
  have h10 := ok.hi
  have h3 := ok.lo
  simp only [hg, if_true]
  refine Ev.asked (ev_spec_one ok) (fun h1 => ?_) (fun h1 => ?_)
  ·simp only [h1, if_true]
   refine Ev.bind ok.sround ?_
   have rb := ok.round_bd
   obtain ⟨r1, r2, r3, r4⟩ := rn_ok ok
   have hl := tl_length l
   refine Ev.bind (a := tf (du (tl l))) ?_ (Ev.bind r3 ?_)
   ·unfold spec_duDual.f
    refine Ev.bind (ev_spec_tell ok) ?_
    refine ev_spec_du (by rw [hl]; omega) (fun i hi => (tl_sm ok i hi).mono (by omega)) (tl_hop ok h1) ?_
    exact ev_first_pos (by rw [du_length, hl]; omega) (fun i hi => (du_sm (tl_sm ok) i hi).mono (by omega)) (du_adj (tl_jv ok h1)) (by rw [du_length, hl]; omega)
   ·simp (disch := omega) only [w64]
    exact Ev.now _
  ·simp only [h1, Bool.false_eq_true, if_false]
   exact Ev.now _
 ·simp only [hg, if_false]
  refine Ev.bind (a := false) ?_ (Ev.now _)
  unfold spec_duOne.f
  refine Ev.bind (a := false) ?_ (Ev.now _)
  have := ev_spec_good l
  rw [Bool.eq_false_iff.mpr hg] at this
  exact this
theorem ev_impl_SumOfBoth (l : List S_impl_Peg) : Ev (fun k => impl_SumOfBoth.f k l) (ans_SumOfBoth l) := by
 unfold impl_SumOfBoth.f ans_SumOfBoth impl_isDualist.f
 by_cases hg : good l = true
 ·have ok := good_iff.1 hg
  have h10 := ok.hi
  have h3 := ok.lo
  simp only [hg, if_true]
  refine Ev.bind (a := oneB l) ?_ ?_
  ·have := ev_impl_IsPolygon l
   rw [hg] at this
   refine Ev.bind this ?_
   simp only [if_true]
   exact Ev.bind (ev_impl_one ok) (Ev.now _)
  by_cases h1 : oneB l = true
  ·simp only [h1, if_true]
   refine Ev.bind ok.round ?_
   have rb := ok.round_bd
   obtain ⟨r1, r2, r3, r4⟩ := rn_ok ok
   have hl := tl_length l
   refine Ev.bind (a := tf (du (tl l))) ?_ (Ev.bind r4 ?_)
   ·unfold impl_dual.f
    refine Ev.bind (ev_impl_tell ok) ?_
    exact ev_impl_du (by rw [hl]; omega) (fun i hi => (tl_sm ok i hi).mono (by omega)) (tl_hop ok h1) (by rw [hl]; omega)
   ·simp (disch := omega) only [w64]
    exact Ev.now _
  ·simp only [h1, Bool.false_eq_true, if_false]
   exact Ev.now _
 ·simp only [hg, if_false]
  refine Ev.bind (a := false) ?_ (Ev.now _)
  have := ev_impl_IsPolygon l
  rw [Bool.eq_false_iff.mpr hg] at this
  exact Ev.bind this (Ev.now _)
theorem FnExactSumOfBoth : laws_FnExactSumOfBoth.Pure := by
 intro l0 hl0
 have hl0 := hl0.1
 refine Ev.rounds ?_
 unfold laws_FnExactSumOfBoth.f
 rw [szPegS_eq l0 hl0]
 simp only [Option.bind_some]
 by_cases gl0 : 1048576 < l0.length
 ·simp only [if_pos gl0]
  exact Ev.now _
 simp only [if_neg gl0]
 simp (disch := omega) only [if_neg]
 have el0 : l0.length ≤ 1048576 := by omega
 obtain ⟨R, hR⟩ : ∃ R, R = ans_SumOfBoth (toP l0) := ⟨_, rfl⟩
 have hS := ev_spec_SumOfBoth (toP l0)
 have hM := ev_impl_SumOfBoth (toP l0)
 rw [← hR] at hS hM
 repeat (first | exact Ev.now _ | refine Ev.bind (ev_toPegS l0 el0) ?_ | refine Ev.bind hS ?_ | refine Ev.bind hM ?_ | refine Ev.bind (ev_eqPegS (toP l0) (by rw [toP_length]; omega)) ?_ | simp only [eq_self, if_true, bne_self_eq_false, Bool.false_eq_true, if_false, Option.bind_some] | simp (disch := omega) only [if_neg, if_pos] | (refine Ev.succ ?_; simp only [laws_FnExactSumOfBoth.j0, Bool.false_eq_true, if_false]))

end Go.Proofs.Ytklhakfmegbobaa.Pure
