-- thin
/- The polygon of numbers, in the reference and in the program. -/
import Derived.Test.YtklhakfmegbobaaX0
import Derived.Test.YtklhakfmegbobaaX3
import Derived.Test.YtklhakfmegbobaaX7
import Derived.Test.YtklhakfmegbobaaX11
import Derived.Test.YtklhakfmegbobaaBBase
import Derived.Test.YtklhakfmegbobaaBCore
import Derived.Test.YtklhakfmegbobaaBPoly
import Derived.Test.YtklhakfmegbobaaBAsk
import Derived.Test.YtklhakfmegbobaaBArea
import Derived.Test.YtklhakfmegbobaaBTold
import Derived.Test.YtklhakfmegbobaaBFirst
import Derived.Test.YtklhakfmegbobaaBIntS
import Derived.Test.YtklhakfmegbobaaBNumbers
namespace Go.Proofs.Ytklhakfmegbobaa.B
open Go.RowKit Go.Proofs.Ytklhakfmegbobaa.XW Go.Proofs.Ytklhakfmegbobaa.X Go.Proofs.YtklhakfmegbobaaW.PrintWords Go.Proofs.YtklhakfmegbobaaW.PrintLast Go.Proofs.Ytklhakfmegbobaa.B
set_option linter.unusedVariables false
set_option linter.unusedSimpArgs false
set_option maxRecDepth 20000

theorem ev_spec_all (n : List Int) (lo hi : Int) (hn : n.length ≤ 1099511627776) : Ev (fun k => spec_l1All.f k n lo hi) (n.all fun x => decide (lo ≤ x) && decide (x ≤ hi)) := by
 unfold spec_l1All.f
 have go : ∀ (d i : Nat), i + d = n.length → Ev (fun k => spec_l1All.l0 k lo hi n n.length i) ((n.drop i).all fun x => decide (lo ≤ x) && decide (x ≤ hi)) := by
  intro d
  induction d with
  | zero =>
   intro i hi'
   refine Ev.succ ?_
   obtain rfl : i = n.length := by omega
   simp (disch := omega) only [spec_l1All.l0, if_neg]
   exact Ev.some (by simp)
  | succ d ih =>
   intro i hi'
   refine Ev.succ ?_
   have hil : i < n.length := by omega
   have e : rd n (i : Int) = n[i] := by rw [rd_nat, List.getD_eq_getElem?_getD, List.getElem?_eq_getElem hil]; rfl
   rw [List.drop_eq_getElem_cons hil]
   simp (disch := omega) only [spec_l1All.l0, if_pos, spec_in_eq, Option.bind_some, w64, e, List.all_cons]
   cases hx : (decide (lo ≤ n[i]) && decide (n[i] ≤ hi)) with
   | true => simp only [if_true, Bool.true_and]; exact ih (i + 1) (by omega)
   | false => simp only [Bool.false_eq_true, if_false, Bool.false_and]; exact Ev.now _
 have := go n.length 0 (by omega)
 simpa using this
theorem ev_notNum (n : List Int) (hn : n.length ≤ 1099511627776) : Ev (fun k => slices_ContainsFunc_int_at_impl_areNumbers_1.f k n) (!(n.all fun x => decide (-6 ≤ x) && decide (x ≤ 2))) := by
 unfold slices_ContainsFunc_int_at_impl_areNumbers_1.f slices_IndexFunc_int_at_impl_areNumbers_1.f
 have go : ∀ (d i : Nat), i + d = n.length → Ev (fun k => (slices_IndexFunc_int_at_impl_areNumbers_1.l0 k n n.length i).bind fun t => some (decide (t ≥ 0))) (!((n.drop i).all fun x => decide (-6 ≤ x) && decide (x ≤ 2))) := by
  intro d
  induction d with
  | zero =>
   intro i hi'
   refine Ev.succ ?_
   obtain rfl : i = n.length := by omega
   simp (disch := omega) only [slices_IndexFunc_int_at_impl_areNumbers_1.l0, if_neg, Option.bind_some]
   exact Ev.some (by simp)
  | succ d ih =>
   intro i hi'
   refine Ev.succ ?_
   have hil : i < n.length := by omega
   have e : rd n (i : Int) = n[i] := by rw [rd_nat, List.getD_eq_getElem?_getD, List.getElem?_eq_getElem hil]; rfl
   rw [List.drop_eq_getElem_cons hil]
   simp (disch := omega) only [slices_IndexFunc_int_at_impl_areNumbers_1.l0, if_pos, impl_areNumbers_1.f, impl_within_eq, Option.bind_some, w64, e, List.all_cons]
   cases hx : (decide (-6 ≤ n[i]) && decide (n[i] ≤ 2)) with
   | true =>
    simp only [Bool.not_true, Bool.false_eq_true, if_false, Bool.true_and]
    exact ih (i + 1) (by omega)
   | false =>
    simp only [Bool.not_false, if_true, Bool.false_and, Option.bind_some]
    exact Ev.some (by simp)
 have := go n.length 0 (by omega)
 simpa using this
def numB (q : List Int) : Bool := (decide ((3 : Int) ≤ (q.length : Int)) && decide ((q.length : Int) ≤ 9)) && q.all fun x => decide (-6 ≤ x) && decide (x ≤ 2)
theorem numB_iff {q : List Int} (h : numB q = true) : Num q := by
 unfold numB at h
 simp only [Bool.and_eq_true, decide_eq_true_eq, List.all_eq_true] at h
 refine ⟨by omega, by omega, fun i hi => ?_⟩
 have : q.getD i 0 ∈ q := by
  rw [List.getD_eq_getElem?_getD, List.getElem?_eq_getElem hi]
  exact List.getElem_mem hi
 exact h.2 _ this
theorem ev_spec_num (q : List Int) : Ev (fun k => spec_duNumber.f k q) (numB q) := by
 unfold spec_duNumber.f numB
 simp only [spec_in_eq, Option.bind_some]
 cases hx : (decide ((3 : Int) ≤ (q.length : Int)) && decide ((q.length : Int) ≤ 9)) with
 | true =>
  simp only [if_true, Bool.true_and]
  simp only [Bool.and_eq_true, decide_eq_true_eq] at hx
  exact Ev.bind (ev_spec_all q _ _ (by omega)) (Ev.now _)
 | false =>
  simp only [Bool.false_eq_true, if_false, Bool.false_and]
  exact Ev.now _
theorem ev_impl_num (q : List Int) : Ev (fun k => impl_areNumbers.f k q) (numB q) := by
 unfold impl_areNumbers.f numB
 simp only [impl_within_eq, Option.bind_some]
 cases hx : (decide ((3 : Int) ≤ (q.length : Int)) && decide ((q.length : Int) ≤ 9)) with
 | true =>
  simp only [if_true, Bool.true_and]
  simp only [Bool.and_eq_true, decide_eq_true_eq] at hx
  refine Ev.bind (ev_notNum q (by omega)) (Ev.some ?_)
  simp
 | false =>
  simp only [Bool.false_eq_true, if_false, Bool.false_and]
  exact Ev.now _
def pegsB (q : List Int) : Bool := allPegs (pgs q q.length)
theorem pegsB_iff {q : List Int} : pegsB q = true ↔ ∀ j, j < q.length → Sm 40 (pg q j) := by
 unfold pegsB
 rw [allPegs_iff, pgs_length]
 exact ⟨fun h j hj => by have := h j hj; rwa [pgs_pt q hj] at this, fun h j hj => by rw [pgs_pt q hj]; exact h j hj⟩
theorem pegsB_all {q : List Int} (hq : Num q) (h : arB q = true) : allPegs (pgs q (q.length + 2)) = pegsB q := by
 have h3 := hq.lo
 have e : allPegs (pgs q (q.length + 2)) = true ↔ pegsB q = true := by
  rw [pegsB_iff, allPegs_iff, pgs_length]
  constructor
  ·intro k j hj
   have := k j (by omega)
   rwa [pgs_pt q (by omega)] at this
  ·intro k j hj
   rw [pgs_pt q hj]
   by_cases c : j < q.length
   ·exact k j c
   ·have := (pg_turn h (j - q.length)).1
    rw [show q.length + (j - q.length) = j by omega] at this
    rw [this]
    exact k _ (by omega)
 cases h1 : allPegs (pgs q (q.length + 2)) <;> cases h2 : pegsB q <;> simp_all
def polB (q : List Int) : List S_impl_Peg := tld (cor q q.length) (fi (cor q q.length)) 1
def ans_PolygonOfNumbers (q : List Int) : List S_impl_Peg × Bool := if numB q = true then (if arB q = true then (if pegsB q = true then (polB q, true) else ([], false)) else ([], false)) else ([], false)
theorem ans_PolygonOfNumbers_len (q : List Int) : (ans_PolygonOfNumbers q).1.length ≤ 1099511627776 := by
 unfold ans_PolygonOfNumbers
 split
 ·rename_i h
  have := (numB_iff h).hi
  have hl := cor_len q q.length
  split
  ·split
   ·show (tld _ _ _).length ≤ _
    rw [tld_length]
    omega
   ·show 0 ≤ _
    omega
  ·show 0 ≤ _
   omega
 ·show 0 ≤ _
  omega
theorem ev_spec_pol {q : List Int} (hq : Num q) (h : arB q = true) : Ev (fun k => spec_duPolygon.f k q) (if pegsB q = true then (polB q, true) else ([], false)) := by
 unfold spec_duPolygon.f
 have h9 := hq.hi
 have h3 := hq.lo
 refine Ev.bind (ev_spec_make hq) ?_
 have go : ∀ (e i : Nat), i + e = q.length → (∀ j, j < i → Sm 40 (pg q j)) → Ev (fun k => spec_duPolygon.l0 k (pgs q (q.length + 2)) (cor q i) q q.length i) (if pegsB q = true then (polB q, true) else ([], false)) := by
  intro e
  induction e with
  | zero =>
   intro i hi hj
   refine Ev.succ ?_
   obtain rfl : i = q.length := by omega
   simp (disch := omega) only [spec_duPolygon.l0, if_neg]
   rw [if_pos (pegsB_iff.2 hj)]
   obtain ⟨a, ha, hev⟩ := ev_cor_area hq h hj
   have hl := cor_len q q.length
   exact Ev.bind (ev_spec_first _ (by omega) hev ha) (Ev.now _)
  | succ e ih =>
   intro i hi hj
   refine Ev.succ ?_
   have hlen := pgs_length q (q.length + 2)
   have hl := cor_len q i
   simp (disch := omega) only [spec_duPolygon.l0, if_pos, hlen, rd_pt, pgs_pt q (show i < q.length + 2 by omega), is_peg_eq, Option.bind_some, w64, rd_nat]
   by_cases c : Sm 40 (pg q i)
   ·simp only [c, decide_true, if_true]
    have hj' : ∀ j, j < i + 1 → Sm 40 (pg q j) := fun j hj1 => by
     by_cases ej : j = i
     ·rw [ej]
      exact c
     ·exact hj j (by omega)
    have nxt := ih (i + 1) (by omega) hj'
    unfold cor at nxt
    by_cases c2 : q.getD i 0 = 2
    ·rw [if_pos c2] at nxt
     simp only [if_pos c2]
     exact nxt
    ·rw [if_neg c2] at nxt
     simp (disch := omega) only [if_neg c2, if_pos]
     exact nxt
   ·simp only [c, decide_false, Bool.false_eq_true, if_false]
    refine Ev.some ?_
    rw [if_neg (fun k => c (pegsB_iff.1 k i (by omega)))]
 have := go q.length 0 (by omega) (fun j hj => absurd hj (Nat.not_lt_zero _))
 exact this
theorem ev_impl_pol {q : List Int} (hq : Num q) (h : arB q = true) (hp : pegsB q = true) : Ev (fun k => impl_polygonBy.f k q) (polB q) := by
 unfold impl_polygonBy.f
 have h9 := hq.hi
 have h3 := hq.lo
 have hlen := pgs_length q (q.length + 2)
 refine Ev.bind (ev_impl_pegsBy hq) ?_
 have et : (pgs q (q.length + 2)).take q.length = pgs q q.length := by
  unfold pgs
  rw [← List.map_take, List.take_range]
  congr 2
  omega
 have hlen' := pgs_length q q.length
 simp (disch := omega) only [if_pos, hlen, Int.toNat_natCast, Option.bind_some, et, hlen']
 have go : ∀ (e i : Nat), i + e = q.length → Ev (fun k => impl_polygonBy.l0 k q (cor q i) (pgs q q.length) q.length i) (polB q) := by
  intro e
  induction e with
  | zero =>
   intro i hi
   refine Ev.succ ?_
   obtain rfl : i = q.length := by omega
   have hl := cor_len q q.length
   have hf := fi_le (cor q q.length)
   simp (disch := omega) only [impl_polygonBy.l0, if_neg]
   refine Ev.bind (ev_impl_first _ (by omega)) ?_
   exact Ev.bind (ev_told _ (by omega) (by omega) (by omega)) (Ev.now _)
  | succ e ih =>
   intro i hi
   refine Ev.succ ?_
   have hl := cor_len q i
   have ha := hq.all i (by omega)
   simp (disch := omega) only [impl_polygonBy.l0, if_pos, hlen', rd_pt, pgs_pt q (show i < q.length by omega), w64, rd_nat]
   have nxt := ih (i + 1) (by omega)
   unfold cor at nxt
   by_cases c2 : q.getD i 0 = 2
   ·rw [if_pos c2] at nxt
    simp (disch := omega) only [if_neg]
    exact nxt
   ·rw [if_neg c2] at nxt
    simp (disch := omega) only [if_pos]
    exact nxt
 exact go q.length 0 (by omega)
theorem ev_spec_PolygonOfNumbers (q : List Int) : Ev (fun k => spec_PolygonOfNumbers.f k q) (ans_PolygonOfNumbers q) := by
 unfold spec_PolygonOfNumbers.f ans_PolygonOfNumbers
 refine Ev.asked (ev_spec_num q) (fun h => ?_) (fun h => ?_)
 ·rw [if_pos h]
  have hq := numB_iff h
  simp only [if_true]
  refine Ev.asked (ev_spec_is hq) (fun h1 => ?_) (fun h1 => ?_)
  ·rw [if_pos h1]
   simp only [if_true]
   exact Ev.bind (ev_spec_pol hq h1) (Ev.now _)
  ·rw [if_neg (by rw [h1]; simp)]
   exact Ev.now _
 ·rw [if_neg (by rw [h]; simp)]
  exact Ev.now _
theorem ev_impl_PolygonOfNumbers (q : List Int) : Ev (fun k => impl_PolygonOfNumbers.f k q) (ans_PolygonOfNumbers q) := by
 unfold impl_PolygonOfNumbers.f ans_PolygonOfNumbers
 refine Ev.asked (ev_impl_num q) (fun h => ?_) (fun h => ?_)
 ·rw [if_pos h]
  have hq := numB_iff h
  have h9 := hq.hi
  simp only [if_true]
  refine Ev.asked (ev_impl_areAround hq) (fun h1 => ?_) (fun h1 => ?_)
  ·rw [if_pos h1]
   simp only [if_true]
   refine Ev.bind (ev_impl_pegsBy hq) ?_
   have ea := ev_arePegs (pgs q (q.length + 2)) (by rw [pgs_length]; omega)
   rw [pegsB_all hq h1] at ea
   refine Ev.asked ea (fun h2 => ?_) (fun h2 => ?_)
   ·rw [if_pos h2]
    simp only [if_true]
    exact Ev.bind (ev_impl_pol hq h1 h2) (Ev.now _)
   ·rw [if_neg (by rw [h2]; simp)]
    exact Ev.now _
  ·rw [if_neg (by rw [h1]; simp)]
   exact Ev.now _
 ·rw [if_neg (by rw [h]; simp)]
  exact Ev.now _

end Go.Proofs.Ytklhakfmegbobaa.B
