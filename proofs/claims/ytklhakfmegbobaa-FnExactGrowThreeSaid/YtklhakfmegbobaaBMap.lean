-- thin
/- A polygon's corners brought elsewhere, in the reference. -/
import Derived.Test.YtklhakfmegbobaaX0
import Derived.Test.YtklhakfmegbobaaX6
import Derived.Test.YtklhakfmegbobaaBBase
import Derived.Test.YtklhakfmegbobaaBCore
import Derived.Test.YtklhakfmegbobaaBPoly
import Derived.Test.YtklhakfmegbobaaBAsk
namespace Go.Proofs.Ytklhakfmegbobaa.B
open Go.RowKit Go.Proofs.Ytklhakfmegbobaa.XW Go.Proofs.Ytklhakfmegbobaa.X Go.Proofs.YtklhakfmegbobaaW.PrintWords Go.Proofs.YtklhakfmegbobaaW.PrintLast Go.Proofs.Ytklhakfmegbobaa.B
set_option linter.unusedVariables false
set_option linter.unusedSimpArgs false
set_option maxRecDepth 20000

theorem map_take {f : S_impl_Peg → S_impl_Peg} {l : List S_impl_Peg} {i : Nat} (h : i < l.length) : (l.map f).take (i + 1) = (l.map f).take i ++ [f (pt l i)] := by
 rw [List.take_succ_eq_append_getElem (by simpa using h)]
 congr 2
 rw [List.getElem_map]
 congr 1
 unfold pt
 rw [List.getD_eq_getElem?_getD, List.getElem?_eq_getElem h]
 rfl
theorem map_take_length {f : S_impl_Peg → S_impl_Peg} {l : List S_impl_Peg} {i : Nat} (h : i ≤ l.length) : ((l.map f).take i).length = i := by
 simp
 omega
/-- The corners as f brings them, if they are pegs. -/
def chg (f : S_impl_Peg → S_impl_Peg) (l : List S_impl_Peg) : List S_impl_Peg × Bool := if allPegs (l.map f) = true then (l.map f, true) else ([], false)
theorem chg_len (f : S_impl_Peg → S_impl_Peg) {l : List S_impl_Peg} (h : l.length ≤ 1099511627776) : (chg f l).1.length ≤ 1099511627776 := by
 unfold chg
 split
 ·simpa using h
 ·show 0 ≤ _
  omega
theorem allPegs_false {f : S_impl_Peg → S_impl_Peg} {l : List S_impl_Peg} {i : Nat} (h : i < l.length) (hn : ¬ Sm 40 (f (pt l i))) : allPegs (l.map f) = false := by
 unfold allPegs
 rw [List.all_eq_false]
 exact ⟨f (pt l i), List.mem_map_of_mem (pt_mem h), by simp [hn]⟩
theorem allPegs_true {f : S_impl_Peg → S_impl_Peg} {l : List S_impl_Peg} (h : ∀ i, i < l.length → Sm 40 (f (pt l i))) : allPegs (l.map f) = true := by
 unfold allPegs
 rw [List.all_eq_true]
 intro q hq
 obtain ⟨p, hp, rfl⟩ := List.mem_map.1 hq
 obtain ⟨j, hj, rfl⟩ := List.getElem_of_mem hp
 have := h j hj
 unfold pt at this
 rw [List.getD_eq_getElem?_getD, List.getElem?_eq_getElem hj] at this
 simpa using this
def lin (a b c d x y : Int) (p : S_impl_Peg) : S_impl_Peg := ⟨a * p.f0 + b * p.f1 + x, c * p.f0 + d * p.f1 + y⟩
theorem lin_w {a b x : Int} {p : S_impl_Peg} (ha : -1000 ≤ a ∧ a ≤ 1000) (hb : -1000 ≤ b ∧ b ≤ 1000) (hx : -1000000 ≤ x ∧ x ≤ 1000000) (hp : Sm 1000000 p) : wrap64 (wrap64 (wrap64 (a * p.f0) + wrap64 (b * p.f1)) + x) = a * p.f0 + b * p.f1 + x := by
 unfold Sm at hp
 have h1 := mul_bd (x := a) (y := p.f0) (A := 1000) (B := 1000000) (by omega) (by omega)
 have h2 := mul_bd (x := b) (y := p.f1) (A := 1000) (B := 1000000) (by omega) (by omega)
 rw [w64 (x := a * p.f0) (by omega), w64 (x := b * p.f1) (by omega), w64 (x := a * p.f0 + b * p.f1) (by omega), w64 (by omega)]
theorem ev_spec_map (l : List S_impl_Peg) {a b c d x y : Int} (ha : -1000 ≤ a ∧ a ≤ 1000) (hb : -1000 ≤ b ∧ b ≤ 1000) (hc : -1000 ≤ c ∧ c ≤ 1000) (hd : -1000 ≤ d ∧ d ≤ 1000) (hx : -1000000 ≤ x ∧ x ≤ 1000000) (hy : -1000000 ≤ y ∧ y ≤ 1000000) (hn : l.length ≤ 1099511627776) (hp : ∀ i, i < l.length → Sm 1000000 (pt l i)) :
  Ev (fun k => spec_pgMap.f k l a b c d x y) (chg (lin a b c d x y) l) := by
 unfold spec_pgMap.f
 have go : ∀ (e i : Nat), i + e = l.length → (∀ j, j < i → Sm 40 (lin a b c d x y (pt l j))) → Ev (fun k => spec_pgMap.l0 k a b c d x y ((l.map (lin a b c d x y)).take i) l l.length i) (chg (lin a b c d x y) l) := by
  intro e
  induction e with
  | zero =>
   intro i hi hj
   refine Ev.succ ?_
   obtain rfl : i = l.length := by omega
   simp (disch := omega) only [spec_pgMap.l0, if_neg]
   refine Ev.some ?_
   unfold chg
   rw [allPegs_true hj, if_pos rfl, List.take_of_length_le (by simp)]
  | succ e ih =>
   intro i hi hj
   refine Ev.succ ?_
   have hil : i < l.length := by omega
   have hlen := map_take_length (f := lin a b c d x y) (l := l) (i := i) (by omega)
   have e1 := is_peg_eq (lin a b c d x y (pt l i))
   have q0 : (lin a b c d x y (pt l i)).f0 = a * (pt l i).f0 + b * (pt l i).f1 + x := rfl
   have q1 : (lin a b c d x y (pt l i)).f1 = c * (pt l i).f0 + d * (pt l i).f1 + y := rfl
   rw [q0, q1] at e1
   simp (disch := omega) only [spec_pgMap.l0, if_pos, rd_pt, lin_w ha hb hx (hp i hil), lin_w hc hd hy (hp i hil), e1, Option.bind_some, hlen, w64]
   by_cases h : Sm 40 (lin a b c d x y (pt l i))
   ·simp (disch := omega) only [h, decide_true, if_true, if_pos]
    have := ih (i + 1) (by omega) (fun j hj' => by
     by_cases e2 : j = i
     ·subst e2
      exact h
     ·exact hj j (by omega))
    rw [map_take hil] at this
    exact this
   ·simp only [h, decide_false, Bool.false_eq_true, if_false]
    refine Ev.some ?_
    unfold chg
    rw [allPegs_false hil h, if_neg (by simp)]
 have := go l.length 0 (by omega) (fun j h => by omega)
 simpa using this

end Go.Proofs.Ytklhakfmegbobaa.B
