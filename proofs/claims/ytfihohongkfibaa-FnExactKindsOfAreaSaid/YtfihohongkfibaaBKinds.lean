-- thin
/- The kinds of triangles with an area, in the reference and in the program. -/
import Derived.Test.YtfihohongkfibaaX0
import Derived.Test.YtfihohongkfibaaX21
import Derived.Test.YtfihohongkfibaaX22
import Derived.Test.YtfihohongkfibaaX23
import Derived.Test.YtfihohongkfibaaBBase
import Derived.Test.YtfihohongkfibaaBCore
import Derived.Test.YtfihohongkfibaaBPoly
import Derived.Test.YtfihohongkfibaaBAsk
import Derived.Test.YtfihohongkfibaaBTold
import Derived.Test.YtfihohongkfibaaBOrder
import Derived.Test.YtfihohongkfibaaBGcd
import Derived.Test.YtfihohongkfibaaBFrame
import Derived.Test.YtfihohongkfibaaBKind
namespace Go.Proofs.Ytfihohongkfibaa.B
open Go.RowKit Go.Proofs.Ytfihohongkfibaa.XW Go.Proofs.Ytfihohongkfibaa.X Go.Proofs.YtfihohongkfibaaW.PrintWords Go.Proofs.YtfihohongkfibaaW.PrintLast Go.Proofs.Ytfihohongkfibaa.B
set_option linter.unusedVariables false
set_option linter.unusedSimpArgs false
set_option maxRecDepth 20000

theorem rd_n (l : List Int) (i : Nat) : rd l (i : Int) = l.getD i 0 := by
 unfold rd
 rw [Int.toNat_natCast]
theorem dropI {l : List Int} {i : Nat} (h : i < l.length) : l.drop i = l.getD i 0 :: l.drop (i + 1) := by
 rw [List.drop_eq_getElem_cons h, List.getD_eq_getElem?_getD, List.getElem?_eq_getElem h]
 rfl
theorem ev_same (a b : List Int) (hn : a.length ≤ 100000) (hb : b.length ≤ 100000) : Ev (fun k => spec_l1Same.f k a b) (decide (a = b)) := by
 unfold spec_l1Same.f
 by_cases e : a.length = b.length
 ·simp (disch := omega) only [if_pos]
  have go : ∀ (d i : Nat), i + d = a.length → Ev (fun k => spec_l1Same.l0 k a b a.length i) (decide (a.drop i = b.drop i)) := by
   intro d
   induction d with
   | zero =>
    intro i hi
    refine Ev.succ ?_
    obtain rfl : i = a.length := by omega
    simp (disch := omega) only [spec_l1Same.l0, if_neg]
    refine Ev.some ?_
    rw [List.drop_of_length_le (Nat.le_refl _), List.drop_of_length_le (by omega)]
    rfl
   | succ d ih =>
    intro i hi
    refine Ev.succ ?_
    have nxt := ih (i + 1) (by omega)
    rw [dropI (l := a) (i := i) (by omega), dropI (l := b) (i := i) (by omega)]
    simp (disch := omega) only [spec_l1Same.l0, if_pos, rd_n, w64]
    by_cases c : a.getD i 0 = b.getD i 0
    ·simp only [if_pos c]
     simp only [List.cons.injEq, c, true_and]
     exact nxt
    ·simp only [if_neg c]
     refine Ev.some ?_
     symm
     rw [decide_eq_false_iff_not]
     intro f
     exact c (List.cons.inj f).1
  exact go a.length 0 (by omega)
 ·simp (disch := omega) only [if_neg]
  refine Ev.some ?_
  symm
  rw [decide_eq_false_iff_not]
  intro c
  exact e (by rw [c])
theorem ev_equalI (a b : List Int) (hn : a.length ≤ 100000) (hb : b.length ≤ 100000) : Ev (fun k => slices_Equal_int.f k a b) (decide (a = b)) := by
 unfold slices_Equal_int.f
 by_cases e : a.length = b.length
 ·simp (disch := omega) only [if_pos]
  have go : ∀ (d i : Nat), i + d = a.length → Ev (fun k => slices_Equal_int.l0 k a b a.length i) (decide (a.drop i = b.drop i)) := by
   intro d
   induction d with
   | zero =>
    intro i hi
    refine Ev.succ ?_
    obtain rfl : i = a.length := by omega
    simp (disch := omega) only [slices_Equal_int.l0, if_neg]
    refine Ev.some ?_
    rw [List.drop_of_length_le (Nat.le_refl _), List.drop_of_length_le (by omega)]
    rfl
   | succ d ih =>
    intro i hi
    refine Ev.succ ?_
    have nxt := ih (i + 1) (by omega)
    rw [dropI (l := a) (i := i) (by omega), dropI (l := b) (i := i) (by omega)]
    simp (disch := omega) only [slices_Equal_int.l0, if_pos, rd_n, w64]
    by_cases c : a.getD i 0 = b.getD i 0
    ·simp only [if_pos c]
     simp only [List.cons.injEq, c, true_and]
     exact nxt
    ·simp only [if_neg c]
     refine Ev.some ?_
     symm
     rw [decide_eq_false_iff_not]
     intro f
     exact c (List.cons.inj f).1
  exact go a.length 0 (by omega)
 ·simp (disch := omega) only [if_neg]
  refine Ev.some ?_
  symm
  rw [decide_eq_false_iff_not]
  intro c
  exact e (by rw [c])
/-- The triangle that a kind makes. -/
def tri (a b d : Int) : List S_impl_Peg := [⟨0, 0⟩, ⟨a, 0⟩, ⟨b, d⟩]
theorem tri_trn {a b d : Int} (ha : 1 ≤ a ∧ a ≤ 100) (hb : 0 ≤ b ∧ b ≤ 100) (hd : 1 ≤ d ∧ d ≤ 100) : Trn (tri a b d) := by
 have hp := Int.mul_pos (show 0 < a by omega) (show 0 < d by omega)
 refine ⟨by simp [tri], by simp [tri], ?_, ?_⟩
 ·intro i hi
  have : i < 3 := hi
  rcases (by omega : i = 0 ∨ i = 1 ∨ i = 2) with rfl | rfl | rfl
  ·show Sm 100 ⟨0, 0⟩
   unfold Sm
   simp
  ·show Sm 100 ⟨a, 0⟩
   unfold Sm
   simp only
   omega
  ·show Sm 100 ⟨b, d⟩
   unfold Sm
   simp only
   omega
 ·intro i hi
  have : i < 3 := hi
  have e : ∀ x : Int, x = a * d → x ≠ 0 := fun x h => by omega
  rcases (by omega : i = 0 ∨ i = 1 ∨ i = 2) with rfl | rfl | rfl
  ·show tn ⟨b, d⟩ ⟨0, 0⟩ ⟨a, 0⟩ ≠ 0
   refine e _ ?_
   unfold tn
   simp only
   grind
  ·show tn ⟨0, 0⟩ ⟨a, 0⟩ ⟨b, d⟩ ≠ 0
   refine e _ ?_
   unfold tn
   simp only
   grind
  ·show tn ⟨a, 0⟩ ⟨b, d⟩ ⟨0, 0⟩ ≠ 0
   refine e _ ?_
   unfold tn
   simp only
   grind
/-- The kind of a triangle. -/
def kl (l : List S_impl_Peg) : List Int := [(pt (kd l) 1).f0, (pt (kd l) 2).f0, (pt (kd l) 2).f1]
theorem ev_spec_list {l : List S_impl_Peg} (h : Trn l) : Ev (fun k => spec_mvList.f k l) (kl l) := by
 unfold spec_mvList.f
 have h3 := h.lo
 refine Ev.bind h.ev_spec_kind ?_
 have := kd_length (l := l) (by omega)
 simp (disch := omega) only [if_pos, rd1, rd2]
 exact Ev.now _
theorem ev_impl_kindOf {l : List S_impl_Peg} (h : Trn l) : Ev (fun k => impl_kindOf.f k l) (kl l) := by
 unfold impl_kindOf.f
 have h3 := h.lo
 refine Ev.bind h.ev_impl_kind ?_
 have := kd_length (l := l) (by omega)
 simp (disch := omega) only [if_pos, rd1, rd2]
 exact Ev.now _
/-- The kinds with a first number and a height, with less than n in the middle. -/
def inN (a d : Int) : Nat → List (List Int)
 | 0 => []
 | b + 1 => if kl (tri a (b : Int) d) = [a, (b : Int), d] then inN a d b ++ [[a, (b : Int), d]] else inN a d b
theorem inN_len (a d : Int) : ∀ n, (inN a d n).length ≤ n := by
 intro n
 induction n with
 | zero => exact Nat.le_refl _
 | succ n ih =>
  unfold inN
  split
  ·rw [List.length_append]
   show _ + 1 ≤ _
   omega
  ·omega
def outN (w : Int) : Nat → List (List Int)
 | 0 => []
 | i + 1 => if Int.tmod w ((i + 1 : Nat) : Int) = 0 then outN w i ++ inN ((i + 1 : Nat) : Int) (Int.tdiv w ((i + 1 : Nat) : Int)) (Int.tdiv w ((i + 1 : Nat) : Int)).toNat else outN w i
theorem outN_succ (w : Int) (i : Nat) : outN w (i + 1) = if Int.tmod w ((i + 1 : Nat) : Int) = 0 then outN w i ++ inN ((i + 1 : Nat) : Int) (Int.tdiv w ((i + 1 : Nat) : Int)) (Int.tdiv w ((i + 1 : Nat) : Int)).toNat else outN w i := rfl
theorem td_bd {w a : Int} (hw : 1 ≤ w ∧ w ≤ 60) (ha : 1 ≤ a ∧ a ≤ w) : 1 ≤ Int.tdiv w a ∧ Int.tdiv w a ≤ 60 := by
 have h1 := tdv_bd (x := w) (B := 60) (by omega) a
 refine ⟨?_, h1.2⟩
 have e : Int.tdiv w a = w / a := Int.tdiv_eq_ediv_of_nonneg (by omega)
 rw [e]
 exact (Int.le_ediv_iff_mul_le (by omega)).2 (by omega)
theorem outN_len {w : Int} (hw : 1 ≤ w ∧ w ≤ 60) : ∀ i : Nat, (i : Int) ≤ w → (outN w i).length ≤ 60 * i := by
 intro i
 induction i with
 | zero => exact fun _ => Nat.le_refl _
 | succ i ih =>
  intro hi
  have := ih (by omega)
  have b := td_bd hw (a := ((i + 1 : Nat) : Int)) (by omega)
  have c := inN_len ((i + 1 : Nat) : Int) (Int.tdiv w ((i + 1 : Nat) : Int)) (Int.tdiv w ((i + 1 : Nat) : Int)).toNat
  unfold outN
  split
  ·rw [List.length_append]
   omega
  ·omega
theorem app_in {X : List (List Int)} {a d : Int} (b : Nat) : X ++ inN a d (b + 1) = if kl (tri a (b : Int) d) = [a, (b : Int), d] then X ++ inN a d b ++ [[a, (b : Int), d]] else X ++ inN a d b := by
 conv => lhs; unfold inN
 split
 ·rw [List.append_assoc]
 ·rfl
section
variable {w : Int} (hw : 1 ≤ w ∧ w ≤ 60)
include hw
theorem ev_spec_kinds_in {a : Int} {X r : List (List Int)} (ha : 1 ≤ a ∧ a ≤ w) (hX : X.length ≤ 100000)
  (hr : Ev (fun k => spec_mvKinds.l0 k w (X ++ inN a (Int.tdiv w a) (Int.tdiv w a).toNat) (a + 1)) r) : Ev (fun k => spec_mvKinds.l1 k w X a (Int.tdiv w a) 0) r := by
 have b := td_bd hw ha
 have go : ∀ (e i : Nat), i + e = (Int.tdiv w a).toNat → Ev (fun k => spec_mvKinds.l1 k w (X ++ inN a (Int.tdiv w a) i) a (Int.tdiv w a) i) r := by
  intro e
  induction e with
  | zero =>
   intro i hi
   refine Ev.succ ?_
   obtain rfl : i = (Int.tdiv w a).toNat := by omega
   simp (disch := omega) only [spec_mvKinds.l1, if_neg, w64]
   exact hr
  | succ e ih =>
   intro i hi
   refine Ev.succ ?_
   have nxt := ih (i + 1) (by omega)
   rw [app_in] at nxt
   have hl := inN_len a (Int.tdiv w a) i
   have hlen : (X ++ inN a (Int.tdiv w a) i).length < 5864062014805 := by
    rw [List.length_append]
    omega
   simp (disch := omega) only [spec_mvKinds.l1, if_pos, spec_mvMade.f, Option.bind_some, w64]
   refine Ev.bind (ev_spec_list (tri_trn (a := a) (b := (i : Int)) (d := Int.tdiv w a) (by omega) (by omega) (by omega))) ?_
   refine Ev.asked (ev_same (kl (tri a (i : Int) (Int.tdiv w a))) [a, (i : Int), Int.tdiv w a] (by simp [kl]) (by simp)) (fun c => ?_) (fun c => ?_)
   ·rw [if_pos (of_decide_eq_true c)] at nxt
    simp only [if_true, if_pos hlen]
    exact nxt
   ·rw [if_neg (of_decide_eq_false c)] at nxt
    simp only [Bool.false_eq_true, if_false]
    exact nxt
 have := go (Int.tdiv w a).toNat 0 (by omega)
 simpa [inN] using this
theorem ev_spec_kinds : Ev (fun k => spec_mvKinds.f k w) (outN w w.toNat) := by
 unfold spec_mvKinds.f
 have go : ∀ (e i : Nat), i + e = w.toNat → Ev (fun k => spec_mvKinds.l0 k w (outN w i) ((i : Int) + 1)) (outN w w.toNat) := by
  intro e
  induction e with
  | zero =>
   intro i hi
   refine Ev.succ ?_
   obtain rfl : i = w.toNat := by omega
   simp (disch := omega) only [spec_mvKinds.l0, if_neg]
   exact Ev.now _
  | succ e ih =>
   intro i hi
   refine Ev.succ ?_
   have nxt := ih (i + 1) (by omega)
   have hl := outN_len hw i (by omega)
   have ea : ((i + 1 : Nat) : Int) = (i : Int) + 1 := by omega
   have b := td_bd hw (a := (i : Int) + 1) (by omega)
   rw [outN_succ, ea] at nxt
   simp (disch := omega) only [spec_mvKinds.l0, if_pos, if_neg]
   by_cases c : Int.tmod w ((i : Int) + 1) = 0
   ·rw [if_pos c] at nxt
    simp (disch := omega) only [if_pos c, w64]
    exact ev_spec_kinds_in hw (by omega) (by omega) nxt
   ·rw [if_neg c] at nxt
    simp (disch := omega) only [if_neg c, w64]
    exact nxt
 exact go w.toNat 0 (by omega)
theorem ev_impl_kinds_in {a : Int} {X : List (List Int)} {r : List (List Int) × Bool} (ha : 1 ≤ a ∧ a ≤ w) (hX : X.length ≤ 100000) (hm : Int.tmod w a = 0)
  (hr : Ev (fun k => impl_KindsOfArea.l0 k w (X ++ inN a (Int.tdiv w a) (Int.tdiv w a).toNat) (a + 1)) r) : Ev (fun k => impl_KindsOfArea.l1 k w X a 0) r := by
 have b := td_bd hw ha
 have go : ∀ (e i : Nat), i + e = (Int.tdiv w a).toNat → Ev (fun k => impl_KindsOfArea.l1 k w (X ++ inN a (Int.tdiv w a) i) a i) r := by
  intro e
  induction e with
  | zero =>
   intro i hi
   refine Ev.succ ?_
   obtain rfl : i = (Int.tdiv w a).toNat := by omega
   have dd : decide (((Int.tdiv w a).toNat : Int) < Int.tdiv w a) = false := by
    rw [decide_eq_false_iff_not]
    omega
   simp (disch := omega) only [impl_KindsOfArea.l1, if_neg, if_pos hm, w64, dd]
   refine Ev.succ ?_
   simp (disch := omega) only [impl_KindsOfArea.j2, Bool.false_eq_true, if_false, w64]
   exact hr
  | succ e ih =>
   intro i hi
   refine Ev.succ ?_
   have nxt := ih (i + 1) (by omega)
   rw [app_in] at nxt
   have hl := inN_len a (Int.tdiv w a) i
   have hlen : (X ++ inN a (Int.tdiv w a) i).length < 5864062014805 := by
    rw [List.length_append]
    omega
   have dd : decide ((i : Int) < Int.tdiv w a) = true := by
    rw [decide_eq_true_eq]
    omega
   simp (disch := omega) only [impl_KindsOfArea.l1, if_neg, if_pos hm, w64, dd]
   refine Ev.succ ?_
   simp (disch := omega) only [impl_KindsOfArea.j2, if_true, if_neg, impl_triangle.f, Option.bind_some, w64]
   refine Ev.bind (ev_impl_kindOf (tri_trn (a := a) (b := (i : Int)) (d := Int.tdiv w a) (by omega) (by omega) (by omega))) ?_
   refine Ev.asked (ev_equalI (kl (tri a (i : Int) (Int.tdiv w a))) [a, (i : Int), Int.tdiv w a] (by simp [kl]) (by simp)) (fun c => ?_) (fun c => ?_)
   ·rw [if_pos (of_decide_eq_true c)] at nxt
    simp only [if_true, if_pos hlen]
    exact nxt
   ·rw [if_neg (of_decide_eq_false c)] at nxt
    simp only [Bool.false_eq_true, if_false]
    exact nxt
 have := go (Int.tdiv w a).toNat 0 (by omega)
 simpa [inN] using this
theorem ev_impl_kinds : Ev (fun k => impl_KindsOfArea.l0 k w [] 1) (outN w w.toNat, true) := by
 have go : ∀ (e i : Nat), i + e = w.toNat → Ev (fun k => impl_KindsOfArea.l0 k w (outN w i) ((i : Int) + 1)) (outN w w.toNat, true) := by
  intro e
  induction e with
  | zero =>
   intro i hi
   refine Ev.succ ?_
   obtain rfl : i = w.toNat := by omega
   simp (disch := omega) only [impl_KindsOfArea.l0, if_neg]
   exact Ev.now _
  | succ e ih =>
   intro i hi
   refine Ev.succ ?_
   have nxt := ih (i + 1) (by omega)
   have hl := outN_len hw i (by omega)
   have ea : ((i + 1 : Nat) : Int) = (i : Int) + 1 := by omega
   have b := td_bd hw (a := (i : Int) + 1) (by omega)
   rw [outN_succ, ea] at nxt
   simp (disch := omega) only [impl_KindsOfArea.l0, if_pos]
   by_cases c : Int.tmod w ((i : Int) + 1) = 0
   ·rw [if_pos c] at nxt
    exact ev_impl_kinds_in hw (by omega) (by omega) c nxt
   ·rw [if_neg c] at nxt
    refine Ev.succ ?_
    simp (disch := omega) only [impl_KindsOfArea.l1, if_neg, if_neg c]
    refine Ev.succ ?_
    simp (disch := omega) only [impl_KindsOfArea.j2, Bool.false_eq_true, if_false, w64]
    exact nxt
 exact go w.toNat 0 (by omega)
end

end Go.Proofs.Ytfihohongkfibaa.B
