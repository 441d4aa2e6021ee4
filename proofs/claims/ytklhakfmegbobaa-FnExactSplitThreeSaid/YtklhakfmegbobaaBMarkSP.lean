-- thin
/- Marks put into a list of lists of pegs, and found again; such lists compared. -/
import Derived.Test.YtklhakfmegbobaaX0
import Derived.Test.YtklhakfmegbobaaX16
import Derived.Test.YtklhakfmegbobaaX17
import Derived.Test.YtklhakfmegbobaaBBase
import Derived.Test.YtklhakfmegbobaaBCore
import Derived.Test.YtklhakfmegbobaaBMarkP
namespace Go.Proofs.Ytklhakfmegbobaa.B
open Go.RowKit Go.Proofs.Ytklhakfmegbobaa.XW Go.Proofs.Ytklhakfmegbobaa.X Go.Proofs.YtklhakfmegbobaaW.PrintWords Go.Proofs.YtklhakfmegbobaaW.PrintLast Go.Proofs.Ytklhakfmegbobaa.B
set_option linter.unusedVariables false
set_option linter.unusedSimpArgs false
set_option maxRecDepth 20000

def rw_ (l : List (List S_impl_Peg)) (i : Nat) : List S_impl_Peg := l.getD i []
theorem rd_l1 (l : List (List S_impl_Peg)) (i : Nat) : rd_L3 l (i : Int) = rw_ l i := by
 unfold rd_L3 rw_
 rw [Int.toNat_natCast]
/-- Rows that are short, and not too many. -/
structure Short (l : List (List S_impl_Peg)) : Prop where
 len : l.length ≤ 1000000
 rows : ∀ i, (rw_ l i).length ≤ 1000
theorem Short.of {l : List (List S_impl_Peg)} (h : l.length ≤ 1000000) (hr : ∀ r, r ∈ l → r.length ≤ 1000) : Short l := by
 refine ⟨h, fun i => ?_⟩
 unfold rw_
 rw [List.getD_eq_getElem?_getD]
 by_cases c : i < l.length
 ·rw [List.getElem?_eq_getElem c]
  exact hr _ (List.getElem_mem c)
 ·rw [List.getElem?_eq_none (by omega)]
  exact Nat.zero_le _
def cum (l : List (List S_impl_Peg)) : Nat → Int
 | 0 => 0
 | i + 1 => cum l i + 2 * ((rw_ l i).length : Int)
theorem cum_bd {l : List (List S_impl_Peg)} (h : Short l) : ∀ i : Nat, 0 ≤ cum l i ∧ cum l i ≤ 2000 * (i : Int) := by
 intro i
 induction i with
 | zero => exact ⟨Int.le_refl _, Int.le_refl _⟩
 | succ i ih =>
  have := h.rows i
  show 0 ≤ cum l i + 2 * ((rw_ l i).length : Int) ∧ cum l i + 2 * ((rw_ l i).length : Int) ≤ _
  omega
def mkR (l : List (List S_impl_Peg)) (a : Int) : List (List S_impl_Peg) := (List.range l.length).map fun (i : Nat) => mkP (rw_ l i).length (a + cum l i)
theorem mkR_length (l : List (List S_impl_Peg)) (a : Int) : (mkR l a).length = l.length := by simp [mkR]
theorem mkR_row {l : List (List S_impl_Peg)} {i : Nat} (a : Int) (h : i < l.length) : rw_ (mkR l a) i = mkP (rw_ l i).length (a + cum l i) := by
 conv => lhs; unfold rw_ mkR
 rw [List.getD_eq_getElem?_getD]
 simp [h]
theorem row_get (l : List (List S_impl_Peg)) {i : Nat} (h : i < l.length) : l[i]? = some (rw_ l i) := by
 unfold rw_
 rw [List.getD_eq_getElem?_getD, List.getElem?_eq_getElem h]
 rfl
theorem ev_eqPegSS {l : List (List S_impl_Peg)} (h : Short l) : Ev (fun k => laws_eqPegSS.f k l l) true := by
 unfold laws_eqPegSS.f
 have hl := h.len
 simp only [if_true]
 have go : ∀ (d i : Nat), i + d = l.length → Ev (fun k => laws_eqPegSS.l0 k l l i) true := by
  intro d
  induction d with
  | zero =>
   intro i hi
   refine Ev.succ ?_
   simp (disch := omega) only [laws_eqPegSS.l0, if_neg]
   exact Ev.now _
  | succ d ih =>
   intro i hi
   refine Ev.succ ?_
   have := h.rows i
   simp (disch := omega) only [laws_eqPegSS.l0, if_pos, rd_l1, w64]
   refine Ev.bind (ev_eqPegS _ (by omega)) ?_
   simp only [if_true]
   exact ih (i + 1) (by omega)
 exact go l.length 0 (by omega)
theorem ev_markPegSS {l : List (List S_impl_Peg)} (h : Short l) : Ev (fun k => laws_markPegSS.f k l 1) (1 + cum l l.length, mkR l 1) := by
 unfold laws_markPegSS.f
 have hl := h.len
 have go : ∀ (d i : Nat) (x : List (List S_impl_Peg)), i + d = l.length → x.length = l.length → (∀ j, j < i → rw_ x j = mkP (rw_ l j).length (1 + cum l j)) → (∀ j, i ≤ j → rw_ x j = rw_ l j) → Ev (fun k => laws_markPegSS.l0 k x (1 + cum l i) i) (1 + cum l l.length, mkR l 1) := by
  intro d
  induction d with
  | zero =>
   intro i x hi hx hj _
   refine Ev.succ ?_
   simp (disch := omega) only [laws_markPegSS.l0, if_neg]
   refine Ev.some ?_
   obtain rfl : i = l.length := by omega
   congr 1
   refine List.ext_getElem? fun j => ?_
   by_cases c : j < l.length
   ·rw [row_get x (by omega), row_get (mkR l 1) (by rw [mkR_length]; omega), hj j c, mkR_row 1 c]
   ·rw [List.getElem?_eq_none (by omega), List.getElem?_eq_none (by rw [mkR_length]; omega)]
  | succ d ih =>
   intro i x hi hx hj hk
   refine Ev.succ ?_
   have c := cum_bd h i
   have r := h.rows i
   simp (disch := omega) only [laws_markPegSS.l0, if_pos, w64, Int.toNat_natCast]
   have e0 : x.getD i [] = rw_ l i := hk i (Nat.le_refl _)
   rw [e0]
   refine Ev.bind (ev_markPegS (rw_ l i) (1 + cum l i) (by omega) (by omega)) ?_
   have e : 1 + cum l i + 2 * ((rw_ l i).length : Int) = 1 + cum l (i + 1) := by
    show _ = 1 + (cum l i + 2 * ((rw_ l i).length : Int))
    omega
   rw [e]
   refine ih (i + 1) _ (by omega) (by simp [hx]) (fun j hj' => ?_) (fun j hj' => ?_)
   ·unfold rw_
    by_cases ej : j = i
    ·subst ej
     rw [List.getD_eq_getElem?_getD, List.getElem?_set_self (by omega)]
     rfl
    ·rw [List.getD_eq_getElem?_getD, List.getElem?_set_ne (by omega), ← List.getD_eq_getElem?_getD]
     exact hj j (by omega)
   ·unfold rw_
    rw [List.getD_eq_getElem?_getD, List.getElem?_set_ne (by omega), ← List.getD_eq_getElem?_getD]
    exact hk j (by omega)
 have := go l.length 0 l (by omega) rfl (fun j hj => absurd hj (Nat.not_lt_zero _)) (fun j _ => rfl)
 exact this
theorem ev_heldPegSS {l : List (List S_impl_Peg)} (h : Short l) : Ev (fun k => laws_heldPegSS.f k (mkR l 1) 1) (1 + cum l l.length) := by
 unfold laws_heldPegSS.f
 have hl := h.len
 have hm := mkR_length l 1
 have go : ∀ (d i : Nat), i + d = l.length → Ev (fun k => laws_heldPegSS.l0 k (mkR l 1) (1 + cum l i) i) (1 + cum l l.length) := by
  intro d
  induction d with
  | zero =>
   intro i hi
   refine Ev.succ ?_
   simp (disch := omega) only [laws_heldPegSS.l0, if_neg]
   obtain rfl : i = l.length := by omega
   exact Ev.now _
  | succ d ih =>
   intro i hi
   refine Ev.succ ?_
   have c := cum_bd h i
   have r := h.rows i
   simp (disch := omega) only [laws_heldPegSS.l0, if_pos, rd_l1, mkR_row 1 (show i < l.length by omega), w64]
   refine Ev.bind (ev_heldPegS (rw_ l i) (1 + cum l i) (by omega) (by omega)) ?_
   have e : 1 + cum l i + 2 * ((rw_ l i).length : Int) = 1 + cum l (i + 1) := by
    show _ = 1 + (cum l i + 2 * ((rw_ l i).length : Int))
    omega
   rw [e]
   have c1 := cum_bd h (i + 1)
   simp (disch := omega) only [if_neg]
   exact ih (i + 1) (by omega)
 exact go l.length 0 (by omega)

end Go.Proofs.Ytklhakfmegbobaa.B
