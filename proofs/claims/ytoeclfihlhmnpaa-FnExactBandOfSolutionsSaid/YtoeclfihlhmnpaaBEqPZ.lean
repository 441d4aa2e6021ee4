-- thin
/- Lists of pegs compared; marks put into a list of pegs, and found again. -/
import Derived.Test.YtoeclfihlhmnpaaX0
import Derived.Test.YtoeclfihlhmnpaaX20
import Derived.Test.YtoeclfihlhmnpaaX21
import Derived.Test.YtoeclfihlhmnpaaX23
import Derived.Test.YtoeclfihlhmnpaaBBase
namespace Go.Proofs.Ytoeclfihlhmnpaa.B
open Go.RowKit Go.Proofs.Ytoeclfihlhmnpaa.XW Go.Proofs.Ytoeclfihlhmnpaa.X Go.Proofs.YtoeclfihlhmnpaaW.PrintWords Go.Proofs.YtoeclfihlhmnpaaW.PrintLast Go.Proofs.Ytoeclfihlhmnpaa.B
set_option linter.unusedVariables false
set_option linter.unusedSimpArgs false
set_option maxRecDepth 20000

theorem ev_eqPegS_l (l : List S_impl_Peg) (hn : l.length ≤ 1099511627776) : ∀ (d i : Nat), i + d = l.length → Ev (fun k => laws_eqPegS.l0 k l l i) true := by
 intro d
 induction d with
 | zero =>
  intro i hi
  refine Ev.succ ?_
  simp (disch := omega) only [laws_eqPegS.l0, if_neg]
  exact Ev.now _
 | succ d ih =>
  intro i hi
  refine Ev.succ ?_
  simp (disch := omega) only [laws_eqPegS.l0, if_pos, laws_eqPeg.f, Option.bind_some, w64]
  exact ih (i + 1) (by omega)
theorem ev_eqPegS (l : List S_impl_Peg) (hn : l.length ≤ 1099511627776) : Ev (fun k => laws_eqPegS.f k l l) true := by
 unfold laws_eqPegS.f
 simp only [if_true]
 exact ev_eqPegS_l l hn l.length 0 (by omega)
def mkP (n : Nat) (a : Int) : List S_impl_Peg := (List.range n).map fun (i : Nat) => (⟨a + 2 * (i : Int), a + 2 * (i : Int) + 1⟩ : S_impl_Peg)
theorem mkP_length (n : Nat) (a : Int) : (mkP n a).length = n := by simp [mkP]
theorem mkP_get {n i : Nat} (a : Int) (h : i < n) : (mkP n a)[i]? = some ⟨a + 2 * (i : Int), a + 2 * (i : Int) + 1⟩ := by
 simp [mkP, h]
theorem mkP_pt {n i : Nat} (a : Int) (h : i < n) : pt (mkP n a) i = ⟨a + 2 * (i : Int), a + 2 * (i : Int) + 1⟩ := by
 unfold pt
 rw [List.getD_eq_getElem?_getD, mkP_get a h]
 rfl
theorem ev_markPegS (l : List S_impl_Peg) (a : Int) (hl : l.length ≤ 1099511627776) (ha : 0 ≤ a ∧ a ≤ 1099511627776) : Ev (fun k => laws_markPegS.f k l a) (a + 2 * (l.length : Int), mkP l.length a) := by
 unfold laws_markPegS.f
 have go : ∀ (d i : Nat) (x : List S_impl_Peg), i + d = l.length → x.length = l.length → (∀ j, j < i → x[j]? = (mkP l.length a)[j]?) → Ev (fun k => laws_markPegS.l0 k x (a + 2 * (i : Int)) i) (a + 2 * (l.length : Int), mkP l.length a) := by
  intro d
  induction d with
  | zero =>
   intro i x hi hx hj
   refine Ev.succ ?_
   simp (disch := omega) only [laws_markPegS.l0, if_neg]
   refine Ev.some ?_
   obtain rfl : i = l.length := by omega
   congr 1
   refine List.ext_getElem? fun j => ?_
   by_cases h : j < l.length
   ·exact hj j h
   ·rw [List.getElem?_eq_none (by omega), List.getElem?_eq_none (by rw [mkP_length]; omega)]
  | succ d ih =>
   intro i x hi hx hj
   refine Ev.succ ?_
   simp (disch := omega) only [laws_markPegS.l0, if_pos, Option.bind_some, w64, Int.toNat_natCast]
   have e : a + 2 * (i : Int) + 1 + 1 = a + 2 * ((i + 1 : Nat) : Int) := by omega
   rw [e]
   refine ih (i + 1) _ (by omega) (by simp [hx]) fun j hj' => ?_
   by_cases h : j = i
   ·subst h
    rw [List.getElem?_set_self (by simp; omega), mkP_get a (by omega)]
    congr 2
    have : rd_impl_Peg (x.set j ⟨a + 2 * (j : Int), (rd_impl_Peg x j).f1⟩) j = ⟨a + 2 * (j : Int), (rd_impl_Peg x j).f1⟩ := by
     show List.getD _ j _ = _
     rw [List.getD_eq_getElem?_getD, List.getElem?_set_self (by omega)]
     rfl
    rw [this]
   ·rw [List.getElem?_set_ne (by omega), List.getElem?_set_ne (by omega)]
    exact hj j (by omega)
 have := go l.length 0 l (by omega) rfl (fun j h => by omega)
 simpa using this
theorem ev_heldPegS (l : List S_impl_Peg) (a : Int) (hl : l.length ≤ 1099511627776) (ha : 0 ≤ a ∧ a ≤ 1099511627776) : Ev (fun k => laws_heldPegS.f k (mkP l.length a) a) (a + 2 * (l.length : Int)) := by
 unfold laws_heldPegS.f
 have hm := mkP_length l.length a
 have go : ∀ (d i : Nat), i + d = l.length → Ev (fun k => laws_heldPegS.l0 k (mkP l.length a) (a + 2 * (i : Int)) i) (a + 2 * (l.length : Int)) := by
  intro d
  induction d with
  | zero =>
   intro i hi
   refine Ev.succ ?_
   simp (disch := omega) only [laws_heldPegS.l0, if_neg]
   obtain rfl : i = l.length := by omega
   exact Ev.now _
  | succ d ih =>
   intro i hi
   refine Ev.succ ?_
   simp (disch := omega) only [laws_heldPegS.l0, if_pos, rd_pt, mkP_pt a (show i < l.length by omega), w64]
   have e : a + 2 * (i : Int) + 1 + 1 = a + 2 * ((i + 1 : Nat) : Int) := by omega
   rw [e]
   exact ih (i + 1) (by omega)
 have := go l.length 0 (by omega)
 simpa using this

end Go.Proofs.Ytoeclfihlhmnpaa.B
