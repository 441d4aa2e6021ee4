-- thin
/- The law FnExactBandOfSolutions holds: for all arguments the program's BandOfSolutions answers as the reference's, and the arguments are left as they were. No condition. -/
import Derived.Test.YtoeclfihlhmnpaaX0
import Derived.Test.YtoeclfihlhmnpaaX5
import Derived.Test.YtoeclfihlhmnpaaX6
import Derived.Test.YtoeclfihlhmnpaaX7
import Derived.Test.YtoeclfihlhmnpaaX9
import Derived.Test.YtoeclfihlhmnpaaX11
import Derived.Test.YtoeclfihlhmnpaaX13
import Derived.Test.YtoeclfihlhmnpaaX14
import Derived.Test.YtoeclfihlhmnpaaX15
import Derived.Test.YtoeclfihlhmnpaaX16
import Derived.Test.YtoeclfihlhmnpaaX17
import Derived.Test.YtoeclfihlhmnpaaX18
import Derived.Test.YtoeclfihlhmnpaaX19
import Derived.Test.YtoeclfihlhmnpaaX20
import Derived.Test.YtoeclfihlhmnpaaX24
import Derived.Test.YtoeclfihlhmnpaaBBase
import Derived.Test.YtoeclfihlhmnpaaBClueNum
import Derived.Test.YtoeclfihlhmnpaaBClues
import Derived.Test.YtoeclfihlhmnpaaBSols
import Derived.Test.YtoeclfihlhmnpaaBCmp
import Derived.Test.YtoeclfihlhmnpaaBLawZ
import Derived.Test.YtoeclfihlhmnpaaBEqPZ
namespace Go.Proofs.Ytoeclfihlhmnpaa.Pure
open Go.RowKit Go.Proofs.Ytoeclfihlhmnpaa.XW Go.Proofs.Ytoeclfihlhmnpaa.X Go.Proofs.YtoeclfihlhmnpaaW.PrintWords Go.Proofs.YtoeclfihlhmnpaaW.PrintLast Go.Proofs.Ytoeclfihlhmnpaa.B
set_option linter.unusedVariables false
set_option linter.unusedSimpArgs false
set_option maxRecDepth 20000

/-! ### Lists in order -/
def Srt (l : List S_impl_Peg) : Prop := l.Pairwise fun p q => lss p q = true
theorem rw1_srt (x : Nat) : ∀ (e y : Nat), Srt (rw1 x e y) := by
 intro e
 induction e with
 | zero => intro y; exact List.Pairwise.nil
 | succ e ih =>
  intro y
  refine List.Pairwise.cons (fun p hp => ?_) (ih (y + 1))
  obtain ⟨h1, h2, h3⟩ := rw1_mem e (y + 1) p hp
  rw [lss_iff]
  show (x : Int) < p.f0 ∨ ((x : Int) = p.f0 ∧ (y : Int) < p.f1)
  omega
theorem bd_srt (n : Nat) : ∀ (d x : Nat), Srt (bd n d x) := by
 intro d
 induction d with
 | zero => intro x; exact List.Pairwise.nil
 | succ d ih =>
  intro x
  show Srt (rw1 x n 0 ++ bd n d (x + 1))
  refine List.pairwise_append.2 ⟨rw1_srt x n 0, ih (x + 1), fun p hp q hq => ?_⟩
  obtain ⟨h1, _, _⟩ := rw1_mem n 0 p hp
  obtain ⟨h2, _⟩ := bd_mem d (x + 1) q hq
  rw [lss_iff]
  omega
theorem sol_srt (s : Int) (cs : List S_impl_Clue) : Srt (sol s cs) := List.Pairwise.filter _ (bd_srt _ _ _)
theorem sol_sm {s : Int} (hs : 1 ≤ s ∧ s ≤ 12) (cs : List S_impl_Clue) : ∀ p, p ∈ sol s cs → Sm 1000 p := by
 intro p hp
 have := bd_mem _ _ p (List.mem_filter.1 hp).1
 unfold Sm
 omega
theorem Srt.lt {l : List S_impl_Peg} (h : Srt l) {i j : Nat} (hij : i < j) (hj : j < l.length) : lss (pt l i) (pt l j) = true := by
 have := List.pairwise_iff_getElem.1 h i j (by omega) hj hij
 unfold pt
 rw [List.getD_eq_getElem?_getD, List.getD_eq_getElem?_getD, List.getElem?_eq_getElem hj, List.getElem?_eq_getElem (by omega)]
 exact this
theorem Srt.cmp {l : List S_impl_Peg} (h : Srt l) {i j : Nat} (hij : i < j) (hj : j < l.length) : ¬ cmpP (pt l j) (pt l i) < 0 := by
 intro c
 have h1 := h.lt hij hj
 have h2 := (cmpP_lss _ _).1 c
 rw [lss_iff] at h1 h2
 omega
theorem take_pt {l : List S_impl_Peg} {i j : Nat} (h : j < i) (hi : i ≤ l.length) : pt (l.take i) j = pt l j := by
 unfold pt
 rw [List.getD_eq_getElem?_getD, List.getD_eq_getElem?_getD, List.getElem?_take_of_lt h]
theorem take_snoc {l : List S_impl_Peg} {i : Nat} (h : i < l.length) : l.take i ++ [pt l i] = l.take (i + 1) := by
 rw [List.take_succ_eq_append_getElem h]
 congr 2
 unfold pt
 rw [List.getD_eq_getElem?_getD, List.getElem?_eq_getElem h]
 rfl
section
variable {l : List S_impl_Peg} (hs : Srt l) (hn : l.length ≤ 1000)
include hs hn
theorem ev_sorted_l1 {i : Nat} (hi : i < l.length) (cont : Ev (fun k => spec_bdSorted.l0 k (l.take (i + 1)) l (l.length : Int) ((i : Int) + 1)) l) :
  ∀ (d j : Nat), j + d = i → Ev (fun k => spec_bdSorted.l1 k (l.take i) (j : Int) l (l.length : Int) (i : Int) (pt l i).f0 (pt l i).f1) l := by
 have hl : (l.take i).length = i := by simp; omega
 intro d
 induction d with
 | zero =>
  intro j hj
  obtain rfl : j = i := by omega
  refine Ev.succ ?_
  have e0 : (l.take j).take j = l.take j := List.take_of_length_le (by omega)
  have e1 : (l.take j).drop j = [] := List.drop_of_length_le (by omega)
  have q1 : (⟨(pt l j).f0, (pt l j).f1⟩ : S_impl_Peg) = pt l j := rfl
  have l1 : (l.take j ++ [pt l j]).length = j + 1 := by rw [List.length_append, hl]; rfl
  simp (disch := omega) only [spec_bdSorted.l1, hl, if_neg, if_pos, Option.bind_some, Int.toNat_natCast, e0, e1, List.nil_append, List.length_nil, List.length_singleton, q1, List.append_nil, l1, w64]
  rw [take_snoc hi]
  exact cont
 | succ d ih =>
  intro j hj
  refine Ev.succ ?_
  have hlt := hs.lt (show j < i by omega) hi
  simp (disch := omega) only [spec_bdSorted.l1, hl, if_pos, rd_pt, take_pt (show j < i by omega) (Nat.le_of_lt hi), less_eq, hlt, Option.bind_some, w64]
  exact ih (j + 1) (by omega)
theorem ev_sorted_l0 : ∀ (d i : Nat), i + d = l.length → Ev (fun k => spec_bdSorted.l0 k (l.take i) l (l.length : Int) (i : Int)) l := by
 intro d
 induction d with
 | zero =>
  intro i hi
  refine Ev.succ ?_
  obtain rfl : i = l.length := by omega
  simp (disch := omega) only [spec_bdSorted.l0, if_neg]
  exact Ev.some (List.take_of_length_le (Nat.le_refl _))
 | succ d ih =>
  intro i hi
  refine Ev.succ ?_
  have hil : i < l.length := by omega
  simp (disch := omega) only [spec_bdSorted.l0, if_pos, rd_pt]
  exact ev_sorted_l1 hs hn hil (ih (i + 1) (by omega)) i 0 (by omega)
theorem ev_spec_sorted : Ev (fun k => spec_bdSorted.f k l) l := by
 unfold spec_bdSorted.f
 exact ev_sorted_l0 hs hn l.length 0 (by omega)
/-! The library's sort of a list that is in order. -/
theorem ev_insertion_l0 : ∀ (d i : Nat), 1 ≤ i → i + d = l.length → Ev (fun k => slices_insertionSortCmpFunc_impl_Peg_at_impl_comparePegs.l0 k l 0 (l.length : Int) (i : Int)) l := by
 intro d
 induction d with
 | zero =>
  intro i h1 hi
  refine Ev.succ ?_
  simp (disch := omega) only [slices_insertionSortCmpFunc_impl_Peg_at_impl_comparePegs.l0, if_neg]
  exact Ev.now _
 | succ d ih =>
  intro i h1 hi
  refine Ev.succ ?_
  have hil : i < l.length := by omega
  have hc := hs.cmp (show i - 1 < i by omega) hil
  have e1 : (i : Int) - 1 = ((i - 1 : Nat) : Int) := by omega
  simp (disch := omega) only [slices_insertionSortCmpFunc_impl_Peg_at_impl_comparePegs.l0, if_pos]
  refine Ev.succ ?_
  simp (disch := omega) only [slices_insertionSortCmpFunc_impl_Peg_at_impl_comparePegs.l1, if_pos, w64, e1, rd_pt]
  refine Ev.bind (ev_compare _ _) ?_
  simp only [if_neg hc]
  exact ih (i + 1) (by omega) (by omega)
theorem ev_insertion (h1 : 1 ≤ l.length) : Ev (fun k => slices_insertionSortCmpFunc_impl_Peg_at_impl_comparePegs.f k l 0 (l.length : Int)) l := by
 unfold slices_insertionSortCmpFunc_impl_Peg_at_impl_comparePegs.f
 have e : wrap64 (0 + 1) = ((1 : Nat) : Int) := w64 (by omega)
 simp only [e]
 exact ev_insertion_l0 hs hn (l.length - 1) 1 (by omega) (by omega)
omit hn in
theorem ev_order2 {i j : Nat} (c : Int) (hij : i < j) (hj : j < l.length) : Ev (fun k => slices_order2CmpFunc_impl_Peg_at_impl_comparePegs.f k l (i : Int) (j : Int) c) ((i : Int), (j : Int)) := by
 unfold slices_order2CmpFunc_impl_Peg_at_impl_comparePegs.f
 simp (disch := omega) only [if_pos, rd_pt]
 refine Ev.bind (ev_compare _ _) ?_
 simp only [if_neg (hs.cmp hij hj)]
 exact Ev.now _
omit hn in
theorem ev_median {i j m : Nat} (c : Int) (hij : i < j) (hjm : j < m) (hm : m < l.length) : Ev (fun k => slices_medianCmpFunc_impl_Peg_at_impl_comparePegs.f k l (i : Int) (j : Int) (m : Int) c) (j : Int) := by
 unfold slices_medianCmpFunc_impl_Peg_at_impl_comparePegs.f
 refine Ev.bind (ev_order2 hs c hij (by omega)) ?_
 refine Ev.bind (ev_order2 hs c hjm hm) ?_
 refine Ev.bind (ev_order2 hs c hij (by omega)) ?_
 exact Ev.now _
theorem ev_adjacent {j : Nat} (c : Int) (h0 : 1 ≤ j) (hm : j + 1 < l.length) : Ev (fun k => slices_medianAdjacentCmpFunc_impl_Peg_at_impl_comparePegs.f k l (j : Int) c) (j : Int) := by
 unfold slices_medianAdjacentCmpFunc_impl_Peg_at_impl_comparePegs.f
 have e1 : wrap64 ((j : Int) - 1) = ((j - 1 : Nat) : Int) := by rw [w64 (by omega)]; omega
 have e2 : wrap64 ((j : Int) + 1) = ((j + 1 : Nat) : Int) := by rw [w64 (by omega)]; omega
 rw [e1, e2]
 exact Ev.bind (ev_median hs c (by omega) (by omega) hm) (Ev.now _)
theorem ev_pivot (h1 : 12 < l.length) : ∃ v : Int, Ev (fun k => slices_choosePivotCmpFunc_impl_Peg_at_impl_comparePegs.f k l 0 (l.length : Int)) (v, 1) := by
 have e0 : wrap64 ((l.length : Int) - 0) = (l.length : Int) := by rw [w64 (by omega)]; omega
 have e4 : wrap64 (Int.tdiv (l.length : Int) 4) = ((l.length / 4 : Nat) : Int) := by
  rw [Int.tdiv_eq_ediv_of_nonneg (by omega), w64 (by omega)]
  omega
 have m1 : wrap64 (0 + wrap64 ((l.length / 4 : Nat) : Int)) = ((l.length / 4 : Nat) : Int) := by rw [w64 (x := ((l.length / 4 : Nat) : Int)) (by omega), w64 (by omega)]; omega
 have m2 : wrap64 (0 + wrap64 (((l.length / 4 : Nat) : Int) * 2)) = ((l.length / 4 * 2 : Nat) : Int) := by rw [w64 (x := _ * 2) (by omega), w64 (by omega)]; omega
 have m3 : wrap64 (0 + wrap64 (((l.length / 4 : Nat) : Int) * 3)) = ((l.length / 4 * 3 : Nat) : Int) := by rw [w64 (x := _ * 3) (by omega), w64 (by omega)]; omega
 have hj : ∀ x : Int, Ev (fun k => slices_choosePivotCmpFunc_impl_Peg_at_impl_comparePegs.j0 k x 0) (x, 1) := fun x => by
  refine Ev.succ ?_
  simp only [slices_choosePivotCmpFunc_impl_Peg_at_impl_comparePegs.j0, if_true]
  exact Ev.now _
 refine ⟨((l.length / 4 * 2 : Nat) : Int), ?_⟩
 unfold slices_choosePivotCmpFunc_impl_Peg_at_impl_comparePegs.f
 simp (disch := omega) only [e0, e4, m1, m2, m3, if_pos]
 by_cases c : (l.length : Int) ≥ 50
 ·simp only [if_pos c]
  refine Ev.bind (ev_adjacent hs hn 0 (by omega) (by omega)) ?_
  refine Ev.bind (ev_adjacent hs hn 0 (by omega) (by omega)) ?_
  refine Ev.bind (ev_adjacent hs hn 0 (by omega) (by omega)) ?_
  refine Ev.bind (ev_median hs 0 (by omega) (by omega) (by omega)) ?_
  exact hj _
 ·simp only [if_neg c]
  refine Ev.bind (ev_median hs 0 (by omega) (by omega) (by omega)) ?_
  exact hj _
theorem ev_partial_l1 : ∀ (d i : Nat), 1 ≤ i → i + d = l.length → Ev (fun k => slices_partialInsertionSortCmpFunc_impl_Peg_at_impl_comparePegs.l1 k l 0 (l.length : Int) (i : Int) 0) (true, l) := by
 intro d
 induction d with
 | zero =>
  intro i h1 hi
  refine Ev.succ ?_
  simp (disch := omega) only [slices_partialInsertionSortCmpFunc_impl_Peg_at_impl_comparePegs.l1, if_neg]
  refine Ev.succ ?_
  simp (disch := omega) only [slices_partialInsertionSortCmpFunc_impl_Peg_at_impl_comparePegs.j2, if_pos]
  exact Ev.now _
 | succ d ih =>
  intro i h1 hi
  refine Ev.succ ?_
  have hil : i < l.length := by omega
  have hc := hs.cmp (show i - 1 < i by omega) hil
  have e1 : (i : Int) - 1 = ((i - 1 : Nat) : Int) := by omega
  simp (disch := omega) only [slices_partialInsertionSortCmpFunc_impl_Peg_at_impl_comparePegs.l1, if_pos, w64, e1, rd_pt]
  refine Ev.bind (ev_compare _ _) ?_
  simp only [if_neg hc]
  exact ih (i + 1) (by omega) (by omega)
theorem ev_sort (h1 : 1 ≤ l.length) : Ev (fun k => slices_SortFunc_impl_Peg_at_impl_comparePegs.f k l) l := by
 unfold slices_SortFunc_impl_Peg_at_impl_comparePegs.f bits_Len.f bits_Len64.f
 have hw : IntKind.u64.wrap (l.length : Int) = (l.length : Int) := by
  show (l.length : Int) % 18446744073709551616 = _
  omega
 obtain ⟨b, hb⟩ : ∃ b, b = Lib.bitLen l.length := ⟨_, rfl⟩
 have hb0 : ¬ ((b : Int) = 0) := by
  intro c
  have e : Lib.bitLen l.length = 0 := by omega
  rw [Lib.bitLen_half l.length (by omega) (by omega)] at e
  omega
 simp (disch := omega) only [hw, if_pos, Option.bind_some, Int.toNat_natCast, ← hb]
 refine Ev.bind (a := l) ?_ (Ev.now _)
 refine Ev.succ ?_
 simp only [slices_pdqsortCmpFunc_impl_Peg_at_impl_comparePegs.f]
 refine Ev.succ ?_
 have e0 : wrap64 ((l.length : Int) - 0) = (l.length : Int) := by rw [w64 (by omega)]; omega
 simp only [slices_pdqsortCmpFunc_impl_Peg_at_impl_comparePegs.l0, e0]
 by_cases c : (l.length : Int) ≤ 12
 ·simp only [if_pos c]
  exact Ev.bind (ev_insertion hs hn h1) (Ev.now _)
 ·obtain ⟨v, hv⟩ := ev_pivot hs hn (by omega)
  simp only [if_neg c, if_neg hb0, if_true]
  refine Ev.bind hv ?_
  have e12 : ¬ ((1 : Int) = 2) := by omega
  simp only [if_neg e12]
  refine Ev.succ ?_
  simp only [slices_pdqsortCmpFunc_impl_Peg_at_impl_comparePegs.j1, BEq.rfl, if_true]
  refine Ev.bind (a := (true, l)) ?_ ?_
  ·unfold slices_partialInsertionSortCmpFunc_impl_Peg_at_impl_comparePegs.f
   refine Ev.succ ?_
   have e : wrap64 (0 + 1) = ((1 : Nat) : Int) := w64 (by omega)
   simp (disch := omega) only [slices_partialInsertionSortCmpFunc_impl_Peg_at_impl_comparePegs.l0, if_pos, e]
   exact ev_partial_l1 hs hn (l.length - 1) 1 (by omega) (by omega)
  ·simp only [if_true]
   exact Ev.now _
theorem ev_impl_sorted (h1 : 1 ≤ l.length) : Ev (fun k => impl_sorted.f k l) l := by
 unfold impl_sorted.f slices_Clone_impl_Peg.f
 simp (disch := omega) only [if_pos, List.length_nil, List.nil_append, Option.bind_some]
 exact Ev.bind (ev_sort hs hn h1) (Ev.now _)
end
/-! ### The band: a stack of corners -/
/-- A corner is laid on the stack, behind all that turn the other way are taken off. -/
def psh : Nat → List S_impl_Peg → S_impl_Peg → List S_impl_Peg
 | 0, s, p => s ++ [p]
 | d + 1, s, p => if 1 < s.length then (if tn (pt s (s.length - 2)) (pt s (s.length - 1)) p ≤ 0 then psh d (s.take (s.length - 1)) p else s ++ [p]) else s ++ [p]
def chn : List S_impl_Peg → List S_impl_Peg → List S_impl_Peg
 | s, [] => s
 | s, p :: l => chn (psh s.length s p) l
theorem psh_length (p : S_impl_Peg) : ∀ (d : Nat) (s : List S_impl_Peg), (psh d s p).length ≤ s.length + 1 ∧ 1 ≤ (psh d s p).length ∧ (1 ≤ s.length → 2 ≤ (psh d s p).length) := by
 intro d
 induction d with
 | zero =>
  intro s
  unfold psh
  rw [List.length_append]
  simp
 | succ d ih =>
  intro s
  unfold psh
  have h0 : (s ++ [p]).length = s.length + 1 := by simp
  split
  ·rename_i h
   split
   ·have hl : (s.take (s.length - 1)).length = s.length - 1 := by simp
    obtain ⟨h1, h2, h3⟩ := ih (s.take (s.length - 1))
    rw [hl] at h1 h3
    omega
   ·omega
  ·omega
theorem psh_mem (p : S_impl_Peg) : ∀ (d : Nat) (s : List S_impl_Peg) (q : S_impl_Peg), q ∈ psh d s p → q ∈ s ∨ q = p := by
 intro d
 induction d with
 | zero =>
  intro s q h
  unfold psh at h
  simpa using h
 | succ d ih =>
  intro s q h
  unfold psh at h
  split at h
  ·split at h
   ·rcases ih _ q h with h | h
    ·exact Or.inl (List.mem_of_mem_take h)
    ·exact Or.inr h
   ·simpa using h
  ·simpa using h
theorem chn_length : ∀ (l s : List S_impl_Peg), (chn s l).length ≤ s.length + l.length ∧ (2 ≤ s.length + l.length → 1 ≤ l.length → 2 ≤ (chn s l).length) := by
 intro l
 induction l with
 | nil =>
  intro s
  unfold chn
  simp
 | cons p l ih =>
  intro s
  unfold chn
  obtain ⟨h1, h2, h3⟩ := psh_length p s.length s
  obtain ⟨i1, i2⟩ := ih (psh s.length s p)
  rw [List.length_cons]
  refine ⟨by omega, fun h _ => ?_⟩
  by_cases c : l = []
  ·subst c
   unfold chn
   exact h3 (by simp at h; omega)
  ·have : 0 < l.length := List.length_pos_iff.2 c
   exact i2 (by omega) (by omega)
def lst (s : List S_impl_Peg) : List S_impl_Peg := s.take (s.length - 1)
def bnd (l : List S_impl_Peg) : List S_impl_Peg := if l.length < 3 then l else lst (chn [] l) ++ lst (chn [] l.reverse)
theorem lst_length (s : List S_impl_Peg) : (lst s).length = s.length - 1 := by
 unfold lst
 simp
theorem bnd_length (l : List S_impl_Peg) : (bnd l).length ≤ 2 * l.length := by
 unfold bnd
 split
 ·omega
 ·rw [List.length_append, lst_length, lst_length]
  have h1 := (chn_length l []).1
  have h2 := (chn_length l.reverse []).1
  rw [List.length_reverse] at h2
  simp only [List.length_nil] at h1 h2
  omega
theorem app_pt {a s : List S_impl_Peg} {i : Nat} : pt (a ++ s) (a.length + i) = pt s i := by
 unfold pt
 rw [List.getD_eq_getElem?_getD, List.getD_eq_getElem?_getD, List.getElem?_append_right (by omega)]
 congr 2
 omega
theorem pt_sm {s : List S_impl_Peg} (hs : ∀ q, q ∈ s → Sm 1000 q) {i : Nat} (hi : i < s.length) : Sm 1000000 (pt s i) := (hs _ (pt_mem hi)).mono (by omega)
/-- One corner, in the program. -/
theorem ev_psh_impl {l R : List S_impl_Peg} {i : Nat} {p : S_impl_Peg} (hp : Sm 1000 p) (hi : i < 100000) :
  ∀ (d : Nat) (s : List S_impl_Peg), s.length ≤ d → d ≤ 100000 → (∀ q, q ∈ s → Sm 1000 q) → Ev (fun k => impl_chain.l0 k (psh d s p) l (l.length : Int) ((i : Int) + 1)) R → Ev (fun k => impl_chain.l1 k s l (l.length : Int) (i : Int) p.f0 p.f1) R := by
 have q1 : (⟨p.f0, p.f1⟩ : S_impl_Peg) = p := rfl
 intro d
 induction d with
 | zero =>
  intro s hd h9 hs cont
  refine Ev.succ ?_
  simp (disch := omega) only [impl_chain.l1, if_neg, if_pos, w64, q1]
  exact cont
 | succ d ih =>
  intro s hd h9 hs cont
  refine Ev.succ ?_
  unfold psh at cont
  by_cases c : 1 < s.length
  ·simp only [if_pos c] at cont
   have e2 : (s.length : Int) - 2 = ((s.length - 2 : Nat) : Int) := by omega
   have e1 : (s.length : Int) - 1 = ((s.length - 1 : Nat) : Int) := by omega
   have t := impl_turn_eq (pt_sm hs (show s.length - 2 < s.length by omega)) (pt_sm hs (show s.length - 1 < s.length by omega)) (hp.mono (show (1000 : Int) ≤ 1000000 by omega))
   simp (disch := omega) only [impl_chain.l1, if_pos, w64, e1, e2, rd_pt, t, Option.bind_some, Int.toNat_natCast, q1]
   by_cases c2 : tn (pt s (s.length - 2)) (pt s (s.length - 1)) p ≤ 0
   ·simp only [if_pos c2] at cont ⊢
    exact ih _ (by simp; omega) (by omega) (fun q hq => hs q (List.mem_of_mem_take hq)) cont
   ·simp only [if_neg c2] at cont ⊢
    exact cont
  ·simp only [if_neg c] at cont
   simp (disch := omega) only [impl_chain.l1, if_neg, if_pos, w64, q1]
   exact cont
theorem ev_chain_l0 {l : List S_impl_Peg} (hl : l.length ≤ 1000) (hm : ∀ q, q ∈ l → Sm 1000 q) : ∀ (d i : Nat) (s : List S_impl_Peg), i + d = l.length → s.length ≤ i → (∀ q, q ∈ s → Sm 1000 q) → Ev (fun k => impl_chain.l0 k s l (l.length : Int) (i : Int)) (chn s (l.drop i)) := by
 intro d
 induction d with
 | zero =>
  intro i s hi h1 hs
  refine Ev.succ ?_
  simp (disch := omega) only [impl_chain.l0, if_neg]
  rw [List.drop_of_length_le (by omega)]
  exact Ev.now _
 | succ d ih =>
  intro i s hi h1 hs
  refine Ev.succ ?_
  have hil : i < l.length := by omega
  simp (disch := omega) only [impl_chain.l0, if_pos, rd_pt]
  rw [drop_pt hil]
  have hp := hm _ (pt_mem hil)
  refine ev_psh_impl hp (by omega) s.length s (Nat.le_refl _) (by omega) hs ?_
  have := psh_length (pt l i) s.length s
  refine ih (i + 1) _ (by omega) (by omega) fun q hq => ?_
  rcases psh_mem _ _ _ q hq with h | h
  ·exact hs q h
  ·rw [h]; exact hp
theorem ev_chain {l : List S_impl_Peg} (hl : l.length ≤ 1000) (hm : ∀ q, q ∈ l → Sm 1000 q) : Ev (fun k => impl_chain.f k l) (chn [] l) := by
 unfold impl_chain.f
 exact ev_chain_l0 hl hm l.length 0 [] (by omega) (by simp) (fun q hq => absurd hq List.not_mem_nil)
/-- One corner, in the reference: the stack stands behind the lower part. -/
theorem ev_psh_spec {l a R : List S_impl_Peg} {x : Int} {i : Nat} {p : S_impl_Peg} (hp : Sm 1000 p) (hi : i < 100000) (ha : a.length ≤ 100000) :
  ∀ (d : Nat) (s : List S_impl_Peg), s.length ≤ d → d ≤ 100000 → (∀ q, q ∈ s → Sm 1000 q) → Ev (fun k => spec_bdBand.l1 k l (a ++ psh d s p) x (a.length : Int) (l.length : Int) ((i : Int) + 1)) R → Ev (fun k => spec_bdBand.l2 k l (a ++ s) x (a.length : Int) (l.length : Int) (i : Int) p.f0 p.f1) R := by
 have q1 : (⟨p.f0, p.f1⟩ : S_impl_Peg) = p := rfl
 intro d
 induction d with
 | zero =>
  intro s hd h9 hs cont
  refine Ev.succ ?_
  have hal : (a ++ s).length = a.length + s.length := List.length_append
  simp (disch := omega) only [spec_bdBand.l2, hal, if_neg, if_pos, w64, q1, List.append_assoc]
  exact cont
 | succ d ih =>
  intro s hd h9 hs cont
  refine Ev.succ ?_
  have hal : (a ++ s).length = a.length + s.length := List.length_append
  unfold psh at cont
  by_cases c : 1 < s.length
  ·simp only [if_pos c] at cont
   have e2 : ((a.length + s.length : Nat) : Int) - 2 = ((a.length + (s.length - 2) : Nat) : Int) := by omega
   have e1 : ((a.length + s.length : Nat) : Int) - 1 = ((a.length + (s.length - 1) : Nat) : Int) := by omega
   have t := spec_turn_eq (pt_sm hs (show s.length - 2 < s.length by omega)) (pt_sm hs (show s.length - 1 < s.length by omega)) (hp.mono (show (1000 : Int) ≤ 1000000 by omega))
   have tk : (a ++ s).take (a.length + (s.length - 1)) = a ++ s.take (s.length - 1) := by
    exact List.take_length_add_append _
   simp (disch := omega) only [spec_bdBand.l2, hal, if_pos, w64, e1, e2, rd_pt, app_pt, t, Option.bind_some, Int.toNat_natCast, q1, tk]
   by_cases c2 : tn (pt s (s.length - 2)) (pt s (s.length - 1)) p ≤ 0
   ·simp only [if_pos c2] at cont ⊢
    exact ih _ (by simp; omega) (by omega) (fun q hq => hs q (List.mem_of_mem_take hq)) cont
   ·simp only [if_neg c2] at cont ⊢
    rw [← List.append_assoc] at cont
    exact cont
  ·simp only [if_neg c] at cont
   rw [← List.append_assoc] at cont
   simp (disch := omega) only [spec_bdBand.l2, hal, if_neg, if_pos, w64, q1]
   exact cont
theorem rev_pt {l : List S_impl_Peg} {i : Nat} (h : i < l.length) : pt l.reverse i = pt l (l.length - 1 - i) := by
 unfold pt
 rw [List.getD_eq_getElem?_getD, List.getD_eq_getElem?_getD, List.getElem?_reverse h]
/-- One side of the band, in the reference. -/
theorem ev_side {l a R : List S_impl_Peg} {x : Int} {m : List S_impl_Peg} (hx : (x = 0 ∧ m = l) ∨ (x = 1 ∧ m = l.reverse)) (hl : l.length ≤ 1000) (hm : ∀ q, q ∈ l → Sm 1000 q) (ha : a.length ≤ 10000) :
  ∀ (d i : Nat) (s : List S_impl_Peg), i + d = l.length → s.length ≤ i → (1 ≤ i → 1 ≤ s.length) → 1 ≤ l.length → (∀ q, q ∈ s → Sm 1000 q) → Ev (fun k => spec_bdBand.l0 k l (a ++ lst (chn s (m.drop i))) (x + 1)) R → Ev (fun k => spec_bdBand.l1 k l (a ++ s) x (a.length : Int) (l.length : Int) (i : Int)) R := by
 have hml : m.length = l.length := by rcases hx with h | h <;> rw [h.2]; exact List.length_reverse
 have hmm : ∀ q, q ∈ m → Sm 1000 q := by
  rcases hx with h | h <;> rw [h.2]
  ·exact hm
  ·exact fun q hq => hm q (List.mem_reverse.1 hq)
 have hx2 : 0 ≤ x ∧ x ≤ 1 := by rcases hx with h | h <;> omega
 intro d
 induction d with
 | zero =>
  intro i s hi h1 h2 h3 hs cont
  refine Ev.succ ?_
  rw [List.drop_of_length_le (by omega)] at cont
  unfold chn lst at cont
  have hal : (a ++ s).length = a.length + s.length := List.length_append
  have e1 : ((a.length + s.length : Nat) : Int) - 1 = ((a.length + (s.length - 1) : Nat) : Int) := by have := h2 (by omega); omega
  have tk : (a ++ s).take (a.length + (s.length - 1)) = a ++ s.take (s.length - 1) := by
   exact List.take_length_add_append _
  simp (disch := omega) only [spec_bdBand.l1, if_neg, hal, w64, e1, if_pos, Int.toNat_natCast, tk]
  exact cont
 | succ d ih =>
  intro i s hi h1 h2 h3 hs cont
  refine Ev.succ ?_
  have hil : i < l.length := by omega
  have him : i < m.length := by omega
  have hp := hmm _ (pt_mem him)
  have nxt : Ev (fun k => spec_bdBand.l2 k l (a ++ s) x (a.length : Int) (l.length : Int) (i : Int) (pt m i).f0 (pt m i).f1) R := by
   rw [drop_pt him] at cont
   refine ev_psh_spec hp (by omega) (by omega) s.length s (Nat.le_refl _) (by omega) hs ?_
   have := psh_length (pt m i) s.length s
   refine ih (i + 1) _ (by omega) (by omega) (fun _ => by omega) h3 (fun q hq => ?_) cont
   rcases psh_mem _ _ _ q hq with h | h
   ·exact hs q h
   ·rw [h]; exact hp
  rcases hx with ⟨rfl, rfl⟩ | ⟨rfl, rfl⟩
  ·have e01 : ¬ ((0 : Int) = 1) := by omega
   simp (disch := omega) only [spec_bdBand.l1, if_pos, if_neg e01, rd_pt]
   refine Ev.succ ?_
   simp only [spec_bdBand.j2]
   exact nxt
  ·have e1 : (l.length : Int) - 1 - (i : Int) = ((l.length - 1 - i : Nat) : Int) := by omega
   simp (disch := omega) only [spec_bdBand.l1, if_pos, w64, e1, rd_pt]
   refine Ev.succ ?_
   simp only [spec_bdBand.j2]
   rw [← rev_pt hil]
   exact nxt
theorem ev_spec_band {l : List S_impl_Peg} (hs : Srt l) (hl : l.length ≤ 169) (hm : ∀ q, q ∈ l → Sm 1000 q) : Ev (fun k => spec_bdBand.f k l) (bnd l) := by
 unfold spec_bdBand.f bnd
 refine Ev.bind (ev_spec_sorted hs (by omega)) ?_
 by_cases c : l.length < 3
 ·simp (disch := omega) only [if_pos]
  exact Ev.now _
 ·simp (disch := omega) only [if_neg]
  refine Ev.succ ?_
  have c1 := (chn_length l []).1
  have c2 := lst_length (chn [] l)
  simp only [List.length_nil] at c1
  have h02 : (0 : Int) < 2 := by omega
  simp only [spec_bdBand.l0, if_pos h02]
  refine ev_side (a := []) (x := 0) (m := l) (Or.inl ⟨rfl, rfl⟩) (by omega) hm (by simp) l.length 0 [] (by omega) (by simp) (fun h => absurd h (by omega)) (by omega) (fun q hq => absurd hq List.not_mem_nil) ?_
  refine Ev.succ ?_
  have w1 : wrap64 (0 + 1) = 1 := w64 (by omega)
  have h12 : (0 : Int) + 1 < 2 := by omega
  rw [List.nil_append, List.drop_zero]
  simp only [spec_bdBand.l0, if_pos h12]
  have := ev_side (R := lst (chn [] l) ++ lst (chn [] l.reverse)) (a := lst (chn [] l)) (x := 1) (m := l.reverse) (Or.inr ⟨rfl, rfl⟩) (by omega) hm (by omega) l.length 0 [] (by omega) (by simp) (fun h => absurd h (by omega)) (by omega) (fun q hq => absurd hq List.not_mem_nil) (by
   refine Ev.succ ?_
   have h22 : ¬ ((1 : Int) + 1 < 2) := by omega
   simp only [spec_bdBand.l0, if_neg h22, List.drop_zero]
   exact Ev.now _)
  rw [List.append_nil] at this
  exact this
theorem set_swap {l : List S_impl_Peg} {i j : Nat} (hij : i < j) (hj : j < l.length) : ∀ k, k < l.length → pt ((l.set i (pt l j)).set j (pt l i)) k = if k = i then pt l j else if k = j then pt l i else pt l k := by
 intro k hk
 unfold pt
 simp only [List.getD_eq_getElem?_getD, List.getElem?_set, List.length_set]
 by_cases a : j = k
 ·subst a
  rw [if_pos rfl, if_pos hj, if_neg (by omega), if_pos rfl]
  rfl
 ·rw [if_neg a]
  by_cases b : i = k
  ·subst b
   rw [if_pos rfl, if_pos (by omega), if_pos rfl]
   rfl
  ·rw [if_neg b, if_neg (fun e => b e.symm), if_neg (fun e => a e.symm)]
theorem ext_pt {l m : List S_impl_Peg} (h : l.length = m.length) (h2 : ∀ i, i < l.length → pt l i = pt m i) : l = m := by
 refine List.ext_getElem h fun i h1 h3 => ?_
 have := h2 i h1
 unfold pt at this
 rw [List.getD_eq_getElem?_getD, List.getD_eq_getElem?_getD, List.getElem?_eq_getElem h1, List.getElem?_eq_getElem h3] at this
 exact this
theorem ev_reverse_l0 (l : List S_impl_Peg) (hl : l.length ≤ 1000) : ∀ (d i : Nat) (x : List S_impl_Peg), l.length ≤ 2 * i + d → 2 * i ≤ l.length + 1 → x.length = l.length → (∀ k, k < l.length → pt x k = if k < i ∨ l.length ≤ k + i then pt l (l.length - 1 - k) else pt l k) → Ev (fun k => slices_Reverse_impl_Peg.l0 k x (i : Int) ((l.length : Int) - 1 - (i : Int))) l.reverse := by
 intro d
 induction d with
 | zero =>
  intro i x hd h0 hx h
  refine Ev.succ ?_
  have c : ¬ ((i : Int) < (l.length : Int) - 1 - (i : Int)) := by omega
  simp only [slices_Reverse_impl_Peg.l0, if_neg c]
  refine Ev.some (ext_pt (by rw [hx, List.length_reverse]) fun k hk => ?_)
  rw [h k (by omega), rev_pt (by omega)]
  split
  ·rfl
  ·congr 1
   omega
 | succ d ih =>
  intro i x hd h0 hx h
  refine Ev.succ ?_
  by_cases c : (i : Int) < (l.length : Int) - 1 - (i : Int)
  ·have e1 : (l.length : Int) - 1 - (i : Int) = ((l.length - 1 - i : Nat) : Int) := by omega
   have q1 : ∀ j, (⟨(pt x j).f0, (pt x j).f1⟩ : S_impl_Peg) = pt x j := fun _ => rfl
   simp (disch := omega) only [slices_Reverse_impl_Peg.l0, if_pos c, e1, hx, if_pos, rd_pt, q1, Int.toNat_natCast, w64]
   have e2 : ((l.length - 1 - i : Nat) : Int) - 1 = (l.length : Int) - 1 - ((i + 1 : Nat) : Int) := by omega
   rw [e2]
   refine ih (i + 1) _ (by omega) (by omega) (by simp [hx]) fun k hk => ?_
   rw [set_swap (by omega) (by omega) k (by omega)]
   rw [h (l.length - 1 - i) (by omega), h i (by omega), h k hk]
   by_cases a : k = i
   ·subst a
    rw [if_pos rfl, if_neg (by omega), if_pos (by omega)]
   ·rw [if_neg a]
    by_cases b : k = l.length - 1 - i
    ·rw [if_pos b, if_neg (by omega), if_pos (by omega), b]
     congr 1
     omega
    ·rw [if_neg b]
     by_cases e : k < i ∨ l.length ≤ k + i
     ·rw [if_pos e, if_pos (by omega)]
     ·rw [if_neg e, if_neg (by omega)]
  ·simp only [slices_Reverse_impl_Peg.l0, if_neg c]
   refine Ev.some (ext_pt (by rw [hx, List.length_reverse]) fun k hk => ?_)
   rw [h k (by omega), rev_pt (by omega)]
   split
   ·rfl
   ·congr 1
    omega
theorem ev_reverse (l : List S_impl_Peg) (hl : l.length ≤ 1000) : Ev (fun k => slices_Reverse_impl_Peg.f k l) l.reverse := by
 unfold slices_Reverse_impl_Peg.f
 rw [w64 (by omega)]
 have := ev_reverse_l0 l hl l.length 0 l (by omega) (by omega) rfl (fun k hk => by rw [if_neg (by omega)])
 simpa using this
theorem ev_concat (a b : List S_impl_Peg) (h0 : 1 ≤ a.length) (ha : a.length ≤ 10000) (hb : b.length ≤ 10000) : Ev (fun k => slices_Concat_impl_Peg.f k [a, b]) (a ++ b) := by
 unfold slices_Concat_impl_Peg.f
 have gl : (([a, b] : List (List S_impl_Peg)).length : Int) = 2 := rfl
 have r0 : rd_L5 [a, b] 0 = a := rfl
 have r1 : rd_L5 [a, b] 1 = b := rfl
 have w0 : wrap64 (0 + (a.length : Int)) = (a.length : Int) := by rw [w64 (by omega)]; omega
 have w1 : wrap64 ((a.length : Int) + (b.length : Int)) = (a.length : Int) + (b.length : Int) := w64 (by omega)
 have w2 : wrap64 (0 + 1) = 1 := w64 (by omega)
 have w3 : wrap64 (1 + 1) = 2 := w64 (by omega)
 have e22 : ¬ ((2 : Int) < 2) := by omega
 refine Ev.succ ?_
 simp (disch := omega) only [slices_Concat_impl_Peg.l0, gl, r0, w0, w2, if_pos, if_neg]
 refine Ev.succ ?_
 simp (disch := omega) only [slices_Concat_impl_Peg.l0, gl, r1, w1, w3, if_pos, if_neg]
 refine Ev.succ ?_
 simp (disch := omega) only [slices_Concat_impl_Peg.l0, if_neg e22, slices_Grow_impl_Peg.f, if_pos, Option.bind_some]
 refine Ev.succ ?_
 simp (disch := omega) only [slices_Concat_impl_Peg.l1, gl, r0, w2, if_pos, List.length_nil, List.nil_append]
 refine Ev.succ ?_
 simp (disch := omega) only [slices_Concat_impl_Peg.l1, gl, r1, w3, if_pos]
 refine Ev.succ ?_
 simp (disch := omega) only [slices_Concat_impl_Peg.l1, if_neg e22]
 exact Ev.now _
theorem two_chn {a b : S_impl_Peg} : chn [] [a, b] = [a, b] := rfl
theorem ev_impl_band {l : List S_impl_Peg} (hs : Srt l) (hl : l.length ≤ 169) (h1 : 1 ≤ l.length) (hm : ∀ q, q ∈ l → Sm 1000 q) : Ev (fun k => impl_band.f k l) (bnd l) := by
 unfold impl_band.f
 refine Ev.bind (ev_impl_sorted hs (by omega) h1) ?_
 by_cases c : (l.length : Int) = 1
 ·simp only [if_pos c]
  unfold bnd
  rw [if_pos (by omega)]
  exact Ev.now _
 ·simp only [if_neg c]
  refine Ev.bind (ev_chain (by omega) hm) ?_
  refine Ev.bind (ev_reverse l (by omega)) ?_
  refine Ev.bind (ev_chain (by rw [List.length_reverse]; omega) (fun q hq => hm q (List.mem_reverse.1 hq))) ?_
  obtain ⟨a1, a2⟩ := chn_length l []
  obtain ⟨b1, b2⟩ := chn_length l.reverse []
  rw [List.length_reverse] at b1 b2
  simp only [List.length_nil] at a1 a2 b1 b2
  have a3 := a2 (by omega) h1
  have b3 := b2 (by omega) h1
  have ea : (((chn [] l).length : Int) - 1) = (((chn [] l).length - 1 : Nat) : Int) := by omega
  have eb : (((chn [] l.reverse).length : Int) - 1) = (((chn [] l.reverse).length - 1 : Nat) : Int) := by omega
  simp (disch := omega) only [w64, ea, eb, if_pos, Int.toNat_natCast]
  have key := ev_concat (lst (chn [] l)) (lst (chn [] l.reverse)) (by rw [lst_length]; omega) (by rw [lst_length]; omega) (by rw [lst_length]; omega)
  have e : lst (chn [] l) ++ lst (chn [] l.reverse) = bnd l := by
   unfold bnd
   split
   ·match l, h1, c with
    | [a], _, c => exact absurd rfl c
    | [a, b], _, _ => rfl
    | _ :: _ :: _ :: _, _, _ => rename_i h; exact absurd h (by simp)
   ·rfl
  rw [e] at key
  exact Ev.bind key (Ev.now _)
def ans_BandOfSolutions (s : Int) (cs : List S_impl_Clue) : List S_impl_Peg × Bool := if gd s cs = true then (if (sol s cs).length = 0 then ([], false) else (bnd (sol s cs), true)) else ([], false)
theorem ans_BandOfSolutions_len (s : Int) (cs : List S_impl_Clue) : (ans_BandOfSolutions s cs).1.length ≤ 1099511627776 := by
 unfold ans_BandOfSolutions
 split
 ·rename_i h
  obtain ⟨hs, _, _⟩ := gd_iff h
  have h1 := sol_length hs cs
  have h2 := bnd_length (sol s cs)
  split
  ·show 0 ≤ _
   omega
  ·show (bnd (sol s cs)).length ≤ _
   omega
 ·show 0 ≤ _
  omega
theorem ev_spec_BandOfSolutions (s : Int) (cs : List S_impl_Clue) : Ev (fun k => spec_BandOfSolutions.f k s cs) (ans_BandOfSolutions s cs) := by
 unfold spec_BandOfSolutions.f ans_BandOfSolutions
 refine askGS s cs (fun hs h6 hc => ?_) (Ev.now _)
 simp only [if_true]
 refine Ev.bind (ev_spec_sol hs (by omega) hc) ?_
 have h1 := sol_length hs cs
 by_cases c : (sol s cs).length = 0
 ·simp (disch := omega) only [if_pos]
  exact Ev.now _
 ·simp (disch := omega) only [if_neg]
  exact Ev.bind (ev_spec_band (sol_srt s cs) h1 (sol_sm hs cs)) (Ev.now _)
theorem ev_impl_BandOfSolutions (s : Int) (cs : List S_impl_Clue) : Ev (fun k => impl_BandOfSolutions.f k s cs) (ans_BandOfSolutions s cs) := by
 unfold impl_BandOfSolutions.f ans_BandOfSolutions
 refine Ev.bind (a := if gd s cs = true then (sol s cs, true) else ([], false)) ?_ ?_
 ·unfold impl_Solutions.f
  refine askGI s cs (fun hs h6 hc => ?_) (Ev.now _)
  simp only [if_true]
  refine Ev.bind (ev_impl_sol hs (by omega) hc cs) ?_
  have := sol_length hs cs
  unfold slices_Clone_impl_Peg.f
  simp only [Option.bind_some]
  simp (disch := omega) only [if_pos, List.length_nil, List.nil_append, Option.bind_some]
  exact Ev.now _
 ·cases hg : gd s cs with
  | false =>
   simp only [Bool.false_eq_true, if_false]
   exact Ev.now _
  | true =>
   obtain ⟨hs, _, _⟩ := gd_iff hg
   have h1 := sol_length hs cs
   simp only [if_true]
   by_cases c : (sol s cs).length = 0
   ·simp (disch := omega) only [if_pos]
    exact Ev.now _
   ·simp (disch := omega) only [if_neg]
    exact Ev.bind (ev_impl_band (sol_srt s cs) h1 (by omega) (sol_sm hs cs)) (Ev.now _)
theorem FnExactBandOfSolutions : laws_FnExactBandOfSolutions.Pure := by
 intro z0 q0 hz0 hq0
 have hq0 := hq0.1
 refine Ev.rounds ?_
 unfold laws_FnExactBandOfSolutions.f
 rw [szPuzzle_eq z0 q0 hq0]
 simp only [Option.bind_some]
 by_cases gq0 : 1048576 < q0.length
 ·simp only [if_pos gq0]
  exact Ev.now _
 simp only [if_neg gq0]
 simp (disch := omega) only [if_neg]
 have eq0 : q0.length ≤ 1048576 := by omega
 obtain ⟨R, hR⟩ : ∃ R, R = ans_BandOfSolutions z0 (toC q0) := ⟨_, rfl⟩
 have hS := ev_spec_BandOfSolutions z0 (toC q0)
 have hM := ev_impl_BandOfSolutions z0 (toC q0)
 rw [← hR] at hS hM
 have hb := ans_BandOfSolutions_len z0 (toC q0)
 rw [← hR] at hb
 repeat (first | exact Ev.now _ | refine Ev.bind (ev_toPuzzle z0 q0 eq0) ?_ | refine Ev.bind hS ?_ | refine Ev.bind hM ?_ | refine Ev.bind (ev_eqPuzzle z0 (toC q0) (by rw [toC_length]; omega)) ?_ | refine Ev.bind (ev_eqPegS _ hb) ?_ | refine Ev.bind (ev_markPegS _ _ hb (by omega)) ?_ | refine Ev.bind (ev_heldPegS _ _ hb (by omega)) ?_ | refine Ev.bind (ev_markPuzzle z0 (toC q0) 1 (by rw [toC_length]; omega) (by omega)) ?_ | simp only [eq_self, if_true, bne_self_eq_false, Bool.false_eq_true, if_false, Option.bind_some] | simp (disch := omega) only [if_neg, if_pos] | (refine Ev.succ ?_; simp only [laws_FnExactBandOfSolutions.j0, laws_FnExactBandOfSolutions.j1, laws_FnExactBandOfSolutions.j2, Bool.false_eq_true, if_false]))

end Go.Proofs.Ytoeclfihlhmnpaa.Pure
