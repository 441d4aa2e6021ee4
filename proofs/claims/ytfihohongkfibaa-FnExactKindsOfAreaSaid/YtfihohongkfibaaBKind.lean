-- thin
/- The first one of all frames of a polygon, in the reference and in the program. -/
import Derived.Test.YtfihohongkfibaaX0
import Derived.Test.YtfihohongkfibaaX8
import Derived.Test.YtfihohongkfibaaX9
import Derived.Test.YtfihohongkfibaaX17
import Derived.Test.YtfihohongkfibaaBBase
import Derived.Test.YtfihohongkfibaaBCore
import Derived.Test.YtfihohongkfibaaBPoly
import Derived.Test.YtfihohongkfibaaBAsk
import Derived.Test.YtfihohongkfibaaBTold
import Derived.Test.YtfihohongkfibaaBOrder
import Derived.Test.YtfihohongkfibaaBGcd
import Derived.Test.YtfihohongkfibaaBFrame
namespace Go.Proofs.Ytfihohongkfibaa.B
open Go.RowKit Go.Proofs.Ytfihohongkfibaa.XW Go.Proofs.Ytfihohongkfibaa.X Go.Proofs.YtfihohongkfibaaW.PrintWords Go.Proofs.YtfihohongkfibaaW.PrintLast Go.Proofs.Ytfihohongkfibaa.B
set_option linter.unusedVariables false
set_option linter.unusedSimpArgs false
set_option maxRecDepth 20000

/-! ### Lists of corners in order -/
def bef : List S_impl_Peg → List S_impl_Peg → Bool
 | p :: a, r :: b => if p = r then bef a b else lss p r
 | _, _ => false
theorem bef_irr : ∀ a, bef a a = false := by
 intro a
 induction a with
 | nil => rfl
 | cons p a ih =>
  unfold bef
  rw [if_pos rfl, ih]
theorem lss_tot {p r : S_impl_Peg} (h : p ≠ r) (h1 : ¬ lss p r = true) : lss r p = true := by
 rw [lss_iff] at h1 ⊢
 refine Classical.not_not.1 fun c => h (peg_ext ?_ ?_) <;> omega
theorem lss_ne {p r : S_impl_Peg} (h : lss p r = true) : p ≠ r := by
 intro c
 subst c
 rw [lss_iff] at h
 omega
theorem lss_tr {a b c : S_impl_Peg} (h : lss a b = true) (k : lss b c = true) : lss a c = true := by
 rw [lss_iff] at *
 omega
theorem bef_tot : ∀ (a b : List S_impl_Peg), a.length = b.length → bef a b = false → bef b a = false → a = b := by
 intro a
 induction a with
 | nil =>
  intro b hl _ _
  exact (List.length_eq_zero_iff.1 hl.symm).symm
 | cons p a ih =>
  intro b hl h1 h2
  cases b with
  | nil => exact absurd hl (by simp)
  | cons r b =>
   unfold bef at h1 h2
   by_cases e : p = r
   ·subst e
    rw [if_pos rfl] at h1 h2
    rw [ih b (by simpa using hl) h1 h2]
   ·rw [if_neg e] at h1
    rw [if_neg (fun c => e c.symm)] at h2
    have := lss_tot e (by rw [h1]; simp)
    rw [h2] at this
    exact absurd this (by simp)
theorem bef_tr : ∀ (a b c : List S_impl_Peg), bef a b = true → bef b c = true → bef a c = true := by
 intro a
 induction a with
 | nil =>
  intro b c h1
  unfold bef at h1
  exact absurd h1 (by simp)
 | cons p a ih =>
  intro b c h1 h2
  cases b with
  | nil =>
   unfold bef at h1
   exact absurd h1 (by simp)
  | cons r b =>
   cases c with
   | nil =>
    unfold bef at h2
    exact absurd h2 (by simp)
   | cons s c =>
    unfold bef at h1 h2 ⊢
    by_cases e : p = r
    ·subst e
     rw [if_pos rfl] at h1
     by_cases f : p = s
     ·subst f
      rw [if_pos rfl] at h2 ⊢
      exact ih b c h1 h2
     ·rw [if_neg f] at h2 ⊢
      exact h2
    ·rw [if_neg e] at h1
     by_cases f : r = s
     ·subst f
      rw [if_neg e]
      exact h1
     ·rw [if_neg f] at h2
      have := lss_tr h1 h2
      rw [if_neg (lss_ne this)]
      exact this
theorem drop_pt {l : List S_impl_Peg} {i : Nat} (h : i < l.length) : l.drop i = pt l i :: l.drop (i + 1) := by
 rw [List.drop_eq_getElem_cons h]
 unfold pt
 rw [List.getD_eq_getElem?_getD, List.getElem?_eq_getElem h]
 rfl
theorem ne_dec (p r : S_impl_Peg) : (!(p.f0 == r.f0) || (!(p.f1 == r.f1))) = !decide (p = r) := by
 rw [← Bool.not_and]
 congr 1
 by_cases e : p = r
 ·rw [same_peg.2 e]
  simp [e]
 ·have : ¬ (p.f0 == r.f0 && (p.f1 == r.f1)) = true := fun c => e (same_peg.1 c)
  rw [Bool.eq_false_iff.2 this]
  simp [e]
theorem ev_before (a b : List S_impl_Peg) (hl : a.length = b.length) (hn : a.length ≤ 100000) : Ev (fun k => spec_mvBefore.f k a b) (bef a b) := by
 unfold spec_mvBefore.f
 have go : ∀ (e i : Nat), i + e = a.length → Ev (fun k => spec_mvBefore.l0 k a b a.length i) (bef (a.drop i) (b.drop i)) := by
  intro e
  induction e with
  | zero =>
   intro i hi
   refine Ev.succ ?_
   obtain rfl : i = a.length := by omega
   simp (disch := omega) only [spec_mvBefore.l0, if_neg]
   rw [List.drop_of_length_le (Nat.le_refl _)]
   exact Ev.now _
  | succ e ih =>
   intro i hi
   refine Ev.succ ?_
   have nxt := ih (i + 1) (by omega)
   rw [drop_pt (l := a) (i := i) (by omega), drop_pt (l := b) (i := i) (by omega)]
   simp (disch := omega) only [spec_mvBefore.l0, if_pos, rd_pt, w64, ne_dec, less_eq, Option.bind_some]
   unfold bef
   by_cases c : pt a i = pt b i
   ·simp only [c, decide_true, Bool.not_true, Bool.false_eq_true, if_false, if_true]
    exact nxt
   ·simp only [c, decide_false, Bool.not_false, if_true, if_false]
    exact Ev.now _
 exact go a.length 0 (by omega)
def cmpL : List S_impl_Peg → List S_impl_Peg → Int
 | p :: a, r :: b => if cmpP p r = 0 then cmpL a b else cmpP p r
 | _, _ => 0
theorem cmpP_zero (p r : S_impl_Peg) : cmpP p r = 0 ↔ p = r := by
 constructor
 ·intro h
  unfold cmpP cmpI at h
  refine peg_ext ?_ ?_ <;> (repeat' split at h) <;> omega
 ·rintro rfl
  unfold cmpP cmpI
  repeat' split
  all_goals omega
theorem cmpL_bef : ∀ (a b : List S_impl_Peg), cmpL a b < 0 ↔ bef a b = true := by
 intro a
 induction a with
 | nil =>
  intro b
  unfold cmpL bef
  simp
 | cons p a ih =>
  intro b
  cases b with
  | nil =>
   unfold cmpL bef
   simp
  | cons r b =>
   unfold cmpL bef
   by_cases e : p = r
   ·rw [if_pos e, if_pos ((cmpP_zero p r).2 e)]
    exact ih b
   ·rw [if_neg e, if_neg (fun c => e ((cmpP_zero p r).1 c))]
    exact cmpP_lss p r
theorem ev_cmpL (a b : List S_impl_Peg) (hl : a.length = b.length) (hn : a.length ≤ 100000) : Ev (fun k => impl_comparePolygons.f k a b) (cmpL a b) := by
 unfold impl_comparePolygons.f slices_CompareFunc_impl_Peg_at_impl_comparePegs.f
 refine Ev.bind ?_ (Ev.now _)
 have go : ∀ (e i : Nat), i + e = a.length → Ev (fun k => slices_CompareFunc_impl_Peg_at_impl_comparePegs.l0 k a b a a.length i) (cmpL (a.drop i) (b.drop i)) := by
  intro e
  induction e with
  | zero =>
   intro i hi
   refine Ev.succ ?_
   obtain rfl : i = a.length := by omega
   simp (disch := omega) only [slices_CompareFunc_impl_Peg_at_impl_comparePegs.l0, if_neg]
   rw [List.drop_of_length_le (Nat.le_refl _)]
   exact Ev.now _
  | succ e ih =>
   intro i hi
   refine Ev.succ ?_
   have nxt := ih (i + 1) (by omega)
   rw [drop_pt (l := a) (i := i) (by omega), drop_pt (l := b) (i := i) (by omega)]
   simp (disch := omega) only [slices_CompareFunc_impl_Peg_at_impl_comparePegs.l0, if_pos, if_neg, rd_pt, w64]
   refine Ev.bind (ev_compare _ _) ?_
   unfold cmpL
   by_cases c : cmpP (pt a i) (pt b i) = 0
   ·simp only [if_pos c]
    exact nxt
   ·simp only [if_neg c]
    exact Ev.now _
 exact go a.length 0 (by omega)
/-! ### All frames -/
theorem tldi_down {n a j : Nat} (ha : a < n) (hj : j < n) : tldi n (a : Int) (-1) j = if j ≤ a then a - j else a + n - j := by
 unfold tldi
 split
 ·rw [show (a : Int) + (j : Int) * (-1) = ((a - j : Nat) : Int) by omega, Int.emod_eq_of_lt (by omega) (by omega)]
  omega
 ·rw [show (a : Int) + (j : Int) * (-1) = ((a + n - j : Nat) : Int) + (n : Int) * (-1) by omega, Int.add_mul_emod_self_left, Int.emod_eq_of_lt (by omega) (by omega)]
  omega
theorem tld_sm {l : List S_impl_Peg} {B a s : Int} (h : ∀ i, i < l.length → Sm B (pt l i)) : ∀ i, i < (tld l a s).length → Sm B (pt (tld l a s) i) := by
 intro i hi
 rw [tld_length] at hi
 rw [tld_pt _ _ hi]
 exact h _ (tldi_lt _ _ _ (by omega))
theorem tn_rev (a b c : S_impl_Peg) : tn c b a = - tn a b c := by
 unfold tn
 grind
/-- Lists that turn at each corner. -/
structure Trn (l : List S_impl_Peg) : Prop where
 lo : 3 ≤ l.length
 hi : l.length ≤ 10
 pegs : ∀ i, i < l.length → Sm 100 (pt l i)
 turns : ∀ i, i < l.length → tn (pt l (pv l.length i)) (pt l i) (pt l (nx l.length i)) ≠ 0
namespace Trn
variable {l : List S_impl_Peg} (h : Trn l)
include h
theorem turn_at {i j k : Nat} (hi : i < l.length) (hj : j < l.length) (hk : k < l.length) (e1 : j = nx l.length i) (e2 : k = nx l.length j) : tn (pt l i) (pt l j) (pt l k) ≠ 0 := by
 have := h.turns j hj
 rw [← e2] at this
 have p : pv l.length j = i := by
  rw [e1]
  exact pv_nx hi
 rw [p] at this
 exact this
theorem fr_up {a : Nat} (ha : a < l.length) : FrOK (tld l a 1) := by
 have h3 := h.lo
 have h9 := h.hi
 refine ⟨by rw [tld_length]; exact h3, by rw [tld_length]; exact h9, tld_sm h.pegs, ?_⟩
 rw [tld_pt _ _ (by omega), tld_pt _ _ (by omega), tld_pt _ _ (by omega)]
 refine h.turn_at (tldi_lt _ _ _ (by omega)) (tldi_lt _ _ _ (by omega)) (tldi_lt _ _ _ (by omega)) ?_ ?_
 ·rw [tldi1 ha (by omega), tldi1 ha (by omega)]
  unfold nx
  repeat' split
  all_goals omega
 ·rw [tldi1 ha (by omega), tldi1 ha (by omega)]
  unfold nx
  repeat' split
  all_goals omega
theorem fr_down {a : Nat} (ha : a < l.length) : FrOK (tld l a (-1)) := by
 have h3 := h.lo
 have h9 := h.hi
 refine ⟨by rw [tld_length]; exact h3, by rw [tld_length]; exact h9, tld_sm h.pegs, ?_⟩
 rw [tld_pt _ _ (by omega), tld_pt _ _ (by omega), tld_pt _ _ (by omega), tn_rev]
 have := h.turn_at (i := tldi l.length a (-1) 2) (j := tldi l.length a (-1) 1) (k := tldi l.length a (-1) 0) (tldi_lt _ _ _ (by omega)) (tldi_lt _ _ _ (by omega)) (tldi_lt _ _ _ (by omega)) (by
  rw [tldi_down ha (by omega), tldi_down ha (by omega)]
  unfold nx
  repeat' split
  all_goals omega) (by
  rw [tldi_down ha (by omega), tldi_down ha (by omega)]
  unfold nx
  repeat' split
  all_goals omega)
 omega
end Trn
/-- The list that is told backwards, from another corner on. -/
theorem tld_back {l : List S_impl_Peg} {a : Nat} (ha : a < l.length) : tld (tld l 0 (-1)) (a : Int) 1 = tld l ((if a = 0 then 0 else l.length - a : Nat) : Int) (-1) := by
 have e1 : (tld l 0 (-1)).length = l.length := tld_length _ _ _
 have : ∀ m, m = l.length → (List.range m).map (fun k => pt (tld l 0 (-1)) (tldi m a 1 k)) = (List.range l.length).map fun k => pt l (tldi l.length ((if a = 0 then 0 else l.length - a : Nat) : Int) (-1) k) := by
  intro m hm
  subst hm
  refine List.map_congr_left fun j hj => ?_
  rw [List.mem_range] at hj
  rw [tldi1 ha hj, tld_pt _ _ (by split <;> omega), tldi_back (by split <;> omega), tldi_down (by split <;> omega) hj]
  congr 1
  repeat' split
  all_goals omega
 exact this _ e1
def FP (l : List S_impl_Peg) (x : List S_impl_Peg) : Prop := ∃ a : Nat, a < l.length ∧ (x = fr (tld l (a : Int) 1) ∨ x = fr (tld l (a : Int) (-1)))
theorem FP_len {l x : List S_impl_Peg} (h : FP l x) : x.length = l.length := by
 obtain ⟨a, ha, rfl | rfl⟩ := h <;> rw [fr_length, tld_length]
/-- The first one of all frames. -/
def Least (l R : List S_impl_Peg) : Prop := FP l R ∧ ∀ x, FP l x → bef x R = false
theorem Least.uni {l R S : List S_impl_Peg} (h : Least l R) (k : Least l S) : R = S :=
 bef_tot R S (by rw [FP_len h.1, FP_len k.1]) (k.2 R h.1) (h.2 S k.1)
def fs (l : List S_impl_Peg) : List (List S_impl_Peg) := (List.range l.length).map (fun (a : Nat) => fr (tld l (a : Int) 1)) ++ (List.range l.length).map (fun (a : Nat) => fr (tld (tld l 0 (-1)) (a : Int) 1))
theorem fs_length (l : List S_impl_Peg) : (fs l).length = l.length + l.length := by simp [fs]
theorem rd_l3 (x : List (List S_impl_Peg)) (i : Nat) : rd_L3 x (i : Int) = x.getD i [] := by
 unfold rd_L3
 rw [Int.toNat_natCast]
theorem fs_get {l : List S_impl_Peg} {i : Nat} (hi : i < l.length + l.length) : (fs l).getD i [] = if i < l.length then fr (tld l (i : Int) 1) else fr (tld (tld l 0 (-1)) ((i - l.length : Nat) : Int) 1) := by
 unfold fs
 rw [List.getD_eq_getElem?_getD]
 split
 ·rename_i c
  rw [List.getElem?_append_left (by simpa using c)]
  simp [c]
 ·rename_i c
  rw [List.getElem?_append_right (by simpa using c)]
  simp only [List.length_map, List.length_range]
  have : i - l.length < l.length := by omega
  simp [this]
theorem fs_FP {l : List S_impl_Peg} {i : Nat} (hi : i < l.length + l.length) : FP l ((fs l).getD i []) := by
 rw [fs_get hi]
 split
 ·rename_i c
  exact ⟨i, c, Or.inl rfl⟩
 ·rename_i c
  exact ⟨if i - l.length = 0 then 0 else l.length - (i - l.length), by split <;> omega, Or.inr (by rw [tld_back (by omega)])⟩
theorem FP_fs {l x : List S_impl_Peg} (h : FP l x) : ∃ i, i < l.length + l.length ∧ x = (fs l).getD i [] := by
 obtain ⟨a, ha, rfl | rfl⟩ := h
 ·refine ⟨a, by omega, ?_⟩
  rw [fs_get (by omega), if_pos ha]
 ·refine ⟨l.length + (if a = 0 then 0 else l.length - a), by split <;> omega, ?_⟩
  rw [fs_get (by split <;> omega), if_neg (by omega), tld_back (by split <;> omega)]
  congr 2
  repeat' split
  all_goals omega
/-- The first one of the first i frames. -/
def mnN (f : List (List S_impl_Peg)) : Nat → List S_impl_Peg
 | 0 => []
 | i + 1 => if (mnN f i).length = 0 then f.getD i [] else if bef (f.getD i []) (mnN f i) = true then f.getD i [] else mnN f i
def kd (l : List S_impl_Peg) : List S_impl_Peg := mnN (fs l) (l.length + l.length)
theorem mn_least {l : List S_impl_Peg} (h0 : 0 < l.length) : ∀ i, i ≤ l.length + l.length → 0 < i → FP l (mnN (fs l) i) ∧ ∀ j, j < i → bef ((fs l).getD j []) (mnN (fs l) i) = false := by
 intro i
 induction i with
 | zero => omega
 | succ i ih =>
  intro hi _
  have fp := fs_FP (l := l) (i := i) (by omega)
  unfold mnN
  by_cases c : i = 0
  ·subst c
   rw [if_pos (show (mnN (fs l) 0).length = 0 from rfl)]
   refine ⟨fp, fun j hj => ?_⟩
   obtain rfl : j = 0 := by omega
   exact bef_irr _
  ·obtain ⟨h1, h2⟩ := ih (by omega) (by omega)
   have := FP_len h1
   rw [if_neg (by omega)]
   by_cases b : bef ((fs l).getD i []) (mnN (fs l) i) = true
   ·rw [if_pos b]
    refine ⟨fp, fun j hj => ?_⟩
    by_cases e : j = i
    ·rw [e]
     exact bef_irr _
    ·refine Bool.eq_false_iff.2 fun x => ?_
     have := bef_tr _ _ _ x b
     rw [h2 j (by omega)] at this
     exact absurd this (by simp)
   ·rw [if_neg b]
    refine ⟨h1, fun j hj => ?_⟩
    by_cases e : j = i
    ·rw [e]
     exact Bool.eq_false_iff.2 b
    ·exact h2 j (by omega)
theorem kd_least {l : List S_impl_Peg} (h0 : 0 < l.length) : Least l (kd l) := by
 obtain ⟨h1, h2⟩ := mn_least h0 (l.length + l.length) (Nat.le_refl _) (by omega)
 refine ⟨h1, fun x hx => ?_⟩
 obtain ⟨i, hi, rfl⟩ := FP_fs hx
 exact h2 i hi
theorem kd_length {l : List S_impl_Peg} (h0 : 0 < l.length) : (kd l).length = l.length := FP_len (kd_least h0).1
namespace Trn
variable {l : List S_impl_Peg} (h : Trn l)
include h
theorem ev_frames : Ev (fun k => spec_mvFrames.f k l) (fs l) := by
 unfold spec_mvFrames.f
 have h3 := h.lo
 have h9 := h.hi
 refine Ev.bind (ev_spec_back l (by omega) (by omega)) ?_
 simp only [Option.bind_some]
 have el : (tld l 0 (-1)).length = l.length := tld_length _ _ _
 -- one of the two sides
 have side : ∀ (s : List S_impl_Peg) (X : List (List S_impl_Peg)) (y : List (List S_impl_Peg)) (r : List (List S_impl_Peg)) (x11 : Int) (z : Nat), z ≤ 10 → s.length = l.length → (∀ a : Nat, a < l.length → FrOK (tld s (a : Int) 1)) → X.length ≤ 100 →
   Ev (fun k => spec_mvFrames.l0 k (X ++ (List.range l.length).map (fun (a : Nat) => fr (tld s (a : Int) 1))) y x11 ((z : Int) + 1)) r → Ev (fun k => spec_mvFrames.l1 k X s y x11 z s.length 0) r := by
  intro s X y r x11 z hz hs hok hX hr
  have go : ∀ (e i : Nat), i + e = l.length → Ev (fun k => spec_mvFrames.l1 k (X ++ ((List.range l.length).map (fun (a : Nat) => fr (tld s (a : Int) 1))).take i) s y x11 z s.length i) r := by
   intro e
   induction e with
   | zero =>
    intro i hi
    refine Ev.succ ?_
    obtain rfl : i = l.length := by omega
    simp (disch := omega) only [spec_mvFrames.l1, if_neg, w64]
    rw [List.take_of_length_le (by simp)]
    exact hr
   | succ e ih =>
    intro i hi
    refine Ev.succ ?_
    have hil : i < l.length := by omega
    have nxt := ih (i + 1) (by omega)
    rw [rmap_take hil, ← List.append_assoc] at nxt
    have hlen : (X ++ ((List.range l.length).map (fun (a : Nat) => fr (tld s (a : Int) 1))).take i).length = X.length + i := by
     rw [List.length_append, rmap_take_length (by omega)]
    have ed : (s.drop i).length = s.length - i := List.length_drop
    have et : (s.take i).length = i := by
     rw [List.length_take]
     omega
    simp (disch := omega) only [spec_mvFrames.l1, if_pos, Option.bind_some, Int.toNat_natCast, List.nil_append, List.length_nil, ed, et, hlen, w64]
    have e1 := tld_turn (l := s) (a := i) (by omega)
    rw [e1]
    exact Ev.bind ((hok i hil).ev_spec) nxt
  have := go l.length 0 (by omega)
  simpa using this
 have up := fun (a : Nat) (ha : a < l.length) => h.fr_up ha
 have down := fun (a : Nat) (ha : a < l.length) => (by
  rw [tld_back ha]
  exact h.fr_down (by split <;> omega) : FrOK (tld (tld l 0 (-1)) (a : Int) 1))
 have r0 : rd_L3 [l, tld l 0 (-1)] 0 = l := rfl
 have r1 : rd_L3 [l, tld l 0 (-1)] (0 + 1) = tld l 0 (-1) := rfl
 have n2 : ([l, tld l 0 (-1)] : List (List S_impl_Peg)).length = 2 := rfl
 rw [n2]
 refine Ev.succ ?_
 simp (disch := omega) only [spec_mvFrames.l0, if_pos, n2, r0]
 have s0 := side l [] [l, tld l 0 (-1)] (fs l) 2 0 (by omega) rfl up (by simp)
 refine s0 ?_
 rw [List.nil_append]
 refine Ev.succ ?_
 simp (disch := omega) only [spec_mvFrames.l0, if_pos, n2, r1]
 have s1 := side (tld l 0 (-1)) ((List.range l.length).map (fun (a : Nat) => fr (tld l (a : Int) 1))) [l, tld l 0 (-1)] (fs l) 2 1 (by omega) el down (by simp; omega)
 refine s1 ?_
 refine Ev.succ ?_
 simp (disch := omega) only [spec_mvFrames.l0, if_neg]
 exact Ev.now _
theorem ev_spec_kind : Ev (fun k => spec_mvKind.f k l) (kd l) := by
 unfold spec_mvKind.f
 have h3 := h.lo
 have h9 := h.hi
 refine Ev.bind h.ev_frames ?_
 have hf := fs_length l
 have go : ∀ (e i : Nat), i + e = l.length + l.length → Ev (fun k => spec_mvKind.l0 k (mnN (fs l) i) (fs l) ((fs l).length : Int) i) (kd l) := by
  intro e
  induction e with
  | zero =>
   intro i hi
   refine Ev.succ ?_
   obtain rfl : i = l.length + l.length := by omega
   simp (disch := omega) only [spec_mvKind.l0, if_neg]
   exact Ev.now _
  | succ e ih =>
   intro i hi
   refine Ev.succ ?_
   have nxt := ih (i + 1) (by omega)
   unfold mnN at nxt
   simp (disch := omega) only [spec_mvKind.l0, if_pos, rd_l3, w64]
   by_cases c : (mnN (fs l) i).length = 0
   ·rw [if_pos c] at nxt
    simp (disch := omega) only [if_pos]
    exact nxt
   ·rw [if_neg c] at nxt
    simp (disch := omega) only [if_neg]
    have i0 : 0 < i := by
     refine Nat.pos_of_ne_zero fun e => c ?_
     rw [e]
     rfl
    have q := FP_len (mn_least (l := l) (by omega) i (by omega) i0).1
    have q2 := FP_len (fs_FP (l := l) (i := i) (by omega))
    refine Ev.bind (ev_before _ _ (by omega) (by omega)) ?_
    by_cases b : bef ((fs l).getD i []) (mnN (fs l) i) = true
    ·rw [if_pos b] at nxt
     simp only [if_pos b]
     exact nxt
    ·rw [if_neg b] at nxt
     simp only [if_neg b]
     exact nxt
 exact go (l.length + l.length) 0 (by omega)
theorem ev_impl_kind : Ev (fun k => impl_firstFrame.f k l) (kd l) := by
 unfold impl_firstFrame.f
 have h3 := h.lo
 have h9 := h.hi
 have t0 : tld l ((0 : Nat) : Int) 1 = l := tld_zero l
 have f0 := h.fr_up (a := 0) (by omega)
 rw [t0] at f0
 refine Ev.bind f0.ev_impl ?_
 -- one try
 have one : ∀ (a s : Int) (b R x15 : List S_impl_Peg), True := fun _ _ _ _ _ => trivial
 have go : ∀ (e i : Nat) (b : List S_impl_Peg), i + e = l.length → FP l b → (∀ j : Nat, j < i → bef (fr (tld l (j : Int) 1)) b = false ∧ bef (fr (tld l (j : Int) (-1))) b = false) → Ev (fun k => impl_firstFrame.l0 k l b l.length i) (kd l) := by
  intro e
  induction e with
  | zero =>
   intro i b hi hb hj
   refine Ev.succ ?_
   obtain rfl : i = l.length := by omega
   simp (disch := omega) only [impl_firstFrame.l0, if_neg]
   refine Ev.some ?_
   refine Least.uni ⟨hb, fun x hx => ?_⟩ (kd_least (by omega))
   obtain ⟨a, ha, rfl | rfl⟩ := hx
   ·exact (hj a ha).1
   ·exact (hj a ha).2
  | succ e ih =>
   intro i b hi hb hj
   refine Ev.succ ?_
   have hil : i < l.length := by omega
   have n2 : ([1, -1] : List Int).length = 2 := rfl
   have r0 : rd [1, -1] 0 = 1 := rfl
   have r1 : rd [1, -1] (0 + 1) = -1 := rfl
   have p1 : FP l (fr (tld l (i : Int) 1)) := ⟨i, hil, Or.inl rfl⟩
   have p2 : FP l (fr (tld l (i : Int) (-1))) := ⟨i, hil, Or.inr rfl⟩
   simp (disch := omega) only [impl_firstFrame.l0, if_pos, Option.bind_some, n2]
   have try2 : ∀ c, FP l c → (∀ j : Nat, j < i → bef (fr (tld l (j : Int) 1)) c = false ∧ bef (fr (tld l (j : Int) (-1))) c = false) → bef (fr (tld l (i : Int) 1)) c = false → Ev (fun k => impl_firstFrame.l1 k l c i l.length i [1, -1] 2 (0 + 1)) (kd l) := by
    intro c hc hcj hci
    refine Ev.succ ?_
    simp (disch := omega) only [impl_firstFrame.l1, if_pos, n2, r1]
    refine Ev.bind (ev_told l (by omega) (by omega) (by omega)) ?_
    refine Ev.bind (h.fr_down hil).ev_impl ?_
    have q1 := FP_len p2
    have q2 := FP_len hc
    refine Ev.bind (ev_cmpL _ _ (by omega) (by omega)) ?_
    have last : ∀ d, FP l d → (∀ j : Nat, j < i + 1 → bef (fr (tld l (j : Int) 1)) d = false ∧ bef (fr (tld l (j : Int) (-1))) d = false) → Ev (fun k => impl_firstFrame.l1 k l d i l.length i [1, -1] 2 (wrap64 (0 + 1 + 1))) (kd l) := by
     intro d hd hdj
     refine Ev.succ ?_
     simp (disch := omega) only [impl_firstFrame.l1, if_neg, w64]
     exact ih (i + 1) d (by omega) hd hdj
    by_cases b2 : bef (fr (tld l (i : Int) (-1))) c = true
    ·simp only [if_pos ((cmpL_bef _ _).2 b2)]
     refine last _ p2 fun j hj1 => ?_
     have low : ∀ x, bef x c = false → bef x (fr (tld l (i : Int) (-1))) = false := fun x hx => Bool.eq_false_iff.2 fun y => by
      have := bef_tr _ _ _ y b2
      rw [hx] at this
      exact absurd this (by simp)
     by_cases ej : j = i
     ·subst ej
      exact ⟨low _ hci, bef_irr _⟩
     ·exact ⟨low _ (hcj j (by omega)).1, low _ (hcj j (by omega)).2⟩
    ·simp only [if_neg (fun y => b2 ((cmpL_bef _ _).1 y))]
     refine last _ hc fun j hj1 => ?_
     by_cases ej : j = i
     ·subst ej
      exact ⟨hci, Bool.eq_false_iff.2 b2⟩
     ·exact hcj j (by omega)
   refine Ev.succ ?_
   simp (disch := omega) only [impl_firstFrame.l1, if_pos, n2, r0]
   refine Ev.bind (ev_told l (by omega) (by omega) (by omega)) ?_
   refine Ev.bind (h.fr_up hil).ev_impl ?_
   have q1 := FP_len p1
   have q2 := FP_len hb
   refine Ev.bind (ev_cmpL _ _ (by omega) (by omega)) ?_
   by_cases b1 : bef (fr (tld l (i : Int) 1)) b = true
   ·simp only [if_pos ((cmpL_bef _ _).2 b1)]
    rw [w64 (x := 0 + 1) (by omega)]
    have low : ∀ x, bef x b = false → bef x (fr (tld l (i : Int) 1)) = false := fun x hx => Bool.eq_false_iff.2 fun y => by
     have := bef_tr _ _ _ y b1
     rw [hx] at this
     exact absurd this (by simp)
    exact try2 _ p1 (fun j hj1 => ⟨low _ (hj j hj1).1, low _ (hj j hj1).2⟩) (bef_irr _)
   ·simp only [if_neg (fun y => b1 ((cmpL_bef _ _).1 y))]
    rw [w64 (x := 0 + 1) (by omega)]
    exact try2 _ hb hj (Bool.eq_false_iff.2 b1)
 refine go l.length 0 (fr l) (by omega) ⟨0, by omega, Or.inl (by rw [t0])⟩ fun j hj => absurd hj (Nat.not_lt_zero _)
end Trn
theorem Poly.trn {l : List S_impl_Peg} (h : Poly l) : Trn l := ⟨h.lo, h.hi, fun i hi => (h.pegs i hi).mono (by omega), h.turns⟩
theorem Poly.ev_spec_kind {l : List S_impl_Peg} (h : Poly l) : Ev (fun k => spec_mvKind.f k l) (kd l) := h.trn.ev_spec_kind
theorem Poly.ev_impl_kind {l : List S_impl_Peg} (h : Poly l) : Ev (fun k => impl_firstFrame.f k l) (kd l) := h.trn.ev_impl_kind

end Go.Proofs.Ytfihohongkfibaa.B
