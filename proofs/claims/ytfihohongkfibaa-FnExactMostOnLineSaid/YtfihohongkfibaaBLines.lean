-- thin
/- How many points lie on each line across, in the reference and in the program. -/
import Derived.Test.YtfihohongkfibaaX0
import Derived.Test.YtfihohongkfibaaX8
import Derived.Test.YtfihohongkfibaaX16
import Derived.Test.YtfihohongkfibaaBBase
import Derived.Test.YtfihohongkfibaaBCore
import Derived.Test.YtfihohongkfibaaBPoly
import Derived.Test.YtfihohongkfibaaBAsk
import Derived.Test.YtfihohongkfibaaBArea
import Derived.Test.YtfihohongkfibaaBSteps
import Derived.Test.YtfihohongkfibaaBMinMax
import Derived.Test.YtfihohongkfibaaBRange
import Derived.Test.YtfihohongkfibaaBWidth
import Derived.Test.YtfihohongkfibaaBWhere
import Derived.Test.YtfihohongkfibaaBBox
import Derived.Test.YtfihohongkfibaaBGrid
import Derived.Test.YtfihohongkfibaaBSide
namespace Go.Proofs.Ytfihohongkfibaa.B
open Go.RowKit Go.Proofs.Ytfihohongkfibaa.XW Go.Proofs.Ytfihohongkfibaa.X Go.Proofs.YtfihohongkfibaaW.PrintWords Go.Proofs.YtfihohongkfibaaW.PrintLast Go.Proofs.Ytfihohongkfibaa.B
set_option linter.unusedVariables false
set_option linter.unusedSimpArgs false
set_option maxRecDepth 20000

/-- One point counted on its line. -/
def cel (l : List S_impl_Peg) (u v b x y : Int) (c : List Int) : List Int := if wh l ⟨x, y⟩ ≥ 0 then c.set (vl u v ⟨x, y⟩ - b).toNat (rd c (vl u v ⟨x, y⟩ - b) + 1) else c
def fld (f : Int → List Int → List Int) : Nat → Int → List Int → List Int
 | 0, _, c => c
 | d + 1, x, c => fld f d (x + 1) (f x c)
theorem fld_append (f : Int → List Int → List Int) : ∀ (m n : Nat) (x : Int) (c : List Int), fld f (m + n) x c = fld f n (x + m) (fld f m x c) := by
 intro m
 induction m with
 | zero =>
  intro n x c
  simp [fld]
 | succ m ih =>
  intro n x c
  rw [show m + 1 + n = (m + n) + 1 by omega]
  show fld f (m + n) (x + 1) (f x c) = fld f n (x + ((m + 1 : Nat) : Int)) (fld f m (x + 1) (f x c))
  rw [ih]
  congr 1
  omega
theorem fld_id {f : Int → List Int → List Int} : ∀ (d : Nat) (x : Int) (c : List Int), (∀ y, x ≤ y → y < x + d → ∀ c, f y c = c) → fld f d x c = c := by
 intro d
 induction d with
 | zero =>
  intro x c h
  rfl
 | succ d ih =>
  intro x c h
  show fld f d (x + 1) (f x c) = c
  rw [h x (by omega) (by omega)]
  exact ih (x + 1) c (fun y h1 h2 => h y (by omega) (by omega))
theorem fld_part {f : Int → List Int → List Int} {d : Nat} {x lo hi : Int} (c : List Int) (h1 : x ≤ lo) (h2 : lo ≤ hi + 1) (h3 : hi < x + d) (h : ∀ y, (y < lo ∨ hi < y) → ∀ c, f y c = c) : fld f d x c = fld f (hi - lo + 1).toNat lo c := by
 have e : d = (lo - x).toNat + ((hi - lo + 1).toNat + (d - (lo - x).toNat - (hi - lo + 1).toNat)) := by omega
 rw [e, fld_append, fld_append, fld_id (lo - x).toNat x c (fun y a b => h y (by omega))]
 rw [fld_id (f := f) (d - (lo - x).toNat - (hi - lo + 1).toNat) _ _ (fun y a b => h y (by omega))]
 congr 1
 omega
/-- So many cells, none beyond so many points. -/
def Cnt (m : Nat) (c : List Int) (n : Int) : Prop := c.length = m ∧ ∀ i : Int, 0 ≤ rd c i ∧ rd c i ≤ n
theorem Cnt.mono {m : Nat} {c : List Int} {n n' : Int} (h : Cnt m c n) (hn : n ≤ n') : Cnt m c n' := ⟨h.1, fun i => by have := h.2 i; omega⟩
theorem rd_set {c : List Int} {i j : Int} {a : Int} (h0 : 0 ≤ i) (h : i < c.length) : rd (c.set i.toNat a) j = if j.toNat = i.toNat then a else rd c j := by
 unfold rd
 rw [List.getD_eq_getElem?_getD, List.getD_eq_getElem?_getD]
 split
 ·rename_i e
  rw [e, List.getElem?_set_self (by omega)]
  rfl
 ·rename_i e
  rw [List.getElem?_set_ne (by omega)]
theorem Cnt.set {m : Nat} {c : List Int} {n i : Int} (h : Cnt m c n) (h0 : 0 ≤ i) (hi : i < m) : Cnt m (c.set i.toNat (rd c i + 1)) (n + 1) := by
 refine ⟨by simp [h.1], fun j => ?_⟩
 rw [rd_set h0 (by rw [h.1]; exact hi)]
 have a := h.2 i
 have b := h.2 j
 split <;> omega
theorem Cnt.zero (m : Nat) : Cnt m (List.replicate m 0) 0 := by
 refine ⟨by simp, fun i => ?_⟩
 unfold rd
 rw [List.getD_eq_getElem?_getD]
 by_cases h : i.toNat < m
 ·rw [List.getElem?_replicate]
  simp [h]
 ·rw [List.getElem?_eq_none (by simp; omega)]
  simp
section
variable {l : List S_impl_Peg} {u v b t : Int} {m : Nat} (ok : Poly l) (hu : -200 ≤ u ∧ u ≤ 200) (hv : -200 ≤ v ∧ v ≤ 200) (hb : -20000 ≤ b ∧ b ≤ 20000) (hm : (m : Int) = t - b + 1) (ht : -20000 ≤ t ∧ t ≤ 20000) (hr : ∀ p, 0 ≤ wh l p → b ≤ vl u v p ∧ vl u v p ≤ t)
include hm hr in
theorem Cnt.cel {c : List Int} {n x y : Int} (h : Cnt m c n) : Cnt m (cel l u v b x y c) (n + 1) := by
 unfold B.cel
 split
 ·rename_i hw
  have := hr ⟨x, y⟩ hw
  exact h.set (by omega) (by omega)
 ·exact h.mono (by omega)
include ok hu hv hb hm ht hr in
/-- The reference's step. -/
theorem ev_spec_lines : Ev (fun k => spec_wiLines.l0 k l u v b (List.replicate m 0) (-40)) (fld (fun x => fld (cel l u v b x) 81 (-40)) 81 (-40) (List.replicate m 0)) := by
 have inn : ∀ (x : Int) (R : List Int → List Int), -40 ≤ x → x ≤ 40 → (∀ acc : List Int, Cnt m acc (81 * (x + 41)) → Ev (fun k => spec_wiLines.l0 k l u v b acc (x + 1)) (R acc)) →
   ∀ (d : Nat) (y : Int) (acc : List Int), -40 ≤ y → y + d = 41 → Cnt m acc (81 * (x + 40) + (y + 40)) → Ev (fun k => spec_wiLines.l1 k l u v b acc x y) (R (fld (cel l u v b x) d y acc)) := by
  intro x R hx1 hx2 hR d
  induction d with
  | zero =>
   intro y acc hy1 hy2 ha
   refine Ev.succ ?_
   simp (disch := omega) only [spec_wiLines.l1, if_neg, w64]
   exact hR acc (ha.mono (by omega))
  | succ d ih =>
   intro y acc hy1 hy2 ha
   refine Ev.succ ?_
   have hsm : Sm 1000000 ⟨x, y⟩ := by unfold Sm; simp only; omega
   have hw := ok.swhere (p := ⟨x, y⟩) hsm
   have hv' := vl_w (u := u) (v := v) (p := ⟨x, y⟩) (by omega) (by omega) hsm
   simp only at hv'
   simp (disch := omega) only [spec_wiLines.l1, if_pos]
   rw [hv']
   refine Ev.bind hw ?_
   have hc := Cnt.cel (hm := hm) (hr := hr) (x := x) (y := y) ha
   have nxt := ih (y + 1) (cel l u v b x y acc) (by omega) (by omega) (hc.mono (by omega))
   show Ev _ (R (fld (cel l u v b x) d (y + 1) (cel l u v b x y acc)))
   by_cases hp : wh l ⟨x, y⟩ ≥ 0
   ·have := hr ⟨x, y⟩ hp
    have hrd := ha.2 (vl u v ⟨x, y⟩ - b)
    have hlen := ha.1
    have e : cel l u v b x y acc = acc.set (vl u v ⟨x, y⟩ - b).toNat (rd acc (vl u v ⟨x, y⟩ - b) + 1) := by unfold cel; rw [if_pos hp]
    rw [e] at nxt ⊢
    simp (disch := omega) only [if_pos, w64, hp]
    exact nxt
   ·have e : cel l u v b x y acc = acc := by unfold cel; rw [if_neg hp]
    rw [e] at nxt ⊢
    simp (disch := omega) only [if_neg hp, w64]
    exact nxt
 have out : ∀ (d : Nat) (x : Int) (acc : List Int), -40 ≤ x → x + d = 41 → Cnt m acc (81 * (x + 40)) → Ev (fun k => spec_wiLines.l0 k l u v b acc x) (fld (fun x => fld (cel l u v b x) 81 (-40)) d x acc) := by
  intro d
  induction d with
  | zero =>
   intro x acc h1 h2 ha
   refine Ev.succ ?_
   simp (disch := omega) only [spec_wiLines.l0, if_neg]
   exact Ev.now _
  | succ d ih =>
   intro x acc h1 h2 ha
   refine Ev.succ ?_
   simp (disch := omega) only [spec_wiLines.l0, if_pos]
   refine inn x (fun a => fld (fun x => fld (cel l u v b x) 81 (-40)) d (x + 1) a) (by omega) (by omega) (fun a h => ih (x + 1) a (by omega) (by omega) (h.mono (by omega))) 81 (-40) acc (by omega) (by omega) (ha.mono (by omega))
 exact out 81 (-40) _ (by omega) (by omega) ((Cnt.zero m).mono (by omega))
include ok hu hv hb hm ht hr in
theorem ev_impl_lines {lx ly hx hy : Int} (a0 : -40 ≤ lx ∧ lx ≤ 40) (a1 : -40 ≤ ly ∧ ly ≤ 40) (b0 : -40 ≤ hx ∧ hx ≤ 40) (b1 : -40 ≤ hy ∧ hy ≤ 40) (c0 : lx ≤ hx) (c1 : ly ≤ hy) :
  Ev (fun k => impl_PegsPerLine.l0 k l b (List.replicate m 0) lx u v lx ly hx hy) (fld (fun x => fld (cel l u v b x) (hy - ly + 1).toNat ly) (hx - lx + 1).toNat lx (List.replicate m 0), true) := by
 have inn : ∀ (x : Int) (R : List Int → List Int × Bool), -40 ≤ x → x ≤ 40 → (∀ acc : List Int, Cnt m acc (81 * (x + 41)) → Ev (fun k => impl_PegsPerLine.l0 k l b acc (x + 1) u v lx ly hx hy) (R acc)) →
   ∀ (d : Nat) (y : Int) (acc : List Int), -40 ≤ y → y + d = hy + 1 → Cnt m acc (81 * (x + 40) + (y + 40)) → Ev (fun k => impl_PegsPerLine.l1 k l b acc x y u v lx ly hx hy) (R (fld (cel l u v b x) d y acc)) := by
  intro x R hx1 hx2 hR d
  induction d with
  | zero =>
   intro y acc hy1 hy2 ha
   refine Ev.succ ?_
   simp (disch := omega) only [impl_PegsPerLine.l1, if_neg, w64]
   exact hR acc (ha.mono (by omega))
  | succ d ih =>
   intro y acc hy1 hy2 ha
   refine Ev.succ ?_
   have hsm : Sm 1000000 ⟨x, y⟩ := by unfold Sm; simp only; omega
   have hw := ok.where_ (p := ⟨x, y⟩) hsm
   have hv' := impl_value_eq (u := u) (v := v) (p := ⟨x, y⟩) (by omega) (by omega) hsm
   simp only at hv'
   simp (disch := omega) only [impl_PegsPerLine.l1, if_pos, hv', Option.bind_some]
   refine Ev.bind hw ?_
   have hc := Cnt.cel (hm := hm) (hr := hr) (x := x) (y := y) ha
   have nxt := ih (y + 1) (cel l u v b x y acc) (by omega) (by omega) (hc.mono (by omega))
   show Ev _ (R (fld (cel l u v b x) d (y + 1) (cel l u v b x y acc)))
   by_cases hp : wh l ⟨x, y⟩ ≥ 0
   ·have := hr ⟨x, y⟩ hp
    have hrd := ha.2 (vl u v ⟨x, y⟩ - b)
    have hlen := ha.1
    have e : cel l u v b x y acc = acc.set (vl u v ⟨x, y⟩ - b).toNat (rd acc (vl u v ⟨x, y⟩ - b) + 1) := by unfold cel; rw [if_pos hp]
    rw [e] at nxt ⊢
    simp (disch := omega) only [if_pos, w64, hp]
    exact nxt
   ·have e : cel l u v b x y acc = acc := by unfold cel; rw [if_neg hp]
    rw [e] at nxt ⊢
    simp (disch := omega) only [if_neg hp, w64]
    exact nxt
 have out : ∀ (d : Nat) (x : Int) (acc : List Int), -40 ≤ x → x + d = hx + 1 → Cnt m acc (81 * (x + 40)) → Ev (fun k => impl_PegsPerLine.l0 k l b acc x u v lx ly hx hy) (fld (fun x => fld (cel l u v b x) (hy - ly + 1).toNat ly) d x acc, true) := by
  intro d
  induction d with
  | zero =>
   intro x acc h1 h2 ha
   refine Ev.succ ?_
   simp (disch := omega) only [impl_PegsPerLine.l0, if_neg]
   exact Ev.now _
  | succ d ih =>
   intro x acc h1 h2 ha
   refine Ev.succ ?_
   simp (disch := omega) only [impl_PegsPerLine.l0, if_pos]
   refine inn x (fun a => (fld (fun x => fld (cel l u v b x) (hy - ly + 1).toNat ly) d (x + 1) a, true)) (by omega) (by omega) (fun a h => ih (x + 1) a (by omega) (by omega) (h.mono (by omega))) (hy - ly + 1).toNat ly acc (by omega) (by omega) (ha.mono (by omega))
 exact out (hx - lx + 1).toNat lx _ (by omega) (by omega) ((Cnt.zero m).mono (by omega))
end
def lnB (l : List S_impl_Peg) (u v : Int) : Int := mnN (fun i => vl u v (pt l i)) l.length
def lnT (l : List S_impl_Peg) (u v : Int) : Int := mxN (fun i => vl u v (pt l i)) l.length
/-- How many points lie on each line across. -/
def lnN (l : List S_impl_Peg) (u v : Int) : List Int := fld (fun x => fld (cel l u v (lnB l u v) x) 81 (-40)) 81 (-40) (List.replicate (lnT l u v - lnB l u v + 1).toNat 0)
theorem cel_len (l : List S_impl_Peg) (u v b x y : Int) (c : List Int) : (cel l u v b x y c).length = c.length := by
 unfold cel
 split <;> simp
theorem fld_len {f : Int → List Int → List Int} (h : ∀ x c, (f x c).length = c.length) : ∀ (d : Nat) (x : Int) (c : List Int), (fld f d x c).length = c.length := by
 intro d
 induction d with
 | zero =>
  intro x c
  rfl
 | succ d ih =>
  intro x c
  show (fld f d (x + 1) (f x c)).length = c.length
  rw [ih, h]
theorem lnN_len (l : List S_impl_Peg) (u v : Int) : (lnN l u v).length = (lnT l u v - lnB l u v + 1).toNat := by
 unfold lnN
 rw [fld_len (fun x c => fld_len (fun y c => cel_len l u v _ x y c) 81 (-40) c)]
 simp
theorem ln_bd {l : List S_impl_Peg} (ok : Poly l) {u v : Int} (h : dirB u v = true) : (-20000 ≤ lnB l u v ∧ lnB l u v ≤ 20000) ∧ (-20000 ≤ lnT l u v ∧ lnT l u v ≤ 20000) ∧ lnB l u v ≤ lnT l u v := by
 obtain ⟨hu, hv⟩ := dirB_bd h
 have h3 := ok.lo
 have bd : ∀ i, i < l.length → -16000 ≤ vl u v (pt l i) ∧ vl u v (pt l i) ≤ 16000 := fun i hi => by
  have := ok.pegs i hi
  unfold Sm at this
  unfold vl
  have h1 := mul_bd (x := u) (y := (pt l i).f0) (A := 200) (B := 40) (by omega) (by omega)
  have h2 := mul_bd (x := v) (y := (pt l i).f1) (A := 200) (B := 40) (by omega) (by omega)
  omega
 have a := mnN_bd (f := fun i => vl u v (pt l i)) (m := l.length) (bd 0 (by omega)) bd
 have b := mxN_bd (f := fun i => vl u v (pt l i)) (m := l.length) (bd 0 (by omega)) bd
 have c := mnN_le (f := fun i => vl u v (pt l i)) (m := l.length) 0 (by omega)
 have d := le_mxN (f := fun i => vl u v (pt l i)) (m := l.length) 0 (by omega)
 unfold lnB lnT
 omega
noncomputable def ans_PegsPerLine (l : List S_impl_Peg) (u v : Int) : List Int × Bool := if wideB l u v = true then (lnN l u v, true) else ([], false)
theorem ans_PegsPerLine_len (l : List S_impl_Peg) (u v : Int) : (ans_PegsPerLine l u v).1.length ≤ 1099511627776 := by
 unfold ans_PegsPerLine
 split
 ·rename_i h
  obtain ⟨ok, hd⟩ := wideB_iff h
  have := ln_bd ok hd
  show (lnN l u v).length ≤ _
  rw [lnN_len]
  omega
 ·show 0 ≤ _
  omega
theorem ev_spec_wiLines (l : List S_impl_Peg) (u v : Int) (h : wideB l u v = true) : Ev (fun k => spec_wiLines.f k l u v) (lnN l u v) := by
 obtain ⟨ok, hd⟩ := wideB_iff h
 obtain ⟨hu, hv⟩ := dirB_bd hd
 obtain ⟨hb, ht, hbt⟩ := ln_bd ok hd
 have h3 := ok.lo
 have h10 := ok.hi
 unfold spec_wiLines.f
 refine Ev.bind (a := (lnB l u v, lnT l u v)) (ev_spec_range l u v (by omega) (by omega) (by omega) (by omega) (fun i hi => ok.big i hi)) ?_
 simp (disch := omega) only [w64, if_pos]
 exact ev_spec_lines (t := lnT l u v) ok hu hv hb (by omega) ht (fun p hp => wh_range (by omega) u v hp)
theorem ev_impl_PegsPerLine (l : List S_impl_Peg) (u v : Int) : Ev (fun k => impl_PegsPerLine.f k l u v) (ans_PegsPerLine l u v) := by
 unfold impl_PegsPerLine.f ans_PegsPerLine
 refine Ev.asked (ev_impl_wide l u v) (fun h => ?_) (fun h => ?_)
 ·rw [if_pos h]
  obtain ⟨ok, hd⟩ := wideB_iff h
  obtain ⟨hu, hv⟩ := dirB_bd hd
  obtain ⟨hb, ht, hbt⟩ := ln_bd ok hd
  have h3 := ok.lo
  have h10 := ok.hi
  simp only [if_true]
  refine Ev.bind (a := (lnB l u v, lnT l u v)) (ev_impl_extent l u v (by omega) (by omega) (by omega) (by omega) (fun i hi => ok.big i hi)) ?_
  simp (disch := omega) only [w64, if_pos]
  refine Ev.bind (ev_impl_box l (by omega) (by omega)) ?_
  have bd : ∀ i, i < l.length → (-40 ≤ (pt l i).f0 ∧ (pt l i).f0 ≤ 40) ∧ (-40 ≤ (pt l i).f1 ∧ (pt l i).f1 ≤ 40) := fun i hi => by
   have := ok.pegs i hi
   unfold Sm at this
   omega
  have a0 := mnN_bd (f := fun i => (pt l i).f0) (m := l.length) (A := -40) (B := 40) (bd 0 (by omega)).1 (fun i hi => (bd i hi).1)
  have a1 := mnN_bd (f := fun i => (pt l i).f1) (m := l.length) (A := -40) (B := 40) (bd 0 (by omega)).2 (fun i hi => (bd i hi).2)
  have b0 := mxN_bd (f := fun i => (pt l i).f0) (m := l.length) (A := -40) (B := 40) (bd 0 (by omega)).1 (fun i hi => (bd i hi).1)
  have b1 := mxN_bd (f := fun i => (pt l i).f1) (m := l.length) (A := -40) (B := 40) (bd 0 (by omega)).2 (fun i hi => (bd i hi).2)
  have c0 : mnN (fun i => (pt l i).f0) l.length ≤ mxN (fun i => (pt l i).f0) l.length := by
   have h1 := mnN_le (f := fun i => (pt l i).f0) (m := l.length) 0 (by omega)
   have h2 := le_mxN (f := fun i => (pt l i).f0) (m := l.length) 0 (by omega)
   omega
  have c1 : mnN (fun i => (pt l i).f1) l.length ≤ mxN (fun i => (pt l i).f1) l.length := by
   have h1 := mnN_le (f := fun i => (pt l i).f1) (m := l.length) 0 (by omega)
   have h2 := le_mxN (f := fun i => (pt l i).f1) (m := l.length) 0 (by omega)
   omega
  have hbox := wh_box' (l := l) (by omega)
  have hcel : ∀ x y, (x < mnN (fun i => (pt l i).f0) l.length ∨ mxN (fun i => (pt l i).f0) l.length < x ∨ y < mnN (fun i => (pt l i).f1) l.length ∨ mxN (fun i => (pt l i).f1) l.length < y) → ∀ c, cel l u v (lnB l u v) x y c = c := fun x y hxy c => by
   unfold cel
   rw [if_neg]
   have := hbox ⟨x, y⟩ hxy
   omega
  have e : lnN l u v = fld (fun x => fld (cel l u v (lnB l u v) x) (mxN (fun i => (pt l i).f1) l.length - mnN (fun i => (pt l i).f1) l.length + 1).toNat (mnN (fun i => (pt l i).f1) l.length)) (mxN (fun i => (pt l i).f0) l.length - mnN (fun i => (pt l i).f0) l.length + 1).toNat (mnN (fun i => (pt l i).f0) l.length) (List.replicate (lnT l u v - lnB l u v + 1).toNat 0) := by
   unfold lnN
   have e1 : (fun x => fld (cel l u v (lnB l u v) x) 81 (-40)) = fun x => fld (cel l u v (lnB l u v) x) (mxN (fun i => (pt l i).f1) l.length - mnN (fun i => (pt l i).f1) l.length + 1).toNat (mnN (fun i => (pt l i).f1) l.length) := by
    funext x c
    exact fld_part c (by omega) (by omega) (by omega) (fun y hy c => hcel x y (by omega) c)
   rw [e1]
   exact fld_part _ (by omega) (by omega) (by omega) (fun x hx c => fld_id _ _ c (fun y _ _ c => hcel x y (by omega) c))
  rw [e]
  exact ev_impl_lines (t := lnT l u v) ok hu hv hb (by omega) ht (fun p hp => wh_range (by omega) u v hp) a0 a1 b0 b1 c0 c1
 ·rw [if_neg (by rw [h]; simp)]
  exact Ev.now _

end Go.Proofs.Ytfihohongkfibaa.B
