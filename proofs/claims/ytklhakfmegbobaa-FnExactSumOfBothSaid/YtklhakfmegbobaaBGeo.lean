-- thin
/- A simple polygon has an area: plane geometry over whole numbers, by cutting at the first corner (an ear or a diagonal). -/
import Derived.Test.YtklhakfmegbobaaX0
import Derived.Test.YtklhakfmegbobaaBBase
namespace Go.Proofs.Ytklhakfmegbobaa.B
open Go.RowKit Go.Proofs.Ytklhakfmegbobaa.XW Go.Proofs.Ytklhakfmegbobaa.X Go.Proofs.YtklhakfmegbobaaW.PrintWords Go.Proofs.YtklhakfmegbobaaW.PrintLast Go.Proofs.Ytklhakfmegbobaa.B
set_option linter.unusedVariables false
set_option linter.unusedSimpArgs false
set_option maxRecDepth 20000

namespace Geo
/-- A homogeneous point. -/
structure Pt where
 x : Int
 y : Int
 z : Int
deriving DecidableEq
def lc (a : Int) (p : Pt) (b : Int) (q : Pt) : Pt := ⟨a * p.x + b * q.x, a * p.y + b * q.y, a * p.z + b * q.z⟩
def det (a b c : Pt) : Int := a.x * (b.y * c.z - b.z * c.y) - a.y * (b.x * c.z - b.z * c.x) + a.z * (b.x * c.y - b.y * c.x)
theorem det_rot' (a b c : Pt) : det a b c = det b c a := by simp only [det]; grind
theorem mpos {k P : Int} (h : 0 < k) (h2 : 0 < k * P) : 0 < P := by
 refine Int.not_le.1 fun c => ?_
 have := Int.mul_nonneg (Int.le_of_lt h) (show 0 ≤ -P by omega)
 rw [Int.mul_neg] at this
 omega
theorem mnn {k P : Int} (h : 0 < k) (h2 : 0 ≤ k * P) : 0 ≤ P := by
 refine Int.not_lt.1 fun c => ?_
 have := Int.mul_pos h (show 0 < -P by omega)
 rw [Int.mul_neg] at this
 omega
theorem mz {k P : Int} (h : 0 < k) (h2 : k * P = 0) : P = 0 := by
 rcases Int.mul_eq_zero.1 h2 with h3 | h3
 ·omega
 ·exact h3
theorem mnz {k P : Int} (h : 0 ≤ k) (h2 : 0 ≤ P) : 0 ≤ k * P := Int.mul_nonneg h h2
theorem posne {g : Int} (h : 0 ≤ g) (h2 : 0 = g → False) : 0 < g := Int.not_le.1 fun c => h2 (by omega)
/-- One of three functionals of a triangle, s its side. -/
def fu (s : Int) (_ v w y : Pt) : Int := s * det y v w
def fv (s : Int) (u _ w y : Pt) : Int := s * det u y w
def fw (s : Int) (u v _ y : Pt) : Int := s * det u v y
section
variable (s : Int) (u v w : Pt)
theorem fu_lc (a b : Int) (p q : Pt) : fu s u v w (lc a p b q) = a * fu s u v w p + b * fu s u v w q := by simp only [fu, det, lc]; grind
theorem fv_lc (a b : Int) (p q : Pt) : fv s u v w (lc a p b q) = a * fv s u v w p + b * fv s u v w q := by simp only [fv, det, lc]; grind
theorem fw_lc (a b : Int) (p q : Pt) : fw s u v w (lc a p b q) = a * fw s u v w p + b * fw s u v w q := by simp only [fw, det, lc]; grind
theorem fu_v : fu s u v w v = 0 := by simp only [fu, det]; grind
theorem fu_w : fu s u v w w = 0 := by simp only [fu, det]; grind
theorem fv_u : fv s u v w u = 0 := by simp only [fv, det]; grind
theorem fv_w : fv s u v w w = 0 := by simp only [fv, det]; grind
theorem fw_u : fw s u v w u = 0 := by simp only [fw, det]; grind
theorem fw_v : fw s u v w v = 0 := by simp only [fw, det]; grind
theorem fu_u : fu s u v w u = s * det u v w := rfl
theorem fv_v : fv s u v w v = s * det u v w := rfl
theorem fw_w : fw s u v w w = s * det u v w := rfl
theorem fsum (y : Pt) (hu : u.z = 1) (hv : v.z = 1) (hw : w.z = 1) : fu s u v w y + fv s u v w y + fw s u v w y = s * det u v w * y.z := by
 simp only [fu, fv, fw, det, hu, hv, hw]; grind
/-- Cramer. -/
theorem cramer (y : Pt) : lc 1 (lc (fu s u v w y) u (fv s u v w y) v) (fw s u v w y) w = lc (s * det u v w) y 0 y := by
 simp only [fu, fv, fw, det, lc, Pt.mk.injEq]
 refine ⟨?_, ?_, ?_⟩ <;> grind
end
/-- A point on a segment. -/
def On (p a b : Pt) : Prop := ∃ k α β : Int, 0 < k ∧ 0 ≤ α ∧ 0 ≤ β ∧ lc k p 0 p = lc α a β b
/-- A point that is a corner. -/
def Is (p c : Pt) : Prop := p = lc p.z c 0 c
theorem on_lc {a b : Int} {p q : Pt} (ha : 0 ≤ a) (hb : 0 ≤ b) : On (lc a p b q) p q := ⟨1, a, b, by omega, ha, hb, by simp [lc]⟩
/-- Two segments have at most corners of both in common. -/
def OK (a b c d : Pt) : Prop := ∀ p : Pt, 0 < p.z → On p a b → On p c d → ∃ e, (e = a ∨ e = b) ∧ (e = c ∨ e = d) ∧ Is p e
theorem On.swap {p a b : Pt} (h : On p a b) : On p b a := by
 obtain ⟨k, α, β, hk, ha, hb, h⟩ := h
 refine ⟨k, β, α, hk, hb, ha, ?_⟩
 rw [h]
 simp only [lc, Int.add_comm]
theorem OK.symm {a b c d : Pt} (h : OK a b c d) : OK c d a b := by
 intro p hz h1 h2
 obtain ⟨e, h3, h4, h5⟩ := h p hz h2 h1
 exact ⟨e, h4, h3, h5⟩
theorem OK.swap {a b c d : Pt} (h : OK a b c d) : OK b a c d := by
 intro p hz h1 h2
 obtain ⟨e, h3, h4, h5⟩ := h p hz h1.swap h2
 exact ⟨e, h3.symm, h4, h5⟩
theorem OK.swap2 {a b c d : Pt} (h : OK a b c d) : OK a b d c := h.symm.swap.symm
theorem Is.of {p e : Pt} {k α : Int} (he : e.z = 1) (hk : 0 < k) (h : lc k p 0 p = lc α e 0 e) : Is p e := by
 simp only [lc, Pt.mk.injEq, Int.zero_mul, Int.add_zero, he, Int.mul_one] at h
 obtain ⟨h1, h2, h3⟩ := h
 unfold Is
 cases p
 simp only [lc, Pt.mk.injEq, Int.zero_mul, Int.add_zero, he, Int.mul_one] at *
 subst h3
 refine ⟨?_, ?_, trivial⟩
 ·rw [Int.mul_assoc] at h1
  exact Int.eq_of_mul_eq_mul_left (by omega) h1
 ·rw [Int.mul_assoc] at h2
  exact Int.eq_of_mul_eq_mul_left (by omega) h2
section
variable {s : Int} {u v w : Pt}
def InT (s : Int) (u v w y : Pt) : Prop := 0 ≤ fu s u v w y ∧ 0 ≤ fv s u v w y ∧ 0 ≤ fw s u v w y
theorem on_vw {y : Pt} (T : 0 < s * det u v w) (h1 : fu s u v w y = 0) (h2 : 0 ≤ fv s u v w y) (h3 : 0 ≤ fw s u v w y) : On y v w := by
 refine ⟨_, _, _, T, h2, h3, ?_⟩
 rw [← cramer s u v w y, h1]
 simp only [lc, Pt.mk.injEq]
 refine ⟨?_, ?_, ?_⟩ <;> grind
theorem on_uv {y : Pt} (T : 0 < s * det u v w) (h1 : fw s u v w y = 0) (h2 : 0 ≤ fu s u v w y) (h3 : 0 ≤ fv s u v w y) : On y u v := by
 refine ⟨_, _, _, T, h2, h3, ?_⟩
 rw [← cramer s u v w y, h1]
 simp only [lc, Pt.mk.injEq]
 refine ⟨?_, ?_, ?_⟩ <;> grind
theorem Is.fu {p e : Pt} (h : Is p e) (s : Int) (u v w : Pt) : fu s u v w p = p.z * fu s u v w e := by
 have := congrArg (Geo.fu s u v w) h
 rw [fu_lc] at this
 simpa using this
theorem Is.fv {p e : Pt} (h : Is p e) (s : Int) (u v w : Pt) : fv s u v w p = p.z * fv s u v w e := by
 have := congrArg (Geo.fv s u v w) h
 rw [fv_lc] at this
 simpa using this
theorem Is.fw {p e : Pt} (h : Is p e) (s : Int) (u v w : Pt) : fw s u v w p = p.z * fw s u v w e := by
 have := congrArg (Geo.fw s u v w) h
 rw [fw_lc] at this
 simpa using this
theorem lfu {k α β : Int} {p a b : Pt} (h : lc k p 0 p = lc α a β b) (s : Int) (u v w : Pt) : k * fu s u v w p = α * fu s u v w a + β * fu s u v w b := by
 have := congrArg (Geo.fu s u v w) h
 rw [fu_lc, fu_lc] at this
 simpa using this
theorem lfv {k α β : Int} {p a b : Pt} (h : lc k p 0 p = lc α a β b) (s : Int) (u v w : Pt) : k * fv s u v w p = α * fv s u v w a + β * fv s u v w b := by
 have := congrArg (Geo.fv s u v w) h
 rw [fv_lc, fv_lc] at this
 simpa using this
theorem lfw {k α β : Int} {p a b : Pt} (h : lc k p 0 p = lc α a β b) (s : Int) (u v w : Pt) : k * fw s u v w p = α * fw s u v w a + β * fw s u v w b := by
 have := congrArg (Geo.fw s u v w) h
 rw [fw_lc, fw_lc] at this
 simpa using this
theorem lz {k α β : Int} {p a b : Pt} (h : lc k p 0 p = lc α a β b) : k * p.z = α * a.z + β * b.z := by
 have := congrArg Pt.z h
 simpa [lc] using this
/-- What goes out of a triangle meets one of two sides. -/
theorem exit (T : 0 < s * det u v w) {p c : Pt} (pu : 0 < fu s u v w p) (pv : 0 ≤ fv s u v w p) (pw : 0 < fw s u v w p) (cv : 0 ≤ fv s u v w c) (out : ¬ InT s u v w c) :
  ∃ (m n : Int), 0 < m ∧ 0 < n ∧ ((fu s u v w (lc m p n c) = 0 ∧ On (lc m p n c) v w) ∨ (fw s u v w (lc m p n c) = 0 ∧ On (lc m p n c) u v)) := by
 by_cases cu : fu s u v w c < 0
 ·by_cases h : 0 ≤ (-fu s u v w c) * fw s u v w p + fu s u v w p * fw s u v w c
  ·refine ⟨-fu s u v w c, fu s u v w p, by omega, pu, Or.inl ⟨?_, on_vw T ?_ ?_ ?_⟩⟩
   ·rw [fu_lc]; grind
   ·rw [fu_lc]; grind
   ·rw [fv_lc]
    have := mnz (show 0 ≤ -fu s u v w c by omega) pv
    have := mnz (Int.le_of_lt pu) cv
    omega
   ·rw [fw_lc]; exact h
  ·have cw : fw s u v w c < 0 := by
    refine Int.not_le.1 fun h1 => h ?_
    have := mnz (show 0 ≤ -fu s u v w c by omega) (Int.le_of_lt pw)
    have := mnz (Int.le_of_lt pu) h1
    omega
   refine ⟨-fw s u v w c, fw s u v w p, by omega, pw, Or.inr ⟨?_, on_uv T ?_ ?_ ?_⟩⟩
   ·rw [fw_lc]; grind
   ·rw [fw_lc]; grind
   ·rw [fu_lc]; grind
   ·rw [fv_lc]
    have := mnz (show 0 ≤ -fw s u v w c by omega) pv
    have := mnz (Int.le_of_lt pw) cv
    omega
 ·have cw : fw s u v w c < 0 := by
   refine Int.not_le.1 fun h1 => out ⟨by omega, cv, h1⟩
  refine ⟨-fw s u v w c, fw s u v w p, by omega, pw, Or.inr ⟨?_, on_uv T ?_ ?_ ?_⟩⟩
  ·rw [fw_lc]; grind
  ·rw [fw_lc]; grind
  ·rw [fu_lc]
   have := mnz (show 0 ≤ -fw s u v w c by omega) (Int.le_of_lt pu)
   have := mnz (Int.le_of_lt pw) (show 0 ≤ fu s u v w c by omega)
   omega
  ·rw [fv_lc]
   have := mnz (show 0 ≤ -fw s u v w c by omega) pv
   have := mnz (Int.le_of_lt pw) cv
   omega
theorem escape (T : 0 < s * det u v w) {p c d : Pt} (hz : 0 < p.z) (cz : c.z = 1) (pu : 0 < fu s u v w p) (pv : 0 ≤ fv s u v w p) (pw : 0 < fw s u v w p) (cv : 0 ≤ fv s u v w c) (out : ¬ InT s u v w c)
  {l γ δ : Int} (hl : 0 < l) (hγ : 0 < γ) (hδ : 0 ≤ δ) (h : lc l p 0 p = lc γ c δ d) (dv : d ≠ v) (o1 : OK u v c d) (o2 : OK v w c d) : False := by
 have iu : InT s u v w u := ⟨by rw [fu_u]; omega, by rw [fv_u]; omega, by rw [fw_u]; omega⟩
 have iv : InT s u v w v := ⟨by rw [fu_v]; omega, by rw [fv_v]; omega, by rw [fw_v]; omega⟩
 have iw : InT s u v w w := ⟨by rw [fu_w]; omega, by rw [fv_w]; omega, by rw [fw_w]; omega⟩
 obtain ⟨m, n, hm, hn, hy⟩ := exit T pu pv pw cv out
 have yz : 0 < (lc m p n c).z := by
  show 0 < m * p.z + n * c.z
  rw [cz]
  have := Int.mul_pos hm hz
  omega
 have yon : On (lc m p n c) c d := by
  refine ⟨l, m * γ + n * l, m * δ, hl, ?_, mnz (Int.le_of_lt hm) hδ, ?_⟩
  ·have := Int.mul_pos hm hγ
   have := Int.mul_pos hn hl
   omega
  ·simp only [lc, Pt.mk.injEq] at h ⊢
   obtain ⟨h1, h2, h3⟩ := h
   refine ⟨?_, ?_, ?_⟩ <;> grind
 rcases hy with ⟨h0, h1⟩ | ⟨h0, h1⟩
 ·obtain ⟨e, h2, h3, h4⟩ := o2 _ yz h1 yon
  rcases h2 with rfl | rfl
  ·rcases h3 with rfl | rfl
   ·exact out iv
   ·exact dv rfl
  ·rcases h3 with rfl | rfl
   ·exact out iw
   ·have h5 := lfu h s u v e
    rw [fu_w, Int.mul_zero, Int.add_zero] at h5
    have h6 := mpos hγ (h5 ▸ Int.mul_pos hl pu)
    rw [fu_lc] at h0
    have := Int.mul_pos hm pu
    have := Int.mul_pos hn h6
    omega
 ·obtain ⟨e, h2, h3, h4⟩ := o1 _ yz h1 yon
  rcases h2 with rfl | rfl
  ·rcases h3 with rfl | rfl
   ·exact out iu
   ·have h5 := lfw h s e v w
    rw [fw_u, Int.mul_zero, Int.add_zero] at h5
    have h6 := mpos hγ (h5 ▸ Int.mul_pos hl pw)
    rw [fw_lc] at h0
    have := Int.mul_pos hm pw
    have := Int.mul_pos hn h6
    omega
  ·rcases h3 with rfl | rfl
   ·exact out iv
   ·exact dv rfl
/-- The side that closes a cut ear meets nothing else. -/
theorem ear (T : 0 < s * det u v w) {c d : Pt} (cz : c.z = 1) (dz : d.z = 1) (uz : u.z = 1) (wz : w.z = 1) (hc : c = u ∨ c = w ∨ ¬ InT s u v w c) (hd : d = u ∨ d = w ∨ ¬ InT s u v w d)
  (hcd : ¬ ((c = u ∨ c = w) ∧ (d = u ∨ d = w))) (cv : c ≠ v) (dv : d ≠ v) (o1 : OK u v c d) (o2 : OK v w c d) : OK u w c d := by
 intro p pz h1 h2
 obtain ⟨k, α, β, hk, hα, hβ, h⟩ := id h1
 obtain ⟨l, γ, δ, hl, hγ, hδ, h'⟩ := id h2
 have a1 := lfu h s u v w
 have a2 := lfv h s u v w
 have a3 := lfw h s u v w
 rw [fu_u, fu_w, Int.mul_zero, Int.add_zero] at a1
 rw [fv_u, fv_w, Int.mul_zero, Int.mul_zero, Int.add_zero] at a2
 rw [fw_u, fw_w, Int.mul_zero, Int.zero_add] at a3
 have b2 := mz hk a2
 have b1 := mnn hk (by rw [a1]; exact mnz hα (Int.le_of_lt T))
 have b3 := mnn hk (by rw [a3]; exact mnz hβ (Int.le_of_lt T))
 by_cases hα0 : α = 0
 ·have ee : lc k p 0 p = lc β w 0 w := by rw [h, hα0]; simp only [lc, Int.zero_mul, Int.zero_add, Int.add_zero]
  have hw := Is.of wz hk ee
  obtain ⟨e, h3, h4, h5⟩ := o2 p pz ⟨k, 0, β, hk, by omega, hβ, by rw [h, hα0]; simp only [lc, Int.zero_mul]⟩ h2
  rcases h3 with rfl | rfl
  ·rcases h4 with rfl | rfl
   ·exact absurd rfl cv
   ·exact absurd rfl dv
  ·exact ⟨e, Or.inr rfl, h4, hw⟩
 by_cases hβ0 : β = 0
 ·have ee : lc k p 0 p = lc α u 0 u := by rw [h, hβ0]; simp only [lc, Int.zero_mul, Int.add_zero]
  have hu := Is.of uz hk ee
  obtain ⟨e, h3, h4, h5⟩ := o1 p pz ⟨k, α, 0, hk, hα, by omega, by rw [h, hβ0]; simp only [lc, Int.zero_mul]⟩ h2
  rcases h3 with rfl | rfl
  ·exact ⟨e, Or.inl rfl, h4, hu⟩
  ·rcases h4 with rfl | rfl
   ·exact absurd rfl cv
   ·exact absurd rfl dv
 exfalso
 have b1 : 0 < fu s u v w p := mpos hk (by rw [a1]; exact Int.mul_pos (by omega) T)
 have b3 : 0 < fw s u v w p := mpos hk (by rw [a3]; exact Int.mul_pos (by omega) T)
 have c1 := lfu h' s u v w
 have c2 := lfv h' s u v w
 have c3 := lfw h' s u v w
 rw [b2, Int.mul_zero] at c2
 have c1' := Int.mul_pos hl b1
 have c3' := Int.mul_pos hl b3
 have onl : ∀ {x y : Pt} {g e : Int}, 0 ≤ g → (x = u ∨ x = w ∨ ¬ InT s u v w x) → l * fu s u v w p = g * fu s u v w x → (0 = g * fv s u v w x) → l * fw s u v w p = g * fw s u v w x → False := by
  intro x y g e hg hx h1 h2 h3
  have hg0 : 0 < g := by
   refine posne hg fun c => ?_
   rw [← c, Int.zero_mul] at h1
   omega
  have i1 := mpos hg0 (h1 ▸ c1')
  have i3 := mpos hg0 (h3 ▸ c3')
  have i2 := mz hg0 h2.symm
  rcases hx with rfl | rfl | hx
  ·rw [fw_u] at i3; omega
  ·rw [fu_w] at i1; omega
  ·exact hx ⟨by omega, by omega, by omega⟩
 by_cases hγ0 : γ = 0
 ·rw [hγ0, Int.zero_mul, Int.zero_add] at c1 c2 c3
  exact onl (y := c) (e := 0) hδ hd c1 c2 c3
 by_cases hδ0 : δ = 0
 ·rw [hδ0, Int.zero_mul, Int.add_zero] at c1 c2 c3
  exact onl (y := c) (e := 0) hγ hc c1 c2 c3
 have ec : 0 ≤ fv s u v w c → ¬ InT s u v w c → False := fun i1 i2 => escape T pz cz b1 (by omega) b3 i1 i2 hl (by omega) hδ h' dv o1 o2
 have ed : 0 ≤ fv s u v w d → ¬ InT s u v w d → False := fun i1 i2 => escape T pz dz b1 (by omega) b3 i1 i2 hl (show 0 < δ by omega) hγ
  (by rw [h']; simp only [lc, Int.add_comm]) cv o1.swap2 o2.swap2
 have nd : 0 ≤ fv s u v w d → ¬ (d = u ∨ d = w) → False := fun i1 i2 => by
  rcases hd with i3 | i3 | i3
  ·exact i2 (Or.inl i3)
  ·exact i2 (Or.inr i3)
  ·exact ed i1 i3
 by_cases cm : c = u ∨ c = w
 ·have z : fv s u v w c = 0 := by
   rcases cm with rfl | rfl
   ·rw [fv_u]
   ·rw [fv_w]
  rw [z, Int.mul_zero, Int.zero_add] at c2
  have := mz (show 0 < δ by omega) c2.symm
  exact nd (by omega) fun i => hcd ⟨cm, i⟩
 ·have nc : ¬ InT s u v w c := by
   rcases hc with i3 | i3 | i3
   ·exact absurd (Or.inl i3) cm
   ·exact absurd (Or.inr i3) cm
   ·exact i3
  by_cases i : 0 ≤ fv s u v w c
  ·exact ec i nc
  ·have : 0 < fv s u v w d := by
    have := Int.mul_pos (show 0 < γ by omega) (show 0 < -fv s u v w c by omega)
    rw [Int.mul_neg] at this
    exact mpos (show 0 < δ by omega) (by omega)
   refine nd (by omega) ?_
   rintro (rfl | rfl)
   ·rw [fv_u] at this; omega
   ·rw [fv_w] at this; omega
/-- The way from a corner to the nearest one in its triangle meets nothing else. -/
theorem diag (T : 0 < s * det u v w) {x c d : Pt} (cz : c.z = 1) (dz : d.z = 1) (uz : u.z = 1) (vz : v.z = 1) (wz : w.z = 1) (xz : x.z = 1) (x1 : 0 < fu s u v w x) (x2 : 0 ≤ fv s u v w x) (x3 : 0 < fw s u v w x)
  (hc : InT s u v w c → fv s u v w c ≤ fv s u v w x) (hd : InT s u v w d → fv s u v w d ≤ fv s u v w x) (hx : On x c d → x = c ∨ x = d)
  (cv : c ≠ v) (dv : d ≠ v) (o1 : OK u v c d) (o2 : OK v w c d) : OK v x c d := by
 intro p pz h1 h2
 obtain ⟨k, α, β, hk, hα, hβ, h⟩ := id h1
 obtain ⟨l, γ, δ, hl, hγ, hδ, h'⟩ := id h2
 have a1 := lfu h s u v w
 have a2 := lfv h s u v w
 have a3 := lfw h s u v w
 rw [fu_v, Int.mul_zero, Int.zero_add] at a1
 rw [fv_v] at a2
 rw [fw_v, Int.mul_zero, Int.zero_add] at a3
 by_cases hα0 : α = 0
 ·have e : lc k p 0 p = lc β x 0 x := by rw [h, hα0]; simp only [lc, Int.zero_mul, Int.zero_add, Int.add_zero]
  have hw := Is.of xz hk e
  have hb : 0 < β := by
   refine posne hβ fun c => ?_
   have := lz e
   rw [← c] at this
   have := Int.mul_pos hk pz
   omega
  have hon : On x c d := by
   refine ⟨l * β, k * γ, k * δ, Int.mul_pos hl hb, mnz (Int.le_of_lt hk) hγ, mnz (Int.le_of_lt hk) hδ, ?_⟩
   simp only [lc, Pt.mk.injEq] at e h' ⊢
   obtain ⟨e1, e2, e3⟩ := e
   obtain ⟨f1, f2, f3⟩ := h'
   refine ⟨?_, ?_, ?_⟩ <;> grind
  exact ⟨x, Or.inr rfl, hx hon, hw⟩
 by_cases hβ0 : β = 0
 ·obtain ⟨e, h3, h4, h5⟩ := o1 p pz ⟨k, 0, α, hk, by omega, hα, by rw [h, hβ0]; simp only [lc, Int.zero_mul, Int.zero_add, Int.add_zero]⟩ h2
  rcases h3 with rfl | rfl
  ·have h6 := h5.fv s e v w
   rw [fv_u, Int.mul_zero] at h6
   rw [h6, hβ0, Int.zero_mul, Int.add_zero, Int.mul_zero] at a2
   have := Int.mul_pos (show 0 < α by omega) T
   omega
  ·rcases h4 with rfl | rfl
   ·exact absurd rfl cv
   ·exact absurd rfl dv
 exfalso
 have ha : 0 < α := by omega
 have hb : 0 < β := by omega
 have b1 : 0 < fu s u v w p := mpos hk (by rw [a1]; exact Int.mul_pos hb x1)
 have b3 : 0 < fw s u v w p := mpos hk (by rw [a3]; exact Int.mul_pos hb x3)
 have b2 : 0 < fv s u v w p := mpos hk (by rw [a2]; have := Int.mul_pos ha T; have := mnz hβ x2; omega)
 have sx := fsum s u v w x uz vz wz
 rw [xz, Int.mul_one] at sx
 have zp := lz h
 rw [vz, xz, Int.mul_one, Int.mul_one] at zp
 have zq := lz h'
 rw [cz, dz, Int.mul_one, Int.mul_one] at zq
 have lev : 0 < fv s u v w p - fv s u v w x * p.z := by
  refine mpos hk ?_
  have e : k * (fv s u v w p - fv s u v w x * p.z) = α * (s * det u v w - fv s u v w x) := by
   have : k * (fv s u v w x * p.z) = fv s u v w x * (α + β) := by rw [← zp]; grind
   rw [Int.mul_sub, this, a2]
   grind
  rw [e]
  exact Int.mul_pos ha (by omega)
 have lev2 : 0 < γ * (fv s u v w c - fv s u v w x) + δ * (fv s u v w d - fv s u v w x) := by
  have c2 := lfv h' s u v w
  have := Int.mul_pos hl lev
  have e : l * (fv s u v w p - fv s u v w x * p.z) = γ * (fv s u v w c - fv s u v w x) + δ * (fv s u v w d - fv s u v w x) := by
   have : l * (fv s u v w x * p.z) = fv s u v w x * (γ + δ) := by rw [← zq]; grind
   rw [Int.mul_sub, this, c2]
   grind
  omega
 have half : ∀ {g m : Int}, 0 ≤ g → 0 < g * m → 0 < g ∧ 0 < m := by
  intro g m h1 h2
  have h3 : 0 < g := by
   refine posne h1 fun c => ?_
   rw [← c, Int.zero_mul] at h2
   omega
  exact ⟨h3, mpos h3 h2⟩
 rcases (by omega : 0 < γ * (fv s u v w c - fv s u v w x) ∨ 0 < δ * (fv s u v w d - fv s u v w x)) with i | i
 ·obtain ⟨i1, i2⟩ := half hγ i
  exact escape T pz cz b1 (Int.le_of_lt b2) b3 (by omega) (fun j => by have := hc j; omega) hl i1 hδ h' dv o1 o2
 ·obtain ⟨i1, i2⟩ := half hδ i
  exact escape T pz dz b1 (Int.le_of_lt b2) b3 (by omega) (fun j => by have := hd j; omega) hl i1 hγ (by rw [h']; simp only [lc, Int.add_comm]) cv o1.swap2 o2.swap2
end
/-- The order of pegs. -/
def lt (a b : Pt) : Prop := a.x < b.x ∨ (a.x = b.x ∧ a.y < b.y)
theorem lexcomb {q u v w : Pt} (qz : q.z = 1) (uz : u.z = 1) (vz : v.z = 1) (wz : w.z = 1) (hu : lt q u) (hv : lt q v) (hw : lt q w) {k a b c : Int} (hk : 0 < k) (ha : 0 ≤ a) (hb : 0 ≤ b) (hc : 0 ≤ c)
  (h : lc 1 (lc a u b v) c w = lc k q 0 q) : False := by
 simp only [lc, Pt.mk.injEq, uz, vz, wz, qz] at h
 obtain ⟨h1, h2, h3⟩ := h
 have e1 : a * (u.x - q.x) + b * (v.x - q.x) + c * (w.x - q.x) = 0 := by grind
 have e2 : a * (u.y - q.y) + b * (v.y - q.y) + c * (w.y - q.y) = 0 := by grind
 have e3 : a + b + c = k := by omega
 have part : ∀ {g : Int} {p : Pt}, 0 ≤ g → lt q p → 0 ≤ g * (p.x - q.x) ∧ (g * (p.x - q.x) = 0 → 0 ≤ g * (p.y - q.y) ∧ (g * (p.y - q.y) = 0 → g = 0)) := by
  intro g p hg hp
  refine ⟨mnz hg (by rcases hp with h | h <;> omega), fun h => ?_⟩
  by_cases g0 : g = 0
  ·subst g0
   simp
  ·have hx := mz (show 0 < g by omega) h
   have hy : 0 < p.y - q.y := by rcases hp with h | h <;> omega
   have := Int.mul_pos (show 0 < g by omega) hy
   exact ⟨by omega, fun h => by omega⟩
 obtain ⟨a1, a2⟩ := part ha hu
 obtain ⟨b1, b2⟩ := part hb hv
 obtain ⟨c1, c2⟩ := part hc hw
 obtain ⟨a3, a4⟩ := a2 (by omega)
 obtain ⟨b3, b4⟩ := b2 (by omega)
 obtain ⟨c3, c4⟩ := c2 (by omega)
 have := a4 (by omega)
 have := b4 (by omega)
 have := c4 (by omega)
 omega
theorem lex_out {s : Int} {q u v w : Pt} (T : 0 < s * det u v w) (qz : q.z = 1) (uz : u.z = 1) (vz : v.z = 1) (wz : w.z = 1) (hu : lt q u) (hv : lt q v) (hw : lt q w) : ¬ InT s u v w q := by
 rintro ⟨h1, h2, h3⟩
 exact lexcomb qz uz vz wz hu hv hw T h1 h2 h3 (cramer s u v w q)
theorem lexturn {A B C ux uy wx wy dx dy : Int} (hA : 0 < A) (hB : 0 < B) (hU : 0 < ux ∨ (ux = 0 ∧ 0 < uy)) (hW : 0 < wx ∨ (wx = 0 ∧ 0 < wy)) (hD : 0 < dx ∨ (dx = 0 ∧ 0 < dy))
  (h1 : C * ux = A * wx + B * dx) (h2 : C * uy = A * wy + B * dy) : 0 < C := by
 have w0 : 0 ≤ wx := by omega
 have d0 : 0 ≤ dx := by omega
 have i1 := mnz (Int.le_of_lt hA) w0
 have i2 := mnz (Int.le_of_lt hB) d0
 have flat : A * wx + B * dx = 0 → 0 < C * uy := by
  intro h
  have := mz hA (by omega : A * wx = 0)
  have := mz hB (by omega : B * dx = 0)
  have := Int.mul_pos hA (show 0 < wy by omega)
  have := Int.mul_pos hB (show 0 < dy by omega)
  omega
 rcases hU with h | ⟨h, h'⟩
 ·have := mnn h (by rw [Int.mul_comm]; omega : 0 ≤ ux * C)
  refine posne this fun c => ?_
  have := flat (by rw [← h1, ← c, Int.zero_mul])
  rw [← c, Int.zero_mul] at this
  omega
 ·have := flat (by rw [← h1, h, Int.mul_zero])
  exact mpos h' (by rw [Int.mul_comm]; exact this)
theorem on_uw {s : Int} {u v w y : Pt} (T : 0 < s * det u v w) (h1 : fv s u v w y = 0) (h2 : 0 ≤ fu s u v w y) (h3 : 0 ≤ fw s u v w y) : On y u w := by
 refine ⟨_, _, _, T, h2, h3, ?_⟩
 rw [← cramer s u v w y, h1]
 simp only [lc, Pt.mk.injEq]
 refine ⟨?_, ?_, ?_⟩ <;> grind
theorem lt_ne {a b : Pt} (h : lt a b) : a ≠ b := by
 rintro rfl
 rcases h with h | h <;> omega
/-- A side at the first corner is not seen from the wrong side. -/
theorem seen_uv {s : Int} {q u v w : Pt} (T : 0 < s * det u v w) (qz : q.z = 1) (uz : u.z = 1) (vz : v.z = 1) (wz : w.z = 1) (hq : lt q v) (hu : lt v u) (hw : lt v w) (huw : u ≠ w) (hqw : q ≠ w)
  (out : ¬ InT s q u v w) (o : OK q u v w) : ¬ 0 < s * det u v q := by
 intro T1
 have T2 : 0 < s * det q u v := by rw [det_rot']; exact T1
 have k1 : fu s q u v w = s * det u v w := by simp only [fu, det]; grind
 have k2 : 0 < fv s q u v w := by
  refine lexturn (A := s * det u v q) (B := s * det u v w) (ux := u.x - v.x) (uy := u.y - v.y) (wx := w.x - v.x) (wy := w.y - v.y) (dx := v.x - q.x) (dy := v.y - q.y) T1 T ?_ ?_ ?_ ?_ ?_
  ·rcases hu with h | h <;> omega
  ·rcases hw with h | h <;> omega
  ·rcases hq with h | h <;> omega
  ·simp only [fv, det, qz, uz, vz, wz]; grind
  ·simp only [fv, det, qz, uz, vz, wz]; grind
 have k3 : fw s q u v w < 0 := Int.not_le.1 fun c => out ⟨by omega, Int.le_of_lt k2, c⟩
 have yz : 0 < (lc (-fw s q u v w) v (s * det q u v) w).z := by
  show 0 < (-fw s q u v w) * v.z + (s * det q u v) * w.z
  rw [vz, wz]
  omega
 have y1 : On (lc (-fw s q u v w) v (s * det q u v) w) q u := by
  refine on_uv T2 ?_ ?_ ?_
  ·rw [fw_lc, fw_w]; grind
  ·rw [fu_lc, fu_w, Int.mul_zero, Int.zero_add, k1]
   exact Int.le_of_lt (Int.mul_pos T2 T)
  ·rw [fv_lc, fv_w, Int.mul_zero, Int.zero_add]
   exact Int.le_of_lt (Int.mul_pos T2 k2)
 obtain ⟨e, h1, h2, _⟩ := o _ yz y1 (on_lc (by omega) (Int.le_of_lt T2))
 rcases h1 with rfl | rfl <;> rcases h2 with rfl | rfl
 ·exact lt_ne hq rfl
 ·exact hqw rfl
 ·exact lt_ne hu rfl
 ·exact huw rfl
theorem InT.swap {s : Int} {a b c y : Pt} : InT (-s) a c b y ↔ InT s a b c y := by
 have e1 : fu (-s) a c b y = fu s a b c y := by simp only [fu, det]; grind
 have e2 : fv (-s) a c b y = fw s a b c y := by simp only [fv, fw, det]; grind
 have e3 : fw (-s) a c b y = fv s a b c y := by simp only [fv, fw, det]; grind
 unfold InT
 rw [e1, e2, e3]
 constructor <;> (rintro ⟨h1, h2, h3⟩; exact ⟨h1, h3, h2⟩)
theorem InT.swap1 {s : Int} {a b c y : Pt} : InT (-s) b a c y ↔ InT s a b c y := by
 have e1 : fu (-s) b a c y = fv s a b c y := by simp only [fu, fv, det]; grind
 have e2 : fv (-s) b a c y = fu s a b c y := by simp only [fv, fu, det]; grind
 have e3 : fw (-s) b a c y = fw s a b c y := by simp only [fw, det]; grind
 unfold InT
 rw [e1, e2, e3]
 constructor <;> (rintro ⟨h1, h2, h3⟩; exact ⟨h2, h1, h3⟩)
theorem seen_vw {s : Int} {q u v w : Pt} (T : 0 < s * det u v w) (qz : q.z = 1) (uz : u.z = 1) (vz : v.z = 1) (wz : w.z = 1) (hq : lt q v) (hu : lt v u) (hw : lt v w) (huw : u ≠ w) (hqu : q ≠ u)
  (out : ¬ InT s q v w u) (o : OK q w u v) : ¬ 0 < s * det v w q := by
 have e1 : -s * det w v u = s * det u v w := by simp only [det]; grind
 have e2 : -s * det w v q = s * det v w q := by simp only [det]; grind
 rw [← e2]
 exact seen_uv (by rw [e1]; exact T) qz wz vz uz hq hw hu (Ne.symm huw) hqu (fun h => out (InT.swap.1 h)) o.swap2
/-- The third side of a triangle is not seen from the wrong side. -/
theorem seen_wu {s : Int} {q u v w : Pt} (T : 0 < s * det u v w) (qz : q.z = 1) (uz : u.z = 1) (vz : v.z = 1) (wz : w.z = 1) (hq : lt q v) (hu : lt q u) (hw : lt q w) (huv : u ≠ v) (hwv : w ≠ v) (huw : u ≠ w)
  (out : ¬ InT s q w u v) (o1 : OK q u v w) (o2 : OK q w u v) : ¬ 0 < s * det w u q := by
 intro T1
 have T2 : 0 < s * det q w u := by rw [det_rot']; exact T1
 have k1 : fu s q w u v = s * det u v w := by simp only [fu, det]; grind
 by_cases k2 : 0 ≤ fv s q w u v
 ·have k3 : fw s q w u v < 0 := Int.not_le.1 fun c => out ⟨by omega, k2, c⟩
  have yz : 0 < (lc (-fw s q w u v) u (s * det q w u) v).z := by
   show 0 < (-fw s q w u v) * u.z + (s * det q w u) * v.z
   rw [vz, uz]
   omega
  have y1 : On (lc (-fw s q w u v) u (s * det q w u) v) q w := by
   refine on_uv T2 ?_ ?_ ?_
   ·rw [fw_lc, fw_w]; grind
   ·rw [fu_lc, fu_w, Int.mul_zero, Int.zero_add, k1]
    exact Int.le_of_lt (Int.mul_pos T2 T)
   ·rw [fv_lc, fv_w, Int.mul_zero, Int.zero_add]
    exact mnz (Int.le_of_lt T2) k2
  obtain ⟨e, h1, h2, _⟩ := o2 _ yz y1 (on_lc (by omega) (Int.le_of_lt T2))
  rcases h1 with rfl | rfl <;> rcases h2 with rfl | rfl
  ·exact lt_ne hu rfl
  ·exact lt_ne hq rfl
  ·exact huw rfl
  ·exact hwv rfl
 ·by_cases k3 : 0 ≤ fw s q w u v
  ·have yz : 0 < (lc (s * det q w u) v (-fv s q w u v) w).z := by
    show 0 < (s * det q w u) * v.z + (-fv s q w u v) * w.z
    rw [vz, wz]
    omega
   have y1 : On (lc (s * det q w u) v (-fv s q w u v) w) q u := by
    refine on_uw T2 ?_ ?_ ?_
    ·rw [fv_lc, fv_v]; grind
    ·rw [fu_lc, fu_v, Int.mul_zero, Int.add_zero, k1]
     exact Int.le_of_lt (Int.mul_pos T2 T)
    ·rw [fw_lc, fw_v, Int.mul_zero, Int.add_zero]
     exact mnz (Int.le_of_lt T2) k3
   obtain ⟨e, h1, h2, _⟩ := o1 _ yz y1 (on_lc (Int.le_of_lt T2) (by omega))
   rcases h1 with rfl | rfl <;> rcases h2 with rfl | rfl
   ·exact lt_ne hq rfl
   ·exact lt_ne hw rfl
   ·exact huv rfl
   ·exact huw rfl
  ·refine lexcomb qz vz wz uz hq hw hu (k := fu s q w u v) (a := s * det q w u) (b := -fv s q w u v) (c := -fw s q w u v) (by omega) (by omega) (by omega) (by omega) ?_
   have := cramer s q w u v
   simp only [lc, Pt.mk.injEq] at this ⊢
   obtain ⟨h1, h2, h3⟩ := this
   refine ⟨?_, ?_, ?_⟩ <;> grind
/-- The way to a corner within and the sides beside it. -/
theorem diag_vw {s : Int} {u v w x : Pt} (vz : v.z = 1) (x1 : 0 < fu s u v w x) : OK v x v w := by
 intro p pz h1 h2
 obtain ⟨k, α, β, hk, hα, hβ, h⟩ := id h1
 obtain ⟨l, γ, δ, hl, hγ, hδ, h'⟩ := id h2
 have a1 := lfu h s u v w
 have a2 := lfu h' s u v w
 rw [fu_v, fu_w, Int.mul_zero, Int.mul_zero, Int.add_zero] at a2
 rw [fu_v, Int.mul_zero, Int.zero_add, mz hl a2, Int.mul_zero] at a1
 have hb : β = 0 := by
  rcases Int.mul_eq_zero.1 a1.symm with h | h <;> omega
 exact ⟨v, Or.inl rfl, Or.inl rfl, Is.of vz hk (α := α) (by rw [h, hb]; simp only [lc, Int.zero_mul, Int.add_zero])⟩
theorem diag_uv {s : Int} {u v w x : Pt} (vz : v.z = 1) (x3 : 0 < fw s u v w x) : OK v x u v := by
 intro p pz h1 h2
 obtain ⟨k, α, β, hk, hα, hβ, h⟩ := id h1
 obtain ⟨l, γ, δ, hl, hγ, hδ, h'⟩ := id h2
 have a1 := lfw h s u v w
 have a2 := lfw h' s u v w
 rw [fw_v, fw_u, Int.mul_zero, Int.mul_zero, Int.add_zero] at a2
 rw [fw_v, Int.mul_zero, Int.zero_add, mz hl a2, Int.mul_zero] at a1
 have hb : β = 0 := by
  rcases Int.mul_eq_zero.1 a1.symm with h | h <;> omega
 exact ⟨v, Or.inl rfl, Or.inr rfl, Is.of vz hk (α := α) (by rw [h, hb]; simp only [lc, Int.zero_mul, Int.add_zero])⟩
theorem Is.eq {p e : Pt} (h : Is p e) (hp : p.z = 1) : p = e := by
 unfold Is at h
 rw [hp] at h
 rw [h]
 cases e
 simp [lc]
/-- The first corner is no straight one. -/
theorem first_turn {u v w : Pt} (uz : u.z = 1) (vz : v.z = 1) (wz : w.z = 1) (hu : lt v u) (hw : lt v w) (huw : u ≠ w) (o : OK u v v w) : det u v w ≠ 0 := by
 intro h
 have key : ∃ α β : Int, 0 < α ∧ 0 < β ∧ α * (u.x - v.x) = β * (w.x - v.x) ∧ α * (u.y - v.y) = β * (w.y - v.y) := by
  have hd : (u.x - v.x) * (w.y - v.y) = (u.y - v.y) * (w.x - v.x) := by
   simp only [det, uz, vz, wz] at h
   grind
  by_cases hx : u.x - v.x = 0
  ·have hy : 0 < u.y - v.y := by rcases hu with h | h <;> omega
   have hwx : w.x - v.x = 0 := mz hy (by rw [← hd, hx, Int.zero_mul])
   have hwy : 0 < w.y - v.y := by rcases hw with h | h <;> omega
   exact ⟨w.y - v.y, u.y - v.y, hwy, hy, by rw [hx, hwx, Int.mul_zero, Int.mul_zero], Int.mul_comm _ _⟩
  ·have hx' : 0 < u.x - v.x := by rcases hu with h | h <;> omega
   by_cases hwx : w.x - v.x = 0
   ·have hwy : 0 < w.y - v.y := by rcases hw with h | h <;> omega
    rw [hwx, Int.mul_zero] at hd
    have := Int.mul_pos hx' hwy
    omega
   ·have hwx' : 0 < w.x - v.x := by rcases hw with h | h <;> omega
    exact ⟨w.x - v.x, u.x - v.x, hwx', hx', Int.mul_comm _ _, by rw [hd]; exact Int.mul_comm _ _⟩
 obtain ⟨α, β, ha, hb, e1, e2⟩ := key
 obtain ⟨e, h1, h2, h3⟩ := o (lc α u β v) (by show 0 < α * u.z + β * v.z; rw [uz, vz]; omega) (on_lc (by omega) (by omega))
  ⟨1, α, β, by omega, by omega, by omega, by simp only [lc, Pt.mk.injEq, uz, vz, wz]; refine ⟨?_, ?_, ?_⟩ <;> grind⟩
 rcases h1 with rfl | rfl
 ·rcases h2 with rfl | rfl
  ·exact lt_ne hu rfl
  ·exact huw rfl
 ·simp only [Is, lc, Pt.mk.injEq, uz, vz] at h3
  have i1 : α * (u.x - e.x) = 0 := by grind
  have i2 : α * (u.y - e.y) = 0 := by grind
  have := mz ha i1
  have := mz ha i2
  rcases hu with h | h <;> omega
def eds : List Pt → List (Pt × Pt)
 | [] => []
 | [_] => []
 | a :: b :: l => (a, b) :: eds (b :: l)
def cyc : List Pt → List (Pt × Pt)
 | [] => []
 | a :: l => eds (a :: (l ++ [a]))
def crs (a b : Pt) : Int := a.x * b.y - a.y * b.x
def asum : List (Pt × Pt) → Int
 | [] => 0
 | e :: l => crs e.1 e.2 + asum l
theorem asum_append (l m : List (Pt × Pt)) : asum (l ++ m) = asum l + asum m := by
 induction l with
 | nil => simp [asum]
 | cons e l ih => simp only [List.cons_append, asum, ih]; omega
theorem eds_split (m : Pt) (Y : List Pt) : ∀ X : List Pt, eds (X ++ m :: Y) = eds (X ++ [m]) ++ eds (m :: Y)
 | [] => by simp [eds]
 | [a] => by simp [eds]
 | a :: b :: X => by
  have := eds_split m Y (b :: X)
  simp only [List.cons_append, eds] at this ⊢
  rw [this]
theorem mem_eds {a b : Pt} : ∀ {L : List Pt}, (a, b) ∈ eds L → a ∈ L ∧ b ∈ L.tail
 | [], h => by simp [eds] at h
 | [_], h => by simp [eds] at h
 | c :: d :: l, h => by
  simp only [eds, List.mem_cons, Prod.mk.injEq] at h
  rcases h with ⟨rfl, rfl⟩ | h
  ·simp
  ·obtain ⟨h1, h2⟩ := mem_eds h
   exact ⟨List.mem_cons_of_mem _ h1, List.mem_cons_of_mem _ h2⟩
theorem mem_eds' {a b : Pt} {L : List Pt} (h : (a, b) ∈ eds L) : a ∈ L ∧ b ∈ L := by
 obtain ⟨h1, h2⟩ := mem_eds h
 exact ⟨h1, List.mem_of_mem_tail h2⟩
theorem mem_cyc {a b : Pt} {P : List Pt} (h : (a, b) ∈ cyc P) : a ∈ P ∧ b ∈ P := by
 cases P with
 | nil => simp [cyc] at h
 | cons c l =>
  have := mem_eds' h
  simp only [List.mem_cons, List.mem_append, List.not_mem_nil, or_false] at this ⊢
  grind
theorem start_eds (y : Pt) : ∀ {L : List Pt} {x : Pt}, x ∈ L → ∃ x', (x, x') ∈ eds (L ++ [y])
 | [], x, h => by simp at h
 | [a], x, h => by
  obtain rfl := List.mem_singleton.1 h
  exact ⟨y, by simp [eds]⟩
 | a :: b :: l, x, h => by
  rcases List.mem_cons.1 h with rfl | h
  ·exact ⟨b, by simp [eds]⟩
  ·obtain ⟨x', h'⟩ := start_eds y h
   exact ⟨x', by simp only [List.cons_append, eds] at h' ⊢; exact List.mem_cons_of_mem _ h'⟩
theorem start_cyc {P : List Pt} {x : Pt} (h : x ∈ P) : ∃ x', (x, x') ∈ cyc P := by
 cases P with
 | nil => simp at h
 | cons c l => exact start_eds c h
theorem eds_cons (v w : Pt) (l : List Pt) : eds (v :: w :: l) = (v, w) :: eds (w :: l) := rfl
theorem eds_last (w u v : Pt) (R : List Pt) : eds (w :: (R ++ [u] ++ [v])) = eds (w :: (R ++ [u])) ++ [(u, v)] := by
 have := eds_split u [v] (w :: R)
 simpa [eds] using this
theorem cyc_eq (v w u : Pt) (R : List Pt) : cyc (v :: w :: (R ++ [u])) = (v, w) :: (eds (w :: (R ++ [u])) ++ [(u, v)]) := by
 show eds (v :: (w :: (R ++ [u]) ++ [v])) = _
 rw [List.cons_append, eds_cons, eds_last]
theorem cyc_cut (w u : Pt) (R : List Pt) : cyc (w :: (R ++ [u])) = eds (w :: (R ++ [u])) ++ [(u, w)] := eds_last w u w R
theorem mem_cyc_eq {v w u c d : Pt} {R : List Pt} : (c, d) ∈ cyc (v :: w :: (R ++ [u])) ↔ (c, d) = (v, w) ∨ (c, d) ∈ eds (w :: (R ++ [u])) ∨ (c, d) = (u, v) := by
 rw [cyc_eq]
 simp
theorem mem_cyc_cut {w u c d : Pt} {R : List Pt} : (c, d) ∈ cyc (w :: (R ++ [u])) ↔ (c, d) ∈ eds (w :: (R ++ [u])) ∨ (c, d) = (u, w) := by
 rw [cyc_cut]
 simp
theorem end_eds : ∀ {L : List Pt} {x : Pt}, x ∈ L.tail → ∃ x', (x', x) ∈ eds L
 | [], x, h => by simp at h
 | [_], x, h => by simp at h
 | a :: b :: l, x, h => by
  rcases List.mem_cons.1 h with rfl | h
  ·exact ⟨a, by simp [eds]⟩
  ·obtain ⟨x', h'⟩ := end_eds (L := b :: l) h
   exact ⟨x', List.mem_cons_of_mem _ h'⟩
theorem end_cyc {P : List Pt} {x : Pt} (h : x ∈ P) : ∃ x', (x', x) ∈ cyc P := by
 cases P with
 | nil => simp at h
 | cons c l =>
  refine end_eds (L := c :: (l ++ [c])) ?_
  simp only [List.tail_cons, List.mem_append, List.mem_cons, List.not_mem_nil, or_false] at h ⊢
  exact h.symm
theorem eds_ne {a b : Pt} : ∀ {L : List Pt}, L.Nodup → (a, b) ∈ eds L → a ≠ b
 | [], _, h => by simp [eds] at h
 | [_], _, h => by simp [eds] at h
 | c :: d :: l, nd, h => by
  simp only [eds, List.mem_cons, Prod.mk.injEq] at h
  rcases h with ⟨rfl, rfl⟩ | h
  ·rintro rfl
   exact (List.nodup_cons.1 nd).1 (by simp)
  ·exact eds_ne (List.nodup_cons.1 nd).2 h
structure Simple (P : List Pt) : Prop where
 z : ∀ a, a ∈ P → a.z = 1
 nd : P.Nodup
 ok : ∀ a b c d, (a, b) ∈ cyc P → (c, d) ∈ cyc P → (a, b) ≠ (c, d) → OK a b c d
structure Sees (s : Int) (q a b : Pt) (P : List Pt) : Prop where
 out : ∀ y, y ∈ P → y ≠ a → y ≠ b → ¬ InT s q a b y
 ok : ∀ c d, (c, d) ∈ cyc P → (c, d) ≠ (a, b) → OK q a c d ∧ OK q b c d
theorem On.self {x a : Pt} : On x x a := ⟨1, 1, 0, by omega, by omega, by omega, by simp [lc]⟩
theorem Simple.corner {P : List Pt} (h : Simple P) {x c d : Pt} (hx : x ∈ P) (he : (c, d) ∈ cyc P) (hon : On x c d) : x = c ∨ x = d := by
 obtain ⟨x', h1⟩ := start_cyc hx
 by_cases e : (x, x') = (c, d)
 ·exact Or.inl (Prod.mk.inj e).1
 ·obtain ⟨y, h2, h3, h4⟩ := h.ok _ _ _ _ h1 he e x (by rw [h.z x hx]; omega) On.self hon
  rw [h4.eq (h.z x hx)]
  exact h3
/-- The lists of corners, told from another corner. -/
theorem cyc_turn (v : Pt) (A B : List Pt) : (cyc (A ++ v :: B)).Perm (cyc (v :: (B ++ A))) := by
 cases A with
 | nil => simp
 | cons a A =>
  have e1 : cyc (a :: A ++ v :: B) = eds ((a :: A) ++ [v]) ++ eds (v :: (B ++ [a])) := by
   rw [← eds_split]
   simp [cyc]
  have e2 : cyc (v :: (B ++ a :: A)) = eds (v :: (B ++ [a])) ++ eds ((a :: A) ++ [v]) := by
   have := eds_split a (A ++ [v]) (v :: B)
   simp only [List.cons_append] at this ⊢
   rw [← this]
   simp [cyc]
  rw [e1, e2]
  exact List.perm_append_comm
theorem asum_perm {l m : List (Pt × Pt)} (h : l.Perm m) : asum l = asum m := by
 induction h with
 | nil => rfl
 | cons _ _ ih => simp only [asum, ih]
 | swap _ _ _ => simp only [asum]; omega
 | trans _ _ h1 h2 => rw [h1, h2]
theorem lt_trans {a b c : Pt} (h1 : lt a b) (h2 : lt b c) : lt a c := by
 unfold lt at *
 omega
theorem lt_total {a b : Pt} (ha : a.z = 1) (hb : b.z = 1) (h : a ≠ b) : lt a b ∨ lt b a := by
 unfold lt
 by_cases h1 : a.x = b.x
 ·by_cases h2 : a.y = b.y
  ·exact absurd (by cases a; cases b; simp_all) h
  ·omega
 ·omega
theorem least : ∀ {P : List Pt}, P ≠ [] → (∀ a, a ∈ P → a.z = 1) → ∃ v, v ∈ P ∧ ∀ y, y ∈ P → y ≠ v → lt v y
 | [], h, _ => absurd rfl h
 | [a], _, _ => ⟨a, by simp, fun y hy h => absurd (List.mem_singleton.1 hy) h⟩
 | a :: b :: l, _, hz => by
  obtain ⟨v, hv, h⟩ := least (P := b :: l) (by simp) (fun x hx => hz x (List.mem_cons_of_mem _ hx))
  by_cases e : a = v
  ·subst e
   refine ⟨a, by simp, fun y hy hne => ?_⟩
   rcases List.mem_cons.1 hy with rfl | hy
   ·exact absurd rfl hne
   ·exact h y hy hne
  ·rcases lt_total (hz a (by simp)) (hz v (List.mem_cons_of_mem _ hv)) e with i | i
   ·refine ⟨a, by simp, fun y hy hne => ?_⟩
    rcases List.mem_cons.1 hy with rfl | hy
    ·exact absurd rfl hne
    ·by_cases e2 : y = v
     ·rw [e2]; exact i
     ·exact lt_trans i (h y hy e2)
   ·refine ⟨v, List.mem_cons_of_mem _ hv, fun y hy hne => ?_⟩
    rcases List.mem_cons.1 hy with rfl | hy
    ·exact i
    ·exact h y hy hne
theorem two_ends {L : List Pt} (h : 2 ≤ L.length) : ∃ w R u, L = w :: (R ++ [u]) := by
 cases L with
 | nil => simp at h
 | cons w L =>
  have hn : L ≠ [] := by rintro rfl; simp at h
  exact ⟨w, L.dropLast, L.getLast hn, by rw [List.dropLast_concat_getLast]⟩
/-- A simple polygon told from its first corner. -/
theorem Simple.turn {P : List Pt} (h : Simple P) (h3 : 3 ≤ P.length) : ∃ v w R u, Simple (v :: w :: (R ++ [u])) ∧ R.length + 3 = P.length ∧ (∀ y, y ∈ w :: (R ++ [u]) → lt v y) ∧ (cyc P).Perm (cyc (v :: w :: (R ++ [u]))) ∧ P.Perm (v :: w :: (R ++ [u])) := by
 obtain ⟨v, hv, hl⟩ := least (P := P) (by rintro rfl; simp at h3) h.z
 obtain ⟨A, B, rfl⟩ := List.append_of_mem hv
 obtain ⟨w, R, u, e⟩ := two_ends (L := B ++ A) (by simp at h3 ⊢; omega)
 have p1 := cyc_turn v A B
 have p2 : (A ++ v :: B).Perm (v :: (B ++ A)) := List.perm_append_comm
 rw [e] at p1 p2
 have nd := p2.nodup_iff.1 h.nd
 refine ⟨v, w, R, u, ⟨fun a ha => h.z a (p2.mem_iff.2 ha), nd, fun a b c d h1 h2 => h.ok a b c d (p1.mem_iff.2 h1) (p1.mem_iff.2 h2)⟩, ?_, ?_, p1, p2⟩
 ·have := p2.length_eq
  simp at this ⊢
  omega
 ·intro y hy
  refine hl y (p2.mem_iff.2 (List.mem_cons_of_mem _ hy)) ?_
  rintro rfl
  exact (List.nodup_cons.1 nd).1 hy
/-- The corner in a triangle that is nearest to v. -/
theorem nearest (f : Pt → Int) (T : Pt → Prop) : ∀ {R : List Pt}, (∃ y, y ∈ R ∧ T y) → ∃ x, x ∈ R ∧ T x ∧ ∀ y, y ∈ R → T y → f y ≤ f x
 | [], h => by
  obtain ⟨y, h, _⟩ := h
  simp at h
 | a :: R, h => by
  by_cases h1 : ∃ y, y ∈ R ∧ T y
  ·obtain ⟨x, hx, tx, hm⟩ := nearest f T h1
   by_cases h2 : T a ∧ f x ≤ f a
   ·refine ⟨a, by simp, h2.1, fun y hy ty => ?_⟩
    rcases List.mem_cons.1 hy with rfl | hy
    ·exact Int.le_refl _
    ·exact Int.le_trans (hm y hy ty) h2.2
   ·refine ⟨x, List.mem_cons_of_mem _ hx, tx, fun y hy ty => ?_⟩
    rcases List.mem_cons.1 hy with rfl | hy
    ·exact Int.le_of_lt (Int.not_le.1 fun c => h2 ⟨ty, c⟩)
    ·exact hm y hy ty
  ·obtain ⟨y, hy, ty⟩ := h
   have e : ∀ z, z ∈ a :: R → T z → z = a := by
    intro z hz tz
    rcases List.mem_cons.1 hz with rfl | hz
    ·rfl
    ·exact absurd ⟨z, hz, tz⟩ h1
   have := e y hy ty
   subst this
   exact ⟨y, by simp, ty, fun z hz tz => by rw [e z hz tz]; exact Int.le_refl _⟩
theorem diag_any {s : Int} {u v w x : Pt} {R : List Pt} (T : 0 < s * det u v w) (h : Simple (v :: w :: (R ++ [u]))) (hx : x ∈ R) (x1 : 0 < fu s u v w x) (x2 : 0 ≤ fv s u v w x) (x3 : 0 < fw s u v w x)
  (hm : ∀ y, y ∈ R → InT s u v w y → fv s u v w y ≤ fv s u v w x) {c d : Pt} (cz : c.z = 1) (hd : d ∈ w :: (R ++ [u])) (hc : InT s u v w c → fv s u v w c ≤ fv s u v w x) (cv : c ≠ v)
  (hon : On x c d → x = c ∨ x = d) (o1 : OK u v c d) (o2 : OK v w c d) : OK v x c d := by
 have vz := h.z v (by simp)
 have wz := h.z w (by simp)
 have uz := h.z u (by simp)
 have xz := h.z x (by simp [hx])
 have dz := h.z d (List.mem_cons_of_mem _ hd)
 have nd := h.nd
 refine diag T cz dz uz vz wz xz x1 x2 x3 hc ?_ hon cv ?_ o1 o2
 ·intro i
  simp only [List.mem_cons, List.mem_append, List.not_mem_nil, or_false] at hd
  rcases hd with rfl | hd | rfl
  ·rw [fv_w]; exact x2
  ·exact hm d hd i
  ·rw [fv_u]; exact x2
 ·rintro rfl
  exact (List.nodup_cons.1 nd).1 hd
/-- A simple polygon that turns to a side at its first corner spans an area to that side, and shows no side to a point ahead of it from the wrong side. -/
theorem main_law : ∀ (n : Nat) (R : List Pt), R.length = n → ∀ (s : Int) (v w u : Pt), (s = 1 ∨ s = -1) → Simple (v :: w :: (R ++ [u])) → (∀ y, y ∈ w :: (R ++ [u]) → lt v y) → 0 < s * det u v w →
  0 < s * asum (cyc (v :: w :: (R ++ [u]))) ∧ ∀ q a b, q.z = 1 → (∀ y, y ∈ v :: w :: (R ++ [u]) → lt q y) → (a, b) ∈ cyc (v :: w :: (R ++ [u])) → Sees s q a b (v :: w :: (R ++ [u])) → ¬ 0 < s * det a b q := by
 intro n
 induction n using Nat.strongRecOn with
 | ind n IH =>
 intro R hR s v w u hs h hl T
 have vz := h.z v (by simp)
 have wz := h.z w (by simp)
 have uz := h.z u (by simp)
 have nd := h.nd
 have nv := (List.nodup_cons.1 nd).1
 have nd1 := (List.nodup_cons.1 nd).2
 have nw := (List.nodup_cons.1 nd1).1
 have nd2 := (List.nodup_cons.1 nd1).2
 have uR : u ∉ R := by
  intro c
  have := (List.nodup_append.1 nd2).2.2 u c u (by simp)
  exact this rfl
 have huw : u ≠ w := by
  rintro rfl
  exact nw (by simp)
 have vw_in : (v, w) ∈ cyc (v :: w :: (R ++ [u])) := mem_cyc_eq.2 (Or.inl rfl)
 have uv_in : (u, v) ∈ cyc (v :: w :: (R ++ [u])) := mem_cyc_eq.2 (Or.inr (Or.inr rfl))
 have hvu : v ≠ u := lt_ne (hl u (by simp))
 have hvw : v ≠ w := lt_ne (hl w (by simp))
 have qvw : ∀ {q : Pt}, q.z = 1 → (∀ y, y ∈ v :: w :: (R ++ [u]) → lt q y) → Sees s q v w (v :: w :: (R ++ [u])) → ¬ 0 < s * det v w q := by
  intro q qz hq S
  refine seen_vw T qz uz vz wz (hq v (by simp)) (hl u (by simp)) (hl w (by simp)) huw (lt_ne (hq u (by simp))) (S.out u (by simp) (Ne.symm hvu) huw) ?_
  exact (S.ok u v uv_in (fun c => hvu (Prod.mk.inj c).1.symm)).2
 have quv : ∀ {q : Pt}, q.z = 1 → (∀ y, y ∈ v :: w :: (R ++ [u]) → lt q y) → Sees s q u v (v :: w :: (R ++ [u])) → ¬ 0 < s * det u v q := by
  intro q qz hq S
  refine seen_uv T qz uz vz wz (hq v (by simp)) (hl u (by simp)) (hl w (by simp)) huw (lt_ne (hq w (by simp))) (S.out w (by simp) (Ne.symm huw) (Ne.symm hvw)) ?_
  exact (S.ok v w vw_in (fun c => hvu (Prod.mk.inj c).1)).1
 have inner : ∀ {c d : Pt}, (c, d) ∈ eds (w :: (R ++ [u])) → (c, d) ∈ cyc (v :: w :: (R ++ [u])) := fun i => mem_cyc_eq.2 (Or.inr (Or.inl i))
 have inv : ∀ {c d : Pt}, (c, d) ∈ eds (w :: (R ++ [u])) → c ≠ v ∧ d ≠ v := by
  intro c d i
  obtain ⟨i1, i2⟩ := mem_eds' i
  exact ⟨fun e => nv (e ▸ i1), fun e => nv (e ▸ i2)⟩
 have ouv : ∀ {c d : Pt}, (c, d) ∈ eds (w :: (R ++ [u])) → OK u v c d := fun i => h.ok _ _ _ _ uv_in (inner i) (fun e => (inv i).2 (Prod.mk.inj e).2.symm)
 have ovw : ∀ {c d : Pt}, (c, d) ∈ eds (w :: (R ++ [u])) → OK v w c d := fun i => h.ok _ _ _ _ vw_in (inner i) (fun e => (inv i).1 (Prod.mk.inj e).1.symm)
 have mem3 : ∀ {y : Pt}, y ∈ w :: (R ++ [u]) → y = w ∨ y ∈ R ∨ y = u := by
  intro y hy
  simpa using hy
 have area0 : crs v w + crs u v - crs u w = det u v w := by simp only [crs, det, uz, vz, wz]; grind
 have edet : det w u v = det u v w := by simp only [det]; grind
 by_cases some : ∃ y, y ∈ R ∧ InT s u v w y
 ·-- a diagonal
  obtain ⟨x, hx, ⟨t1, t2, t3⟩, hm⟩ := nearest (fv s u v w) (InT s u v w) some
  have xin : x ∈ v :: w :: (R ++ [u]) := by simp [hx]
  have xv : x ≠ v := fun e => nv (by rw [← e]; simp [hx])
  have xw : x ≠ w := fun e => nw (by rw [← e]; simp [hx])
  have xu : x ≠ u := fun e => uR (e ▸ hx)
  have xz := h.z x xin
  have x1 : 0 < fu s u v w x := posne t1 fun c => by
   rcases h.corner xin vw_in (on_vw T c.symm t2 t3) with e | e
   ·exact xv e
   ·exact xw e
  have x3 : 0 < fw s u v w x := posne t3 fun c => by
   rcases h.corner xin uv_in (on_uv T c.symm t1 t2) with e | e
   ·exact xu e
   ·exact xv e
  obtain ⟨A, B, rfl⟩ := List.append_of_mem hx
  have split : eds (w :: ((A ++ x :: B) ++ [u])) = eds (w :: (A ++ [x])) ++ eds (x :: (B ++ [u])) := by
   have := eds_split x (B ++ [u]) (w :: A)
   simpa using this
  have l1 : ∀ {e : Pt × Pt}, e ∈ eds (w :: (A ++ [x])) → e ∈ eds (w :: ((A ++ x :: B) ++ [u])) := fun i => by rw [split]; exact List.mem_append_left _ i
  have l2 : ∀ {e : Pt × Pt}, e ∈ eds (x :: (B ++ [u])) → e ∈ eds (w :: ((A ++ x :: B) ++ [u])) := fun i => by rw [split]; exact List.mem_append_right _ i
  have dg : ∀ {c d : Pt}, (c, d) ∈ eds (w :: ((A ++ x :: B) ++ [u])) → OK v x c d := by
   intro c d i
   obtain ⟨i1, i2⟩ := mem_eds' i
   refine diag_any T h hx x1 t2 x3 hm (h.z c (List.mem_cons_of_mem _ i1)) i2 ?_ (inv i).1 (h.corner xin (inner i)) (ouv i) (ovw i)
   intro it
   rcases mem3 i1 with rfl | i1 | rfl
   ·rw [fv_w]; exact t2
   ·exact hm c i1 it
   ·rw [fv_u]; exact t2
  have m1 : ∀ {y : Pt}, y ∈ v :: w :: (A ++ [x]) → y ∈ v :: w :: ((A ++ x :: B) ++ [u]) := by
   intro y hy
   simp only [List.mem_cons, List.mem_append, List.not_mem_nil, or_false] at hy ⊢
   grind
  have m2 : ∀ {y : Pt}, y ∈ v :: x :: (B ++ [u]) → y ∈ v :: w :: ((A ++ x :: B) ++ [u]) := by
   intro y hy
   simp only [List.mem_cons, List.mem_append, List.not_mem_nil, or_false] at hy ⊢
   grind
  have S1 : Simple (v :: w :: (A ++ [x])) := by
   refine ⟨fun a ha => h.z a (m1 ha), ?_, ?_⟩
   ·refine nd.sublist (List.Sublist.cons_cons _ (List.Sublist.cons_cons _ ?_))
    rw [List.append_assoc]
    exact List.Sublist.append_left (List.Sublist.cons_cons _ (List.nil_sublist _)) _
   ·intro a b c d h1 h2 hne
    rcases mem_cyc_eq.1 h1 with e1 | e1 | e1 <;> rcases mem_cyc_eq.1 h2 with e2 | e2 | e2
    ·exact absurd (e1.trans e2.symm) hne
    ·obtain ⟨rfl, rfl⟩ := Prod.mk.inj e1
     exact ovw (l1 e2)
    ·obtain ⟨rfl, rfl⟩ := Prod.mk.inj e1
     obtain ⟨rfl, rfl⟩ := Prod.mk.inj e2
     exact (diag_vw vz x1).symm.swap2
    ·obtain ⟨rfl, rfl⟩ := Prod.mk.inj e2
     exact (ovw (l1 e1)).symm
    ·exact h.ok _ _ _ _ (inner (l1 e1)) (inner (l1 e2)) hne
    ·obtain ⟨rfl, rfl⟩ := Prod.mk.inj e2
     exact (dg (l1 e1)).symm.swap2
    ·obtain ⟨rfl, rfl⟩ := Prod.mk.inj e1
     obtain ⟨rfl, rfl⟩ := Prod.mk.inj e2
     exact (diag_vw vz x1).swap
    ·obtain ⟨rfl, rfl⟩ := Prod.mk.inj e1
     exact (dg (l1 e2)).swap
    ·exact absurd (e1.trans e2.symm) hne
  have S2 : Simple (v :: x :: (B ++ [u])) := by
   refine ⟨fun a ha => h.z a (m2 ha), ?_, ?_⟩
   ·refine nd.sublist (List.Sublist.cons_cons _ (List.Sublist.cons _ ?_))
    rw [List.append_assoc]
    exact List.sublist_append_right A _
   ·intro a b c d h1 h2 hne
    rcases mem_cyc_eq.1 h1 with e1 | e1 | e1 <;> rcases mem_cyc_eq.1 h2 with e2 | e2 | e2
    ·exact absurd (e1.trans e2.symm) hne
    ·obtain ⟨rfl, rfl⟩ := Prod.mk.inj e1
     exact dg (l2 e2)
    ·obtain ⟨rfl, rfl⟩ := Prod.mk.inj e1
     obtain ⟨rfl, rfl⟩ := Prod.mk.inj e2
     exact diag_uv vz x3
    ·obtain ⟨rfl, rfl⟩ := Prod.mk.inj e2
     exact (dg (l2 e1)).symm
    ·exact h.ok _ _ _ _ (inner (l2 e1)) (inner (l2 e2)) hne
    ·obtain ⟨rfl, rfl⟩ := Prod.mk.inj e2
     exact (ouv (l2 e1)).symm
    ·obtain ⟨rfl, rfl⟩ := Prod.mk.inj e1
     obtain ⟨rfl, rfl⟩ := Prod.mk.inj e2
     exact (diag_uv vz x3).symm
    ·obtain ⟨rfl, rfl⟩ := Prod.mk.inj e1
     exact ouv (l2 e2)
    ·exact absurd (e1.trans e2.symm) hne
  have hlen : (A ++ x :: B).length = A.length + B.length + 1 := by simp; omega
  obtain ⟨a1, g1⟩ := IH A.length (by omega) A rfl s v w x hs S1 (fun y hy => by
   refine hl y ?_
   simp only [List.mem_cons, List.mem_append, List.not_mem_nil, or_false] at hy ⊢
   grind) x1
  obtain ⟨a2, g2⟩ := IH B.length (by omega) B rfl s v x u hs S2 (fun y hy => by
   refine hl y ?_
   simp only [List.mem_cons, List.mem_append, List.not_mem_nil, or_false] at hy ⊢
   grind) x3
  have sd : ∀ {q a b : Pt}, q.z = 1 → (∀ y, y ∈ v :: w :: ((A ++ x :: B) ++ [u]) → lt q y) → (a, b) ∈ eds (w :: ((A ++ x :: B) ++ [u])) → Sees s q a b (v :: w :: ((A ++ x :: B) ++ [u])) → ∀ {e : Pt}, (e = a ∨ e = b) → OK q e v x := by
   intro q a b qz hq i S e he
   have hq' : ¬ InT s u v w q := lex_out T qz uz vz wz (hq u (by simp)) (hq v (by simp)) (hq w (by simp))
   have ein : e ∈ w :: ((A ++ x :: B) ++ [u]) := by
    obtain ⟨i1, i2⟩ := mem_eds' i
    rcases he with rfl | rfl
    ·exact i1
    ·exact i2
   have ok : ∀ c d, (c, d) ∈ cyc (v :: w :: ((A ++ x :: B) ++ [u])) → (c, d) ≠ (a, b) → OK q e c d := by
    intro c d h1 h2
    rcases he with rfl | rfl
    ·exact (S.ok c d h1 h2).1
    ·exact (S.ok c d h1 h2).2
   refine (diag_any T h hx x1 t2 x3 hm qz ein (fun it => absurd it hq') (lt_ne (hq v (by simp))) ?_ (ok u v uv_in (fun c => (inv i).2 (Prod.mk.inj c).2.symm)).symm (ok v w vw_in (fun c => (inv i).1 (Prod.mk.inj c).1.symm)).symm).symm
   intro on
   obtain ⟨x', g⟩ := start_cyc xin
   by_cases xa : (x, x') = (a, b)
   ·obtain ⟨rfl, rfl⟩ := Prod.mk.inj xa
    rcases he with rfl | rfl
    ·exact Or.inr rfl
    ·obtain ⟨x2, g2⟩ := end_cyc xin
     by_cases xe : x = e
     ·exact Or.inr xe
     ·obtain ⟨y, h1, h2, h3⟩ := ok x2 x g2 (fun c => xe (Prod.mk.inj c).2) x (by rw [xz]; omega) on On.self.swap
      rw [h3.eq xz]
      exact h1
   ·obtain ⟨y, h1, h2, h3⟩ := ok x x' g xa x (by rw [xz]; omega) on On.self
    rw [h3.eq xz]
    exact h1
  refine ⟨?_, ?_⟩
  ·have e : asum (cyc (v :: w :: ((A ++ x :: B) ++ [u]))) = asum (cyc (v :: w :: (A ++ [x]))) + asum (cyc (v :: x :: (B ++ [u]))) := by
    rw [cyc_eq, cyc_eq, cyc_eq, split]
    simp only [asum, asum_append]
    have : crs x v = - crs v x := by simp only [crs]; grind
    omega
   rw [e, Int.mul_add]
   omega
  ·intro q a b qz hq hab S
   rcases mem_cyc_eq.1 hab with i | i | i
   ·obtain ⟨rfl, rfl⟩ := Prod.mk.inj i
    exact qvw qz hq S
   ·rw [split] at i
    rcases List.mem_append.1 i with i | i
    ·refine g1 q a b qz (fun y hy => hq y (m1 hy)) (mem_cyc_eq.2 (Or.inr (Or.inl i))) ⟨fun y hy => S.out y (m1 hy), ?_⟩
     intro c d hcd hne
     rcases mem_cyc_eq.1 hcd with j | j | j
     ·exact S.ok c d (mem_cyc_eq.2 (Or.inl j)) hne
     ·exact S.ok c d (inner (l1 j)) hne
     ·obtain ⟨rfl, rfl⟩ := Prod.mk.inj j
      exact ⟨(sd qz hq (l1 i) S (Or.inl rfl)).swap2, (sd qz hq (l1 i) S (Or.inr rfl)).swap2⟩
    ·refine g2 q a b qz (fun y hy => hq y (m2 hy)) (mem_cyc_eq.2 (Or.inr (Or.inl i))) ⟨fun y hy => S.out y (m2 hy), ?_⟩
     intro c d hcd hne
     rcases mem_cyc_eq.1 hcd with j | j | j
     ·obtain ⟨rfl, rfl⟩ := Prod.mk.inj j
      exact ⟨sd qz hq (l2 i) S (Or.inl rfl), sd qz hq (l2 i) S (Or.inr rfl)⟩
     ·exact S.ok c d (inner (l2 j)) hne
     ·exact S.ok c d (mem_cyc_eq.2 (Or.inr (Or.inr j))) hne
   ·obtain ⟨rfl, rfl⟩ := Prod.mk.inj i
    exact quv qz hq S
 ·have hout : ∀ y, y ∈ R → ¬ InT s u v w y := fun y hy it => some ⟨y, hy, it⟩
  cases R with
  | nil =>
   refine ⟨?_, ?_⟩
   ·have e : asum (cyc (v :: w :: ([] ++ [u]))) = det u v w := by
     rw [cyc_eq]
     simp only [asum, asum_append, eds, List.nil_append]
     have : crs u w = - crs w u := by simp only [crs]; grind
     omega
    rw [e]
    exact T
   ·intro q a b qz hq hab S
    rcases mem_cyc_eq.1 hab with i | i | i
    ·obtain ⟨rfl, rfl⟩ := Prod.mk.inj i
     exact qvw qz hq S
    ·simp only [eds, List.nil_append, List.mem_singleton, Prod.mk.injEq] at i
     obtain ⟨rfl, rfl⟩ := i
     exact seen_wu T qz uz vz wz (hq v (by simp)) (hq _ (by simp)) (hq _ (by simp)) (Ne.symm hvu) (Ne.symm hvw) huw (S.out v (by simp) hvw hvu) (S.ok v _ vw_in (fun c => hvw (Prod.mk.inj c).1)).2
      (S.ok _ v uv_in (fun c => huw (Prod.mk.inj c).1)).1
    ·obtain ⟨rfl, rfl⟩ := Prod.mk.inj i
     exact quv qz hq S
  | cons r R =>
   -- an ear
   have nouw : ∀ {c d : Pt}, (c, d) ∈ eds (w :: ((r :: R) ++ [u])) → ¬ ((c = u ∨ c = w) ∧ (d = u ∨ d = w)) := by
    intro c d i
    have i2 := (mem_eds i).2
    rintro ⟨hc, hd⟩
    rcases hd with rfl | rfl
    ·rcases hc with rfl | rfl
     ·exact eds_ne nd1 i rfl
     ·rw [List.cons_append] at i
      simp only [eds, List.mem_cons, Prod.mk.injEq] at i
      rcases i with ⟨_, e⟩ | i
      ·exact uR (by rw [e]; simp)
      ·exact nw (mem_eds' i).1
    ·exact nw i2
   have er : ∀ {c d : Pt}, c.z = 1 → d.z = 1 → (c = u ∨ c = w ∨ ¬ InT s u v w c) → (d = u ∨ d = w ∨ ¬ InT s u v w d) → ¬ ((c = u ∨ c = w) ∧ (d = u ∨ d = w)) → c ≠ v → d ≠ v → OK u v c d → OK v w c d → OK u w c d :=
    fun cz dz => ear T cz dz uz wz
   have inp : ∀ {y : Pt}, y ∈ w :: ((r :: R) ++ [u]) → (y = u ∨ y = w ∨ ¬ InT s u v w y) := by
    intro y hy
    rcases mem3 hy with i | i | i
    ·exact Or.inr (Or.inl i)
    ·exact Or.inr (Or.inr (hout y i))
    ·exact Or.inl i
   have cut : ∀ {c d : Pt}, (c, d) ∈ eds (w :: ((r :: R) ++ [u])) → OK u w c d := by
    intro c d i
    obtain ⟨i1, i2⟩ := mem_eds' i
    exact er (h.z c (List.mem_cons_of_mem _ i1)) (h.z d (List.mem_cons_of_mem _ i2)) (inp i1) (inp i2) (nouw i) (inv i).1 (inv i).2 (ouv i) (ovw i)
   have S1 : Simple (w :: ((r :: R) ++ [u])) := by
    refine ⟨fun a ha => h.z a (List.mem_cons_of_mem _ ha), nd1, ?_⟩
    intro a b c d h1 h2 hne
    rcases mem_cyc_cut.1 h1 with e1 | e1 <;> rcases mem_cyc_cut.1 h2 with e2 | e2
    ·exact h.ok _ _ _ _ (inner e1) (inner e2) hne
    ·obtain ⟨rfl, rfl⟩ := Prod.mk.inj e2
     exact (cut e1).symm
    ·obtain ⟨rfl, rfl⟩ := Prod.mk.inj e1
     exact cut e2
    ·exact absurd (e1.trans e2.symm) hne
   obtain ⟨v1, w1, R1, u1, S2, hlen, hl1, pc, pm⟩ := S1.turn (by simp)
   have z1 := S2.z v1 (by simp)
   have z2 := S2.z w1 (by simp)
   have z3 := S2.z u1 (by simp)
   have nd' := S2.nd
   have huw1 : u1 ≠ w1 := by
    rintro rfl
    exact (List.nodup_cons.1 (List.nodup_cons.1 nd').2).1 (by simp)
   have hv1 : u1 ≠ v1 := (lt_ne (hl1 u1 (by simp))).symm
   have d0 : det u1 v1 w1 ≠ 0 := first_turn z3 z1 z2 (hl1 u1 (by simp)) (hl1 w1 (by simp)) huw1 (S2.ok _ _ _ _ (mem_cyc_eq.2 (Or.inr (Or.inr rfl))) (mem_cyc_eq.2 (Or.inl rfl)) (fun c => hv1 (Prod.mk.inj c).1))
   have hs1 : ∃ s1 : Int, (s1 = 1 ∨ s1 = -1) ∧ 0 < s1 * det u1 v1 w1 := by
    by_cases i : 0 < det u1 v1 w1
    ·exact ⟨1, Or.inl rfl, by omega⟩
    ·exact ⟨-1, Or.inr rfl, by omega⟩
   obtain ⟨s1, hs1, T1⟩ := hs1
   obtain ⟨a1, g1⟩ := IH R1.length (by simp at hlen; simp at hR; omega) R1 rfl s1 v1 w1 u1 hs1 S2 hl1 T1
   have es : s1 = s := by
    by_cases e : s1 = s
    ·exact e
    ·have e : s1 = -s := by omega
     exfalso
     refine g1 v u w vz (fun y hy => hl y (pm.mem_iff.2 hy)) (pc.mem_iff.1 (mem_cyc_cut.2 (Or.inr rfl))) ⟨?_, ?_⟩ ?_
     ·intro y hy yu yw it
      rw [e, InT.swap1] at it
      rcases inp (pm.mem_iff.2 hy) with i | i | i
      ·exact yu i
      ·exact yw i
      ·exact i it
     ·intro c d hcd hne
      rcases mem_cyc_cut.1 (pc.mem_iff.2 hcd) with i | i
      ·exact ⟨(ouv i).swap, ovw i⟩
      ·exact absurd i hne
     ·have : s1 * det u w v = s * det u v w := by rw [e]; simp only [det]; grind
      rw [this]
      exact T
   subst es
   refine ⟨?_, ?_⟩
   ·rw [← asum_perm pc, cyc_cut, asum_append] at a1
    rw [cyc_eq]
    simp only [asum, asum_append] at a1 ⊢
    have e : s1 * (crs v w + (asum (eds (w :: ((r :: R) ++ [u]))) + (crs u v + 0))) = s1 * (asum (eds (w :: ((r :: R) ++ [u]))) + (crs u w + 0)) + s1 * det u v w := by
     rw [← area0]
     grind
    omega
   ·intro q a b qz hq hab S
    rcases mem_cyc_eq.1 hab with i | i | i
    ·obtain ⟨rfl, rfl⟩ := Prod.mk.inj i
     exact qvw qz hq S
    ·refine g1 q a b qz (fun y hy => hq y (List.mem_cons_of_mem _ (pm.mem_iff.2 hy))) (pc.mem_iff.1 (mem_cyc_cut.2 (Or.inl i))) ⟨fun y hy => S.out y (List.mem_cons_of_mem _ (pm.mem_iff.2 hy)), ?_⟩
     have hq' : ¬ InT s1 u v w q := lex_out T qz uz vz wz (hq u (by simp)) (hq v (by simp)) (hq w (by simp))
     have qu : q ≠ u := lt_ne (hq u (by simp))
     have qw : q ≠ w := lt_ne (hq w (by simp))
     obtain ⟨i1, i2⟩ := mem_eds' i
     intro c d hcd hne
     rcases mem_cyc_cut.1 (pc.mem_iff.2 hcd) with j | j
     ·exact S.ok c d (inner j) hne
     ·obtain ⟨rfl, rfl⟩ := Prod.mk.inj j
      have o1 := S.ok _ _ uv_in (fun c => (inv i).2 (Prod.mk.inj c).2.symm)
      have o2 := S.ok _ _ vw_in (fun c => (inv i).1 (Prod.mk.inj c).1.symm)
      refine ⟨(er qz (h.z a (List.mem_cons_of_mem _ i1)) (Or.inr (Or.inr hq')) (inp i1) ?_ (lt_ne (hq v (by simp))) (inv i).1 o1.1.symm o2.1.symm).symm,
       (er qz (h.z b (List.mem_cons_of_mem _ i2)) (Or.inr (Or.inr hq')) (inp i2) ?_ (lt_ne (hq v (by simp))) (inv i).2 o1.2.symm o2.2.symm).symm⟩
      ·rintro ⟨i | i, _⟩
       ·exact qu i
       ·exact qw i
      ·rintro ⟨i | i, _⟩
       ·exact qu i
       ·exact qw i
    ·obtain ⟨rfl, rfl⟩ := Prod.mk.inj i
     exact quv qz hq S
/-- A simple polygon has an area. -/
theorem area_ne {P : List Pt} (h : Simple P) (h3 : 3 ≤ P.length) : asum (cyc P) ≠ 0 := by
 obtain ⟨v, w, R, u, S, _, hl, pc, _⟩ := h.turn h3
 have huw : u ≠ w := by
  rintro rfl
  exact (List.nodup_cons.1 (List.nodup_cons.1 S.nd).2).1 (by simp)
 have hv : u ≠ v := (lt_ne (hl u (by simp))).symm
 have d0 : det u v w ≠ 0 := first_turn (S.z u (by simp)) (S.z v (by simp)) (S.z w (by simp)) (hl u (by simp)) (hl w (by simp)) huw
  (S.ok _ _ _ _ (mem_cyc_eq.2 (Or.inr (Or.inr rfl))) (mem_cyc_eq.2 (Or.inl rfl)) (fun c => hv (Prod.mk.inj c).1))
 rw [asum_perm pc]
 by_cases i : 0 < det u v w
 ·have := (main_law _ R rfl 1 v w u (Or.inl rfl) S hl (by omega)).1
  omega
 ·have := (main_law _ R rfl (-1) v w u (Or.inr rfl) S hl (by omega)).1
  omega
end Geo

end Go.Proofs.Ytklhakfmegbobaa.B
