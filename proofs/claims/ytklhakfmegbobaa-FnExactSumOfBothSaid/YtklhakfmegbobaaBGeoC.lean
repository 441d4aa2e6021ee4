-- thin
/- A simple polygon all of whose corners turn to the left has all corners on the left of each side: plane geometry over whole numbers, by pockets. -/
import Derived.Test.YtklhakfmegbobaaX0
import Derived.Test.YtklhakfmegbobaaBBase
import Derived.Test.YtklhakfmegbobaaBGeo
namespace Go.Proofs.Ytklhakfmegbobaa.B
open Go.RowKit Go.Proofs.Ytklhakfmegbobaa.XW Go.Proofs.Ytklhakfmegbobaa.X Go.Proofs.YtklhakfmegbobaaW.PrintWords Go.Proofs.YtklhakfmegbobaaW.PrintLast Go.Proofs.Ytklhakfmegbobaa.B
set_option linter.unusedVariables false
set_option linter.unusedSimpArgs false
set_option maxRecDepth 20000

namespace Geo
theorem lexturn' {A B C ux uy wx wy dx dy : Int} (hA : 0 ≤ A) (hB : 0 ≤ B) (hAB : 0 < A + B) (hU : 0 < ux ∨ (ux = 0 ∧ 0 < uy)) (hW : 0 < wx ∨ (wx = 0 ∧ 0 < wy)) (hD : 0 < dx ∨ (dx = 0 ∧ 0 < dy))
  (h1 : C * ux = A * wx + B * dx) (h2 : C * uy = A * wy + B * dy) : 0 < C := by
 by_cases a0 : A = 0
 ·subst a0
  by_cases b0 : B = 0
  ·omega
  ·have hB' : 0 < B := by omega
   simp only [Int.zero_mul, Int.zero_add] at h1 h2
   have h1' : (2 * C) * ux = B * dx + B * dx := by grind
   have h2' : (2 * C) * uy = B * dy + B * dy := by grind
   have := lexturn hB' hB' hU hD hD h1' h2'
   omega
 ·have hA' : 0 < A := by omega
  by_cases b0 : B = 0
  ·subst b0
   simp only [Int.zero_mul, Int.add_zero] at h1 h2
   have h1' : (2 * C) * ux = A * wx + A * wx := by grind
   have h2' : (2 * C) * uy = A * wy + A * wy := by grind
   have := lexturn hA' hA' hU hW hW h1' h2'
   omega
  ·exact lexturn hA' (by omega) hU hW hD h1 h2
/-- A linear map. -/
def mp (a b c d : Int) (p : Pt) : Pt := ⟨a * p.x + b * p.y, c * p.x + d * p.y, p.z⟩
def ad (a b c d : Int) (p : Pt) : Pt := ⟨d * p.x - b * p.y, a * p.y - c * p.x, (a * d - b * c) * p.z⟩
section
variable {a b c d : Int}
theorem mp_lc (k l : Int) (p q : Pt) : mp a b c d (lc k p l q) = lc k (mp a b c d p) l (mp a b c d q) := by
 simp only [mp, lc, Pt.mk.injEq]
 exact ⟨by grind, by grind, trivial⟩
theorem ad_lc (k l : Int) (p q : Pt) : ad a b c d (lc k p l q) = lc k (ad a b c d p) l (ad a b c d q) := by
 simp only [ad, lc, Pt.mk.injEq]
 exact ⟨by grind, by grind, by grind⟩
theorem ad_mp (p : Pt) : ad a b c d (mp a b c d p) = lc (a * d - b * c) p 0 p := by
 simp only [ad, mp, lc, Pt.mk.injEq]
 exact ⟨by grind, by grind, by grind⟩
theorem mp_ad (p : Pt) : mp a b c d (ad a b c d p) = lc (a * d - b * c) p 0 p := by
 simp only [ad, mp, lc, Pt.mk.injEq]
 exact ⟨by grind, by grind, by grind⟩
theorem det_mp (p q r : Pt) : det (mp a b c d p) (mp a b c d q) (mp a b c d r) = (a * d - b * c) * det p q r := by
 simp only [det, mp]
 grind
theorem crs_mp (p q : Pt) : crs (mp a b c d p) (mp a b c d q) = (a * d - b * c) * crs p q := by
 simp only [crs, mp]
 grind
theorem lc_cancel {D : Int} (hD : D ≠ 0) {p q : Pt} (h : lc D p 0 p = lc D q 0 q) : p = q := by
 cases p; cases q
 simp only [lc, Pt.mk.injEq, Int.zero_mul, Int.add_zero] at h ⊢
 exact ⟨Int.eq_of_mul_eq_mul_left hD h.1, Int.eq_of_mul_eq_mul_left hD h.2.1, Int.eq_of_mul_eq_mul_left hD h.2.2⟩
theorem mp_inj (hD : a * d - b * c ≠ 0) {p q : Pt} (h : mp a b c d p = mp a b c d q) : p = q := by
 have := congrArg (ad a b c d) h
 rw [ad_mp, ad_mp] at this
 exact lc_cancel hD this
theorem OK.map (hD : a * d - b * c ≠ 0) {p q r t : Pt} (h : OK p q r t) : OK (mp a b c d p) (mp a b c d q) (mp a b c d r) (mp a b c d t) := by
 obtain ⟨ε, hε⟩ : ∃ ε : Int, 0 < ε * (a * d - b * c) := by
  by_cases i : 0 < a * d - b * c
  ·exact ⟨1, by omega⟩
  ·exact ⟨-1, by omega⟩
 have key : ∀ {g x y : Pt}, On g (mp a b c d x) (mp a b c d y) → On (lc ε (ad a b c d g) 0 g) x y := by
  intro g x y hg
  obtain ⟨k, α, β, hk, hα, hβ, e⟩ := hg
  refine ⟨k, α * (ε * (a * d - b * c)), β * (ε * (a * d - b * c)), hk, mnz hα (Int.le_of_lt hε), mnz hβ (Int.le_of_lt hε), ?_⟩
  have e2 := congrArg (ad a b c d) e
  rw [ad_lc, ad_lc, ad_mp, ad_mp] at e2
  simp only [lc, Pt.mk.injEq] at e2 ⊢
  obtain ⟨e3, e4, e5⟩ := e2
  refine ⟨?_, ?_, ?_⟩ <;> grind
 intro g gz h1 h2
 have gz1 : (lc ε (ad a b c d g) 0 g).z = ε * (a * d - b * c) * g.z := by
  simp only [lc, ad]
  grind
 obtain ⟨e, h3, h4, h5⟩ := h _ (by rw [gz1]; exact Int.mul_pos hε gz) (key h1) (key h2)
 refine ⟨mp a b c d e, by rcases h3 with rfl | rfl <;> simp, by rcases h4 with rfl | rfl <;> simp, ?_⟩
 unfold Is at h5 ⊢
 have h6 := congrArg (mp a b c d) h5
 rw [gz1, mp_lc, mp_lc, mp_ad] at h6
 refine lc_cancel (D := ε * (a * d - b * c)) (by omega) ?_
 simp only [lc, Pt.mk.injEq] at h6 ⊢
 obtain ⟨e3, e4, e5⟩ := h6
 refine ⟨?_, ?_, ?_⟩ <;> grind
theorem eds_map (f : Pt → Pt) : ∀ L : List Pt, eds (L.map f) = (eds L).map fun e => (f e.1, f e.2)
 | [] => rfl
 | [_] => rfl
 | x :: y :: l => by
  have := eds_map f (y :: l)
  simp only [List.map_cons, eds] at this ⊢
  rw [this]
theorem cyc_map (f : Pt → Pt) (L : List Pt) : cyc (L.map f) = (cyc L).map fun e => (f e.1, f e.2) := by
 cases L with
 | nil => rfl
 | cons x l =>
  have := eds_map f (x :: (l ++ [x]))
  simpa [cyc] using this
theorem mem_cyc_map {f : Pt → Pt} {L : List Pt} {x y : Pt} (h : (x, y) ∈ cyc (L.map f)) : ∃ x' y', (x', y') ∈ cyc L ∧ f x' = x ∧ f y' = y := by
 rw [cyc_map] at h
 obtain ⟨⟨x', y'⟩, h1, h2⟩ := List.mem_map.1 h
 obtain ⟨h3, h4⟩ := Prod.mk.inj h2
 exact ⟨x', y', h1, h3, h4⟩
theorem asum_map (l : List (Pt × Pt)) : asum (l.map fun e => (mp a b c d e.1, mp a b c d e.2)) = (a * d - b * c) * asum l := by
 induction l with
 | nil => simp [asum]
 | cons e l ih => simp only [List.map_cons, asum, ih, crs_mp]; grind
theorem Simple.map (hD : a * d - b * c ≠ 0) {P : List Pt} (h : Simple P) : Simple (P.map (mp a b c d)) := by
 refine ⟨?_, ?_, ?_⟩
 ·intro x hx
  obtain ⟨y, hy, rfl⟩ := List.mem_map.1 hx
  exact h.z y hy
 ·refine List.Pairwise.map _ ?_ h.nd
  intro x y hxy e
  exact hxy (mp_inj hD e)
 ·intro x y z t h1 h2 hne
  obtain ⟨x', y', i1, rfl, rfl⟩ := mem_cyc_map h1
  obtain ⟨z', t', i2, rfl, rfl⟩ := mem_cyc_map h2
  refine (h.ok _ _ _ _ i1 i2 ?_).map hD
  intro e
  obtain ⟨rfl, rfl⟩ := Prod.mk.inj e
  exact hne rfl
end
/-- How far along the way from p to r. -/
def dot (p r y : Pt) : Int := (r.x - p.x) * (y.x - p.x) + (r.y - p.y) * (y.y - p.y)
theorem sq_pos {p r : Pt} (pz : p.z = 1) (rz : r.z = 1) (h : p ≠ r) : 0 < (r.x - p.x) * (r.x - p.x) + (r.y - p.y) * (r.y - p.y) := by
 have h1 : ∀ n : Int, 0 ≤ n * n ∧ (n * n = 0 → n = 0) := by
  intro n
  refine ⟨?_, fun e => ?_⟩
  ·by_cases i : 0 ≤ n
   ·exact mnz i i
   ·have := mnz (show 0 ≤ -n by omega) (show 0 ≤ -n by omega)
    grind
  ·rcases Int.mul_eq_zero.1 e with e | e <;> exact e
 have i1 := h1 (r.x - p.x)
 have i2 := h1 (r.y - p.y)
 refine posne (by omega) fun e => h ?_
 have := i1.2 (by omega)
 have := i2.2 (by omega)
 cases p; cases r
 simp only [Pt.mk.injEq] at *
 omega
/-- No pocket: corners that all turn to the left do not come back to a line that has them all on its left. -/
theorem pocket {p r x : Pt} {M : List Pt} (S : Simple (p :: x :: (M ++ [r])))
  (tn : ∀ a b c, (a, b) ∈ cyc (p :: x :: (M ++ [r])) → (b, c) ∈ cyc (p :: x :: (M ++ [r])) → b ≠ p → b ≠ r → 0 < det a b c)
  (pos : ∀ y, y ∈ x :: M → 0 < det p r y ∨ (det p r y = 0 ∧ 0 < dot p r y)) (c1 : 0 < det p r x) : False := by
 have pz := S.z p (by simp)
 have rz := S.z r (by simp)
 have xz := S.z x (by simp)
 have hne : p ≠ r := by
  rintro rfl
  exact (List.nodup_cons.1 S.nd).1 (by simp)
 have sq := sq_pos pz rz hne
 generalize hvx : r.x - p.x = vx at sq
 generalize hvy : r.y - p.y = vy at sq
 have edet : ∀ y : Pt, y.z = 1 → det p r y = vx * (y.y - p.y) - vy * (y.x - p.x) := by
  intro y yz
  subst hvx hvy
  simp only [det, pz, rz, yz]
  grind
 -- below
 have D1 : (-vy) * vy - vx * vx ≠ 0 := by
  have : (-vy) * vy - vx * vx = -(vx * vx + vy * vy) := by grind
  omega
 have S1 := S.map (a := -vy) (b := vx) (c := vx) (d := vy) D1
 simp only [List.map_cons, List.map_append, List.map_nil] at S1
 have m1 := main_law _ _ rfl 1 _ _ _ (Or.inl rfl) S1 (by
  intro y hy
  have hy' : y ∈ (x :: (M ++ [r])).map (mp (-vy) vx vx vy) := by simpa using hy
  obtain ⟨y', i, rfl⟩ := List.mem_map.1 hy'
  have yz := S.z y' (List.mem_cons_of_mem _ i)
  have e := edet y' yz
  simp only [List.mem_cons, List.mem_append, List.not_mem_nil, or_false] at i
  have key : 0 < det p r y' ∨ (det p r y' = 0 ∧ 0 < dot p r y') := by
   rcases i with rfl | i | rfl
   ·exact pos _ (by simp)
   ·exact pos _ (by simp [i])
   ·refine Or.inr ⟨by simp only [det]; grind, ?_⟩
    unfold dot
    rw [hvx, hvy]
    exact sq
  unfold lt mp
  simp only
  unfold dot at key
  rw [hvx, hvy] at key
  rcases key with k | ⟨k, k'⟩
  ·left; rw [e] at k; grind
  ·right; rw [e] at k; exact ⟨by grind, by grind⟩) (by
  rw [det_mp]
  have : det r p x = - det p r x := by simp only [det]; grind
  rw [this]
  have := Int.mul_pos (show 0 < -((-vy) * vy - vx * vx) by grind) c1
  grind)
 have a1 := m1.1
 have e1 : asum (cyc (mp (-vy) vx vx vy p :: mp (-vy) vx vx vy x :: (M.map (mp (-vy) vx vx vy) ++ [mp (-vy) vx vx vy r]))) = ((-vy) * vy - vx * vx) * asum (cyc (p :: x :: (M ++ [r]))) := by
  rw [← asum_map, ← cyc_map]
  simp
 rw [e1] at a1
 have a1' : asum (cyc (p :: x :: (M ++ [r]))) < 0 := by
  have : 0 < (vx * vx + vy * vy) * (- asum (cyc (p :: x :: (M ++ [r])))) := by grind
  have := mpos sq this
  omega
 -- above
 have D2 : vy * vy - (-vx) * vx ≠ 0 := by
  have : vy * vy - (-vx) * vx = vx * vx + vy * vy := by grind
  omega
 have S2 := S.map (a := vy) (b := -vx) (c := vx) (d := vy) D2
 obtain ⟨v, w, R, u, S3, _, hl, pc, pm⟩ := S2.turn (by simp)
 have vin : v ∈ (p :: x :: (M ++ [r])).map (mp vy (-vx) vx vy) := pm.mem_iff.2 (by simp)
 obtain ⟨z, zin, hz⟩ := List.mem_map.1 vin
 have zz := S.z z zin
 have zlow : (mp vy (-vx) vx vy z).x ≤ (mp vy (-vx) vx vy x).x := by
  by_cases i : mp vy (-vx) vx vy x = v
  ·rw [i, hz]
   exact Int.le_refl _
  ·have xin : mp vy (-vx) vx vy x ∈ v :: w :: (R ++ [u]) := pm.mem_iff.1 (List.mem_map.2 ⟨x, by simp, rfl⟩)
   rcases List.mem_cons.1 xin with j | j
   ·exact absurd j i
   ·have := hl _ j
    rw [← hz] at this
    rcases this with k | k <;> omega
 have xl := edet x xz
 simp only [mp] at zlow
 have zp : z ≠ p := by
  rintro rfl
  grind
 have zr : z ≠ r := by
  rintro rfl
  have := edet z rz
  have : det p z z = 0 := by simp only [det]; grind
  grind
 have i1 : (u, v) ∈ cyc ((p :: x :: (M ++ [r])).map (mp vy (-vx) vx vy)) := pc.mem_iff.2 (mem_cyc_eq.2 (Or.inr (Or.inr rfl)))
 have i2 : (v, w) ∈ cyc ((p :: x :: (M ++ [r])).map (mp vy (-vx) vx vy)) := pc.mem_iff.2 (mem_cyc_eq.2 (Or.inl rfl))
 obtain ⟨u', v', j1, ju, jv⟩ := mem_cyc_map i1
 obtain ⟨v'', w', j2, jv', jw⟩ := mem_cyc_map i2
 obtain rfl : v' = z := mp_inj D2 (jv.trans hz.symm)
 obtain rfl : v'' = v' := mp_inj D2 (jv'.trans hz.symm)
 have t := tn _ _ _ j1 j2 zp zr
 have sq2 : 0 < vy * vy - (-vx) * vx := by grind
 have m2 := (main_law _ R rfl 1 v w u (Or.inl rfl) S3 hl (by
  rw [← ju, ← jv, ← jw, det_mp, Int.one_mul]
  exact Int.mul_pos sq2 t)).1
 rw [← asum_perm pc, cyc_map, asum_map, Int.one_mul] at m2
 have := mpos sq2 m2
 omega
theorem det_lex {p r y : Pt} (pz : p.z = 1) (rz : r.z = 1) (yz : y.z = 1) : det p r y = (r.x - p.x) * (y.y - p.y) - (r.y - p.y) * (y.x - p.x) := by
 simp only [det, pz, rz, yz]
 grind
theorem lt_vec {a b : Pt} (h : lt a b) : 0 < b.x - a.x ∨ (b.x - a.x = 0 ∧ 0 < b.y - a.y) := by
 rcases h with h | h <;> omega
/-- Ways from p: what is to the left of what is to the left. -/
theorem left_trans {p a r y : Pt} (pz : p.z = 1) (az : a.z = 1) (rz : r.z = 1) (yz : y.z = 1) (ha : lt p a) (hr : lt p r) (hy : lt p y) (h1 : 0 ≤ det p a r) (h2 : 0 ≤ det p r y) (h3 : 0 < det p a r + det p r y) : 0 < det p a y := by
 refine lexturn' (A := det p r y) (B := det p a r) h2 h1 (by omega) (lt_vec hr) (lt_vec ha) (lt_vec hy) ?_ ?_
 ·rw [det_lex pz az yz, det_lex pz rz yz, det_lex pz az rz]; grind
 ·rw [det_lex pz az yz, det_lex pz rz yz, det_lex pz az rz]; grind
theorem straight_trans {p a r y : Pt} (pz : p.z = 1) (az : a.z = 1) (rz : r.z = 1) (yz : y.z = 1) (hr : lt p r) (h1 : det p a r = 0) (h2 : det p r y = 0) : det p a y = 0 := by
 have e1 : det p a y * (r.x - p.x) = 0 := by
  rw [det_lex pz az rz] at h1
  rw [det_lex pz rz yz] at h2
  rw [det_lex pz az yz]
  grind
 have e2 : det p a y * (r.y - p.y) = 0 := by
  rw [det_lex pz az rz] at h1
  rw [det_lex pz rz yz] at h2
  rw [det_lex pz az yz]
  grind
 rcases lt_vec hr with k | ⟨_, k⟩
 ·exact mz k (by rw [Int.mul_comm]; exact e1)
 ·exact mz k (by rw [Int.mul_comm]; exact e2)
/-- The first way to the left from the first corner, and the nearest corner on it. -/
theorem wrap {p : Pt} (pz : p.z = 1) : ∀ {L : List Pt}, L ≠ [] → (∀ y, y ∈ L → y.z = 1 ∧ lt p y) → ∃ r, r ∈ L ∧ ∀ y, y ∈ L → 0 < det p r y ∨ (det p r y = 0 ∧ (y = r ∨ lt r y))
 | [], h, _ => absurd rfl h
 | [a], _, _ => ⟨a, by simp, fun y hy => by
  rw [List.mem_singleton.1 hy]
  exact Or.inr ⟨by simp only [det]; grind, Or.inl rfl⟩⟩
 | a :: b :: l, _, hl => by
  obtain ⟨r, hr, h⟩ := wrap pz (L := b :: l) (by simp) (fun y hy => hl y (List.mem_cons_of_mem _ hy))
  obtain ⟨az, ha⟩ := hl a (by simp)
  obtain ⟨rz, hr'⟩ := hl r (List.mem_cons_of_mem _ hr)
  have da : det p a a = 0 := by simp only [det]; grind
  have dra : det p a r = - det p r a := by simp only [det]; grind
  rcases Int.lt_trichotomy (det p r a) 0 with i | i | i
  ·refine ⟨a, by simp, fun y hy => ?_⟩
   rcases List.mem_cons.1 hy with rfl | hy
   ·exact Or.inr ⟨da, Or.inl rfl⟩
   ·obtain ⟨yz, hy'⟩ := hl y (List.mem_cons_of_mem _ hy)
    refine Or.inl (left_trans pz az rz yz ha hr' hy' (by omega) ?_ ?_)
    ·rcases h y hy with k | ⟨k, _⟩ <;> omega
    ·rcases h y hy with k | ⟨k, _⟩ <;> omega
  ·by_cases e : a = r ∨ lt r a
   ·refine ⟨r, List.mem_cons_of_mem _ hr, fun y hy => ?_⟩
    rcases List.mem_cons.1 hy with rfl | hy
    ·exact Or.inr ⟨i, e⟩
    ·exact h y hy
   ·have har : lt a r := by
     rcases lt_total az rz (fun c => e (Or.inl c)) with k | k
     ·exact k
     ·exact absurd (Or.inr k) e
    refine ⟨a, by simp, fun y hy => ?_⟩
    rcases List.mem_cons.1 hy with rfl | hy
    ·exact Or.inr ⟨da, Or.inl rfl⟩
    ·obtain ⟨yz, hy'⟩ := hl y (List.mem_cons_of_mem _ hy)
     rcases h y hy with k | ⟨k, k'⟩
     ·exact Or.inl (left_trans pz az rz yz ha hr' hy' (by omega) (by omega) (by omega))
     ·refine Or.inr ⟨straight_trans pz az rz yz hr' (by omega) k, Or.inr ?_⟩
      rcases k' with rfl | k'
      ·exact har
      ·exact lt_trans har k'
  ·refine ⟨r, List.mem_cons_of_mem _ hr, fun y hy => ?_⟩
   rcases List.mem_cons.1 hy with rfl | hy
   ·exact Or.inl i
   ·exact h y hy
/-- Beyond r on the way from p. -/
def beyond (p r y : Pt) : Prop := det p r y = 0 ∧ 0 < (r.x - p.x) * (y.x - r.x) + (r.y - p.y) * (y.y - r.y)
theorem beyond_of {p r y : Pt} (pz : p.z = 1) (rz : r.z = 1) (yz : y.z = 1) (hr : lt p r) (hy : lt r y) (h : det p r y = 0) : beyond p r y := by
 refine ⟨h, ?_⟩
 have sq := sq_pos pz rz (lt_ne hr)
 rw [det_lex pz rz yz] at h
 refine lexturn' (A := (r.x - p.x) * (r.x - p.x) + (r.y - p.y) * (r.y - p.y)) (B := 0) (by omega) (by omega) (by omega) (lt_vec hr) (lt_vec hy) (lt_vec hy) ?_ ?_
 ·grind
 ·grind
theorem on_beyond {p r y : Pt} (pz : p.z = 1) (rz : r.z = 1) (yz : y.z = 1) (hne : p ≠ r) (h : beyond p r y) : On r p y := by
 obtain ⟨h1, h2⟩ := h
 have sq := sq_pos pz rz hne
 rw [det_lex pz rz yz] at h1
 refine ⟨(r.x - p.x) * (y.x - p.x) + (r.y - p.y) * (y.y - p.y), (r.x - p.x) * (y.x - r.x) + (r.y - p.y) * (y.y - r.y), (r.x - p.x) * (r.x - p.x) + (r.y - p.y) * (r.y - p.y), ?_, Int.le_of_lt h2, Int.le_of_lt sq, ?_⟩
 ·grind
 ·simp only [lc, pz, rz, yz, Pt.mk.injEq]
  refine ⟨?_, ?_, ?_⟩ <;> grind
/-- The side that closes a pocket meets nothing else. -/
theorem chord {p r x : Pt} {M : List Pt} {P : List Pt} (SP : Simple P) (nd : (p :: x :: (M ++ [r])).Nodup) (sub : ∀ y, y ∈ p :: x :: (M ++ [r]) → y ∈ P) (esub : ∀ e, e ∈ eds (p :: x :: (M ++ [r])) → e ∈ cyc P)
  (hl : ∀ y, y ∈ x :: M → 0 < det p r y ∨ beyond p r y) : Simple (p :: x :: (M ++ [r])) := by
 have pz := SP.z p (sub p (by simp))
 have rz := SP.z r (sub r (by simp))
 have hne : p ≠ r := by
  rintro rfl
  exact (List.nodup_cons.1 nd).1 (by simp)
 have sq := sq_pos pz rz hne
 have cyc2 : ∀ {c d : Pt}, (c, d) ∈ cyc (p :: x :: (M ++ [r])) → (c, d) ∈ eds (p :: x :: (M ++ [r])) ∨ (c, d) = (r, p) := by
  intro c d h
  have := mem_cyc_cut (w := p) (u := r) (R := x :: M) (c := c) (d := d)
  simp only [List.cons_append] at this
  exact this.1 h
 have key : ∀ {c d : Pt}, (c, d) ∈ eds (p :: x :: (M ++ [r])) → OK r p c d := by
  intro c d hcd g gz h1 h2
  obtain ⟨k, α, β, hk, hα, hβ, h⟩ := id h1
  obtain ⟨l, γ, δ, hl', hγ, hδ, h'⟩ := id h2
  obtain ⟨hc, hd⟩ := mem_eds hcd
  have cz := SP.z c (sub c hc)
  have dz := SP.z d (sub d (List.mem_of_mem_tail hd))
  have kind : ∀ {y : Pt}, y ∈ p :: x :: (M ++ [r]) → y = p ∨ y = r ∨ 0 < det p r y ∨ beyond p r y := by
   intro y hy
   simp only [List.mem_cons, List.mem_append, List.not_mem_nil, or_false] at hy
   rcases hy with rfl | rfl | hy | rfl
   ·exact Or.inl rfl
   ·exact Or.inr (Or.inr (hl _ (by simp)))
   ·exact Or.inr (Or.inr (hl _ (by simp [hy])))
   ·exact Or.inr (Or.inl rfl)
  have dp : det p r p = 0 := by simp only [det]; grind
  have dr : det p r r = 0 := by simp only [det]; grind
  have dn : ∀ {y : Pt}, y ∈ p :: x :: (M ++ [r]) → 0 ≤ det p r y := by
   intro y hy
   rcases kind hy with rfl | rfl | k | k
   ·omega
   ·omega
   ·omega
   ·have := k.1; omega
  have a1 := lfw h 1 p r p
  have a2 := lfw h' 1 p r p
  simp only [fw, Int.one_mul] at a1 a2
  rw [dp, dr, Int.mul_zero, Int.mul_zero, Int.add_zero] at a1
  rw [mz hk a1, Int.mul_zero] at a2
  have b1 := mnz hγ (dn hc)
  have b2 := mnz hδ (dn (List.mem_of_mem_tail hd))
  have zk := lz h
  have zl := lz h'
  rw [pz, rz, Int.mul_one, Int.mul_one] at zk
  rw [cz, dz, Int.mul_one, Int.mul_one] at zl
  -- how far
  have far : ∀ {y : Pt}, y.z = 1 → (y = p ∨ y = r ∨ 0 < det p r y ∨ beyond p r y) → det p r y = 0 → y = p ∨ y = r ∨ (r.x - p.x) * (r.x - p.x) + (r.y - p.y) * (r.y - p.y) < dot p r y := by
   intro y yz hy h0
   rcases hy with hy | hy | hy | hy
   ·exact Or.inl hy
   ·exact Or.inr (Or.inl hy)
   ·omega
   ·refine Or.inr (Or.inr ?_)
    have := hy.2
    unfold dot
    grind
  have tau : ∀ {m a b : Int} {q s : Pt}, lc m g 0 g = lc a q b s → q.z = 1 → s.z = 1 → m * ((r.x - p.x) * (g.x - p.x * g.z) + (r.y - p.y) * (g.y - p.y * g.z)) = a * dot p r q + b * dot p r s := by
   intro m a b q s e qz sz
   simp only [lc, Pt.mk.injEq, qz, sz, Int.zero_mul, Int.add_zero, Int.mul_one] at e
   obtain ⟨e1, e2, e3⟩ := e
   unfold dot
   grind
  have t1 := tau h rz pz
  have t2 := tau h' cz dz
  have dotp : dot p r p = 0 := by unfold dot; grind
  have dotr : dot p r r = (r.x - p.x) * (r.x - p.x) + (r.y - p.y) * (r.y - p.y) := rfl
  rw [dotp, dotr, Int.mul_zero, Int.add_zero] at t1
  generalize (r.x - p.x) * (r.x - p.x) + (r.y - p.y) * (r.y - p.y) = L at sq far t1 dotr
  generalize (r.x - p.x) * (g.x - p.x * g.z) + (r.y - p.y) * (g.y - p.y * g.z) = τ at t1 t2
  have t3 : τ ≤ g.z * L := by
   have : 0 ≤ k * (g.z * L - τ) := by
    have e : k * (g.z * L - τ) = β * L := by
     have : k * (g.z * L) = (α + β) * L := by rw [← zk]; grind
     rw [Int.mul_sub, this, t1]
     grind
    rw [e]
    exact mnz hβ (Int.le_of_lt sq)
   have := mnn hk this
   omega
  by_cases hγ0 : γ = 0
  ·have hd0 : 0 < δ := by
    have := Int.mul_pos hl' gz
    omega
   rw [hγ0, Int.zero_mul, Int.zero_add] at a2 t2
   have isd : Is g d := Is.of dz hl' (α := δ) (by rw [h', hγ0]; simp only [lc, Int.zero_mul, Int.zero_add, Int.add_zero])
   rcases far dz (kind (List.mem_of_mem_tail hd)) (mz hd0 a2.symm) with rfl | rfl | i
   ·exact ⟨d, Or.inr rfl, Or.inr rfl, isd⟩
   ·exact ⟨d, Or.inl rfl, Or.inr rfl, isd⟩
   ·exfalso
    have := Int.mul_pos hd0 (show 0 < dot p r d - L by omega)
    have : 0 ≤ l * (g.z * L - τ) := mnz (Int.le_of_lt hl') (by omega)
    have e : l * (g.z * L - τ) = -(δ * (dot p r d - L)) := by
     have : l * (g.z * L) = (γ + δ) * L := by rw [← zl]; grind
     rw [Int.mul_sub, this, t2, hγ0]
     grind
    omega
  by_cases hδ0 : δ = 0
  ·have hc0 : 0 < γ := by omega
   rw [hδ0, Int.zero_mul, Int.add_zero] at a2 t2
   have isc : Is g c := Is.of cz hl' (α := γ) (by rw [h', hδ0]; simp only [lc, Int.zero_mul])
   rcases far cz (kind hc) (mz hc0 a2.symm) with rfl | rfl | i
   ·exact ⟨c, Or.inr rfl, Or.inl rfl, isc⟩
   ·exact ⟨c, Or.inl rfl, Or.inl rfl, isc⟩
   ·exfalso
    have := Int.mul_pos hc0 (show 0 < dot p r c - L by omega)
    have : 0 ≤ l * (g.z * L - τ) := mnz (Int.le_of_lt hl') (by omega)
    have e : l * (g.z * L - τ) = -(γ * (dot p r c - L)) := by
     have : l * (g.z * L) = (γ + δ) * L := by rw [← zl]; grind
     rw [Int.mul_sub, this, t2, hδ0]
     grind
    omega
  exfalso
  have hc0 : 0 < γ := by omega
  have hd0 : 0 < δ := by omega
  have c0 : det p r c = 0 := mz hc0 (by omega)
  have d0 : det p r d = 0 := mz hd0 (by omega)
  have dnp : d ≠ p := by
   rintro rfl
   exact (List.nodup_cons.1 nd).1 hd
  have hcd' : c ≠ d := eds_ne nd hcd
  have clow : ¬ (L ≤ dot p r c ∧ L ≤ dot p r d ∧ L + L < dot p r c + dot p r d) := by
   rintro ⟨k1, k2, k3⟩
   have q1 := mnz hγ (show 0 ≤ dot p r c - L by omega)
   have q2 := mnz hδ (show 0 ≤ dot p r d - L by omega)
   have q3 : 0 < γ * (dot p r c - L) + δ * (dot p r d - L) := by
    by_cases i : L < dot p r c
    ·have := Int.mul_pos hc0 (show 0 < dot p r c - L by omega)
     omega
    ·have := Int.mul_pos hd0 (show 0 < dot p r d - L by omega)
     omega
   have : 0 ≤ l * (g.z * L - τ) := mnz (Int.le_of_lt hl') (by omega)
   have e : l * (g.z * L - τ) = -(γ * (dot p r c - L) + δ * (dot p r d - L)) := by
    have : l * (g.z * L) = (γ + δ) * L := by rw [← zl]; grind
    rw [Int.mul_sub, this, t2]
    grind
   omega
  rcases far dz (kind (List.mem_of_mem_tail hd)) d0 with i | i | i
  ·exact dnp i
  ·rcases far cz (kind hc) c0 with j | j | j
   ·subst i j
    -- the side (p, r) would be one of the pocket's own
    simp only [eds, List.mem_cons, Prod.mk.injEq] at hcd
    rcases hcd with ⟨_, e⟩ | hcd
    ·refine (List.nodup_cons.1 (List.nodup_cons.1 nd).2).1 ?_
     rw [← e]
     simp
    ·exact (List.nodup_cons.1 nd).1 (mem_eds' hcd).1
   ·exact hcd' (j.trans i.symm)
   ·refine clow ⟨by omega, by rw [i, dotr]; omega, ?_⟩
    rw [i, dotr]
    omega
  ·rcases far cz (kind hc) c0 with j | j | j
   ·subst j
    rcases kind (List.mem_of_mem_tail hd) with k | k | k | k
    ·exact dnp k
    ·rw [k, dotr] at i
     omega
    ·omega
    ·rcases SP.corner (sub r (by simp)) (esub _ hcd) (on_beyond pz rz dz hne k) with e | e
     ·exact hne e.symm
     ·rw [← e, dotr] at i
      omega
   ·refine clow ⟨by rw [j, dotr]; omega, by omega, ?_⟩
    rw [j, dotr]
    omega
   ·exact clow ⟨by omega, by omega, by omega⟩
 refine ⟨fun a ha => SP.z a (sub a ha), nd, ?_⟩
 intro a b c d h1 h2 hne'
 rcases cyc2 h1 with e1 | e1 <;> rcases cyc2 h2 with e2 | e2
 ·exact SP.ok _ _ _ _ (esub _ e1) (esub _ e2) hne'
 ·obtain ⟨rfl, rfl⟩ := Prod.mk.inj e2
  exact (key e1).symm
 ·obtain ⟨rfl, rfl⟩ := Prod.mk.inj e1
  exact key e2
 ·exact absurd (e1.trans e2.symm) hne'
theorem start_mem {a b y : Pt} : ∀ {L : List Pt}, (a, b) ∈ eds (L ++ [y]) → a ∈ L
 | [], h => by simp [eds] at h
 | [c], h => by
  simp only [List.cons_append, List.nil_append, eds, List.mem_singleton, Prod.mk.injEq] at h
  simp [h.1]
 | c :: d :: l, h => by
  simp only [List.cons_append, eds, List.mem_cons, Prod.mk.injEq] at h
  rcases h with ⟨rfl, _⟩ | h
  ·simp
  ·exact List.mem_cons_of_mem _ (start_mem (L := d :: l) (by simpa using h))
theorem cyc_two (a b : Pt) (T : List Pt) : cyc (a :: b :: T) = (a, b) :: eds ((b :: T) ++ [a]) := rfl
theorem start_unique {a b b' : Pt} {T : List Pt} (nd : (a :: b' :: T).Nodup) (h : (a, b) ∈ cyc (a :: b' :: T)) : b = b' := by
 rw [cyc_two] at h
 rcases List.mem_cons.1 h with e | h
 ·exact (Prod.mk.inj e).2
 ·exact absurd (start_mem h) (List.nodup_cons.1 nd).1
/-- All corners turn to the left. -/
def Left (P : List Pt) : Prop := ∀ a b c, (a, b) ∈ cyc P → (b, c) ∈ cyc P → 0 < det a b c
theorem pocket2 {P : List Pt} (SP : Simple P) (tl : Left P) {p r x : Pt} {M : List Pt} (nd : (p :: x :: (M ++ [r])).Nodup) (sub : ∀ y, y ∈ p :: x :: (M ++ [r]) → y ∈ P) (esub : ∀ e, e ∈ eds (p :: x :: (M ++ [r])) → e ∈ cyc P)
  (hl : ∀ y, y ∈ x :: M → 0 < det p r y ∨ beyond p r y) (c1 : 0 < det p r x) : False := by
 have pz := SP.z p (sub p (by simp))
 have rz := SP.z r (sub r (by simp))
 have hne : p ≠ r := by
  rintro rfl
  exact (List.nodup_cons.1 nd).1 (by simp)
 have sq := sq_pos pz rz hne
 have cyc2 : ∀ {c d : Pt}, (c, d) ∈ cyc (p :: x :: (M ++ [r])) → (c, d) ∈ eds (p :: x :: (M ++ [r])) ∨ (c, d) = (r, p) := by
  intro c d h
  have := mem_cyc_cut (w := p) (u := r) (R := x :: M) (c := c) (d := d)
  simp only [List.cons_append] at this
  exact this.1 h
 refine pocket (chord SP nd sub esub hl) ?_ ?_ c1
 ·intro a b c h1 h2 bp br
  rcases cyc2 h1 with e1 | e1
  ·rcases cyc2 h2 with e2 | e2
   ·exact tl _ _ _ (esub _ e1) (esub _ e2)
   ·exact absurd (Prod.mk.inj e2).1 br
  ·exact absurd (Prod.mk.inj e1).2 bp
 ·intro y hy
  rcases hl y hy with k | ⟨k, k'⟩
  ·exact Or.inl k
  ·refine Or.inr ⟨k, ?_⟩
   unfold dot
   grind
/-- From the first corner on, all others are to the left of the first side. -/
theorem step {p x : Pt} {L : List Pt} (S : Simple (p :: x :: L)) (tl : Left (p :: x :: L)) (hl : ∀ y, y ∈ x :: L → lt p y) : ∀ y, y ∈ L → 0 < det p x y := by
 have pz := S.z p (by simp)
 have xz := S.z x (by simp)
 have nd := S.nd
 have nx := (List.nodup_cons.1 (List.nodup_cons.1 nd).2).1
 obtain ⟨r, hr, h⟩ := wrap pz (L := x :: L) (by simp) (fun y hy => ⟨S.z y (List.mem_cons_of_mem _ hy), hl y hy⟩)
 have rz := S.z r (List.mem_cons_of_mem _ hr)
 have pr := hl r hr
 have px := hl x (by simp)
 obtain ⟨A, B, e⟩ := List.append_of_mem hr
 cases A with
 | cons a M =>
  exfalso
  simp only [List.cons_append, List.cons.injEq] at e
  obtain ⟨rfl, rfl⟩ := e
  have xr : x ≠ r := fun c => nx (by rw [c]; simp)
  have rM : r ∉ M := by
   intro c
   have := (List.nodup_append.1 (List.nodup_cons.1 (List.nodup_cons.1 nd).2).2).2.2 r c r (by simp)
   exact this rfl
  have sub : ∀ y, y ∈ p :: x :: (M ++ [r]) → y ∈ p :: x :: (M ++ r :: B) := by
   intro y hy
   simp only [List.mem_cons, List.mem_append, List.not_mem_nil, or_false] at hy ⊢
   grind
  have first_in : (p, x) ∈ cyc (p :: x :: (M ++ r :: B)) := by rw [cyc_two]; simp
  refine pocket2 S tl (p := p) (r := r) (x := x) (M := M) ?_ sub ?_ ?_ ?_
  ·refine nd.sublist (List.Sublist.cons_cons _ (List.Sublist.cons_cons _ ?_))
   exact List.Sublist.append_left (List.Sublist.cons_cons _ (List.nil_sublist _)) _
  ·intro e he
   have := eds_split r (B ++ [p]) (p :: x :: M)
   have e2 : cyc (p :: x :: (M ++ r :: B)) = eds ((p :: x :: M) ++ [r]) ++ eds (r :: (B ++ [p])) := by
    rw [← this]
    simp [cyc]
   rw [e2]
   exact List.mem_append_left _ (by simpa using he)
  ·intro y hy
   have yin : y ∈ x :: (M ++ r :: B) := by
    simp only [List.mem_cons, List.mem_append] at hy ⊢
    grind
   rcases h y yin with k | ⟨k, k' | k'⟩
   ·exact Or.inl k
   ·subst k'
    rcases List.mem_cons.1 hy with e | e
    ·exact absurd e.symm xr
    ·exact absurd e rM
   ·exact Or.inr (beyond_of pz rz (S.z y (List.mem_cons_of_mem _ yin)) pr k' k)
  ·rcases h x (by simp) with k | ⟨k, k' | k'⟩
   ·exact k
   ·exact absurd k' xr
   ·exfalso
    rcases S.corner (List.mem_cons_of_mem _ hr) first_in (on_beyond pz rz xz (lt_ne pr) (beyond_of pz rz xz pr k' k)) with c | c
    ·exact lt_ne pr c.symm
    ·exact xr c.symm
 | nil =>
  simp only [List.nil_append, List.cons.injEq] at e
  obtain ⟨rfl, rfl⟩ := e
  have h' : ∀ y, y ∈ L → 0 < det p x y ∨ (det p x y = 0 ∧ lt x y) := by
   intro y hy
   rcases h y (List.mem_cons_of_mem _ hy) with k | ⟨k, k' | k'⟩
   ·exact Or.inl k
   ·exact absurd (k' ▸ hy) nx
   ·exact Or.inr ⟨k, k'⟩
  refine fun y0 hy0 => Decidable.byContradiction fun hno => ?_
  have y0in : y0 ∈ L.filter fun y => decide (det p x y = 0) := by
   rw [List.mem_filter]
   rcases h' y0 hy0 with k | k
   ·exact absurd k hno
   ·exact ⟨hy0, by simp [k.1]⟩
  obtain ⟨y, hy, near⟩ := least (P := L.filter fun y => decide (det p x y = 0)) (by intro c; rw [c] at y0in; simp at y0in) (fun a ha => S.z a (List.mem_cons_of_mem _ (List.mem_cons_of_mem _ (List.mem_filter.1 ha).1)))
  rw [List.mem_filter] at hy
  obtain ⟨yin, y0⟩ := hy
  have y0 : det p x y = 0 := by simpa using y0
  have yz := S.z y (List.mem_cons_of_mem _ (List.mem_cons_of_mem _ yin))
  have xy : lt x y := by
   rcases h' y yin with k | k
   ·omega
   ·exact k.2
  have first_in : ∀ T, (p, x) ∈ cyc (p :: x :: T) := fun T => by rw [cyc_two]; simp
  obtain ⟨M, N, rfl⟩ := List.append_of_mem yin
  cases M with
  | nil =>
   have := tl p x y (first_in _) (by rw [cyc_two]; simp [eds])
   omega
  | cons c M =>
   have yM : y ∉ c :: M := by
    intro i
    have := (List.nodup_append.1 (List.nodup_cons.1 (List.nodup_cons.1 nd).2).2).2.2 y i y (by simp)
    exact this rfl
   have sub : ∀ z, z ∈ x :: c :: (M ++ [y]) → z ∈ p :: x :: (c :: M ++ y :: N) := by
    intro z hz
    simp only [List.mem_cons, List.mem_append, List.not_mem_nil, or_false, List.cons_append] at hz ⊢
    grind
   have shift : ∀ {z : Pt}, z.z = 1 → 0 < det p x z → 0 < det x y z := by
    intro z zz hz
    rw [det_lex pz xz yz] at y0
    rw [det_lex pz xz zz] at hz
    rw [det_lex xz yz zz]
    refine lexturn' (A := (x.x - p.x) * (z.y - p.y) - (x.y - p.y) * (z.x - p.x)) (B := 0) (by omega) (by omega) (by omega) (lt_vec px) (lt_vec xy) (lt_vec xy) ?_ ?_
    ·grind
    ·grind
   refine pocket2 S tl (p := x) (r := y) (x := c) (M := M) ?_ sub ?_ ?_ ?_
   ·refine (List.nodup_cons.1 nd).2.sublist (List.Sublist.cons_cons _ (List.Sublist.cons_cons _ ?_))
    exact List.Sublist.append_left (List.Sublist.cons_cons _ (List.nil_sublist _)) _
   ·intro e he
    have := eds_split y (N ++ [p]) (x :: c :: M)
    have e2 : cyc (p :: x :: (c :: M ++ y :: N)) = (p, x) :: (eds ((x :: c :: M) ++ [y]) ++ eds (y :: (N ++ [p]))) := by
     rw [← this, cyc_two]
     simp
    rw [e2]
    exact List.mem_cons_of_mem _ (List.mem_append_left _ (by simpa using he))
   ·intro z hz
    have zin : z ∈ c :: M ++ y :: N := List.mem_append_left _ hz
    have zz := S.z z (List.mem_cons_of_mem _ (List.mem_cons_of_mem _ zin))
    rcases h' z zin with k | ⟨k, _⟩
    ·exact Or.inl (shift zz k)
    ·have zy : z ≠ y := fun e => yM (e ▸ hz)
     have yz' := near z (List.mem_filter.2 ⟨zin, by simp [k]⟩) zy
     refine Or.inr (beyond_of xz yz zz xy yz' ?_)
     rw [det_lex pz xz yz] at y0
     rw [det_lex pz xz zz] at k
     rw [det_lex xz yz zz]
     have e1 : ((y.x - x.x) * (z.y - x.y) - (y.y - x.y) * (z.x - x.x)) * (x.x - p.x) = 0 := by grind
     have e2 : ((y.x - x.x) * (z.y - x.y) - (y.y - x.y) * (z.x - x.x)) * (x.y - p.y) = 0 := by grind
     rcases lt_vec px with q | ⟨_, q⟩
     ·exact mz q (by rw [Int.mul_comm]; exact e1)
     ·exact mz q (by rw [Int.mul_comm]; exact e2)
   ·refine shift (S.z c (by simp)) (tl p x c (first_in _) ?_)
    rw [cyc_two]
    simp [eds]
theorem frame_lt {vx vy ax ay px py zx zy : Int} (hx : ax - px = vx) (hy : ay - py = vy) (h : 0 < vx * (zy - py) - vy * (zx - px)) : (-vy) * ax + vx * ay < (-vy) * zx + vx * zy := by
 subst hx hy
 grind
theorem frame_lt2 {vx vy ax ay px py : Int} (hx : ax - px = vx) (hy : ay - py = vy) (h : 0 < vx * vx + vy * vy) : (-vy) * ax + vx * ay = (-vy) * px + vx * py ∧ (-vx) * ax + (-vy) * ay < (-vx) * px + (-vy) * py := by
 subst hx hy
 constructor <;> grind
/-- A simple polygon of which all corners turn to the left has all corners on the left of each of its sides. -/
theorem convex {P : List Pt} (S : Simple P) (tl : Left P) (h3 : 3 ≤ P.length) {a b y : Pt} (hab : (a, b) ∈ cyc P) (hy : y ∈ P) (ya : y ≠ a) (yb : y ≠ b) : 0 < det a b y := by
 obtain ⟨v, w, R, u, S0, hlen, hl, pc, pm⟩ := S.turn h3
 have tl0 : Left (v :: w :: (R ++ [u])) := fun a b c h1 h2 => tl a b c (pc.mem_iff.2 h1) (pc.mem_iff.2 h2)
 generalize hP : v :: w :: (R ++ [u]) = P0 at *
 have claim : ∀ (n : Nat) (A : List Pt), A.length = n → ∀ (a : Pt) (B : List Pt), P0 = A ++ a :: B → ∃ b T, B ++ A = b :: T ∧ ∀ y, y ∈ T → 0 < det a b y := by
  intro n
  induction n with
  | zero =>
   intro A hA a B e
   obtain rfl := List.length_eq_zero_iff.1 hA
   rw [List.nil_append, ← hP] at e
   obtain ⟨rfl, rfl⟩ := List.cons.inj e
   refine ⟨w, R ++ [u], by simp, ?_⟩
   subst hP
   exact step S0 tl0 hl
  | succ n ih =>
   intro A hA a B e
   have hA0 : A ≠ [] := by rintro rfl; simp at hA
   obtain ⟨A', a', rfl⟩ : ∃ A' a', A = A' ++ [a'] := ⟨A.dropLast, A.getLast hA0, (List.dropLast_concat_getLast hA0).symm⟩
   obtain ⟨b', T', e1, h1⟩ := ih A' (by simpa using hA) a' (a :: B) (by rw [e]; simp)
   simp only [List.cons_append, List.cons.injEq] at e1
   obtain ⟨rfl, rfl⟩ := e1
   have p1 := cyc_turn a (A' ++ [a']) B
   have p2 : ((A' ++ [a']) ++ a :: B).Perm (a :: (B ++ (A' ++ [a']))) := List.perm_append_comm
   rw [← e] at p1 p2
   have S1 : Simple (a :: (B ++ (A' ++ [a']))) := ⟨fun x hx => S0.z x (p2.mem_iff.2 hx), p2.nodup_iff.1 S0.nd, fun _ _ _ _ h1 h2 => S0.ok _ _ _ _ (p1.mem_iff.2 h1) (p1.mem_iff.2 h2)⟩
   have tl1 : Left (a :: (B ++ (A' ++ [a']))) := fun _ _ _ h1 h2 => tl0 _ _ _ (p1.mem_iff.2 h1) (p1.mem_iff.2 h2)
   have az := S1.z a (by simp)
   have az' := S1.z a' (by simp)
   have hne : a' ≠ a := by
    rintro rfl
    exact (List.nodup_cons.1 S1.nd).1 (by simp)
   have sq := sq_pos az' az hne
   obtain ⟨b, T, eT⟩ : ∃ b T, B ++ (A' ++ [a']) = b :: T := by
    cases hh : B ++ (A' ++ [a']) with
    | nil => simp at hh
    | cons b T => exact ⟨b, T, rfl⟩
   refine ⟨b, T, eT, ?_⟩
   generalize hvx : a.x - a'.x = vx at sq
   generalize hvy : a.y - a'.y = vy at sq
   have D : 0 < (-vy) * (-vy) - vx * (-vx) := by grind
   have S2 := S1.map (a := -vy) (b := vx) (c := -vx) (d := -vy) (by omega)
   have far : ∀ y, y ∈ (b :: T).map (mp (-vy) vx (-vx) (-vy)) → lt (mp (-vy) vx (-vx) (-vy) a) y := by
    intro y hy
    obtain ⟨z, hz, rfl⟩ := List.mem_map.1 hy
    rw [← eT] at hz
    have zz := S1.z z (List.mem_cons_of_mem _ hz)
    unfold lt mp
    simp only
    have hz' : z ∈ B ++ A' ∨ z = a' := by
     simp only [List.mem_append, List.mem_singleton] at hz ⊢
     grind
    rcases hz' with i | rfl
    ·have := h1 z i
     rw [det_lex az' az zz, hvx, hvy] at this
     exact Or.inl (frame_lt hvx hvy this)
    ·exact Or.inr (frame_lt2 hvx hvy sq)
   rw [eT] at S2 tl1
   simp only [List.map_cons] at S2 far
   have tl2 : Left (mp (-vy) vx (-vx) (-vy) a :: mp (-vy) vx (-vx) (-vy) b :: T.map (mp (-vy) vx (-vx) (-vy))) := by
    intro x y z i1 i2
    have ee : mp (-vy) vx (-vx) (-vy) a :: mp (-vy) vx (-vx) (-vy) b :: T.map (mp (-vy) vx (-vx) (-vy)) = (a :: b :: T).map (mp (-vy) vx (-vx) (-vy)) := rfl
    rw [ee] at i1 i2
    obtain ⟨x', y', j1, rfl, rfl⟩ := mem_cyc_map i1
    obtain ⟨y'', z', j2, k2, rfl⟩ := mem_cyc_map i2
    obtain rfl := mp_inj (by omega) k2
    rw [det_mp]
    exact Int.mul_pos D (tl1 _ _ _ j1 j2)
   have st := step S2 tl2 far
   intro y hy
   have := st _ (List.mem_map.2 ⟨y, hy, rfl⟩)
   rw [det_mp] at this
   exact mpos D this
 have hab0 := pc.mem_iff.1 hab
 obtain ⟨A, B, e⟩ := List.append_of_mem (mem_cyc hab0).1
 obtain ⟨b', T, eT, h⟩ := claim _ A rfl a B e
 have p1 := cyc_turn a A B
 have p2 : (A ++ a :: B).Perm (a :: (B ++ A)) := List.perm_append_comm
 rw [← e, eT] at p1 p2
 have eb := start_unique (p2.nodup_iff.1 S0.nd) (p1.mem_iff.1 hab0)
 subst eb
 have yin := p2.mem_iff.1 (pm.mem_iff.1 hy)
 simp only [List.mem_cons] at yin
 rcases yin with i | i | i
 ·exact absurd i ya
 ·exact absurd i yb
 ·exact h y i
end Geo

end Go.Proofs.Ytklhakfmegbobaa.B
