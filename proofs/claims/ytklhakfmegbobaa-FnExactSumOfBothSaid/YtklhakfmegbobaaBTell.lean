-- thin
/- A polygon told from its first corner, to the left, in the reference and in the program. -/
import Derived.Test.YtklhakfmegbobaaX0
import Derived.Test.YtklhakfmegbobaaX11
import Derived.Test.YtklhakfmegbobaaX14
import Derived.Test.YtklhakfmegbobaaBBase
import Derived.Test.YtklhakfmegbobaaBCore
import Derived.Test.YtklhakfmegbobaaBPoly
import Derived.Test.YtklhakfmegbobaaBAsk
import Derived.Test.YtklhakfmegbobaaBArea
import Derived.Test.YtklhakfmegbobaaBGeo
import Derived.Test.YtklhakfmegbobaaBSimple
import Derived.Test.YtklhakfmegbobaaBTold
import Derived.Test.YtklhakfmegbobaaBOrder
import Derived.Test.YtklhakfmegbobaaBFirst
namespace Go.Proofs.Ytklhakfmegbobaa.B
open Go.RowKit Go.Proofs.Ytklhakfmegbobaa.XW Go.Proofs.Ytklhakfmegbobaa.X Go.Proofs.YtklhakfmegbobaaW.PrintWords Go.Proofs.YtklhakfmegbobaaW.PrintLast Go.Proofs.Ytklhakfmegbobaa.B
set_option linter.unusedVariables false
set_option linter.unusedSimpArgs false
set_option maxRecDepth 20000

theorem fiN_min {l : List S_impl_Peg} : ∀ i j, j < i → ¬ lss (pt l j) (pt l (fiN l i)) = true := by
 intro i
 induction i with
 | zero => intro j h; omega
 | succ i ih =>
  intro j hj
  unfold fiN
  split
  ·rename_i h
   intro h2
   rw [lss_iff] at h h2
   by_cases e : j = i
   ·subst e
    omega
   ·have := ih j (by omega)
    rw [lss_iff] at this
    omega
  ·rename_i h
   by_cases e : j = i
   ·subst e
    exact h
   ·exact ih j (by omega)
theorem fi_unique {l : List S_impl_Peg} (hd : ∀ i, i < l.length → ∀ j, j < i → pt l j ≠ pt l i) {i : Nat} (hi : i < l.length) (h : ∀ j, j < l.length → ¬ lss (pt l j) (pt l i) = true) : i = fi l := by
 have h0 : 0 < l.length := by omega
 have h1 := fi_lt h0
 have a := h _ h1
 have b : ¬ lss (pt l i) (pt l (fi l)) = true := fiN_min l.length i hi
 rw [lss_iff] at a b
 have e : pt l i = pt l (fi l) := peg_ext (by omega) (by omega)
 rcases Nat.lt_trichotomy i (fi l) with c | c | c
 ·exact absurd e (hd _ h1 _ c)
 ·exact c
 ·exact absurd e.symm (hd _ hi _ c)
theorem tldi_neg {n a j : Nat} (ha : a < n) (hj : j < n) : tldi n (a : Int) (-1) j = if j ≤ a then a - j else a + n - j := by
 unfold tldi
 split
 ·rw [show (a : Int) + (j : Int) * (-1) = ((a - j : Nat) : Int) by omega, Int.emod_eq_of_lt (by omega) (by omega)]
  omega
 ·have e : (a : Int) + (j : Int) * (-1) = ((a + n - j : Nat) : Int) + (n : Int) * (-1) := by omega
  rw [e, Int.add_mul_emod_self_left, Int.emod_eq_of_lt (by omega) (by omega)]
  omega
theorem tld_back_first {l : List S_impl_Peg} (ok : Poly l) : tld (tld l 0 (-1)) (fi (tld l 0 (-1))) 1 = tld l (fi l) (-1) := by
 have h3 := ok.lo
 have hl : (tld l 0 (-1)).length = l.length := tld_length _ _ _
 have hb : ∀ j, j < l.length → pt (tld l 0 (-1)) j = pt l (if j = 0 then 0 else l.length - j) := fun j hj => by rw [tld_pt _ _ hj, tldi_back hj]
 have hf : fi (tld l 0 (-1)) < l.length := by
  have := fi_lt (l := tld l 0 (-1)) (by rw [hl]; omega)
  omega
 have e : (if fi (tld l 0 (-1)) = 0 then 0 else l.length - fi (tld l 0 (-1))) = fi l := by
  refine fi_unique ok.diff (by split <;> omega) ?_
  intro j hj
  have := fiN_min (l := tld l 0 (-1)) l.length (if j = 0 then 0 else l.length - j) (by split <;> omega)
  rw [hb _ (by split <;> omega)] at this
  have e2 : fiN (tld l 0 (-1)) l.length = fi (tld l 0 (-1)) := by unfold fi; rw [hl]
  rw [e2, hb _ hf] at this
  have e3 : (if (if j = 0 then 0 else l.length - j) = 0 then 0 else l.length - (if j = 0 then 0 else l.length - j)) = j := by
   repeat' split
   all_goals omega
  rw [e3] at this
  exact this
 generalize tld l 0 (-1) = m at *
 unfold tld
 rw [hl]
 refine List.map_congr_left fun k hk => ?_
 have hk := List.mem_range.1 hk
 rw [hb _ (tldi_lt _ _ _ (by omega))]
 congr 1
 rw [tldi1 hf hk, ← e, tldi_neg (by split <;> omega) hk]
 repeat' split
 all_goals omega
def tl (l : List S_impl_Peg) : List S_impl_Peg := tld l (fi l) (sgn (ar l))
theorem ev_spec_tell {l : List S_impl_Peg} (ok : Poly l) : Ev (fun k => spec_pgFirst.f k l) (tl l) := by
 have h10 := ok.hi
 have h3 := ok.lo
 have hne := Poly.area_ne ok
 unfold tl
 unfold spec_pgFirst.f
 refine Ev.bind ok.sarea ?_
 by_cases h : ar l < 0
 ·simp only [if_pos h]
  refine Ev.bind (ev_spec_back l (by omega) (by omega)) ?_
  have := ev_spec_first0 (tld l 0 (-1)) (by rw [tld_length]; omega)
  rw [tld_back_first ok] at this
  rw [show sgn (ar l) = -1 by unfold sgn; rw [if_neg (by omega), if_pos h]]
  exact this
 ·simp only [if_neg h]
  rw [show sgn (ar l) = 1 by unfold sgn; rw [if_pos (by omega)]]
  exact ev_spec_first0 l (by omega)
theorem ev_impl_tell {l : List S_impl_Peg} (ok : Poly l) : Ev (fun k => impl_tellFirst.f k l) (tl l) := by
 have h10 := ok.hi
 have h3 := ok.lo
 unfold impl_tellFirst.f tl
 refine Ev.bind (ev_impl_first l (by omega)) ?_
 refine Ev.bind ok.area ?_
 have hf := fi_le l
 simp only [impl_sign_eq, Option.bind_some]
 exact Ev.bind (ev_told l (by omega) (by omega) (sgn_bd _)) (Ev.now _)

end Go.Proofs.Ytklhakfmegbobaa.B
