-- thin
/- The law FnExactHeightsOfThree holds: for all arguments the program's HeightsOfThree answers as the reference's, and the arguments are left as they were. No condition. -/
import Derived.Test.YtfihohongkfibaaX0
import Derived.Test.YtfihohongkfibaaX8
import Derived.Test.YtfihohongkfibaaX14
import Derived.Test.YtfihohongkfibaaX16
import Derived.Test.YtfihohongkfibaaBBase
import Derived.Test.YtfihohongkfibaaBCore
import Derived.Test.YtfihohongkfibaaBPoly
import Derived.Test.YtfihohongkfibaaBAsk
import Derived.Test.YtfihohongkfibaaBArea
import Derived.Test.YtfihohongkfibaaBThree
import Derived.Test.YtfihohongkfibaaBThreeArea
import Derived.Test.YtfihohongkfibaaBSides
import Derived.Test.YtfihohongkfibaaBSteps
import Derived.Test.YtfihohongkfibaaBEqIntS
import Derived.Test.YtfihohongkfibaaBMarkI
import Derived.Test.YtfihohongkfibaaBMarkSI
import Derived.Test.YtfihohongkfibaaBMarkP
namespace Go.Proofs.Ytfihohongkfibaa.Pure
open Go.RowKit Go.Proofs.Ytfihohongkfibaa.XW Go.Proofs.Ytfihohongkfibaa.X Go.Proofs.YtfihohongkfibaaW.PrintWords Go.Proofs.YtfihohongkfibaaW.PrintLast Go.Proofs.Ytfihohongkfibaa.B
set_option linter.unusedVariables false
set_option linter.unusedSimpArgs false
set_option maxRecDepth 20000

def hgt (a s : Int) : List Int := [Int.tdiv (a * a) (gc (a * a) s), Int.tdiv s (gc (a * a) s)]
def hgts (l : List S_impl_Peg) : List (List Int) := [hgt (ar l) (sq (pt l 1) (pt l 2)), hgt (ar l) (sq (pt l 2) (pt l 0)), hgt (ar l) (sq (pt l 0) (pt l 1))]
noncomputable def ans_HeightsOfThree (l : List S_impl_Peg) : List (List Int) × Bool := if three l = true then (hgts l, true) else ([], false)
theorem ans_HeightsOfThree_len (l : List S_impl_Peg) : Short (ans_HeightsOfThree l).1 := by
 unfold ans_HeightsOfThree
 split
 ·refine Short.of (by simp [hgts]) (fun r hr => ?_)
  simp only [hgts, List.mem_cons, List.not_mem_nil, or_false] at hr
  rcases hr with rfl | rfl | rfl <;> simp [hgt]
 ·exact Short.of (by simp) (fun r hr => absurd hr (by simp))
section
variable {l : List S_impl_Peg} (h3 : l.length = 3) (ok : Poly l)
include h3 ok
theorem hgt_ok {s : Int} (hs : 0 ≤ s ∧ s ≤ 12800) : wrap64 (ar l * ar l) = ar l * ar l ∧ gc (ar l * ar l) s ≠ 0 ∧ (-1024000000 ≤ ar l * ar l ∧ ar l * ar l ≤ 1024000000) ∧ wrap64 (Int.tdiv (ar l * ar l) (gc (ar l * ar l) s)) = Int.tdiv (ar l * ar l) (gc (ar l * ar l) s) ∧ wrap64 (Int.tdiv s (gc (ar l * ar l) s)) = Int.tdiv s (gc (ar l * ar l) s) := by
 have a := ok.area_bd
 have n := ar_ne h3 ok
 have m := mul_bd (A := 32000) (B := 32000) a a
 have p : ar l * ar l ≠ 0 := fun c => by
  rcases Int.mul_eq_zero.1 c with c | c <;> exact n c
 have g := gc_pos (a := ar l * ar l) (b := s) (Or.inl p)
 have tb : ∀ x B d : Int, (-B ≤ x ∧ x ≤ B) → -B ≤ Int.tdiv x d ∧ Int.tdiv x d ≤ B := by
  intro x B d h
  have h1 : (Int.tdiv x d).natAbs ≤ x.natAbs := by
   rw [Int.natAbs_tdiv]
   exact Nat.div_le_self _ _
  omega
 have t1 := tb (ar l * ar l) 1024000000 (gc (ar l * ar l) s) (by omega)
 have t2 := tb s 12800 (gc (ar l * ar l) s) (by omega)
 exact ⟨w64 (by omega), by omega, by omega, w64 (by omega), w64 (by omega)⟩
theorem ev_spec_hgts : Ev (fun k => spec_HeightsOfThree.l0 k (ar l) [] (sds l) (sds l).length 0) (hgts l, true) := by
 obtain ⟨b0, b1, b2⟩ := sds_bd (three_iff.2 ⟨h3, ok⟩)
 obtain ⟨w, g0, m, x0, y0⟩ := hgt_ok h3 ok b0
 obtain ⟨-, g1, -, x1, y1⟩ := hgt_ok h3 ok b1
 obtain ⟨-, g2, -, x2, y2⟩ := hgt_ok h3 ok b2
 have hl : (sds l).length = 3 := rfl
 have r0 : rd (sds l) 0 = sq (pt l 1) (pt l 2) := rfl
 have r1 : rd (sds l) (0 + 1) = sq (pt l 2) (pt l 0) := rfl
 have r2 : rd (sds l) (0 + 1 + 1) = sq (pt l 0) (pt l 1) := rfl
 rw [hl]
 refine Ev.succ ?_
 simp (disch := omega) only [spec_HeightsOfThree.l0, if_pos, hl, w, r0]
 refine Ev.bind (ev_spec_common _ _ (by omega) (by omega)) ?_
 simp only [if_neg g0, x0, y0, List.length_nil, List.nil_append]
 simp (disch := omega) only [if_pos, w64 (x := 0 + 1)]
 refine Ev.succ ?_
 simp (disch := omega) only [spec_HeightsOfThree.l0, if_pos, hl, w, r1]
 refine Ev.bind (ev_spec_common _ _ (by omega) (by omega)) ?_
 simp only [if_neg g1, x1, y1, List.length_cons, List.length_nil, List.cons_append, List.nil_append]
 simp (disch := omega) only [if_pos, w64 (x := 0 + 1 + 1)]
 refine Ev.succ ?_
 simp (disch := omega) only [spec_HeightsOfThree.l0, if_pos, hl, w, r2]
 refine Ev.bind (ev_spec_common _ _ (by omega) (by omega)) ?_
 simp only [if_neg g2, x2, y2, List.length_cons, List.length_nil, List.cons_append, List.nil_append]
 simp (disch := omega) only [if_pos, w64 (x := 0 + 1 + 1 + 1)]
 refine Ev.succ ?_
 simp (disch := omega) only [spec_HeightsOfThree.l0, if_neg]
 exact Ev.now _
theorem ev_impl_hgts : Ev (fun k => impl_HeightsOfThree.l0 k [] (ar l) (sds l) (sds l).length 0) (hgts l, true) := by
 obtain ⟨b0, b1, b2⟩ := sds_bd (three_iff.2 ⟨h3, ok⟩)
 obtain ⟨w, g0, m, x0, y0⟩ := hgt_ok h3 ok b0
 obtain ⟨-, g1, -, x1, y1⟩ := hgt_ok h3 ok b1
 obtain ⟨-, g2, -, x2, y2⟩ := hgt_ok h3 ok b2
 have hl : (sds l).length = 3 := rfl
 have r0 : rd (sds l) 0 = sq (pt l 1) (pt l 2) := rfl
 have r1 : rd (sds l) (0 + 1) = sq (pt l 2) (pt l 0) := rfl
 have r2 : rd (sds l) (0 + 1 + 1) = sq (pt l 0) (pt l 1) := rfl
 rw [hl]
 refine Ev.succ ?_
 simp (disch := omega) only [impl_HeightsOfThree.l0, if_pos, hl, w, r0]
 refine Ev.bind (ev_impl_divisor _ _ (by omega) (by omega)) ?_
 simp only [if_neg g0, x0, y0, List.length_nil, List.nil_append]
 simp (disch := omega) only [if_pos, w64 (x := 0 + 1)]
 refine Ev.succ ?_
 simp (disch := omega) only [impl_HeightsOfThree.l0, if_pos, hl, w, r1]
 refine Ev.bind (ev_impl_divisor _ _ (by omega) (by omega)) ?_
 simp only [if_neg g1, x1, y1, List.length_cons, List.length_nil, List.cons_append, List.nil_append]
 simp (disch := omega) only [if_pos, w64 (x := 0 + 1 + 1)]
 refine Ev.succ ?_
 simp (disch := omega) only [impl_HeightsOfThree.l0, if_pos, hl, w, r2]
 refine Ev.bind (ev_impl_divisor _ _ (by omega) (by omega)) ?_
 simp only [if_neg g2, x2, y2, List.length_cons, List.length_nil, List.cons_append, List.nil_append]
 simp (disch := omega) only [if_pos, w64 (x := 0 + 1 + 1 + 1)]
 refine Ev.succ ?_
 simp (disch := omega) only [impl_HeightsOfThree.l0, if_neg]
 exact Ev.now _
end
theorem ev_spec_HeightsOfThree (l : List S_impl_Peg) : Ev (fun k => spec_HeightsOfThree.f k l) (ans_HeightsOfThree l) := by
 unfold spec_HeightsOfThree.f ans_HeightsOfThree
 refine ask3S l (fun h3 ok => ?_) ?_
 ·simp only [if_true]
  refine Ev.bind ok.sarea ?_
  simp only [spec_sides_eq (three_iff.2 ⟨h3, ok⟩), Option.bind_some]
  exact ev_spec_hgts h3 ok
 ·simp only [Bool.false_eq_true, if_false]
  exact Ev.now _
theorem ev_impl_HeightsOfThree (l : List S_impl_Peg) : Ev (fun k => impl_HeightsOfThree.f k l) (ans_HeightsOfThree l) := by
 unfold impl_HeightsOfThree.f ans_HeightsOfThree
 refine ask3I l (fun h3 ok => ?_) ?_
 ·simp only [if_true]
  refine Ev.bind ok.area ?_
  simp only [impl_sides_eq (three_iff.2 ⟨h3, ok⟩), Option.bind_some]
  exact ev_impl_hgts h3 ok
 ·simp only [Bool.false_eq_true, if_false]
  exact Ev.now _
theorem FnExactHeightsOfThree : laws_FnExactHeightsOfThree.Pure := by
 intro l0 hl0
 have hl0 := hl0.1
 refine Ev.rounds ?_
 unfold laws_FnExactHeightsOfThree.f
 rw [szPegS_eq l0 hl0]
 simp only [Option.bind_some]
 by_cases gl0 : 1048576 < l0.length
 ·simp only [if_pos gl0]
  exact Ev.now _
 simp only [if_neg gl0]
 simp (disch := omega) only [if_neg]
 have el0 : l0.length ≤ 1048576 := by omega
 obtain ⟨R, hR⟩ : ∃ R, R = ans_HeightsOfThree (toP l0) := ⟨_, rfl⟩
 have hS := ev_spec_HeightsOfThree (toP l0)
 have hM := ev_impl_HeightsOfThree (toP l0)
 rw [← hR] at hS hM
 have hb := ans_HeightsOfThree_len (toP l0)
 rw [← hR] at hb
 have hc := cum_bd hb R.1.length
 repeat (first | exact Ev.now _ | refine Ev.bind (ev_toPegS l0 el0) ?_ | refine Ev.bind hS ?_ | refine Ev.bind hM ?_ | refine Ev.bind (ev_eqPegS (toP l0) (by rw [toP_length]; omega)) ?_ | refine Ev.bind (ev_eqIntSS hb) ?_ | refine Ev.bind (ev_markIntSS hb) ?_ | refine Ev.bind (ev_heldIntSS hb) ?_ | refine Ev.bind (ev_markPegS (toP l0) 1 (by rw [toP_length]; omega) (by omega)) ?_ | simp only [eq_self, if_true, bne_self_eq_false, Bool.false_eq_true, if_false, Option.bind_some] | simp (disch := omega) only [if_neg, if_pos] | (refine Ev.succ ?_; simp only [laws_FnExactHeightsOfThree.j0, laws_FnExactHeightsOfThree.j1, laws_FnExactHeightsOfThree.j2, Bool.false_eq_true, if_false]))

end Go.Proofs.Ytfihohongkfibaa.Pure
