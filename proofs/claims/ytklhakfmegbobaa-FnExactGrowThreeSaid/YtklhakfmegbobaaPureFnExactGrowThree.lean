-- thin
/- The law FnExactGrowThree holds: for all arguments the program's GrowThree answers as the reference's, and the arguments are left as they were. No condition. -/
import Derived.Test.YtklhakfmegbobaaX0
import Derived.Test.YtklhakfmegbobaaX6
import Derived.Test.YtklhakfmegbobaaX7
import Derived.Test.YtklhakfmegbobaaX11
import Derived.Test.YtklhakfmegbobaaX12
import Derived.Test.YtklhakfmegbobaaX13
import Derived.Test.YtklhakfmegbobaaBBase
import Derived.Test.YtklhakfmegbobaaBCore
import Derived.Test.YtklhakfmegbobaaBPoly
import Derived.Test.YtklhakfmegbobaaBAsk
import Derived.Test.YtklhakfmegbobaaBThree
import Derived.Test.YtklhakfmegbobaaBMap
import Derived.Test.YtklhakfmegbobaaBMarkP
namespace Go.Proofs.Ytklhakfmegbobaa.Pure
open Go.RowKit Go.Proofs.Ytklhakfmegbobaa.XW Go.Proofs.Ytklhakfmegbobaa.X Go.Proofs.YtklhakfmegbobaaW.PrintWords Go.Proofs.YtklhakfmegbobaaW.PrintLast Go.Proofs.Ytklhakfmegbobaa.B
set_option linter.unusedVariables false
set_option linter.unusedSimpArgs false
set_option maxRecDepth 20000

def mapGrow (t : S_impl_Peg) (k : Int) (p : S_impl_Peg) : S_impl_Peg := ⟨t.f0 + k * (p.f0 - t.f0), t.f1 + k * (p.f1 - t.f1)⟩
theorem mul_sm {k d : Int} (hk : 1 ≤ k ∧ k ≤ 20) (hd : -80 ≤ d ∧ d ≤ 80) : -1600 ≤ k * d ∧ k * d ≤ 1600 := by
 have := mul_bd (x := k) (y := d) (A := 20) (B := 80) (by omega) (by omega)
 omega
theorem ev_changed (l : List S_impl_Peg) {q : Int} (hq : 1 ≤ q ∧ q ≤ 20) : Ev (fun k => impl_changed_at_impl_GrowThree_1.f k l l q) (if good l = true then chg (mapGrow (pt l 0) q) l else ([], false)) := by
 unfold impl_changed_at_impl_GrowThree_1.f
 refine askI l (fun ok => ?_) (Ev.now _)
 have h10 := ok.hi
 have h3 := ok.lo
 have ht := ok.pegs 0 (by omega)
 unfold Sm at ht
 simp only [if_true]
 have go : ∀ (e i : Nat), i + e = l.length → Ev (fun k => impl_changed_at_impl_GrowThree_1.l0 k ((l.map (mapGrow (pt l 0) q)).take i) l l.length i l q) (chg (mapGrow (pt l 0) q) l) := by
  intro e
  induction e with
  | zero =>
   intro i hi
   refine Ev.succ ?_
   obtain rfl : i = l.length := by omega
   simp (disch := omega) only [impl_changed_at_impl_GrowThree_1.l0, if_neg]
   rw [List.take_of_length_le (by simp)]
   refine Ev.bind (ev_arePegs _ (by simp; omega)) ?_
   unfold chg
   cases allPegs (l.map (mapGrow (pt l 0) q))
   ·exact Ev.now _
   ·exact Ev.now _
  | succ e ih =>
   intro i hi
   refine Ev.succ ?_
   have hil : i < l.length := by omega
   have hlen := map_take_length (f := mapGrow (pt l 0) q) (l := l) (i := i) (by omega)
   have hp := ok.pegs i hil
   unfold Sm at hp
   have m0 := mul_sm (d := (pt l i).f0 - (pt l 0).f0) hq (by omega)
   have m1 := mul_sm (d := (pt l i).f1 - (pt l 0).f1) hq (by omega)
   simp (disch := omega) only [impl_changed_at_impl_GrowThree_1.l0, if_pos, rd_pt, rd0, impl_GrowThree_1.f, impl_Peg_plus.f, impl_Peg_less.f, Option.bind_some, hlen, w64]
   have := ih (i + 1) (by omega)
   rw [map_take hil] at this
   exact this
 have := go l.length 0 (by omega)
 simpa using this
theorem lin_eq (t : S_impl_Peg) (q : Int) : lin q 0 0 q ((1 - q) * t.f0) ((1 - q) * t.f1) = mapGrow t q := by
 funext p
 refine peg_ext ?_ ?_
 ·show _ * p.f0 + _ * p.f1 + _ = t.f0 + q * (p.f0 - t.f0)
  grind
 ·show _ * p.f0 + _ * p.f1 + _ = t.f1 + q * (p.f1 - t.f1)
  grind
noncomputable def ans_GrowThree (l : List S_impl_Peg) (q : Int) : List S_impl_Peg × Bool := if three l = true then (if (decide (1 ≤ q) && decide (q ≤ 20)) = true then chg (mapGrow (pt l 0) q) l else ([], false)) else ([], false)
theorem ans_GrowThree_len (l : List S_impl_Peg) (q : Int) : (ans_GrowThree l q).1.length ≤ 1099511627776 := by
 unfold ans_GrowThree
 split
 ·rename_i h
  split
  ·exact chg_len _ (by have := (three_iff.1 h).1; omega)
  ·show 0 ≤ _
   omega
 ·show 0 ≤ _
  omega
theorem ev_spec_GrowThree (l : List S_impl_Peg) (q : Int) : Ev (fun k => spec_GrowThree.f k l q) (ans_GrowThree l q) := by
 unfold spec_GrowThree.f ans_GrowThree
 refine ask3S l (fun h3 ok => ?_) (Ev.now _)
 have h10 := ok.hi
 simp only [if_true, spec_in_eq, Option.bind_some]
 refine Ev.iteB (fun hq => ?_) (fun _ => Ev.now _)
 rw [Bool.and_eq_true, decide_eq_true_eq, decide_eq_true_eq] at hq
 have ht := ok.pegs 0 (by omega)
 unfold Sm at ht
 have m0 := mul_bd (x := 1 - q) (y := (pt l 0).f0) (A := 20) (B := 40) (by omega) (by omega)
 have m1 := mul_bd (x := 1 - q) (y := (pt l 0).f1) (A := 20) (B := 40) (by omega) (by omega)
 have h := ev_spec_map l (a := q) (b := 0) (c := 0) (d := q) (x := (1 - q) * (pt l 0).f0) (y := (1 - q) * (pt l 0).f1) (by omega) (by omega) (by omega) (by omega) (by omega) (by omega) (by omega) (fun i hi => ok.big i hi)
 rw [lin_eq] at h
 simp (disch := omega) only [if_pos, rd0, w64]
 exact Ev.bind h (Ev.now _)
theorem ev_impl_GrowThree (l : List S_impl_Peg) (q : Int) : Ev (fun k => impl_GrowThree.f k l q) (ans_GrowThree l q) := by
 unfold impl_GrowThree.f ans_GrowThree
 refine ask3I l (fun h3 ok => ?_) (Ev.now _)
 simp only [if_true, impl_within_eq, Option.bind_some]
 refine Ev.iteB (fun hq => ?_) (fun _ => Ev.now _)
 rw [Bool.and_eq_true, decide_eq_true_eq, decide_eq_true_eq] at hq
 have h := ev_changed l hq
 rw [if_pos (good_iff.2 ok)] at h
 exact Ev.bind h (Ev.now _)
theorem FnExactGrowThree : laws_FnExactGrowThree.Pure := by
 intro l0 x1 hl0 hx1
 have hl0 := hl0.1
 refine Ev.rounds ?_
 unfold laws_FnExactGrowThree.f
 rw [szPegS_eq l0 hl0]
 simp only [Option.bind_some]
 by_cases gl0 : 1048576 < l0.length
 ·simp only [if_pos gl0]
  exact Ev.now _
 simp only [if_neg gl0]
 simp (disch := omega) only [if_neg]
 have el0 : l0.length ≤ 1048576 := by omega
 obtain ⟨R, hR⟩ : ∃ R, R = ans_GrowThree (toP l0) x1 := ⟨_, rfl⟩
 have hS := ev_spec_GrowThree (toP l0) x1
 have hM := ev_impl_GrowThree (toP l0) x1
 rw [← hR] at hS hM
 have hb := ans_GrowThree_len (toP l0) x1
 rw [← hR] at hb
 repeat (first | exact Ev.now _ | refine Ev.bind (ev_toPegS l0 el0) ?_ | refine Ev.bind hS ?_ | refine Ev.bind hM ?_ | refine Ev.bind (ev_eqPegS (toP l0) (by rw [toP_length]; omega)) ?_ | refine Ev.bind (ev_eqPegS _ hb) ?_ | refine Ev.bind (ev_markPegS _ _ hb (by omega)) ?_ | refine Ev.bind (ev_heldPegS _ _ hb (by omega)) ?_ | refine Ev.bind (ev_markPegS (toP l0) 1 (by rw [toP_length]; omega) (by omega)) ?_ | simp only [eq_self, if_true, bne_self_eq_false, Bool.false_eq_true, if_false, Option.bind_some] | simp (disch := omega) only [if_neg, if_pos] | (refine Ev.succ ?_; simp only [laws_FnExactGrowThree.j0, laws_FnExactGrowThree.j1, laws_FnExactGrowThree.j2, Bool.false_eq_true, if_false]))

end Go.Proofs.Ytklhakfmegbobaa.Pure
