-- thin
/- The law FnExactMovePolygon holds: for all arguments the program's MovePolygon answers as the reference's, and the arguments are left as they were. No condition. -/
import Derived.Test.YtklhakfmegbobaaX0
import Derived.Test.YtklhakfmegbobaaX6
import Derived.Test.YtklhakfmegbobaaX10
import Derived.Test.YtklhakfmegbobaaX11
import Derived.Test.YtklhakfmegbobaaBBase
import Derived.Test.YtklhakfmegbobaaBCore
import Derived.Test.YtklhakfmegbobaaBPoly
import Derived.Test.YtklhakfmegbobaaBAsk
import Derived.Test.YtklhakfmegbobaaBMap
import Derived.Test.YtklhakfmegbobaaBWay
import Derived.Test.YtklhakfmegbobaaBMarkP
namespace Go.Proofs.Ytklhakfmegbobaa.Pure
open Go.RowKit Go.Proofs.Ytklhakfmegbobaa.XW Go.Proofs.Ytklhakfmegbobaa.X Go.Proofs.YtklhakfmegbobaaW.PrintWords Go.Proofs.YtklhakfmegbobaaW.PrintLast Go.Proofs.Ytklhakfmegbobaa.B
set_option linter.unusedVariables false
set_option linter.unusedSimpArgs false
set_option maxRecDepth 20000

def mapMovePolygon (x y : Int) (p : S_impl_Peg) : S_impl_Peg := ⟨p.f0 + x, p.f1 + y⟩
theorem ev_changed (l : List S_impl_Peg) {x y : Int} (hx : way x = true) (hy : way y = true) : Ev (fun k => impl_changed_at_impl_MovePolygon_1.f k l x y) (if good l = true then chg (mapMovePolygon x y) l else ([], false)) := by
 unfold impl_changed_at_impl_MovePolygon_1.f
 rw [way_iff] at hx hy
 refine askI l (fun ok => ?_) (Ev.now _)
 have h10 := ok.hi
 simp only [if_true]
 have go : ∀ (e i : Nat), i + e = l.length → Ev (fun k => impl_changed_at_impl_MovePolygon_1.l0 k ((l.map (mapMovePolygon x y)).take i) l l.length i x y) (chg (mapMovePolygon x y) l) := by
  intro e
  induction e with
  | zero =>
   intro i hi
   refine Ev.succ ?_
   obtain rfl : i = l.length := by omega
   simp (disch := omega) only [impl_changed_at_impl_MovePolygon_1.l0, if_neg]
   rw [List.take_of_length_le (by simp)]
   refine Ev.bind (ev_arePegs _ (by simp; omega)) ?_
   unfold chg
   cases allPegs (l.map (mapMovePolygon x y))
   ·exact Ev.now _
   ·exact Ev.now _
  | succ e ih =>
   intro i hi
   refine Ev.succ ?_
   have hil : i < l.length := by omega
   have hlen := map_take_length (f := mapMovePolygon x y) (l := l) (i := i) (by omega)
   have hp := ok.pegs i hil
   unfold Sm at hp
   simp (disch := omega) only [impl_changed_at_impl_MovePolygon_1.l0, if_pos, rd_pt, impl_MovePolygon_1.f, impl_Peg_plus.f, Option.bind_some, hlen, w64]
   have := ih (i + 1) (by omega)
   rw [map_take hil] at this
   exact this
 have := go l.length 0 (by omega)
 simpa using this
theorem lin_eq (x y : Int) : lin 1 0 0 1 x y = mapMovePolygon x y := by
 funext p
 refine peg_ext ?_ ?_
 ·show _ * p.f0 + _ * p.f1 + _ = _
  simp only [mapMovePolygon]
  omega
 ·show _ * p.f0 + _ * p.f1 + _ = _
  simp only [mapMovePolygon]
  omega
noncomputable def ans_MovePolygon (l : List S_impl_Peg) (x y : Int) : List S_impl_Peg × Bool := if good l = true then (if way x = true then (if way y = true then chg (mapMovePolygon x y) l else ([], false)) else ([], false)) else ([], false)
theorem ans_MovePolygon_len (l : List S_impl_Peg) (x y : Int) : (ans_MovePolygon l x y).1.length ≤ 1099511627776 := by
 unfold ans_MovePolygon
 split
 ·rename_i h
  split
  ·split
   ·exact chg_len _ (by have := (good_iff.1 h).hi; omega)
   ·show 0 ≤ _
    omega
  ·show 0 ≤ _
   omega
 ·show 0 ≤ _
  omega
theorem ev_spec_MovePolygon (l : List S_impl_Peg) (x y : Int) : Ev (fun k => spec_MovePolygon.f k l x y) (ans_MovePolygon l x y) := by
 unfold spec_MovePolygon.f ans_MovePolygon
 refine askS l (fun ok => ?_) (Ev.now _)
 have h10 := ok.hi
 simp only [if_true, spec_in_eq, Option.bind_some]
 refine Ev.iteB (b := way x) (fun hx => ?_) (fun _ => Ev.now _)
 refine Ev.iteB (b := way y) (fun hy => ?_) (fun _ => Ev.now _)
 rw [way_iff] at hx hy
 have h := ev_spec_map l (a := 1) (b := 0) (c := 0) (d := 1) (x := x) (y := y) (by omega) (by omega) (by omega) (by omega) (by omega) (by omega) (by omega) (fun i hi => ok.big i hi)
 rw [lin_eq] at h
 exact Ev.bind h (Ev.now _)
theorem ev_impl_MovePolygon (l : List S_impl_Peg) (x y : Int) (hx : (Lit.int .i64 x).wf = true) (hy : (Lit.int .i64 y).wf = true) : Ev (fun k => impl_MovePolygon.f k l x y) (ans_MovePolygon l x y) := by
 unfold impl_MovePolygon.f ans_MovePolygon
 rw [is_way_eq hx hy]
 simp only [Option.bind_some]
 cases a : way x
 ·simp only [Bool.false_and, Bool.false_eq_true, if_false]
  split <;> exact Ev.now _
 ·cases b : way y
  ·simp only [Bool.and_false, Bool.false_eq_true, if_false]
   split <;> exact Ev.now _
  ·simp only [Bool.and_self, if_true]
   exact Ev.bind (ev_changed l a b) (Ev.now _)
theorem FnExactMovePolygon : laws_FnExactMovePolygon.Pure := by
 intro l0 x1 x2 hl0 hx1 hx2
 have hl0 := hl0.1
 refine Ev.rounds ?_
 unfold laws_FnExactMovePolygon.f
 rw [szPegS_eq l0 hl0]
 simp only [Option.bind_some]
 by_cases gl0 : 1048576 < l0.length
 ·simp only [if_pos gl0]
  exact Ev.now _
 simp only [if_neg gl0]
 simp (disch := omega) only [if_neg]
 have el0 : l0.length ≤ 1048576 := by omega
 obtain ⟨R, hR⟩ : ∃ R, R = ans_MovePolygon (toP l0) x1 x2 := ⟨_, rfl⟩
 have hS := ev_spec_MovePolygon (toP l0) x1 x2
 have hM := ev_impl_MovePolygon (toP l0) x1 x2 hx1 hx2
 rw [← hR] at hS hM
 have hb := ans_MovePolygon_len (toP l0) x1 x2
 rw [← hR] at hb
 repeat (first | exact Ev.now _ | refine Ev.bind (ev_toPegS l0 el0) ?_ | refine Ev.bind hS ?_ | refine Ev.bind hM ?_ | refine Ev.bind (ev_eqPegS (toP l0) (by rw [toP_length]; omega)) ?_ | refine Ev.bind (ev_eqPegS _ hb) ?_ | refine Ev.bind (ev_markPegS _ _ hb (by omega)) ?_ | refine Ev.bind (ev_heldPegS _ _ hb (by omega)) ?_ | refine Ev.bind (ev_markPegS (toP l0) 1 (by rw [toP_length]; omega) (by omega)) ?_ | simp only [eq_self, if_true, bne_self_eq_false, Bool.false_eq_true, if_false, Option.bind_some] | simp (disch := omega) only [if_neg, if_pos] | (refine Ev.succ ?_; simp only [laws_FnExactMovePolygon.j0, laws_FnExactMovePolygon.j1, laws_FnExactMovePolygon.j2, Bool.false_eq_true, if_false]))

end Go.Proofs.Ytklhakfmegbobaa.Pure
