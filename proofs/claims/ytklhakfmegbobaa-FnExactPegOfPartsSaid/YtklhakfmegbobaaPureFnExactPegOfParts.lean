-- thin
/- The law FnExactPegOfParts holds: for all arguments the program's PegOfParts answers as the reference's, and the arguments are left as they were. No condition. -/
import Derived.Test.YtklhakfmegbobaaX0
import Derived.Test.YtklhakfmegbobaaX5
import Derived.Test.YtklhakfmegbobaaX6
import Derived.Test.YtklhakfmegbobaaX11
import Derived.Test.YtklhakfmegbobaaX12
import Derived.Test.YtklhakfmegbobaaX13
import Derived.Test.YtklhakfmegbobaaX14
import Derived.Test.YtklhakfmegbobaaBBase
import Derived.Test.YtklhakfmegbobaaBCore
import Derived.Test.YtklhakfmegbobaaBPoly
import Derived.Test.YtklhakfmegbobaaBAsk
import Derived.Test.YtklhakfmegbobaaBArea
import Derived.Test.YtklhakfmegbobaaBThree
import Derived.Test.YtklhakfmegbobaaBThreeArea
import Derived.Test.YtklhakfmegbobaaBIntS
import Derived.Test.YtklhakfmegbobaaBEqIntS
namespace Go.Proofs.Ytklhakfmegbobaa.Pure
open Go.RowKit Go.Proofs.Ytklhakfmegbobaa.XW Go.Proofs.Ytklhakfmegbobaa.X Go.Proofs.YtklhakfmegbobaaW.PrintWords Go.Proofs.YtklhakfmegbobaaW.PrintLast Go.Proofs.Ytklhakfmegbobaa.B
set_option linter.unusedVariables false
set_option linter.unusedSimpArgs false
set_option maxRecDepth 20000

theorem ev_spec_all (n : List Int) (lo hi : Int) (hn : n.length ≤ 1099511627776) : Ev (fun k => spec_l1All.f k n lo hi) (n.all fun x => decide (lo ≤ x) && decide (x ≤ hi)) := by
 unfold spec_l1All.f
 have go : ∀ (d i : Nat), i + d = n.length → (∀ j, j < i → (decide (lo ≤ n.getD j 0) && decide (n.getD j 0 ≤ hi)) = true) → Ev (fun k => spec_l1All.l0 k lo hi n n.length i) (n.all fun x => decide (lo ≤ x) && decide (x ≤ hi)) := by
  intro d
  induction d with
  | zero =>
   intro i hi' hj
   refine Ev.succ ?_
   simp (disch := omega) only [spec_l1All.l0, if_neg]
   refine Ev.some ?_
   symm
   rw [List.all_eq_true]
   intro x hx
   obtain ⟨j, hj', rfl⟩ := List.getElem_of_mem hx
   have := hj j (by omega)
   rw [List.getD_eq_getElem?_getD, List.getElem?_eq_getElem hj'] at this
   exact this
  | succ d ih =>
   intro i hi' hj
   refine Ev.succ ?_
   have hr : rd n (i : Int) = n.getD i 0 := rfl
   simp (disch := omega) only [spec_l1All.l0, if_pos, hr, spec_in_eq, Option.bind_some, w64]
   cases hc : (decide (lo ≤ n.getD i 0) && decide (n.getD i 0 ≤ hi))
   ·simp only [Bool.false_eq_true, if_false]
    refine Ev.some ?_
    symm
    rw [List.all_eq_false]
    refine ⟨n.getD i 0, ?_, by show ¬ (decide (lo ≤ n.getD i 0) && decide (n.getD i 0 ≤ hi)) = true; rw [hc]; simp⟩
    rw [List.getD_eq_getElem?_getD, List.getElem?_eq_getElem (by omega)]
    exact List.getElem_mem _
   ·simp only [if_true]
    refine ih (i + 1) (by omega) fun j hj' => ?_
    by_cases e : j = i
    ·subst e
     exact hc
    ·exact hj j (by omega)
 exact go n.length 0 (by omega) (fun j h => by omega)
def sm3 (f : S_impl_Peg → Int) (l : List S_impl_Peg) (n : List Int) : Int := n.getD 0 0 * f (pt l 0) + n.getD 1 0 * f (pt l 1) + n.getD 2 0 * f (pt l 2)
def ptFin (l : List S_impl_Peg) (n : List Int) : Int × Int × Bool :=
 if n.getD 0 0 + n.getD 1 0 + n.getD 2 0 = ar l then (if Int.tmod (sm3 S_impl_Peg.f0 l n) (ar l) = 0 then (if Int.tmod (sm3 S_impl_Peg.f1 l n) (ar l) = 0 then
  (if decide (Sm 40 ⟨wrap64 (Int.tdiv (sm3 S_impl_Peg.f0 l n) (ar l)), wrap64 (Int.tdiv (sm3 S_impl_Peg.f1 l n) (ar l))⟩) = true then (wrap64 (Int.tdiv (sm3 S_impl_Peg.f0 l n) (ar l)), wrap64 (Int.tdiv (sm3 S_impl_Peg.f1 l n) (ar l)), true) else (0, 0, false)) else (0, 0, false)) else (0, 0, false)) else (0, 0, false)
open Classical in
noncomputable def ans_PegOfParts (l : List S_impl_Peg) (n : List Int) : Int × Int × Bool :=
 if three l = true then (if n.length = 3 ∧ (n.all fun x => decide (-1000000 ≤ x) && decide (x ≤ 1000000)) = true then ptFin l n else (0, 0, false)) else (0, 0, false)
theorem all3 {n : List Int} (h : n.length = 3) : (n.all fun x => decide (-1000000 ≤ x) && decide (x ≤ 1000000)) = true ↔ (-1000000 ≤ n.getD 0 0 ∧ n.getD 0 0 ≤ 1000000) ∧ (-1000000 ≤ n.getD 1 0 ∧ n.getD 1 0 ≤ 1000000) ∧ (-1000000 ≤ n.getD 2 0 ∧ n.getD 2 0 ≤ 1000000) := by
 match n, h with
 | [a, b, c], _ => simp
theorem ev_spec_PegOfParts (l : List S_impl_Peg) (n : List Int) : Ev (fun k => spec_PegOfParts.f k l n) (ans_PegOfParts l n) := by
 unfold spec_PegOfParts.f ans_PegOfParts
 have no : ∀ r : Int × Int × Bool, r = (0, 0, false) → Ev (fun k => spec_PegOfParts.j0 k l n true) r := by
  rintro r rfl
  refine Ev.succ ?_
  exact Ev.now _
 refine ask3S l (fun h3 ok => ?_) ?_
 ·simp only [if_true]
  by_cases hn : n.length = 3
  ·simp (disch := omega) only [if_pos]
   refine Ev.bind (ev_spec_all n _ _ (by omega)) ?_
   cases hall : (n.all fun x => decide (-1000000 ≤ x) && decide (x ≤ 1000000))
   ·rw [if_neg (by simp)]
    exact no _ rfl
   ·rw [if_pos ⟨hn, rfl⟩]
    obtain ⟨b0, b1, b2⟩ := (all3 hn).1 hall
    have hne := ar_ne h3 ok
    have ha := ok.area_bd
    have p0 := ok.pegs 0 (by omega)
    have p1 := ok.pegs 1 (by omega)
    have p2 := ok.pegs 2 (by omega)
    unfold Sm at p0 p1 p2
    have m00 := mul_bd (x := n.getD 0 0) (y := (pt l 0).f0) (A := 1000000) (B := 40) (by omega) (by omega)
    have m10 := mul_bd (x := n.getD 1 0) (y := (pt l 1).f0) (A := 1000000) (B := 40) (by omega) (by omega)
    have m20 := mul_bd (x := n.getD 2 0) (y := (pt l 2).f0) (A := 1000000) (B := 40) (by omega) (by omega)
    have m01 := mul_bd (x := n.getD 0 0) (y := (pt l 0).f1) (A := 1000000) (B := 40) (by omega) (by omega)
    have m11 := mul_bd (x := n.getD 1 0) (y := (pt l 1).f1) (A := 1000000) (B := 40) (by omega) (by omega)
    have m21 := mul_bd (x := n.getD 2 0) (y := (pt l 2).f1) (A := 1000000) (B := 40) (by omega) (by omega)
    have r0 : rd n 0 = n.getD 0 0 := rfl
    have r1 : rd n 1 = n.getD 1 0 := rfl
    have r2 : rd n 2 = n.getD 2 0 := rfl
    refine Ev.succ ?_
    simp only [spec_PegOfParts.j0, Bool.not_true, Bool.false_eq_true, if_false]
    refine Ev.bind ok.sarea ?_
    unfold ptFin
    have e0 : sm3 S_impl_Peg.f0 l n = n.getD 0 0 * (pt l 0).f0 + n.getD 1 0 * (pt l 1).f0 + n.getD 2 0 * (pt l 2).f0 := rfl
    have e1 : sm3 S_impl_Peg.f1 l n = n.getD 0 0 * (pt l 0).f1 + n.getD 1 0 * (pt l 1).f1 + n.getD 2 0 * (pt l 2).f1 := rfl
    simp (disch := omega) only [if_pos, if_neg, r0, r1, r2, rd0, rd1, rd2, w64 (x := n.getD 0 0 + n.getD 1 0), w64 (x := n.getD 0 0 + n.getD 1 0 + n.getD 2 0), w64 (x := n.getD 0 0 * (pt l 0).f0), w64 (x := n.getD 1 0 * (pt l 1).f0), w64 (x := n.getD 2 0 * (pt l 2).f0), w64 (x := n.getD 0 0 * (pt l 0).f1), w64 (x := n.getD 1 0 * (pt l 1).f1), w64 (x := n.getD 2 0 * (pt l 2).f1), w64 (x := n.getD 0 0 * (pt l 0).f0 + n.getD 1 0 * (pt l 1).f0), w64 (x := n.getD 0 0 * (pt l 0).f0 + n.getD 1 0 * (pt l 1).f0 + n.getD 2 0 * (pt l 2).f0), w64 (x := n.getD 0 0 * (pt l 0).f1 + n.getD 1 0 * (pt l 1).f1), w64 (x := n.getD 0 0 * (pt l 0).f1 + n.getD 1 0 * (pt l 1).f1 + n.getD 2 0 * (pt l 2).f1)]
    rw [← e0, ← e1]
    by_cases c0 : n.getD 0 0 + n.getD 1 0 + n.getD 2 0 = ar l
    ·simp only [if_pos c0]
     have j1 : ∀ b : Bool, Ev (fun k => spec_PegOfParts.j1 k (ar l) (sm3 S_impl_Peg.f0 l n) (sm3 S_impl_Peg.f1 l n) b) (if b = true then (0, 0, false) else (if decide (Sm 40 ⟨wrap64 (Int.tdiv (sm3 S_impl_Peg.f0 l n) (ar l)), wrap64 (Int.tdiv (sm3 S_impl_Peg.f1 l n) (ar l))⟩) = true then (wrap64 (Int.tdiv (sm3 S_impl_Peg.f0 l n) (ar l)), wrap64 (Int.tdiv (sm3 S_impl_Peg.f1 l n) (ar l)), true) else (0, 0, false))) := by
      intro b
      refine Ev.succ ?_
      have e := is_peg_eq ⟨wrap64 (Int.tdiv (sm3 S_impl_Peg.f0 l n) (ar l)), wrap64 (Int.tdiv (sm3 S_impl_Peg.f1 l n) (ar l))⟩
      simp only at e
      simp only [spec_PegOfParts.j1, if_neg hne, e, Option.bind_some]
      cases b
      ·simp only [Bool.false_eq_true, if_false]
       split <;> exact Ev.now _
      ·exact Ev.now _
     by_cases c1 : Int.tmod (sm3 S_impl_Peg.f0 l n) (ar l) = 0
     ·simp only [if_pos c1]
      by_cases c2 : Int.tmod (sm3 S_impl_Peg.f1 l n) (ar l) = 0
      ·have hb : (Int.tmod (sm3 S_impl_Peg.f1 l n) (ar l) != 0) = false := by simp [c2]
       simp only [if_pos c2, hb]
       exact j1 false
      ·have hb : (Int.tmod (sm3 S_impl_Peg.f1 l n) (ar l) != 0) = true := by simp [c2]
       simp only [if_neg c2, hb]
       exact j1 true
     ·simp only [if_neg c1]
      exact j1 true
    ·simp only [if_neg c0]
     exact Ev.now _
  ·rw [if_neg (fun h => hn h.1)]
   simp (disch := omega) only [if_neg]
   exact no _ rfl
 ·simp only [Bool.false_eq_true, if_false]
  exact no _ rfl
theorem w1_ : wrap64 (0 + 1) = 1 := by rw [w64 (by omega)]; rfl
theorem w2_ : wrap64 (1 + 1) = 2 := by rw [w64 (by omega)]; rfl
theorem w3_ : wrap64 (2 + 1) = 3 := by rw [w64 (by omega)]; rfl
theorem ev_impl_PegOfParts (l : List S_impl_Peg) (n : List Int) : Ev (fun k => impl_PegOfParts.f k l n) (ans_PegOfParts l n) := by
 unfold impl_PegOfParts.f ans_PegOfParts
 have no : ∀ r : Int × Int × Bool, r = (0, 0, false) → Ev (fun k => impl_PegOfParts.j0 k l n true) r := by
  rintro r rfl
  refine Ev.succ ?_
  exact Ev.now _
 refine ask3I l (fun h3 ok => ?_) ?_
 ·simp only [if_true]
  by_cases hn : n.length = 3
  ·have hne3 : ((n.length : Int) != 3) = false := by simp; omega
   rw [hne3]
   refine Ev.succ ?_
   simp only [impl_PegOfParts.j0, Bool.false_eq_true, if_false]
   have p0 := ok.pegs 0 (by omega)
   have p1 := ok.pegs 1 (by omega)
   have p2 := ok.pegs 2 (by omega)
   unfold Sm at p0 p1 p2
   have r0 : rd n 0 = n.getD 0 0 := rfl
   have r1 : rd n 1 = n.getD 1 0 := rfl
   have r2 : rd n 2 = n.getD 2 0 := rfl
   have hln : (n.length : Int) = 3 := by omega
   have hll : (l.length : Int) = 3 := by omega
   have step : ∀ (x : Int), (decide (-1000000 ≤ x) && decide (x ≤ 1000000)) = true ↔ -1000000 ≤ x ∧ x ≤ 1000000 := by
    intro x
    simp
   have bad : ∀ (x : Int), ¬ (-1000000 ≤ x ∧ x ≤ 1000000) → (decide (-1000000 ≤ x) && decide (x ≤ 1000000)) = false := by
    intro x hx
    cases h : (decide (-1000000 ≤ x) && decide (x ≤ 1000000))
    ·rfl
    ·exact absurd ((step x).1 h) hx
   refine Ev.succ ?_
   simp (disch := omega) only [impl_PegOfParts.l0, w1_, if_pos, hln, hll, r0, rd0, impl_within_eq, Option.bind_some]
   by_cases b0 : -1000000 ≤ n.getD 0 0 ∧ n.getD 0 0 ≤ 1000000
   ·have m00 := mul_bd (x := n.getD 0 0) (y := (pt l 0).f0) (A := 1000000) (B := 40) (by omega) (by omega)
    have m01 := mul_bd (x := n.getD 0 0) (y := (pt l 0).f1) (A := 1000000) (B := 40) (by omega) (by omega)
    simp (disch := omega) only [(step _).2 b0, if_true, impl_Peg_plus.f, Option.bind_some, w64 (x := n.getD 0 0 * (pt l 0).f0), w64 (x := n.getD 0 0 * (pt l 0).f1), w64 (x := 0 + n.getD 0 0 * (pt l 0).f0), w64 (x := 0 + n.getD 0 0 * (pt l 0).f1), w64 (x := 0 + n.getD 0 0), w64 (x := n.getD 0 0), Int.zero_add]
    refine Ev.succ ?_
    simp (disch := omega) only [impl_PegOfParts.l0, w2_, if_pos, hln, hll, r1, rd1, impl_within_eq, Option.bind_some]
    by_cases b1 : -1000000 ≤ n.getD 1 0 ∧ n.getD 1 0 ≤ 1000000
    ·have m10 := mul_bd (x := n.getD 1 0) (y := (pt l 1).f0) (A := 1000000) (B := 40) (by omega) (by omega)
     have m11 := mul_bd (x := n.getD 1 0) (y := (pt l 1).f1) (A := 1000000) (B := 40) (by omega) (by omega)
     simp (disch := omega) only [(step _).2 b1, if_true, impl_Peg_plus.f, Option.bind_some, w64 (x := n.getD 1 0 * (pt l 1).f0), w64 (x := n.getD 1 0 * (pt l 1).f1), w64 (x := n.getD 0 0 * (pt l 0).f0 + n.getD 1 0 * (pt l 1).f0), w64 (x := n.getD 0 0 * (pt l 0).f1 + n.getD 1 0 * (pt l 1).f1), w64 (x := n.getD 0 0 + n.getD 1 0)]
     refine Ev.succ ?_
     simp (disch := omega) only [impl_PegOfParts.l0, w3_, if_pos, hln, hll, r2, rd2, impl_within_eq, Option.bind_some]
     by_cases b2 : -1000000 ≤ n.getD 2 0 ∧ n.getD 2 0 ≤ 1000000
     ·have m20 := mul_bd (x := n.getD 2 0) (y := (pt l 2).f0) (A := 1000000) (B := 40) (by omega) (by omega)
      have m21 := mul_bd (x := n.getD 2 0) (y := (pt l 2).f1) (A := 1000000) (B := 40) (by omega) (by omega)
      simp (disch := omega) only [(step _).2 b2, if_true, impl_Peg_plus.f, Option.bind_some, w64 (x := n.getD 2 0 * (pt l 2).f0), w64 (x := n.getD 2 0 * (pt l 2).f1), w64 (x := n.getD 0 0 * (pt l 0).f0 + n.getD 1 0 * (pt l 1).f0 + n.getD 2 0 * (pt l 2).f0), w64 (x := n.getD 0 0 * (pt l 0).f1 + n.getD 1 0 * (pt l 1).f1 + n.getD 2 0 * (pt l 2).f1), w64 (x := n.getD 0 0 + n.getD 1 0 + n.getD 2 0)]
      rw [if_pos ⟨hn, (all3 hn).2 ⟨b0, b1, b2⟩⟩]
      refine Ev.succ ?_
      simp (disch := omega) only [impl_PegOfParts.l0, if_neg]
      have hne := ar_ne h3 ok
      refine Ev.bind ok.area ?_
      simp only [if_neg hne]
      unfold ptFin
      have e0 : sm3 S_impl_Peg.f0 l n = n.getD 0 0 * (pt l 0).f0 + n.getD 1 0 * (pt l 1).f0 + n.getD 2 0 * (pt l 2).f0 := rfl
      have e1 : sm3 S_impl_Peg.f1 l n = n.getD 0 0 * (pt l 0).f1 + n.getD 1 0 * (pt l 1).f1 + n.getD 2 0 * (pt l 2).f1 := rfl
      rw [← e0, ← e1]
      have e := is_peg_impl ⟨wrap64 (Int.tdiv (sm3 S_impl_Peg.f0 l n) (ar l)), wrap64 (Int.tdiv (sm3 S_impl_Peg.f1 l n) (ar l))⟩
      simp only at e
      simp only [e, Option.bind_some]
      by_cases c0 : n.getD 0 0 + n.getD 1 0 + n.getD 2 0 = ar l
      ·by_cases c1 : Int.tmod (sm3 S_impl_Peg.f0 l n) (ar l) = 0
       ·by_cases c2 : Int.tmod (sm3 S_impl_Peg.f1 l n) (ar l) = 0
        ·simp only [if_pos c0, if_pos c1, if_pos c2]
         by_cases c3 : Sm 40 ⟨wrap64 (Int.tdiv (sm3 S_impl_Peg.f0 l n) (ar l)), wrap64 (Int.tdiv (sm3 S_impl_Peg.f1 l n) (ar l))⟩
         ·simp only [c3, decide_true, if_true]
          exact Ev.now _
         ·simp only [c3, decide_false, Bool.false_eq_true, if_false]
          exact Ev.now _
        ·simp only [if_pos c0, if_pos c1, if_neg c2]
         exact Ev.now _
       ·simp only [if_pos c0, if_neg c1]
        exact Ev.now _
      ·simp only [if_neg c0]
       exact Ev.now _
     ·simp only [bad _ b2, Bool.false_eq_true, if_false]
      rw [if_neg (fun h => b2 ((all3 hn).1 h.2).2.2)]
      exact Ev.now _
    ·simp only [bad _ b1, Bool.false_eq_true, if_false]
     rw [if_neg (fun h => b1 ((all3 hn).1 h.2).2.1)]
     exact Ev.now _
   ·simp only [bad _ b0, Bool.false_eq_true, if_false]
    rw [if_neg (fun h => b0 ((all3 hn).1 h.2).1)]
    exact Ev.now _
  ·have hne3 : ((n.length : Int) != 3) = true := by simp; omega
   rw [hne3, if_neg (fun h => hn h.1)]
   exact no _ rfl
 ·simp only [Bool.false_eq_true, if_false]
  exact no _ rfl
theorem FnExactPegOfParts : laws_FnExactPegOfParts.Pure := by
 intro l0 n1 hl0 hn1
 have hl0 := hl0.1
 have hn1 := hn1.1
 refine Ev.rounds ?_
 unfold laws_FnExactPegOfParts.f
 by_cases gn1 : 1048576 < n1.length
 ·simp (disch := omega) only [if_pos]
  exact Ev.now _
 simp (disch := omega) only [if_neg]
 have en1 : n1.length ≤ 1048576 := by omega
 rw [szPegS_eq l0 hl0]
 simp only [Option.bind_some]
 by_cases gl0 : 1048576 < l0.length
 ·simp only [if_pos gl0]
  exact Ev.now _
 simp only [if_neg gl0]
 simp (disch := omega) only [if_neg]
 have el0 : l0.length ≤ 1048576 := by omega
 obtain ⟨R, hR⟩ : ∃ R, R = ans_PegOfParts (toP l0) n1 := ⟨_, rfl⟩
 have hS := ev_spec_PegOfParts (toP l0) n1
 have hM := ev_impl_PegOfParts (toP l0) n1
 rw [← hR] at hS hM
 repeat (first | exact Ev.now _ | refine Ev.bind (ev_toPegS l0 el0) ?_ | refine Ev.bind (ev_toIntS n1 en1) ?_ | refine Ev.bind hS ?_ | refine Ev.bind hM ?_ | refine Ev.bind (ev_eqPegS (toP l0) (by rw [toP_length]; omega)) ?_ | refine Ev.bind (ev_eqIntS n1 (by omega)) ?_ | simp only [eq_self, if_true, bne_self_eq_false, Bool.false_eq_true, if_false, Option.bind_some, laws_eqPeg.f] | simp (disch := omega) only [if_neg, if_pos] | (refine Ev.succ ?_; simp only [laws_FnExactPegOfParts.j0, Bool.false_eq_true, if_false]))

end Go.Proofs.Ytklhakfmegbobaa.Pure
