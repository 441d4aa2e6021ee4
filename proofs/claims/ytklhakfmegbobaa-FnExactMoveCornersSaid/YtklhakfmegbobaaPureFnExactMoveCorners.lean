-- thin
/- The law FnExactMoveCorners holds: for all arguments the program's MoveCorners answers as the reference's, and the arguments are left as they were. No condition. -/
import Derived.Test.YtklhakfmegbobaaX0
import Derived.Test.YtklhakfmegbobaaX14
import Derived.Test.YtklhakfmegbobaaX15
import Derived.Test.YtklhakfmegbobaaX16
import Derived.Test.YtklhakfmegbobaaBBase
import Derived.Test.YtklhakfmegbobaaBCore
import Derived.Test.YtklhakfmegbobaaBPoly
import Derived.Test.YtklhakfmegbobaaBAsk
import Derived.Test.YtklhakfmegbobaaBMap
import Derived.Test.YtklhakfmegbobaaBWay
import Derived.Test.YtklhakfmegbobaaBMarkP
namespace Go.Proofs.Ytklhakfmegbobaa.Pure
open Go.RowKit Go.Proofs.Ytklhakfmegbobaa.XW Go.Proofs.Ytklhakfmegbobaa.X Go.Proofs.YtklhakfmegbobaaW.PrintWords Go.Proofs.YtklhakfmegbobaaW.PrintLast Go.Proofs.Ytklhakfmegbobaa.B
set_option linter.unusedVariables false
set_option linter.unusedSimpArgs false
set_option maxRecDepth 20000

def ab (n : Int) : Int := if n < 0 then -n else n
theorem impl_size_eq {n : Int} (h : -9223372036854775808 < n ∧ n ≤ 9223372036854775807) : impl_size.f n = some (ab n) := by
 unfold impl_size.f ab mx
 rw [w64 (by omega)]
 repeat' split
 all_goals first | rfl | omega | (congr 1; omega)
theorem spec_most_eq (a b : Int) : spec_l1Most.f a b = some (mx a b) := by
 unfold spec_l1Most.f mx
 repeat' split
 all_goals first | rfl | omega | (congr 1; omega)
theorem spec_abs_eq {n : Int} (h : -9223372036854775808 < n ∧ n ≤ 9223372036854775807) : spec_l1Abs.f n = some (ab n) := by
 unfold spec_l1Abs.f
 rw [w64 (by omega), spec_most_eq]
 simp only [Option.bind_some]
 unfold ab mx
 repeat' split
 all_goals first | rfl | omega | (congr 1; omega)
theorem rd_nat (l : List Int) (i : Nat) : rd l (i : Int) = l.getD i 0 := rfl
def in20 (x : Int) : Bool := decide (-20 ≤ x) && decide (x ≤ 20)
theorem in20_iff {x : Int} : in20 x = true ↔ -20 ≤ x ∧ x ≤ 20 := by
 unfold in20
 rw [Bool.and_eq_true, decide_eq_true_eq, decide_eq_true_eq]
theorem ev_spec_all (n : List Int) (lo hi : Int) (hn : n.length ≤ 1099511627776) : Ev (fun k => spec_l1All.f k n lo hi) (n.all fun x => decide (lo ≤ x) && decide (x ≤ hi)) := by
 unfold spec_l1All.f
 have go : ∀ (d i : Nat), i + d = n.length → Ev (fun k => spec_l1All.l0 k lo hi n n.length i) ((n.drop i).all fun x => decide (lo ≤ x) && decide (x ≤ hi)) := by
  intro d
  induction d with
  | zero =>
   intro i hi'
   refine Ev.succ ?_
   obtain rfl : i = n.length := by omega
   simp (disch := omega) only [spec_l1All.l0, if_neg]
   exact Ev.some (by simp)
  | succ d ih =>
   intro i hi'
   refine Ev.succ ?_
   have hil : i < n.length := by omega
   have e : rd n (i : Int) = n[i] := by rw [rd_nat, List.getD_eq_getElem?_getD, List.getElem?_eq_getElem hil]; rfl
   rw [List.drop_eq_getElem_cons hil]
   simp (disch := omega) only [spec_l1All.l0, if_pos, spec_in_eq, Option.bind_some, w64, e, List.all_cons]
   cases hx : (decide (lo ≤ n[i]) && decide (n[i] ≤ hi)) with
   | true => simp only [if_true, Bool.true_and]; exact ih (i + 1) (by omega)
   | false => simp only [Bool.false_eq_true, if_false, Bool.false_and]; exact Ev.now _
 have := go n.length 0 (by omega)
 simpa using this
def isMv (a b c d x y : Int) : Bool := if (in20 a && (in20 b && (in20 c && in20 d))) = true then (if (way x && way y) = true then ab (a * d - b * c) == 1 else false) else false
theorem isMv_iff {a b c d x y : Int} (h : isMv a b c d x y = true) : (-20 ≤ a ∧ a ≤ 20) ∧ (-20 ≤ b ∧ b ≤ 20) ∧ (-20 ≤ c ∧ c ≤ 20) ∧ (-20 ≤ d ∧ d ≤ 20) ∧ (-80 ≤ x ∧ x ≤ 80) ∧ (-80 ≤ y ∧ y ≤ 80) := by
 unfold isMv at h
 split at h
 ·rename_i h1
  split at h
  ·rename_i h2
   simp only [Bool.and_eq_true] at h1 h2
   rw [in20_iff, in20_iff, in20_iff, in20_iff] at h1
   rw [way_iff, way_iff] at h2
   exact ⟨h1.1, h1.2.1, h1.2.2.1, h1.2.2.2, h2.1, h2.2⟩
  ·exact absurd h (by simp)
 ·exact absurd h (by simp)
theorem side_sm {a b c d : Int} (ha : -20 ≤ a ∧ a ≤ 20) (hb : -20 ≤ b ∧ b ≤ 20) (hc : -20 ≤ c ∧ c ≤ 20) (hd : -20 ≤ d ∧ d ≤ 20) : wrap64 (wrap64 (a * d) - wrap64 (b * c)) = a * d - b * c ∧ -800 ≤ a * d - b * c ∧ a * d - b * c ≤ 800 := by
 have h1 := mul_bd (x := a) (y := d) (A := 20) (B := 20) (by omega) (by omega)
 have h2 := mul_bd (x := b) (y := c) (A := 20) (B := 20) (by omega) (by omega)
 rw [w64 (x := a * d) (by omega), w64 (x := b * c) (by omega), w64 (by omega)]
 omega
theorem all4 (a b c d : Int) : ([a, b, c, d].all fun x => decide (-20 ≤ x) && decide (x ≤ 20)) = (in20 a && (in20 b && (in20 c && in20 d))) := by
 simp only [List.all_cons, List.all_nil, Bool.and_true]
 rfl
theorem all2 (x y : Int) : ([x, y].all fun x => decide (-80 ≤ x) && decide (x ≤ 80)) = (way x && way y) := by
 simp only [List.all_cons, List.all_nil, Bool.and_true]
 rfl
theorem ev_spec_mv (a b c d x y : Int) : Ev (fun k => spec_mvGood.f k a b c d x y) (isMv a b c d x y) := by
 unfold spec_mvGood.f isMv
 have h4 := ev_spec_all [a, b, c, d] (-20) 20 (by simp)
 have h2 := ev_spec_all [x, y] (-80) 80 (by simp)
 rw [all4] at h4
 rw [all2] at h2
 refine Ev.bind h4 ?_
 refine Ev.iteB (fun g4 => ?_) (fun _ => Ev.now _)
 refine Ev.bind h2 ?_
 refine Ev.iteB (fun g2 => ?_) (fun _ => Ev.now _)
 simp only [Bool.and_eq_true, in20_iff] at g4
 obtain ⟨s0, s1, s2⟩ := side_sm g4.1 g4.2.1 g4.2.2.1 g4.2.2.2
 rw [s0, spec_abs_eq (by omega)]
 exact Ev.now _
theorem ev_impl_mv (a b c d x y : Int) (hx : (Lit.int .i64 x).wf = true) (hy : (Lit.int .i64 y).wf = true) : Ev (fun k => impl_IsMove.f k a b c d x y) (isMv a b c d x y) := by
 unfold impl_IsMove.f isMv
 simp only [Option.bind_some]
 have stp : ∀ (i : Nat) (r : Bool), i < 4 → (in20 ([a, b, c, d].getD i 0) = true → Ev (fun k => impl_IsMove.l0 k [a, b, c, d] ([a, b, c, d].length : Int) ((i + 1 : Nat) : Int) a b c d x y) r) → Ev (fun k => impl_IsMove.l0 k [a, b, c, d] ([a, b, c, d].length : Int) (i : Int) a b c d x y) (if in20 ([a, b, c, d].getD i 0) = true then r else false) := by
  intro i r hi h
  refine Ev.succ ?_
  have e4 : ([a, b, c, d].length : Int) = 4 := rfl
  rw [e4] at h ⊢
  simp (disch := omega) only [impl_IsMove.l0, if_pos, e4, impl_within_eq, Option.bind_some, rd_nat, w64]
  refine Ev.iteB (b := in20 ([a, b, c, d].getD i 0)) (fun g => ?_) (fun _ => Ev.now _)
  exact h g
 have last : (in20 a = true → in20 b = true → in20 c = true → in20 d = true → Ev (fun k => impl_IsMove.l0 k [a, b, c, d] ([a, b, c, d].length : Int) ((4 : Nat) : Int) a b c d x y) (if (way x && way y) = true then ab (a * d - b * c) == 1 else false)) := by
  intro ha hb hc hd
  refine Ev.succ ?_
  have e4 : ([a, b, c, d].length : Int) = 4 := rfl
  rw [e4]
  simp (disch := omega) only [impl_IsMove.l0, if_neg, is_way_eq hx hy, Option.bind_some]
  refine Ev.iteB (fun _ => ?_) (fun _ => Ev.now _)
  rw [in20_iff] at ha hb hc hd
  obtain ⟨s0, s1, s2⟩ := side_sm ha hb hc hd
  unfold impl_Move_side.f
  simp only [Option.bind_some]
  rw [s0, impl_size_eq (by omega)]
  exact Ev.now _
 have h0 := stp 0 _ (by omega) (fun g0 => stp 1 _ (by omega) (fun g1 => stp 2 _ (by omega) (fun g2 => stp 3 _ (by omega) (fun g3 => last g0 g1 g2 g3))))
 have : (if in20 ([a, b, c, d].getD 0 0) = true then (if in20 ([a, b, c, d].getD 1 0) = true then (if in20 ([a, b, c, d].getD 2 0) = true then (if in20 ([a, b, c, d].getD 3 0) = true then (if (way x && way y) = true then ab (a * d - b * c) == 1 else false) else false) else false) else false) else false) = (if (in20 a && (in20 b && (in20 c && in20 d))) = true then (if (way x && way y) = true then ab (a * d - b * c) == 1 else false) else false) := by
  show (if in20 a = true then (if in20 b = true then (if in20 c = true then (if in20 d = true then _ else false) else false) else false) else false) = _
  cases in20 a <;> cases in20 b <;> cases in20 c <;> cases in20 d <;> simp
 rw [this] at h0
 exact h0
theorem ev_changed (l : List S_impl_Peg) {a b c d x y : Int} (hm : isMv a b c d x y = true) : Ev (fun k => impl_changed_at_impl_Move_bring.f k l a b c d x y) (if good l = true then chg (lin a b c d x y) l else ([], false)) := by
 unfold impl_changed_at_impl_Move_bring.f
 obtain ⟨ha, hb, hc, hd, hx, hy⟩ := isMv_iff hm
 refine askI l (fun ok => ?_) (Ev.now _)
 have h10 := ok.hi
 simp only [if_true]
 have go : ∀ (e i : Nat), i + e = l.length → Ev (fun k => impl_changed_at_impl_Move_bring.l0 k ((l.map (lin a b c d x y)).take i) l l.length i a b c d x y) (chg (lin a b c d x y) l) := by
  intro e
  induction e with
  | zero =>
   intro i hi
   refine Ev.succ ?_
   obtain rfl : i = l.length := by omega
   simp (disch := omega) only [impl_changed_at_impl_Move_bring.l0, if_neg]
   rw [List.take_of_length_le (by simp)]
   refine Ev.bind (ev_arePegs _ (by simp; omega)) ?_
   unfold chg
   cases allPegs (l.map (lin a b c d x y))
   ·exact Ev.now _
   ·exact Ev.now _
  | succ e ih =>
   intro i hi
   refine Ev.succ ?_
   have hil : i < l.length := by omega
   have hlen := map_take_length (f := lin a b c d x y) (l := l) (i := i) (by omega)
   have hp := (ok.pegs i hil).mono (C := 1000000) (by omega)
   have w0 := lin_w (a := a) (b := b) (x := x) (p := pt l i) (by omega) (by omega) (by omega) hp
   have w1 := lin_w (a := c) (b := d) (x := y) (p := pt l i) (by omega) (by omega) (by omega) hp
   simp (disch := omega) only [impl_changed_at_impl_Move_bring.l0, if_pos, rd_pt, impl_Move_bring.f, Option.bind_some, w0, w1, hlen, w64]
   have := ih (i + 1) (by omega)
   rw [map_take hil] at this
   exact this
 have := go l.length 0 (by omega)
 simpa using this
noncomputable def ans_MoveCorners (a b c d x y : Int) (l : List S_impl_Peg) : List S_impl_Peg × Bool := if isMv a b c d x y = true then (if good l = true then chg (lin a b c d x y) l else ([], false)) else ([], false)
theorem ans_MoveCorners_len (a b c d x y : Int) (l : List S_impl_Peg) : (ans_MoveCorners a b c d x y l).1.length ≤ 1099511627776 := by
 unfold ans_MoveCorners
 split
 ·split
  ·rename_i h
   exact chg_len _ (by have := (good_iff.1 h).hi; omega)
  ·show 0 ≤ _
   omega
 ·show 0 ≤ _
  omega
theorem ev_spec_MoveCorners (a b c d x y : Int) (l : List S_impl_Peg) : Ev (fun k => spec_MoveCorners.f k a b c d x y l) (ans_MoveCorners a b c d x y l) := by
 unfold spec_MoveCorners.f ans_MoveCorners
 refine Ev.bind (ev_spec_mv a b c d x y) ?_
 refine Ev.iteB (fun hm => ?_) (fun _ => Ev.now _)
 obtain ⟨ha, hb, hc, hd, hx, hy⟩ := isMv_iff hm
 refine askS l (fun ok => ?_) (Ev.now _)
 have h10 := ok.hi
 have h := ev_spec_map l (a := a) (b := b) (c := c) (d := d) (x := x) (y := y) (by omega) (by omega) (by omega) (by omega) (by omega) (by omega) (by omega) (fun i hi => ok.big i hi)
 exact Ev.bind h (Ev.now _)
theorem ev_impl_MoveCorners (a b c d x y : Int) (l : List S_impl_Peg) (ha : (Lit.int .i64 a).wf = true) (hb : (Lit.int .i64 b).wf = true) (hc : (Lit.int .i64 c).wf = true) (hd : (Lit.int .i64 d).wf = true) (hx : (Lit.int .i64 x).wf = true) (hy : (Lit.int .i64 y).wf = true) : Ev (fun k => impl_MoveCorners.f k a b c d x y l) (ans_MoveCorners a b c d x y l) := by
 unfold impl_MoveCorners.f ans_MoveCorners
 refine Ev.bind (ev_impl_mv a b c d x y hx hy) ?_
 refine Ev.iteB (fun hm => ?_) (fun _ => Ev.now _)
 exact Ev.bind (ev_changed l hm) (Ev.now _)
theorem FnExactMoveCorners : laws_FnExactMoveCorners.Pure := by
 intro m0_0 m0_1 m0_2 m0_3 m0_4 m0_5 l1 hm0_0 hm0_1 hm0_2 hm0_3 hm0_4 hm0_5 hl1
 have hl1 := hl1.1
 refine Ev.rounds ?_
 unfold laws_FnExactMoveCorners.f
 rw [szPegS_eq l1 hl1]
 simp only [Option.bind_some]
 by_cases gl1 : 1048576 < l1.length
 ·simp only [if_pos gl1]
  exact Ev.now _
 simp only [if_neg gl1]
 simp (disch := omega) only [if_neg]
 have el1 : l1.length ≤ 1048576 := by omega
 obtain ⟨R, hR⟩ : ∃ R, R = ans_MoveCorners m0_0 m0_1 m0_2 m0_3 m0_4 m0_5 (toP l1) := ⟨_, rfl⟩
 have hS := ev_spec_MoveCorners m0_0 m0_1 m0_2 m0_3 m0_4 m0_5 (toP l1)
 have hM := ev_impl_MoveCorners m0_0 m0_1 m0_2 m0_3 m0_4 m0_5 (toP l1) hm0_0 hm0_1 hm0_2 hm0_3 hm0_4 hm0_5
 rw [← hR] at hS hM
 have hb := ans_MoveCorners_len m0_0 m0_1 m0_2 m0_3 m0_4 m0_5 (toP l1)
 rw [← hR] at hb
 repeat (first | exact Ev.now _ | refine Ev.bind (ev_toPegS l1 el1) ?_ | refine Ev.bind hS ?_ | refine Ev.bind hM ?_ | refine Ev.bind (ev_eqPegS (toP l1) (by rw [toP_length]; omega)) ?_ | refine Ev.bind (ev_eqPegS _ hb) ?_ | refine Ev.bind (ev_markPegS _ _ hb (by omega)) ?_ | refine Ev.bind (ev_heldPegS _ _ hb (by omega)) ?_ | refine Ev.bind (ev_markPegS (toP l1) 1 (by rw [toP_length]; omega) (by omega)) ?_ | simp only [eq_self, if_true, bne_self_eq_false, Bool.false_eq_true, if_false, Option.bind_some, laws_toMove.f] | simp (disch := omega) only [if_neg, if_pos] | (refine Ev.succ ?_; simp only [laws_FnExactMoveCorners.j0, laws_FnExactMoveCorners.j1, laws_FnExactMoveCorners.j2, Bool.false_eq_true, if_false]))

end Go.Proofs.Ytklhakfmegbobaa.Pure
