-- thin
/- The machine's side of the claim, printed by this repo's wip/xprint.py out of Lean's own print of the program: functions, and proofs that the calls do what they say. -/
import Derived.Test.YtphkphjddkjabaaRows
import Derived.Test.YtphkphjddkjabaaX19
import Derived.Test.YtphkphjddkjabaaPureFnExactMoveBetween
import Derived.Test.YtphkphjddkjabaaXO
import Derived.WalkKit
import Derived.ProofKit
import Derived.OpenShut
import Derived.ShutString
import Derived.ChangeOld
import Derived.Below
import Derived.SizedLaws
namespace Go.Proofs.Ytphkphjddkjabaa.fnExactMoveBetween
open Go.ChangeShapes Go.WideShapes Go.ChangeAt Go.RowKit Go.Proofs.Ytphkphjddkjabaa.XW Go.Proofs.Ytphkphjddkjabaa.X Go.Proofs.YtphkphjddkjabaaW.PrintWords
open Go.ChangeMaps (open_string shut_string)
set_option linter.unusedVariables false
theorem own : ownKnob Try.prog.godebug = none := by kernel_rfl
theorem laidOut : laidOutB Try.prog = true := by kernel_rfl
set_option maxRecDepth 100000 in
theorem lifted (os : Os) (started : os.Started) (H : Type) (enc : TypeId × Value → H) :
  ReturnsInHanded {} Try.checked os 3 .any (Rows.fnExactMoveBetweenSpec.pre6 enc Try.prog Try.f3 Rows.fnExactMoveBetweenRow.domain false) (Rows.fnExactMoveBetweenSpec.post enc Try.prog Try.f3 false true false false) := by
 refine returnsInHanded_of_change_sized (C := Try.checked) own started (by kernel_rfl) Try.func3
  (ChangeSpec.witness6 (enc := enc) (C := Try.checked) false ⟨#[], #[.slice none 0 0, .slice none 0 0], []⟩ 8 (by kernel_rfl) (by kernel_rfl) (by kernel_rfl) (by kernel_rfl)) ?_
 intro W base args ds gs before hval0 hW hcnd hsz0 _
 have hsz : (DataW.weightsEach Try.prog (Try.f3.params.toList ++ Rows.fnExactMoveBetweenSpec.plain.varTypes Try.prog) (ds ++ gs)).all (· ≤ reachBytes) = true := hsz0
 have hval : ∀ (j : Nat) t v, Try.f3.params[j]? = some t → args[j]? = some v → Value.okWide Try.prog W .any base t v := hval0
 have hW' := hW
 obtain ⟨p, q, hA0, hV, rfl, hfz, hnd⟩ := hW
 have hA : DataW.TrodAll enc Try.prog W 0 (fun _ => true) true Try.f3.params.toList args.toList ds p := hA0
 rw [Try.params3] at hA hval hsz
 obtain ⟨v0, vs0, d0, ds0, p0, q0, hargs, rfl, rfl, h0, r0⟩ := trodAll_cons hA
 obtain ⟨v1, vs1, d1, ds1, p1, q1, rfl, rfl, rfl, h1, r1⟩ := trodAll_cons r0
 obtain ⟨rfl, rfl, rfl⟩ := trodAll_nil r1
 obtain rfl : args = #[v0, v1] := by cases args; simp_all
 obtain ⟨rfl, rfl⟩ := trodVars_none hV
 have g0 := h0
 have lt0 : ∀ x ∈ p0, x.block < W.heap.size := by obtain ⟨m, hm⟩ := g0; exact DataW.trod_lt m _ _ _ hm
 have RD3 : Rdb enc Try.prog W 0 (fun _ => true) true (Kd.int .i64) (okInt .i64) 3 := rdb_int Try.underlying3
 have RD40 : Rdb enc Try.prog W 0 (fun _ => true) true kd_laws_Peg (fun y : S_laws_Peg => (okInt .i64) y.f0 ∧ (okInt .i64) y.f1) 40 := rdb_iso (α := Int × Int) (ok := fun p => (okInt .i64) p.1 ∧ (okInt .i64) p.2) (fun p => ⟨p.1, p.2⟩) (fun _ => rfl) (fun _ h => h) (rdb_struct Try.underlying40 (by kernel_rfl) (by kernel_rfl) (rdbL_cons RD3 (rdbL_one RD3)))
 have RD22 : Rdb enc Try.prog W 0 (fun _ => true) true (Kd.slice 40 kd_laws_Peg) (OkL (fun y : S_laws_Peg => (okInt .i64) y.f0 ∧ (okInt .i64) y.f1)) 22 := rdb_slice Try.underlying22 (by kernel_rfl) RD40
 obtain ⟨aa0, len0, cap0, rfl⟩ := okWide_slice Try.underlying22 (hval 0 22 v0 rfl rfl)
 obtain ⟨l0, hK0, hO0⟩ := rdb_trod RD22 h0
 obtain ⟨A0, c0, hcs0, hc0, hr0⟩ := hK0
 simp only [Value.cells, List.cons.injEq, Value.slice.injEq, and_true] at hcs0
 obtain ⟨rfl, rfl, rfl⟩ := hcs0
 have g1 := h1
 have lt1 : ∀ x ∈ p1, x.block < W.heap.size := by obtain ⟨m, hm⟩ := g1; exact DataW.trod_lt m _ _ _ hm
 obtain ⟨aa1, len1, cap1, rfl⟩ := okWide_slice Try.underlying22 (hval 1 22 v1 rfl rfl)
 obtain ⟨l1, hK1, hO1⟩ := rdb_trod RD22 h1
 obtain ⟨A1, c1, hcs1, hc1, hr1⟩ := hK1
 simp only [Value.cells, List.cons.injEq, Value.slice.injEq, and_true] at hcs1
 obtain ⟨rfl, rfl, rfl⟩ := hcs1
 obtain ⟨k, h⟩ := Pure.FnExactMoveBetween l0 l1 hO0 hO1
 clear hA0 hval0 hsz0 hsz
 refine (laws_FnExactMoveBetween.calls k _ _ l0 _ _ l1 true W hr0 hc0 hr1 hc1 h).mono fun e W' ⟨he, bel0⟩ => ?_
 have bel : Below W.heap.size W W' := bel0
 subst he
 exact ⟨_, rfl, _, _, _, [], _, [], hW', trodAll_mk1 (shut_bool Try.underlying4 _), (trodAll_cons_mk (Below.trod laidOut (by kernel_rfl) (of_decide_eq_true (by kernel_rfl)) g0 bel lt0) (trodAll_cons_mk (Below.trod laidOut (by kernel_rfl) (of_decide_eq_true (by kernel_rfl)) g1 bel lt1) trodAll_mk0)), rfl, bel.frame _, fun h => by cases h⟩
theorem over : Rows.fnExactMoveBetweenRow.holds Try.pinned (OpenSpec.ofChange Rows.fnExactMoveBetweenSpec) :=
 OpenClaim.holds_of_wide 3 Try.f3 rfl rfl rfl rfl rfl rfl rfl ⟨rfl, rfl, rfl, rfl, rfl⟩ rfl rfl rfl rfl rfl (by kernel_rfl) Try.func3 (by unfold joinedFacts; refine XO.band (XO.band (XO.band (XO.band (XO.band (XO.band (XO.band (XO.band (XO.band (XO.band (XO.band (XO.band (XO.band (XO.band (XO.band (XO.band (XO.band (XO.band (XO.band (XO.band (XO.band (XO.band (XO.band (XO.band (XO.band (XO.band (XO.band (XO.band (XO.band (XO.band (XO.band ?_ ?_) ?_) ?_) ?_) ?_) ?_) ?_) ?_) ?_) ?_) ?_) ?_) ?_) ?_) ?_) ?_) ?_) ?_) ?_) ?_) ?_) ?_) ?_) ?_) ?_) ?_) ?_) ?_) ?_) ?_) ?_; all_goals (first | with_reducible exact XO.enter_of | with_reducible exact XO.lifts_of (by kernel_rfl) | with_reducible exact XO.make_of (by kernel_rfl) | (as_aux_lemma => kernel_rfl)))
  (of_decide_eq_true (by kernel_rfl)) (by unfold Func.isWrapper; first | (rw [if_pos (by decide +kernel)]; kernel_rfl) | (rw [if_neg (by decide +kernel)]; exact ⟨rfl, rfl⟩))
  (fun os started H enc _ => lifted os started H enc)
theorem proved : Rows.FnExactMoveBetweenSaid := over
#print axioms proved
end Go.Proofs.Ytphkphjddkjabaa.fnExactMoveBetween
namespace Go.Proofs.Ytphkphjddkjabaa
/-- The row, under a short name, for the claim. -/
theorem fnExactMoveBetween_holds : Rows.FnExactMoveBetweenSaid := fnExactMoveBetween.proved
end Go.Proofs.Ytphkphjddkjabaa
