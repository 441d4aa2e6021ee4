-- thin
/- The machine's side of the claim, printed by this repo's wip/xprint.py out of Lean's own print of the program: functions, and proofs that the calls do what they say. -/
import Derived.Test.YtoeclfihlhmnpaaRows
import Derived.Test.YtoeclfihlhmnpaaX24
import Derived.Test.YtoeclfihlhmnpaaPureFnExactBandOfSolutions
import Derived.Test.YtoeclfihlhmnpaaXO
import Derived.WalkKit
import Derived.ProofKit
import Derived.OpenShut
import Derived.ShutString
import Derived.ChangeOld
import Derived.Below
import Derived.SizedLaws
namespace Go.Proofs.Ytoeclfihlhmnpaa.fnExactBandOfSolutions
open Go.ChangeShapes Go.WideShapes Go.ChangeAt Go.RowKit Go.Proofs.Ytoeclfihlhmnpaa.XW Go.Proofs.Ytoeclfihlhmnpaa.X Go.Proofs.YtoeclfihlhmnpaaW.PrintWords
open Go.ChangeMaps (open_string shut_string)
set_option linter.unusedVariables false
theorem own : ownKnob Try.prog.godebug = none := by kernel_rfl
theorem laidOut : laidOutB Try.prog = true := by kernel_rfl
set_option maxRecDepth 100000 in
theorem lifted (os : Os) (started : os.Started) (H : Type) (enc : TypeId × Value → H) :
  ReturnsInHanded {} Try.checked os 3 .any (Rows.fnExactBandOfSolutionsSpec.pre6 enc Try.prog Try.f3 Rows.fnExactBandOfSolutionsRow.domain false) (Rows.fnExactBandOfSolutionsSpec.post enc Try.prog Try.f3 false true false false) := by
 refine returnsInHanded_of_change_sized (C := Try.checked) own started (by kernel_rfl) Try.func3
  (ChangeSpec.witness6 (enc := enc) (C := Try.checked) false ⟨#[], #[.agg #[.int .i64 0, .slice none 0 0]], []⟩ 8 (by kernel_rfl) (by kernel_rfl) (by kernel_rfl) (by kernel_rfl)) ?_
 intro W base args ds gs before hval0 hW hcnd hsz0 _
 have hsz : (DataW.weightsEach Try.prog (Try.f3.params.toList ++ Rows.fnExactBandOfSolutionsSpec.plain.varTypes Try.prog) (ds ++ gs)).all (· ≤ reachBytes) = true := hsz0
 have hval : ∀ (j : Nat) t v, Try.f3.params[j]? = some t → args[j]? = some v → Value.okWide Try.prog W .any base t v := hval0
 have hW' := hW
 obtain ⟨p, q, hA0, hV, rfl, hfz, hnd⟩ := hW
 have hA : DataW.TrodAll enc Try.prog W 0 (fun _ => true) true Try.f3.params.toList args.toList ds p := hA0
 rw [Try.params3] at hA hval hsz
 obtain ⟨v0, vs0, d0, ds0, p0, q0, hargs, rfl, rfl, h0, r0⟩ := trodAll_cons hA
 obtain ⟨rfl, rfl, rfl⟩ := trodAll_nil r0
 obtain rfl : args = #[v0] := by cases args; simp_all
 obtain ⟨rfl, rfl⟩ := trodVars_none hV
 have g0 := h0
 have lt0 : ∀ x ∈ p0, x.block < W.heap.size := by obtain ⟨m, hm⟩ := g0; exact DataW.trod_lt m _ _ _ hm
 have RD3 : Rdb enc Try.prog W 0 (fun _ => true) true (Kd.int .i64) (okInt .i64) 3 := rdb_int Try.underlying3
 have RD103 : Rdb enc Try.prog W 0 (fun _ => true) true kd_laws_Clue (fun y : S_laws_Clue => (okInt .i64) y.f0 ∧ (okInt .i64) y.f1 ∧ (okInt .i64) y.f2 ∧ (okInt .i64) y.f3) 103 := rdb_iso (α := Int × Int × Int × Int) (ok := fun p => (okInt .i64) p.1 ∧ (okInt .i64) p.2.1 ∧ (okInt .i64) p.2.2.1 ∧ (okInt .i64) p.2.2.2) (fun p => ⟨p.1, p.2.1, p.2.2.1, p.2.2.2⟩) (fun _ => rfl) (fun _ h => h) (rdb_struct Try.underlying103 (by kernel_rfl) (by kernel_rfl) (rdbL_cons RD3 (rdbL_cons RD3 (rdbL_cons RD3 (rdbL_one RD3)))))
 have RD22 : Rdb enc Try.prog W 0 (fun _ => true) true (Kd.slice 103 kd_laws_Clue) (OkL (fun y : S_laws_Clue => (okInt .i64) y.f0 ∧ (okInt .i64) y.f1 ∧ (okInt .i64) y.f2 ∧ (okInt .i64) y.f3)) 22 := rdb_slice Try.underlying22 (by kernel_rfl) RD103
 have RD24 : Rdb enc Try.prog W 0 (fun _ => true) true kd_laws_Puzzle (fun y : S_laws_Puzzle => (okInt .i64) y.f0 ∧ (OkL (fun y : S_laws_Clue => (okInt .i64) y.f0 ∧ (okInt .i64) y.f1 ∧ (okInt .i64) y.f2 ∧ (okInt .i64) y.f3)) y.f1) 24 := rdb_iso (α := Int × (List (S_laws_Clue))) (ok := fun p => (okInt .i64) p.1 ∧ (OkL (fun y : S_laws_Clue => (okInt .i64) y.f0 ∧ (okInt .i64) y.f1 ∧ (okInt .i64) y.f2 ∧ (okInt .i64) y.f3)) p.2) (fun p => ⟨p.1, p.2⟩) (fun _ => rfl) (fun _ h => h) (rdb_struct Try.underlying24 (by kernel_rfl) (by kernel_rfl) (rdbL_cons RD3 (rdbL_one RD22)))
 obtain ⟨cs0, rfl, hsz0⟩ := okWide_struct Try.underlying24 (hval 0 24 v0 rfl rfl)
 obtain ⟨x0, hK0, hO0⟩ := rdb_trod RD24 h0
 simp only [Value.cells] at hK0
 obtain ⟨_, _, hcs0, rfl, ⟨A0_1, c0_1, rfl, hc0_1, hr0_1⟩⟩ := hK0
 obtain rfl : cs0 = #[.int .i64 x0.f0, .slice A0_1 x0.f1.length c0_1] := by cases cs0; simp_all
 obtain ⟨k, h⟩ := Pure.FnExactBandOfSolutions x0.f0 x0.f1 hO0.1 hO0.2
 clear hA0 hval0 hsz0 hsz
 refine (laws_FnExactBandOfSolutions.calls k x0.f0 _ _ x0.f1 true W hr0_1 hc0_1 h).mono fun e W' ⟨he, bel0⟩ => ?_
 have bel : Below W.heap.size W W' := bel0
 subst he
 exact ⟨_, rfl, _, _, _, [], _, [], hW', trodAll_mk1 (shut_bool Try.underlying4 _), (trodAll_cons_mk (Below.trod laidOut (by kernel_rfl) (of_decide_eq_true (by kernel_rfl)) g0 bel lt0) trodAll_mk0), rfl, bel.frame _, fun h => by cases h⟩
theorem over : Rows.fnExactBandOfSolutionsRow.holds Try.pinned (OpenSpec.ofChange Rows.fnExactBandOfSolutionsSpec) :=
 OpenClaim.holds_of_wide 3 Try.f3 rfl rfl rfl rfl rfl rfl rfl ⟨rfl, rfl, rfl, rfl, rfl⟩ rfl rfl rfl rfl rfl (by kernel_rfl) Try.func3 (by unfold joinedFacts; refine XO.band (XO.band (XO.band (XO.band (XO.band (XO.band (XO.band (XO.band (XO.band (XO.band (XO.band (XO.band (XO.band (XO.band (XO.band (XO.band (XO.band (XO.band (XO.band (XO.band (XO.band (XO.band (XO.band (XO.band (XO.band (XO.band (XO.band (XO.band (XO.band (XO.band (XO.band ?_ ?_) ?_) ?_) ?_) ?_) ?_) ?_) ?_) ?_) ?_) ?_) ?_) ?_) ?_) ?_) ?_) ?_) ?_) ?_) ?_) ?_) ?_) ?_) ?_) ?_) ?_) ?_) ?_) ?_) ?_) ?_; all_goals (first | with_reducible exact XO.enter_of | with_reducible exact XO.lifts_of (by kernel_rfl) | with_reducible exact XO.make_of (by kernel_rfl) | (as_aux_lemma => kernel_rfl)))
  (of_decide_eq_true (by kernel_rfl)) (by unfold Func.isWrapper; first | (rw [if_pos (by decide +kernel)]; kernel_rfl) | (rw [if_neg (by decide +kernel)]; exact ⟨rfl, rfl⟩))
  (fun os started H enc _ => lifted os started H enc)
theorem proved : Rows.FnExactBandOfSolutionsSaid := over
#print axioms proved
end Go.Proofs.Ytoeclfihlhmnpaa.fnExactBandOfSolutions
namespace Go.Proofs.Ytoeclfihlhmnpaa
/-- The row, under a short name, for the claim. -/
theorem fnExactBandOfSolutions_holds : Rows.FnExactBandOfSolutionsSaid := fnExactBandOfSolutions.proved
end Go.Proofs.Ytoeclfihlhmnpaa
