-- thin
/- The machine's side of the claim, printed by this repo's wip/xprint.py out of Lean's own print of the program: functions, and proofs that the calls do what they say. -/
import Derived.Test.YtfihohongkfibaaRows
import Derived.Test.YtfihohongkfibaaX27
import Derived.Test.YtfihohongkfibaaPureFnExactKindsOfArea
import Derived.Test.YtfihohongkfibaaXO
import Derived.WalkKit
import Derived.ProofKit
import Derived.OpenShut
import Derived.ShutString
import Derived.ChangeOld
import Derived.Below
import Derived.SizedLaws
namespace Go.Proofs.Ytfihohongkfibaa.fnExactKindsOfArea
open Go.ChangeShapes Go.WideShapes Go.ChangeAt Go.RowKit Go.Proofs.Ytfihohongkfibaa.XW Go.Proofs.Ytfihohongkfibaa.X Go.Proofs.YtfihohongkfibaaW.PrintWords
open Go.ChangeMaps (open_string shut_string)
set_option linter.unusedVariables false
theorem own : ownKnob Try.prog.godebug = none := by kernel_rfl
set_option maxRecDepth 100000 in
theorem lifted (os : Os) (started : os.Started) (H : Type) (enc : TypeId × Value → H) :
  ReturnsInHanded {} Try.checked os 12 .any (Rows.fnExactKindsOfAreaSpec.pre6 enc Try.prog Try.f12 Rows.fnExactKindsOfAreaRow.domain false) (Rows.fnExactKindsOfAreaSpec.post enc Try.prog Try.f12 false true false false) := by
 refine returnsInHanded_of_change_sized (C := Try.checked) own started (by kernel_rfl) Try.func12
  (ChangeSpec.witness6 (enc := enc) (C := Try.checked) false ⟨#[], #[.int .i64 0], []⟩ 8 (by kernel_rfl) (by kernel_rfl) (by kernel_rfl) (by kernel_rfl)) ?_
 intro W base args ds gs before hval0 hW hcnd hsz0 _
 have hsz : (DataW.weightsEach Try.prog (Try.f12.params.toList ++ Rows.fnExactKindsOfAreaSpec.plain.varTypes Try.prog) (ds ++ gs)).all (· ≤ reachBytes) = true := hsz0
 have hval : ∀ (j : Nat) t v, Try.f12.params[j]? = some t → args[j]? = some v → Value.okWide Try.prog W .any base t v := hval0
 have hW' := hW
 obtain ⟨p, q, hA0, hV, rfl, hfz, hnd⟩ := hW
 have hA : DataW.TrodAll enc Try.prog W 0 (fun _ => true) true Try.f12.params.toList args.toList ds p := hA0
 rw [Try.params12] at hA hval hsz
 obtain ⟨v0, vs0, d0, ds0, p0, q0, hargs, rfl, rfl, h0, r0⟩ := trodAll_cons hA
 obtain ⟨rfl, rfl, rfl⟩ := trodAll_nil r0
 obtain rfl : args = #[v0] := by cases args; simp_all
 obtain ⟨rfl, rfl⟩ := trodVars_none hV
 obtain ⟨a0, rfl, rfl, rfl, w0⟩ := open_int Try.underlying3 (hval 0 3 v0 rfl rfl) h0
 obtain ⟨k, h⟩ := Pure.FnExactKindsOfArea a0 w0
 clear hA0 hval0 hsz0 hsz
 refine (laws_FnExactKindsOfArea.calls k a0 true W h).mono fun e W' ⟨he, bel0⟩ => ?_
 have bel : Below W.heap.size W W' := bel0
 subst he
 exact ⟨_, rfl, _, _, _, [], _, [], hW', trodAll_mk1 (shut_bool Try.underlying4 _), (trodAll_cons_mk (shut_int Try.underlying3 w0) trodAll_mk0), rfl, bel.frame _, fun h => by cases h⟩
theorem over : Rows.fnExactKindsOfAreaRow.holds Try.pinned (OpenSpec.ofChange Rows.fnExactKindsOfAreaSpec) :=
 OpenClaim.holds_of_wide 12 Try.f12 rfl rfl rfl rfl rfl rfl rfl ⟨rfl, rfl, rfl, rfl, rfl⟩ rfl rfl rfl rfl rfl (by kernel_rfl) Try.func12 (by unfold joinedFacts; refine XO.band (XO.band (XO.band (XO.band (XO.band (XO.band (XO.band (XO.band (XO.band (XO.band (XO.band (XO.band (XO.band (XO.band (XO.band (XO.band (XO.band (XO.band (XO.band (XO.band (XO.band (XO.band (XO.band (XO.band (XO.band (XO.band (XO.band (XO.band (XO.band (XO.band (XO.band ?_ ?_) ?_) ?_) ?_) ?_) ?_) ?_) ?_) ?_) ?_) ?_) ?_) ?_) ?_) ?_) ?_) ?_) ?_) ?_) ?_) ?_) ?_) ?_) ?_) ?_) ?_) ?_) ?_) ?_) ?_) ?_; all_goals (first | with_reducible exact XO.enter_of | with_reducible exact XO.lifts_of (by kernel_rfl) | with_reducible exact XO.make_of (by kernel_rfl) | (as_aux_lemma => kernel_rfl)))
  (of_decide_eq_true (by kernel_rfl)) (by unfold Func.isWrapper; first | (rw [if_pos (by decide +kernel)]; kernel_rfl) | (rw [if_neg (by decide +kernel)]; exact ⟨rfl, rfl⟩))
  (fun os started H enc _ => lifted os started H enc)
theorem proved : Rows.FnExactKindsOfAreaSaid := over
#print axioms proved
end Go.Proofs.Ytfihohongkfibaa.fnExactKindsOfArea
namespace Go.Proofs.Ytfihohongkfibaa
/-- The row, under a short name, for the claim. -/
theorem fnExactKindsOfArea_holds : Rows.FnExactKindsOfAreaSaid := fnExactKindsOfArea.proved
end Go.Proofs.Ytfihohongkfibaa
