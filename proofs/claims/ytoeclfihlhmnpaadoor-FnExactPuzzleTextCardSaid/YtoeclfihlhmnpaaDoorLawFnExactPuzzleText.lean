-- thin
/- The machine's side of the claim, printed by this repo's wip/xprint.py out of Lean's own print of the program: functions, and proofs that the calls do what they say. -/
import Derived.Test.YtoeclfihlhmnpaaDoorRows
import Derived.Test.YtoeclfihlhmnpaaDoorX8
import Derived.Test.YtoeclfihlhmnpaaDoorPureFnExactPuzzleText
import Derived.Test.YtoeclfihlhmnpaaDoorXO
import Derived.Test.YtoeclfihlhmnpaaDoorCards
import Derived.Test.YtoeclfihlhmnpaaDoorTie
import Derived.Test.YtoeclfihlhmnpaaDoorXW5
import Derived.LaidMore
import Derived.LaidHandle
import Derived.MakeChecks
import Derived.Lib.LaidU8
import Derived.SevenTiedAt
import Derived.Stop.Joined
import Derived.Test.YtoeclfihlhmnpaaDoorXO
import Derived.WalkKit
import Derived.ProofKit
import Derived.OpenShut
import Derived.ShutString
import Derived.ChangeOld
import Derived.Below
import Derived.SizedLaws
namespace Go.Proofs.YtoeclfihlhmnpaaDoor.fnExactPuzzleText
open Go.ChangeShapes Go.WideShapes Go.ChangeAt Go.RowKit Go.Proofs.YtoeclfihlhmnpaaDoor.XW Go.Proofs.YtoeclfihlhmnpaaDoor.X Go.Proofs.YtoeclfihlhmnpaaDoorW.PrintWords
open Go.ChangeMaps (open_string shut_string)
set_option linter.unusedVariables false
theorem own : ownKnob Tryd.prog.godebug = none := by kernel_rfl
theorem laidOut : laidOutB Tryd.prog = true := by kernel_rfl
/-- The door's own heap meets the condition. -/
theorem door_met (os : Os) (args : Array Value) : laidMetH Tryd.prog Rows.fnExactPuzzleTextRow.laid ((World.doorLaid Tryd.prog 400 os).forCall (fun _ _ => 0) ⟨#[], args, []⟩).memory :=
  laidMetH_of_parts3 (fuel := 8) (laidMet_of_run' 8 (by kernel_rfl) (by kernel_rfl)) (by kernel_rfl) (by kernel_rfl)
theorem plain_laid : (Rows.fnExactPuzzleTextRow.laid.all fun x => x.2.handleName?.isNone) = true := by kernel_rfl
theorem gPow : Tryd.prog.globalNamed "internal/strconv.uint64pow10" = some 5 := by kernel_rfl
theorem tPow : (Tryd.prog.globals[5]?).map (·.type) = some 118 := by kernel_rfl
/-- What the condition gives the walks. -/
theorem tab_of {W : World} (h : laidMetH Tryd.prog Rows.fnExactPuzzleTextRow.laid W) : Tab W := by
  rw [MakeChecks.laidMetH_plain _ _ _ plain_laid] at h
  obtain ⟨g, t, cs, fuel, p, hg, ht, hvar, hd⟩ := Lib.laidMet.reads h (n := "internal/strconv.uint64pow10") (d := Rows.laid_internal_strconv_uint64pow10) (by unfold Rows.fnExactPuzzleTextRow; exact List.Mem.tail _ (List.Mem.tail _ (List.Mem.head _)))
  obtain rfl := Option.some.inj (gPow.symm.trans hg)
  obtain rfl := Option.some.inj (tPow.symm.trans ht)
  have hd' : DataW.trod (fun _ => ()) Tryd.prog W 0 (fun _ => true) false fuel 118 cs.toList = some (Lib.tabData .u64 Lib.pow10Tab, p) := hd
  unfold Tab Lib.TabIs
  rw [hvar, ← Lib.cells_of_tab Tryd.underlying118 Tryd.underlying87 (by kernel_rfl) (by kernel_rfl) hd']
set_option maxRecDepth 100000 in
theorem lifted (os : Os) (started : os.Started) (H : Type) (enc : TypeId × Value → H) :
  ReturnsInHanded {} Tryd.checked os 4 .any (fun w args => (Rows.fnExactPuzzleTextSpec.pre enc Tryd.prog Tryd.f4 Rows.fnExactPuzzleTextRow.domain false w args ∧ laidMetH Tryd.prog Rows.fnExactPuzzleTextRow.laid w) ∧ sizedMet enc Tryd.prog Tryd.f4 (OpenSpec.ofChange Rows.fnExactPuzzleTextSpec) false w args) (Rows.fnExactPuzzleTextSpec.post enc Tryd.prog Tryd.f4 false true false false) := by
 refine returnsInHanded_of_change_and (C := Tryd.checked) (X := fun w _ => laidMetH Tryd.prog Rows.fnExactPuzzleTextRow.laid w) (fun _ _ _ hh h => h.of_heap hh) own started (by kernel_rfl) Tryd.func4
  (ChangeSpec.witness_shaped (enc := enc) (C := Tryd.checked) (os := os) (X := fun w _ => laidMetH Tryd.prog Rows.fnExactPuzzleTextRow.laid w) false (World.doorLaid Tryd.prog 400 os) #[.agg #[.int .i64 0, .slice none 0 0]] 8 rfl (World.shaped_of_RefB (by kernel_rfl) (by kernel_rfl)) (by kernel_rfl) (by kernel_rfl) (by kernel_rfl) (door_met os _)) ?_
 intro W base args ds gs before hval0 hW hcnd hsz0 hL _
 have HT : Aside0 (Tab W) := ⟨tab_of hL⟩
 have hsz : (DataW.weightsEach Tryd.prog (Tryd.f4.params.toList ++ Rows.fnExactPuzzleTextSpec.plain.varTypes Tryd.prog) (ds ++ gs)).all (· ≤ reachBytes) = true := hsz0
 have hval : ∀ (j : Nat) t v, Tryd.f4.params[j]? = some t → args[j]? = some v → Value.okWide Tryd.prog W .any base t v := hval0
 have hW' := hW
 obtain ⟨p, q, hA0, hV, rfl, hfz, hnd⟩ := hW
 have hA : DataW.TrodAll enc Tryd.prog W 0 (fun _ => true) true Tryd.f4.params.toList args.toList ds p := hA0
 rw [Tryd.params4] at hA hval hsz
 obtain ⟨v0, vs0, d0, ds0, p0, q0, hargs, rfl, rfl, h0, r0⟩ := trodAll_cons hA
 obtain ⟨rfl, rfl, rfl⟩ := trodAll_nil r0
 obtain rfl : args = #[v0] := by cases args; simp_all
 obtain ⟨rfl, rfl⟩ := trodVars_none hV
 have g0 := h0
 have lt0 : ∀ x ∈ p0, x.block < W.heap.size := by obtain ⟨m, hm⟩ := g0; exact DataW.trod_lt m _ _ _ hm
 have RD3 : Rdb enc Tryd.prog W 0 (fun _ => true) true (Kd.int .i64) (okInt .i64) 3 := rdb_int Tryd.underlying3
 have RD67 : Rdb enc Tryd.prog W 0 (fun _ => true) true kd_laws_Clue (fun y : S_laws_Clue => (okInt .i64) y.f0 ∧ (okInt .i64) y.f1 ∧ (okInt .i64) y.f2 ∧ (okInt .i64) y.f3) 67 := rdb_iso (α := Int × Int × Int × Int) (ok := fun p => (okInt .i64) p.1 ∧ (okInt .i64) p.2.1 ∧ (okInt .i64) p.2.2.1 ∧ (okInt .i64) p.2.2.2) (fun p => ⟨p.1, p.2.1, p.2.2.1, p.2.2.2⟩) (fun _ => rfl) (fun _ h => h) (rdb_struct Tryd.underlying67 (by kernel_rfl) (by kernel_rfl) (rdbL_cons RD3 (rdbL_cons RD3 (rdbL_cons RD3 (rdbL_one RD3)))))
 have RD30 : Rdb enc Tryd.prog W 0 (fun _ => true) true (Kd.slice 67 kd_laws_Clue) (OkL (fun y : S_laws_Clue => (okInt .i64) y.f0 ∧ (okInt .i64) y.f1 ∧ (okInt .i64) y.f2 ∧ (okInt .i64) y.f3)) 30 := rdb_slice Tryd.underlying30 (by kernel_rfl) RD67
 have RD32 : Rdb enc Tryd.prog W 0 (fun _ => true) true kd_laws_Puzzle (fun y : S_laws_Puzzle => (okInt .i64) y.f0 ∧ (OkL (fun y : S_laws_Clue => (okInt .i64) y.f0 ∧ (okInt .i64) y.f1 ∧ (okInt .i64) y.f2 ∧ (okInt .i64) y.f3)) y.f1) 32 := rdb_iso (α := Int × (List (S_laws_Clue))) (ok := fun p => (okInt .i64) p.1 ∧ (OkL (fun y : S_laws_Clue => (okInt .i64) y.f0 ∧ (okInt .i64) y.f1 ∧ (okInt .i64) y.f2 ∧ (okInt .i64) y.f3)) p.2) (fun p => ⟨p.1, p.2⟩) (fun _ => rfl) (fun _ h => h) (rdb_struct Tryd.underlying32 (by kernel_rfl) (by kernel_rfl) (rdbL_cons RD3 (rdbL_one RD30)))
 obtain ⟨cs0, rfl, hsz0⟩ := okWide_struct Tryd.underlying32 (hval 0 32 v0 rfl rfl)
 obtain ⟨x0, hK0, hO0⟩ := rdb_trod RD32 h0
 simp only [Value.cells] at hK0
 obtain ⟨_, _, hcs0, rfl, ⟨A0_1, c0_1, rfl, hc0_1, hr0_1⟩⟩ := hK0
 obtain rfl : cs0 = #[.int .i64 x0.f0, .slice A0_1 x0.f1.length c0_1] := by cases cs0; simp_all
 obtain ⟨k, h⟩ := Pure.FnExactPuzzleText x0.f0 x0.f1 hO0.1 hO0.2
 clear hA0 hval0 hsz0 hsz
 refine (laws_FnExactPuzzleText.calls k x0.f0 _ _ x0.f1 true W hr0_1 hc0_1 h).mono fun e W' ⟨he, bel0⟩ => ?_
 have bel : Below W.heap.size W W' := bel0
 subst he
 exact ⟨_, rfl, _, _, _, [], _, [], hW', trodAll_mk1 (shut_bool Tryd.underlying4 _), (trodAll_cons_mk (Below.trod laidOut (by kernel_rfl) (of_decide_eq_true (by kernel_rfl)) g0 bel lt0) trodAll_mk0), rfl, bel.frame _, fun h => by cases h⟩
theorem over : Rows.fnExactPuzzleTextRow.holds Tryd.pinned (OpenSpec.ofChange Rows.fnExactPuzzleTextSpec) :=
 OpenClaim.holds_of_wide 4 Tryd.f4 rfl rfl rfl rfl rfl rfl rfl ⟨rfl, rfl, rfl, rfl, rfl⟩ rfl rfl rfl rfl rfl (by kernel_rfl) Tryd.func4 (by unfold joinedFacts; refine XO.band (XO.band (XO.band (XO.band (XO.band (XO.band (XO.band (XO.band (XO.band (XO.band (XO.band (XO.band (XO.band (XO.band (XO.band (XO.band (XO.band (XO.band (XO.band (XO.band (XO.band (XO.band (XO.band (XO.band (XO.band (XO.band (XO.band (XO.band (XO.band (XO.band (XO.band ?_ ?_) ?_) ?_) ?_) ?_) ?_) ?_) ?_) ?_) ?_) ?_) ?_) ?_) ?_) ?_) ?_) ?_) ?_) ?_) ?_) ?_) ?_) ?_) ?_) ?_) ?_) ?_) ?_) ?_) ?_) ?_; all_goals (first | with_reducible exact XO.enter_of | with_reducible exact XO.lifts_of (by kernel_rfl) | with_reducible exact XO.make_of (by kernel_rfl) | (as_aux_lemma => kernel_rfl)))
  (of_decide_eq_true (by kernel_rfl)) (by unfold Func.isWrapper; first | (rw [if_pos (by decide +kernel)]; kernel_rfl) | (rw [if_neg (by decide +kernel)]; exact ⟨rfl, rfl⟩))
  (fun os started H enc _ => lifted os started H enc)
theorem proved : Rows.FnExactPuzzleTextSaid := over
/-- The tied card. -/
theorem card : Rows.FnExactPuzzleTextCardSaid :=
 Claim7.holds_tied_plain_at .later [] [.data, .data, .data] true (true, "c80d3ba232a06bdc8747821c4daf5e4129bb63d6b867f98b8a7f9a30c3d5230c") true
  proved (fun _ h => by cases h) (by kernel_rfl) (fun _ h => by cases h) fnExactPuzzleText_row_tie rfl ⟨rfl, rfl⟩ (by kernel_rfl) rfl
  (fun f fn hf hfn => by
   obtain rfl : f = 4 := Option.some.inj ((show Tryd.prog.funcNamed Rows.fnExactPuzzleTextRow.func = some 4 by kernel_rfl).symm.trans hf) |>.symm
   obtain rfl : fn = Tryd.f4 := (Option.some.inj (Tryd.func4.symm.trans hfn)).symm
   exact ⟨by kernel_rfl, fun j t ht => by
    rw [Tryd.params4] at ht
    have h3 : t = 32 := by
     rcases j with _ | j
     · simpa using ht.symm
     · simp at ht
    subst h3
    exact (show Tryd.prog.wantsStandIn 32 = false by kernel_rfl)⟩)
  (by kernel_rfl)
#print axioms card
end Go.Proofs.YtoeclfihlhmnpaaDoor.fnExactPuzzleText
namespace Go.Proofs.YtoeclfihlhmnpaaDoor
/-- The row, under a short name, for the claim. -/
theorem fnExactPuzzleText_holds : Rows.FnExactPuzzleTextCardSaid := fnExactPuzzleText.card
end Go.Proofs.YtoeclfihlhmnpaaDoor
