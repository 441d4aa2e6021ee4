-- thin
/- The machine's side of the claim, printed by this repo's wip/xprint.py out of Lean's own print of the program: functions, and proofs that the calls do what they say. -/
import Derived.Test.YtoeclfihlhmnpaaDoorRows
import Derived.Test.YtoeclfihlhmnpaaDoorX12
import Derived.Test.YtoeclfihlhmnpaaDoorPureFnExactParsePuzzle
import Derived.Test.YtoeclfihlhmnpaaDoorXO
import Derived.Test.YtoeclfihlhmnpaaDoorCards
import Derived.Test.YtoeclfihlhmnpaaDoorTie
import Derived.Test.YtoeclfihlhmnpaaDoorXW5
import Derived.LaidMore
import Derived.LaidHandle
import Derived.MakeChecks
import Derived.Lib.LaidU8
import Derived.SevenTiedAt
import Derived.Stop.Joined
import Derived.Lay
import Derived.Shelf.Vars
import Derived.Deep.DeepHandedRow
import Derived.LaidLaws
import Derived.WalkKit
import Derived.ProofKit
import Derived.OpenShut
import Derived.ShutString
import Derived.ChangeOld
import Derived.Below
import Derived.SizedLaws
namespace Go.Proofs.YtoeclfihlhmnpaaDoor.fnExactParsePuzzle
open Go.ChangeShapes Go.WideShapes Go.ChangeAt Go.RowKit Go.Proofs.YtoeclfihlhmnpaaDoor.XW Go.Proofs.YtoeclfihlhmnpaaDoor.X Go.Proofs.YtoeclfihlhmnpaaDoorW.PrintWords
open Go.ChangeMaps (open_string shut_string)
set_option linter.unusedVariables false
theorem own : ownKnob Tryd.prog.godebug = none := by kernel_rfl
theorem plain_laid : (Rows.fnExactParsePuzzleRow.laid.all fun x => x.2.handleName?.isNone) = true := by kernel_rfl
theorem gPow : Tryd.prog.globalNamed "internal/strconv.uint64pow10" = some 5 := by kernel_rfl
theorem tPow : (Tryd.prog.globals[5]?).map (·.type) = some 118 := by kernel_rfl
theorem gSyn : Tryd.prog.globalNamed "strconv.ErrSyntax" = some 1 := by kernel_rfl
theorem tSyn : (Tryd.prog.globals[1]?).map (·.type) = some 41 := by kernel_rfl
theorem gRng : Tryd.prog.globalNamed "strconv.ErrRange" = some 2 := by kernel_rfl
theorem tRng : (Tryd.prog.globals[2]?).map (·.type) = some 41 := by kernel_rfl
/-- A start that holds what is listed. -/
theorem start_met (os : Os) (args : Array Value) : laidMetH Tryd.prog Rows.fnExactParsePuzzleRow.laid ((World.laidAll Tryd.prog os Rows.fnExactParsePuzzleRow.laid).forCall (fun _ _ => 0) ⟨#[], args, []⟩).memory := by
  rw [MakeChecks.laidMetH_plain _ _ _ plain_laid]
  exact laidMet_laidAll _ (by kernel_rfl) (by kernel_rfl)
theorem syn_of {W : World} (h : laidMet Tryd.prog Rows.fnExactParsePuzzleRow.laid W) : ∃ tp p, W.var? Tryd.prog "strconv.ErrSyntax" = some #[.iface tp p] := by
  obtain ⟨g, t, cs, fuel, p, hg, ht, hvar, hd⟩ := Lib.laidMet.reads h (n := "strconv.ErrSyntax") (d := Rows.laid_strconv_ErrSyntax) (by unfold Rows.fnExactParsePuzzleRow; exact List.Mem.tail _ (List.Mem.tail _ (List.Mem.tail _ (List.Mem.tail _ (List.Mem.tail _ (List.Mem.head _))))))
  obtain rfl := Option.some.inj (gSyn.symm.trans hg)
  obtain rfl := Option.some.inj (tSyn.symm.trans ht)
  have hd' : DataW.trod (fun _ => ()) Tryd.prog W 0 (fun _ => true) false fuel 41 cs.toList = some (Rows.laid_strconv_ErrSyntax, p) := hd
  unfold Rows.laid_strconv_ErrSyntax at hd'
  obtain ⟨f1, u, v, e, _⟩ := iface_of_trod Tryd.underlying41 hd'
  exact ⟨u, v, by rw [hvar]; congr 1; cases cs; simp only at e; rw [e]⟩
theorem rng_of {W : World} (h : laidMet Tryd.prog Rows.fnExactParsePuzzleRow.laid W) : ∃ tp p, W.var? Tryd.prog "strconv.ErrRange" = some #[.iface tp p] := by
  obtain ⟨g, t, cs, fuel, p, hg, ht, hvar, hd⟩ := Lib.laidMet.reads h (n := "strconv.ErrRange") (d := Rows.laid_strconv_ErrRange) (by unfold Rows.fnExactParsePuzzleRow; exact List.Mem.tail _ (List.Mem.tail _ (List.Mem.tail _ (List.Mem.tail _ (List.Mem.head _)))))
  obtain rfl := Option.some.inj (gRng.symm.trans hg)
  obtain rfl := Option.some.inj (tRng.symm.trans ht)
  have hd' : DataW.trod (fun _ => ()) Tryd.prog W 0 (fun _ => true) false fuel 41 cs.toList = some (Rows.laid_strconv_ErrRange, p) := hd
  unfold Rows.laid_strconv_ErrRange at hd'
  obtain ⟨f1, u, v, e, _⟩ := iface_of_trod Tryd.underlying41 hd'
  exact ⟨u, v, by rw [hvar]; congr 1; cases cs; simp only at e; rw [e]⟩
theorem pow_of {W : World} (h : laidMet Tryd.prog Rows.fnExactParsePuzzleRow.laid W) : Lib.TabIs Tryd.prog W "internal/strconv.uint64pow10" .u64 Lib.pow10Tab := by
  obtain ⟨g, t, cs, fuel, p, hg, ht, hvar, hd⟩ := Lib.laidMet.reads h (n := "internal/strconv.uint64pow10") (d := Rows.laid_internal_strconv_uint64pow10) (by unfold Rows.fnExactParsePuzzleRow; exact List.Mem.tail _ (List.Mem.tail _ (List.Mem.head _)))
  obtain rfl := Option.some.inj (gPow.symm.trans hg)
  obtain rfl := Option.some.inj (tPow.symm.trans ht)
  have hd' : DataW.trod (fun _ => ()) Tryd.prog W 0 (fun _ => true) false fuel 118 cs.toList = some (Lib.tabData .u64 Lib.pow10Tab, p) := hd
  unfold Lib.TabIs
  rw [hvar, ← Lib.cells_of_tab Tryd.underlying118 Tryd.underlying87 (by kernel_rfl) (by kernel_rfl) hd']
/-- What the condition and the world's shape give the walks. -/
theorem tab_of {W : World} (h : laidMetH Tryd.prog Rows.fnExactParsePuzzleRow.laid W) (hsh : W.ShapedOpen Tryd.prog) : Tab W := by
  rw [MakeChecks.laidMetH_plain _ _ _ plain_laid] at h
  exact ⟨pow_of h, cell_of_shapedOpen_int (g := 0) (t := 3) (zero := #[.int .i64 0]) hsh (of_decide_eq_true (by kernel_rfl)) (by kernel_rfl) rfl (by kernel_rfl) (by kernel_rfl) Tryd.underlying3, syn_of h, rng_of h⟩
set_option maxRecDepth 100000 in
theorem lifted (os : Os) (started : os.Started) (H : Type) (enc : TypeId × Value → H) :
  ReturnsInHanded {} Tryd.checked os 3 .any (fun w args => (Rows.fnExactParsePuzzleSpec.pre enc Tryd.prog Tryd.f3 Rows.fnExactParsePuzzleRow.domain false w args ∧ laidMetH Tryd.prog Rows.fnExactParsePuzzleRow.laid w) ∧ sizedMet enc Tryd.prog Tryd.f3 (OpenSpec.ofChange Rows.fnExactParsePuzzleSpec) false w args) (Rows.fnExactParsePuzzleSpec.post enc Tryd.prog Tryd.f3 false true false false) := by
 refine returnsInHanded_of_row (C := Tryd.checked) (s := OpenSpec.ofChange Rows.fnExactParsePuzzleSpec) (F := fun _ _ _ => 0) own started (by kernel_rfl) Tryd.func3
  (ChangeSpec.witness_shaped (enc := enc) (C := Tryd.checked) (os := os) (X := fun w _ => laidMetH Tryd.prog Rows.fnExactParsePuzzleRow.laid w) false (World.laidAll Tryd.prog os Rows.fnExactParsePuzzleRow.laid) #[.string ByteArray.empty] 8 (World.laidAll_os _ _ _) (World.shaped_of_ZipB (by kernel_rfl) (by kernel_rfl)) (by kernel_rfl) (by kernel_rfl) (by kernel_rfl) (start_met os _)) ?_
 intro W base args ds gs before hval0 hW hcnd _ hsz0 hL hsh _
 have HT : Aside0 (Tab W) := ⟨tab_of hL hsh⟩
 have hsz : (DataW.weightsEach Tryd.prog (Tryd.f3.params.toList ++ Rows.fnExactParsePuzzleSpec.plain.varTypes Tryd.prog) (ds ++ gs)).all (· ≤ reachBytes) = true := hsz0
 have hval : ∀ (j : Nat) t v, Tryd.f3.params[j]? = some t → args[j]? = some v → Value.okWide Tryd.prog W .any base t v := hval0
 have hW' := hW
 obtain ⟨p, q, hA0, hV, rfl, hfz, hnd⟩ := hW
 have hA : DataW.TrodAll enc Tryd.prog W 0 (fun _ => true) true Tryd.f3.params.toList args.toList ds p := hA0
 rw [Tryd.params3] at hA hval hsz
 obtain ⟨v0, vs0, d0, ds0, p0, q0, hargs, rfl, rfl, h0, r0⟩ := trodAll_cons hA
 obtain ⟨rfl, rfl, rfl⟩ := trodAll_nil r0
 obtain rfl : args = #[v0] := by cases args; simp_all
 obtain ⟨rfl, rfl⟩ := trodVars_none hV
 obtain ⟨a0, rfl, rfl, rfl, y0⟩ := open_string Tryd.underlying9 (hval 0 9 v0 rfl rfl) h0
 have w0 : a0.size ≤ 140737488351232 := by
  have z := sized_string hsz (j := 0) (t := 9) rfl rfl
  rw [Array.length_toList] at z
  exact z
 obtain ⟨k, h⟩ := Pure.FnExactParsePuzzle a0 w0
 clear hA0 hval0 hsz0 hsz
 refine (laws_FnExactParsePuzzle.calls k a0 true W h).mono fun e W' ⟨he, bel0⟩ => ?_
 have bel : Below W.heap.size W W' := bel0
 subst he
 exact ⟨_, rfl, _, _, _, [], _, [], hW', trodAll_mk1 (shut_bool Tryd.underlying4 _), (trodAll_cons_mk (shut_string Tryd.underlying9 y0) trodAll_mk0), rfl, bel.frame _, fun h => by cases h⟩
theorem over : Rows.fnExactParsePuzzleRow.holds Tryd.pinned (OpenSpec.ofChange Rows.fnExactParsePuzzleSpec) :=
 OpenClaim.holds_of_wide 3 Tryd.f3 rfl rfl rfl rfl rfl rfl rfl ⟨rfl, rfl, rfl, rfl, rfl⟩ rfl rfl rfl rfl rfl (by kernel_rfl) Tryd.func3 (by unfold joinedFacts; refine XO.band (XO.band (XO.band (XO.band (XO.band (XO.band (XO.band (XO.band (XO.band (XO.band (XO.band (XO.band (XO.band (XO.band (XO.band (XO.band (XO.band (XO.band (XO.band (XO.band (XO.band (XO.band (XO.band (XO.band (XO.band (XO.band (XO.band (XO.band (XO.band (XO.band (XO.band ?_ ?_) ?_) ?_) ?_) ?_) ?_) ?_) ?_) ?_) ?_) ?_) ?_) ?_) ?_) ?_) ?_) ?_) ?_) ?_) ?_) ?_) ?_) ?_) ?_) ?_) ?_) ?_) ?_) ?_) ?_) ?_; all_goals (first | with_reducible exact XO.enter_of | with_reducible exact XO.lifts_of (by kernel_rfl) | with_reducible exact XO.make_of (by kernel_rfl) | (as_aux_lemma => kernel_rfl)))
  (of_decide_eq_true (by kernel_rfl)) (by unfold Func.isWrapper; first | (rw [if_pos (by decide +kernel)]; kernel_rfl) | (rw [if_neg (by decide +kernel)]; exact ⟨rfl, rfl⟩))
  (fun os started H enc _ => lifted os started H enc)
theorem proved : Rows.FnExactParsePuzzleSaid := over
/-- The tied card. -/
theorem card : Rows.FnExactParsePuzzleCardSaid :=
 Claim7.holds_tied_plain_at .later [] [.data, .data, .data, .data, .sentinel, .sentinel, .pinned] true (true, "c80d3ba232a06bdc8747821c4daf5e4129bb63d6b867f98b8a7f9a30c3d5230c") true
  proved (fun _ h => by cases h) (by kernel_rfl) (fun _ h => by cases h) fnExactParsePuzzle_row_tie rfl ⟨rfl, rfl⟩ (by kernel_rfl) rfl
  (fun f fn hf hfn => by
   obtain rfl : f = 3 := Option.some.inj ((show Tryd.prog.funcNamed Rows.fnExactParsePuzzleRow.func = some 3 by kernel_rfl).symm.trans hf) |>.symm
   obtain rfl : fn = Tryd.f3 := (Option.some.inj (Tryd.func3.symm.trans hfn)).symm
   exact ⟨by kernel_rfl, fun j t ht => by
    rw [Tryd.params3] at ht
    have h3 : t = 9 := by
     rcases j with _ | j
     · simpa using ht.symm
     · simp at ht
    subst h3
    exact (show Tryd.prog.wantsStandIn 9 = false by kernel_rfl)⟩)
  (by kernel_rfl)
#print axioms card
end Go.Proofs.YtoeclfihlhmnpaaDoor.fnExactParsePuzzle
namespace Go.Proofs.YtoeclfihlhmnpaaDoor
/-- The row, under a short name, for the claim. -/
theorem fnExactParsePuzzle_holds : Rows.FnExactParsePuzzleCardSaid := fnExactParsePuzzle.card
end Go.Proofs.YtoeclfihlhmnpaaDoor
