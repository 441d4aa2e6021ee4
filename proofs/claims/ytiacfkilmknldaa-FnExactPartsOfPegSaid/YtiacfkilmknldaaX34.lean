-- thin
-- short
import Derived.Test.YtiacfkilmknldaaXA
import Derived.Test.YtiacfkilmknldaaX0
import Derived.Test.YtiacfkilmknldaaX2
import Derived.Test.YtiacfkilmknldaaX6
import Derived.Test.YtiacfkilmknldaaX7
import Derived.Test.YtiacfkilmknldaaX13
import Derived.Test.YtiacfkilmknldaaX23
import Derived.Test.YtiacfkilmknldaaX31
import Derived.Test.YtiacfkilmknldaaX32
import Derived.Test.YtiacfkilmknldaaX33
namespace Go.Proofs.Ytiacfkilmknldaa.X
open Go.RowKit Go.Proofs.Ytiacfkilmknldaa.XW Go.Proofs.YtiacfkilmknldaaW.PrintWords Go.Proofs.YtiacfkilmknldaaW.PrintLast Go.Proofs.YtiacfkilmknldaaW.PrintMore
attribute [local go_sem] max2_int min2_int max_two min_two max_three min_three max_four min_four   -- for this text's walks alone
set_option linter.unusedVariables false
set_option linter.unusedSimpArgs false

mutual
def laws_FnExactPartsOfPeg.j0 : Nat → List (S_laws_Peg) → List Int → Bool → List (S_impl_Peg) → List Int → Bool → Bool → Int → Int → Option (Bool)
 | 0, _, _, _, _, _, _, _, _, _ => none
 | k + 1, x0, x6, x7, x8, x9, x10, x46, x591000, x591001 => if x46 = true then (some false) else ((laws_toPegS.f k x0).bind fun t611 => ((laws_eqPegS.f k x8 t611).bind fun t614 => (if t614 = true then ((laws_markPegS.f k x8 1).bind fun bt615 => (if bt615.1 < 0 then (laws_FnExactPartsOfPeg.j1 k x0 x6 x7 x9 true x591000 x591001) else ((laws_eqIntS.f k x9 x6).bind fun t617 => (if t617 = true then (laws_FnExactPartsOfPeg.j1 k x0 x6 x7 x9 (x10 != x7) x591000 x591001) else (laws_FnExactPartsOfPeg.j1 k x0 x6 x7 x9 true x591000 x591001))))) else (some false))))
def laws_FnExactPartsOfPeg.j1 : Nat → List (S_laws_Peg) → List Int → Bool → List Int → Bool → Int → Int → Option (Bool)
 | 0, _, _, _, _, _, _, _ => none
 | k + 1, x0, x6, x7, x9, x67, x591000, x591001 => if x67 = true then (some false) else ((laws_markIntS.f k x9 1).bind fun bt618 => ((laws_heldIntS.f k bt618.2 1).bind fun t620 => (if t620 < 0 then (some false) else (if t620 = bt618.1 then ((laws_toPegS.f k x0).bind fun t621 => ((laws_toPeg.f x591000 x591001).bind fun bt624 => ((impl_PartsOfPeg.f k t621 bt624.1 bt624.2).bind fun bt626 => ((laws_eqIntS.f k bt626.1 x6).bind fun t630 => (if t630 = true then (laws_FnExactPartsOfPeg.j2 k bt618.2 bt618.1 (bt626.2 != x7)) else (laws_FnExactPartsOfPeg.j2 k bt618.2 bt618.1 true)))))) else (some false)))))
def laws_FnExactPartsOfPeg.j2 : Nat → List Int → Int → Bool → Option (Bool)
 | 0, _, _, _ => none
 | k + 1, x9, x12, x95 => if x95 = true then (some false) else ((laws_heldIntS.f k x9 1).bind fun t631 => (if t631 < 0 then (some false) else (if t631 = x12 then (some true) else (some false))))
end
def laws_FnExactPartsOfPeg.f (k : Nat) (l0 : List (S_laws_Peg)) (a1_0 : Int) (a1_1 : Int) : Option (Bool) := (laws_szPegS.f l0 1048576).bind fun t591 => (if t591 < 0 then (some true) else ((laws_toPegS.f k l0).bind fun t592 => ((laws_toPeg.f a1_0 a1_1).bind fun bt595 => ((spec_PartsOfPeg.f k t592 bt595.1 bt595.2).bind fun bt597 => ((laws_toPegS.f k l0).bind fun t601 => ((laws_toPeg.f a1_0 a1_1).bind fun bt604 => ((impl_PartsOfPeg.f k t601 bt604.1 bt604.2).bind fun bt606 => ((laws_eqIntS.f k bt606.1 bt597.1).bind fun t610 => (if t610 = true then (laws_FnExactPartsOfPeg.j0 k l0 bt597.1 bt597.2 t601 bt606.1 bt606.2 (bt606.2 != bt597.2) a1_0 a1_1) else (laws_FnExactPartsOfPeg.j0 k l0 bt597.1 bt597.2 t601 bt606.1 bt606.2 true a1_0 a1_1))))))))))
theorem laws_FnExactPartsOfPeg.mono_l : ∀ k, (∀ y0 y1 y2 y3 y4 y5 y6 y7 y8, LeO (laws_FnExactPartsOfPeg.j0 k y0 y1 y2 y3 y4 y5 y6 y7 y8) (laws_FnExactPartsOfPeg.j0 (k + 1) y0 y1 y2 y3 y4 y5 y6 y7 y8)) ∧ (∀ y0 y1 y2 y3 y4 y5 y6, LeO (laws_FnExactPartsOfPeg.j1 k y0 y1 y2 y3 y4 y5 y6) (laws_FnExactPartsOfPeg.j1 (k + 1) y0 y1 y2 y3 y4 y5 y6)) ∧ (∀ y0 y1 y2, LeO (laws_FnExactPartsOfPeg.j2 k y0 y1 y2) (laws_FnExactPartsOfPeg.j2 (k + 1) y0 y1 y2))
 | 0 => ⟨fun _ _ _ _ _ _ _ _ _ r h => by simp [laws_FnExactPartsOfPeg.j0] at h, fun _ _ _ _ _ _ _ r h => by simp [laws_FnExactPartsOfPeg.j1] at h, fun _ _ _ r h => by simp [laws_FnExactPartsOfPeg.j2] at h⟩
 | k + 1 => by
  obtain ⟨ih0, ih1, ih2⟩ := laws_FnExactPartsOfPeg.mono_l k
  refine ⟨?_, ?_, ?_⟩
  ·intro y0 y1 y2 y3 y4 y5 y6 y7 y8
   unfold laws_FnExactPartsOfPeg.j0
   repeat' first
   | (with_reducible exact ih0 _ _ _ _ _ _ _ _ _)
   | (with_reducible exact ih1 _ _ _ _ _ _ _)
   | (with_reducible exact ih2 _ _ _)
   | (with_reducible exact impl_PartsOfPeg.mono _ _ _ _)
   | (with_reducible exact laws_eqIntS.mono _ _ _)
   | (with_reducible exact laws_eqPegS.mono _ _ _)
   | (with_reducible exact laws_heldIntS.mono _ _ _)
   | (with_reducible exact laws_markIntS.mono _ _ _)
   | (with_reducible exact laws_markPegS.mono _ _ _)
   | (with_reducible exact laws_toPegS.mono _ _)
   | (with_reducible exact spec_PartsOfPeg.mono _ _ _ _)
   | (with_reducible exact LeO.refl _)
   | (with_reducible exact LeO.none _)
   | (with_reducible refine LeO.ite ?_ ?_)
   | (with_reducible refine LeO.bind ?_ (fun _ => ?_))
   | exact ih0 _ _ _ _ _ _ _ _ _
   | exact ih1 _ _ _ _ _ _ _
   | exact ih2 _ _ _
   | exact impl_PartsOfPeg.mono _ _ _ _
   | exact laws_eqIntS.mono _ _ _
   | exact laws_eqPegS.mono _ _ _
   | exact laws_heldIntS.mono _ _ _
   | exact laws_markIntS.mono _ _ _
   | exact laws_markPegS.mono _ _ _
   | exact laws_toPegS.mono _ _
   | exact spec_PartsOfPeg.mono _ _ _ _
   | exact LeO.none _
   | refine LeO.ite ?_ ?_
   | refine LeO.bind ?_ (fun _ => ?_)
  ·intro y0 y1 y2 y3 y4 y5 y6
   unfold laws_FnExactPartsOfPeg.j1
   repeat' first
   | (with_reducible exact ih0 _ _ _ _ _ _ _ _ _)
   | (with_reducible exact ih1 _ _ _ _ _ _ _)
   | (with_reducible exact ih2 _ _ _)
   | (with_reducible exact impl_PartsOfPeg.mono _ _ _ _)
   | (with_reducible exact laws_eqIntS.mono _ _ _)
   | (with_reducible exact laws_eqPegS.mono _ _ _)
   | (with_reducible exact laws_heldIntS.mono _ _ _)
   | (with_reducible exact laws_markIntS.mono _ _ _)
   | (with_reducible exact laws_markPegS.mono _ _ _)
   | (with_reducible exact laws_toPegS.mono _ _)
   | (with_reducible exact spec_PartsOfPeg.mono _ _ _ _)
   | (with_reducible exact LeO.refl _)
   | (with_reducible exact LeO.none _)
   | (with_reducible refine LeO.ite ?_ ?_)
   | (with_reducible refine LeO.bind ?_ (fun _ => ?_))
   | exact ih0 _ _ _ _ _ _ _ _ _
   | exact ih1 _ _ _ _ _ _ _
   | exact ih2 _ _ _
   | exact impl_PartsOfPeg.mono _ _ _ _
   | exact laws_eqIntS.mono _ _ _
   | exact laws_eqPegS.mono _ _ _
   | exact laws_heldIntS.mono _ _ _
   | exact laws_markIntS.mono _ _ _
   | exact laws_markPegS.mono _ _ _
   | exact laws_toPegS.mono _ _
   | exact spec_PartsOfPeg.mono _ _ _ _
   | exact LeO.none _
   | refine LeO.ite ?_ ?_
   | refine LeO.bind ?_ (fun _ => ?_)
  ·intro y0 y1 y2
   unfold laws_FnExactPartsOfPeg.j2
   repeat' first
   | (with_reducible exact ih0 _ _ _ _ _ _ _ _ _)
   | (with_reducible exact ih1 _ _ _ _ _ _ _)
   | (with_reducible exact ih2 _ _ _)
   | (with_reducible exact impl_PartsOfPeg.mono _ _ _ _)
   | (with_reducible exact laws_eqIntS.mono _ _ _)
   | (with_reducible exact laws_eqPegS.mono _ _ _)
   | (with_reducible exact laws_heldIntS.mono _ _ _)
   | (with_reducible exact laws_markIntS.mono _ _ _)
   | (with_reducible exact laws_markPegS.mono _ _ _)
   | (with_reducible exact laws_toPegS.mono _ _)
   | (with_reducible exact spec_PartsOfPeg.mono _ _ _ _)
   | (with_reducible exact LeO.refl _)
   | (with_reducible exact LeO.none _)
   | (with_reducible refine LeO.ite ?_ ?_)
   | (with_reducible refine LeO.bind ?_ (fun _ => ?_))
   | exact ih0 _ _ _ _ _ _ _ _ _
   | exact ih1 _ _ _ _ _ _ _
   | exact ih2 _ _ _
   | exact impl_PartsOfPeg.mono _ _ _ _
   | exact laws_eqIntS.mono _ _ _
   | exact laws_eqPegS.mono _ _ _
   | exact laws_heldIntS.mono _ _ _
   | exact laws_markIntS.mono _ _ _
   | exact laws_markPegS.mono _ _ _
   | exact laws_toPegS.mono _ _
   | exact spec_PartsOfPeg.mono _ _ _ _
   | exact LeO.none _
   | refine LeO.ite ?_ ?_
   | refine LeO.bind ?_ (fun _ => ?_)
theorem laws_FnExactPartsOfPeg.mono : ∀ a0 a1 a2 k, LeO (laws_FnExactPartsOfPeg.f k a0 a1 a2) (laws_FnExactPartsOfPeg.f (k + 1) a0 a1 a2) := by
 intro a0 a1 a2 k
 obtain ⟨ih0, ih1, ih2⟩ := laws_FnExactPartsOfPeg.mono_l k
 unfold laws_FnExactPartsOfPeg.f
 repeat' first
   | (with_reducible exact ih0 _ _ _ _ _ _ _ _ _)
   | (with_reducible exact ih1 _ _ _ _ _ _ _)
   | (with_reducible exact ih2 _ _ _)
   | (with_reducible exact impl_PartsOfPeg.mono _ _ _ _)
   | (with_reducible exact laws_eqIntS.mono _ _ _)
   | (with_reducible exact laws_eqPegS.mono _ _ _)
   | (with_reducible exact laws_heldIntS.mono _ _ _)
   | (with_reducible exact laws_markIntS.mono _ _ _)
   | (with_reducible exact laws_markPegS.mono _ _ _)
   | (with_reducible exact laws_toPegS.mono _ _)
   | (with_reducible exact spec_PartsOfPeg.mono _ _ _ _)
   | (with_reducible exact LeO.refl _)
   | (with_reducible exact LeO.none _)
   | (with_reducible refine LeO.ite ?_ ?_)
   | (with_reducible refine LeO.bind ?_ (fun _ => ?_))
   | exact ih0 _ _ _ _ _ _ _ _ _
   | exact ih1 _ _ _ _ _ _ _
   | exact ih2 _ _ _
   | exact impl_PartsOfPeg.mono _ _ _ _
   | exact laws_eqIntS.mono _ _ _
   | exact laws_eqPegS.mono _ _ _
   | exact laws_heldIntS.mono _ _ _
   | exact laws_markIntS.mono _ _ _
   | exact laws_markPegS.mono _ _ _
   | exact laws_toPegS.mono _ _
   | exact spec_PartsOfPeg.mono _ _ _ _
   | exact LeO.none _
   | refine LeO.ite ?_ ?_
   | refine LeO.bind ?_ (fun _ => ?_)
def laws_FnExactPartsOfPeg.T5 : Bool × List (List Nat × List Nat) := (true, [([], []), ([0], [0]), ([], []), ([2, 1], [2]), ([1, 3, 3], [1, 3]), ([4], [4]), ([5], [5]), ([5], [5]), ([6, 4, 0, 1, 2, 3, 4, 5, 6], [6]), ([7, 8, 0, 1, 2, 3, 4, 5, 6, 7, 8], [7])])
def laws_FnExactPartsOfPeg.B5 : List Nat := [0, 1, 0, 7, 15, 31, 63, 63, 127, 511]
theorem laws_FnExactPartsOfPeg.tab5 : rtab .any (opsOf Try.f10 5) = laws_FnExactPartsOfPeg.T5 := by kernel_rfl
theorem laws_FnExactPartsOfPeg.bits5 : waitsOk laws_FnExactPartsOfPeg.T5.2 laws_FnExactPartsOfPeg.B5 = true := by kernel_rfl
def laws_FnExactPartsOfPeg.T24 : Bool × List (List Nat × List Nat) := (true, [([], []), ([0], [0]), ([], []), ([2, 1], [2]), ([1, 3, 3], [1, 3]), ([4], [4]), ([5], [5]), ([5], [5]), ([6, 4, 0, 1, 2, 3, 4, 5, 6], [6]), ([7, 8, 0, 1, 2, 3, 4, 5, 6, 7, 8], [7])])
def laws_FnExactPartsOfPeg.B24 : List Nat := [0, 1, 0, 7, 15, 31, 63, 63, 127, 511]
theorem laws_FnExactPartsOfPeg.tab24 : rtab .any (opsOf Try.f10 24) = laws_FnExactPartsOfPeg.T24 := by kernel_rfl
theorem laws_FnExactPartsOfPeg.bits24 : waitsOk laws_FnExactPartsOfPeg.T24.2 laws_FnExactPartsOfPeg.B24 = true := by kernel_rfl
set_option maxHeartbeats 8000000 in
set_option maxRecDepth 100000 in
theorem laws_FnExactPartsOfPeg.calls (k : Nat) (A0 : Option Addr) (c0 : Nat) (l0 : List (S_laws_Peg)) (a1_0 : Int) (a1_1 : Int) (r : Bool) (w : World) (hr0 : Kd.C kd_laws_Peg w A0 l0.length l0) (hc0 : l0.length ≤ c0) (h : laws_FnExactPartsOfPeg.f k l0 a1_0 a1_1 = some r) :
  Calls Try.prog 10 #[.slice A0 l0.length c0, .agg #[.int .i64 a1_0, .int .i64 a1_1]] w fun e w' => e = .returned (.bool r) ∧ Below w.heap.size w w' := by
 have hu31 := Try.underlying31
 have HR0 := aM hr0
 have HC0 := aM hc0
 clear hr0 hc0
 have HB := aM (Below.refl w.heap.size w)
 have H : ((laws_szPegS.f l0 1048576).bind fun t591 => (if t591 < 0 then (some true) else ((laws_toPegS.f k l0).bind fun t592 => ((laws_toPeg.f a1_0 a1_1).bind fun bt595 => ((spec_PartsOfPeg.f k t592 bt595.1 bt595.2).bind fun bt597 => ((laws_toPegS.f k l0).bind fun t601 => ((laws_toPeg.f a1_0 a1_1).bind fun bt604 => ((impl_PartsOfPeg.f k t601 bt604.1 bt604.2).bind fun bt606 => ((laws_eqIntS.f k bt606.1 bt597.1).bind fun t610 => (if t610 = true then (laws_FnExactPartsOfPeg.j0 k l0 bt597.1 bt597.2 t601 bt606.1 bt606.2 (bt606.2 != bt597.2) a1_0 a1_1) else (laws_FnExactPartsOfPeg.j0 k l0 bt597.1 bt597.2 t601 bt606.1 bt606.2 true a1_0 a1_1))))))))))) = some r := h
 clear h
 replace H := oB.mp H
 obtain ⟨t591, A30, H⟩ := H
 replace H : (if t591 < 0 then (some true) else ((laws_toPegS.f k l0).bind fun t592 => ((laws_toPeg.f a1_0 a1_1).bind fun bt595 => ((spec_PartsOfPeg.f k t592 bt595.1 bt595.2).bind fun bt597 => ((laws_toPegS.f k l0).bind fun t601 => ((laws_toPeg.f a1_0 a1_1).bind fun bt604 => ((impl_PartsOfPeg.f k t601 bt604.1 bt604.2).bind fun bt606 => ((laws_eqIntS.f k bt606.1 bt597.1).bind fun t610 => (if t610 = true then (laws_FnExactPartsOfPeg.j0 k l0 bt597.1 bt597.2 t601 bt606.1 bt606.2 (bt606.2 != bt597.2) a1_0 a1_1) else (laws_FnExactPartsOfPeg.j0 k l0 bt597.1 bt597.2 t601 bt606.1 bt606.2 true a1_0 a1_1)))))))))) = some r := H
 have A3 := aM A30
 clear A30
 by_cases c4 : t591 < 0
 ·rw [if_pos c4] at H
  have c4b0 : decide (t591 < 0) = true := dE c4
  clear c4
  obtain rfl := Option.some.inj H
  go_enter Try.func10, Try.ntmps10
  go_wp2_with (first | ((with_reducible refine gate_dst (N := 3) rfl ?_); refine box_event ?hg (N := 3) ?hd (cs := #[.int .i64 a1_0, .int .i64 a1_1]) (t := 31) ?hr ?_; (case hd => rfl); (case hg => rfl); (case hr => first | (go_simp; done) | (go_simp; rfl)); intro gb590 hg w5 hbox hb; have n0_ := aM (pT (by repeat (first | (with_reducible first | exact HB.out | apply pA | apply pN | apply pD) | exact HB.out)) hb); have n1_ := aM (hbox); have n2_ := aM ((by rw [hg]; exact (pZ (by repeat (first | (with_reducible first | exact HB.out | apply pA | apply pN | apply pD) | exact HB.out))) : w.heap.size ≤ gb590)); have n3_ := aM ((by rw [hg]; exact (pZ (by repeat (first | (with_reducible first | exact HB.out | apply pA | apply pN | apply pD) | exact HB.out))) : w.heap.size ≤ gb590)); clear HB; have HB := n0_; have BK590 := n1_; have GW590 := n2_; have GE590 := n3_; clear n0_ n1_ n2_ n3_; clear hb hbox hg) | ((with_reducible refine gC (f := 25) rfl ?_); refine goesL_ (some 18) rfl rfl Try.func25 (by kernel_rfl) rfl #[.slice A0 l0.length c0, .int .i64 1048576] rfl (by (try simp only [mA, mC, mN]); first | done | rfl | (simp only [lD, lT]; rfl)) ?_; (with_reducible refine (laws_szPegS.calls _ _ l0 1048576 t591 _ ?side1 ?side2 A3.out).mono ?_); (case side1 => repeat (first | exact (Kd.C_below HR0.out HB.out) | (with_reducible refine cA ?_ _) | (with_reducible refine cN ?_ _) | (with_reducible refine cD ?_))); (case side2 => exact HC0.out); rintro e w' ⟨rfl, ⟨nd, rfl⟩⟩; refine ⟨_, rfl, ?_⟩))
  go_ret
  exact ⟨by first | rfl | (simp [errW_none, errW_some] <;> rfl) | (simp [*, errW_none, errW_some] <;> rfl), by repeat (first | (with_reducible first | exact HB.out | apply pA | apply pN | apply pD | refine pS ?_ GE590.out) | exact HB.out)⟩
 ·rw [if_neg c4] at H
  have c4b0 : decide (t591 < 0) = false := decide_eq_false c4
  clear c4
  replace H := oB.mp H
  obtain ⟨t592, A60, H⟩ := H
  replace H : ((laws_toPeg.f a1_0 a1_1).bind fun bt595 => ((spec_PartsOfPeg.f k t592 bt595.1 bt595.2).bind fun bt597 => ((laws_toPegS.f k l0).bind fun t601 => ((laws_toPeg.f a1_0 a1_1).bind fun bt604 => ((impl_PartsOfPeg.f k t601 bt604.1 bt604.2).bind fun bt606 => ((laws_eqIntS.f k bt606.1 bt597.1).bind fun t610 => (if t610 = true then (laws_FnExactPartsOfPeg.j0 k l0 bt597.1 bt597.2 t601 bt606.1 bt606.2 (bt606.2 != bt597.2) a1_0 a1_1) else (laws_FnExactPartsOfPeg.j0 k l0 bt597.1 bt597.2 t601 bt606.1 bt606.2 true a1_0 a1_1)))))))) = some r := H
  have A6 := aM A60
  clear A60
  replace H := oB.mp H
  obtain ⟨⟨t595, t596⟩, A70, H⟩ := H
  replace H : ((spec_PartsOfPeg.f k t592 t595 t596).bind fun bt597 => ((laws_toPegS.f k l0).bind fun t601 => ((laws_toPeg.f a1_0 a1_1).bind fun bt604 => ((impl_PartsOfPeg.f k t601 bt604.1 bt604.2).bind fun bt606 => ((laws_eqIntS.f k bt606.1 bt597.1).bind fun t610 => (if t610 = true then (laws_FnExactPartsOfPeg.j0 k l0 bt597.1 bt597.2 t601 bt606.1 bt606.2 (bt606.2 != bt597.2) a1_0 a1_1) else (laws_FnExactPartsOfPeg.j0 k l0 bt597.1 bt597.2 t601 bt606.1 bt606.2 true a1_0 a1_1))))))) = some r := H
  have A7 := aM A70
  clear A70
  replace H := oB.mp H
  obtain ⟨⟨t597, t600⟩, A80, H⟩ := H
  replace H : ((laws_toPegS.f k l0).bind fun t601 => ((laws_toPeg.f a1_0 a1_1).bind fun bt604 => ((impl_PartsOfPeg.f k t601 bt604.1 bt604.2).bind fun bt606 => ((laws_eqIntS.f k bt606.1 t597).bind fun t610 => (if t610 = true then (laws_FnExactPartsOfPeg.j0 k l0 t597 t600 t601 bt606.1 bt606.2 (bt606.2 != t600) a1_0 a1_1) else (laws_FnExactPartsOfPeg.j0 k l0 t597 t600 t601 bt606.1 bt606.2 true a1_0 a1_1)))))) = some r := H
  have A8 := aM A80
  clear A80
  replace H := oB.mp H
  obtain ⟨t601, A90, H⟩ := H
  replace H : ((laws_toPeg.f a1_0 a1_1).bind fun bt604 => ((impl_PartsOfPeg.f k t601 bt604.1 bt604.2).bind fun bt606 => ((laws_eqIntS.f k bt606.1 t597).bind fun t610 => (if t610 = true then (laws_FnExactPartsOfPeg.j0 k l0 t597 t600 t601 bt606.1 bt606.2 (bt606.2 != t600) a1_0 a1_1) else (laws_FnExactPartsOfPeg.j0 k l0 t597 t600 t601 bt606.1 bt606.2 true a1_0 a1_1))))) = some r := H
  have A9 := aM A90
  clear A90
  replace H := oB.mp H
  obtain ⟨⟨t604, t605⟩, A100, H⟩ := H
  replace H : ((impl_PartsOfPeg.f k t601 t604 t605).bind fun bt606 => ((laws_eqIntS.f k bt606.1 t597).bind fun t610 => (if t610 = true then (laws_FnExactPartsOfPeg.j0 k l0 t597 t600 t601 bt606.1 bt606.2 (bt606.2 != t600) a1_0 a1_1) else (laws_FnExactPartsOfPeg.j0 k l0 t597 t600 t601 bt606.1 bt606.2 true a1_0 a1_1)))) = some r := H
  have A10 := aM A100
  clear A100
  replace H := oB.mp H
  obtain ⟨⟨t606, t609⟩, A110, H⟩ := H
  replace H : ((laws_eqIntS.f k t606 t597).bind fun t610 => (if t610 = true then (laws_FnExactPartsOfPeg.j0 k l0 t597 t600 t601 t606 t609 (t609 != t600) a1_0 a1_1) else (laws_FnExactPartsOfPeg.j0 k l0 t597 t600 t601 t606 t609 true a1_0 a1_1))) = some r := H
  have A11 := aM A110
  clear A110
  have HC12 := aM H
  clear H
  go_enter Try.func10, Try.ntmps10
  try go_wp2_with (first | ((with_reducible refine gate_dst (N := 3) rfl ?_); refine box_event ?hg (N := 3) ?hd (cs := #[.int .i64 a1_0, .int .i64 a1_1]) (t := 31) ?hr ?_; (case hd => rfl); (case hg => rfl); (case hr => first | (go_simp; done) | (go_simp; rfl)); intro gb590 hg w13 hbox hb; have n0_ := aM (pT (by repeat (first | (with_reducible first | exact HB.out | apply pA | apply pN | apply pD) | exact HB.out)) hb); have n1_ := aM (hbox); have n2_ := aM ((by rw [hg]; exact (pZ (by repeat (first | (with_reducible first | exact HB.out | apply pA | apply pN | apply pD) | exact HB.out))) : w.heap.size ≤ gb590)); have n3_ := aM ((by rw [hg]; exact (pZ (by repeat (first | (with_reducible first | exact HB.out | apply pA | apply pN | apply pD) | exact HB.out))) : w.heap.size ≤ gb590)); clear HB; have HB := n0_; have BK590 := n1_; have GW590 := n2_; have GE590 := n3_; clear n0_ n1_ n2_ n3_; clear hb hbox hg) | ((with_reducible refine gC (f := 25) rfl ?_); refine goesL_ (some 18) rfl rfl Try.func25 (by kernel_rfl) rfl #[.slice A0 l0.length c0, .int .i64 1048576] rfl (by (try simp only [mA, mC, mN]); first | done | rfl | (simp only [lD, lT]; rfl)) ?_; (with_reducible refine (laws_szPegS.calls _ _ l0 1048576 t591 _ ?side1 ?side2 A3.out).mono ?_); (case side1 => repeat (first | exact (Kd.C_below HR0.out HB.out) | (with_reducible refine cA ?_ _) | (with_reducible refine cN ?_ _) | (with_reducible refine cD ?_))); (case side2 => exact HC0.out); rintro e w' ⟨rfl, ⟨nd, rfl⟩⟩; refine ⟨_, rfl, ?_⟩))
  (try (rw [drewN_self w13]; generalize hq_ : World.drewN w13 _ = w13; have n0_ : Aside0 (w13.heap[gb590]? = some (.cells #[.int .i64 a1_0, .int .i64 a1_1] 31 (0, 0))) := ⟨by rw [← hq_]; exact (by (with_reducible repeat (first | refine kN ?_ _ | refine kD ?_ | refine kA ?_ _)); exact BK590.out)⟩; have n1_ : Aside0 (Below w.heap.size w w13) := ⟨by rw [← hq_]; exact (by repeat (first | (with_reducible first | exact HB.out | apply pA | apply pN | apply pD | refine pS ?_ GE590.out) | exact HB.out))⟩; clear BK590 HB hq_; have BK590 := n0_; have HB := n1_; clear n0_ n1_))
  have n0_ := aM (kD BK590.out)
  have n1_ := aM (pD HB.out)
  clear BK590
  clear HB
  have BK590 := n0_
  have HB := n1_
  clear n0_ n1_
  refine start_ (n := 10) (S := fun w' => w'.cell? ⟨gb590, 0, none⟩ = some (.int .i64 a1_0) ∧ w'.cell? ⟨gb590, 1, none⟩ = some (.int .i64 a1_1)) (ds := []) #[false, false, false, false, false, false, false, false, false, false] (by kernel_rfl) rfl rfl ⟨(kC BK590.out 0).trans rfl, (kC BK590.out 1).trans rfl⟩ (fun hHeld => ?_); refine with_tabW laws_FnExactPartsOfPeg.tab5 laws_FnExactPartsOfPeg.bits5 (fun HT_ HW_ => ?_)
  generalize w13.drew = w14 at BK590 HB hHeld ⊢
  refine pure_ (i := 0) (N := some 22) (v := ?_) (a' := ?_) #[true, false, false, false, false, false, false, false, false, false] rfl rfl (any_of HT_.out (by kernel_rfl)) (fun _ _ _ h => h) (Or.inl ⟨by rfl, ?_⟩) ?_ ?_
  rotate_left
  ·intro w'
   go_simp
   with_reducible rfl
  rotate_left
  ·simp only [Act.put, sI, sZ, sS, i64_w, i32_w]
   rfl
  refine take_ (i := 2) (N := some 24) (v := ?_) (a' := ?_) #[true, false, true, false, false, false, false, false, false, false] rfl rfl (take_ofW HT_.out HW_.out (by kernel_rfl)) (fun _ _ _ h => h) (Or.inl ⟨by rfl, ?_⟩) hHeld ?_ ?_
  rotate_left
  ·rintro w' ⟨s0, s1⟩
   go_simp
   with_reducible rfl
  rotate_left
  ·simp only [Act.put, sI, sZ, sS, i64_w, i32_w]
   rfl
  refine one_ (i := 1) (N := some 23) #[true, true, true, false, false, false, false, false, false, false] rfl rfl (one_of HT_.out (by kernel_rfl)) (by decide) (fun K hK => ?_)
  refine goes_ Try.func27 (by kernel_rfl) rfl #[.slice A0 l0.length c0] (by rfl) rfl rfl (by (try simp only [mA, mC, mN]); first | done | rfl | (simp only [lD, lT]; rfl)) ?_
  with_reducible refine (laws_toPegS.calls k _ _ l0 t592 _ ?side1 ?side2 A6.out).mono ?_
  (case side1 => repeat (first | exact (Kd.C_below HR0.out HB.out) | (with_reducible refine cA ?_ _) | (with_reducible refine cN ?_ _) | (with_reducible refine cD ?_)))
  (case side2 => exact HC0.out)
  rintro e w15 ⟨v593, rfl, ho0, hb⟩
  refine ⟨_, rfl, ?_⟩
  have n0_ := aM (Kd.R_lower ho0 (pZ (by repeat (first | (with_reducible first | exact HB.out | apply pA | apply pN | apply pD | refine pS ?_ GE590.out) | exact HB.out))))
  have n1_ := aM (blk_below (g := gb590) (o := .cells #[.int .i64 a1_0, .int .i64 a1_1] 31 (0, 0)) (by (with_reducible repeat (first | refine kN ?_ _ | refine kD ?_ | refine kA ?_ _)); exact BK590.out) hb)
  have n2_ := aM (pT (by repeat (first | (with_reducible first | exact HB.out | apply pA | apply pN | apply pD | refine pS ?_ GE590.out) | exact HB.out)) hb)
  clear BK590
  clear HB
  have HO594 := n0_
  have BK590 := n1_
  have HB := n2_
  clear n0_ n1_ n2_
  (try clear hb)
  (try clear hb2)
  (try clear hk)
  (try clear hi)
  (try clear ho0)
  refine hK.out _ _ ⟨(kC BK590.out 0).trans rfl, (kC BK590.out 1).trans rfl⟩ (fun hHeld => ?_)
  clear hK K
  refine norm_ (a' := ?_) ?_ ?_
  rotate_left
  ·show Act.put _ (some 23) _ = _
   simp only [Act.put, sI, sZ, sS, i64_w, i32_w]
   rfl
  refine one_ (i := 3) (N := some 25) #[true, true, true, true, false, false, false, false, false, false] rfl rfl (one_of HT_.out (by kernel_rfl)) (by decide) (fun K hK => ?_)
  refine goes_ Try.func31 (by kernel_rfl) rfl #[.agg #[.int .i64 a1_0, .int .i64 a1_1]] (by rfl) rfl rfl (by (try simp only [mA, mC, mN]); first | done | rfl | (simp only [lD, lT]; rfl)) ?_
  with_reducible refine (laws_toPeg.calls a1_0 a1_1 t595 t596 _ A7.out).mono ?_
  rintro e w16 ⟨rfl, hb⟩
  refine ⟨_, rfl, ?_⟩
  have n0_ := aM (Kd.R_below (by (with_reducible repeat (first | apply rA | apply rN | apply rD)); exact HO594.out) hb)
  have n1_ := aM (blk_below (g := gb590) (o := .cells #[.int .i64 a1_0, .int .i64 a1_1] 31 (0, 0)) (by (with_reducible repeat (first | refine kN ?_ _ | refine kD ?_ | refine kA ?_ _)); exact BK590.out) hb)
  have n2_ := aM (pT (by repeat (first | (with_reducible first | exact HB.out | apply pA | apply pN | apply pD | refine pS ?_ GE590.out) | exact HB.out)) hb)
  clear HO594
  clear BK590
  clear HB
  have HO594 := n0_
  have BK590 := n1_
  have HB := n2_
  clear n0_ n1_ n2_
  (try clear hb)
  (try clear hb2)
  (try clear hk)
  (try clear hi)
  obtain ⟨Ao17, co17, eo17⟩ := Kd.R_slice HO594.out
  (first | subst eo17 | (injection eo17 with f1_ f2_ f3_; have f4_ := f1_.symm; have f5_ := f3_.symm; clear f1_ f2_ f3_; subst f4_; subst f5_))
  refine hK.out _ _ ⟨(kC BK590.out 0).trans rfl, (kC BK590.out 1).trans rfl⟩ (fun hHeld => ?_)
  clear hK K
  refine norm_ (a' := ?_) ?_ ?_
  rotate_left
  ·show Act.put _ (some 25) _ = _
   simp only [Act.put, sI, sZ, sS, i64_w, i32_w]
   rfl
  refine one_ (i := 4) (N := some 26) #[true, true, true, true, true, false, false, false, false, false] rfl rfl (one_of HT_.out (by kernel_rfl)) (by decide) (fun K hK => ?_)
  refine goes_ Try.func45 (by kernel_rfl) rfl #[.slice Ao17 t592.length co17, .agg #[.int .i64 t595, .int .i64 t596]] (by rfl) rfl rfl (by (try simp only [mA, mC, mN]); first | done | rfl | (simp only [lD, lT]; rfl)) ?_
  with_reducible refine (spec_PartsOfPeg.calls k _ _ t592 t595 t596 t597 t600 _ ?side1 ?side2 A8.out).mono ?_
  (case side1 => repeat (first | exact (rR HO594.out).2.2 | (with_reducible refine cA ?_ _) | (with_reducible refine cN ?_ _) | (with_reducible refine cD ?_)))
  (case side2 => exact (rR HO594.out).2.1)
  rintro e w18 ⟨v598, rfl, ho0, hb⟩
  refine ⟨_, rfl, ?_⟩
  have n0_ := aM (Kd.R_below (by (with_reducible repeat (first | apply rA | apply rN | apply rD)); exact HO594.out) hb)
  have n1_ := aM (Kd.R_lower ho0 (pZ (by repeat (first | (with_reducible first | exact HB.out | apply pA | apply pN | apply pD | refine pS ?_ GE590.out) | exact HB.out))))
  have n2_ := aM (blk_below (g := gb590) (o := .cells #[.int .i64 a1_0, .int .i64 a1_1] 31 (0, 0)) (by (with_reducible repeat (first | refine kN ?_ _ | refine kD ?_ | refine kA ?_ _)); exact BK590.out) hb)
  have n3_ := aM (pT (by repeat (first | (with_reducible first | exact HB.out | apply pA | apply pN | apply pD | refine pS ?_ GE590.out) | exact HB.out)) hb)
  clear HO594
  clear BK590
  clear HB
  have HO594 := n0_
  have HO599 := n1_
  have BK590 := n2_
  have HB := n3_
  clear n0_ n1_ n2_ n3_
  (try clear hb)
  (try clear hb2)
  (try clear hk)
  (try clear hi)
  (try clear ho0)
  refine hK.out _ _ ⟨(kC BK590.out 0).trans rfl, (kC BK590.out 1).trans rfl⟩ (fun hHeld => ?_)
  clear hK K
  refine norm_ (a' := ?_) ?_ ?_
  rotate_left
  ·show Act.put _ (some 26) _ = _
   simp only [Act.put, sI, sZ, sS, i64_w, i32_w]
   rfl
  refine pure_ (i := 5) (N := some 21) (v := ?_) (a' := ?_) #[true, true, true, true, true, true, false, false, false, false] rfl rfl (any_of HT_.out (by kernel_rfl)) (fun _ _ _ h => h) (Or.inl ⟨by rfl, ?_⟩) ?_ ?_
  rotate_left
  ·intro w'
   go_simp
   with_reducible rfl
  rotate_left
  ·simp only [Act.put, sI, sZ, sS, i64_w, i32_w]
   rfl
  refine pure_ (i := 6) (N := some 27) (v := ?_) (a' := ?_) #[true, true, true, true, true, true, true, false, false, false] rfl rfl (any_of HT_.out (by kernel_rfl)) (fun _ _ _ h => h) (Or.inl ⟨by rfl, ?_⟩) ?_ ?_
  rotate_left
  ·intro w'
   go_simp
   with_reducible rfl
  rotate_left
  ·simp only [Act.put, sI, sZ, sS, i64_w, i32_w]
   rfl
  refine pure_ (i := 7) (N := some 28) (v := ?_) (a' := ?_) #[true, true, true, true, true, true, true, true, false, false] rfl rfl (any_of HT_.out (by kernel_rfl)) (fun _ _ _ h => h) (Or.inl ⟨by rfl, ?_⟩) ?_ ?_
  rotate_left
  ·intro w'
   go_simp
   with_reducible rfl
  rotate_left
  ·simp only [Act.put, sI, sZ, sS, i64_w, i32_w]
   rfl
  refine pure_ (i := 8) (N := some 6) (v := ?_) (a' := ?_) #[true, true, true, true, true, true, true, true, true, false] rfl rfl (any_of HT_.out (by kernel_rfl)) (fun _ _ _ h => h) (Or.inl ⟨by rfl, ?_⟩) ?_ ?_
  rotate_left
  ·intro w'
   go_simp
   with_reducible rfl
  rotate_left
  ·simp only [Act.put, sI, sZ, sS, i64_w, i32_w]
   rfl
  refine pure_ (i := 9) (N := some 7) (v := ?_) (a' := ?_) #[true, true, true, true, true, true, true, true, true, true] rfl rfl (any_of HT_.out (by kernel_rfl)) (fun _ _ _ h => h) (Or.inl ⟨by rfl, ?_⟩) ?_ ?_
  rotate_left
  ·intro w'
   go_simp
   with_reducible rfl
  rotate_left
  ·simp only [Act.put, sI, sZ, sS, i64_w, i32_w]
   rfl
  refine done_ (done_of HT_.out (by kernel_rfl)) ?_
  go_upto_region 8 with (first | ((with_reducible refine gC (f := 27) rfl ?_); refine goesL_ (some 30) rfl rfl Try.func27 (by kernel_rfl) rfl #[.slice A0 l0.length c0] rfl (by (try simp only [mA, mC, mN]); first | done | rfl | (simp only [lD, lT]; rfl)) ?_; (with_reducible refine (laws_toPegS.calls k _ _ l0 t601 _ ?side1 ?side2 A9.out).mono ?_); (case side1 => repeat (first | exact (Kd.C_below HR0.out HB.out) | (with_reducible refine cA ?_ _) | (with_reducible refine cN ?_ _) | (with_reducible refine cD ?_))); (case side2 => exact HC0.out); rintro e w19 ⟨v602, rfl, ho0, hb⟩; refine ⟨_, rfl, ?_⟩; have n0_ := aM (Kd.R_elder' (by (with_reducible repeat (first | apply rA | apply rN | apply rD)); exact HO594.out) (Kd.R_base ho0) hb); have n1_ := aM (Kd.R_below (by (with_reducible repeat (first | apply rA | apply rN | apply rD)); exact HO599.out) hb); have n2_ := aM (Kd.R_lower (Kd.R_new' ho0 (Kd.R_lt (by (with_reducible repeat (first | apply rA | apply rN | apply rD)); exact HO594.out))) (pZ (by repeat (first | (with_reducible first | exact HB.out | apply pA | apply pN | apply pD | refine pS ?_ GE590.out) | exact HB.out)))); have n3_ := aM (blk_below (g := gb590) (o := .cells #[.int .i64 a1_0, .int .i64 a1_1] 31 (0, 0)) (by (with_reducible repeat (first | refine kN ?_ _ | refine kD ?_ | refine kA ?_ _)); exact BK590.out) hb); have n4_ := aM (pT (by repeat (first | (with_reducible first | exact HB.out | apply pA | apply pN | apply pD | refine pS ?_ GE590.out) | exact HB.out)) hb); clear HO594; clear HO599; clear BK590; clear HB; have HO594 := n0_; have HO599 := n1_; have HO603 := n2_; have BK590 := n3_; have HB := n4_; clear n0_ n1_ n2_ n3_ n4_; (try clear hb); (try clear hb2); (try clear hk); (try clear hi); (try clear ho0); have hcz20_0 : w19.cell? ⟨gb590, 0, none⟩ = some (.int .i64 a1_0) := (kC BK590.out 0).trans rfl; have hcz20_1 : w19.cell? ⟨gb590, 1, none⟩ = some (.int .i64 a1_1) := (kC BK590.out 1).trans rfl; have hfz20_0 := kF BK590.out 0; have hfz20_1 := kF BK590.out 1) | ((with_reducible refine gC (f := 31) rfl ?_); refine goesL_ (some 34) rfl rfl Try.func31 (by kernel_rfl) rfl #[.agg #[.int .i64 a1_0, .int .i64 a1_1]] rfl (by (try simp only [mA, mC, mN]); first | done | rfl | (simp only [lD, lT]; rfl)) ?_; (with_reducible refine (laws_toPeg.calls a1_0 a1_1 t604 t605 _ A10.out).mono ?_); rintro e w21 ⟨rfl, hb⟩; refine ⟨_, rfl, ?_⟩; have n0_ := aM (Kd.R_below (by (with_reducible repeat (first | apply rA | apply rN | apply rD)); exact HO594.out) hb); have n1_ := aM (Kd.R_below (by (with_reducible repeat (first | apply rA | apply rN | apply rD)); exact HO599.out) hb); have n2_ := aM (Kd.R_below (by (with_reducible repeat (first | apply rA | apply rN | apply rD)); exact HO603.out) hb); have n3_ := aM (blk_below (g := gb590) (o := .cells #[.int .i64 a1_0, .int .i64 a1_1] 31 (0, 0)) (by (with_reducible repeat (first | refine kN ?_ _ | refine kD ?_ | refine kA ?_ _)); exact BK590.out) hb); have n4_ := aM (pT (by repeat (first | (with_reducible first | exact HB.out | apply pA | apply pN | apply pD | refine pS ?_ GE590.out) | exact HB.out)) hb); clear HO594; clear HO599; clear HO603; clear BK590; clear HB; have HO594 := n0_; have HO599 := n1_; have HO603 := n2_; have BK590 := n3_; have HB := n4_; clear n0_ n1_ n2_ n3_ n4_; (try clear hb); (try clear hb2); (try clear hk); (try clear hi); obtain ⟨Ao22, co22, eo22⟩ := Kd.R_slice HO603.out; subst eo22) | ((with_reducible refine gC (f := 46) rfl ?_); refine goesL_ (some 35) rfl rfl Try.func46 (by kernel_rfl) rfl #[.slice Ao22 t601.length co22, .agg #[.int .i64 t604, .int .i64 t605]] rfl (by (try simp only [mA, mC, mN]); first | done | rfl | (simp only [lD, lT]; rfl)) ?_; (with_reducible refine (impl_PartsOfPeg.calls k _ _ t601 t604 t605 t606 t609 _ ?side1 ?side2 A11.out).mono ?_); (case side1 => repeat (first | exact (rR HO603.out).2.2 | (with_reducible refine cA ?_ _) | (with_reducible refine cN ?_ _) | (with_reducible refine cD ?_))); (case side2 => exact (rR HO603.out).2.1); rintro e w23 ⟨v607, rfl, ho0, hb⟩; refine ⟨_, rfl, ?_⟩; have n0_ := aM (Kd.R_below (by (with_reducible repeat (first | apply rA | apply rN | apply rD)); exact HO594.out) hb); have n1_ := aM (Kd.R_elder' (by (with_reducible repeat (first | apply rA | apply rN | apply rD)); exact HO599.out) (Kd.R_base ho0) hb); have n2_ := aM (Kd.R_below (by (with_reducible repeat (first | apply rA | apply rN | apply rD)); exact HO603.out) hb); have n3_ := aM (Kd.R_lower (Kd.R_new' ho0 (Kd.R_lt (by (with_reducible repeat (first | apply rA | apply rN | apply rD)); exact HO599.out))) (pZ (by repeat (first | (with_reducible first | exact HB.out | apply pA | apply pN | apply pD | refine pS ?_ GE590.out) | exact HB.out)))); have n4_ := aM (blk_below (g := gb590) (o := .cells #[.int .i64 a1_0, .int .i64 a1_1] 31 (0, 0)) (by (with_reducible repeat (first | refine kN ?_ _ | refine kD ?_ | refine kA ?_ _)); exact BK590.out) hb); have n5_ := aM (pT (by repeat (first | (with_reducible first | exact HB.out | apply pA | apply pN | apply pD | refine pS ?_ GE590.out) | exact HB.out)) hb); clear HO594; clear HO599; clear HO603; clear BK590; clear HB; have HO594 := n0_; have HO599 := n1_; have HO603 := n2_; have HO608 := n3_; have BK590 := n4_; have HB := n5_; clear n0_ n1_ n2_ n3_ n4_ n5_; (try clear hb); (try clear hb2); (try clear hk); (try clear hi); (try clear ho0)))
  (try simp only [Act.put, sI, sZ, sS])
  go_cut [46] (fun v46 wc => ∃ (kq : Nat) (x46_11 : Bool), v46 = .bool x46_11 ∧ Aside0 (laws_FnExactPartsOfPeg.j0 kq l0 t597 t600 t601 t606 t609 x46_11 a1_0 a1_1 = some r) ∧ Aside0 (kq ≤ k) ∧ Aside0 (Kd.R (Kd.int .i64) 3 wc w.heap.size (fun k_ => some k_ ≠ (v607 : Value).ownBlock) v598 t597) ∧ Aside0 (Kd.R kd_impl_Peg 34 wc w.heap.size (fun _ => True) (.slice Ao22 t601.length co22) t601) ∧ Aside0 (Kd.R (Kd.int .i64) 3 wc w.heap.size (fun k_ => some k_ ≠ (v598 : Value).ownBlock) v607 t606) ∧ Aside0 (wc.heap[gb590]? = some (.cells #[.int .i64 a1_0, .int .i64 a1_1] 31 (0, 0))) ∧ Aside0 (Below w.heap.size w wc))
  case first =>
   have H := HC12.out
   clear HC12
   replace H := oB.mp H
   obtain ⟨t610, A240, H⟩ := H
   replace H : (if t610 = true then (laws_FnExactPartsOfPeg.j0 k l0 t597 t600 t601 t606 t609 (t609 != t600) a1_0 a1_1) else (laws_FnExactPartsOfPeg.j0 k l0 t597 t600 t601 t606 t609 true a1_0 a1_1)) = some r := H
   have A24 := aM A240
   clear A240
   by_cases c25 : t610 = true
   ·subst c25
    have H1 : (laws_FnExactPartsOfPeg.j0 k l0 t597 t600 t601 t606 t609 (t609 != t600) a1_0 a1_1) = some r := by rw [if_pos rfl] at H; exact H
    clear H
    have H := H1
    clear H1
    have H' := aM H
    clear H
    obtain ⟨Ao26, co26, eo26⟩ := Kd.R_slice HO608.out
    subst eo26
    obtain ⟨Ao27, co27, eo27⟩ := Kd.R_slice HO599.out
    subst eo27
    go_wp2_with (first | ((with_reducible refine gC (f := 47) rfl ?_); refine goesL_ (some 40) rfl rfl Try.func47 (by kernel_rfl) rfl #[.slice Ao26 t606.length co26, .slice Ao27 t597.length co27] rfl (by (try simp only [mA, mC, mN]); first | done | rfl | (simp only [lD, lT]; rfl)) ?_; (with_reducible refine (laws_eqIntS.calls k _ _ t606 _ _ t597 true _ ?side1 ?side2 ?side3 ?side4 A24.out).mono ?_); (case side1 => repeat (first | exact (rR HO608.out).2.2 | (with_reducible refine cA ?_ _) | (with_reducible refine cN ?_ _) | (with_reducible refine cD ?_))); (case side2 => exact (rR HO608.out).2.1); (case side3 => repeat (first | exact (rR HO599.out).2.2 | (with_reducible refine cA ?_ _) | (with_reducible refine cN ?_ _) | (with_reducible refine cD ?_))); (case side4 => exact (rR HO599.out).2.1); rintro e w' ⟨rfl, ⟨nd, rfl⟩⟩; refine ⟨_, rfl, ?_⟩))
    go_meet
    case rel => exact ⟨_, ((t609 != t600)), (by first | rfl | (simp; done) | (simp [*]; done)), H', ⟨by first | omega | exact Nat.le_refl _⟩, ⟨by (with_reducible repeat (first | apply rA | apply rN | apply rD)); exact Kd.R_mono HO599.out (fun _ hk => hk.2)⟩, ⟨by (with_reducible repeat (first | apply rA | apply rN | apply rD)); exact Kd.R_mono HO603.out (fun _ hk => trivial)⟩, ⟨by (with_reducible repeat (first | apply rA | apply rN | apply rD)); exact Kd.R_mono HO608.out (fun _ hk => hk.2)⟩, ⟨by (with_reducible repeat (first | refine kN ?_ _ | refine kD ?_ | refine kA ?_ _)); exact BK590.out⟩, ⟨by repeat (first | (with_reducible first | exact HB.out | apply pA | apply pN | apply pD | refine pS ?_ GE590.out) | exact HB.out)⟩⟩
   ·replace c25 := Bool.eq_false_iff.mpr c25
    subst c25
    have H1 : (laws_FnExactPartsOfPeg.j0 k l0 t597 t600 t601 t606 t609 true a1_0 a1_1) = some r := by rw [if_neg (show ¬ (false = true) by decide)] at H; exact H
    clear H
    have H := H1
    clear H1
    have H' := aM H
    clear H
    obtain ⟨Ao28, co28, eo28⟩ := Kd.R_slice HO608.out
    subst eo28
    obtain ⟨Ao29, co29, eo29⟩ := Kd.R_slice HO599.out
    subst eo29
    go_wp2_with (first | ((with_reducible refine gC (f := 47) rfl ?_); refine goesL_ (some 40) rfl rfl Try.func47 (by kernel_rfl) rfl #[.slice Ao28 t606.length co28, .slice Ao29 t597.length co29] rfl (by (try simp only [mA, mC, mN]); first | done | rfl | (simp only [lD, lT]; rfl)) ?_; (with_reducible refine (laws_eqIntS.calls k _ _ t606 _ _ t597 false _ ?side1 ?side2 ?side3 ?side4 A24.out).mono ?_); (case side1 => repeat (first | exact (rR HO608.out).2.2 | (with_reducible refine cA ?_ _) | (with_reducible refine cN ?_ _) | (with_reducible refine cD ?_))); (case side2 => exact (rR HO608.out).2.1); (case side3 => repeat (first | exact (rR HO599.out).2.2 | (with_reducible refine cA ?_ _) | (with_reducible refine cN ?_ _) | (with_reducible refine cD ?_))); (case side4 => exact (rR HO599.out).2.1); rintro e w' ⟨rfl, ⟨nd, rfl⟩⟩; refine ⟨_, rfl, ?_⟩))
    go_meet
    case rel => exact ⟨_, (true), (by first | rfl | (simp; done) | (simp [*]; done)), H', ⟨by first | omega | exact Nat.le_refl _⟩, ⟨by (with_reducible repeat (first | apply rA | apply rN | apply rD)); exact Kd.R_mono HO599.out (fun _ hk => hk.2)⟩, ⟨by (with_reducible repeat (first | apply rA | apply rN | apply rD)); exact Kd.R_mono HO603.out (fun _ hk => trivial)⟩, ⟨by (with_reducible repeat (first | apply rA | apply rN | apply rD)); exact Kd.R_mono HO608.out (fun _ hk => hk.2)⟩, ⟨by (with_reducible repeat (first | refine kN ?_ _ | refine kD ?_ | refine kA ?_ _)); exact BK590.out⟩, ⟨by repeat (first | (with_reducible first | exact HB.out | apply pA | apply pN | apply pD | refine pS ?_ GE590.out) | exact HB.out)⟩⟩
  case rest =>
   clear HC12
   try clear c1
   try clear c2
   try clear p2
   try clear c3
   try clear c4
   try clear c4b0
   try clear c10
   try clear c25
   try clear c27
   try clear hcz20_0
   try clear hcz20_1
   try clear hfz20_0
   try clear hfz20_1
   obtain ⟨kq, x46_11, rfl, HA, HJ11, HO_6, HO_8, HO_9, BK590, HB⟩ := hcut
   cases kq with
   | zero => exact absurd HA.out (by simp [laws_FnExactPartsOfPeg.j0])
   | succ kj11 =>
    have H := HA.out
    clear HA
    simp only [laws_FnExactPartsOfPeg.j0] at H
    by_cases c30 : x46_11 = true
    ·subst c30
     have H1 : (some false) = some r := by rw [if_pos rfl] at H; exact H
     clear H
     have H := H1
     clear H1
     obtain rfl := Option.some.inj H
     go_wp2
     go_ret
     exact ⟨by first | rfl | (simp [errW_none, errW_some] <;> rfl) | (simp [*, errW_none, errW_some] <;> rfl), by repeat (first | (with_reducible first | exact HB.out | apply pA | apply pN | apply pD | refine pS ?_ GE590.out) | exact HB.out)⟩
    ·replace c30 := Bool.eq_false_iff.mpr c30
     subst c30
     have H1 : ((laws_toPegS.f kj11 l0).bind fun t611 => ((laws_eqPegS.f kj11 t601 t611).bind fun t614 => (if t614 = true then ((laws_markPegS.f kj11 t601 1).bind fun bt615 => (if bt615.1 < 0 then (laws_FnExactPartsOfPeg.j1 kj11 l0 t597 t600 t606 true a1_0 a1_1) else ((laws_eqIntS.f kj11 t606 t597).bind fun t617 => (if t617 = true then (laws_FnExactPartsOfPeg.j1 kj11 l0 t597 t600 t606 (t609 != t600) a1_0 a1_1) else (laws_FnExactPartsOfPeg.j1 kj11 l0 t597 t600 t606 true a1_0 a1_1))))) else (some false)))) = some r := by rw [if_neg (show ¬ (false = true) by decide)] at H; exact H
     clear H
     have H := H1
     clear H1
     replace H := oB.mp H
     obtain ⟨t611, A310, H⟩ := H
     replace H : ((laws_eqPegS.f kj11 t601 t611).bind fun t614 => (if t614 = true then ((laws_markPegS.f kj11 t601 1).bind fun bt615 => (if bt615.1 < 0 then (laws_FnExactPartsOfPeg.j1 kj11 l0 t597 t600 t606 true a1_0 a1_1) else ((laws_eqIntS.f kj11 t606 t597).bind fun t617 => (if t617 = true then (laws_FnExactPartsOfPeg.j1 kj11 l0 t597 t600 t606 (t609 != t600) a1_0 a1_1) else (laws_FnExactPartsOfPeg.j1 kj11 l0 t597 t600 t606 true a1_0 a1_1))))) else (some false))) = some r := H
     have A31 := aM A310
     clear A310
     replace H := oB.mp H
     obtain ⟨t614, A320, H⟩ := H
     replace H : (if t614 = true then ((laws_markPegS.f kj11 t601 1).bind fun bt615 => (if bt615.1 < 0 then (laws_FnExactPartsOfPeg.j1 kj11 l0 t597 t600 t606 true a1_0 a1_1) else ((laws_eqIntS.f kj11 t606 t597).bind fun t617 => (if t617 = true then (laws_FnExactPartsOfPeg.j1 kj11 l0 t597 t600 t606 (t609 != t600) a1_0 a1_1) else (laws_FnExactPartsOfPeg.j1 kj11 l0 t597 t600 t606 true a1_0 a1_1))))) else (some false)) = some r := H
     have A32 := aM A320
     clear A320
     by_cases c33 : t614 = true
     ·subst c33
      have H1 : ((laws_markPegS.f kj11 t601 1).bind fun bt615 => (if bt615.1 < 0 then (laws_FnExactPartsOfPeg.j1 kj11 l0 t597 t600 t606 true a1_0 a1_1) else ((laws_eqIntS.f kj11 t606 t597).bind fun t617 => (if t617 = true then (laws_FnExactPartsOfPeg.j1 kj11 l0 t597 t600 t606 (t609 != t600) a1_0 a1_1) else (laws_FnExactPartsOfPeg.j1 kj11 l0 t597 t600 t606 true a1_0 a1_1))))) = some r := by rw [if_pos rfl] at H; exact H
      clear H
      have H := H1
      clear H1
      replace H := oB.mp H
      obtain ⟨⟨t615, t616⟩, A340, H⟩ := H
      replace H : (if t615 < 0 then (laws_FnExactPartsOfPeg.j1 kj11 l0 t597 t600 t606 true a1_0 a1_1) else ((laws_eqIntS.f kj11 t606 t597).bind fun t617 => (if t617 = true then (laws_FnExactPartsOfPeg.j1 kj11 l0 t597 t600 t606 (t609 != t600) a1_0 a1_1) else (laws_FnExactPartsOfPeg.j1 kj11 l0 t597 t600 t606 true a1_0 a1_1)))) = some r := H
      have A34 := aM A340
      clear A340
      have HC35 := aM H
      clear H
      go_upto_region 14 with (first | ((with_reducible refine gC (f := 27) rfl ?_); refine goesL_ (some 49) rfl rfl Try.func27 (by kernel_rfl) rfl #[.slice A0 l0.length c0] rfl (by (try simp only [mA, mC, mN]); first | done | rfl | (simp only [lD, lT]; rfl)) ?_; (with_reducible refine (laws_toPegS.calls kj11 _ _ l0 t611 _ ?side1 ?side2 A31.out).mono ?_); (case side1 => repeat (first | exact (Kd.C_below HR0.out HB.out) | (with_reducible refine cA ?_ _) | (with_reducible refine cN ?_ _) | (with_reducible refine cD ?_))); (case side2 => exact HC0.out); rintro e w36 ⟨v612, rfl, ho0, hb⟩; refine ⟨_, rfl, ?_⟩; have n0_ := aM (Kd.R_below (by (with_reducible repeat (first | apply rA | apply rN | apply rD)); exact HO_6.out) hb); have n1_ := aM (Kd.R_elder' (by (with_reducible repeat (first | apply rA | apply rN | apply rD)); exact HO_8.out) (Kd.R_base ho0) hb); have n2_ := aM (Kd.R_below (by (with_reducible repeat (first | apply rA | apply rN | apply rD)); exact HO_9.out) hb); have n3_ := aM (Kd.R_lower (Kd.R_new' ho0 (Kd.R_lt (by (with_reducible repeat (first | apply rA | apply rN | apply rD)); exact HO_8.out))) (pZ (by repeat (first | (with_reducible first | exact HB.out | apply pA | apply pN | apply pD | refine pS ?_ GE590.out) | exact HB.out)))); have n4_ := aM (blk_below (g := gb590) (o := .cells #[.int .i64 a1_0, .int .i64 a1_1] 31 (0, 0)) (by (with_reducible repeat (first | refine kN ?_ _ | refine kD ?_ | refine kA ?_ _)); exact BK590.out) hb); have n5_ := aM (pT (by repeat (first | (with_reducible first | exact HB.out | apply pA | apply pN | apply pD | refine pS ?_ GE590.out) | exact HB.out)) hb); clear HO_6; clear HO_8; clear HO_9; clear BK590; clear HB; have HO_6 := n0_; have HO_8 := n1_; have HO_9 := n2_; have HO613 := n3_; have BK590 := n4_; have HB := n5_; clear n0_ n1_ n2_ n3_ n4_ n5_; (try clear hb); (try clear hb2); (try clear hk); (try clear hi); (try clear ho0); obtain ⟨Ao37, co37, eo37⟩ := Kd.R_slice HO613.out; subst eo37) | ((with_reducible refine gC (f := 29) rfl ?_); refine goesL_ (some 50) rfl rfl Try.func29 (by kernel_rfl) rfl #[.slice Ao22 t601.length co22, .slice Ao37 t611.length co37] rfl (by (try simp only [mA, mC, mN]); first | done | rfl | (simp only [lD, lT]; rfl)) ?_; (with_reducible refine (laws_eqPegS.calls kj11 _ _ t601 _ _ t611 true _ ?side1 ?side2 ?side3 ?side4 A32.out).mono ?_); (case side1 => repeat (first | exact (rR HO_8.out).2.2 | (with_reducible refine cA ?_ _) | (with_reducible refine cN ?_ _) | (with_reducible refine cD ?_))); (case side2 => exact (rR HO_8.out).2.1); (case side3 => repeat (first | exact (rR HO613.out).2.2 | (with_reducible refine cA ?_ _) | (with_reducible refine cN ?_ _) | (with_reducible refine cD ?_))); (case side4 => exact (rR HO613.out).2.1); rintro e w38 ⟨rfl, hb⟩; refine ⟨_, rfl, ?_⟩; have n0_ := aM (Kd.R_below (by (with_reducible repeat (first | apply rA | apply rN | apply rD)); exact HO_6.out) hb); have n1_ := aM (Kd.R_below (by (with_reducible repeat (first | apply rA | apply rN | apply rD)); exact HO_8.out) hb); have n2_ := aM (Kd.R_below (by (with_reducible repeat (first | apply rA | apply rN | apply rD)); exact HO_9.out) hb); have n3_ := aM (Kd.R_below (by (with_reducible repeat (first | apply rA | apply rN | apply rD)); exact HO613.out) hb); have n4_ := aM (blk_below (g := gb590) (o := .cells #[.int .i64 a1_0, .int .i64 a1_1] 31 (0, 0)) (by (with_reducible repeat (first | refine kN ?_ _ | refine kD ?_ | refine kA ?_ _)); exact BK590.out) hb); have n5_ := aM (pT (by repeat (first | (with_reducible first | exact HB.out | apply pA | apply pN | apply pD | refine pS ?_ GE590.out) | exact HB.out)) hb); clear HO_6; clear HO_8; clear HO_9; clear HO613; clear BK590; clear HB; have HO_6 := n0_; have HO_8 := n1_; have HO_9 := n2_; have HO613 := n3_; have BK590 := n4_; have HB := n5_; clear n0_ n1_ n2_ n3_ n4_ n5_; (try clear hb); (try clear hb2); (try clear hk); (try clear hi)) | ((with_reducible refine gC (f := 35) rfl ?_); refine goesL_ (some 54) rfl rfl Try.func35 (by kernel_rfl) rfl #[.slice Ao22 t601.length co22, .int .i64 1] rfl (by (try simp only [mA, mC, mN]); first | done | rfl | (simp only [lD, lT]; rfl)) ?_; (with_reducible refine (laws_markPegS.calls kj11 (fun k_ => some k_ = (.slice Ao22 t601.length co22 : Value).ownBlock) (.slice Ao22 t601.length co22) t601 1 t615 t616 w _ ?side1 ?side2 A34.out).mono ?_); (case side1 => repeat (first | (with_reducible first | exact HB.out | apply pA | apply pN | apply pD | refine pS ?_ GE590.out) | exact HB.out)); (case side2 => exact Kd.R_tight rfl HO_8.out); rintro e w39 ⟨rfl, hy0, hb, hkp⟩; refine ⟨_, rfl, ?_⟩; have n0_ := aM (Kd.R_mono (ok' := fun k_ => some k_ ≠ (v607 : Value).ownBlock) (Kd.R_keptB ((Kd.R_apart' HO_6.out (Kd.R_typed HO_8.out) (by decide))) hkp (fun k_ hk_ hs_ => (hk_.2) hs_)) (fun k_ hk_ => hk_.1.1)); have n1_ := aM (Kd.R_reok rfl hy0 (fun k_ e_ => HO_8.out.1 k_ e_)); have n2_ := aM (Kd.R_mono (ok' := fun k_ => some k_ ≠ (v598 : Value).ownBlock) (Kd.R_keptB ((Kd.R_apart' HO_9.out (Kd.R_typed HO_8.out) (by decide))) hkp (fun k_ hk_ hs_ => (hk_.2) hs_)) (fun k_ hk_ => hk_.1.1)); have n3_ := aM (blk_kept (by (with_reducible repeat (first | refine kN ?_ _ | refine kD ?_ | refine kA ?_ _)); exact BK590.out) hkp (fun hs_ => (fun e_ => (Kd.R_ne HO_8.out BK590.out (by decide)) e_) hs_)); have n4_ := aM (Kd.R_mono (ok' := fun k_ => some k_ ≠ (.slice Ao22 t601.length co22 : Value).ownBlock) (Kd.R_keptB (HO613.out) hkp (fun k_ hk_ hs_ => (hk_.2) hs_)) (fun k_ hk_ => hk_.1.2)); have n5_ := aM (hb); clear HO_6; clear HO_8; clear HO_9; clear BK590; clear HO613; clear HB; have HO_6 := n0_; have HO_8 := n1_; have HO_9 := n2_; have BK590 := n3_; have HO613 := n4_; have HB := n5_; clear n0_ n1_ n2_ n3_ n4_ n5_; (try clear hb); (try clear hkp); (try clear hy0)))
      (try simp only [Act.put, sI, sZ, sS])
      go_cut [67] (fun v67 wc => ∃ (kq : Nat) (x67_34 : Bool), v67 = .bool x67_34 ∧ Aside0 (laws_FnExactPartsOfPeg.j1 kq l0 t597 t600 t606 x67_34 a1_0 a1_1 = some r) ∧ Aside0 (kq ≤ kj11) ∧ Aside0 (Kd.R (Kd.int .i64) 3 wc w.heap.size (fun k_ => some k_ ≠ (v607 : Value).ownBlock) v598 t597) ∧ Aside0 (Kd.R (Kd.int .i64) 3 wc w.heap.size (fun k_ => some k_ ≠ (v598 : Value).ownBlock) v607 t606) ∧ Aside0 (wc.heap[gb590]? = some (.cells #[.int .i64 a1_0, .int .i64 a1_1] 31 (0, 0))) ∧ Aside0 (Below w.heap.size w wc))
      case first =>
       have H := HC35.out
       clear HC35
       by_cases c40 : t615 < 0
       ·rw [if_pos c40] at H
        have c40b0 : decide (t615 < 0) = true := dE c40
        clear c40
        (first | rw [c40b0] | (simp only [i64_w, i32_w]; rw [c40b0]) | skip)
        have H' := aM H
        clear H
        go_wp2
        go_meet
        case rel => exact ⟨_, (true), (by first | rfl | (simp; done) | (simp [*]; done)), H', ⟨by have := HJ11.out; first | omega | exact Nat.le_refl _⟩, ⟨by (with_reducible repeat (first | apply rA | apply rN | apply rD)); exact HO_6.out⟩, ⟨by (with_reducible repeat (first | apply rA | apply rN | apply rD)); exact HO_9.out⟩, ⟨by (with_reducible repeat (first | refine kN ?_ _ | refine kD ?_ | refine kA ?_ _)); exact BK590.out⟩, ⟨by repeat (first | (with_reducible first | exact HB.out | apply pA | apply pN | apply pD | refine pS ?_ GE590.out) | exact HB.out)⟩⟩
       ·rw [if_neg c40] at H
        have c40b0 : decide (t615 < 0) = false := decide_eq_false c40
        clear c40
        (first | rw [c40b0] | (simp only [i64_w, i32_w]; rw [c40b0]) | skip)
        replace H := oB.mp H
        obtain ⟨t617, A410, H⟩ := H
        replace H : (if t617 = true then (laws_FnExactPartsOfPeg.j1 kj11 l0 t597 t600 t606 (t609 != t600) a1_0 a1_1) else (laws_FnExactPartsOfPeg.j1 kj11 l0 t597 t600 t606 true a1_0 a1_1)) = some r := H
        have A41 := aM A410
        clear A410
        by_cases c42 : t617 = true
        ·subst c42
         have H1 : (laws_FnExactPartsOfPeg.j1 kj11 l0 t597 t600 t606 (t609 != t600) a1_0 a1_1) = some r := by rw [if_pos rfl] at H; exact H
         clear H
         have H := H1
         clear H1
         have H' := aM H
         clear H
         obtain ⟨Ao43, co43, eo43⟩ := Kd.R_slice HO_9.out
         subst eo43
         obtain ⟨Ao44, co44, eo44⟩ := Kd.R_slice HO_6.out
         subst eo44
         go_wp2_with (first | (go_at_call 47; (with_reducible refine (laws_eqIntS.calls kj11 _ _ t606 _ _ t597 true _ ?side1 ?side2 ?side3 ?side4 A41.out).mono ?_); (case side1 => repeat (first | exact (rR HO_9.out).2.2 | (with_reducible refine cA ?_ _) | (with_reducible refine cN ?_ _) | (with_reducible refine cD ?_))); (case side2 => exact (rR HO_9.out).2.1); (case side3 => repeat (first | exact (rR HO_6.out).2.2 | (with_reducible refine cA ?_ _) | (with_reducible refine cN ?_ _) | (with_reducible refine cD ?_))); (case side4 => exact (rR HO_6.out).2.1); rintro e w' ⟨rfl, ⟨nd, rfl⟩⟩))
         go_meet
         case rel => exact ⟨_, ((t609 != t600)), (by first | rfl | (simp; done) | (simp [*]; done)), H', ⟨by have := HJ11.out; first | omega | exact Nat.le_refl _⟩, ⟨by (with_reducible repeat (first | apply rA | apply rN | apply rD)); exact HO_6.out⟩, ⟨by (with_reducible repeat (first | apply rA | apply rN | apply rD)); exact HO_9.out⟩, ⟨by (with_reducible repeat (first | refine kN ?_ _ | refine kD ?_ | refine kA ?_ _)); exact BK590.out⟩, ⟨by repeat (first | (with_reducible first | exact HB.out | apply pA | apply pN | apply pD | refine pS ?_ GE590.out) | exact HB.out)⟩⟩
        ·replace c42 := Bool.eq_false_iff.mpr c42
         subst c42
         have H1 : (laws_FnExactPartsOfPeg.j1 kj11 l0 t597 t600 t606 true a1_0 a1_1) = some r := by rw [if_neg (show ¬ (false = true) by decide)] at H; exact H
         clear H
         have H := H1
         clear H1
         have H' := aM H
         clear H
         obtain ⟨Ao45, co45, eo45⟩ := Kd.R_slice HO_9.out
         subst eo45
         obtain ⟨Ao46, co46, eo46⟩ := Kd.R_slice HO_6.out
         subst eo46
         go_wp2_with (first | (go_at_call 47; (with_reducible refine (laws_eqIntS.calls kj11 _ _ t606 _ _ t597 false _ ?side1 ?side2 ?side3 ?side4 A41.out).mono ?_); (case side1 => repeat (first | exact (rR HO_9.out).2.2 | (with_reducible refine cA ?_ _) | (with_reducible refine cN ?_ _) | (with_reducible refine cD ?_))); (case side2 => exact (rR HO_9.out).2.1); (case side3 => repeat (first | exact (rR HO_6.out).2.2 | (with_reducible refine cA ?_ _) | (with_reducible refine cN ?_ _) | (with_reducible refine cD ?_))); (case side4 => exact (rR HO_6.out).2.1); rintro e w' ⟨rfl, ⟨nd, rfl⟩⟩))
         go_meet
         case rel => exact ⟨_, (true), (by first | rfl | (simp; done) | (simp [*]; done)), H', ⟨by have := HJ11.out; first | omega | exact Nat.le_refl _⟩, ⟨by (with_reducible repeat (first | apply rA | apply rN | apply rD)); exact HO_6.out⟩, ⟨by (with_reducible repeat (first | apply rA | apply rN | apply rD)); exact HO_9.out⟩, ⟨by (with_reducible repeat (first | refine kN ?_ _ | refine kD ?_ | refine kA ?_ _)); exact BK590.out⟩, ⟨by repeat (first | (with_reducible first | exact HB.out | apply pA | apply pN | apply pD | refine pS ?_ GE590.out) | exact HB.out)⟩⟩
      case rest =>
       clear HC35
       try clear c1
       try clear c2
       try clear p2
       try clear c3
       try clear c4
       try clear c4b0
       try clear c10
       try clear c25
       try clear c27
       try clear c29
       try clear c30
       try clear c31
       try clear c33
       try clear c35
       try clear c40
       try clear c40b0
       try clear c42
       try clear c45
       try clear c46
       try clear hcz20_0
       try clear hcz20_1
       try clear hfz20_0
       try clear hfz20_1
       try clear p2
       obtain ⟨kq, x67_34, rfl, HA, HJ34, HO_6, HO_9, BK590, HB⟩ := hcut
       cases kq with
       | zero => exact absurd HA.out (by simp [laws_FnExactPartsOfPeg.j1])
       | succ kj34 =>
        have H := HA.out
        clear HA
        simp only [laws_FnExactPartsOfPeg.j1] at H
        by_cases c47 : x67_34 = true
        ·subst c47
         have H1 : (some false) = some r := by rw [if_pos rfl] at H; exact H
         clear H
         have H := H1
         clear H1
         obtain rfl := Option.some.inj H
         go_wp2
         go_ret
         exact ⟨by first | rfl | (simp [errW_none, errW_some] <;> rfl) | (simp [*, errW_none, errW_some] <;> rfl), by repeat (first | (with_reducible first | exact HB.out | apply pA | apply pN | apply pD | refine pS ?_ GE590.out) | exact HB.out)⟩
        ·replace c47 := Bool.eq_false_iff.mpr c47
         subst c47
         have H1 : ((laws_markIntS.f kj34 t606 1).bind fun bt618 => ((laws_heldIntS.f kj34 bt618.2 1).bind fun t620 => (if t620 < 0 then (some false) else (if t620 = bt618.1 then ((laws_toPegS.f kj34 l0).bind fun t621 => ((laws_toPeg.f a1_0 a1_1).bind fun bt624 => ((impl_PartsOfPeg.f kj34 t621 bt624.1 bt624.2).bind fun bt626 => ((laws_eqIntS.f kj34 bt626.1 t597).bind fun t630 => (if t630 = true then (laws_FnExactPartsOfPeg.j2 kj34 bt618.2 bt618.1 (bt626.2 != t600)) else (laws_FnExactPartsOfPeg.j2 kj34 bt618.2 bt618.1 true)))))) else (some false))))) = some r := by rw [if_neg (show ¬ (false = true) by decide)] at H; exact H
         clear H
         have H := H1
         clear H1
         replace H := oB.mp H
         obtain ⟨⟨t618, t619⟩, A480, H⟩ := H
         replace H : ((laws_heldIntS.f kj34 t619 1).bind fun t620 => (if t620 < 0 then (some false) else (if t620 = t618 then ((laws_toPegS.f kj34 l0).bind fun t621 => ((laws_toPeg.f a1_0 a1_1).bind fun bt624 => ((impl_PartsOfPeg.f kj34 t621 bt624.1 bt624.2).bind fun bt626 => ((laws_eqIntS.f kj34 bt626.1 t597).bind fun t630 => (if t630 = true then (laws_FnExactPartsOfPeg.j2 kj34 t619 t618 (bt626.2 != t600)) else (laws_FnExactPartsOfPeg.j2 kj34 t619 t618 true)))))) else (some false)))) = some r := H
         have A48 := aM A480
         clear A480
         replace H := oB.mp H
         obtain ⟨t620, A490, H⟩ := H
         replace H : (if t620 < 0 then (some false) else (if t620 = t618 then ((laws_toPegS.f kj34 l0).bind fun t621 => ((laws_toPeg.f a1_0 a1_1).bind fun bt624 => ((impl_PartsOfPeg.f kj34 t621 bt624.1 bt624.2).bind fun bt626 => ((laws_eqIntS.f kj34 bt626.1 t597).bind fun t630 => (if t630 = true then (laws_FnExactPartsOfPeg.j2 kj34 t619 t618 (bt626.2 != t600)) else (laws_FnExactPartsOfPeg.j2 kj34 t619 t618 true)))))) else (some false))) = some r := H
         have A49 := aM A490
         clear A490
         by_cases c50 : t620 < 0
         ·rw [if_pos c50] at H
          have c50b0 : decide (t620 < 0) = true := dE c50
          clear c50
          obtain rfl := Option.some.inj H
          obtain ⟨Ao51, co51, eo51⟩ := Kd.R_slice HO_9.out
          subst eo51
          go_wp2_with (first | ((with_reducible refine gC (f := 48) rfl ?_); refine goesL_ (some 70) rfl rfl Try.func48 (by kernel_rfl) rfl #[.slice Ao51 t606.length co51, .int .i64 1] rfl (by (try simp only [mA, mC, mN]); first | done | rfl | (simp only [lD, lT]; rfl)) ?_; (with_reducible refine (laws_markIntS.calls kj34 (fun k_ => some k_ = (.slice Ao51 t606.length co51 : Value).ownBlock) (.slice Ao51 t606.length co51) t606 1 t618 t619 w _ ?side1 ?side2 A48.out).mono ?_); (case side1 => repeat (first | (with_reducible first | exact HB.out | apply pA | apply pN | apply pD | refine pS ?_ GE590.out) | exact HB.out)); (case side2 => exact Kd.R_tight rfl HO_9.out); rintro e w52 ⟨rfl, hy0, hb, hkp⟩; refine ⟨_, rfl, ?_⟩; have n0_ := aM (Kd.R_mono (ok' := fun k_ => some k_ ≠ (.slice Ao51 t606.length co51 : Value).ownBlock) (Kd.R_keptB (HO_6.out) hkp (fun k_ hk_ hs_ => (hk_) hs_)) (fun k_ hk_ => hk_.1)); have n1_ := aM (Kd.R_reok rfl hy0 (fun k_ e_ => HO_9.out.1 k_ e_)); have n2_ := aM (blk_kept (by (with_reducible repeat (first | refine kN ?_ _ | refine kD ?_ | refine kA ?_ _)); exact BK590.out) hkp (fun hs_ => (fun e_ => (Kd.R_ne HO_9.out BK590.out (by decide)) e_) hs_)); have n3_ := aM (hb); clear HO_6; clear HO_9; clear BK590; clear HB; have HO_6 := n0_; have HO_9 := n1_; have BK590 := n2_; have HB := n3_; clear n0_ n1_ n2_ n3_; (try clear hb); (try clear hkp); (try clear hy0)) | ((with_reducible refine gC (f := 49) rfl ?_); refine goesL_ (some 73) rfl rfl Try.func49 (by kernel_rfl) rfl #[.slice Ao51 t619.length co51, .int .i64 1] rfl (by (try simp only [mA, mC, mN]); first | done | (rw [show t619.length = t606.length from (rR HO_9.out).1.symm] <;> rfl) | rfl | (simp only [lD, lT]; rfl)) ?_; (with_reducible refine (laws_heldIntS.calls kj34 _ _ t619 1 t620 _ ?side1 ?side2 A49.out).mono ?_); (case side1 => repeat (first | exact (rR HO_9.out).2.2 | (with_reducible refine cA ?_ _) | (with_reducible refine cN ?_ _) | (with_reducible refine cD ?_))); (case side2 => rw [show t619.length = t606.length from (rR HO_9.out).1.symm]; exact (rR HO_9.out).2.1); rintro e w' ⟨rfl, ⟨nd, rfl⟩⟩; refine ⟨_, rfl, ?_⟩))
          go_ret
          exact ⟨by first | rfl | (simp [errW_none, errW_some] <;> rfl) | (simp [*, errW_none, errW_some] <;> rfl), by repeat (first | (with_reducible first | exact HB.out | apply pA | apply pN | apply pD | refine pS ?_ GE590.out) | exact HB.out)⟩
         ·rw [if_neg c50] at H
          have c50b0 : decide (t620 < 0) = false := decide_eq_false c50
          clear c50
          by_cases c53 : t620 = t618
          ·rw [if_pos c53] at H
           have c53b0 : (t620 == t618) = true := beq_iff_eq.mpr c53
           have c53b1 : (t620 != t618) = false := bne_eq_false_iff_eq.mpr c53
           clear c53
           replace H := oB.mp H
           obtain ⟨t621, A540, H⟩ := H
           replace H : ((laws_toPeg.f a1_0 a1_1).bind fun bt624 => ((impl_PartsOfPeg.f kj34 t621 bt624.1 bt624.2).bind fun bt626 => ((laws_eqIntS.f kj34 bt626.1 t597).bind fun t630 => (if t630 = true then (laws_FnExactPartsOfPeg.j2 kj34 t619 t618 (bt626.2 != t600)) else (laws_FnExactPartsOfPeg.j2 kj34 t619 t618 true))))) = some r := H
           have A54 := aM A540
           clear A540
           replace H := oB.mp H
           obtain ⟨⟨t624, t625⟩, A550, H⟩ := H
           replace H : ((impl_PartsOfPeg.f kj34 t621 t624 t625).bind fun bt626 => ((laws_eqIntS.f kj34 bt626.1 t597).bind fun t630 => (if t630 = true then (laws_FnExactPartsOfPeg.j2 kj34 t619 t618 (bt626.2 != t600)) else (laws_FnExactPartsOfPeg.j2 kj34 t619 t618 true)))) = some r := H
           have A55 := aM A550
           clear A550
           replace H := oB.mp H
           obtain ⟨⟨t626, t629⟩, A560, H⟩ := H
           replace H : ((laws_eqIntS.f kj34 t626 t597).bind fun t630 => (if t630 = true then (laws_FnExactPartsOfPeg.j2 kj34 t619 t618 (t629 != t600)) else (laws_FnExactPartsOfPeg.j2 kj34 t619 t618 true))) = some r := H
           have A56 := aM A560
           clear A560
           have HC57 := aM H
           clear H
           obtain ⟨Ao58, co58, eo58⟩ := Kd.R_slice HO_9.out
           subst eo58
           try go_wp2_with (first | ((with_reducible refine gC (f := 48) rfl ?_); refine goesL_ (some 70) rfl rfl Try.func48 (by kernel_rfl) rfl #[.slice Ao58 t606.length co58, .int .i64 1] rfl (by (try simp only [mA, mC, mN]); first | done | rfl | (simp only [lD, lT]; rfl)) ?_; (with_reducible refine (laws_markIntS.calls kj34 (fun k_ => some k_ = (.slice Ao58 t606.length co58 : Value).ownBlock) (.slice Ao58 t606.length co58) t606 1 t618 t619 w _ ?side1 ?side2 A48.out).mono ?_); (case side1 => repeat (first | (with_reducible first | exact HB.out | apply pA | apply pN | apply pD | refine pS ?_ GE590.out) | exact HB.out)); (case side2 => exact Kd.R_tight rfl HO_9.out); rintro e w59 ⟨rfl, hy0, hb, hkp⟩; refine ⟨_, rfl, ?_⟩; have n0_ := aM (Kd.R_mono (ok' := fun k_ => some k_ ≠ (.slice Ao58 t606.length co58 : Value).ownBlock) (Kd.R_keptB (HO_6.out) hkp (fun k_ hk_ hs_ => (hk_) hs_)) (fun k_ hk_ => hk_.1)); have n1_ := aM (Kd.R_reok rfl hy0 (fun k_ e_ => HO_9.out.1 k_ e_)); have n2_ := aM (blk_kept (by (with_reducible repeat (first | refine kN ?_ _ | refine kD ?_ | refine kA ?_ _)); exact BK590.out) hkp (fun hs_ => (fun e_ => (Kd.R_ne HO_9.out BK590.out (by decide)) e_) hs_)); have n3_ := aM (hb); clear HO_6; clear HO_9; clear BK590; clear HB; have HO_6 := n0_; have HO_9 := n1_; have BK590 := n2_; have HB := n3_; clear n0_ n1_ n2_ n3_; (try clear hb); (try clear hkp); (try clear hy0)) | ((with_reducible refine gC (f := 49) rfl ?_); refine goesL_ (some 73) rfl rfl Try.func49 (by kernel_rfl) rfl #[.slice Ao58 t619.length co58, .int .i64 1] rfl (by (try simp only [mA, mC, mN]); first | done | (rw [show t619.length = t606.length from (rR HO_9.out).1.symm] <;> rfl) | rfl | (simp only [lD, lT]; rfl)) ?_; (with_reducible refine (laws_heldIntS.calls kj34 _ _ t619 1 t620 _ ?side1 ?side2 A49.out).mono ?_); (case side1 => repeat (first | exact (rR HO_9.out).2.2 | (with_reducible refine cA ?_ _) | (with_reducible refine cN ?_ _) | (with_reducible refine cD ?_))); (case side2 => rw [show t619.length = t606.length from (rR HO_9.out).1.symm]; exact (rR HO_9.out).2.1); rintro e w' ⟨rfl, ⟨nd, rfl⟩⟩; refine ⟨_, rfl, ?_⟩))
           (try (rw [drewN_self w59]; generalize hq_ : World.drewN w59 _ = w59; have n0_ : Aside0 (Kd.R (Kd.int .i64) 3 w59 w.heap.size (fun k_ => some k_ ≠ (.slice Ao58 t606.length co58 : Value).ownBlock) v598 t597) := ⟨by rw [← hq_]; exact (by (with_reducible repeat (first | apply rA | apply rN | apply rD)); exact HO_6.out)⟩; have n1_ : Aside0 (Kd.R (Kd.int .i64) 3 w59 w.heap.size (fun k_ => some k_ ≠ (v598 : Value).ownBlock) (.slice Ao58 t606.length co58) t619) := ⟨by rw [← hq_]; exact (by (with_reducible repeat (first | apply rA | apply rN | apply rD)); exact HO_9.out)⟩; have n2_ : Aside0 (w59.heap[gb590]? = some (.cells #[.int .i64 a1_0, .int .i64 a1_1] 31 (0, 0))) := ⟨by rw [← hq_]; exact (by (with_reducible repeat (first | refine kN ?_ _ | refine kD ?_ | refine kA ?_ _)); exact BK590.out)⟩; have n3_ : Aside0 (Below w.heap.size w w59) := ⟨by rw [← hq_]; exact (by repeat (first | (with_reducible first | exact HB.out | apply pA | apply pN | apply pD | refine pS ?_ GE590.out) | exact HB.out))⟩; clear HO_6 HO_9 BK590 HB hq_; have HO_6 := n0_; have HO_9 := n1_; have BK590 := n2_; have HB := n3_; clear n0_ n1_ n2_ n3_))
           have n0_ := aM (rD HO_6.out)
           have n1_ := aM (rD HO_9.out)
           have n2_ := aM (kD BK590.out)
           have n3_ := aM (pD HB.out)
           clear HO_6
           clear HO_9
           clear BK590
           clear HB
           have HO_6 := n0_
           have HO_9 := n1_
           have BK590 := n2_
           have HB := n3_
           clear n0_ n1_ n2_ n3_
           refine start_ (n := 10) (S := fun w' => w'.cell? ⟨gb590, 0, none⟩ = some (.int .i64 a1_0) ∧ w'.cell? ⟨gb590, 1, none⟩ = some (.int .i64 a1_1)) (ds := []) #[false, false, false, false, false, false, false, false, false, false] (by kernel_rfl) rfl rfl ⟨(kC BK590.out 0).trans rfl, (kC BK590.out 1).trans rfl⟩ (fun hHeld => ?_); refine with_tabW laws_FnExactPartsOfPeg.tab24 laws_FnExactPartsOfPeg.bits24 (fun HT_ HW_ => ?_)
           generalize w59.drew = w60 at HO_6 HO_9 BK590 HB hHeld ⊢
           refine pure_ (i := 0) (N := some 80) (v := ?_) (a' := ?_) #[true, false, false, false, false, false, false, false, false, false] rfl rfl (any_of HT_.out (by kernel_rfl)) (fun _ _ _ h => h) (Or.inl ⟨by rfl, ?_⟩) ?_ ?_
           rotate_left
           ·intro w'
            go_simp
            with_reducible rfl
           rotate_left
           ·simp only [Act.put, sI, sZ, sS, i64_w, i32_w]
            rfl
           refine take_ (i := 2) (N := some 82) (v := ?_) (a' := ?_) #[true, false, true, false, false, false, false, false, false, false] rfl rfl (take_ofW HT_.out HW_.out (by kernel_rfl)) (fun _ _ _ h => h) (Or.inl ⟨by rfl, ?_⟩) hHeld ?_ ?_
           rotate_left
           ·rintro w' ⟨s0, s1⟩
            go_simp
            with_reducible rfl
           rotate_left
           ·simp only [Act.put, sI, sZ, sS, i64_w, i32_w]
            rfl
           refine one_ (i := 1) (N := some 81) #[true, true, true, false, false, false, false, false, false, false] rfl rfl (one_of HT_.out (by kernel_rfl)) (by decide) (fun K hK => ?_)
           refine goes_ Try.func27 (by kernel_rfl) rfl #[.slice A0 l0.length c0] (by rfl) rfl rfl (by (try simp only [mA, mC, mN]); first | done | rfl | (simp only [lD, lT]; rfl)) ?_
           with_reducible refine (laws_toPegS.calls kj34 _ _ l0 t621 _ ?side1 ?side2 A54.out).mono ?_
           (case side1 => repeat (first | exact (Kd.C_below HR0.out HB.out) | (with_reducible refine cA ?_ _) | (with_reducible refine cN ?_ _) | (with_reducible refine cD ?_)))
           (case side2 => exact HC0.out)
           rintro e w61 ⟨v622, rfl, ho0, hb⟩
           refine ⟨_, rfl, ?_⟩
           have n0_ := aM (Kd.R_below (by (with_reducible repeat (first | apply rA | apply rN | apply rD)); exact HO_6.out) hb)
           have n1_ := aM (Kd.R_below (by (with_reducible repeat (first | apply rA | apply rN | apply rD)); exact HO_9.out) hb)
           have n2_ := aM (Kd.R_lower ho0 (pZ (by repeat (first | (with_reducible first | exact HB.out | apply pA | apply pN | apply pD | refine pS ?_ GE590.out) | exact HB.out))))
           have n3_ := aM (blk_below (g := gb590) (o := .cells #[.int .i64 a1_0, .int .i64 a1_1] 31 (0, 0)) (by (with_reducible repeat (first | refine kN ?_ _ | refine kD ?_ | refine kA ?_ _)); exact BK590.out) hb)
           have n4_ := aM (pT (by repeat (first | (with_reducible first | exact HB.out | apply pA | apply pN | apply pD | refine pS ?_ GE590.out) | exact HB.out)) hb)
           clear HO_6
           clear HO_9
           clear BK590
           clear HB
           have HO_6 := n0_
           have HO_9 := n1_
           have HO623 := n2_
           have BK590 := n3_
           have HB := n4_
           clear n0_ n1_ n2_ n3_ n4_
           (try clear hb)
           (try clear hb2)
           (try clear hk)
           (try clear hi)
           (try clear ho0)
           refine hK.out _ _ ⟨(kC BK590.out 0).trans rfl, (kC BK590.out 1).trans rfl⟩ (fun hHeld => ?_)
           clear hK K
           refine norm_ (a' := ?_) ?_ ?_
           rotate_left
           ·show Act.put _ (some 81) _ = _
            simp only [Act.put, sI, sZ, sS, i64_w, i32_w]
            rfl
           refine one_ (i := 3) (N := some 83) #[true, true, true, true, false, false, false, false, false, false] rfl rfl (one_of HT_.out (by kernel_rfl)) (by decide) (fun K hK => ?_)
           refine goes_ Try.func31 (by kernel_rfl) rfl #[.agg #[.int .i64 a1_0, .int .i64 a1_1]] (by rfl) rfl rfl (by (try simp only [mA, mC, mN]); first | done | rfl | (simp only [lD, lT]; rfl)) ?_
           with_reducible refine (laws_toPeg.calls a1_0 a1_1 t624 t625 _ A55.out).mono ?_
           rintro e w62 ⟨rfl, hb⟩
           refine ⟨_, rfl, ?_⟩
           have n0_ := aM (Kd.R_below (by (with_reducible repeat (first | apply rA | apply rN | apply rD)); exact HO_6.out) hb)
           have n1_ := aM (Kd.R_below (by (with_reducible repeat (first | apply rA | apply rN | apply rD)); exact HO_9.out) hb)
           have n2_ := aM (Kd.R_below (by (with_reducible repeat (first | apply rA | apply rN | apply rD)); exact HO623.out) hb)
           have n3_ := aM (blk_below (g := gb590) (o := .cells #[.int .i64 a1_0, .int .i64 a1_1] 31 (0, 0)) (by (with_reducible repeat (first | refine kN ?_ _ | refine kD ?_ | refine kA ?_ _)); exact BK590.out) hb)
           have n4_ := aM (pT (by repeat (first | (with_reducible first | exact HB.out | apply pA | apply pN | apply pD | refine pS ?_ GE590.out) | exact HB.out)) hb)
           clear HO_6
           clear HO_9
           clear HO623
           clear BK590
           clear HB
           have HO_6 := n0_
           have HO_9 := n1_
           have HO623 := n2_
           have BK590 := n3_
           have HB := n4_
           clear n0_ n1_ n2_ n3_ n4_
           (try clear hb)
           (try clear hb2)
           (try clear hk)
           (try clear hi)
           obtain ⟨Ao63, co63, eo63⟩ := Kd.R_slice HO623.out
           (first | subst eo63 | (injection eo63 with f1_ f2_ f3_; have f4_ := f1_.symm; have f5_ := f3_.symm; clear f1_ f2_ f3_; subst f4_; subst f5_))
           refine hK.out _ _ ⟨(kC BK590.out 0).trans rfl, (kC BK590.out 1).trans rfl⟩ (fun hHeld => ?_)
           clear hK K
           refine norm_ (a' := ?_) ?_ ?_
           rotate_left
           ·show Act.put _ (some 83) _ = _
            simp only [Act.put, sI, sZ, sS, i64_w, i32_w]
            rfl
           refine one_ (i := 4) (N := some 84) #[true, true, true, true, true, false, false, false, false, false] rfl rfl (one_of HT_.out (by kernel_rfl)) (by decide) (fun K hK => ?_)
           refine goes_ Try.func46 (by kernel_rfl) rfl #[.slice Ao63 t621.length co63, .agg #[.int .i64 t624, .int .i64 t625]] (by rfl) rfl rfl (by (try simp only [mA, mC, mN]); first | done | rfl | (simp only [lD, lT]; rfl)) ?_
           with_reducible refine (impl_PartsOfPeg.calls kj34 _ _ t621 t624 t625 t626 t629 _ ?side1 ?side2 A56.out).mono ?_
           (case side1 => repeat (first | exact (rR HO623.out).2.2 | (with_reducible refine cA ?_ _) | (with_reducible refine cN ?_ _) | (with_reducible refine cD ?_)))
           (case side2 => exact (rR HO623.out).2.1)
           rintro e w64 ⟨v627, rfl, ho0, hb⟩
           refine ⟨_, rfl, ?_⟩
           have n0_ := aM (Kd.R_elder' (by (with_reducible repeat (first | apply rA | apply rN | apply rD)); exact HO_6.out) (Kd.R_base ho0) hb)
           have n1_ := aM (Kd.R_elder' (by (with_reducible repeat (first | apply rA | apply rN | apply rD)); exact HO_9.out) (Kd.R_base ho0) hb)
           have n2_ := aM (Kd.R_below (by (with_reducible repeat (first | apply rA | apply rN | apply rD)); exact HO623.out) hb)
           have n3_ := aM (Kd.R_lower (Kd.R_new' (Kd.R_new' ho0 (Kd.R_lt (by (with_reducible repeat (first | apply rA | apply rN | apply rD)); exact HO_6.out))) (Kd.R_lt (by (with_reducible repeat (first | apply rA | apply rN | apply rD)); exact HO_9.out))) (pZ (by repeat (first | (with_reducible first | exact HB.out | apply pA | apply pN | apply pD | refine pS ?_ GE590.out) | exact HB.out))))
           have n4_ := aM (blk_below (g := gb590) (o := .cells #[.int .i64 a1_0, .int .i64 a1_1] 31 (0, 0)) (by (with_reducible repeat (first | refine kN ?_ _ | refine kD ?_ | refine kA ?_ _)); exact BK590.out) hb)
           have n5_ := aM (pT (by repeat (first | (with_reducible first | exact HB.out | apply pA | apply pN | apply pD | refine pS ?_ GE590.out) | exact HB.out)) hb)
           clear HO_6
           clear HO_9
           clear HO623
           clear BK590
           clear HB
           have HO_6 := n0_
           have HO_9 := n1_
           have HO623 := n2_
           have HO628 := n3_
           have BK590 := n4_
           have HB := n5_
           clear n0_ n1_ n2_ n3_ n4_ n5_
           (try clear hb)
           (try clear hb2)
           (try clear hk)
           (try clear hi)
           (try clear ho0)
           refine hK.out _ _ ⟨(kC BK590.out 0).trans rfl, (kC BK590.out 1).trans rfl⟩ (fun hHeld => ?_)
           clear hK K
           refine norm_ (a' := ?_) ?_ ?_
           rotate_left
           ·show Act.put _ (some 84) _ = _
            simp only [Act.put, sI, sZ, sS, i64_w, i32_w]
            rfl
           refine pure_ (i := 5) (N := some 79) (v := ?_) (a' := ?_) #[true, true, true, true, true, true, false, false, false, false] rfl rfl (any_of HT_.out (by kernel_rfl)) (fun _ _ _ h => h) (Or.inl ⟨by rfl, ?_⟩) ?_ ?_
           rotate_left
           ·intro w'
            go_simp
            with_reducible rfl
           rotate_left
           ·simp only [Act.put, sI, sZ, sS, i64_w, i32_w]
            rfl
           refine pure_ (i := 6) (N := some 85) (v := ?_) (a' := ?_) #[true, true, true, true, true, true, true, false, false, false] rfl rfl (any_of HT_.out (by kernel_rfl)) (fun _ _ _ h => h) (Or.inl ⟨by rfl, ?_⟩) ?_ ?_
           rotate_left
           ·intro w'
            go_simp
            with_reducible rfl
           rotate_left
           ·simp only [Act.put, sI, sZ, sS, i64_w, i32_w]
            rfl
           refine pure_ (i := 7) (N := some 86) (v := ?_) (a' := ?_) #[true, true, true, true, true, true, true, true, false, false] rfl rfl (any_of HT_.out (by kernel_rfl)) (fun _ _ _ h => h) (Or.inl ⟨by rfl, ?_⟩) ?_ ?_
           rotate_left
           ·intro w'
            go_simp
            with_reducible rfl
           rotate_left
           ·simp only [Act.put, sI, sZ, sS, i64_w, i32_w]
            rfl
           refine pure_ (i := 8) (N := some 14) (v := ?_) (a' := ?_) #[true, true, true, true, true, true, true, true, true, false] rfl rfl (any_of HT_.out (by kernel_rfl)) (fun _ _ _ h => h) (Or.inl ⟨by rfl, ?_⟩) ?_ ?_
           rotate_left
           ·intro w'
            go_simp
            with_reducible rfl
           rotate_left
           ·simp only [Act.put, sI, sZ, sS, i64_w, i32_w]
            rfl
           refine pure_ (i := 9) (N := some 15) (v := ?_) (a' := ?_) #[true, true, true, true, true, true, true, true, true, true] rfl rfl (any_of HT_.out (by kernel_rfl)) (fun _ _ _ h => h) (Or.inl ⟨by rfl, ?_⟩) ?_ ?_
           rotate_left
           ·intro w'
            go_simp
            with_reducible rfl
           rotate_left
           ·simp only [Act.put, sI, sZ, sS, i64_w, i32_w]
            rfl
           refine done_ (done_of HT_.out (by kernel_rfl)) ?_
           go_upto_region 25 with (fail)
           go_cut [95] (fun v95 wc => ∃ (kq : Nat) (x95_56 : Bool), v95 = .bool x95_56 ∧ Aside0 (laws_FnExactPartsOfPeg.j2 kq t619 t618 x95_56 = some r) ∧ Aside0 (kq ≤ kj34) ∧ Aside0 (Kd.R (Kd.int .i64) 3 wc w.heap.size (fun _ => True) (.slice Ao58 t606.length co58) t619) ∧ Aside0 (wc.heap[gb590]? = some (.cells #[.int .i64 a1_0, .int .i64 a1_1] 31 (0, 0))) ∧ Aside0 (Below w.heap.size w wc))
           case first =>
            have H := HC57.out
            clear HC57
            replace H := oB.mp H
            obtain ⟨t630, A650, H⟩ := H
            replace H : (if t630 = true then (laws_FnExactPartsOfPeg.j2 kj34 t619 t618 (t629 != t600)) else (laws_FnExactPartsOfPeg.j2 kj34 t619 t618 true)) = some r := H
            have A65 := aM A650
            clear A650
            by_cases c66 : t630 = true
            ·subst c66
             have H1 : (laws_FnExactPartsOfPeg.j2 kj34 t619 t618 (t629 != t600)) = some r := by rw [if_pos rfl] at H; exact H
             clear H
             have H := H1
             clear H1
             have H' := aM H
             clear H
             obtain ⟨Ao67, co67, eo67⟩ := Kd.R_slice HO628.out
             subst eo67
             obtain ⟨Ao68, co68, eo68⟩ := Kd.R_slice HO_6.out
             subst eo68
             go_wp2_with (first | ((with_reducible refine gC (f := 47) rfl ?_); refine goesL_ (some 89) rfl rfl Try.func47 (by kernel_rfl) rfl #[.slice Ao67 t626.length co67, .slice Ao68 t597.length co68] rfl (by (try simp only [mA, mC, mN]); first | done | rfl | (simp only [lD, lT]; rfl)) ?_; (with_reducible refine (laws_eqIntS.calls kj34 _ _ t626 _ _ t597 true _ ?side1 ?side2 ?side3 ?side4 A65.out).mono ?_); (case side1 => repeat (first | exact (rR HO628.out).2.2 | (with_reducible refine cA ?_ _) | (with_reducible refine cN ?_ _) | (with_reducible refine cD ?_))); (case side2 => exact (rR HO628.out).2.1); (case side3 => repeat (first | exact (rR HO_6.out).2.2 | (with_reducible refine cA ?_ _) | (with_reducible refine cN ?_ _) | (with_reducible refine cD ?_))); (case side4 => exact (rR HO_6.out).2.1); rintro e w' ⟨rfl, ⟨nd, rfl⟩⟩; refine ⟨_, rfl, ?_⟩))
             go_meet
             case rel => exact ⟨_, ((t629 != t600)), (by first | rfl | (simp; done) | (simp [*]; done)), H', ⟨by have := HJ11.out; have := HJ34.out; first | omega | exact Nat.le_refl _⟩, ⟨by (with_reducible repeat (first | apply rA | apply rN | apply rD)); exact Kd.R_mono HO_9.out (fun _ hk => trivial)⟩, ⟨by (with_reducible repeat (first | refine kN ?_ _ | refine kD ?_ | refine kA ?_ _)); exact BK590.out⟩, ⟨by repeat (first | (with_reducible first | exact HB.out | apply pA | apply pN | apply pD | refine pS ?_ GE590.out) | exact HB.out)⟩⟩
            ·replace c66 := Bool.eq_false_iff.mpr c66
             subst c66
             have H1 : (laws_FnExactPartsOfPeg.j2 kj34 t619 t618 true) = some r := by rw [if_neg (show ¬ (false = true) by decide)] at H; exact H
             clear H
             have H := H1
             clear H1
             have H' := aM H
             clear H
             obtain ⟨Ao69, co69, eo69⟩ := Kd.R_slice HO628.out
             subst eo69
             obtain ⟨Ao70, co70, eo70⟩ := Kd.R_slice HO_6.out
             subst eo70
             go_wp2_with (first | ((with_reducible refine gC (f := 47) rfl ?_); refine goesL_ (some 89) rfl rfl Try.func47 (by kernel_rfl) rfl #[.slice Ao69 t626.length co69, .slice Ao70 t597.length co70] rfl (by (try simp only [mA, mC, mN]); first | done | rfl | (simp only [lD, lT]; rfl)) ?_; (with_reducible refine (laws_eqIntS.calls kj34 _ _ t626 _ _ t597 false _ ?side1 ?side2 ?side3 ?side4 A65.out).mono ?_); (case side1 => repeat (first | exact (rR HO628.out).2.2 | (with_reducible refine cA ?_ _) | (with_reducible refine cN ?_ _) | (with_reducible refine cD ?_))); (case side2 => exact (rR HO628.out).2.1); (case side3 => repeat (first | exact (rR HO_6.out).2.2 | (with_reducible refine cA ?_ _) | (with_reducible refine cN ?_ _) | (with_reducible refine cD ?_))); (case side4 => exact (rR HO_6.out).2.1); rintro e w' ⟨rfl, ⟨nd, rfl⟩⟩; refine ⟨_, rfl, ?_⟩))
             go_meet
             case rel => exact ⟨_, (true), (by first | rfl | (simp; done) | (simp [*]; done)), H', ⟨by have := HJ11.out; have := HJ34.out; first | omega | exact Nat.le_refl _⟩, ⟨by (with_reducible repeat (first | apply rA | apply rN | apply rD)); exact Kd.R_mono HO_9.out (fun _ hk => trivial)⟩, ⟨by (with_reducible repeat (first | refine kN ?_ _ | refine kD ?_ | refine kA ?_ _)); exact BK590.out⟩, ⟨by repeat (first | (with_reducible first | exact HB.out | apply pA | apply pN | apply pD | refine pS ?_ GE590.out) | exact HB.out)⟩⟩
           case rest =>
            clear HC57
            try clear c1
            try clear c2
            try clear p2
            try clear c3
            try clear c4
            try clear c4b0
            try clear c5
            try clear c6
            try clear c10
            try clear c25
            try clear c27
            try clear c29
            try clear c30
            try clear c31
            try clear c33
            try clear c35
            try clear c40
            try clear c40b0
            try clear c42
            try clear c45
            try clear c46
            try clear c47
            try clear c48
            try clear c49
            try clear c50
            try clear c50b0
            try clear c53
            try clear c53b0
            try clear c53b1
            try clear c66
            try clear hcz20_0
            try clear hcz20_1
            try clear hfz20_0
            try clear hfz20_1
            try clear p2
            obtain ⟨kq, x95_56, rfl, HA, HJ56, HO_9, BK590, HB⟩ := hcut
            have hl9_56 := (rR HO_9.out).1
            rw [hl9_56] at HO_9
            (try simp only [hl9_56])
            (try simp only [hl9_56] at BK590)
            cases kq with
            | zero => exact absurd HA.out (by simp [laws_FnExactPartsOfPeg.j2])
            | succ kj56 =>
             have H := HA.out
             clear HA
             simp only [laws_FnExactPartsOfPeg.j2] at H
             by_cases c71 : x95_56 = true
             ·subst c71
              have H1 : (some false) = some r := by rw [if_pos rfl] at H; exact H
              clear H
              have H := H1
              clear H1
              obtain rfl := Option.some.inj H
              go_wp2
              go_ret
              exact ⟨by first | rfl | (simp [errW_none, errW_some] <;> rfl) | (simp [*, errW_none, errW_some] <;> rfl), by repeat (first | (with_reducible first | exact HB.out | apply pA | apply pN | apply pD | refine pS ?_ GE590.out) | exact HB.out)⟩
             ·replace c71 := Bool.eq_false_iff.mpr c71
              subst c71
              have H1 : ((laws_heldIntS.f kj56 t619 1).bind fun t631 => (if t631 < 0 then (some false) else (if t631 = t618 then (some true) else (some false)))) = some r := by rw [if_neg (show ¬ (false = true) by decide)] at H; exact H
              clear H
              have H := H1
              clear H1
              replace H := oB.mp H
              obtain ⟨t631, A720, H⟩ := H
              replace H : (if t631 < 0 then (some false) else (if t631 = t618 then (some true) else (some false))) = some r := H
              have A72 := aM A720
              clear A720
              by_cases c73 : t631 < 0
              ·rw [if_pos c73] at H
               have c73b0 : decide (t631 < 0) = true := dE c73
               clear c73
               obtain rfl := Option.some.inj H
               go_wp2_with (first | ((with_reducible refine gC (f := 49) rfl ?_); refine goesL_ (some 98) rfl rfl Try.func49 (by kernel_rfl) rfl #[.slice Ao58 t619.length co58, .int .i64 1] rfl (by (try simp only [mA, mC, mN]); first | done | rfl | (simp only [lD, lT]; rfl)) ?_; (with_reducible refine (laws_heldIntS.calls kj56 _ _ t619 1 t631 _ ?side1 ?side2 A72.out).mono ?_); (case side1 => repeat (first | exact (rR HO_9.out).2.2 | (with_reducible refine cA ?_ _) | (with_reducible refine cN ?_ _) | (with_reducible refine cD ?_))); (case side2 => exact (rR HO_9.out).2.1); rintro e w' ⟨rfl, ⟨nd, rfl⟩⟩; refine ⟨_, rfl, ?_⟩))
               go_ret
               exact ⟨by first | rfl | (simp [errW_none, errW_some] <;> rfl) | (simp [*, errW_none, errW_some] <;> rfl), by repeat (first | (with_reducible first | exact HB.out | apply pA | apply pN | apply pD | refine pS ?_ GE590.out) | exact HB.out)⟩
              ·rw [if_neg c73] at H
               have c73b0 : decide (t631 < 0) = false := decide_eq_false c73
               clear c73
               by_cases c74 : t631 = t618
               ·rw [if_pos c74] at H
                have c74b0 : (t631 == t618) = true := beq_iff_eq.mpr c74
                have c74b1 : (t631 != t618) = false := bne_eq_false_iff_eq.mpr c74
                clear c74
                obtain rfl := Option.some.inj H
                go_wp2_with (first | ((with_reducible refine gC (f := 49) rfl ?_); refine goesL_ (some 98) rfl rfl Try.func49 (by kernel_rfl) rfl #[.slice Ao58 t619.length co58, .int .i64 1] rfl (by (try simp only [mA, mC, mN]); first | done | rfl | (simp only [lD, lT]; rfl)) ?_; (with_reducible refine (laws_heldIntS.calls kj56 _ _ t619 1 t631 _ ?side1 ?side2 A72.out).mono ?_); (case side1 => repeat (first | exact (rR HO_9.out).2.2 | (with_reducible refine cA ?_ _) | (with_reducible refine cN ?_ _) | (with_reducible refine cD ?_))); (case side2 => exact (rR HO_9.out).2.1); rintro e w' ⟨rfl, ⟨nd, rfl⟩⟩; refine ⟨_, rfl, ?_⟩))
                go_ret
                exact ⟨by first | rfl | (simp [errW_none, errW_some] <;> rfl) | (simp [*, errW_none, errW_some] <;> rfl), by repeat (first | (with_reducible first | exact HB.out | apply pA | apply pN | apply pD | refine pS ?_ GE590.out) | exact HB.out)⟩
               ·rw [if_neg c74] at H
                have c74b0 : (t631 == t618) = false := beq_eq_false_iff_ne.mpr c74
                have c74b1 : (t631 != t618) = true := bne_iff_ne.mpr c74
                obtain rfl := Option.some.inj H
                go_wp2_with (first | ((with_reducible refine gC (f := 49) rfl ?_); refine goesL_ (some 98) rfl rfl Try.func49 (by kernel_rfl) rfl #[.slice Ao58 t619.length co58, .int .i64 1] rfl (by (try simp only [mA, mC, mN]); first | done | rfl | (simp only [lD, lT]; rfl)) ?_; (with_reducible refine (laws_heldIntS.calls kj56 _ _ t619 1 t631 _ ?side1 ?side2 A72.out).mono ?_); (case side1 => repeat (first | exact (rR HO_9.out).2.2 | (with_reducible refine cA ?_ _) | (with_reducible refine cN ?_ _) | (with_reducible refine cD ?_))); (case side2 => exact (rR HO_9.out).2.1); rintro e w' ⟨rfl, ⟨nd, rfl⟩⟩; refine ⟨_, rfl, ?_⟩))
                go_ret
                exact ⟨by first | rfl | (simp [errW_none, errW_some] <;> rfl) | (simp [*, errW_none, errW_some] <;> rfl), by repeat (first | (with_reducible first | exact HB.out | apply pA | apply pN | apply pD | refine pS ?_ GE590.out) | exact HB.out)⟩
          ·rw [if_neg c53] at H
           have c53b0 : (t620 == t618) = false := beq_eq_false_iff_ne.mpr c53
           have c53b1 : (t620 != t618) = true := bne_iff_ne.mpr c53
           obtain rfl := Option.some.inj H
           obtain ⟨Ao75, co75, eo75⟩ := Kd.R_slice HO_9.out
           subst eo75
           go_wp2_with (first | ((with_reducible refine gC (f := 48) rfl ?_); refine goesL_ (some 70) rfl rfl Try.func48 (by kernel_rfl) rfl #[.slice Ao75 t606.length co75, .int .i64 1] rfl (by (try simp only [mA, mC, mN]); first | done | rfl | (simp only [lD, lT]; rfl)) ?_; (with_reducible refine (laws_markIntS.calls kj34 (fun k_ => some k_ = (.slice Ao75 t606.length co75 : Value).ownBlock) (.slice Ao75 t606.length co75) t606 1 t618 t619 w _ ?side1 ?side2 A48.out).mono ?_); (case side1 => repeat (first | (with_reducible first | exact HB.out | apply pA | apply pN | apply pD | refine pS ?_ GE590.out) | exact HB.out)); (case side2 => exact Kd.R_tight rfl HO_9.out); rintro e w76 ⟨rfl, hy0, hb, hkp⟩; refine ⟨_, rfl, ?_⟩; have n0_ := aM (Kd.R_mono (ok' := fun k_ => some k_ ≠ (.slice Ao75 t606.length co75 : Value).ownBlock) (Kd.R_keptB (HO_6.out) hkp (fun k_ hk_ hs_ => (hk_) hs_)) (fun k_ hk_ => hk_.1)); have n1_ := aM (Kd.R_reok rfl hy0 (fun k_ e_ => HO_9.out.1 k_ e_)); have n2_ := aM (blk_kept (by (with_reducible repeat (first | refine kN ?_ _ | refine kD ?_ | refine kA ?_ _)); exact BK590.out) hkp (fun hs_ => (fun e_ => (Kd.R_ne HO_9.out BK590.out (by decide)) e_) hs_)); have n3_ := aM (hb); clear HO_6; clear HO_9; clear BK590; clear HB; have HO_6 := n0_; have HO_9 := n1_; have BK590 := n2_; have HB := n3_; clear n0_ n1_ n2_ n3_; (try clear hb); (try clear hkp); (try clear hy0)) | ((with_reducible refine gC (f := 49) rfl ?_); refine goesL_ (some 73) rfl rfl Try.func49 (by kernel_rfl) rfl #[.slice Ao75 t619.length co75, .int .i64 1] rfl (by (try simp only [mA, mC, mN]); first | done | (rw [show t619.length = t606.length from (rR HO_9.out).1.symm] <;> rfl) | rfl | (simp only [lD, lT]; rfl)) ?_; (with_reducible refine (laws_heldIntS.calls kj34 _ _ t619 1 t620 _ ?side1 ?side2 A49.out).mono ?_); (case side1 => repeat (first | exact (rR HO_9.out).2.2 | (with_reducible refine cA ?_ _) | (with_reducible refine cN ?_ _) | (with_reducible refine cD ?_))); (case side2 => rw [show t619.length = t606.length from (rR HO_9.out).1.symm]; exact (rR HO_9.out).2.1); rintro e w' ⟨rfl, ⟨nd, rfl⟩⟩; refine ⟨_, rfl, ?_⟩))
           go_ret
           exact ⟨by first | rfl | (simp [errW_none, errW_some] <;> rfl) | (simp [*, errW_none, errW_some] <;> rfl), by repeat (first | (with_reducible first | exact HB.out | apply pA | apply pN | apply pD | refine pS ?_ GE590.out) | exact HB.out)⟩
     ·replace c33 := Bool.eq_false_iff.mpr c33
      subst c33
      have H1 : (some false) = some r := by rw [if_neg (show ¬ (false = true) by decide)] at H; exact H
      clear H
      have H := H1
      clear H1
      obtain rfl := Option.some.inj H
      go_wp2_with (first | ((with_reducible refine gC (f := 27) rfl ?_); refine goesL_ (some 49) rfl rfl Try.func27 (by kernel_rfl) rfl #[.slice A0 l0.length c0] rfl (by (try simp only [mA, mC, mN]); first | done | rfl | (simp only [lD, lT]; rfl)) ?_; (with_reducible refine (laws_toPegS.calls kj11 _ _ l0 t611 _ ?side1 ?side2 A31.out).mono ?_); (case side1 => repeat (first | exact (Kd.C_below HR0.out HB.out) | (with_reducible refine cA ?_ _) | (with_reducible refine cN ?_ _) | (with_reducible refine cD ?_))); (case side2 => exact HC0.out); rintro e w77 ⟨v612, rfl, ho0, hb⟩; refine ⟨_, rfl, ?_⟩; have n0_ := aM (Kd.R_below (by (with_reducible repeat (first | apply rA | apply rN | apply rD)); exact HO_6.out) hb); have n1_ := aM (Kd.R_elder' (by (with_reducible repeat (first | apply rA | apply rN | apply rD)); exact HO_8.out) (Kd.R_base ho0) hb); have n2_ := aM (Kd.R_below (by (with_reducible repeat (first | apply rA | apply rN | apply rD)); exact HO_9.out) hb); have n3_ := aM (Kd.R_lower (Kd.R_new' ho0 (Kd.R_lt (by (with_reducible repeat (first | apply rA | apply rN | apply rD)); exact HO_8.out))) (pZ (by repeat (first | (with_reducible first | exact HB.out | apply pA | apply pN | apply pD | refine pS ?_ GE590.out) | exact HB.out)))); have n4_ := aM (blk_below (g := gb590) (o := .cells #[.int .i64 a1_0, .int .i64 a1_1] 31 (0, 0)) (by (with_reducible repeat (first | refine kN ?_ _ | refine kD ?_ | refine kA ?_ _)); exact BK590.out) hb); have n5_ := aM (pT (by repeat (first | (with_reducible first | exact HB.out | apply pA | apply pN | apply pD | refine pS ?_ GE590.out) | exact HB.out)) hb); clear HO_6; clear HO_8; clear HO_9; clear BK590; clear HB; have HO_6 := n0_; have HO_8 := n1_; have HO_9 := n2_; have HO613 := n3_; have BK590 := n4_; have HB := n5_; clear n0_ n1_ n2_ n3_ n4_ n5_; (try clear hb); (try clear hb2); (try clear hk); (try clear hi); (try clear ho0); obtain ⟨Ao78, co78, eo78⟩ := Kd.R_slice HO613.out; subst eo78) | ((with_reducible refine gC (f := 29) rfl ?_); refine goesL_ (some 50) rfl rfl Try.func29 (by kernel_rfl) rfl #[.slice Ao22 t601.length co22, .slice Ao78 t611.length co78] rfl (by (try simp only [mA, mC, mN]); first | done | rfl | (simp only [lD, lT]; rfl)) ?_; (with_reducible refine (laws_eqPegS.calls kj11 _ _ t601 _ _ t611 false _ ?side1 ?side2 ?side3 ?side4 A32.out).mono ?_); (case side1 => repeat (first | exact (rR HO_8.out).2.2 | (with_reducible refine cA ?_ _) | (with_reducible refine cN ?_ _) | (with_reducible refine cD ?_))); (case side2 => exact (rR HO_8.out).2.1); (case side3 => repeat (first | exact (rR HO613.out).2.2 | (with_reducible refine cA ?_ _) | (with_reducible refine cN ?_ _) | (with_reducible refine cD ?_))); (case side4 => exact (rR HO613.out).2.1); rintro e w79 ⟨rfl, hb⟩; refine ⟨_, rfl, ?_⟩; have n0_ := aM (Kd.R_below (by (with_reducible repeat (first | apply rA | apply rN | apply rD)); exact HO_6.out) hb); have n1_ := aM (Kd.R_below (by (with_reducible repeat (first | apply rA | apply rN | apply rD)); exact HO_8.out) hb); have n2_ := aM (Kd.R_below (by (with_reducible repeat (first | apply rA | apply rN | apply rD)); exact HO_9.out) hb); have n3_ := aM (Kd.R_below (by (with_reducible repeat (first | apply rA | apply rN | apply rD)); exact HO613.out) hb); have n4_ := aM (blk_below (g := gb590) (o := .cells #[.int .i64 a1_0, .int .i64 a1_1] 31 (0, 0)) (by (with_reducible repeat (first | refine kN ?_ _ | refine kD ?_ | refine kA ?_ _)); exact BK590.out) hb); have n5_ := aM (pT (by repeat (first | (with_reducible first | exact HB.out | apply pA | apply pN | apply pD | refine pS ?_ GE590.out) | exact HB.out)) hb); clear HO_6; clear HO_8; clear HO_9; clear HO613; clear BK590; clear HB; have HO_6 := n0_; have HO_8 := n1_; have HO_9 := n2_; have HO613 := n3_; have BK590 := n4_; have HB := n5_; clear n0_ n1_ n2_ n3_ n4_ n5_; (try clear hb); (try clear hb2); (try clear hk); (try clear hi)))
      go_ret
      exact ⟨by first | rfl | (simp [errW_none, errW_some] <;> rfl) | (simp [*, errW_none, errW_some] <;> rfl), by repeat (first | (with_reducible first | exact HB.out | apply pA | apply pN | apply pD | refine pS ?_ GE590.out) | exact HB.out)⟩

def laws_FnExactPartsOfPeg.Pure : Prop := ∀ (l0 : List (S_laws_Peg)) (a1_0 : Int) (a1_1 : Int), OkL (fun y : S_laws_Peg => (okInt .i64) y.f0 ∧ (okInt .i64) y.f1) l0 → (Lit.int .i64 a1_0).wf = true → (Lit.int .i64 a1_1).wf = true → ∃ k, laws_FnExactPartsOfPeg.f k l0 a1_0 a1_1 = some true

end Go.Proofs.Ytiacfkilmknldaa.X
