-- thin
-- short
-- compact
import Derived.Test.YtfihohongkfibaaXA
import Derived.Test.YtfihohongkfibaaX0
import Derived.Test.YtfihohongkfibaaX6
import Derived.Test.YtfihohongkfibaaX7
namespace Go.Proofs.Ytfihohongkfibaa.X
open Go.RowKit Go.Proofs.Ytfihohongkfibaa.XW Go.Proofs.YtfihohongkfibaaW.PrintWords Go.Proofs.YtfihohongkfibaaW.PrintLast Go.Proofs.YtfihohongkfibaaW.PrintMore
attribute [local go_sem] max2_int min2_int max_two min_two max_three min_three max_four min_four   -- for this text's walks alone
set_option linter.unusedVariables false
set_option linter.unusedSimpArgs false

def spec_HeightsOfThree.l0 : Nat → Int → List (List Int) → List Int → Int → Int → Option ((List (List Int)) × Bool)
 | 0, _, _, _, _, _ => none
 | k + 1, x4, x5, x15, x16, x17 => if x17 < x16 then (if 0 ≤ x17 then (if x17 < (x15.length : Int) then ((spec_pgCommon.f k (wrap64 (x4 * x4)) (rd x15 x17)).bind fun t191 => (if t191 = 0 then (none) else (if x5.length < 5864062014805 then (spec_HeightsOfThree.l0 k x4 (x5 ++ [(([wrap64 (Int.tdiv (wrap64 (x4 * x4)) t191), wrap64 (Int.tdiv (rd x15 x17) t191)] : List Int))]) x15 x16 (wrap64 (x17 + 1))) else (none)))) else (none)) else (none)) else (some (x5, true))
def spec_HeightsOfThree.f (k : Nat) (l0 : List (S_impl_Peg)) : Option ((List (List Int)) × Bool) := (spec_trThree.f k l0).bind fun t185 => (if t185 = true then ((spec_pgArea.f k l0).bind fun t186 => ((spec_trSides.f l0).bind fun t187 => (spec_HeightsOfThree.l0 k t186 ([] : List (List Int)) t187 (t187.length : Int) 0))) else (some (([] : List (List Int)), false)))
theorem spec_HeightsOfThree.mono_l : ∀ k, (∀ y0 y1 y2 y3 y4, LeO (spec_HeightsOfThree.l0 k y0 y1 y2 y3 y4) (spec_HeightsOfThree.l0 (k + 1) y0 y1 y2 y3 y4))
 | 0 => fun _ _ _ _ _ r h => by simp [spec_HeightsOfThree.l0] at h
 | k + 1 => by
  have ih0 := spec_HeightsOfThree.mono_l k
  ·intro y0 y1 y2 y3 y4
   unfold spec_HeightsOfThree.l0
   repeat' first
   | (with_reducible exact ih0 _ _ _ _ _)
   | (with_reducible exact spec_pgArea.mono _ _)
   | (with_reducible exact spec_pgCommon.mono _ _ _)
   | (with_reducible exact spec_trThree.mono _ _)
   | (with_reducible exact LeO.refl _)
   | (with_reducible exact LeO.none _)
   | (with_reducible refine LeO.ite ?_ ?_)
   | (with_reducible refine LeO.bind ?_ (fun _ => ?_))
   | exact ih0 _ _ _ _ _
   | exact spec_pgArea.mono _ _
   | exact spec_pgCommon.mono _ _ _
   | exact spec_trThree.mono _ _
   | exact LeO.none _
   | refine LeO.ite ?_ ?_
   | refine LeO.bind ?_ (fun _ => ?_)
theorem spec_HeightsOfThree.mono : ∀ a0 k, LeO (spec_HeightsOfThree.f k a0) (spec_HeightsOfThree.f (k + 1) a0) := by
 intro a0 k
 have ih0 := spec_HeightsOfThree.mono_l k
 unfold spec_HeightsOfThree.f
 repeat' first | (with_reducible exact ih0 _ _ _ _ _) | (with_reducible exact spec_pgArea.mono _ _) | (with_reducible exact spec_pgCommon.mono _ _ _) | (with_reducible exact spec_trThree.mono _ _) | (with_reducible exact LeO.refl _) | (with_reducible exact LeO.none _) | (with_reducible refine LeO.ite ?_ ?_) | (with_reducible refine LeO.bind ?_ (fun _ => ?_)) | exact ih0 _ _ _ _ _ | exact spec_pgArea.mono _ _ | exact spec_pgCommon.mono _ _ _ | exact spec_trThree.mono _ _ | exact LeO.none _ | refine LeO.ite ?_ ?_ | refine LeO.bind ?_ (fun _ => ?_)
def spec_HeightsOfThree.T9 : Bool × List (List Nat × List Nat) := (true, [([], []), ([], []), ([], []), ([1, 2], [1, 2]), ([], []), ([3, 4], [3, 4]), ([], []), ([], []), ([6, 7], [6, 7]), ([5, 8], [5, 8]), ([9], [9]), ([0, 10], [0, 10]), ([11, 11, 0, 1, 2, 3, 4, 5, 6, 7, 8, 9, 10, 11], [0, 11])])
def spec_HeightsOfThree.B9 : List Nat := [0, 0, 0, 6, 0, 30, 0, 0, 192, 510, 1022, 2047, 4095]
theorem spec_HeightsOfThree.tab9 : rtab .any (opsOf Try.f27 9) = spec_HeightsOfThree.T9 := by kernel_rfl
theorem spec_HeightsOfThree.bits9 : waitsOk spec_HeightsOfThree.T9.2 spec_HeightsOfThree.B9 = true := by kernel_rfl
set_option maxHeartbeats 8000000 in
set_option maxRecDepth 100000 in
theorem spec_HeightsOfThree.calls (k : Nat) (A0 : Option Addr) (c0 : Nat) (l0 : List (S_impl_Peg)) (r1 : List (List Int)) (r2 : Bool) (w : World) (hr0 : Kd.C kd_impl_Peg w A0 l0.length l0) (hc0 : l0.length ≤ c0) (h : spec_HeightsOfThree.f k l0 = some (r1, r2)) :
  Calls Try.prog 27 #[.slice A0 l0.length c0] w fun e w' => ∃ v0_ : Value, e = .returned (.tuple #[v0_, .bool r2]) ∧ Kd.S (Kd.slice 3 (Kd.int .i64)) 77 w' w.heap.size (fun _ => True) v0_ r1 ∧ Below w.heap.size w w' := by
 have HR0 := aM hr0; have HC0 := aM hc0; clear hr0 hc0; have HB := aM (Below.refl w.heap.size w)
 unfold spec_HeightsOfThree.f at h; have H := h; clear h
 replace H := bS H; obtain ⟨t185, A2, H⟩ := H
 by_cases c3 : t185 = true
 ·subst c3; replace H := iT H; replace H := bS H; obtain ⟨t186, A4, H⟩ := H; replace H := bS H; obtain ⟨t187, A5, H⟩ := H; have H' := aM H; clear H
  go_enter Try.func27, Try.ntmps27
  go_wp2_with (first | ((with_reducible refine gC (f := 61) rfl ?_); refine goesL_ (some 10) rfl rfl Try.func61 kR rfl #[.slice A0 l0.length c0] rfl sQ ?_; (with_reducible refine (spec_trThree.calls k _ _ l0 true _ ?side1 ?side2 A2.out).mono ?_); (case side1 => repeat (first | exact HR0.out | (with_reducible refine cA ?_ _) | (with_reducible refine cN ?_ _) | (with_reducible refine cD ?_))); (case side2 => exact HC0.out); rintro e w6 ⟨rfl, hb⟩; refine ⟨_, rfl, ?_⟩; replace HB := tB HB hb; (try clear hb); (try clear hb2); (try clear hk); (try clear hi)) | ((with_reducible refine gC (f := 69) rfl ?_); refine goesL_ (some 13) rfl rfl Try.func69 kR rfl #[.slice A0 l0.length c0] rfl sQ ?_; (with_reducible refine (spec_pgArea.calls k _ _ l0 t186 _ ?side1 ?side2 A4.out).mono ?_); (case side1 => repeat (first | exact (Kd.C_below HR0.out HB.out) | (with_reducible refine cA ?_ _) | (with_reducible refine cN ?_ _) | (with_reducible refine cD ?_))); (case side2 => exact HC0.out); rintro e w7 ⟨rfl, hb⟩; refine ⟨_, rfl, ?_⟩; replace HB := tB HB hb; (try clear hb); (try clear hb2); (try clear hk); (try clear hi)) | ((with_reducible refine gC (f := 70) rfl ?_); refine goesL_ (some 15) rfl rfl Try.func70 kR rfl #[.slice A0 l0.length c0] rfl sQ ?_; (with_reducible refine (spec_trSides.calls _ _ l0 t187 _ ?side1 ?side2 A5.out).mono ?_); (case side1 => repeat (first | exact (Kd.C_below HR0.out HB.out) | (with_reducible refine cA ?_ _) | (with_reducible refine cN ?_ _) | (with_reducible refine cD ?_))); (case side2 => exact HC0.out); rintro e w8 ⟨v188, rfl, ho0, hb⟩; refine ⟨_, rfl, ?_⟩; have HO189 := aM (Kd.R_lower ho0 (pZ bQ)); replace HB := tB HB hb; (try clear hb); (try clear hb2); (try clear hk); (try clear hi); (try clear ho0); obtain ⟨Ao9, co9, eo9⟩ := Kd.R_slice HO189.out; subst eo9))
  go_loopg [5, 17] k (fun kq v5 v17 w' => ∃ (x5_1 : List (List Int)) (x17_1 : Int), v17 = .int .i64 x17_1 ∧ Aside0 (spec_HeightsOfThree.l0 kq t186 x5_1 t187 (t187.length : Int) x17_1 = some (r1, r2)) ∧ Aside0 (kq ≤ k) ∧ Aside0 (Kd.S (Kd.slice 3 (Kd.int .i64)) 77 w' w.heap.size (fun k_ => some k_ ≠ ((.slice Ao9 t187.length co9) : Value).ownBlock) v5 x5_1) ∧ Aside0 (Kd.R (Kd.int .i64) 3 w' w.heap.size (fun _ => True) (.slice Ao9 t187.length co9) t187) ∧ Aside0 (Below w.heap.size w w'))
  case atStart => exact ⟨(([] : List (List Int))), (0), eQ, H', ⟨Nat.le_refl _⟩, ⟨by first | exact Kd.S_nil _ _ _ _ _ | exact Kd.N_nil _ _ _ _ _ | exact Kd.V_nil _ _ _ _ _ | exact Kd.Q_nil _ _ _ _ _ | exact Kd.R_nil _ _ _ _ _⟩, ⟨by (with_reducible repeat (first | apply rA | apply rN | apply rD)); exact HO189.out⟩, ⟨bQ⟩⟩
  case round =>
   clear H'; (try clear c3); obtain ⟨x5_1, x17_1, rfl, HA, HK1, HO_5, HO_15, HB⟩ := hrel
   cases gk with
   | zero => exact absurd HA.out (by simp [spec_HeightsOfThree.l0])
   | succ k1 =>
    have H := HA.out; clear HA
    simp only [spec_HeightsOfThree.l0] at H
    by_cases c10 : x17_1 < (t187.length : Int)
    ·rw [if_pos c10] at H; have c10b0 := dE c10; clear c10; replace H := iD H; obtain ⟨c11b0, H⟩ := H; replace H := iD H; obtain ⟨c12b0, H⟩ := H; replace H := bS H; obtain ⟨t191, A13, H⟩ := H; replace H := iM H; obtain ⟨c14, H⟩ := H; have c14b0 : (t191 == 0) = false := beq_eq_false_iff_ne.mpr c14; have c14b1 : (t191 != 0) = true := bne_iff_ne.mpr c14; obtain ⟨y192, hy192⟩ : ∃ y_ : List Int, y_ = (([wrap64 (Int.tdiv (wrap64 (t186 * t186)) t191), wrap64 (Int.tdiv (rd t187 x17_1) t191)] : List Int)) := ⟨_, rfl⟩; rw [← hy192] at H; have Ny192 := aM hy192; clear hy192; replace H := iN H; obtain ⟨c15, H⟩ := H; have LMc15 := aM c15; clear c15; obtain ⟨y195, hy195⟩ : ∃ y_ : List (List Int), y_ = (x5_1 ++ [y192]) := ⟨_, rfl⟩; rw [← hy195] at H; have Ny195 := aM hy195; clear hy195; have H' := aM H; clear H; have p190 : 0 ≤ (x17_1 : Int) := dT aQ; have q190 : x17_1 < (t187.length : Int) := dT aQ; obtain ⟨ad190, e190, hx190_0⟩ := Kd.at_int (rR HO_15.out).2.2 x17_1 p190 q190
     cases e190
     replace p190 := eq_true p190; replace q190 := eq_true q190
     try go_wp2_with (first | ((with_reducible refine gC (f := 71) rfl ?_); refine goesL_ (some 25) rfl rfl Try.func71 kR rfl #[.int .i64 (wrap64 (t186 * t186)), .int .i64 (rd t187 x17_1)] rfl sQ ?_; (with_reducible refine (spec_pgCommon.calls k1 (wrap64 (t186 * t186)) (rd t187 x17_1) t191 _ A13.out).mono ?_); rintro e w' ⟨rfl, ⟨nd, rfl⟩⟩; refine ⟨_, rfl, ?_⟩))
     (try (rw [drewN_self wr]; generalize hq_ : World.drewN wr _ = wr; have n0_ : Aside0 (Kd.R (Kd.int .i64) 3 wr w.heap.size (fun _ => True) (.slice (some ad190) t187.length co9) t187) := ⟨by rw [← hq_]; exact (by (with_reducible repeat (first | apply rA | apply rN | apply rD)); exact HO_15.out)⟩; have n1_ : Aside0 (Kd.S (Kd.slice 3 (Kd.int .i64)) 77 wr w.heap.size (fun k_ => some k_ ≠ (.slice (some ad190) t187.length co9 : Value).ownBlock) u5 x5_1) := ⟨by rw [← hq_]; exact (by (with_reducible repeat (first | apply Kd.S_alloc | apply Kd.S_drewN | apply Kd.S_drew)); exact HO_5.out)⟩; have n2_ : Aside0 (Below w.heap.size w wr) := ⟨by rw [← hq_]; exact bQ⟩; clear HO_15 HO_5 HB hq_; have HO_15 := n0_; have HO_5 := n1_; have HB := n2_; clear n0_ n1_ n2_))
     replace HO_5 := aM (Kd.S_drew HO_5.out); replace HO_15 := aM (rD HO_15.out); replace HB := aM (pD HB.out)
     refine start_ (n := 13) (S := fun w' => True) (ds := []) (bA 13 0) kR rfl kR trivial (fun hHeld => ?_); refine with_tabW spec_HeightsOfThree.tab9 spec_HeightsOfThree.bits9 (fun HT_ HW_ => ?_)
     generalize wr.drew = w16 at HO_5 HO_15 HB hHeld ⊢
     refine pU 0 26 (bA 13 1) HT_ ?_; refine pU 1 27 (bA 13 3) HT_ ?_; refine pU 2 28 (bA 13 7) HT_ ?_; refine pU 3 29 (bA 13 15) HT_ ?_; refine pU 4 30 (bA 13 31) HT_ ?_; refine pU 5 31 (bA 13 63) HT_ ?_; refine pU 6 32 (bA 13 127) HT_ ?_; refine pU 7 33 (bA 13 255) HT_ ?_; refine pU 8 34 (bA 13 511) HT_ ?_
     refine oU 9 35 (bA 13 1023) HT_ (fun K hK => ?_)
     refine Kd.R_lit_step (Kd.int .i64) _ 3 ?hg (N := 35) ?hd (xs := ([wrap64 (Int.tdiv (wrap64 (t186 * t186)) t191), wrap64 (Int.tdiv (rd t187 x17_1) t191)] : List Int)) (inner := [.int .i64 (wrap64 (Int.tdiv (wrap64 (t186 * t186)) t191)), .int .i64 (wrap64 (Int.tdiv (rd t187 x17_1) t191))]) (ok := fun _ => True) (okp := fun _ => True) ?hr ?hp (fun _ hk => hk) trivial (Below.refl _ _) (Nat.le_refl _) (by simp) ?_; (case hd => rfl); (case hg => rfl); (case hr => first | (go_simp; done) | (go_simp; rfl)); (case hp => exact (Reps.one (show Kd.M (Kd.int .i64) _ _ _ (wrap64 (Int.tdiv (wrap64 (t186 * t186)) t191)) [.int .i64 (wrap64 (Int.tdiv (wrap64 (t186 * t186)) t191))] from rfl) (Reps.one (show Kd.M (Kd.int .i64) _ _ _ (wrap64 (Int.tdiv (rd t187 x17_1) t191)) [.int .i64 (wrap64 (Int.tdiv (rd t187 x17_1) t191))] from rfl) (Reps.none _ _))))
     intro v193 w17 ho18 hb hg_ hnew_
     clear hg_ hnew_
     (first | rw [← Ny192.out] at ho18 | (simp only [Int.reduceToNat] at ho18; rw [← Ny192.out] at ho18))
     have HO194 := aM (Kd.R_lower (Kd.R_new' ho18 (Kd.R_lt (by (with_reducible repeat (first | apply rA | apply rN | apply rD)); exact HO_15.out))) (pZ bQ)); replace HO_5 := aM (Kd.S_elder' (by (with_reducible repeat (first | apply Kd.S_alloc | apply Kd.S_drewN | apply Kd.S_drew)); exact HO_5.out) (Kd.R_base ho18) hb); replace HO_15 := aM (Kd.R_elder' (by (with_reducible repeat (first | apply rA | apply rN | apply rD)); exact HO_15.out) (Kd.R_base ho18) hb); replace HB := tB HB hb
     clear hb ho18; obtain ⟨Ao20, co20, eo20⟩ := Kd.R_slice HO194.out
     (first | subst eo20 | (injection eo20 with f1_ f2_ f3_; have f4_ := f1_.symm; have f5_ := f3_.symm; clear f1_ f2_ f3_; subst f4_; subst f5_))
     refine hK.out _ _ trivial (fun hHeld => ?_)
     clear hK K
     refine nU ?_
     refine oU 10 36 (bA 13 2047) HT_ (fun K hK => ?_)
     refine value_ (w1 := ?_) (v := ?_) (by rfl) rfl ?_ ?_
     rotate_left 2
     ·go_simp
      constructor
      ·rfl
      ·rfl
     refine hK.out _ _ trivial (fun hHeld => ?_)
     clear hK K
     refine nU ?_
     refine oU 11 37 (bA 13 4095) HT_ (fun K hK => ?_)
     refine Kd.S_append_step (Kd.slice 3 (Kd.int .i64)) (w0 := w) w.heap.size (by rfl) (.tmp 26) (.tmp 36) 39 77 (.slice none 0 0) 24 rfl Try.underlying39 info77 rfl (by decide) (by omega) u5 x5_1 y192 [.slice Ao20 y192.length co20] (fun k_ => some k_ ≠ (.slice (some ad190) t187.length co9 : Value).ownBlock) (fun k_ => some k_ = (.slice Ao20 y192.length co20 : Value).ownBlock) rfl rfl ?aP (fun k_ hk_ => ((Kd.R_mono (ok' := fun k_ => ((fun k_ => some k_ ≠ (.slice (some ad190) t187.length co9 : Value).ownBlock)) k_ ∧ some k_ ≠ (u5 : Value).ownBlock) (Kd.R_apart' (HO194.out) (Kd.S_typed HO_5.out) (by decide)) (fun k_ hk => ⟨hk.1.2, hk.2⟩))).1 k_ hk_.symm) ?aF ?aO ?aB ?aS ?aL ?_
     (case aP => exact Kd.M_row (Kd.R_mono (Kd.R_tight rfl (Kd.R_mono (ok' := fun k_ => ((fun k_ => some k_ ≠ (.slice (some ad190) t187.length co9 : Value).ownBlock)) k_ ∧ some k_ ≠ (u5 : Value).ownBlock) (Kd.R_apart' (HO194.out) (Kd.S_typed HO_5.out) (by decide)) (fun k_ hk => ⟨hk.1.2, hk.2⟩))) (fun _ h_ => h_)))
     (case aB => exact bQ)
     (case aF => exact (fun k_ hk => Kd.fresh' (Kd.R_lt (by (with_reducible repeat (first | apply rA | apply rN | apply rD)); exact HO_15.out)) k_ hk))
     (case aO => exact (by (with_reducible repeat (first | apply Kd.S_alloc | apply Kd.S_drewN | apply Kd.S_drew)); exact Kd.S_mono HO_5.out (fun k_ hk => ⟨hk.1, fun e_ => hk.2 e_⟩)))
     (case aS => exact (pZ bQ))
     (case aL => have := LMc15.out; omega)
     intro v196 w19 ho hb hg hat
     rw [← Ny195.out] at ho; have n0_ := aM (Kd.R_over' (by (with_reducible repeat (first | apply rA | apply rN | apply rD)); exact HO_15.out) (Kd.S_typed (by (with_reducible repeat (first | apply Kd.S_alloc | apply Kd.S_drewN | apply Kd.S_drew)); exact HO_5.out)) (by decide) hg)
     have n1_ := aM (hb); have n2_ := aM (ho); clear HO_15; clear HB; clear HO_5; clear HO194; have HO_15 := n0_; have HB := n1_; have HO197 := n2_; clear n0_ n1_ n2_; clear ho hb hg hat
     refine hK.out _ _ trivial (fun hHeld => ?_)
     clear hK K
     refine nU ?_
     refine pU 12 5 (bA 13 8191) HT_ ?_
     refine done_ (done_of HT_.out kR) ?_
     try go_wp2
     go_roundg k1
     case measure => have := HK1.out; omega
     case rel => exact ⟨(y195), (wrap64 (x17_1 + 1)), eQ, H', ⟨by have := HK1.out; omega⟩, ⟨by (with_reducible repeat (first | apply Kd.S_alloc | apply Kd.S_drewN | apply Kd.S_drew)); exact HO197.out⟩, ⟨by (with_reducible repeat (first | apply rA | apply rN | apply rD)); exact Kd.R_mono HO_15.out (fun _ hk => trivial)⟩, ⟨bQ⟩⟩
    ·rw [if_neg c10] at H; have c10b0 := decide_eq_false c10; clear c10
     simp only [Option.some.injEq, Prod.mk.injEq] at H
     obtain ⟨rfl, rfl⟩ := H; go_wp2
     go_ret2
     exact ⟨_, by first | rfl | (simp [errW_none, errW_some] <;> rfl) | (simp [*, errW_none, errW_some] <;> rfl), by (with_reducible repeat (first | apply Kd.S_alloc | apply Kd.S_drewN | apply Kd.S_drew)); exact Kd.S_mono HO_5.out (fun _ hk => trivial), bQ⟩
 ·replace c3 := Bool.eq_false_iff.mpr c3; subst c3; replace H := iF H
  simp only [Option.some.injEq, Prod.mk.injEq] at H
  obtain ⟨rfl, rfl⟩ := H
  go_enter Try.func27, Try.ntmps27
  go_wp2_with (first | ((with_reducible refine gC (f := 61) rfl ?_); refine goesL_ (some 10) rfl rfl Try.func61 kR rfl #[.slice A0 l0.length c0] rfl sQ ?_; (with_reducible refine (spec_trThree.calls k _ _ l0 false _ ?side1 ?side2 A2.out).mono ?_); (case side1 => repeat (first | exact HR0.out | (with_reducible refine cA ?_ _) | (with_reducible refine cN ?_ _) | (with_reducible refine cD ?_))); (case side2 => exact HC0.out); rintro e w21 ⟨rfl, hb⟩; refine ⟨_, rfl, ?_⟩; replace HB := tB HB hb; (try clear hb); (try clear hb2); (try clear hk); (try clear hi)))
  go_ret2
  exact ⟨_, by first | rfl | (simp [errW_none, errW_some] <;> rfl) | (simp [*, errW_none, errW_some] <;> rfl), by first | exact Kd.S_nil _ _ _ _ _ | exact Kd.N_nil _ _ _ _ _ | exact Kd.V_nil _ _ _ _ _ | exact Kd.Q_nil _ _ _ _ _ | exact Kd.R_nil _ _ _ _ _, bQ⟩

def impl_within.f (a0 : Int) (a1 : Int) (a2 : Int) : Option (Bool) := if a0 ≥ a1 then (some (decide (a0 ≤ a2))) else (some false)
set_option maxHeartbeats 8000000 in
set_option maxRecDepth 100000 in
theorem impl_within.calls (a0 : Int) (a1 : Int) (a2 : Int) (r : Bool) (w : World) (h : impl_within.f a0 a1 a2 = some r) :
  Calls Try.prog 63 #[.int .i64 a0, .int .i64 a1, .int .i64 a2] w fun e w' => e = .returned (.bool r) ∧ Drawn0 w w' := by
 unfold impl_within.f at h; have H := h; clear h
 by_cases c4 : a0 ≥ a1
 ·rw [if_pos c4] at H; have c4b0 := dE c4; clear c4; obtain rfl := Option.some.inj H
  go_enter Try.func63, Try.ntmps63
  go_wp2
  go_ret
  exact ⟨eQ, dQ⟩
 ·rw [if_neg c4] at H; have c4b0 := decide_eq_false c4; clear c4; obtain rfl := Option.some.inj H
  go_enter Try.func63, Try.ntmps63
  go_wp2
  go_ret
  exact ⟨eQ, dQ⟩

-- NOT PRINTED: function 145 (slices_IndexFunc_impl_Peg)

-- NOT PRINTED: function 131 (slices_ContainsFunc_impl_Peg)

def impl_IsPeg.f (a0_0 : Int) (a0_1 : Int) : Option (Bool) := (impl_within.f a0_0 (-40) 40).bind fun t199 => (if t199 = true then ((impl_within.f a0_1 (-40) 40).bind fun t200 => (some t200)) else (some false))
set_option maxHeartbeats 8000000 in
set_option maxRecDepth 100000 in
theorem impl_IsPeg.calls (a0_0 : Int) (a0_1 : Int) (r : Bool) (w : World) (h : impl_IsPeg.f a0_0 a0_1 = some r) :
  Calls Try.prog 80 #[.agg #[.int .i64 a0_0, .int .i64 a0_1]] w fun e w' => e = .returned (.bool r) ∧ Below w.heap.size w w' := by
 have hu50 := Try.underlying50; have HB := aM (Below.refl w.heap.size w)
 unfold impl_IsPeg.f at h; have H := h; clear h
 replace H := bS H; obtain ⟨t199, A2, H⟩ := H
 by_cases c3 : t199 = true
 ·subst c3; replace H := iT H; replace H := bS H; obtain ⟨t200, A4, H⟩ := H; obtain rfl := Option.some.inj H
  go_enter Try.func80, Try.ntmps80
  go_wp2_with (first | ((with_reducible refine gate_dst (N := 1) rfl ?_); refine bV 1 (cs := #[.int .i64 a0_0, .int .i64 a0_1]) (t := 50) rfl rfl (by first | (go_simp; done) | (go_simp; rfl)) ?_; intro gb198 hg w5 hbox hb; have BK198 := hbox; have GW198 := gZ HB hg; have GE198 := gZ HB hg; replace HB := tB HB hb; clear hb hbox hg; have hcz6_0 := vZ0 BK198; have hcz6_1 := vZ1 BK198; have hfz6_0 := kF BK198.out 0; have hfz6_1 := kF BK198.out 1) | ((with_reducible refine gC (f := 63) rfl ?_); refine goesL_ (some 5) rfl rfl Try.func63 kR rfl #[.int .i64 a0_0, .int .i64 (-40), .int .i64 40] rfl sQ ?_; (with_reducible refine (impl_within.calls a0_0 (-40) 40 true _ A2.out).mono ?_); rintro e w' ⟨rfl, ⟨nd, rfl⟩⟩; refine ⟨_, rfl, ?_⟩) | (go_at_call 63; (with_reducible refine (impl_within.calls a0_1 (-40) 40 t200 _ A4.out).mono ?_); rintro e w' ⟨rfl, ⟨nd, rfl⟩⟩))
  go_ret
  exact ⟨wQ, bE⟩
 ·replace c3 := Bool.eq_false_iff.mpr c3; subst c3; replace H := iF H; obtain rfl := Option.some.inj H
  go_enter Try.func80, Try.ntmps80
  go_wp2_with (first | ((with_reducible refine gate_dst (N := 1) rfl ?_); refine bV 1 (cs := #[.int .i64 a0_0, .int .i64 a0_1]) (t := 50) rfl rfl (by first | (go_simp; done) | (go_simp; rfl)) ?_; intro gb198 hg w7 hbox hb; have BK198 := hbox; have GW198 := gZ HB hg; have GE198 := gZ HB hg; replace HB := tB HB hb; clear hb hbox hg; have hcz8_0 := vZ0 BK198; have hcz8_1 := vZ1 BK198; have hfz8_0 := kF BK198.out 0; have hfz8_1 := kF BK198.out 1) | ((with_reducible refine gC (f := 63) rfl ?_); refine goesL_ (some 5) rfl rfl Try.func63 kR rfl #[.int .i64 a0_0, .int .i64 (-40), .int .i64 40] rfl sQ ?_; (with_reducible refine (impl_within.calls a0_0 (-40) 40 false _ A2.out).mono ?_); rintro e w' ⟨rfl, ⟨nd, rfl⟩⟩; refine ⟨_, rfl, ?_⟩))
  go_ret
  exact ⟨wQ, bE⟩

def impl_arePegs_1.f (a0_0 : Int) (a0_1 : Int) : Option (Bool) := (impl_IsPeg.f a0_0 a0_1).bind fun t202 => (some (!t202))
set_option maxHeartbeats 8000000 in
set_option maxRecDepth 100000 in
theorem impl_arePegs_1.calls (a0_0 : Int) (a0_1 : Int) (r : Bool) (w : World) (h : impl_arePegs_1.f a0_0 a0_1 = some r) :
  Calls Try.prog 132 #[.agg #[.int .i64 a0_0, .int .i64 a0_1]] w fun e w' => e = .returned (.bool r) ∧ Below w.heap.size w w' := by
 have hu50 := Try.underlying50; have HB := aM (Below.refl w.heap.size w)
 unfold impl_arePegs_1.f at h; have H := h; clear h
 replace H := bS H; obtain ⟨t202, A2, H⟩ := H; obtain rfl := Option.some.inj H
 go_enter Try.func132, Try.ntmps132
 go_wp2_with (first | ((with_reducible refine gate_dst (N := 1) rfl ?_); refine bV 1 (cs := #[.int .i64 a0_0, .int .i64 a0_1]) (t := 50) rfl rfl (by first | (go_simp; done) | (go_simp; rfl)) ?_; intro gb201 hg w3 hbox hb; have BK201 := hbox; have GW201 := gZ HB hg; have GE201 := gZ HB hg; replace HB := tB HB hb; clear hb hbox hg; have hcz4_0 := vZ0 BK201; have hcz4_1 := vZ1 BK201; have hfz4_0 := kF BK201.out 0; have hfz4_1 := kF BK201.out 1) | ((with_reducible refine gC (f := 80) rfl ?_); refine goesL_ (some 4) rfl rfl Try.func80 kR rfl #[.agg #[.int .i64 a0_0, .int .i64 a0_1]] rfl sQ ?_; (with_reducible refine (impl_IsPeg.calls a0_0 a0_1 t202 _ A2.out).mono ?_); rintro e w5 ⟨rfl, hb⟩; refine ⟨_, rfl, ?_⟩; replace BK201 := bB BK201 hb; replace HB := tB HB hb; (try clear hb); (try clear hb2); (try clear hk); (try clear hi)))
 go_ret
 exact ⟨wQ, bE⟩

def slices_IndexFunc_impl_Peg_at_impl_arePegs_1.l0 : Nat → List (S_impl_Peg) → Int → Int → Option (Int)
 | 0, _, _, _ => none
 | k + 1, x0, x7, x8 => if x8 < x7 then (if 0 ≤ x8 then (if x8 < (x0.length : Int) then ((impl_arePegs_1.f ((rd_impl_Peg x0 x8).f0) ((rd_impl_Peg x0 x8).f1)).bind fun t204 => (if t204 = true then (some x8) else (slices_IndexFunc_impl_Peg_at_impl_arePegs_1.l0 k x0 x7 (wrap64 (x8 + 1))))) else (none)) else (none)) else (some (-1))
def slices_IndexFunc_impl_Peg_at_impl_arePegs_1.f (k : Nat) (l0 : List (S_impl_Peg)) : Option (Int) := slices_IndexFunc_impl_Peg_at_impl_arePegs_1.l0 k l0 (l0.length : Int) 0
theorem slices_IndexFunc_impl_Peg_at_impl_arePegs_1.mono_l : ∀ k, (∀ y0 y1 y2, LeO (slices_IndexFunc_impl_Peg_at_impl_arePegs_1.l0 k y0 y1 y2) (slices_IndexFunc_impl_Peg_at_impl_arePegs_1.l0 (k + 1) y0 y1 y2))
 | 0 => fun _ _ _ r h => by simp [slices_IndexFunc_impl_Peg_at_impl_arePegs_1.l0] at h
 | k + 1 => by
  have ih0 := slices_IndexFunc_impl_Peg_at_impl_arePegs_1.mono_l k
  ·intro y0 y1 y2
   unfold slices_IndexFunc_impl_Peg_at_impl_arePegs_1.l0
   repeat' first
   | (with_reducible exact ih0 _ _ _)
   | (with_reducible exact LeO.refl _)
   | (with_reducible exact LeO.none _)
   | (with_reducible refine LeO.ite ?_ ?_)
   | (with_reducible refine LeO.bind ?_ (fun _ => ?_))
   | exact ih0 _ _ _
   | exact LeO.none _
   | refine LeO.ite ?_ ?_
   | refine LeO.bind ?_ (fun _ => ?_)
theorem slices_IndexFunc_impl_Peg_at_impl_arePegs_1.mono : ∀ a0 k, LeO (slices_IndexFunc_impl_Peg_at_impl_arePegs_1.f k a0) (slices_IndexFunc_impl_Peg_at_impl_arePegs_1.f (k + 1) a0) := by
 intro a0 k
 have ih0 := slices_IndexFunc_impl_Peg_at_impl_arePegs_1.mono_l k
 unfold slices_IndexFunc_impl_Peg_at_impl_arePegs_1.f
 repeat' first | (with_reducible exact ih0 _ _ _) | (with_reducible exact LeO.refl _) | (with_reducible exact LeO.none _) | (with_reducible refine LeO.ite ?_ ?_) | (with_reducible refine LeO.bind ?_ (fun _ => ?_)) | exact ih0 _ _ _ | exact LeO.none _ | refine LeO.ite ?_ ?_ | refine LeO.bind ?_ (fun _ => ?_)
set_option maxHeartbeats 8000000 in
set_option maxRecDepth 100000 in
theorem slices_IndexFunc_impl_Peg_at_impl_arePegs_1.calls (k : Nat) (A0 : Option Addr) (c0 : Nat) (l0 : List (S_impl_Peg)) (r : Int) (w : World) (hr0 : Kd.C kd_impl_Peg w A0 l0.length l0) (hc0 : l0.length ≤ c0) (h : slices_IndexFunc_impl_Peg_at_impl_arePegs_1.f k l0 = some r) :
  Calls Try.prog 145 #[.slice A0 l0.length c0, .func (.func 132) #[] #[]] w fun e w' => e = .returned (.int .i64 r) ∧ Below w.heap.size w w' := by
 have hu50 := Try.underlying50; have HR0 := aM hr0; have HC0 := aM hc0; clear hr0 hc0; have HB := aM (Below.refl w.heap.size w)
 unfold slices_IndexFunc_impl_Peg_at_impl_arePegs_1.f at h; have H := h; clear h
 have H' := aM H; clear H
 go_enter Try.func145, Try.ntmps145
 go_wp2
 go_loopg [8] k (fun kq v8 w' => ∃ (x8_1 : Int), v8 = .int .i64 x8_1 ∧ Aside0 (slices_IndexFunc_impl_Peg_at_impl_arePegs_1.l0 kq l0 (l0.length : Int) x8_1 = some r) ∧ Aside0 (kq ≤ k) ∧ Aside0 (Below w.heap.size w w'))
 case atStart => exact ⟨(0), eQ, H', ⟨Nat.le_refl _⟩, ⟨bQ⟩⟩
 case round =>
  clear H'; obtain ⟨x8_1, rfl, HA, HK1, HB⟩ := hrel
  cases gk with
  | zero => exact absurd HA.out (by simp [slices_IndexFunc_impl_Peg_at_impl_arePegs_1.l0])
  | succ k1 =>
   have H := HA.out; clear HA
   simp only [slices_IndexFunc_impl_Peg_at_impl_arePegs_1.l0] at H
   by_cases c2 : x8_1 < (l0.length : Int)
   ·rw [if_pos c2] at H; have c2b0 := dE c2; clear c2; replace H := iD H; obtain ⟨c3b0, H⟩ := H; replace H := iD H; obtain ⟨c4b0, H⟩ := H; replace H := bS H; obtain ⟨t204, A5, H⟩ := H
    by_cases c6 : t204 = true
    ·subst c6; replace H := iT H; obtain rfl := Option.some.inj H; have p203 : 0 ≤ (x8_1 : Int) := dT aQ; have q203 : x8_1 < (l0.length : Int) := dT aQ; obtain ⟨ad203, e203, hx203_0, hx203_1⟩ := at_impl_Peg HR0.out x8_1 p203 q203
     cases e203
     replace hx203_0 := hC HB hx203_0; replace hx203_1 := hC HB hx203_1; replace p203 := eq_true p203; replace q203 := eq_true q203
     go_wp2_with (first | ((with_reducible refine gate_tmp rfl ?_); refine goesLT_ (some 16) rfl rfl Try.func132 kR rfl #[.agg #[.int .i64 ((rd_impl_Peg l0 x8_1).f0), .int .i64 ((rd_impl_Peg l0 x8_1).f1)]] rfl (by first | rfl | (simp [Act.eval]; done)) sQ ?_; (with_reducible refine (impl_arePegs_1.calls ((rd_impl_Peg l0 x8_1).f0) ((rd_impl_Peg l0 x8_1).f1) true _ A5.out).mono ?_); rintro e w7 ⟨rfl, hb⟩; refine ⟨_, rfl, ?_⟩; replace HB := tB HB hb; (try clear hb); (try clear hb2); (try clear hk); (try clear hi)))
     go_ret
     exact ⟨wQ, bQ⟩
    ·replace c6 := Bool.eq_false_iff.mpr c6; subst c6; replace H := iF H; have H' := aM H; clear H; have p203 : 0 ≤ (x8_1 : Int) := dT aQ; have q203 : x8_1 < (l0.length : Int) := dT aQ; obtain ⟨ad203, e203, hx203_0, hx203_1⟩ := at_impl_Peg HR0.out x8_1 p203 q203
     cases e203
     replace hx203_0 := hC HB hx203_0; replace hx203_1 := hC HB hx203_1; replace p203 := eq_true p203; replace q203 := eq_true q203
     go_wp2_with (first | ((with_reducible refine gate_tmp rfl ?_); refine goesLT_ (some 16) rfl rfl Try.func132 kR rfl #[.agg #[.int .i64 ((rd_impl_Peg l0 x8_1).f0), .int .i64 ((rd_impl_Peg l0 x8_1).f1)]] rfl (by first | rfl | (simp [Act.eval]; done)) sQ ?_; (with_reducible refine (impl_arePegs_1.calls ((rd_impl_Peg l0 x8_1).f0) ((rd_impl_Peg l0 x8_1).f1) false _ A5.out).mono ?_); rintro e w8 ⟨rfl, hb⟩; refine ⟨_, rfl, ?_⟩; replace HB := tB HB hb; (try clear hb); (try clear hb2); (try clear hk); (try clear hi)))
     go_roundg k1
     case measure => have := HK1.out; omega
     case rel => exact ⟨(wrap64 (x8_1 + 1)), eQ, H', ⟨by have := HK1.out; omega⟩, ⟨bQ⟩⟩
   ·rw [if_neg c2] at H; have c2b0 := decide_eq_false c2; clear c2; obtain rfl := Option.some.inj H; go_wp2
    go_ret
    exact ⟨wQ, bQ⟩

def slices_ContainsFunc_impl_Peg_at_impl_arePegs_1.f (k : Nat) (l0 : List (S_impl_Peg)) : Option (Bool) := (slices_IndexFunc_impl_Peg_at_impl_arePegs_1.f k l0).bind fun t205 => (some (decide (t205 ≥ 0)))
theorem slices_ContainsFunc_impl_Peg_at_impl_arePegs_1.mono : ∀ a0 k, LeO (slices_ContainsFunc_impl_Peg_at_impl_arePegs_1.f k a0) (slices_ContainsFunc_impl_Peg_at_impl_arePegs_1.f (k + 1) a0) := by
 intro a0 k
 unfold slices_ContainsFunc_impl_Peg_at_impl_arePegs_1.f
 repeat' first | (with_reducible exact slices_IndexFunc_impl_Peg_at_impl_arePegs_1.mono _ _) | (with_reducible exact LeO.refl _) | (with_reducible exact LeO.none _) | (with_reducible refine LeO.ite ?_ ?_) | (with_reducible refine LeO.bind ?_ (fun _ => ?_)) | exact slices_IndexFunc_impl_Peg_at_impl_arePegs_1.mono _ _ | exact LeO.none _ | refine LeO.ite ?_ ?_ | refine LeO.bind ?_ (fun _ => ?_)
set_option maxHeartbeats 8000000 in
set_option maxRecDepth 100000 in
theorem slices_ContainsFunc_impl_Peg_at_impl_arePegs_1.calls (k : Nat) (A0 : Option Addr) (c0 : Nat) (l0 : List (S_impl_Peg)) (r : Bool) (w : World) (hr0 : Kd.C kd_impl_Peg w A0 l0.length l0) (hc0 : l0.length ≤ c0) (h : slices_ContainsFunc_impl_Peg_at_impl_arePegs_1.f k l0 = some r) :
  Calls Try.prog 131 #[.slice A0 l0.length c0, .func (.func 132) #[] #[]] w fun e w' => e = .returned (.bool r) ∧ Below w.heap.size w w' := by
 have HR0 := aM hr0; have HC0 := aM hc0; clear hr0 hc0; have HB := aM (Below.refl w.heap.size w)
 unfold slices_ContainsFunc_impl_Peg_at_impl_arePegs_1.f at h; have H := h; clear h
 replace H := bS H; obtain ⟨t205, A2, H⟩ := H; obtain rfl := Option.some.inj H
 go_enter Try.func131, Try.ntmps131
 go_wp2_with (first | ((with_reducible refine gC (f := 145) rfl ?_); refine goesL_ (some 7) rfl rfl Try.func145 kR rfl #[.slice A0 l0.length c0, .func (.func 132) #[] #[]] rfl sQ ?_; (with_reducible refine (slices_IndexFunc_impl_Peg_at_impl_arePegs_1.calls k _ _ l0 t205 _ ?side1 ?side2 A2.out).mono ?_); (case side1 => repeat (first | exact HR0.out | (with_reducible refine cA ?_ _) | (with_reducible refine cN ?_ _) | (with_reducible refine cD ?_))); (case side2 => exact HC0.out); rintro e w3 ⟨rfl, hb⟩; refine ⟨_, rfl, ?_⟩; replace HB := tB HB hb; (try clear hb); (try clear hb2); (try clear hk); (try clear hi)))
 go_ret
 exact ⟨wQ, bQ⟩

def impl_arePegs.f (k : Nat) (l0 : List (S_impl_Peg)) : Option (Bool) := (slices_ContainsFunc_impl_Peg_at_impl_arePegs_1.f k l0).bind fun t206 => (some (!t206))
theorem impl_arePegs.mono : ∀ a0 k, LeO (impl_arePegs.f k a0) (impl_arePegs.f (k + 1) a0) := by
 intro a0 k
 unfold impl_arePegs.f
 repeat' first | (with_reducible exact slices_ContainsFunc_impl_Peg_at_impl_arePegs_1.mono _ _) | (with_reducible exact LeO.refl _) | (with_reducible exact LeO.none _) | (with_reducible refine LeO.ite ?_ ?_) | (with_reducible refine LeO.bind ?_ (fun _ => ?_)) | exact slices_ContainsFunc_impl_Peg_at_impl_arePegs_1.mono _ _ | exact LeO.none _ | refine LeO.ite ?_ ?_ | refine LeO.bind ?_ (fun _ => ?_)
set_option maxHeartbeats 8000000 in
set_option maxRecDepth 100000 in
theorem impl_arePegs.calls (k : Nat) (A0 : Option Addr) (c0 : Nat) (l0 : List (S_impl_Peg)) (r : Bool) (w : World) (hr0 : Kd.C kd_impl_Peg w A0 l0.length l0) (hc0 : l0.length ≤ c0) (h : impl_arePegs.f k l0 = some r) :
  Calls Try.prog 90 #[.slice A0 l0.length c0] w fun e w' => e = .returned (.bool r) ∧ Below w.heap.size w w' := by
 have HR0 := aM hr0; have HC0 := aM hc0; clear hr0 hc0; have HB := aM (Below.refl w.heap.size w)
 unfold impl_arePegs.f at h; have H := h; clear h
 replace H := bS H; obtain ⟨t206, A2, H⟩ := H; obtain rfl := Option.some.inj H
 go_enter Try.func90, Try.ntmps90
 go_wp2_with (first | ((with_reducible refine gC (f := 131) rfl ?_); refine goesL_ (some 4) rfl rfl Try.func131 kR rfl #[.slice A0 l0.length c0, .func (.func 132) #[] #[]] rfl sQ ?_; (with_reducible refine (slices_ContainsFunc_impl_Peg_at_impl_arePegs_1.calls k _ _ l0 t206 _ ?side1 ?side2 A2.out).mono ?_); (case side1 => repeat (first | exact HR0.out | (with_reducible refine cA ?_ _) | (with_reducible refine cN ?_ _) | (with_reducible refine cD ?_))); (case side2 => exact HC0.out); rintro e w3 ⟨rfl, hb⟩; refine ⟨_, rfl, ?_⟩; replace HB := tB HB hb; (try clear hb); (try clear hb2); (try clear hk); (try clear hi)))
 go_ret
 exact ⟨wQ, bQ⟩

def impl_at.f (l0 : List (S_impl_Peg)) (a1 : Int) : Option (Int × Int) := if (l0.length : Int) = 0 then (none) else (if 0 ≤ (Int.tmod (wrap64 ((Int.tmod a1 (l0.length : Int)) + (l0.length : Int))) (l0.length : Int)) then (if (Int.tmod (wrap64 ((Int.tmod a1 (l0.length : Int)) + (l0.length : Int))) (l0.length : Int)) < (l0.length : Int) then (some ((rd_impl_Peg l0 (Int.tmod (wrap64 ((Int.tmod a1 (l0.length : Int)) + (l0.length : Int))) (l0.length : Int))).f0, (rd_impl_Peg l0 (Int.tmod (wrap64 ((Int.tmod a1 (l0.length : Int)) + (l0.length : Int))) (l0.length : Int))).f1)) else (none)) else (none))
set_option maxHeartbeats 8000000 in
set_option maxRecDepth 100000 in
theorem impl_at.calls (A0 : Option Addr) (c0 : Nat) (l0 : List (S_impl_Peg)) (a1 : Int) (r1 : Int) (r2 : Int) (w : World) (hr0 : Kd.C kd_impl_Peg w A0 l0.length l0) (hc0 : l0.length ≤ c0) (h : impl_at.f l0 a1 = some (r1, r2)) :
  Calls Try.prog 106 #[.slice A0 l0.length c0, .int .i64 a1] w fun e w' => e = .returned (.agg #[.int .i64 r1, .int .i64 r2]) ∧ Below w.heap.size w w' := by
 have hu50 := Try.underlying50; have HR0 := aM hr0; have HC0 := aM hc0; clear hr0 hc0; have HB := aM (Below.refl w.heap.size w)
 unfold impl_at.f at h; have H := h; clear h
 replace H := iM H; obtain ⟨c3, H⟩ := H; have c3b0 : ((l0.length : Int) == 0) = false := beq_eq_false_iff_ne.mpr c3; have c3b1 : ((l0.length : Int) != 0) = true := bne_iff_ne.mpr c3; have c3b2 : ¬ (l0 = []) := fun h_ => c3 (by rw [h_]; rfl)
 obtain ⟨ji4, hji4⟩ : ∃ j_ : Int, (Int.tmod (wrap64 ((Int.tmod a1 (l0.length : Int)) + (l0.length : Int))) (l0.length : Int)) = j_ := ⟨_, rfl⟩
 (first | rw [hji4] at H | simp only [hji4] at H)
 replace H := iD H; obtain ⟨c5b0, H⟩ := H; replace H := iD H; obtain ⟨c6b0, H⟩ := H
 simp only [Option.some.injEq, Prod.mk.injEq] at H
 obtain ⟨rfl, rfl⟩ := H
 go_enter Try.func106, Try.ntmps106
 go_wp2_with (first | ((with_reducible refine gate_dst (N := 4) rfl ?_); refine bV 4 (cs := #[.int .i64 0, .int .i64 0]) (t := 50) rfl rfl (by first | (go_simp; done) | (go_simp; rfl)) ?_; intro gb207 hg w7 hbox hb; have BK207 := hbox; have GW207 := gZ HB hg; have GE207 := gZ HB hg; replace HB := tB HB hb; clear hb hbox hg; have p208 : 0 ≤ ((ji4) : Int) := dT aQ; have q208 : (ji4) < (l0.length : Int) := dT aQ; obtain ⟨ad208, e208, hx208_0, hx208_1⟩ := at_impl_Peg HR0.out (ji4) p208 q208; cases e208; replace hx208_0 := hC HB hx208_0; replace hx208_1 := hC HB hx208_1; replace p208 := eq_true p208; replace q208 := eq_true q208; have hcz8_0 := vZ0 BK207; have hcz8_1 := vZ1 BK207; have hfz8_0 := kF BK207.out 0; have hfz8_1 := kF BK207.out 1))
 refine bodyPost_ret (results_cell_row rfl _ _ gb207 50 #[.int .i64 ((rd_impl_Peg l0 (ji4)).f0), .int .i64 ((rd_impl_Peg l0 (ji4)).f1)] (0, 0) _ rfl (fQ BK207) Try.underlying50 rfl kR) rfl ?_
 exact ⟨by first | rfl | (simp [errW_none, errW_some] <;> rfl) | (simp only [← hji4]; first | rfl | (simp [errW_none, errW_some] <;> rfl)) | (simp [*, errW_none, errW_some] <;> rfl), bE⟩
def impl_Peg_less.f (a0_0 : Int) (a0_1 : Int) (a1_0 : Int) (a1_1 : Int) : Option (Int × Int) := some (wrap64 (a0_0 - a1_0), wrap64 (a0_1 - a1_1))
set_option maxHeartbeats 8000000 in
set_option maxRecDepth 100000 in
theorem impl_Peg_less.calls (a0_0 : Int) (a0_1 : Int) (a1_0 : Int) (a1_1 : Int) (r1 : Int) (r2 : Int) (w : World) (h : impl_Peg_less.f a0_0 a0_1 a1_0 a1_1 = some (r1, r2)) :
  Calls Try.prog 65 #[.agg #[.int .i64 a0_0, .int .i64 a0_1], .agg #[.int .i64 a1_0, .int .i64 a1_1]] w fun e w' => e = .returned (.agg #[.int .i64 r1, .int .i64 r2]) ∧ Below w.heap.size w w' := by
 have hu50 := Try.underlying50; have HB := aM (Below.refl w.heap.size w)
 unfold impl_Peg_less.f at h; have H := h; clear h
 simp only [Option.some.injEq, Prod.mk.injEq] at H
 obtain ⟨rfl, rfl⟩ := H
 go_enter Try.func65, Try.ntmps65
 go_wp2_with (first | ((with_reducible refine gate_dst (N := 2) rfl ?_); refine bV 2 (cs := #[.int .i64 a0_0, .int .i64 a0_1]) (t := 50) rfl rfl (by first | (go_simp; done) | (go_simp; rfl)) ?_; intro gb209 hg w3 hbox hb; have BK209 := hbox; have GW209 := gZ HB hg; have GE209 := gZ HB hg; replace HB := tB HB hb; clear hb hbox hg) | ((with_reducible refine gate_dst (N := 3) rfl ?_); refine bV 3 (cs := #[.int .i64 a1_0, .int .i64 a1_1]) (t := 50) rfl rfl (by first | (go_simp; done) | (go_simp; rfl)) ?_; intro gb210 hg w4 hbox hb; have BK210 := hbox; have GW210 := gZ HB hg; have GE210 := gZ HB hg; have NB209_210 := nG BK209 hg; have NB210_209 := nH BK209 hg; replace BK209 := bB BK209 hb; replace HB := tB HB hb; clear hb hbox hg) | ((with_reducible refine gate_dst (N := 4) rfl ?_); refine bV 4 (cs := #[.int .i64 0, .int .i64 0]) (t := 50) rfl rfl (by first | (go_simp; done) | (go_simp; rfl)) ?_; intro gb211 hg w5 hbox hb; have BK211 := hbox; have GW211 := gZ HB hg; have GE211 := gZ HB hg; have NB209_211 := nG BK209 hg; have NB211_209 := nH BK209 hg; have NB210_211 := nG BK210 hg; have NB211_210 := nH BK210 hg; replace BK209 := bB BK209 hb; replace BK210 := bB BK210 hb; replace HB := tB HB hb; clear hb hbox hg; have hnb6 := NB209_210.out; have hnc6 := NB210_209.out; have hnb7 := NB209_211.out; have hnc7 := NB211_209.out; have hcz8_0 := vZ0 BK209; have hcz8_1 := vZ1 BK209; have hfz8_0 := kF BK209.out 0; have hfz8_1 := kF BK209.out 1; have hnb9 := NB210_211.out; have hnc9 := NB211_210.out; have hcz10_0 := vZ0 BK210; have hcz10_1 := vZ1 BK210; have hfz10_0 := kF BK210.out 0; have hfz10_1 := kF BK210.out 1; have hcz11_0 := vZ0 BK211; have hcz11_1 := vZ1 BK211; have hfz11_0 := kF BK211.out 0; have hfz11_1 := kF BK211.out 1))
 refine bodyPost_ret (results_cell_row rfl _ _ gb211 50 #[.int .i64 (wrap64 (a0_0 - a1_0)), .int .i64 (wrap64 (a0_1 - a1_1))] (0, 0) _ rfl (fQ BK211) Try.underlying50 rfl kR) rfl ?_
 exact ⟨wQ, bE⟩

def impl_cross.f (a0_0 : Int) (a0_1 : Int) (a1_0 : Int) (a1_1 : Int) : Option (Int) := some (wrap64 ((wrap64 (a0_0 * a1_1)) - (wrap64 (a0_1 * a1_0))))
set_option maxHeartbeats 8000000 in
set_option maxRecDepth 100000 in
theorem impl_cross.calls (a0_0 : Int) (a0_1 : Int) (a1_0 : Int) (a1_1 : Int) (r : Int) (w : World) (h : impl_cross.f a0_0 a0_1 a1_0 a1_1 = some r) :
  Calls Try.prog 108 #[.agg #[.int .i64 a0_0, .int .i64 a0_1], .agg #[.int .i64 a1_0, .int .i64 a1_1]] w fun e w' => e = .returned (.int .i64 r) ∧ Below w.heap.size w w' := by
 have hu50 := Try.underlying50; have HB := aM (Below.refl w.heap.size w)
 unfold impl_cross.f at h; have H := h; clear h
 obtain rfl := Option.some.inj H
 go_enter Try.func108, Try.ntmps108
 go_wp2_with (first | ((with_reducible refine gate_dst (N := 2) rfl ?_); refine bV 2 (cs := #[.int .i64 a0_0, .int .i64 a0_1]) (t := 50) rfl rfl (by first | (go_simp; done) | (go_simp; rfl)) ?_; intro gb212 hg w3 hbox hb; have BK212 := hbox; have GW212 := gZ HB hg; have GE212 := gZ HB hg; replace HB := tB HB hb; clear hb hbox hg) | ((with_reducible refine gate_dst (N := 3) rfl ?_); refine bV 3 (cs := #[.int .i64 a1_0, .int .i64 a1_1]) (t := 50) rfl rfl (by first | (go_simp; done) | (go_simp; rfl)) ?_; intro gb213 hg w4 hbox hb; have BK213 := hbox; have GW213 := gZ HB hg; have GE213 := gZ HB hg; have NB212_213 := nG BK212 hg; have NB213_212 := nH BK212 hg; replace BK212 := bB BK212 hb; replace HB := tB HB hb; clear hb hbox hg; have hnb5 := NB212_213.out; have hnc5 := NB213_212.out; have hcz6_0 := vZ0 BK212; have hcz6_1 := vZ1 BK212; have hfz6_0 := kF BK212.out 0; have hfz6_1 := kF BK212.out 1; have hcz7_0 := vZ0 BK213; have hcz7_1 := vZ1 BK213; have hfz7_0 := kF BK213.out 0; have hfz7_1 := kF BK213.out 1))
 go_ret
 exact ⟨wQ, bE⟩

end Go.Proofs.Ytfihohongkfibaa.X
