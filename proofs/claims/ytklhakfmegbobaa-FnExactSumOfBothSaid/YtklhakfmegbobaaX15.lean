-- thin
-- short
-- compact
import Derived.Test.YtklhakfmegbobaaXA
import Derived.Test.YtklhakfmegbobaaX0
import Derived.Test.YtklhakfmegbobaaX12
import Derived.Test.YtklhakfmegbobaaX14
namespace Go.Proofs.Ytklhakfmegbobaa.X
open Go.RowKit Go.Proofs.Ytklhakfmegbobaa.XW Go.Proofs.YtklhakfmegbobaaW.PrintWords Go.Proofs.YtklhakfmegbobaaW.PrintLast Go.Proofs.YtklhakfmegbobaaW.PrintMore
attribute [local go_sem] max2_int min2_int max_two min_two max_three min_three max_four min_four   -- for this text's walks alone
set_option linter.unusedVariables false
set_option linter.unusedSimpArgs false

def impl_dual.l0 : Nat → List (S_impl_Peg) → List (S_impl_Peg) → List (S_impl_Peg) → Int → Int → Option ((List (S_impl_Peg)))
 | 0, _, _, _, _, _ => none
 | k + 1, x0, x3, x11, x12, x13 => if x13 < x12 then (if 0 ≤ x13 then (if x13 < (x11.length : Int) then ((impl_at.f x0 (wrap64 (x13 + 1))).bind fun bt300 => ((impl_cross.f ((rd_impl_Peg x11 x13).f0) ((rd_impl_Peg x11 x13).f1) bt300.1 bt300.2).bind fun t303 => (if t303 = 0 then (none) else (if x3.length < 8796093022208 then (impl_dual.l0 k x0 (x3 ++ [(⟨wrap64 (Int.tdiv (wrap64 (bt300.2 - ((rd_impl_Peg x11 x13).f1))) t303), wrap64 (Int.tdiv (wrap64 (((rd_impl_Peg x11 x13).f0) - bt300.1)) t303)⟩ : S_impl_Peg)]) x11 x12 (wrap64 (x13 + 1))) else (none))))) else (none)) else (none)) else ((impl_first.f k x3).bind fun t307 => ((impl_told.f k x3 t307 1).bind fun t308 => (some t308)))
def impl_dual.f (k : Nat) (l0 : List (S_impl_Peg)) : Option ((List (S_impl_Peg))) := (impl_tellFirst.f k l0).bind fun t292 => (impl_dual.l0 k t292 (([] : List (S_impl_Peg))) t292 (t292.length : Int) 0)
theorem impl_dual.mono_l : ∀ k, (∀ y0 y1 y2 y3 y4, LeO (impl_dual.l0 k y0 y1 y2 y3 y4) (impl_dual.l0 (k + 1) y0 y1 y2 y3 y4))
 | 0 => fun _ _ _ _ _ r h => by simp [impl_dual.l0] at h
 | k + 1 => by
  have ih0 := impl_dual.mono_l k
  ·intro y0 y1 y2 y3 y4
   unfold impl_dual.l0
   repeat' first
   | (with_reducible exact ih0 _ _ _ _ _)
   | (with_reducible exact impl_first.mono _ _)
   | (with_reducible exact impl_tellFirst.mono _ _)
   | (with_reducible exact impl_told.mono _ _ _ _)
   | (with_reducible exact LeO.refl _)
   | (with_reducible exact LeO.none _)
   | (with_reducible refine LeO.ite ?_ ?_)
   | (with_reducible refine LeO.bind ?_ (fun _ => ?_))
   | exact ih0 _ _ _ _ _
   | exact impl_first.mono _ _
   | exact impl_tellFirst.mono _ _
   | exact impl_told.mono _ _ _ _
   | exact LeO.none _
   | refine LeO.ite ?_ ?_
   | refine LeO.bind ?_ (fun _ => ?_)
theorem impl_dual.mono : ∀ a0 k, LeO (impl_dual.f k a0) (impl_dual.f (k + 1) a0) := by
 intro a0 k
 have ih0 := impl_dual.mono_l k
 unfold impl_dual.f
 repeat' first | (with_reducible exact ih0 _ _ _ _ _) | (with_reducible exact impl_first.mono _ _) | (with_reducible exact impl_tellFirst.mono _ _) | (with_reducible exact impl_told.mono _ _ _ _) | (with_reducible exact LeO.refl _) | (with_reducible exact LeO.none _) | (with_reducible refine LeO.ite ?_ ?_) | (with_reducible refine LeO.bind ?_ (fun _ => ?_)) | exact ih0 _ _ _ _ _ | exact impl_first.mono _ _ | exact impl_tellFirst.mono _ _ | exact impl_told.mono _ _ _ _ | exact LeO.none _ | refine LeO.ite ?_ ?_ | refine LeO.bind ?_ (fun _ => ?_)
def impl_dual.T8 : Bool × List (List Nat × List Nat) := (true, [([], []), ([], []), ([1], [1]), ([], []), ([3], [3]), ([2, 4], [2, 4]), ([], []), ([5, 6], [5, 6]), ([], []), ([8], [8]), ([], []), ([10], [10]), ([9, 11], [9, 11]), ([], []), ([12, 13], [12, 13]), ([7, 14], [7, 14]), ([15], [15]), ([0, 16], [0, 16]), ([17, 17, 0, 1, 2, 3, 4, 5, 6, 7, 8, 9, 10, 11, 12, 13, 14, 15, 16, 17], [0, 17])])
def impl_dual.B8 : List Nat := [0, 0, 2, 0, 8, 30, 0, 126, 0, 256, 0, 1024, 3840, 0, 16128, 32766, 65534, 131071, 262143]
theorem impl_dual.tab8 : rtab .any (opsOf Try.f102 8) = impl_dual.T8 := by kernel_rfl
theorem impl_dual.bits8 : waitsOk impl_dual.T8.2 impl_dual.B8 = true := by kernel_rfl
set_option maxHeartbeats 8000000 in
set_option maxRecDepth 100000 in
theorem impl_dual.calls (k : Nat) (A0 : Option Addr) (c0 : Nat) (l0 : List (S_impl_Peg)) (r : List (S_impl_Peg)) (w : World) (hr0 : Kd.C kd_impl_Peg w A0 l0.length l0) (hc0 : l0.length ≤ c0) (h : impl_dual.f k l0 = some r) :
  Calls Try.prog 102 #[.slice A0 l0.length c0] w fun e w' => ∃ v0_ : Value, e = .returned (v0_) ∧ Kd.R kd_impl_Peg 26 w' w.heap.size (fun _ => True) v0_ r ∧ Below w.heap.size w w' := by
 have hu26 := Try.underlying26; have HR0 := aM hr0; have HC0 := aM hc0; clear hr0 hc0; have HB := aM (Below.refl w.heap.size w)
 unfold impl_dual.f at h; have H := h; clear h
 replace H := bS H; obtain ⟨t292, A2, H⟩ := H; obtain ⟨y295, hy295⟩ : ∃ y_ : List (S_impl_Peg), y_ = (([] : List (S_impl_Peg))) := ⟨_, rfl⟩; rw [← hy295] at H; have Ny295 := aM hy295; clear hy295; have H' := aM H; clear H
 go_enter Try.func102, Try.ntmps102
 go_wp2_with (first | ((with_reducible refine gC (f := 78) rfl ?_); refine goesL_ (some 9) rfl rfl Try.func78 kR rfl #[.slice A0 l0.length c0] rfl sQ ?_; (with_reducible refine (impl_tellFirst.calls k _ _ l0 t292 _ ?side1 ?side2 A2.out).mono ?_); (case side1 => repeat (first | exact HR0.out | (with_reducible refine cA ?_ _) | (with_reducible refine cN ?_ _) | (with_reducible refine cD ?_))); (case side2 => exact HC0.out); rintro e w3 ⟨v293, rfl, ho0, hb⟩; refine ⟨_, rfl, ?_⟩; have HO294 := aM (Kd.R_lower ho0 (pZ bQ)); replace HB := tB HB hb; (try clear hb); (try clear hb2); (try clear hk); (try clear hi); (try clear ho0)) | ((with_reducible refine gate_dst (N := 10) rfl ?_); refine Kd.R_lit kd_impl_Peg _ 26 ?hg (N := 10) ?hd (xs := ([] : List (S_impl_Peg))) (inner := []) (ok := fun _ => True) (okp := fun _ => True) ?hr ?hp (fun _ hk => hk) trivial (Below.refl _ _) (Nat.le_refl _) (by simp) ?_; (case hd => rfl); (case hg => rfl); (case hr => first | (go_simp; done) | (go_simp; rfl)); (case hp => exact (Reps.none _ _)); intro v296 w4 ho5 hb hg_ hnew_; clear hg_ hnew_; (first | rw [← Ny295.out] at ho5 | (simp only [Int.reduceToNat] at ho5; rw [← Ny295.out] at ho5)); have HO297 := aM (Kd.R_lower (Kd.R_new' ho5 (Kd.R_lt (by (with_reducible repeat (first | apply rA | apply rN | apply rD)); exact HO294.out))) (pZ bQ)); replace HO294 := aM (Kd.R_elder' (by (with_reducible repeat (first | apply rA | apply rN | apply rD)); exact HO294.out) (Kd.R_base ho5) hb); replace HB := tB HB hb; clear hb ho5; obtain ⟨Ao6, co6, eo6⟩ := Kd.R_slice HO294.out; subst eo6))
 go_loopg [3, 13] k (fun kq v3 v13 w' => ∃ (x3_1 : List (S_impl_Peg)) (x13_1 : Int), v13 = .int .i64 x13_1 ∧ Aside0 (impl_dual.l0 kq t292 x3_1 t292 (t292.length : Int) x13_1 = some r) ∧ Aside0 (kq ≤ k) ∧ Aside0 (Kd.R kd_impl_Peg 26 w' w.heap.size (fun k_ => some k_ ≠ (v3 : Value).ownBlock) (.slice Ao6 t292.length co6) t292) ∧ Aside0 (Kd.R kd_impl_Peg 26 w' w.heap.size (fun k_ => some k_ ≠ ((.slice Ao6 t292.length co6) : Value).ownBlock ∧ some k_ ≠ ((.slice Ao6 t292.length co6) : Value).ownBlock) v3 x3_1) ∧ Aside0 (Kd.R kd_impl_Peg 26 w' w.heap.size (fun k_ => some k_ ≠ (v3 : Value).ownBlock) (.slice Ao6 t292.length co6) t292) ∧ Aside0 (Below w.heap.size w w'))
 case atStart => exact ⟨(y295), (0), eQ, H', ⟨Nat.le_refl _⟩, ⟨by (with_reducible repeat (first | apply rA | apply rN | apply rD)); exact Kd.R_mono HO294.out (fun _ hk => hk.2)⟩, ⟨by (with_reducible repeat (first | apply rA | apply rN | apply rD)); exact Kd.R_mono HO297.out (fun _ hk => ⟨hk.2, hk.2⟩)⟩, ⟨by (with_reducible repeat (first | apply rA | apply rN | apply rD)); exact Kd.R_mono HO294.out (fun _ hk => hk.2)⟩, ⟨bQ⟩⟩
 case round =>
  clear H'; obtain ⟨x3_1, x13_1, rfl, HA, HK1, HO_0, HO_3, HO_11, HB⟩ := hrel
  cases gk with
  | zero => exact absurd HA.out (by simp [impl_dual.l0])
  | succ k1 =>
   have H := HA.out; clear HA
   simp only [impl_dual.l0] at H
   by_cases c7 : x13_1 < (t292.length : Int)
   ·rw [if_pos c7] at H; have c7b0 := dE c7; clear c7; replace H := iD H; obtain ⟨c8b0, H⟩ := H; replace H := iD H; obtain ⟨c9b0, H⟩ := H; replace H := bS H; obtain ⟨⟨t300, t301⟩, A10, H⟩ := H; replace H := bS H; obtain ⟨t303, A11, H⟩ := H; replace H := iM H; obtain ⟨c12, H⟩ := H; have c12b0 : (t303 == 0) = false := beq_eq_false_iff_ne.mpr c12; have c12b1 : (t303 != 0) = true := bne_iff_ne.mpr c12; replace H := iN H; obtain ⟨c13, H⟩ := H; have LMc13 := aM c13; clear c13; obtain ⟨y304, hy304⟩ : ∃ y_ : List (S_impl_Peg), y_ = (x3_1 ++ [(⟨wrap64 (Int.tdiv (wrap64 (t301 - ((rd_impl_Peg t292 x13_1).f1))) t303), wrap64 (Int.tdiv (wrap64 (((rd_impl_Peg t292 x13_1).f0) - t300)) t303)⟩ : S_impl_Peg)]) := ⟨_, rfl⟩; rw [← hy304] at H; have Ny304 := aM hy304; clear hy304; have H' := aM H; clear H; have p298 : 0 ≤ (x13_1 : Int) := dT aQ; have q298 : x13_1 < (t292.length : Int) := dT aQ; obtain ⟨ad298, e298, hx298_0, hx298_1⟩ := at_impl_Peg (rR HO_11.out).2.2 x13_1 p298 q298
    cases e298
    replace p298 := eq_true p298; replace q298 := eq_true q298
    try go_wp2_with (first | ((with_reducible refine gate_dst (N := 5) rfl ?_); refine bV 5 (cs := #[.int .i64 0, .int .i64 0]) (t := 26) rfl rfl (by first | (go_simp; done) | (go_simp; rfl)) ?_; intro gb299 hg w14 hbox hb; have BK299 := hbox; have GW299 := gZ HB hg; have GE299 := gZ HB hg; replace HO_0 := aM (Kd.R_below (Kd.R_elderB (by (with_reducible repeat (first | apply rA | apply rN | apply rD)); exact HO_0.out) gb299 (Nat.le_of_eq hg.symm)) hb); replace HO_3 := aM (Kd.R_below (Kd.R_elderB (by (with_reducible repeat (first | apply rA | apply rN | apply rD)); exact HO_3.out) gb299 (Nat.le_of_eq hg.symm)) hb); replace HO_11 := aM (Kd.R_below (Kd.R_elderB (by (with_reducible repeat (first | apply rA | apply rN | apply rD)); exact HO_11.out) gb299 (Nat.le_of_eq hg.symm)) hb); replace HB := tB HB hb; clear hb hbox hg; have hcz15_0 := vZ0 BK299; have hcz15_1 := vZ1 BK299; have hfz15_0 := kF BK299.out 0; have hfz15_1 := kF BK299.out 1) | ((with_reducible refine gC (f := 108) rfl ?_); refine goesL_ (some 21) rfl rfl Try.func108 kR rfl #[.slice (some ad298) t292.length co6, .int .i64 (wrap64 (x13_1 + 1))] rfl sQ ?_; (with_reducible refine (impl_at.calls _ _ t292 (wrap64 (x13_1 + 1)) t300 t301 _ ?side1 ?side2 A10.out).mono ?_); (case side1 => refine (rR (e := 26) (base := w.heap.size) (ok := fun k_ => (some k_ ≠ (u3 : Value).ownBlock ∧ k_ ≠ gb299)) (n := t292.length) (c := co6) ?_).2.2; exact (by (with_reducible repeat (first | apply rA | apply rN | apply rD)); exact (Kd.R_mono (Kd.R_far (p := ⟨gb299, 1, none⟩) (Kd.R_far (p := ⟨gb299, 0, none⟩) (Kd.R_mono HO_0.out (fun k_ hk => (⟨hk, hk.2⟩ : _ ∧ k_ ≠ gb299))) (fun _ hk => hk.2) (.int .i64 ((rd_impl_Peg t292 x13_1).f0))) (fun _ hk => hk.2) (.int .i64 ((rd_impl_Peg t292 x13_1).f1))) (fun _ h_ => h_.1)))); (case side2 => exact (rR HO_0.out).2.1); rintro e w16 ⟨rfl, hb⟩; refine ⟨_, rfl, ?_⟩; replace HO_0 := aM (Kd.R_below (by (with_reducible repeat (first | apply rA | apply rN | apply rD)); exact (Kd.R_mono (Kd.R_far (p := ⟨gb299, 1, none⟩) (Kd.R_far (p := ⟨gb299, 0, none⟩) (Kd.R_mono HO_0.out (fun k_ hk => (⟨hk, hk.2⟩ : _ ∧ k_ ≠ gb299))) (fun _ hk => hk.2) (.int .i64 ((rd_impl_Peg t292 x13_1).f0))) (fun _ hk => hk.2) (.int .i64 ((rd_impl_Peg t292 x13_1).f1))) (fun _ h_ => h_.1))) hb); replace HO_3 := aM (Kd.R_below (by (with_reducible repeat (first | apply rA | apply rN | apply rD)); exact (Kd.R_mono (Kd.R_far (p := ⟨gb299, 1, none⟩) (Kd.R_far (p := ⟨gb299, 0, none⟩) (Kd.R_mono HO_3.out (fun k_ hk => (⟨hk, hk.2⟩ : _ ∧ k_ ≠ gb299))) (fun _ hk => hk.2) (.int .i64 ((rd_impl_Peg t292 x13_1).f0))) (fun _ hk => hk.2) (.int .i64 ((rd_impl_Peg t292 x13_1).f1))) (fun _ h_ => h_.1))) hb); replace HO_11 := aM (Kd.R_below (by (with_reducible repeat (first | apply rA | apply rN | apply rD)); exact (Kd.R_mono (Kd.R_far (p := ⟨gb299, 1, none⟩) (Kd.R_far (p := ⟨gb299, 0, none⟩) (Kd.R_mono HO_11.out (fun k_ hk => (⟨hk, hk.2⟩ : _ ∧ k_ ≠ gb299))) (fun _ hk => hk.2) (.int .i64 ((rd_impl_Peg t292 x13_1).f0))) (fun _ hk => hk.2) (.int .i64 ((rd_impl_Peg t292 x13_1).f1))) (fun _ h_ => h_.1))) hb); replace BK299 := aM (blk_below (g := gb299) (o := .cells #[.int .i64 ((rd_impl_Peg t292 x13_1).f0), .int .i64 ((rd_impl_Peg t292 x13_1).f1)] 26 (0, 0)) (fQ BK299) hb); replace HB := tB HB hb; (try clear hb); (try clear hb2); (try clear hk); (try clear hi)) | ((with_reducible refine gate_dst (N := 6) rfl ?_); refine bV 6 (cs := #[.int .i64 0, .int .i64 0]) (t := 26) rfl rfl (by first | (go_simp; done) | (go_simp; rfl)) ?_; intro gb302 hg w17 hbox hb; have BK302 := hbox; have GW302 := gZ HB hg; have GE302 := gZ HB hg; have NB299_302 := nG BK299 hg; have NB302_299 := nH BK299 hg; replace HO_0 := aM (Kd.R_below (Kd.R_elderB (by (with_reducible repeat (first | apply rA | apply rN | apply rD)); exact HO_0.out) gb302 (Nat.le_of_eq hg.symm)) hb); replace HO_3 := aM (Kd.R_below (Kd.R_elderB (by (with_reducible repeat (first | apply rA | apply rN | apply rD)); exact HO_3.out) gb302 (Nat.le_of_eq hg.symm)) hb); replace HO_11 := aM (Kd.R_below (Kd.R_elderB (by (with_reducible repeat (first | apply rA | apply rN | apply rD)); exact HO_11.out) gb302 (Nat.le_of_eq hg.symm)) hb); replace BK299 := bB BK299 hb; replace HB := tB HB hb; clear hb hbox hg; have hnb18 := NB302_299.out; have hnc18 := NB299_302.out; have hcz19_0 := vZ0 BK302; have hcz19_1 := vZ1 BK302; have hfz19_0 := kF BK302.out 0; have hfz19_1 := kF BK302.out 1; have hcz20_0 := vZ0 BK299; have hcz20_1 := vZ1 BK299; have hfz20_0 := kF BK299.out 0; have hfz20_1 := kF BK299.out 1) | ((with_reducible refine gC (f := 107) rfl ?_); refine goesL_ (some 24) rfl rfl Try.func107 kR rfl #[.agg #[.int .i64 ((rd_impl_Peg t292 x13_1).f0), .int .i64 ((rd_impl_Peg t292 x13_1).f1)], .agg #[.int .i64 t300, .int .i64 t301]] rfl sQ ?_; (with_reducible refine (impl_cross.calls ((rd_impl_Peg t292 x13_1).f0) ((rd_impl_Peg t292 x13_1).f1) t300 t301 t303 _ A11.out).mono ?_); rintro e w21 ⟨rfl, hb⟩; refine ⟨_, rfl, ?_⟩; replace HO_0 := aM (Kd.R_below (by (with_reducible repeat (first | apply rA | apply rN | apply rD)); exact (Kd.R_mono (Kd.R_far (p := ⟨gb302, 1, none⟩) (Kd.R_far (p := ⟨gb302, 0, none⟩) (Kd.R_mono HO_0.out (fun k_ hk => (⟨hk, hk.2⟩ : _ ∧ k_ ≠ gb302))) (fun _ hk => hk.2) (.int .i64 t300)) (fun _ hk => hk.2) (.int .i64 t301)) (fun _ h_ => h_.1))) hb); replace HO_3 := aM (Kd.R_below (by (with_reducible repeat (first | apply rA | apply rN | apply rD)); exact (Kd.R_mono (Kd.R_far (p := ⟨gb302, 1, none⟩) (Kd.R_far (p := ⟨gb302, 0, none⟩) (Kd.R_mono HO_3.out (fun k_ hk => (⟨hk, hk.2⟩ : _ ∧ k_ ≠ gb302))) (fun _ hk => hk.2) (.int .i64 t300)) (fun _ hk => hk.2) (.int .i64 t301)) (fun _ h_ => h_.1))) hb); replace HO_11 := aM (Kd.R_below (by (with_reducible repeat (first | apply rA | apply rN | apply rD)); exact (Kd.R_mono (Kd.R_far (p := ⟨gb302, 1, none⟩) (Kd.R_far (p := ⟨gb302, 0, none⟩) (Kd.R_mono HO_11.out (fun k_ hk => (⟨hk, hk.2⟩ : _ ∧ k_ ≠ gb302))) (fun _ hk => hk.2) (.int .i64 t300)) (fun _ hk => hk.2) (.int .i64 t301)) (fun _ h_ => h_.1))) hb); replace BK299 := aM (blk_below (g := gb299) (o := .cells #[.int .i64 ((rd_impl_Peg t292 x13_1).f0), .int .i64 ((rd_impl_Peg t292 x13_1).f1)] 26 (0, 0)) (fQ BK299) hb); replace BK302 := aM (blk_below (g := gb302) (o := .cells #[.int .i64 t300, .int .i64 t301] 26 (0, 0)) (fQ BK302) hb); replace HB := tB HB hb; (try clear hb); (try clear hb2); (try clear hk); (try clear hi)))
    replace HO_0 := aM (rD HO_0.out); replace HO_3 := aM (rD HO_3.out); replace HO_11 := aM (rD HO_11.out); replace BK299 := aM (kD BK299.out); replace BK302 := aM (kD BK302.out); replace HB := aM (pD HB.out)
    refine start_ (n := 19) (S := fun w' => w'.cell? ⟨gb302, 0, none⟩ = some (.int .i64 t300) ∧ w'.cell? ⟨gb302, 1, none⟩ = some (.int .i64 t301) ∧ w'.cell? ⟨gb299, 0, none⟩ = some (.int .i64 ((rd_impl_Peg t292 x13_1).f0)) ∧ w'.cell? ⟨gb299, 1, none⟩ = some (.int .i64 ((rd_impl_Peg t292 x13_1).f1))) (ds := []) (bA 19 0) kR rfl kR ⟨vZ0 BK302, vZ1 BK302, vZ0 BK299, vZ1 BK299⟩ (fun hHeld => ?_); refine with_tabW impl_dual.tab8 impl_dual.bits8 (fun HT_ HW_ => ?_)
    generalize w21.drew = w22 at HO_0 HO_3 HO_11 BK299 BK302 HB hHeld ⊢
    refine pU 0 25 (bA 19 1) HT_ ?_; refine pU 1 26 (bA 19 3) HT_ ?_; refine pU 3 28 (bA 19 11) HT_ ?_; refine pU 6 31 (bA 19 75) HT_ ?_; refine pU 8 33 (bA 19 331) HT_ ?_; refine pU 10 35 (bA 19 1355) HT_ ?_; refine pU 13 38 (bA 19 9547) HT_ ?_
    refine tU 2 27 (bA 19 9551) HT_ HW_ hHeld ?_ (hy := Or.inl ⟨by rfl, by rintro w' ⟨s0, s1, s2, s3⟩; go_simp; with_reducible rfl⟩)
    refine tU 4 29 (bA 19 9567) HT_ HW_ hHeld ?_ (hy := Or.inl ⟨by rfl, by rintro w' ⟨s0, s1, s2, s3⟩; go_simp; with_reducible rfl⟩)
    refine pU 5 30 (bA 19 9599) HT_ ?_; refine pU 7 32 (bA 19 9727) HT_ ?_
    refine tU 9 34 (bA 19 10239) HT_ HW_ hHeld ?_ (hy := Or.inl ⟨by rfl, by rintro w' ⟨s0, s1, s2, s3⟩; go_simp; with_reducible rfl⟩)
    refine tU 11 36 (bA 19 12287) HT_ HW_ hHeld ?_ (hy := Or.inl ⟨by rfl, by rintro w' ⟨s0, s1, s2, s3⟩; go_simp; with_reducible rfl⟩)
    refine pU 12 37 (bA 19 16383) HT_ ?_; refine pU 14 39 (bA 19 32767) HT_ ?_; refine pU 15 40 (bA 19 65535) HT_ ?_
    refine oU 16 41 (bA 19 131071) HT_ (fun K hK => ?_)
    refine value_ (w1 := ?_) (v := ?_) (by rfl) rfl ?_ ?_
    rotate_left 2
    ·go_simp
     constructor
     ·rfl
     ·rfl
    refine hK.out _ _ ⟨(kC (kA BK302.out _) 0).trans rfl, (kC (kA BK302.out _) 1).trans rfl, (kC (kA BK299.out _) 0).trans rfl, (kC (kA BK299.out _) 1).trans rfl⟩ (fun hHeld => ?_)
    clear hK K
    refine nU ?_
    refine oU 17 42 (bA 19 262143) HT_ (fun K hK => ?_)
    refine Kd.R_append_step kd_impl_Peg (w0 := w) w.heap.size (by rfl) (.tmp 25) (.tmp 41) 29 26 (.agg #[(.int .i64 0), (.int .i64 0)]) 16 rfl Try.underlying29 info26 rfl (by decide) (by omega) u3 x3_1 (⟨wrap64 (Int.tdiv (wrap64 (t301 - ((rd_impl_Peg t292 x13_1).f1))) t303), wrap64 (Int.tdiv (wrap64 (((rd_impl_Peg t292 x13_1).f0) - t300)) t303)⟩ : S_impl_Peg) [.int .i64 (wrap64 (Int.tdiv (wrap64 (t301 - ((rd_impl_Peg t292 x13_1).f1))) t303)), .int .i64 (wrap64 (Int.tdiv (wrap64 (((rd_impl_Peg t292 x13_1).f0) - t300)) t303))] (fun k_ => some k_ ≠ (.slice (some ad298) t292.length co6 : Value).ownBlock ∧ some k_ ≠ (.slice (some ad298) t292.length co6 : Value).ownBlock ∧ k_ ≠ gb299 ∧ k_ ≠ gb302) (fun _ => False) rfl rfl ?aP (fun _ hk => hk.elim) ?aF ?aO ?aB ?aS ?aL ?_
    (case aP => exact kd_impl_Peg_mkM _ _ _ (⟨wrap64 (Int.tdiv (wrap64 (t301 - ((rd_impl_Peg t292 x13_1).f1))) t303), wrap64 (Int.tdiv (wrap64 (((rd_impl_Peg t292 x13_1).f0) - t300)) t303)⟩ : S_impl_Peg))
    (case aB => exact bE)
    (case aF => exact (fun k_ hk => ⟨Kd.fresh' (Kd.R_lt (by (with_reducible repeat (first | apply rA | apply rN | apply rD)); exact HO_0.out)) k_ hk, Kd.fresh' (Kd.R_lt (by (with_reducible repeat (first | apply rA | apply rN | apply rD)); exact HO_11.out)) k_ hk, Kd.freshB (g := gb299) (o := .cells #[.int .i64 ((rd_impl_Peg t292 x13_1).f0), .int .i64 ((rd_impl_Peg t292 x13_1).f1)] 26 (0, 0)) (gQ BK299) k_ hk, Kd.freshB (g := gb302) (o := .cells #[.int .i64 t300, .int .i64 t301] 26 (0, 0)) (gQ BK302) k_ hk⟩))
    (case aO => exact (by (with_reducible repeat (first | apply rA | apply rN | apply rD)); exact Kd.R_mono HO_3.out (fun _ hk => ⟨hk.1.1.1, ⟨hk.1.1.2, ⟨hk.1.2, hk.2⟩⟩⟩)))
    (case aS => exact (pZ bE))
    (case aL => have := LMc13.out; omega)
    intro v305 w23 ho hb hg hat
    rw [← Ny304.out] at ho; have n0_ := aM (Kd.R_after (ok := (fun k_ => k_ ≠ gb299 ∧ k_ ≠ gb302)) (by (with_reducible repeat (first | apply rA | apply rN | apply rD)); exact Kd.R_mono HO_0.out (fun _ hk => ⟨⟨hk.1.2, hk.2⟩, hk.1.1⟩)) hg hat)
    have n1_ := aM (Kd.R_after (ok := (fun k_ => k_ ≠ gb299 ∧ k_ ≠ gb302)) (by (with_reducible repeat (first | apply rA | apply rN | apply rD)); exact Kd.R_mono HO_11.out (fun _ hk => ⟨⟨hk.1.2, hk.2⟩, hk.1.1⟩)) hg hat)
    have n2_ := aM (blk_grown (g := gb299) (o := .cells #[.int .i64 ((rd_impl_Peg t292 x13_1).f0), .int .i64 ((rd_impl_Peg t292 x13_1).f1)] 26 (0, 0)) (gQ BK299) hg (Kd.R_away HO_3.out (fun _ hk => hk.1.2))); have n3_ := aM (blk_grown (g := gb302) (o := .cells #[.int .i64 t300, .int .i64 t301] 26 (0, 0)) (gQ BK302) hg (Kd.R_away HO_3.out (fun _ hk => hk.2))); have n4_ := aM (hb); have n5_ := aM (ho); clear HO_0; clear HO_11; clear BK299; clear BK302; clear HB; clear HO_3; have HO_0 := n0_; have HO_11 := n1_; have BK299 := n2_; have BK302 := n3_; have HB := n4_; have HO306 := n5_; clear n0_ n1_ n2_ n3_ n4_ n5_; clear ho hb hg hat
    refine hK.out _ _ ⟨vZ0 BK302, vZ1 BK302, vZ0 BK299, vZ1 BK299⟩ (fun hHeld => ?_)
    clear hK K
    refine nU ?_
    refine pU 18 3 (bA 19 524287) HT_ ?_
    refine done_ (done_of HT_.out kR) ?_
    try go_wp2
    go_roundg k1
    case measure => have := HK1.out; omega
    case rel => exact ⟨(y304), (wrap64 (x13_1 + 1)), eQ, H', ⟨by have := HK1.out; omega⟩, ⟨by (with_reducible repeat (first | apply rA | apply rN | apply rD)); exact Kd.R_mono HO_0.out (fun _ hk => hk.2)⟩, ⟨by (with_reducible repeat (first | apply rA | apply rN | apply rD)); exact Kd.R_mono HO306.out (fun _ hk => ⟨hk.1, hk.2.1⟩)⟩, ⟨by (with_reducible repeat (first | apply rA | apply rN | apply rD)); exact Kd.R_mono HO_11.out (fun _ hk => hk.2)⟩, ⟨bE⟩⟩
   ·rw [if_neg c7] at H; have c7b0 := decide_eq_false c7; clear c7; replace H := bS H; obtain ⟨t307, A24, H⟩ := H; replace H := bS H; obtain ⟨t308, A25, H⟩ := H; obtain rfl := Option.some.inj H; obtain ⟨Ao26, co26, eo26⟩ := Kd.R_slice HO_3.out; subst eo26
    go_wp2_with (first | ((with_reducible refine gC (f := 123) rfl ?_); refine goesL_ (some 46) rfl rfl Try.func123 kR rfl #[.slice Ao26 x3_1.length co26] rfl sQ ?_; (with_reducible refine (impl_first.calls k1 _ _ x3_1 t307 _ ?side1 ?side2 A24.out).mono ?_); (case side1 => repeat (first | exact (rR HO_3.out).2.2 | (with_reducible refine cA ?_ _) | (with_reducible refine cN ?_ _) | (with_reducible refine cD ?_))); (case side2 => exact (rR HO_3.out).2.1); rintro e w27 ⟨rfl, hb⟩; refine ⟨_, rfl, ?_⟩; replace HO_0 := aM (Kd.R_below (by (with_reducible repeat (first | apply rA | apply rN | apply rD)); exact HO_0.out) hb); replace HO_3 := aM (Kd.R_below (by (with_reducible repeat (first | apply rA | apply rN | apply rD)); exact HO_3.out) hb); replace HO_11 := aM (Kd.R_below (by (with_reducible repeat (first | apply rA | apply rN | apply rD)); exact HO_11.out) hb); replace HB := tB HB hb; (try clear hb); (try clear hb2); (try clear hk); (try clear hi)) | ((with_reducible refine gC (f := 66) rfl ?_); refine goesL_ (some 47) rfl rfl Try.func66 kR rfl #[.slice Ao26 x3_1.length co26, .int .i64 t307, .int .i64 1] rfl sQ ?_; (with_reducible refine (impl_told.calls k1 _ _ x3_1 t307 1 t308 _ ?side1 ?side2 A25.out).mono ?_); (case side1 => repeat (first | exact (rR HO_3.out).2.2 | (with_reducible refine cA ?_ _) | (with_reducible refine cN ?_ _) | (with_reducible refine cD ?_))); (case side2 => exact (rR HO_3.out).2.1); rintro e w28 ⟨v309, rfl, ho0, hb⟩; refine ⟨_, rfl, ?_⟩; have HO310 := aM (Kd.R_lower (Kd.R_new' (Kd.R_new' (Kd.R_new' ho0 (Kd.R_lt (by (with_reducible repeat (first | apply rA | apply rN | apply rD)); exact HO_0.out))) (Kd.R_lt (by (with_reducible repeat (first | apply rA | apply rN | apply rD)); exact HO_3.out))) (Kd.R_lt (by (with_reducible repeat (first | apply rA | apply rN | apply rD)); exact HO_11.out))) (pZ bQ)); replace HO_0 := aM (Kd.R_elder' (by (with_reducible repeat (first | apply rA | apply rN | apply rD)); exact HO_0.out) (Kd.R_base ho0) hb); replace HO_3 := aM (Kd.R_elder' (by (with_reducible repeat (first | apply rA | apply rN | apply rD)); exact HO_3.out) (Kd.R_base ho0) hb); replace HO_11 := aM (Kd.R_elder' (by (with_reducible repeat (first | apply rA | apply rN | apply rD)); exact HO_11.out) (Kd.R_base ho0) hb); replace HB := tB HB hb; (try clear hb); (try clear hb2); (try clear hk); (try clear hi); (try clear ho0)))
    go_ret
    exact ⟨_, by first | rfl | (simp [errW_none, errW_some] <;> rfl) | (simp [*, errW_none, errW_some] <;> rfl), by (with_reducible repeat (first | apply rA | apply rN | apply rD)); exact Kd.R_mono HO310.out (fun _ hk => trivial), bQ⟩

def impl_within.f (a0 : Int) (a1 : Int) (a2 : Int) : Option (Bool) := if a0 ≥ a1 then (some (decide (a0 ≤ a2))) else (some false)
set_option maxHeartbeats 8000000 in
set_option maxRecDepth 100000 in
theorem impl_within.calls (a0 : Int) (a1 : Int) (a2 : Int) (r : Bool) (w : World) (h : impl_within.f a0 a1 a2 = some r) :
  Calls Try.prog 59 #[.int .i64 a0, .int .i64 a1, .int .i64 a2] w fun e w' => e = .returned (.bool r) ∧ Drawn0 w w' := by
 unfold impl_within.f at h; have H := h; clear h
 by_cases c4 : a0 ≥ a1
 ·rw [if_pos c4] at H; have c4b0 := dE c4; clear c4; obtain rfl := Option.some.inj H
  go_enter Try.func59, Try.ntmps59
  go_wp2
  go_ret
  exact ⟨eQ, dQ⟩
 ·rw [if_neg c4] at H; have c4b0 := decide_eq_false c4; clear c4; obtain rfl := Option.some.inj H
  go_enter Try.func59, Try.ntmps59
  go_wp2
  go_ret
  exact ⟨eQ, dQ⟩

-- NOT PRINTED: function 139 (slices_IndexFunc_impl_Peg)

-- NOT PRINTED: function 121 (slices_ContainsFunc_impl_Peg)

def impl_IsPeg.f (a0_0 : Int) (a0_1 : Int) : Option (Bool) := (impl_within.f a0_0 (-40) 40).bind fun t312 => (if t312 = true then ((impl_within.f a0_1 (-40) 40).bind fun t313 => (some t313)) else (some false))
set_option maxHeartbeats 8000000 in
set_option maxRecDepth 100000 in
theorem impl_IsPeg.calls (a0_0 : Int) (a0_1 : Int) (r : Bool) (w : World) (h : impl_IsPeg.f a0_0 a0_1 = some r) :
  Calls Try.prog 62 #[.agg #[.int .i64 a0_0, .int .i64 a0_1]] w fun e w' => e = .returned (.bool r) ∧ Below w.heap.size w w' := by
 have hu26 := Try.underlying26; have HB := aM (Below.refl w.heap.size w)
 unfold impl_IsPeg.f at h; have H := h; clear h
 replace H := bS H; obtain ⟨t312, A2, H⟩ := H
 by_cases c3 : t312 = true
 ·subst c3; replace H := iT H; replace H := bS H; obtain ⟨t313, A4, H⟩ := H; obtain rfl := Option.some.inj H
  go_enter Try.func62, Try.ntmps62
  go_wp2_with (first | ((with_reducible refine gate_dst (N := 1) rfl ?_); refine bV 1 (cs := #[.int .i64 a0_0, .int .i64 a0_1]) (t := 26) rfl rfl (by first | (go_simp; done) | (go_simp; rfl)) ?_; intro gb311 hg w5 hbox hb; have BK311 := hbox; have GW311 := gZ HB hg; have GE311 := gZ HB hg; replace HB := tB HB hb; clear hb hbox hg; have hcz6_0 := vZ0 BK311; have hcz6_1 := vZ1 BK311; have hfz6_0 := kF BK311.out 0; have hfz6_1 := kF BK311.out 1) | ((with_reducible refine gC (f := 59) rfl ?_); refine goesL_ (some 5) rfl rfl Try.func59 kR rfl #[.int .i64 a0_0, .int .i64 (-40), .int .i64 40] rfl sQ ?_; (with_reducible refine (impl_within.calls a0_0 (-40) 40 true _ A2.out).mono ?_); rintro e w' ⟨rfl, ⟨nd, rfl⟩⟩; refine ⟨_, rfl, ?_⟩) | (go_at_call 59; (with_reducible refine (impl_within.calls a0_1 (-40) 40 t313 _ A4.out).mono ?_); rintro e w' ⟨rfl, ⟨nd, rfl⟩⟩))
  go_ret
  exact ⟨wQ, bE⟩
 ·replace c3 := Bool.eq_false_iff.mpr c3; subst c3; replace H := iF H; obtain rfl := Option.some.inj H
  go_enter Try.func62, Try.ntmps62
  go_wp2_with (first | ((with_reducible refine gate_dst (N := 1) rfl ?_); refine bV 1 (cs := #[.int .i64 a0_0, .int .i64 a0_1]) (t := 26) rfl rfl (by first | (go_simp; done) | (go_simp; rfl)) ?_; intro gb311 hg w7 hbox hb; have BK311 := hbox; have GW311 := gZ HB hg; have GE311 := gZ HB hg; replace HB := tB HB hb; clear hb hbox hg; have hcz8_0 := vZ0 BK311; have hcz8_1 := vZ1 BK311; have hfz8_0 := kF BK311.out 0; have hfz8_1 := kF BK311.out 1) | ((with_reducible refine gC (f := 59) rfl ?_); refine goesL_ (some 5) rfl rfl Try.func59 kR rfl #[.int .i64 a0_0, .int .i64 (-40), .int .i64 40] rfl sQ ?_; (with_reducible refine (impl_within.calls a0_0 (-40) 40 false _ A2.out).mono ?_); rintro e w' ⟨rfl, ⟨nd, rfl⟩⟩; refine ⟨_, rfl, ?_⟩))
  go_ret
  exact ⟨wQ, bE⟩

def impl_arePegs_1.f (a0_0 : Int) (a0_1 : Int) : Option (Bool) := (impl_IsPeg.f a0_0 a0_1).bind fun t315 => (some (!t315))
set_option maxHeartbeats 8000000 in
set_option maxRecDepth 100000 in
theorem impl_arePegs_1.calls (a0_0 : Int) (a0_1 : Int) (r : Bool) (w : World) (h : impl_arePegs_1.f a0_0 a0_1 = some r) :
  Calls Try.prog 122 #[.agg #[.int .i64 a0_0, .int .i64 a0_1]] w fun e w' => e = .returned (.bool r) ∧ Below w.heap.size w w' := by
 have hu26 := Try.underlying26; have HB := aM (Below.refl w.heap.size w)
 unfold impl_arePegs_1.f at h; have H := h; clear h
 replace H := bS H; obtain ⟨t315, A2, H⟩ := H; obtain rfl := Option.some.inj H
 go_enter Try.func122, Try.ntmps122
 go_wp2_with (first | ((with_reducible refine gate_dst (N := 1) rfl ?_); refine bV 1 (cs := #[.int .i64 a0_0, .int .i64 a0_1]) (t := 26) rfl rfl (by first | (go_simp; done) | (go_simp; rfl)) ?_; intro gb314 hg w3 hbox hb; have BK314 := hbox; have GW314 := gZ HB hg; have GE314 := gZ HB hg; replace HB := tB HB hb; clear hb hbox hg; have hcz4_0 := vZ0 BK314; have hcz4_1 := vZ1 BK314; have hfz4_0 := kF BK314.out 0; have hfz4_1 := kF BK314.out 1) | ((with_reducible refine gC (f := 62) rfl ?_); refine goesL_ (some 4) rfl rfl Try.func62 kR rfl #[.agg #[.int .i64 a0_0, .int .i64 a0_1]] rfl sQ ?_; (with_reducible refine (impl_IsPeg.calls a0_0 a0_1 t315 _ A2.out).mono ?_); rintro e w5 ⟨rfl, hb⟩; refine ⟨_, rfl, ?_⟩; replace BK314 := bB BK314 hb; replace HB := tB HB hb; (try clear hb); (try clear hb2); (try clear hk); (try clear hi)))
 go_ret
 exact ⟨wQ, bE⟩

def slices_IndexFunc_impl_Peg_at_impl_arePegs_1.l0 : Nat → List (S_impl_Peg) → Int → Int → Option (Int)
 | 0, _, _, _ => none
 | k + 1, x0, x7, x8 => if x8 < x7 then (if 0 ≤ x8 then (if x8 < (x0.length : Int) then ((impl_arePegs_1.f ((rd_impl_Peg x0 x8).f0) ((rd_impl_Peg x0 x8).f1)).bind fun t317 => (if t317 = true then (some x8) else (slices_IndexFunc_impl_Peg_at_impl_arePegs_1.l0 k x0 x7 (wrap64 (x8 + 1))))) else (none)) else (none)) else (some (-1))
def slices_IndexFunc_impl_Peg_at_impl_arePegs_1.f (k : Nat) (l0 : List (S_impl_Peg)) : Option (Int) := slices_IndexFunc_impl_Peg_at_impl_arePegs_1.l0 k l0 (l0.length : Int) 0
theorem slices_IndexFunc_impl_Peg_at_impl_arePegs_1.mono_l : ∀ k, (∀ y0 y1 y2, LeO (slices_IndexFunc_impl_Peg_at_impl_arePegs_1.l0 k y0 y1 y2) (slices_IndexFunc_impl_Peg_at_impl_arePegs_1.l0 (k + 1) y0 y1 y2))
 | 0 => fun _ _ _ r h => by simp [slices_IndexFunc_impl_Peg_at_impl_arePegs_1.l0] at h
 | k + 1 => by
  have ih0 := slices_IndexFunc_impl_Peg_at_impl_arePegs_1.mono_l k
  ·intro y0 y1 y2
   unfold slices_IndexFunc_impl_Peg_at_impl_arePegs_1.l0
   repeat' first
   | (with_reducible exact ih0 _ _ _)
   | (with_reducible exact LeO.refl _)
   | (with_reducible exact LeO.none _)
   | (with_reducible refine LeO.ite ?_ ?_)
   | (with_reducible refine LeO.bind ?_ (fun _ => ?_))
   | exact ih0 _ _ _
   | exact LeO.none _
   | refine LeO.ite ?_ ?_
   | refine LeO.bind ?_ (fun _ => ?_)
theorem slices_IndexFunc_impl_Peg_at_impl_arePegs_1.mono : ∀ a0 k, LeO (slices_IndexFunc_impl_Peg_at_impl_arePegs_1.f k a0) (slices_IndexFunc_impl_Peg_at_impl_arePegs_1.f (k + 1) a0) := by
 intro a0 k
 have ih0 := slices_IndexFunc_impl_Peg_at_impl_arePegs_1.mono_l k
 unfold slices_IndexFunc_impl_Peg_at_impl_arePegs_1.f
 repeat' first | (with_reducible exact ih0 _ _ _) | (with_reducible exact LeO.refl _) | (with_reducible exact LeO.none _) | (with_reducible refine LeO.ite ?_ ?_) | (with_reducible refine LeO.bind ?_ (fun _ => ?_)) | exact ih0 _ _ _ | exact LeO.none _ | refine LeO.ite ?_ ?_ | refine LeO.bind ?_ (fun _ => ?_)
set_option maxHeartbeats 8000000 in
set_option maxRecDepth 100000 in
theorem slices_IndexFunc_impl_Peg_at_impl_arePegs_1.calls (k : Nat) (A0 : Option Addr) (c0 : Nat) (l0 : List (S_impl_Peg)) (r : Int) (w : World) (hr0 : Kd.C kd_impl_Peg w A0 l0.length l0) (hc0 : l0.length ≤ c0) (h : slices_IndexFunc_impl_Peg_at_impl_arePegs_1.f k l0 = some r) :
  Calls Try.prog 139 #[.slice A0 l0.length c0, .func (.func 122) #[] #[]] w fun e w' => e = .returned (.int .i64 r) ∧ Below w.heap.size w w' := by
 have hu26 := Try.underlying26; have HR0 := aM hr0; have HC0 := aM hc0; clear hr0 hc0; have HB := aM (Below.refl w.heap.size w)
 unfold slices_IndexFunc_impl_Peg_at_impl_arePegs_1.f at h; have H := h; clear h
 have H' := aM H; clear H
 go_enter Try.func139, Try.ntmps139
 go_wp2
 go_loopg [8] k (fun kq v8 w' => ∃ (x8_1 : Int), v8 = .int .i64 x8_1 ∧ Aside0 (slices_IndexFunc_impl_Peg_at_impl_arePegs_1.l0 kq l0 (l0.length : Int) x8_1 = some r) ∧ Aside0 (kq ≤ k) ∧ Aside0 (Below w.heap.size w w'))
 case atStart => exact ⟨(0), eQ, H', ⟨Nat.le_refl _⟩, ⟨bQ⟩⟩
 case round =>
  clear H'; obtain ⟨x8_1, rfl, HA, HK1, HB⟩ := hrel
  cases gk with
  | zero => exact absurd HA.out (by simp [slices_IndexFunc_impl_Peg_at_impl_arePegs_1.l0])
  | succ k1 =>
   have H := HA.out; clear HA
   simp only [slices_IndexFunc_impl_Peg_at_impl_arePegs_1.l0] at H
   by_cases c2 : x8_1 < (l0.length : Int)
   ·rw [if_pos c2] at H; have c2b0 := dE c2; clear c2; replace H := iD H; obtain ⟨c3b0, H⟩ := H; replace H := iD H; obtain ⟨c4b0, H⟩ := H; replace H := bS H; obtain ⟨t317, A5, H⟩ := H
    by_cases c6 : t317 = true
    ·subst c6; replace H := iT H; obtain rfl := Option.some.inj H; have p316 : 0 ≤ (x8_1 : Int) := dT aQ; have q316 : x8_1 < (l0.length : Int) := dT aQ; obtain ⟨ad316, e316, hx316_0, hx316_1⟩ := at_impl_Peg HR0.out x8_1 p316 q316
     cases e316
     replace hx316_0 := hC HB hx316_0; replace hx316_1 := hC HB hx316_1; replace p316 := eq_true p316; replace q316 := eq_true q316
     go_wp2_with (first | ((with_reducible refine gate_tmp rfl ?_); refine goesLT_ (some 16) rfl rfl Try.func122 kR rfl #[.agg #[.int .i64 ((rd_impl_Peg l0 x8_1).f0), .int .i64 ((rd_impl_Peg l0 x8_1).f1)]] rfl (by first | rfl | (simp [Act.eval]; done)) sQ ?_; (with_reducible refine (impl_arePegs_1.calls ((rd_impl_Peg l0 x8_1).f0) ((rd_impl_Peg l0 x8_1).f1) true _ A5.out).mono ?_); rintro e w7 ⟨rfl, hb⟩; refine ⟨_, rfl, ?_⟩; replace HB := tB HB hb; (try clear hb); (try clear hb2); (try clear hk); (try clear hi)))
     go_ret
     exact ⟨wQ, bQ⟩
    ·replace c6 := Bool.eq_false_iff.mpr c6; subst c6; replace H := iF H; have H' := aM H; clear H; have p316 : 0 ≤ (x8_1 : Int) := dT aQ; have q316 : x8_1 < (l0.length : Int) := dT aQ; obtain ⟨ad316, e316, hx316_0, hx316_1⟩ := at_impl_Peg HR0.out x8_1 p316 q316
     cases e316
     replace hx316_0 := hC HB hx316_0; replace hx316_1 := hC HB hx316_1; replace p316 := eq_true p316; replace q316 := eq_true q316
     go_wp2_with (first | ((with_reducible refine gate_tmp rfl ?_); refine goesLT_ (some 16) rfl rfl Try.func122 kR rfl #[.agg #[.int .i64 ((rd_impl_Peg l0 x8_1).f0), .int .i64 ((rd_impl_Peg l0 x8_1).f1)]] rfl (by first | rfl | (simp [Act.eval]; done)) sQ ?_; (with_reducible refine (impl_arePegs_1.calls ((rd_impl_Peg l0 x8_1).f0) ((rd_impl_Peg l0 x8_1).f1) false _ A5.out).mono ?_); rintro e w8 ⟨rfl, hb⟩; refine ⟨_, rfl, ?_⟩; replace HB := tB HB hb; (try clear hb); (try clear hb2); (try clear hk); (try clear hi)))
     go_roundg k1
     case measure => have := HK1.out; omega
     case rel => exact ⟨(wrap64 (x8_1 + 1)), eQ, H', ⟨by have := HK1.out; omega⟩, ⟨bQ⟩⟩
   ·rw [if_neg c2] at H; have c2b0 := decide_eq_false c2; clear c2; obtain rfl := Option.some.inj H; go_wp2
    go_ret
    exact ⟨wQ, bQ⟩

def slices_ContainsFunc_impl_Peg_at_impl_arePegs_1.f (k : Nat) (l0 : List (S_impl_Peg)) : Option (Bool) := (slices_IndexFunc_impl_Peg_at_impl_arePegs_1.f k l0).bind fun t318 => (some (decide (t318 ≥ 0)))
theorem slices_ContainsFunc_impl_Peg_at_impl_arePegs_1.mono : ∀ a0 k, LeO (slices_ContainsFunc_impl_Peg_at_impl_arePegs_1.f k a0) (slices_ContainsFunc_impl_Peg_at_impl_arePegs_1.f (k + 1) a0) := by
 intro a0 k
 unfold slices_ContainsFunc_impl_Peg_at_impl_arePegs_1.f
 repeat' first | (with_reducible exact slices_IndexFunc_impl_Peg_at_impl_arePegs_1.mono _ _) | (with_reducible exact LeO.refl _) | (with_reducible exact LeO.none _) | (with_reducible refine LeO.ite ?_ ?_) | (with_reducible refine LeO.bind ?_ (fun _ => ?_)) | exact slices_IndexFunc_impl_Peg_at_impl_arePegs_1.mono _ _ | exact LeO.none _ | refine LeO.ite ?_ ?_ | refine LeO.bind ?_ (fun _ => ?_)
set_option maxHeartbeats 8000000 in
set_option maxRecDepth 100000 in
theorem slices_ContainsFunc_impl_Peg_at_impl_arePegs_1.calls (k : Nat) (A0 : Option Addr) (c0 : Nat) (l0 : List (S_impl_Peg)) (r : Bool) (w : World) (hr0 : Kd.C kd_impl_Peg w A0 l0.length l0) (hc0 : l0.length ≤ c0) (h : slices_ContainsFunc_impl_Peg_at_impl_arePegs_1.f k l0 = some r) :
  Calls Try.prog 121 #[.slice A0 l0.length c0, .func (.func 122) #[] #[]] w fun e w' => e = .returned (.bool r) ∧ Below w.heap.size w w' := by
 have HR0 := aM hr0; have HC0 := aM hc0; clear hr0 hc0; have HB := aM (Below.refl w.heap.size w)
 unfold slices_ContainsFunc_impl_Peg_at_impl_arePegs_1.f at h; have H := h; clear h
 replace H := bS H; obtain ⟨t318, A2, H⟩ := H; obtain rfl := Option.some.inj H
 go_enter Try.func121, Try.ntmps121
 go_wp2_with (first | ((with_reducible refine gC (f := 139) rfl ?_); refine goesL_ (some 7) rfl rfl Try.func139 kR rfl #[.slice A0 l0.length c0, .func (.func 122) #[] #[]] rfl sQ ?_; (with_reducible refine (slices_IndexFunc_impl_Peg_at_impl_arePegs_1.calls k _ _ l0 t318 _ ?side1 ?side2 A2.out).mono ?_); (case side1 => repeat (first | exact HR0.out | (with_reducible refine cA ?_ _) | (with_reducible refine cN ?_ _) | (with_reducible refine cD ?_))); (case side2 => exact HC0.out); rintro e w3 ⟨rfl, hb⟩; refine ⟨_, rfl, ?_⟩; replace HB := tB HB hb; (try clear hb); (try clear hb2); (try clear hk); (try clear hi)))
 go_ret
 exact ⟨wQ, bQ⟩

def impl_arePegs.f (k : Nat) (l0 : List (S_impl_Peg)) : Option (Bool) := (slices_ContainsFunc_impl_Peg_at_impl_arePegs_1.f k l0).bind fun t319 => (some (!t319))
theorem impl_arePegs.mono : ∀ a0 k, LeO (impl_arePegs.f k a0) (impl_arePegs.f (k + 1) a0) := by
 intro a0 k
 unfold impl_arePegs.f
 repeat' first | (with_reducible exact slices_ContainsFunc_impl_Peg_at_impl_arePegs_1.mono _ _) | (with_reducible exact LeO.refl _) | (with_reducible exact LeO.none _) | (with_reducible refine LeO.ite ?_ ?_) | (with_reducible refine LeO.bind ?_ (fun _ => ?_)) | exact slices_ContainsFunc_impl_Peg_at_impl_arePegs_1.mono _ _ | exact LeO.none _ | refine LeO.ite ?_ ?_ | refine LeO.bind ?_ (fun _ => ?_)
set_option maxHeartbeats 8000000 in
set_option maxRecDepth 100000 in
theorem impl_arePegs.calls (k : Nat) (A0 : Option Addr) (c0 : Nat) (l0 : List (S_impl_Peg)) (r : Bool) (w : World) (hr0 : Kd.C kd_impl_Peg w A0 l0.length l0) (hc0 : l0.length ≤ c0) (h : impl_arePegs.f k l0 = some r) :
  Calls Try.prog 74 #[.slice A0 l0.length c0] w fun e w' => e = .returned (.bool r) ∧ Below w.heap.size w w' := by
 have HR0 := aM hr0; have HC0 := aM hc0; clear hr0 hc0; have HB := aM (Below.refl w.heap.size w)
 unfold impl_arePegs.f at h; have H := h; clear h
 replace H := bS H; obtain ⟨t319, A2, H⟩ := H; obtain rfl := Option.some.inj H
 go_enter Try.func74, Try.ntmps74
 go_wp2_with (first | ((with_reducible refine gC (f := 121) rfl ?_); refine goesL_ (some 4) rfl rfl Try.func121 kR rfl #[.slice A0 l0.length c0, .func (.func 122) #[] #[]] rfl sQ ?_; (with_reducible refine (slices_ContainsFunc_impl_Peg_at_impl_arePegs_1.calls k _ _ l0 t319 _ ?side1 ?side2 A2.out).mono ?_); (case side1 => repeat (first | exact HR0.out | (with_reducible refine cA ?_ _) | (with_reducible refine cN ?_ _) | (with_reducible refine cD ?_))); (case side2 => exact HC0.out); rintro e w3 ⟨rfl, hb⟩; refine ⟨_, rfl, ?_⟩; replace HB := tB HB hb; (try clear hb); (try clear hb2); (try clear hk); (try clear hi)))
 go_ret
 exact ⟨wQ, bQ⟩

end Go.Proofs.Ytklhakfmegbobaa.X
