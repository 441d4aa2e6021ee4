-- thin
-- short
-- compact
import Derived.Test.YtfihohongkfibaaXA
import Derived.Test.YtfihohongkfibaaX0
import Derived.Test.YtfihohongkfibaaX2
import Derived.Test.YtfihohongkfibaaX3
import Derived.Test.YtfihohongkfibaaX8
import Derived.Test.YtfihohongkfibaaX13
import Derived.Test.YtfihohongkfibaaX18
import Derived.Test.YtfihohongkfibaaX19
namespace Go.Proofs.Ytfihohongkfibaa.X
open Go.RowKit Go.Proofs.Ytfihohongkfibaa.XW Go.Proofs.YtfihohongkfibaaW.PrintWords Go.Proofs.YtfihohongkfibaaW.PrintLast Go.Proofs.YtfihohongkfibaaW.PrintMore
attribute [local go_sem] max2_int min2_int max_two min_two max_three min_three max_four min_four   -- for this text's walks alone
set_option linter.unusedVariables false
set_option linter.unusedSimpArgs false

def spec_InCircle.j0 : Nat → List (S_impl_Peg) → Bool → Int → Int → Option (Int × Bool)
 | 0, _, _, _, _ => none
 | k + 1, x0, x20, x350000, x350001 => if x20 = true then (some (0, false)) else ((spec_CircleOfThree.f k x0).bind fun bt352 => (if 0 < (x0.length : Int) then ((spec_l1Sign.f (wrap64 ((wrap64 ((wrap64 ((wrap64 ((wrap64 (((rd_impl_Peg x0 0).f0) * bt352.2.2.1)) - bt352.1)) * (wrap64 ((wrap64 (((rd_impl_Peg x0 0).f0) * bt352.2.2.1)) - bt352.1)))) + (wrap64 ((wrap64 ((wrap64 (((rd_impl_Peg x0 0).f1) * bt352.2.2.1)) - bt352.2.1)) * (wrap64 ((wrap64 (((rd_impl_Peg x0 0).f1) * bt352.2.2.1)) - bt352.2.1)))))) - (wrap64 ((wrap64 ((wrap64 ((wrap64 (x350000 * bt352.2.2.1)) - bt352.1)) * (wrap64 ((wrap64 (x350000 * bt352.2.2.1)) - bt352.1)))) + (wrap64 ((wrap64 ((wrap64 (x350001 * bt352.2.2.1)) - bt352.2.1)) * (wrap64 ((wrap64 (x350001 * bt352.2.2.1)) - bt352.2.1))))))))).bind fun t358 => (some (t358, true))) else (none)))
def spec_InCircle.f (k : Nat) (l0 : List (S_impl_Peg)) (a1_0 : Int) (a1_1 : Int) : Option (Int × Bool) := (spec_trThree.f k l0).bind fun t350 => (if t350 = true then ((spec_pgIs.f a1_0 a1_1).bind fun t351 => (spec_InCircle.j0 k l0 (!t351) a1_0 a1_1)) else (spec_InCircle.j0 k l0 true a1_0 a1_1))
theorem spec_InCircle.mono_l : ∀ k, (∀ y0 y1 y2 y3, LeO (spec_InCircle.j0 k y0 y1 y2 y3) (spec_InCircle.j0 (k + 1) y0 y1 y2 y3))
 | 0 => fun _ _ _ _ r h => by simp [spec_InCircle.j0] at h
 | k + 1 => by
  have ih0 := spec_InCircle.mono_l k
  ·intro y0 y1 y2 y3
   unfold spec_InCircle.j0
   repeat' first
   | (with_reducible exact ih0 _ _ _ _)
   | (with_reducible exact spec_CircleOfThree.mono _ _)
   | (with_reducible exact spec_trThree.mono _ _)
   | (with_reducible exact LeO.refl _)
   | (with_reducible exact LeO.none _)
   | (with_reducible refine LeO.ite ?_ ?_)
   | (with_reducible refine LeO.bind ?_ (fun _ => ?_))
   | exact ih0 _ _ _ _
   | exact spec_CircleOfThree.mono _ _
   | exact spec_trThree.mono _ _
   | exact LeO.none _
   | refine LeO.ite ?_ ?_
   | refine LeO.bind ?_ (fun _ => ?_)
theorem spec_InCircle.mono : ∀ a0 a1 a2 k, LeO (spec_InCircle.f k a0 a1 a2) (spec_InCircle.f (k + 1) a0 a1 a2) := by
 intro a0 a1 a2 k
 have ih0 := spec_InCircle.mono_l k
 unfold spec_InCircle.f
 repeat' first | (with_reducible exact ih0 _ _ _ _) | (with_reducible exact spec_CircleOfThree.mono _ _) | (with_reducible exact spec_trThree.mono _ _) | (with_reducible exact LeO.refl _) | (with_reducible exact LeO.none _) | (with_reducible refine LeO.ite ?_ ?_) | (with_reducible refine LeO.bind ?_ (fun _ => ?_)) | exact ih0 _ _ _ _ | exact spec_CircleOfThree.mono _ _ | exact spec_trThree.mono _ _ | exact LeO.none _ | refine LeO.ite ?_ ?_ | refine LeO.bind ?_ (fun _ => ?_)
set_option maxHeartbeats 8000000 in
set_option maxRecDepth 100000 in
theorem spec_InCircle.calls (k : Nat) (A0 : Option Addr) (c0 : Nat) (l0 : List (S_impl_Peg)) (a1_0 : Int) (a1_1 : Int) (r1 : Int) (r2 : Bool) (w : World) (hr0 : Kd.C kd_impl_Peg w A0 l0.length l0) (hc0 : l0.length ≤ c0) (h : spec_InCircle.f k l0 a1_0 a1_1 = some (r1, r2)) :
  Calls Try.prog 51 #[.slice A0 l0.length c0, .agg #[.int .i64 a1_0, .int .i64 a1_1]] w fun e w' => e = .returned (.tuple #[.int .i64 r1, .bool r2]) ∧ Below w.heap.size w w' := by
 have hu50 := Try.underlying50; have HR0 := aM hr0; have HC0 := aM hc0; clear hr0 hc0; have HB := aM (Below.refl w.heap.size w)
 unfold spec_InCircle.f at h; have H := h; clear h
 have HC3 := aM H; clear H
 go_enter Try.func51, Try.ntmps51
 go_upto_region 1 with (first | ((with_reducible refine gate_dst (N := 3) rfl ?_); refine bV 3 (cs := #[.int .i64 a1_0, .int .i64 a1_1]) (t := 50) rfl rfl (by first | (go_simp; done) | (go_simp; rfl)) ?_; intro gb349 hg w4 hbox hb; have BK349 := hbox; have GW349 := gZ HB hg; have GE349 := gZ HB hg; replace HB := tB HB hb; clear hb hbox hg))
 (try simp only [Act.put, sI, sZ, sS])
 go_cut [20] (fun v20 wc => ∃ (kq : Nat) (x20_2 : Bool), v20 = .bool x20_2 ∧ Aside0 (spec_InCircle.j0 kq l0 x20_2 a1_0 a1_1 = some (r1, r2)) ∧ Aside0 (kq ≤ k) ∧ Aside0 (wc.heap[gb349]? = some (.cells #[.int .i64 a1_0, .int .i64 a1_1] 50 (0, 0))) ∧ Aside0 (Below w.heap.size w wc))
 case first =>
  have H := HC3.out; clear HC3; replace H := bS H; obtain ⟨t350, A5, H⟩ := H
  by_cases c6 : t350 = true
  ·subst c6; replace H := iT H; replace H := bS H; obtain ⟨t351, A7, H⟩ := H; have H' := aM H; clear H
   go_wp2_with (first | ((with_reducible refine gC (f := 61) rfl ?_); refine goesL_ (some 14) rfl rfl Try.func61 kR rfl #[.slice A0 l0.length c0] rfl sQ ?_; (with_reducible refine (spec_trThree.calls k _ _ l0 true _ ?side1 ?side2 A5.out).mono ?_); (case side1 => repeat (first | exact (Kd.C_below HR0.out HB.out) | (with_reducible refine cA ?_ _) | (with_reducible refine cN ?_ _) | (with_reducible refine cD ?_))); (case side2 => exact HC0.out); rintro e w8 ⟨rfl, hb⟩; refine ⟨_, rfl, ?_⟩; replace BK349 := bB BK349 hb; replace HB := tB HB hb; (try clear hb); (try clear hb2); (try clear hk); (try clear hi); have hcz9_0 := vZ0 BK349; have hcz9_1 := vZ1 BK349; have hfz9_0 := kF BK349.out 0; have hfz9_1 := kF BK349.out 1) | (go_at_call 78; (with_reducible refine (spec_pgIs.calls a1_0 a1_1 t351 _ A7.out).mono ?_); rintro e w10 ⟨rfl, hb⟩; replace BK349 := bB BK349 hb; replace HB := tB HB hb; (try clear hb); (try clear hb2); (try clear hk); (try clear hi)))
   go_meet
   case rel => exact ⟨_, (!t351), eQ, H', ⟨by first | omega | exact Nat.le_refl _⟩, ⟨gQ BK349⟩, ⟨bE⟩⟩
  ·replace c6 := Bool.eq_false_iff.mpr c6; subst c6; replace H := iF H; have H' := aM H; clear H
   go_wp2_with (first | ((with_reducible refine gC (f := 61) rfl ?_); refine goesL_ (some 14) rfl rfl Try.func61 kR rfl #[.slice A0 l0.length c0] rfl sQ ?_; (with_reducible refine (spec_trThree.calls k _ _ l0 false _ ?side1 ?side2 A5.out).mono ?_); (case side1 => repeat (first | exact (Kd.C_below HR0.out HB.out) | (with_reducible refine cA ?_ _) | (with_reducible refine cN ?_ _) | (with_reducible refine cD ?_))); (case side2 => exact HC0.out); rintro e w11 ⟨rfl, hb⟩; refine ⟨_, rfl, ?_⟩; replace BK349 := bB BK349 hb; replace HB := tB HB hb; (try clear hb); (try clear hb2); (try clear hk); (try clear hi)))
   go_meet
   case rel => exact ⟨_, (true), eQ, H', ⟨by first | omega | exact Nat.le_refl _⟩, ⟨gQ BK349⟩, ⟨bE⟩⟩
 case rest =>
  clear HC3; obtain ⟨kq, x20_2, rfl, HA, HJ2, BK349, HB⟩ := hcut
  cases kq with
  | zero => exact absurd HA.out (by simp [spec_InCircle.j0])
  | succ kj2 =>
   have H := HA.out; clear HA
   simp only [spec_InCircle.j0] at H
   by_cases c12 : x20_2 = true
   ·subst c12; replace H := iT H
    simp only [Option.some.injEq, Prod.mk.injEq] at H
    obtain ⟨rfl, rfl⟩ := H; go_wp2
    go_ret2
    exact ⟨wQ, bE⟩
   ·replace c12 := Bool.eq_false_iff.mpr c12; subst c12; replace H := iF H; replace H := bS H; obtain ⟨⟨t352, t353, t354, t355⟩, A13, H⟩ := H; replace H := iN H; obtain ⟨c14, H⟩ := H; have c14b0 := dE c14; have c14b1 : decide (0 < l0.length) = true := dE (by omega)
    clear c14; replace H := bS H; obtain ⟨t358, A15, H⟩ := H
    simp only [Option.some.injEq, Prod.mk.injEq] at H
    obtain ⟨rfl, rfl⟩ := H
    go_wp2_with (first | ((with_reducible refine gC (f := 104) rfl ?_); refine goesL_ (some 23) rfl rfl Try.func104 kR rfl #[.slice A0 l0.length c0] rfl sQ ?_; (with_reducible refine (spec_CircleOfThree.calls kj2 _ _ l0 t352 t353 t354 t355 _ ?side1 ?side2 A13.out).mono ?_); (case side1 => repeat (first | exact (Kd.C_below HR0.out HB.out) | (with_reducible refine cA ?_ _) | (with_reducible refine cN ?_ _) | (with_reducible refine cD ?_))); (case side2 => exact HC0.out); rintro e w16 ⟨rfl, hb⟩; refine ⟨_, rfl, ?_⟩; replace BK349 := bB BK349 hb; replace HB := tB HB hb; (try clear hb); (try clear hb2); (try clear hk); (try clear hi); have p356 : 0 ≤ (0 : Int) := (by omega); have q356 : 0 < (l0.length : Int) := dT aQ; obtain ⟨ad356, e356, hx356_0, hx356_1⟩ := at_impl_Peg HR0.out 0 p356 q356; cases e356; have qi356 : (0 < l0.length) = True := eq_true (by omega); (try rw [show ((0 : Int)).toNat = 0 from rfl] at hx356_0); (try rw [show 0 * 2 = 0 from rfl] at hx356_0); (try rw [Addr.add_zero'] at hx356_0); (try rw [show ((0 : Int)).toNat = 0 from rfl] at hx356_1); (try rw [show 0 * 2 = 0 from rfl] at hx356_1); (try rw [Addr.add_zero'] at hx356_1); replace hx356_0 := hC HB hx356_0; replace hx356_1 := hC HB hx356_1; replace p356 := eq_true p356; replace q356 := eq_true q356) | ((with_reducible refine gate_dst (N := 10) rfl ?_); refine bV 10 (cs := #[.int .i64 0, .int .i64 0]) (t := 50) rfl rfl (by first | (go_simp; done) | (go_simp; rfl)) ?_; intro gb357 hg w17 hbox hb; have BK357 := hbox; have GW357 := gZ HB hg; have GE357 := gZ HB hg; have NB349_357 := nG BK349 hg; have NB357_349 := nH BK349 hg; replace BK349 := bB BK349 hb; replace HB := tB HB hb; clear hb hbox hg; have hnb18 := NB357_349.out; have hnc18 := NB349_357.out; have hcz19_0 := vZ0 BK357; have hcz19_1 := vZ1 BK357; have hfz19_0 := kF BK357.out 0; have hfz19_1 := kF BK357.out 1; have hcz20_0 := vZ0 BK349; have hcz20_1 := vZ1 BK349; have hfz20_0 := kF BK349.out 0; have hfz20_1 := kF BK349.out 1) | ((with_reducible refine gC (f := 105) rfl ?_); refine goesL_ (some 88) rfl rfl Try.func105 kR rfl #[.int .i64 (wrap64 ((wrap64 ((wrap64 ((wrap64 ((wrap64 (((rd_impl_Peg l0 0).f0) * t354)) - t352)) * (wrap64 ((wrap64 (((rd_impl_Peg l0 0).f0) * t354)) - t352)))) + (wrap64 ((wrap64 ((wrap64 (((rd_impl_Peg l0 0).f1) * t354)) - t353)) * (wrap64 ((wrap64 (((rd_impl_Peg l0 0).f1) * t354)) - t353)))))) - (wrap64 ((wrap64 ((wrap64 ((wrap64 (a1_0 * t354)) - t352)) * (wrap64 ((wrap64 (a1_0 * t354)) - t352)))) + (wrap64 ((wrap64 ((wrap64 (a1_1 * t354)) - t353)) * (wrap64 ((wrap64 (a1_1 * t354)) - t353))))))))] rfl sQ ?_; (with_reducible refine (spec_l1Sign.calls (wrap64 ((wrap64 ((wrap64 ((wrap64 ((wrap64 (((rd_impl_Peg l0 0).f0) * t354)) - t352)) * (wrap64 ((wrap64 (((rd_impl_Peg l0 0).f0) * t354)) - t352)))) + (wrap64 ((wrap64 ((wrap64 (((rd_impl_Peg l0 0).f1) * t354)) - t353)) * (wrap64 ((wrap64 (((rd_impl_Peg l0 0).f1) * t354)) - t353)))))) - (wrap64 ((wrap64 ((wrap64 ((wrap64 (a1_0 * t354)) - t352)) * (wrap64 ((wrap64 (a1_0 * t354)) - t352)))) + (wrap64 ((wrap64 ((wrap64 (a1_1 * t354)) - t353)) * (wrap64 ((wrap64 (a1_1 * t354)) - t353)))))))) t358 _ A15.out).mono ?_); rintro e w' ⟨rfl, ⟨nd, rfl⟩⟩; refine ⟨_, rfl, ?_⟩))
    go_ret2
    exact ⟨wQ, bE⟩
def impl_isThree.f (k : Nat) (l0 : List (S_impl_Peg)) : Option (Bool) := if (l0.length : Int) = 3 then ((impl_IsPolygon.f k l0).bind fun t359 => (some t359)) else (some false)
theorem impl_isThree.mono : ∀ a0 k, LeO (impl_isThree.f k a0) (impl_isThree.f (k + 1) a0) := by
 intro a0 k
 unfold impl_isThree.f
 repeat' first | (with_reducible exact impl_IsPolygon.mono _ _) | (with_reducible exact LeO.refl _) | (with_reducible exact LeO.none _) | (with_reducible refine LeO.ite ?_ ?_) | (with_reducible refine LeO.bind ?_ (fun _ => ?_)) | exact impl_IsPolygon.mono _ _ | exact LeO.none _ | refine LeO.ite ?_ ?_ | refine LeO.bind ?_ (fun _ => ?_)
set_option maxHeartbeats 8000000 in
set_option maxRecDepth 100000 in
theorem impl_isThree.calls (k : Nat) (A0 : Option Addr) (c0 : Nat) (l0 : List (S_impl_Peg)) (r : Bool) (w : World) (hr0 : Kd.C kd_impl_Peg w A0 l0.length l0) (hc0 : l0.length ≤ c0) (h : impl_isThree.f k l0 = some r) :
  Calls Try.prog 62 #[.slice A0 l0.length c0] w fun e w' => e = .returned (.bool r) ∧ Below w.heap.size w w' := by
 have HR0 := aM hr0; have HC0 := aM hc0; clear hr0 hc0; have HB := aM (Below.refl w.heap.size w)
 unfold impl_isThree.f at h; have H := h; clear h
 by_cases c2 : (l0.length : Int) = 3
 ·rw [if_pos c2] at H; have c2b0 : ((l0.length : Int) == 3) = true := beq_iff_eq.mpr c2; have c2b1 : ((l0.length : Int) != 3) = false := bne_eq_false_iff_eq.mpr c2; clear c2; replace H := bS H; obtain ⟨t359, A3, H⟩ := H; obtain rfl := Option.some.inj H
  go_enter Try.func62, Try.ntmps62
  go_wp2_with (first | (go_at_call 88; (with_reducible refine (impl_IsPolygon.calls k _ _ l0 t359 _ ?side1 ?side2 A3.out).mono ?_); (case side1 => repeat (first | exact HR0.out | (with_reducible refine cA ?_ _) | (with_reducible refine cN ?_ _) | (with_reducible refine cD ?_))); (case side2 => exact HC0.out); rintro e w4 ⟨rfl, hb⟩; replace HB := tB HB hb; (try clear hb); (try clear hb2); (try clear hk); (try clear hi)))
  go_ret
  exact ⟨wQ, bQ⟩
 ·rw [if_neg c2] at H; have c2b0 : ((l0.length : Int) == 3) = false := beq_eq_false_iff_ne.mpr c2; have c2b1 : ((l0.length : Int) != 3) = true := bne_iff_ne.mpr c2; obtain rfl := Option.some.inj H
  go_enter Try.func62, Try.ntmps62
  go_wp2
  go_ret
  exact ⟨wQ, bQ⟩

def impl_twice.l0 : Nat → List (S_impl_Peg) → Int → List (S_impl_Peg) → Int → Int → Option (Int)
 | 0, _, _, _, _, _ => none
 | k + 1, x0, x3, x6, x7, x8 => if x8 < x7 then (if 0 ≤ x8 then (if x8 < (x6.length : Int) then ((impl_at.f x0 (wrap64 (x8 + 1))).bind fun bt362 => ((impl_cross.f ((rd_impl_Peg x6 x8).f0) ((rd_impl_Peg x6 x8).f1) bt362.1 bt362.2).bind fun t364 => (impl_twice.l0 k x0 (wrap64 (x3 + t364)) x6 x7 (wrap64 (x8 + 1))))) else (none)) else (none)) else (some x3)
def impl_twice.f (k : Nat) (l0 : List (S_impl_Peg)) : Option (Int) := impl_twice.l0 k l0 0 l0 (l0.length : Int) 0
theorem impl_twice.mono_l : ∀ k, (∀ y0 y1 y2 y3 y4, LeO (impl_twice.l0 k y0 y1 y2 y3 y4) (impl_twice.l0 (k + 1) y0 y1 y2 y3 y4))
 | 0 => fun _ _ _ _ _ r h => by simp [impl_twice.l0] at h
 | k + 1 => by
  have ih0 := impl_twice.mono_l k
  ·intro y0 y1 y2 y3 y4
   unfold impl_twice.l0
   repeat' first
   | (with_reducible exact ih0 _ _ _ _ _)
   | (with_reducible exact LeO.refl _)
   | (with_reducible exact LeO.none _)
   | (with_reducible refine LeO.ite ?_ ?_)
   | (with_reducible refine LeO.bind ?_ (fun _ => ?_))
   | exact ih0 _ _ _ _ _
   | exact LeO.none _
   | refine LeO.ite ?_ ?_
   | refine LeO.bind ?_ (fun _ => ?_)
theorem impl_twice.mono : ∀ a0 k, LeO (impl_twice.f k a0) (impl_twice.f (k + 1) a0) := by
 intro a0 k
 have ih0 := impl_twice.mono_l k
 unfold impl_twice.f
 repeat' first | (with_reducible exact ih0 _ _ _ _ _) | (with_reducible exact LeO.refl _) | (with_reducible exact LeO.none _) | (with_reducible refine LeO.ite ?_ ?_) | (with_reducible refine LeO.bind ?_ (fun _ => ?_)) | exact ih0 _ _ _ _ _ | exact LeO.none _ | refine LeO.ite ?_ ?_ | refine LeO.bind ?_ (fun _ => ?_)
def impl_twice.T5 : Bool × List (List Nat × List Nat) := (true, [([], []), ([], []), ([], []), ([], []), ([3], [3]), ([2, 4], [2, 4]), ([1, 5, 5], [1, 5]), ([0, 6], [0, 6]), ([7, 6, 0, 1, 2, 3, 4, 5, 6, 7], [0, 7])])
def impl_twice.B5 : List Nat := [0, 0, 0, 0, 8, 28, 62, 127, 255]
theorem impl_twice.tab5 : rtab .any (opsOf Try.f72 5) = impl_twice.T5 := by kernel_rfl
theorem impl_twice.bits5 : waitsOk impl_twice.T5.2 impl_twice.B5 = true := by kernel_rfl
set_option maxHeartbeats 8000000 in
set_option maxRecDepth 100000 in
theorem impl_twice.calls (k : Nat) (A0 : Option Addr) (c0 : Nat) (l0 : List (S_impl_Peg)) (r : Int) (w : World) (hr0 : Kd.C kd_impl_Peg w A0 l0.length l0) (hc0 : l0.length ≤ c0) (h : impl_twice.f k l0 = some r) :
  Calls Try.prog 72 #[.slice A0 l0.length c0] w fun e w' => e = .returned (.int .i64 r) ∧ Below w.heap.size w w' := by
 have hu50 := Try.underlying50; have HR0 := aM hr0; have HC0 := aM hc0; clear hr0 hc0; have HB := aM (Below.refl w.heap.size w)
 unfold impl_twice.f at h; have H := h; clear h
 have H' := aM H; clear H
 go_enter Try.func72, Try.ntmps72
 go_wp2
 go_loopg [3, 8] k (fun kq v3 v8 w' => ∃ (x3_1 : Int) (x8_1 : Int), v3 = .int .i64 x3_1 ∧ v8 = .int .i64 x8_1 ∧ Aside0 (impl_twice.l0 kq l0 x3_1 l0 (l0.length : Int) x8_1 = some r) ∧ Aside0 (kq ≤ k) ∧ Aside0 (Below w.heap.size w w'))
 case atStart => exact ⟨(0), (0), eQ, eQ, H', ⟨Nat.le_refl _⟩, ⟨bQ⟩⟩
 case round =>
  clear H'; obtain ⟨x3_1, x8_1, rfl, rfl, HA, HK1, HB⟩ := hrel
  cases gk with
  | zero => exact absurd HA.out (by simp [impl_twice.l0])
  | succ k1 =>
   have H := HA.out; clear HA
   simp only [impl_twice.l0] at H
   by_cases c2 : x8_1 < (l0.length : Int)
   ·rw [if_pos c2] at H; have c2b0 := dE c2; clear c2; replace H := iD H; obtain ⟨c3b0, H⟩ := H; replace H := iD H; obtain ⟨c4b0, H⟩ := H; replace H := bS H; obtain ⟨⟨t362, t363⟩, A5, H⟩ := H; replace H := bS H; obtain ⟨t364, A6, H⟩ := H; have H' := aM H; clear H; have p360 : 0 ≤ (x8_1 : Int) := dT aQ; have q360 : x8_1 < (l0.length : Int) := dT aQ; obtain ⟨ad360, e360, hx360_0, hx360_1⟩ := at_impl_Peg HR0.out x8_1 p360 q360
    cases e360
    replace hx360_0 := hC HB hx360_0; replace hx360_1 := hC HB hx360_1; replace p360 := eq_true p360; replace q360 := eq_true q360
    try go_wp2_with (first | ((with_reducible refine gate_dst (N := 5) rfl ?_); refine bV 5 (cs := #[.int .i64 0, .int .i64 0]) (t := 50) rfl rfl (by first | (go_simp; done) | (go_simp; rfl)) ?_; intro gb361 hg w7 hbox hb; have BK361 := hbox; have GW361 := gZ HB hg; have GE361 := gZ HB hg; replace HB := tB HB hb; clear hb hbox hg; have hcz8_0 := vZ0 BK361; have hcz8_1 := vZ1 BK361; have hfz8_0 := kF BK361.out 0; have hfz8_1 := kF BK361.out 1))
    have n0_ : Aside0 (((w7.setCell ⟨gb361, 0, none⟩ (.int .i64 ((rd_impl_Peg l0 x8_1).f0))).setCell ⟨gb361, 1, none⟩ (.int .i64 ((rd_impl_Peg l0 x8_1).f1))).heap[gb361]? = some (.cells #[.int .i64 ((rd_impl_Peg l0 x8_1).f0), .int .i64 ((rd_impl_Peg l0 x8_1).f1)] 50 (0, 0))) := ⟨fQ BK361⟩; have n1_ : Aside0 (Below w.heap.size w ((w7.setCell ⟨gb361, 0, none⟩ (.int .i64 ((rd_impl_Peg l0 x8_1).f0))).setCell ⟨gb361, 1, none⟩ (.int .i64 ((rd_impl_Peg l0 x8_1).f1)))) := ⟨bE⟩; (try clear BK361); (try clear HB)
    generalize ((w7.setCell ⟨gb361, 0, none⟩ (.int .i64 ((rd_impl_Peg l0 x8_1).f0))).setCell ⟨gb361, 1, none⟩ (.int .i64 ((rd_impl_Peg l0 x8_1).f1))) = w9 at n0_ n1_ ⊢
    have BK361 := n0_; have HB := n1_; clear n0_ n1_; replace BK361 := aM (kD BK361.out); replace HB := aM (pD HB.out)
    refine start_ (n := 9) (S := fun w' => w'.cell? ⟨gb361, 0, none⟩ = some (.int .i64 ((rd_impl_Peg l0 x8_1).f0)) ∧ w'.cell? ⟨gb361, 1, none⟩ = some (.int .i64 ((rd_impl_Peg l0 x8_1).f1))) (ds := []) (bA 9 0) kR rfl kR ⟨vZ0 BK361, vZ1 BK361⟩ (fun hHeld => ?_); refine with_tabW impl_twice.tab5 impl_twice.bits5 (fun HT_ HW_ => ?_)
    generalize w9.drew = w10 at BK361 HB hHeld ⊢
    refine pU 0 13 (bA 9 1) HT_ ?_; refine pU 2 15 (bA 9 5) HT_ ?_; refine pU 3 16 (bA 9 13) HT_ ?_; refine pU 4 17 (bA 9 29) HT_ ?_
    refine tU 1 14 (bA 9 31) HT_ HW_ hHeld ?_ (hy := Or.inl ⟨by rfl, by rintro w' ⟨s0, s1⟩; go_simp; with_reducible rfl⟩)
    refine oU 5 18 (bA 9 63) HT_ (fun K hK => ?_)
    refine goes_ Try.func106 kR rfl #[.slice (some ad360) l0.length c0, .int .i64 (wrap64 (x8_1 + 1))] (by rfl) rfl rfl sQ ?_
    with_reducible refine (impl_at.calls _ _ l0 (wrap64 (x8_1 + 1)) t362 t363 _ ?side1 ?side2 A5.out).mono ?_
    (case side1 => repeat (first | exact (Kd.C_below HR0.out HB.out) | (with_reducible refine cA ?_ _) | (with_reducible refine cN ?_ _) | (with_reducible refine cD ?_)))
    (case side2 => exact HC0.out)
    rintro e w11 ⟨rfl, hb⟩; refine ⟨_, rfl, ?_⟩; replace BK361 := bB BK361 hb; replace HB := tB HB hb; (try clear hb); (try clear hb2); (try clear hk); (try clear hi)
    refine hK.out _ _ ⟨vZ0 BK361, vZ1 BK361⟩ (fun hHeld => ?_)
    clear hK K
    refine nU ?_
    refine oU 6 19 (bA 9 127) HT_ (fun K hK => ?_)
    refine goes_ Try.func108 kR rfl #[.agg #[.int .i64 ((rd_impl_Peg l0 x8_1).f0), .int .i64 ((rd_impl_Peg l0 x8_1).f1)], .agg #[.int .i64 t362, .int .i64 t363]] (by rfl) rfl rfl sQ ?_
    with_reducible refine (impl_cross.calls ((rd_impl_Peg l0 x8_1).f0) ((rd_impl_Peg l0 x8_1).f1) t362 t363 t364 _ A6.out).mono ?_
    rintro e w12 ⟨rfl, hb⟩; refine ⟨_, rfl, ?_⟩; replace BK361 := bB BK361 hb; replace HB := tB HB hb; (try clear hb); (try clear hb2); (try clear hk); (try clear hi)
    refine hK.out _ _ ⟨vZ0 BK361, vZ1 BK361⟩ (fun hHeld => ?_)
    clear hK K
    refine nU ?_
    refine pU 7 20 (bA 9 255) HT_ ?_; refine pU 8 3 (bA 9 511) HT_ ?_
    refine done_ (done_of HT_.out kR) ?_
    try go_wp2
    go_roundg k1
    case measure => have := HK1.out; omega
    case rel => exact ⟨(wrap64 (x3_1 + t364)), (wrap64 (x8_1 + 1)), eQ, eQ, H', ⟨by have := HK1.out; omega⟩, ⟨bE⟩⟩
   ·rw [if_neg c2] at H; have c2b0 := decide_eq_false c2; clear c2; obtain rfl := Option.some.inj H; go_wp2
    go_ret
    exact ⟨wQ, bQ⟩

def impl_Peg_square.f (a0_0 : Int) (a0_1 : Int) : Option (Int) := some (wrap64 ((wrap64 (a0_0 * a0_0)) + (wrap64 (a0_1 * a0_1))))
set_option maxHeartbeats 8000000 in
set_option maxRecDepth 100000 in
theorem impl_Peg_square.calls (a0_0 : Int) (a0_1 : Int) (r : Int) (w : World) (h : impl_Peg_square.f a0_0 a0_1 = some r) :
  Calls Try.prog 107 #[.agg #[.int .i64 a0_0, .int .i64 a0_1]] w fun e w' => e = .returned (.int .i64 r) ∧ Below w.heap.size w w' := by
 have hu50 := Try.underlying50; have HB := aM (Below.refl w.heap.size w)
 unfold impl_Peg_square.f at h; have H := h; clear h
 obtain rfl := Option.some.inj H
 go_enter Try.func107, Try.ntmps107
 go_wp2_with (first | ((with_reducible refine gate_dst (N := 1) rfl ?_); refine bV 1 (cs := #[.int .i64 a0_0, .int .i64 a0_1]) (t := 50) rfl rfl (by first | (go_simp; done) | (go_simp; rfl)) ?_; intro gb365 hg w2 hbox hb; have BK365 := hbox; have GW365 := gZ HB hg; have GE365 := gZ HB hg; replace HB := tB HB hb; clear hb hbox hg; have hcz3_0 := vZ0 BK365; have hcz3_1 := vZ1 BK365; have hfz3_0 := kF BK365.out 0; have hfz3_1 := kF BK365.out 1))
 go_ret
 exact ⟨wQ, bE⟩

end Go.Proofs.Ytfihohongkfibaa.X
