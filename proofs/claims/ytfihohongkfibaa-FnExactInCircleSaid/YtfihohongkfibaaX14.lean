-- thin
-- short
-- compact
import Derived.Test.YtfihohongkfibaaXA
import Derived.Test.YtfihohongkfibaaX0
import Derived.Test.YtfihohongkfibaaX8
import Derived.Test.YtfihohongkfibaaX13
namespace Go.Proofs.Ytfihohongkfibaa.X
open Go.RowKit Go.Proofs.Ytfihohongkfibaa.XW Go.Proofs.YtfihohongkfibaaW.PrintWords Go.Proofs.YtfihohongkfibaaW.PrintLast Go.Proofs.YtfihohongkfibaaW.PrintMore
attribute [local go_sem] max2_int min2_int max_two min_two max_three min_three max_four min_four   -- for this text's walks alone
set_option linter.unusedVariables false
set_option linter.unusedSimpArgs false

def impl_size.f (a0 : Int) : Option (Int) := some (mx a0 (wrap64 (-a0)))
set_option maxHeartbeats 8000000 in
set_option maxRecDepth 100000 in
theorem impl_size.calls (a0 : Int) (r : Int) (w : World) (h : impl_size.f a0 = some r) :
  Calls Try.prog 112 #[.int .i64 a0] w fun e w' => e = .returned (.int .i64 r) ∧ Below w.heap.size w w' := by
 have HB := aM (Below.refl w.heap.size w)
 unfold impl_size.f at h; have H := h; clear h
 obtain ⟨ji2, hji2⟩ : ∃ j_ : Int, (mx a0 (wrap64 (-a0))) = j_ := ⟨_, rfl⟩
 (first | rw [hji2] at H | simp only [hji2] at H)
 have hji2_ : (if a0 < (wrap64 (-a0)) then (wrap64 (-a0)) else a0) = ji2 := hji2; obtain rfl := Option.some.inj H
 go_enter Try.func112, Try.ntmps112
 go_wp2
 go_ret
 exact ⟨by first | rfl | (simp [errW_none, errW_some] <;> rfl) | (simp only [← hji2]; first | rfl | (simp [errW_none, errW_some] <;> rfl)) | (simp [*, errW_none, errW_some] <;> rfl), bQ⟩

def impl_divisor.l0 : Nat → Int → Int → Option (Int)
 | 0, _, _ => none
 | k + 1, x0, x1 => if x1 = 0 then ((impl_size.f x0).bind fun t276 => (some t276)) else (impl_divisor.l0 k x1 (Int.tmod x0 x1))
def impl_divisor.f (k : Nat) (a0 : Int) (a1 : Int) : Option (Int) := impl_divisor.l0 k a0 a1
theorem impl_divisor.mono_l : ∀ k, (∀ y0 y1, LeO (impl_divisor.l0 k y0 y1) (impl_divisor.l0 (k + 1) y0 y1))
 | 0 => fun _ _ r h => by simp [impl_divisor.l0] at h
 | k + 1 => by
  have ih0 := impl_divisor.mono_l k
  ·intro y0 y1
   unfold impl_divisor.l0
   repeat' first
   | (with_reducible exact ih0 _ _)
   | (with_reducible exact LeO.refl _)
   | (with_reducible exact LeO.none _)
   | (with_reducible refine LeO.ite ?_ ?_)
   | (with_reducible refine LeO.bind ?_ (fun _ => ?_))
   | exact ih0 _ _
   | exact LeO.none _
   | refine LeO.ite ?_ ?_
   | refine LeO.bind ?_ (fun _ => ?_)
theorem impl_divisor.mono : ∀ a0 a1 k, LeO (impl_divisor.f k a0 a1) (impl_divisor.f (k + 1) a0 a1) := by
 intro a0 a1 k
 have ih0 := impl_divisor.mono_l k
 unfold impl_divisor.f
 repeat' first | (with_reducible exact ih0 _ _) | (with_reducible exact LeO.refl _) | (with_reducible exact LeO.none _) | (with_reducible refine LeO.ite ?_ ?_) | (with_reducible refine LeO.bind ?_ (fun _ => ?_)) | exact ih0 _ _ | exact LeO.none _ | refine LeO.ite ?_ ?_ | refine LeO.bind ?_ (fun _ => ?_)
set_option maxHeartbeats 8000000 in
set_option maxRecDepth 100000 in
theorem impl_divisor.calls (k : Nat) (a0 : Int) (a1 : Int) (r : Int) (w : World) (h : impl_divisor.f k a0 a1 = some r) :
  Calls Try.prog 74 #[.int .i64 a0, .int .i64 a1] w fun e w' => e = .returned (.int .i64 r) ∧ Below w.heap.size w w' := by
 have HB := aM (Below.refl w.heap.size w)
 unfold impl_divisor.f at h; have H := h; clear h
 have H' := aM H; clear H
 go_enter Try.func74, Try.ntmps74
 go_wp2
 repeat (go_quiet (fail); try go_wp2)
 go_loopg [0, 1] k (fun kq v0 v1 w' => ∃ (x0_1 : Int) (x1_1 : Int), v0 = .int .i64 x0_1 ∧ v1 = .int .i64 x1_1 ∧ Aside0 (impl_divisor.l0 kq x0_1 x1_1 = some r) ∧ Aside0 (kq ≤ k) ∧ Aside0 (Below w.heap.size w w'))
 case atStart => exact ⟨(a0), (a1), eQ, eQ, H', ⟨Nat.le_refl _⟩, ⟨bQ⟩⟩
 case round =>
  clear H'; obtain ⟨x0_1, x1_1, rfl, rfl, HA, HK1, HB⟩ := hrel
  cases gk with
  | zero => exact absurd HA.out (by simp [impl_divisor.l0])
  | succ k1 =>
   have H := HA.out; clear HA
   simp only [impl_divisor.l0] at H
   by_cases c3 : x1_1 = 0
   ·rw [if_pos c3] at H; have c3b0 : (x1_1 == 0) = true := beq_iff_eq.mpr c3; have c3b1 : (x1_1 != 0) = false := bne_eq_false_iff_eq.mpr c3; clear c3; replace H := bS H; obtain ⟨t276, A4, H⟩ := H; obtain rfl := Option.some.inj H
    go_wp2_with (first | (go_at_call 112; (with_reducible refine (impl_size.calls x0_1 t276 _ A4.out).mono ?_); rintro e w5 ⟨rfl, hb⟩; replace HB := tB HB hb; (try clear hb); (try clear hb2); (try clear hk); (try clear hi)))
    repeat (go_quiet (first | (go_at_call 112; (with_reducible refine (impl_size.calls x0_1 t276 _ A4.out).mono ?_); rintro e w5 ⟨rfl, hb⟩; have n0_ := tB HB hb; clear HB; have HB := n0_; clear n0_; (try clear hb); (try clear hb2); (try clear hk); (try clear hi))); try go_wp2_with (first | (go_at_call 112; (with_reducible refine (impl_size.calls x0_1 t276 _ A4.out).mono ?_); rintro e w5 ⟨rfl, hb⟩; have n0_ := tB HB hb; clear HB; have HB := n0_; clear n0_; (try clear hb); (try clear hb2); (try clear hk); (try clear hi))))
    go_ret
    exact ⟨wQ, bQ⟩
   ·rw [if_neg c3] at H; have c3b0 : (x1_1 == 0) = false := beq_eq_false_iff_ne.mpr c3; have c3b1 : (x1_1 != 0) = true := bne_iff_ne.mpr c3; have H' := aM H; clear H; go_wp2
    repeat (go_quiet (fail); try go_wp2)
    go_roundg k1
    case measure => have := HK1.out; omega
    case rel => exact ⟨(x1_1), (Int.tmod x0_1 x1_1), eQ, eQ, H', ⟨by have := HK1.out; omega⟩, ⟨bQ⟩⟩

def impl_isDirection.f (k : Nat) (a0 : Int) (a1 : Int) : Option (Bool) := (impl_within.f a0 (-200) 200).bind fun t277 => (if t277 = true then ((impl_within.f a1 (-200) 200).bind fun t278 => (if t278 = true then ((impl_divisor.f k a0 a1).bind fun t279 => (some (t279 == 1))) else (some false))) else (some false))
theorem impl_isDirection.mono : ∀ a0 a1 k, LeO (impl_isDirection.f k a0 a1) (impl_isDirection.f (k + 1) a0 a1) := by
 intro a0 a1 k
 unfold impl_isDirection.f
 repeat' first | (with_reducible exact impl_divisor.mono _ _ _) | (with_reducible exact LeO.refl _) | (with_reducible exact LeO.none _) | (with_reducible refine LeO.ite ?_ ?_) | (with_reducible refine LeO.bind ?_ (fun _ => ?_)) | exact impl_divisor.mono _ _ _ | exact LeO.none _ | refine LeO.ite ?_ ?_ | refine LeO.bind ?_ (fun _ => ?_)
set_option maxHeartbeats 8000000 in
set_option maxRecDepth 100000 in
theorem impl_isDirection.calls (k : Nat) (a0 : Int) (a1 : Int) (r : Bool) (w : World) (h : impl_isDirection.f k a0 a1 = some r) :
  Calls Try.prog 139 #[.int .i64 a0, .int .i64 a1] w fun e w' => e = .returned (.bool r) ∧ Below w.heap.size w w' := by
 have HB := aM (Below.refl w.heap.size w)
 unfold impl_isDirection.f at h; have H := h; clear h
 replace H := bS H; obtain ⟨t277, A3, H⟩ := H
 by_cases c4 : t277 = true
 ·subst c4; replace H := iT H; replace H := bS H; obtain ⟨t278, A5, H⟩ := H
  by_cases c6 : t278 = true
  ·subst c6; replace H := iT H; replace H := bS H; obtain ⟨t279, A7, H⟩ := H; obtain rfl := Option.some.inj H
   go_enter Try.func139, Try.ntmps139
   go_wp2_with (first | ((with_reducible refine gC (f := 63) rfl ?_); refine goesL_ (some 6) rfl rfl Try.func63 kR rfl #[.int .i64 a0, .int .i64 (-200), .int .i64 200] rfl sQ ?_; (with_reducible refine (impl_within.calls a0 (-200) 200 true _ A3.out).mono ?_); rintro e w' ⟨rfl, ⟨nd, rfl⟩⟩; refine ⟨_, rfl, ?_⟩) | (go_at_call 63; (with_reducible refine (impl_within.calls a1 (-200) 200 true _ A5.out).mono ?_); rintro e w' ⟨rfl, ⟨nd, rfl⟩⟩) | (go_at_call 74; (with_reducible refine (impl_divisor.calls k a0 a1 t279 _ A7.out).mono ?_); rintro e w8 ⟨rfl, hb⟩; replace HB := tB HB hb; (try clear hb); (try clear hb2); (try clear hk); (try clear hi)))
   go_ret
   exact ⟨wQ, bQ⟩
  ·replace c6 := Bool.eq_false_iff.mpr c6; subst c6; replace H := iF H; obtain rfl := Option.some.inj H
   go_enter Try.func139, Try.ntmps139
   go_wp2_with (first | ((with_reducible refine gC (f := 63) rfl ?_); refine goesL_ (some 6) rfl rfl Try.func63 kR rfl #[.int .i64 a0, .int .i64 (-200), .int .i64 200] rfl sQ ?_; (with_reducible refine (impl_within.calls a0 (-200) 200 true _ A3.out).mono ?_); rintro e w' ⟨rfl, ⟨nd, rfl⟩⟩; refine ⟨_, rfl, ?_⟩) | (go_at_call 63; (with_reducible refine (impl_within.calls a1 (-200) 200 false _ A5.out).mono ?_); rintro e w' ⟨rfl, ⟨nd, rfl⟩⟩))
   go_ret
   exact ⟨wQ, bQ⟩
 ·replace c4 := Bool.eq_false_iff.mpr c4; subst c4; replace H := iF H; obtain rfl := Option.some.inj H
  go_enter Try.func139, Try.ntmps139
  go_wp2_with (first | ((with_reducible refine gC (f := 63) rfl ?_); refine goesL_ (some 6) rfl rfl Try.func63 kR rfl #[.int .i64 a0, .int .i64 (-200), .int .i64 200] rfl sQ ?_; (with_reducible refine (impl_within.calls a0 (-200) 200 false _ A3.out).mono ?_); rintro e w' ⟨rfl, ⟨nd, rfl⟩⟩; refine ⟨_, rfl, ?_⟩))
  go_ret
  exact ⟨wQ, bQ⟩

def impl_isWide.f (k : Nat) (l0 : List (S_impl_Peg)) (a1 : Int) (a2 : Int) : Option (Bool) := (impl_IsPolygon.f k l0).bind fun t280 => (if t280 = true then ((impl_isDirection.f k a1 a2).bind fun t281 => (some t281)) else (some false))
theorem impl_isWide.mono : ∀ a0 a1 a2 k, LeO (impl_isWide.f k a0 a1 a2) (impl_isWide.f (k + 1) a0 a1 a2) := by
 intro a0 a1 a2 k
 unfold impl_isWide.f
 repeat' first | (with_reducible exact impl_IsPolygon.mono _ _) | (with_reducible exact impl_isDirection.mono _ _ _) | (with_reducible exact LeO.refl _) | (with_reducible exact LeO.none _) | (with_reducible refine LeO.ite ?_ ?_) | (with_reducible refine LeO.bind ?_ (fun _ => ?_)) | exact impl_IsPolygon.mono _ _ | exact impl_isDirection.mono _ _ _ | exact LeO.none _ | refine LeO.ite ?_ ?_ | refine LeO.bind ?_ (fun _ => ?_)
set_option maxHeartbeats 8000000 in
set_option maxRecDepth 100000 in
theorem impl_isWide.calls (k : Nat) (A0 : Option Addr) (c0 : Nat) (l0 : List (S_impl_Peg)) (a1 : Int) (a2 : Int) (r : Bool) (w : World) (hr0 : Kd.C kd_impl_Peg w A0 l0.length l0) (hc0 : l0.length ≤ c0) (h : impl_isWide.f k l0 a1 a2 = some r) :
  Calls Try.prog 122 #[.slice A0 l0.length c0, .int .i64 a1, .int .i64 a2] w fun e w' => e = .returned (.bool r) ∧ Below w.heap.size w w' := by
 have HR0 := aM hr0; have HC0 := aM hc0; clear hr0 hc0; have HB := aM (Below.refl w.heap.size w)
 unfold impl_isWide.f at h; have H := h; clear h
 replace H := bS H; obtain ⟨t280, A4, H⟩ := H
 by_cases c5 : t280 = true
 ·subst c5; replace H := iT H; replace H := bS H; obtain ⟨t281, A6, H⟩ := H; obtain rfl := Option.some.inj H
  go_enter Try.func122, Try.ntmps122
  go_wp2_with (first | ((with_reducible refine gC (f := 88) rfl ?_); refine goesL_ (some 8) rfl rfl Try.func88 kR rfl #[.slice A0 l0.length c0] rfl sQ ?_; (with_reducible refine (impl_IsPolygon.calls k _ _ l0 true _ ?side1 ?side2 A4.out).mono ?_); (case side1 => repeat (first | exact HR0.out | (with_reducible refine cA ?_ _) | (with_reducible refine cN ?_ _) | (with_reducible refine cD ?_))); (case side2 => exact HC0.out); rintro e w7 ⟨rfl, hb⟩; refine ⟨_, rfl, ?_⟩; replace HB := tB HB hb; (try clear hb); (try clear hb2); (try clear hk); (try clear hi)) | (go_at_call 139; (with_reducible refine (impl_isDirection.calls k a1 a2 t281 _ A6.out).mono ?_); rintro e w8 ⟨rfl, hb⟩; replace HB := tB HB hb; (try clear hb); (try clear hb2); (try clear hk); (try clear hi)))
  go_ret
  exact ⟨wQ, bQ⟩
 ·replace c5 := Bool.eq_false_iff.mpr c5; subst c5; replace H := iF H; obtain rfl := Option.some.inj H
  go_enter Try.func122, Try.ntmps122
  go_wp2_with (first | ((with_reducible refine gC (f := 88) rfl ?_); refine goesL_ (some 8) rfl rfl Try.func88 kR rfl #[.slice A0 l0.length c0] rfl sQ ?_; (with_reducible refine (impl_IsPolygon.calls k _ _ l0 false _ ?side1 ?side2 A4.out).mono ?_); (case side1 => repeat (first | exact HR0.out | (with_reducible refine cA ?_ _) | (with_reducible refine cN ?_ _) | (with_reducible refine cD ?_))); (case side2 => exact HC0.out); rintro e w9 ⟨rfl, hb⟩; refine ⟨_, rfl, ?_⟩; replace HB := tB HB hb; (try clear hb); (try clear hb2); (try clear hk); (try clear hi)))
  go_ret
  exact ⟨wQ, bQ⟩

def impl_value.f (a0_0 : Int) (a0_1 : Int) (a1_0 : Int) (a1_1 : Int) : Option (Int) := some (wrap64 ((wrap64 (a0_0 * a1_0)) + (wrap64 (a0_1 * a1_1))))
set_option maxHeartbeats 8000000 in
set_option maxRecDepth 100000 in
theorem impl_value.calls (a0_0 : Int) (a0_1 : Int) (a1_0 : Int) (a1_1 : Int) (r : Int) (w : World) (h : impl_value.f a0_0 a0_1 a1_0 a1_1 = some r) :
  Calls Try.prog 125 #[.agg #[.int .i64 a0_0, .int .i64 a0_1], .agg #[.int .i64 a1_0, .int .i64 a1_1]] w fun e w' => e = .returned (.int .i64 r) ∧ Below w.heap.size w w' := by
 have hu50 := Try.underlying50; have HB := aM (Below.refl w.heap.size w)
 unfold impl_value.f at h; have H := h; clear h
 obtain rfl := Option.some.inj H
 go_enter Try.func125, Try.ntmps125
 go_wp2_with (first | ((with_reducible refine gate_dst (N := 2) rfl ?_); refine bV 2 (cs := #[.int .i64 a0_0, .int .i64 a0_1]) (t := 50) rfl rfl (by first | (go_simp; done) | (go_simp; rfl)) ?_; intro gb282 hg w3 hbox hb; have BK282 := hbox; have GW282 := gZ HB hg; have GE282 := gZ HB hg; replace HB := tB HB hb; clear hb hbox hg) | ((with_reducible refine gate_dst (N := 3) rfl ?_); refine bV 3 (cs := #[.int .i64 a1_0, .int .i64 a1_1]) (t := 50) rfl rfl (by first | (go_simp; done) | (go_simp; rfl)) ?_; intro gb283 hg w4 hbox hb; have BK283 := hbox; have GW283 := gZ HB hg; have GE283 := gZ HB hg; have NB282_283 := nG BK282 hg; have NB283_282 := nH BK282 hg; replace BK282 := bB BK282 hb; replace HB := tB HB hb; clear hb hbox hg; have hnb5 := NB282_283.out; have hnc5 := NB283_282.out; have hcz6_0 := vZ0 BK282; have hcz6_1 := vZ1 BK282; have hfz6_0 := kF BK282.out 0; have hfz6_1 := kF BK282.out 1; have hcz7_0 := vZ0 BK283; have hcz7_1 := vZ1 BK283; have hfz7_0 := kF BK283.out 0; have hfz7_1 := kF BK283.out 1))
 go_ret
 exact ⟨wQ, bE⟩

def impl_extent.l0 : Nat → Int → Int → List (S_impl_Peg) → Int → Int → Int → Int → Option (Int × Int)
 | 0, _, _, _, _, _, _, _ => none
 | k + 1, x6, x7, x16, x17, x18, x285000, x285001 => if x18 < x17 then (if 0 ≤ x18 then (if x18 < (x16.length : Int) then ((impl_value.f x285000 x285001 ((rd_impl_Peg x16 x18).f0) ((rd_impl_Peg x16 x18).f1)).bind fun t289 => ((impl_value.f x285000 x285001 ((rd_impl_Peg x16 x18).f0) ((rd_impl_Peg x16 x18).f1)).bind fun t290 => (impl_extent.l0 k (mn x6 t289) (mx x7 t290) x16 x17 (wrap64 (x18 + 1)) x285000 x285001))) else (none)) else (none)) else (some (x6, x7))
def impl_extent.f (k : Nat) (l0 : List (S_impl_Peg)) (a1_0 : Int) (a1_1 : Int) : Option (Int × Int) := if 0 < (l0.length : Int) then ((impl_value.f a1_0 a1_1 ((rd_impl_Peg l0 0).f0) ((rd_impl_Peg l0 0).f1)).bind fun t286 => (impl_extent.l0 k t286 t286 l0 (l0.length : Int) 0 a1_0 a1_1)) else (none)
theorem impl_extent.mono_l : ∀ k, (∀ y0 y1 y2 y3 y4 y5 y6, LeO (impl_extent.l0 k y0 y1 y2 y3 y4 y5 y6) (impl_extent.l0 (k + 1) y0 y1 y2 y3 y4 y5 y6))
 | 0 => fun _ _ _ _ _ _ _ r h => by simp [impl_extent.l0] at h
 | k + 1 => by
  have ih0 := impl_extent.mono_l k
  ·intro y0 y1 y2 y3 y4 y5 y6
   unfold impl_extent.l0
   repeat' first
   | (with_reducible exact ih0 _ _ _ _ _ _ _)
   | (with_reducible exact LeO.refl _)
   | (with_reducible exact LeO.none _)
   | (with_reducible refine LeO.ite ?_ ?_)
   | (with_reducible refine LeO.bind ?_ (fun _ => ?_))
   | exact ih0 _ _ _ _ _ _ _
   | exact LeO.none _
   | refine LeO.ite ?_ ?_
   | refine LeO.bind ?_ (fun _ => ?_)
theorem impl_extent.mono : ∀ a0 a1 a2 k, LeO (impl_extent.f k a0 a1 a2) (impl_extent.f (k + 1) a0 a1 a2) := by
 intro a0 a1 a2 k
 have ih0 := impl_extent.mono_l k
 unfold impl_extent.f
 repeat' first | (with_reducible exact ih0 _ _ _ _ _ _ _) | (with_reducible exact LeO.refl _) | (with_reducible exact LeO.none _) | (with_reducible refine LeO.ite ?_ ?_) | (with_reducible refine LeO.bind ?_ (fun _ => ?_)) | exact ih0 _ _ _ _ _ _ _ | exact LeO.none _ | refine LeO.ite ?_ ?_ | refine LeO.bind ?_ (fun _ => ?_)
def impl_extent.T6 : Bool × List (List Nat × List Nat) := (true, [([], []), ([], []), ([], []), ([1, 2], [1, 2]), ([0, 3], [0, 3]), ([], []), ([], []), ([], []), ([6, 7, 3], [6, 7]), ([5, 8], [5, 8]), ([4, 8, 0, 1, 2, 3, 4], [0, 4]), ([9, 10, 0, 1, 2, 3, 4, 5, 6, 7, 8, 9, 10], [5, 9])])
def impl_extent.B6 : List Nat := [0, 0, 0, 6, 15, 0, 0, 0, 206, 494, 479, 2047]
theorem impl_extent.tab6 : rtab .any (opsOf Try.f123 6) = impl_extent.T6 := by kernel_rfl
theorem impl_extent.bits6 : waitsOk impl_extent.T6.2 impl_extent.B6 = true := by kernel_rfl
set_option maxHeartbeats 8000000 in
set_option maxRecDepth 100000 in
theorem impl_extent.calls (k : Nat) (A0 : Option Addr) (c0 : Nat) (l0 : List (S_impl_Peg)) (a1_0 : Int) (a1_1 : Int) (r1 : Int) (r2 : Int) (w : World) (hr0 : Kd.C kd_impl_Peg w A0 l0.length l0) (hc0 : l0.length ≤ c0) (h : impl_extent.f k l0 a1_0 a1_1 = some (r1, r2)) :
  Calls Try.prog 123 #[.slice A0 l0.length c0, .agg #[.int .i64 a1_0, .int .i64 a1_1]] w fun e w' => e = .returned (.tuple #[.int .i64 r1, .int .i64 r2]) ∧ Below w.heap.size w w' := by
 have hu50 := Try.underlying50; have HR0 := aM hr0; have HC0 := aM hc0; clear hr0 hc0; have HB := aM (Below.refl w.heap.size w)
 unfold impl_extent.f at h; have H := h; clear h
 replace H := iN H; obtain ⟨c3, H⟩ := H; have c3b0 := dE c3; have c3b1 : decide (0 < l0.length) = true := dE (by omega)
 clear c3; replace H := bS H; obtain ⟨t286, A4, H⟩ := H; have H' := aM H; clear H
 go_enter Try.func123, Try.ntmps123
 try go_wp2_with (first | ((with_reducible refine gate_dst (N := 3) rfl ?_); refine bV 3 (cs := #[.int .i64 a1_0, .int .i64 a1_1]) (t := 50) rfl rfl (by first | (go_simp; done) | (go_simp; rfl)) ?_; intro gb284 hg w5 hbox hb; have BK284 := hbox; have GW284 := gZ HB hg; have GE284 := gZ HB hg; replace HB := tB HB hb; clear hb hbox hg))
 replace BK284 := aM (kD BK284.out); replace HB := aM (pD HB.out); have p285 : 0 ≤ (0 : Int) := (by omega)
 have q285 : 0 < (l0.length : Int) := dT aQ; obtain ⟨ad285, e285, hx285_0, hx285_1⟩ := at_impl_Peg HR0.out 0 p285 q285; have hw285_1 := hx285_1
 (try rw [show ((0 : Int)).toNat = 0 from rfl] at hw285_1)
 (try rw [show 0 * 2 = 0 from rfl] at hw285_1)
 (try rw [Addr.add_zero'] at hw285_1)
 have hw285_0 := hx285_0
 (try rw [show ((0 : Int)).toNat = 0 from rfl] at hw285_0)
 (try rw [show 0 * 2 = 0 from rfl] at hw285_0)
 (try rw [Addr.add_zero'] at hw285_0)
 cases e285
 have qi285 : (0 < l0.length) = True := eq_true (by omega)
 (try rw [show ((0 : Int)).toNat = 0 from rfl] at hx285_0)
 (try rw [show 0 * 2 = 0 from rfl] at hx285_0)
 (try rw [Addr.add_zero'] at hx285_0)
 (try rw [show ((0 : Int)).toNat = 0 from rfl] at hx285_1)
 (try rw [show 0 * 2 = 0 from rfl] at hx285_1)
 (try rw [Addr.add_zero'] at hx285_1)
 replace hx285_0 := hC HB hx285_0; replace hx285_1 := hC HB hx285_1; replace p285 := eq_true p285; replace q285 := eq_true q285
 refine start_ (n := 6) (S := fun w' => w'.cell? ⟨gb284, 0, none⟩ = some (.int .i64 a1_0) ∧ w'.cell? ⟨gb284, 1, none⟩ = some (.int .i64 a1_1) ∧ w'.cell? ad285 = some (.int .i64 ((rd_impl_Peg l0 0).f0)) ∧ w'.cell? ⟨ad285.block, ad285.off + 1, none⟩ = some (.int .i64 ((rd_impl_Peg l0 0).f1))) (ds := []) (bA 6 0) kR rfl kR ⟨vZ0 BK284, vZ1 BK284, (hC HB hw285_0 :), (hC HB hw285_1 :)⟩ (fun hHeld => ?_)
 generalize w5.drew = w6 at BK284 HB hx285_0 hx285_1 hHeld ⊢
 refine pure_ (i := 1) (N := some 11) (v := ?_) (a' := ?_) (bA 6 2) rfl rfl kR (fun _ _ _ h => h) (Or.inl ⟨by rfl, ?_⟩) ?_ ?_
 rotate_left
 ·intro w'
  go_simp
  with_reducible rfl
 rotate_left
 ·simp only [Act.put, sI, sZ, sS, i64_w, i32_w]
  rfl
 refine pure_ (i := 2) (N := some 12) (v := ?_) (a' := ?_) (bA 6 6) rfl rfl kR (fun _ _ _ h => h) (Or.inl ⟨by rfl, ?_⟩) ?_ ?_
 rotate_left
 ·intro w'
  go_simp
  with_reducible rfl
 rotate_left
 ·simp only [Act.put, sI, sZ, sS, i64_w, i32_w]
  rfl
 refine take_ (i := 0) (N := some 10) (v := ?_) (a' := ?_) (bA 6 7) rfl rfl kR (fun _ _ _ h => h) (Or.inl ⟨by rfl, ?_⟩) hHeld ?_ ?_
 rotate_left
 ·rintro w' ⟨s0, s1, s2, s3⟩
  go_simp
  with_reducible rfl
 rotate_left
 ·simp only [Act.put, sI, sZ, sS, i64_w, i32_w]
  rfl
 refine take_ (i := 3) (N := some 13) (v := ?_) (a' := ?_) (bA 6 15) rfl rfl kR (fun _ _ _ h => h) (Or.inl ⟨by rfl, ?_⟩) hHeld ?_ ?_
 rotate_left
 ·rintro w' ⟨s0, s1, s2, s3⟩
  go_simp
  with_reducible rfl
 rotate_left
 ·simp only [Act.put, sI, sZ, sS, i64_w, i32_w]
  rfl
 refine one_ (i := 4) (N := some 14) (bA 6 31) rfl rfl kR (by decide) (fun K hK => ?_)
 refine goes_ Try.func125 kR rfl #[.agg #[.int .i64 a1_0, .int .i64 a1_1], .agg #[.int .i64 ((rd_impl_Peg l0 0).f0), .int .i64 ((rd_impl_Peg l0 0).f1)]] (by rfl) rfl rfl sQ ?_
 with_reducible refine (impl_value.calls a1_0 a1_1 ((rd_impl_Peg l0 0).f0) ((rd_impl_Peg l0 0).f1) t286 _ A4.out).mono ?_
 rintro e w7 ⟨rfl, hb⟩; refine ⟨_, rfl, ?_⟩; replace BK284 := bB BK284 hb; replace HB := tB HB hb; (try clear hb); (try clear hb2); (try clear hk); (try clear hi)
 refine hK.out _ _ ⟨vZ0 BK284, vZ1 BK284, (hC HB hw285_0 :), (hC HB hw285_1 :)⟩ (fun hHeld => ?_)
 clear hK K
 refine nU ?_
 refine pure_ (i := 5) (N := some 6) (v := ?_) (a' := ?_) (bA 6 63) rfl rfl kR (fun _ _ _ h => h) (Or.inl ⟨by rfl, ?_⟩) ?_ ?_
 rotate_left
 ·intro w'
  go_simp
  with_reducible rfl
 rotate_left
 ·simp only [Act.put, sI, sZ, sS, i64_w, i32_w]
  rfl
 refine done_ kR ?_
 try go_wp2
 go_loopg [6, 7, 18] k (fun kq v6 v7 v18 w' => ∃ (x6_1 : Int) (x7_1 : Int) (x18_1 : Int), v6 = .int .i64 x6_1 ∧ v7 = .int .i64 x7_1 ∧ v18 = .int .i64 x18_1 ∧ Aside0 (impl_extent.l0 kq x6_1 x7_1 l0 (l0.length : Int) x18_1 a1_0 a1_1 = some (r1, r2)) ∧ Aside0 (kq ≤ k) ∧ Aside0 (w'.heap[gb284]? = some (.cells #[.int .i64 a1_0, .int .i64 a1_1] 50 (0, 0))) ∧ Aside0 (Below w.heap.size w w'))
 case atStart => exact ⟨(t286), (t286), (0), eQ, eQ, eQ, H', ⟨Nat.le_refl _⟩, ⟨gQ BK284⟩, ⟨bE⟩⟩
 case round =>
  clear H'; (try clear c3); (try clear c3b0); (try clear c3b1); (try clear hx285_0); (try clear hx285_1); (try clear p285); (try clear q285); obtain ⟨x6_1, x7_1, x18_1, rfl, rfl, rfl, HA, HK1, BK284, HB⟩ := hrel
  cases gk with
  | zero => exact absurd HA.out (by simp [impl_extent.l0])
  | succ k1 =>
   have H := HA.out; clear HA
   simp only [impl_extent.l0] at H
   by_cases c8 : x18_1 < (l0.length : Int)
   ·rw [if_pos c8] at H; have c8b0 := dE c8; clear c8; replace H := iD H; obtain ⟨c9b0, H⟩ := H; replace H := iD H; obtain ⟨c10b0, H⟩ := H; replace H := bS H; obtain ⟨t289, A11, H⟩ := H; obtain ⟨ji12, hji12⟩ : ∃ j_ : Int, (mn x6_1 t289) = j_ := ⟨_, rfl⟩
    (first | rw [hji12] at H | simp only [hji12] at H)
    (try rw [hji12] at A11)
    have hji12_ : (if t289 < x6_1 then t289 else x6_1) = ji12 := hji12; replace H := bS H; obtain ⟨t290, A13, H⟩ := H; obtain ⟨ji14, hji14⟩ : ∃ j_ : Int, (mx x7_1 t290) = j_ := ⟨_, rfl⟩
    (first | rw [hji14] at H | simp only [hji14] at H)
    (try rw [hji14] at A11)
    (try rw [hji14] at A13)
    have hji14_ : (if x7_1 < t290 then t290 else x7_1) = ji14 := hji14; have H' := aM H; clear H; have p287 : 0 ≤ (x18_1 : Int) := dT aQ; have q287 : x18_1 < (l0.length : Int) := dT aQ; obtain ⟨ad287, e287, hx287_0, hx287_1⟩ := at_impl_Peg HR0.out x18_1 p287 q287; obtain rfl : ad285 = ad287 := (by injection e287)
    replace hx287_0 := hC HB hx287_0; replace hx287_1 := hC HB hx287_1; replace p287 := eq_true p287; replace q287 := eq_true q287
    try go_wp2_with (first | ((with_reducible refine gate_dst (N := 9) rfl ?_); refine bV 9 (cs := #[.int .i64 0, .int .i64 0]) (t := 50) rfl rfl (by first | (go_simp; done) | (go_simp; rfl)) ?_; intro gb288 hg w15 hbox hb; have BK288 := hbox; have GW288 := gZ HB hg; have GE288 := gZ HB hg; have NB284_288 := nG BK284 hg; have NB288_284 := nH BK284 hg; replace BK284 := bB BK284 hb; replace HB := tB HB hb; clear hb hbox hg; have hnb16 := NB288_284.out; have hnc16 := NB284_288.out; have hcz17_0 := vZ0 BK288; have hcz17_1 := vZ1 BK288; have hfz17_0 := kF BK288.out 0; have hfz17_1 := kF BK288.out 1))
    have n0_ : Aside0 (((w15.setCell ⟨gb288, 0, none⟩ (.int .i64 ((rd_impl_Peg l0 x18_1).f0))).setCell ⟨gb288, 1, none⟩ (.int .i64 ((rd_impl_Peg l0 x18_1).f1))).heap[gb284]? = some (.cells #[.int .i64 a1_0, .int .i64 a1_1] 50 (0, 0))) := ⟨fQ BK284⟩; have n1_ : Aside0 (((w15.setCell ⟨gb288, 0, none⟩ (.int .i64 ((rd_impl_Peg l0 x18_1).f0))).setCell ⟨gb288, 1, none⟩ (.int .i64 ((rd_impl_Peg l0 x18_1).f1))).heap[gb288]? = some (.cells #[.int .i64 ((rd_impl_Peg l0 x18_1).f0), .int .i64 ((rd_impl_Peg l0 x18_1).f1)] 50 (0, 0))) := ⟨fQ BK288⟩; have n2_ : Aside0 (Below w.heap.size w ((w15.setCell ⟨gb288, 0, none⟩ (.int .i64 ((rd_impl_Peg l0 x18_1).f0))).setCell ⟨gb288, 1, none⟩ (.int .i64 ((rd_impl_Peg l0 x18_1).f1)))) := ⟨bE⟩; (try clear BK284); (try clear BK288); (try clear HB)
    generalize ((w15.setCell ⟨gb288, 0, none⟩ (.int .i64 ((rd_impl_Peg l0 x18_1).f0))).setCell ⟨gb288, 1, none⟩ (.int .i64 ((rd_impl_Peg l0 x18_1).f1))) = w18 at n0_ n1_ n2_ ⊢
    have BK284 := n0_; have BK288 := n1_; have HB := n2_; clear n0_ n1_ n2_; replace BK284 := aM (kD BK284.out); replace BK288 := aM (kD BK288.out); replace HB := aM (pD HB.out)
    refine start_ (n := 12) (S := fun w' => w'.cell? ⟨gb284, 0, none⟩ = some (.int .i64 a1_0) ∧ w'.cell? ⟨gb284, 1, none⟩ = some (.int .i64 a1_1) ∧ w'.cell? ⟨gb288, 0, none⟩ = some (.int .i64 ((rd_impl_Peg l0 x18_1).f0)) ∧ w'.cell? ⟨gb288, 1, none⟩ = some (.int .i64 ((rd_impl_Peg l0 x18_1).f1))) (ds := []) (bA 12 0) kR rfl kR ⟨vZ0 BK284, vZ1 BK284, vZ0 BK288, vZ1 BK288⟩ (fun hHeld => ?_); refine with_tabW impl_extent.tab6 impl_extent.bits6 (fun HT_ HW_ => ?_)
    generalize w18.drew = w19 at BK284 BK288 HB hHeld ⊢
    refine pU 0 22 (bA 12 1) HT_ ?_; refine pU 5 27 (bA 12 33) HT_ ?_
    refine tU 1 23 (bA 12 35) HT_ HW_ hHeld ?_ (hy := Or.inl ⟨by rfl, by rintro w' ⟨s0, s1, s2, s3⟩; go_simp; with_reducible rfl⟩)
    refine tU 2 24 (bA 12 39) HT_ HW_ hHeld ?_ (hy := Or.inl ⟨by rfl, by rintro w' ⟨s0, s1, s2, s3⟩; go_simp; with_reducible rfl⟩)
    refine tU 6 28 (bA 12 103) HT_ HW_ hHeld ?_ (hy := Or.inl ⟨by rfl, by rintro w' ⟨s0, s1, s2, s3⟩; go_simp; with_reducible rfl⟩)
    refine tU 7 29 (bA 12 231) HT_ HW_ hHeld ?_ (hy := Or.inl ⟨by rfl, by rintro w' ⟨s0, s1, s2, s3⟩; go_simp; with_reducible rfl⟩)
    refine oU 3 25 (bA 12 239) HT_ (fun K hK => ?_)
    refine goes_ Try.func125 kR rfl #[.agg #[.int .i64 a1_0, .int .i64 a1_1], .agg #[.int .i64 ((rd_impl_Peg l0 x18_1).f0), .int .i64 ((rd_impl_Peg l0 x18_1).f1)]] (by rfl) rfl rfl sQ ?_
    with_reducible refine (impl_value.calls a1_0 a1_1 ((rd_impl_Peg l0 x18_1).f0) ((rd_impl_Peg l0 x18_1).f1) t289 _ A11.out).mono ?_
    rintro e w20 ⟨rfl, hb⟩; refine ⟨_, rfl, ?_⟩; replace BK284 := bB BK284 hb; replace BK288 := bB BK288 hb; replace HB := tB HB hb; (try clear hb); (try clear hb2); (try clear hk); (try clear hi)
    refine hK.out _ _ ⟨vZ0 BK284, vZ1 BK284, vZ0 BK288, vZ1 BK288⟩ (fun hHeld => ?_)
    clear hK K
    refine nU ?_
    refine pU 4 26 (bA 12 255) HT_ ?_
    refine oU 8 30 (bA 12 511) HT_ (fun K hK => ?_)
    refine goes_ Try.func125 kR rfl #[.agg #[.int .i64 a1_0, .int .i64 a1_1], .agg #[.int .i64 ((rd_impl_Peg l0 x18_1).f0), .int .i64 ((rd_impl_Peg l0 x18_1).f1)]] (by rfl) rfl rfl sQ ?_
    with_reducible refine (impl_value.calls a1_0 a1_1 ((rd_impl_Peg l0 x18_1).f0) ((rd_impl_Peg l0 x18_1).f1) t290 _ A13.out).mono ?_
    rintro e w21 ⟨rfl, hb⟩; refine ⟨_, rfl, ?_⟩; replace BK284 := bB BK284 hb; replace BK288 := bB BK288 hb; replace HB := tB HB hb; (try clear hb); (try clear hb2); (try clear hk); (try clear hi)
    refine hK.out _ _ ⟨vZ0 BK284, vZ1 BK284, vZ0 BK288, vZ1 BK288⟩ (fun hHeld => ?_)
    clear hK K
    refine nU ?_
    refine pU 9 31 (bA 12 1023) HT_ ?_; refine pU 10 6 (bA 12 2047) HT_ ?_; refine pU 11 7 (bA 12 4095) HT_ ?_
    refine done_ (done_of HT_.out kR) ?_
    try go_wp2
    go_roundg k1
    case measure => have := HK1.out; omega
    case rel => exact ⟨(ji12), (ji14), (wrap64 (x18_1 + 1)), (by first | rfl | (simp; done) | (simp only [← hji12] <;> (first | rfl | simp)) | (simp [*]; done)), (by first | rfl | (simp; done) | (simp only [← hji14] <;> (first | rfl | simp)) | (simp [*]; done)), eQ, H', ⟨by have := HK1.out; omega⟩, ⟨gQ BK284⟩, ⟨bE⟩⟩
   ·rw [if_neg c8] at H; have c8b0 := decide_eq_false c8; clear c8
    simp only [Option.some.injEq, Prod.mk.injEq] at H
    obtain ⟨rfl, rfl⟩ := H; go_wp2
    go_ret2
    exact ⟨wQ, bE⟩
end Go.Proofs.Ytfihohongkfibaa.X
