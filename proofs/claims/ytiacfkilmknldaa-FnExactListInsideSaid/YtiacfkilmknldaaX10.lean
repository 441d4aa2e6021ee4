-- thin
-- short
import Derived.Test.YtiacfkilmknldaaXA
import Derived.Test.YtiacfkilmknldaaX0
import Derived.Test.YtiacfkilmknldaaX7
import Derived.Test.YtiacfkilmknldaaX8
import Derived.Test.YtiacfkilmknldaaX9
namespace Go.Proofs.Ytiacfkilmknldaa.X
open Go.RowKit Go.Proofs.Ytiacfkilmknldaa.XW Go.Proofs.YtiacfkilmknldaaW.PrintWords Go.Proofs.YtiacfkilmknldaaW.PrintLast Go.Proofs.YtiacfkilmknldaaW.PrintMore
attribute [local go_sem] max2_int min2_int max_two min_two max_three min_three max_four min_four   -- for this text's walks alone
set_option linter.unusedVariables false
set_option linter.unusedSimpArgs false

mutual
def impl_IsPolygon.j0 : Nat → List (S_impl_Peg) → Int → Bool → Option (Bool)
 | 0, _, _, _ => none
 | k + 1, x0, x3, x16 => if x16 = true then (some false) else (impl_IsPolygon.l0 k x0 x3 x0 (x0.length : Int) 0)
def impl_IsPolygon.l0 : Nat → List (S_impl_Peg) → Int → List (S_impl_Peg) → Int → Int → Option (Bool)
 | 0, _, _, _, _, _ => none
 | k + 1, x0, x3, x17, x18, x19 => if x19 < x18 then (if 0 ≤ x19 then (if x19 < (x17.length : Int) then (if x19 ≤ (x0.length : Int) then ((slices_Contains_impl_Peg.f k (x0.take (x19 : Int).toNat) ((rd_impl_Peg x17 x19).f0) ((rd_impl_Peg x17 x19).f1)).bind fun t228 => (if t228 = true then (impl_IsPolygon.j2 k x0 x3 x19 x17 x18 x19 true ((rd_impl_Peg x17 x19).f0) ((rd_impl_Peg x17 x19).f1)) else ((impl_at.f x0 (wrap64 (x19 - 1))).bind fun bt229 => ((impl_at.f x0 (wrap64 (x19 + 1))).bind fun bt231 => ((impl_turn.f bt229.1 bt229.2 ((rd_impl_Peg x17 x19).f0) ((rd_impl_Peg x17 x19).f1) bt231.1 bt231.2).bind fun t233 => (impl_IsPolygon.j2 k x0 x3 x19 x17 x18 x19 (t233 == 0) ((rd_impl_Peg x17 x19).f0) ((rd_impl_Peg x17 x19).f1))))))) else (none)) else (none)) else (none)) else (some true)
def impl_IsPolygon.j2 : Nat → List (S_impl_Peg) → Int → Int → List (S_impl_Peg) → Int → Int → Bool → Int → Int → Option (Bool)
 | 0, _, _, _, _, _, _, _, _, _ => none
 | k + 1, x0, x3, x4, x17, x18, x19, x41, x224000, x224001 => if x41 = true then (some false) else (impl_IsPolygon.l1 k x0 x3 x4 x17 x18 x19 x4 0 x224000 x224001)
def impl_IsPolygon.l1 : Nat → List (S_impl_Peg) → Int → Int → List (S_impl_Peg) → Int → Int → Int → Int → Int → Int → Option (Bool)
 | 0, _, _, _, _, _, _, _, _, _, _ => none
 | k + 1, x0, x3, x4, x17, x18, x19, x42, x43, x224000, x224001 => if x43 < x42 then (if (wrap64 (x43 + 1)) = x4 then (impl_IsPolygon.j4 k x0 x3 x4 x43 x17 x18 x19 x42 x43 true x224000 x224001) else (if (wrap64 (x4 + 1)) = x3 then (impl_IsPolygon.j4 k x0 x3 x4 x43 x17 x18 x19 x42 x43 (x43 == 0) x224000 x224001) else (impl_IsPolygon.j4 k x0 x3 x4 x43 x17 x18 x19 x42 x43 false x224000 x224001))) else (impl_IsPolygon.l0 k x0 x3 x17 x18 (wrap64 (x19 + 1)))
def impl_IsPolygon.j4 : Nat → List (S_impl_Peg) → Int → Int → Int → List (S_impl_Peg) → Int → Int → Int → Int → Bool → Int → Int → Option (Bool)
 | 0, _, _, _, _, _, _, _, _, _, _, _, _ => none
 | k + 1, x0, x3, x4, x6, x17, x18, x19, x42, x43, x59, x224000, x224001 => if x59 = true then (impl_IsPolygon.l1 k x0 x3 x4 x17 x18 x19 x42 (wrap64 (x43 + 1)) x224000 x224001) else (if 0 ≤ x6 then (if x6 < (x0.length : Int) then (if 0 ≤ (wrap64 (x6 + 1)) then (if (wrap64 (x6 + 1)) < (x0.length : Int) then ((impl_at.f x0 (wrap64 (x4 + 1))).bind fun bt236 => ((impl_meet.f k ((rd_impl_Peg x0 x6).f0) ((rd_impl_Peg x0 x6).f1) ((rd_impl_Peg x0 (wrap64 (x6 + 1))).f0) ((rd_impl_Peg x0 (wrap64 (x6 + 1))).f1) x224000 x224001 bt236.1 bt236.2).bind fun t238 => (if t238 = true then (some false) else (impl_IsPolygon.l1 k x0 x3 x4 x17 x18 x19 x42 (wrap64 (x43 + 1)) x224000 x224001)))) else (none)) else (none)) else (none)) else (none))
end
def impl_IsPolygon.f (k : Nat) (l0 : List (S_impl_Peg)) : Option (Bool) := (impl_within.f (l0.length : Int) 3 10).bind fun t220 => (if t220 = true then ((impl_arePegs.f k l0).bind fun t221 => (impl_IsPolygon.j0 k l0 (l0.length : Int) (!t221))) else (impl_IsPolygon.j0 k l0 (l0.length : Int) true))
theorem impl_IsPolygon.mono_l : ∀ k, (∀ y0 y1 y2, LeO (impl_IsPolygon.j0 k y0 y1 y2) (impl_IsPolygon.j0 (k + 1) y0 y1 y2)) ∧ (∀ y0 y1 y2 y3 y4, LeO (impl_IsPolygon.l0 k y0 y1 y2 y3 y4) (impl_IsPolygon.l0 (k + 1) y0 y1 y2 y3 y4)) ∧ (∀ y0 y1 y2 y3 y4 y5 y6 y7 y8, LeO (impl_IsPolygon.j2 k y0 y1 y2 y3 y4 y5 y6 y7 y8) (impl_IsPolygon.j2 (k + 1) y0 y1 y2 y3 y4 y5 y6 y7 y8)) ∧ (∀ y0 y1 y2 y3 y4 y5 y6 y7 y8 y9, LeO (impl_IsPolygon.l1 k y0 y1 y2 y3 y4 y5 y6 y7 y8 y9) (impl_IsPolygon.l1 (k + 1) y0 y1 y2 y3 y4 y5 y6 y7 y8 y9)) ∧ (∀ y0 y1 y2 y3 y4 y5 y6 y7 y8 y9 y10 y11, LeO (impl_IsPolygon.j4 k y0 y1 y2 y3 y4 y5 y6 y7 y8 y9 y10 y11) (impl_IsPolygon.j4 (k + 1) y0 y1 y2 y3 y4 y5 y6 y7 y8 y9 y10 y11))
 | 0 => ⟨fun _ _ _ r h => by simp [impl_IsPolygon.j0] at h, fun _ _ _ _ _ r h => by simp [impl_IsPolygon.l0] at h, fun _ _ _ _ _ _ _ _ _ r h => by simp [impl_IsPolygon.j2] at h, fun _ _ _ _ _ _ _ _ _ _ r h => by simp [impl_IsPolygon.l1] at h, fun _ _ _ _ _ _ _ _ _ _ _ _ r h => by simp [impl_IsPolygon.j4] at h⟩
 | k + 1 => by
  obtain ⟨ih0, ih1, ih2, ih3, ih4⟩ := impl_IsPolygon.mono_l k
  refine ⟨?_, ?_, ?_, ?_, ?_⟩
  ·intro y0 y1 y2
   unfold impl_IsPolygon.j0
   repeat' first
   | (with_reducible exact ih0 _ _ _)
   | (with_reducible exact ih1 _ _ _ _ _)
   | (with_reducible exact ih2 _ _ _ _ _ _ _ _ _)
   | (with_reducible exact ih3 _ _ _ _ _ _ _ _ _ _)
   | (with_reducible exact ih4 _ _ _ _ _ _ _ _ _ _ _ _)
   | (with_reducible exact impl_arePegs.mono _ _)
   | (with_reducible exact impl_meet.mono _ _ _ _ _ _ _ _ _)
   | (with_reducible exact slices_Contains_impl_Peg.mono _ _ _ _)
   | (with_reducible exact LeO.refl _)
   | (with_reducible exact LeO.none _)
   | (with_reducible refine LeO.ite ?_ ?_)
   | (with_reducible refine LeO.bind ?_ (fun _ => ?_))
   | exact ih0 _ _ _
   | exact ih1 _ _ _ _ _
   | exact ih2 _ _ _ _ _ _ _ _ _
   | exact ih3 _ _ _ _ _ _ _ _ _ _
   | exact ih4 _ _ _ _ _ _ _ _ _ _ _ _
   | exact impl_arePegs.mono _ _
   | exact impl_meet.mono _ _ _ _ _ _ _ _ _
   | exact slices_Contains_impl_Peg.mono _ _ _ _
   | exact LeO.none _
   | refine LeO.ite ?_ ?_
   | refine LeO.bind ?_ (fun _ => ?_)
  ·intro y0 y1 y2 y3 y4
   unfold impl_IsPolygon.l0
   repeat' first
   | (with_reducible exact ih0 _ _ _)
   | (with_reducible exact ih1 _ _ _ _ _)
   | (with_reducible exact ih2 _ _ _ _ _ _ _ _ _)
   | (with_reducible exact ih3 _ _ _ _ _ _ _ _ _ _)
   | (with_reducible exact ih4 _ _ _ _ _ _ _ _ _ _ _ _)
   | (with_reducible exact impl_arePegs.mono _ _)
   | (with_reducible exact impl_meet.mono _ _ _ _ _ _ _ _ _)
   | (with_reducible exact slices_Contains_impl_Peg.mono _ _ _ _)
   | (with_reducible exact LeO.refl _)
   | (with_reducible exact LeO.none _)
   | (with_reducible refine LeO.ite ?_ ?_)
   | (with_reducible refine LeO.bind ?_ (fun _ => ?_))
   | exact ih0 _ _ _
   | exact ih1 _ _ _ _ _
   | exact ih2 _ _ _ _ _ _ _ _ _
   | exact ih3 _ _ _ _ _ _ _ _ _ _
   | exact ih4 _ _ _ _ _ _ _ _ _ _ _ _
   | exact impl_arePegs.mono _ _
   | exact impl_meet.mono _ _ _ _ _ _ _ _ _
   | exact slices_Contains_impl_Peg.mono _ _ _ _
   | exact LeO.none _
   | refine LeO.ite ?_ ?_
   | refine LeO.bind ?_ (fun _ => ?_)
  ·intro y0 y1 y2 y3 y4 y5 y6 y7 y8
   unfold impl_IsPolygon.j2
   repeat' first
   | (with_reducible exact ih0 _ _ _)
   | (with_reducible exact ih1 _ _ _ _ _)
   | (with_reducible exact ih2 _ _ _ _ _ _ _ _ _)
   | (with_reducible exact ih3 _ _ _ _ _ _ _ _ _ _)
   | (with_reducible exact ih4 _ _ _ _ _ _ _ _ _ _ _ _)
   | (with_reducible exact impl_arePegs.mono _ _)
   | (with_reducible exact impl_meet.mono _ _ _ _ _ _ _ _ _)
   | (with_reducible exact slices_Contains_impl_Peg.mono _ _ _ _)
   | (with_reducible exact LeO.refl _)
   | (with_reducible exact LeO.none _)
   | (with_reducible refine LeO.ite ?_ ?_)
   | (with_reducible refine LeO.bind ?_ (fun _ => ?_))
   | exact ih0 _ _ _
   | exact ih1 _ _ _ _ _
   | exact ih2 _ _ _ _ _ _ _ _ _
   | exact ih3 _ _ _ _ _ _ _ _ _ _
   | exact ih4 _ _ _ _ _ _ _ _ _ _ _ _
   | exact impl_arePegs.mono _ _
   | exact impl_meet.mono _ _ _ _ _ _ _ _ _
   | exact slices_Contains_impl_Peg.mono _ _ _ _
   | exact LeO.none _
   | refine LeO.ite ?_ ?_
   | refine LeO.bind ?_ (fun _ => ?_)
  ·intro y0 y1 y2 y3 y4 y5 y6 y7 y8 y9
   unfold impl_IsPolygon.l1
   repeat' first
   | (with_reducible exact ih0 _ _ _)
   | (with_reducible exact ih1 _ _ _ _ _)
   | (with_reducible exact ih2 _ _ _ _ _ _ _ _ _)
   | (with_reducible exact ih3 _ _ _ _ _ _ _ _ _ _)
   | (with_reducible exact ih4 _ _ _ _ _ _ _ _ _ _ _ _)
   | (with_reducible exact impl_arePegs.mono _ _)
   | (with_reducible exact impl_meet.mono _ _ _ _ _ _ _ _ _)
   | (with_reducible exact slices_Contains_impl_Peg.mono _ _ _ _)
   | (with_reducible exact LeO.refl _)
   | (with_reducible exact LeO.none _)
   | (with_reducible refine LeO.ite ?_ ?_)
   | (with_reducible refine LeO.bind ?_ (fun _ => ?_))
   | exact ih0 _ _ _
   | exact ih1 _ _ _ _ _
   | exact ih2 _ _ _ _ _ _ _ _ _
   | exact ih3 _ _ _ _ _ _ _ _ _ _
   | exact ih4 _ _ _ _ _ _ _ _ _ _ _ _
   | exact impl_arePegs.mono _ _
   | exact impl_meet.mono _ _ _ _ _ _ _ _ _
   | exact slices_Contains_impl_Peg.mono _ _ _ _
   | exact LeO.none _
   | refine LeO.ite ?_ ?_
   | refine LeO.bind ?_ (fun _ => ?_)
  ·intro y0 y1 y2 y3 y4 y5 y6 y7 y8 y9 y10 y11
   unfold impl_IsPolygon.j4
   repeat' first
   | (with_reducible exact ih0 _ _ _)
   | (with_reducible exact ih1 _ _ _ _ _)
   | (with_reducible exact ih2 _ _ _ _ _ _ _ _ _)
   | (with_reducible exact ih3 _ _ _ _ _ _ _ _ _ _)
   | (with_reducible exact ih4 _ _ _ _ _ _ _ _ _ _ _ _)
   | (with_reducible exact impl_arePegs.mono _ _)
   | (with_reducible exact impl_meet.mono _ _ _ _ _ _ _ _ _)
   | (with_reducible exact slices_Contains_impl_Peg.mono _ _ _ _)
   | (with_reducible exact LeO.refl _)
   | (with_reducible exact LeO.none _)
   | (with_reducible refine LeO.ite ?_ ?_)
   | (with_reducible refine LeO.bind ?_ (fun _ => ?_))
   | exact ih0 _ _ _
   | exact ih1 _ _ _ _ _
   | exact ih2 _ _ _ _ _ _ _ _ _
   | exact ih3 _ _ _ _ _ _ _ _ _ _
   | exact ih4 _ _ _ _ _ _ _ _ _ _ _ _
   | exact impl_arePegs.mono _ _
   | exact impl_meet.mono _ _ _ _ _ _ _ _ _
   | exact slices_Contains_impl_Peg.mono _ _ _ _
   | exact LeO.none _
   | refine LeO.ite ?_ ?_
   | refine LeO.bind ?_ (fun _ => ?_)
theorem impl_IsPolygon.mono : ∀ a0 k, LeO (impl_IsPolygon.f k a0) (impl_IsPolygon.f (k + 1) a0) := by
 intro a0 k
 obtain ⟨ih0, ih1, ih2, ih3, ih4⟩ := impl_IsPolygon.mono_l k
 unfold impl_IsPolygon.f
 repeat' first
   | (with_reducible exact ih0 _ _ _)
   | (with_reducible exact ih1 _ _ _ _ _)
   | (with_reducible exact ih2 _ _ _ _ _ _ _ _ _)
   | (with_reducible exact ih3 _ _ _ _ _ _ _ _ _ _)
   | (with_reducible exact ih4 _ _ _ _ _ _ _ _ _ _ _ _)
   | (with_reducible exact impl_arePegs.mono _ _)
   | (with_reducible exact impl_meet.mono _ _ _ _ _ _ _ _ _)
   | (with_reducible exact slices_Contains_impl_Peg.mono _ _ _ _)
   | (with_reducible exact LeO.refl _)
   | (with_reducible exact LeO.none _)
   | (with_reducible refine LeO.ite ?_ ?_)
   | (with_reducible refine LeO.bind ?_ (fun _ => ?_))
   | exact ih0 _ _ _
   | exact ih1 _ _ _ _ _
   | exact ih2 _ _ _ _ _ _ _ _ _
   | exact ih3 _ _ _ _ _ _ _ _ _ _
   | exact ih4 _ _ _ _ _ _ _ _ _ _ _ _
   | exact impl_arePegs.mono _ _
   | exact impl_meet.mono _ _ _ _ _ _ _ _ _
   | exact slices_Contains_impl_Peg.mono _ _ _ _
   | exact LeO.none _
   | refine LeO.ite ?_ ?_
   | refine LeO.bind ?_ (fun _ => ?_)
def impl_IsPolygon.T7 : Bool × List (List Nat × List Nat) := (true, [([], []), ([], []), ([0, 1], [0, 1]), ([], []), ([2, 3], [2, 3]), ([4, 4], [4]), ([5], [5]), ([5], [5]), ([7, 5], [5, 7]), ([6, 8, 5, 5], [5, 6, 8]), ([5], [5]), ([5], [5]), ([5], [5]), ([12, 5], [5, 12]), ([11, 13, 9, 5], [5, 11, 13]), ([9, 10, 14, 14, 5], [5, 9, 10, 14]), ([15, 5], [5, 15]), ([5, 16], [5, 16])])
def impl_IsPolygon.B7 : List Nat := [0, 0, 3, 0, 15, 31, 63, 63, 191, 511, 63, 63, 63, 4159, 15359, 32767, 65535, 131071]
theorem impl_IsPolygon.tab7 : rtab .any (opsOf Try.f85 7) = impl_IsPolygon.T7 := by kernel_rfl
theorem impl_IsPolygon.bits7 : waitsOk impl_IsPolygon.T7.2 impl_IsPolygon.B7 = true := by kernel_rfl
def impl_IsPolygon.T13 : Bool × List (List Nat × List Nat) := (true, [([], []), ([], []), ([0, 1], [0, 1]), ([2], [2]), ([], []), ([], []), ([5], [5]), ([4, 6], [4, 6]), ([7], [7]), ([], []), ([], []), ([], []), ([11], [11]), ([10, 12], [10, 12]), ([3, 8, 9, 13, 13], [3, 8, 9, 13])])
def impl_IsPolygon.B13 : List Nat := [0, 0, 3, 7, 0, 0, 32, 112, 240, 0, 0, 0, 2048, 7168, 16383]
theorem impl_IsPolygon.tab13 : rtab .any (opsOf Try.f85 13) = impl_IsPolygon.T13 := by kernel_rfl
theorem impl_IsPolygon.bits13 : waitsOk impl_IsPolygon.T13.2 impl_IsPolygon.B13 = true := by kernel_rfl
set_option maxHeartbeats 8000000 in
set_option maxRecDepth 100000 in
theorem impl_IsPolygon.calls (k : Nat) (A0 : Option Addr) (c0 : Nat) (l0 : List (S_impl_Peg)) (r : Bool) (w : World) (hr0 : Kd.C kd_impl_Peg w A0 l0.length l0) (hc0 : l0.length ≤ c0) (h : impl_IsPolygon.f k l0 = some r) :
  Calls Try.prog 85 #[.slice A0 l0.length c0] w fun e w' => e = .returned (.bool r) ∧ Below w.heap.size w w' := by
 have hu34 := Try.underlying34
 have HR0 := aM hr0
 have HC0 := aM hc0
 clear hr0 hc0
 have HB := aM (Below.refl w.heap.size w)
 have H : ((impl_within.f (l0.length : Int) 3 10).bind fun t220 => (if t220 = true then ((impl_arePegs.f k l0).bind fun t221 => (impl_IsPolygon.j0 k l0 (l0.length : Int) (!t221))) else (impl_IsPolygon.j0 k l0 (l0.length : Int) true))) = some r := h
 clear h
 have HC2 := aM H
 clear H
 go_enter Try.func85, Try.ntmps85
 go_upto_region 2 with (fail)
 go_cut [16] (fun v16 wc => ∃ (kq : Nat) (x16_1 : Bool), v16 = .bool x16_1 ∧ Aside0 (impl_IsPolygon.j0 kq l0 (l0.length : Int) x16_1 = some r) ∧ Aside0 (kq ≤ k) ∧ Aside0 (Below w.heap.size w wc))
 case first =>
  have H := HC2.out
  clear HC2
  replace H := oB.mp H
  obtain ⟨t220, A30, H⟩ := H
  replace H : (if t220 = true then ((impl_arePegs.f k l0).bind fun t221 => (impl_IsPolygon.j0 k l0 (l0.length : Int) (!t221))) else (impl_IsPolygon.j0 k l0 (l0.length : Int) true)) = some r := H
  have A3 := aM A30
  clear A30
  by_cases c4 : t220 = true
  ·subst c4
   have H1 : ((impl_arePegs.f k l0).bind fun t221 => (impl_IsPolygon.j0 k l0 (l0.length : Int) (!t221))) = some r := by rw [if_pos rfl] at H; exact H
   clear H
   have H := H1
   clear H1
   replace H := oB.mp H
   obtain ⟨t221, A50, H⟩ := H
   replace H : (impl_IsPolygon.j0 k l0 (l0.length : Int) (!t221)) = some r := H
   have A5 := aM A50
   clear A50
   have H' := aM H
   clear H
   go_wp2_with (first | ((with_reducible refine gC (f := 116) rfl ?_); refine goesL_ (some 10) rfl rfl Try.func116 kR rfl #[.int .i64 (l0.length : Int), .int .i64 3, .int .i64 10] rfl sQ ?_; (with_reducible refine (impl_within.calls (l0.length : Int) 3 10 true _ A3.out).mono ?_); rintro e w' ⟨rfl, ⟨nd, rfl⟩⟩; refine ⟨_, rfl, ?_⟩) | (go_at_call 136; (with_reducible refine (impl_arePegs.calls k _ _ l0 t221 _ ?side1 ?side2 A5.out).mono ?_); (case side1 => repeat (first | exact (Kd.C_below HR0.out bQ) | (with_reducible refine cA ?_ _) | (with_reducible refine cN ?_ _) | (with_reducible refine cD ?_))); (case side2 => exact HC0.out); rintro e w6 ⟨rfl, hb⟩; have n0_ := aM (pT bQ hb); clear HB; have HB := n0_; clear n0_; (try clear hb); (try clear hb2); (try clear hk); (try clear hi)))
   go_meet
   case rel => exact ⟨_, (!t221), eQ, H', ⟨by first | omega | exact Nat.le_refl _⟩, ⟨bQ⟩⟩
  ·replace c4 := Bool.eq_false_iff.mpr c4
   subst c4
   have H1 : (impl_IsPolygon.j0 k l0 (l0.length : Int) true) = some r := by rw [if_neg (show ¬ (false = true) by decide)] at H; exact H
   clear H
   have H := H1
   clear H1
   have H' := aM H
   clear H
   go_wp2_with (first | ((with_reducible refine gC (f := 116) rfl ?_); refine goesL_ (some 10) rfl rfl Try.func116 kR rfl #[.int .i64 (l0.length : Int), .int .i64 3, .int .i64 10] rfl sQ ?_; (with_reducible refine (impl_within.calls (l0.length : Int) 3 10 false _ A3.out).mono ?_); rintro e w' ⟨rfl, ⟨nd, rfl⟩⟩; refine ⟨_, rfl, ?_⟩))
   go_meet
   case rel => exact ⟨_, (true), eQ, H', ⟨by first | omega | exact Nat.le_refl _⟩, ⟨bQ⟩⟩
 case rest =>
  clear HC2
  try clear c1
  try clear p2
  try clear c4
  obtain ⟨kq, x16_1, rfl, HA, HJ1, HB⟩ := hcut
  cases kq with
  | zero => exact absurd HA.out (by simp [impl_IsPolygon.j0])
  | succ kj1 =>
   have H := HA.out
   clear HA
   simp only [impl_IsPolygon.j0] at H
   by_cases c7 : x16_1 = true
   ·subst c7
    have H1 : (some false) = some r := by rw [if_pos rfl] at H; exact H
    clear H
    have H := H1
    clear H1
    obtain rfl := Option.some.inj H
    go_wp2
    go_ret
    exact ⟨by first | rfl | (simp [errW_none, errW_some] <;> rfl) | (simp [*, errW_none, errW_some] <;> rfl), bQ⟩
   ·replace c7 := Bool.eq_false_iff.mpr c7
    subst c7
    have H1 : (impl_IsPolygon.l0 kj1 l0 (l0.length : Int) l0 (l0.length : Int) 0) = some r := by rw [if_neg (show ¬ (false = true) by decide)] at H; exact H
    clear H
    have H := H1
    clear H1
    have H' := aM H
    clear H
    go_wp2
    go_loopg [19] kj1 (fun kq v19 w' => ∃ (x19_2 : Int), v19 = .int .i64 x19_2 ∧ Aside0 (impl_IsPolygon.l0 kq l0 (l0.length : Int) l0 (l0.length : Int) x19_2 = some r) ∧ Aside0 (kq ≤ kj1) ∧ Aside0 (Below w.heap.size w w'))
    case atStart => exact ⟨(0), eQ, H', ⟨Nat.le_refl _⟩, ⟨bQ⟩⟩
    case round =>
     clear H'
     try clear c1
     try clear p2
     try clear c4
     try clear c7
     try clear p2
     obtain ⟨x19_2, rfl, HA, HK2, HB⟩ := hrel
     cases gk with
     | zero => exact absurd HA.out (by simp [impl_IsPolygon.l0])
     | succ k2 =>
      have H := HA.out
      clear HA
      simp only [impl_IsPolygon.l0] at H
      by_cases c8 : x19_2 < (l0.length : Int)
      ·rw [if_pos c8] at H
       have c8b0 : decide (x19_2 < (l0.length : Int)) = true := dE c8
       clear c8
       by_cases c9 : 0 ≤ x19_2
       ·rw [if_pos c9] at H
        have c9b0 : decide (0 ≤ x19_2) = true := dE c9
        clear c9
        by_cases c10 : x19_2 < (l0.length : Int)
        ·rw [if_pos c10] at H
         have c10b0 : decide (x19_2 < (l0.length : Int)) = true := dE c10
         clear c10
         have HC11 := aM H
         clear H
         have p222 : 0 ≤ (x19_2 : Int) := dT aQ
         have q222 : x19_2 < (l0.length : Int) := dT aQ
         obtain ⟨ad222, e222, hx222_0, hx222_1⟩ := at_impl_Peg HR0.out x19_2 p222 q222
         cases e222
         replace hx222_0 := (HB.out.cell (wB w _ hx222_0)).trans hx222_0
         replace hx222_1 := (HB.out.cell (wB w _ hx222_1)).trans hx222_1
         replace p222 := eq_true p222
         replace q222 := eq_true q222
         go_upto_region 7 with (first | ((with_reducible refine gate_dst (N := 5) rfl ?_); refine box_event ?hg (N := 5) ?hd (cs := #[.int .i64 0, .int .i64 0]) (t := 34) ?hr ?_; (case hd => rfl); (case hg => rfl); (case hr => first | (go_simp; done) | (go_simp; rfl)); intro gb223 hg w12 hbox hb; have n0_ := aM (pT bQ hb); have n1_ := aM (hbox); have n2_ := aM ((by rw [hg]; exact (pZ bQ) : w.heap.size ≤ gb223)); have n3_ := aM ((by rw [hg]; exact (pZ bQ) : w.heap.size ≤ gb223)); clear HB; have HB := n0_; have BK223 := n1_; have GW223 := n2_; have GE223 := n3_; clear n0_ n1_ n2_ n3_; clear hb hbox hg; have hcz13_0 : w12.cell? ⟨gb223, 0, none⟩ = some (.int .i64 0) := (kC BK223.out 0).trans rfl; have hcz13_1 : w12.cell? ⟨gb223, 1, none⟩ = some (.int .i64 0) := (kC BK223.out 1).trans rfl; have hfz13_0 := kF BK223.out 0; have hfz13_1 := kF BK223.out 1))
         (try simp only [Act.put, sI, sZ, sS])
         go_cut [41] (fun v41 wc => ∃ (kq : Nat) (x41_10 : Bool), v41 = .bool x41_10 ∧ Aside0 (impl_IsPolygon.j2 kq l0 (l0.length : Int) x19_2 l0 (l0.length : Int) x19_2 x41_10 ((rd_impl_Peg l0 x19_2).f0) ((rd_impl_Peg l0 x19_2).f1) = some r) ∧ Aside0 (kq ≤ k2) ∧ Aside0 (wc.heap[gb223]? = some (.cells #[.int .i64 ((rd_impl_Peg l0 x19_2).f0), .int .i64 ((rd_impl_Peg l0 x19_2).f1)] 34 (0, 0))) ∧ Aside0 (Below w.heap.size w wc))
         case first =>
          have H := HC11.out
          clear HC11
          have c14b0 := eq_true (dT aQ : 0 ≤ x19_2)
          by_cases c15 : x19_2 ≤ (l0.length : Int)
          ·rw [if_pos c15] at H
           have c15b0 := eq_true c15
           have c15b1 : decide (x19_2 ≤ (l0.length : Int)) = true := dE c15
           clear c15
           obtain ⟨y224, hy224⟩ : ∃ y_ : List (S_impl_Peg), y_ = (l0.take (x19_2 : Int).toNat) := ⟨_, rfl⟩
           replace H : ((slices_Contains_impl_Peg.f k2 y224 ((rd_impl_Peg l0 x19_2).f0) ((rd_impl_Peg l0 x19_2).f1)).bind fun t228 => (if t228 = true then (impl_IsPolygon.j2 k2 l0 (l0.length : Int) x19_2 l0 (l0.length : Int) x19_2 true ((rd_impl_Peg l0 x19_2).f0) ((rd_impl_Peg l0 x19_2).f1)) else ((impl_at.f l0 (wrap64 (x19_2 - 1))).bind fun bt229 => ((impl_at.f l0 (wrap64 (x19_2 + 1))).bind fun bt231 => ((impl_turn.f bt229.1 bt229.2 ((rd_impl_Peg l0 x19_2).f0) ((rd_impl_Peg l0 x19_2).f1) bt231.1 bt231.2).bind fun t233 => (impl_IsPolygon.j2 k2 l0 (l0.length : Int) x19_2 l0 (l0.length : Int) x19_2 (t233 == 0) ((rd_impl_Peg l0 x19_2).f0) ((rd_impl_Peg l0 x19_2).f1))))))) = some r := by first | (rw [hy224]; with_reducible exact H) | (have H2_ := (Option.bind_some _ _).symm.trans H; rw [hy224]; with_reducible exact H2_) | (have H2_ := (Option.bind_some _ _).symm.trans H; with_reducible exact H2_) | with_reducible exact H | (rw [hy224]; exact H) | exact H
           have Ny224 := aM hy224
           clear hy224
           replace H := oB.mp H
           obtain ⟨t228, A160, H⟩ := H
           replace H : (if t228 = true then (impl_IsPolygon.j2 k2 l0 (l0.length : Int) x19_2 l0 (l0.length : Int) x19_2 true ((rd_impl_Peg l0 x19_2).f0) ((rd_impl_Peg l0 x19_2).f1)) else ((impl_at.f l0 (wrap64 (x19_2 - 1))).bind fun bt229 => ((impl_at.f l0 (wrap64 (x19_2 + 1))).bind fun bt231 => ((impl_turn.f bt229.1 bt229.2 ((rd_impl_Peg l0 x19_2).f0) ((rd_impl_Peg l0 x19_2).f1) bt231.1 bt231.2).bind fun t233 => (impl_IsPolygon.j2 k2 l0 (l0.length : Int) x19_2 l0 (l0.length : Int) x19_2 (t233 == 0) ((rd_impl_Peg l0 x19_2).f0) ((rd_impl_Peg l0 x19_2).f1)))))) = some r := H
           have A16 := aM A160
           clear A160
           by_cases c17 : t228 = true
           ·subst c17
            have H1 : (impl_IsPolygon.j2 k2 l0 (l0.length : Int) x19_2 l0 (l0.length : Int) x19_2 true ((rd_impl_Peg l0 x19_2).f0) ((rd_impl_Peg l0 x19_2).f1)) = some r := by rw [if_pos rfl] at H; exact H
            clear H
            have H := H1
            clear H1
            have H' := aM H
            clear H
            try go_wp2
            have n0_ : Aside0 (((w12.setCell ⟨gb223, 0, none⟩ (.int .i64 ((rd_impl_Peg l0 x19_2).f0))).setCell ⟨gb223, 1, none⟩ (.int .i64 ((rd_impl_Peg l0 x19_2).f1))).heap[gb223]? = some (.cells #[.int .i64 ((rd_impl_Peg l0 x19_2).f0), .int .i64 ((rd_impl_Peg l0 x19_2).f1)] 34 (0, 0))) := ⟨by (with_reducible repeat (first | refine kN ?_ _ | refine kD ?_ | refine kA ?_ _)); refine blk_put (cs := #[.int .i64 ((rd_impl_Peg l0 x19_2).f0), .int .i64 0]) ?_ 1 _ rfl; (with_reducible repeat (first | refine kN ?_ _ | refine kD ?_ | refine kA ?_ _)); refine blk_put (cs := #[.int .i64 0, .int .i64 0]) ?_ 0 _ rfl; (with_reducible repeat (first | refine kN ?_ _ | refine kD ?_ | refine kA ?_ _)); exact BK223.out⟩
            have n1_ : Aside0 (Below w.heap.size w ((w12.setCell ⟨gb223, 0, none⟩ (.int .i64 ((rd_impl_Peg l0 x19_2).f0))).setCell ⟨gb223, 1, none⟩ (.int .i64 ((rd_impl_Peg l0 x19_2).f1)))) := ⟨by repeat (first | (with_reducible first | exact HB.out | apply pA | apply pN | apply pD | refine pS ?_ GE223.out) | exact HB.out)⟩
            (try clear BK223)
            (try clear HB)
            generalize ((w12.setCell ⟨gb223, 0, none⟩ (.int .i64 ((rd_impl_Peg l0 x19_2).f0))).setCell ⟨gb223, 1, none⟩ (.int .i64 ((rd_impl_Peg l0 x19_2).f1))) = w18 at n0_ n1_ ⊢
            have BK223 := n0_
            have HB := n1_
            clear n0_ n1_
            have n0_ := aM (kD BK223.out)
            have n1_ := aM (pD HB.out)
            clear BK223
            clear HB
            have BK223 := n0_
            have HB := n1_
            clear n0_ n1_
            have q20 : (x19_2 : Int) ≤ ((l0.length : Int) : Int) := dT aQ
            obtain ⟨i020, hi020, _, hsz20, _⟩ := info_parts info34
            have hroom20 : l0.length ≤ c0 := HC0.out
            have hC20 : Kd.C kd_impl_Peg _ (some ad222) l0.length l0 := HR0.out
            have hcut20 := cut_to (P := Try.prog) 26 34 .i64 Try.underlying26 hi020 (some ad222) l0.length c0 x19_2 (dT aQ) q20 hroom20
            have hr20 := Kd.C_take (m := (x19_2 : Int).toNat) hC20 (by omega)
            have hy20 : y224.length = (x19_2 : Int).toNat := (by rw [Ny224.out, lT]; omega)
            rw [← Ny224.out] at hr20
            rw [← hy20] at hcut20
            have HR227 := aM hr20
            have HC227 := aM (show y224.length ≤ c0 from by omega)
            clear hr20 hC20 hroom20 hi020 hsz20
            have KY20 := aM hy20
            clear hy20
            replace q20 := eq_true q20
            refine start_ (n := 18) (S := fun w' => w'.cell? ⟨gb223, 0, none⟩ = some (.int .i64 ((rd_impl_Peg l0 x19_2).f0)) ∧ w'.cell? ⟨gb223, 1, none⟩ = some (.int .i64 ((rd_impl_Peg l0 x19_2).f1))) (ds := []) #[false, false, false, false, false, false, false, false, false, false, false, false, false, false, false, false, false, false] kR rfl rfl ⟨(kC BK223.out 0).trans rfl, (kC BK223.out 1).trans rfl⟩ (fun hHeld => ?_); refine with_tabW impl_IsPolygon.tab7 impl_IsPolygon.bits7 (fun HT_ HW_ => ?_)
            generalize w18.drew = w19 at BK223 HB HR227 hHeld ⊢
            refine pure_ (i := 0) (N := some 24) (v := ?_) (a' := ?_) #[true, false, false, false, false, false, false, false, false, false, false, false, false, false, false, false, false, false] rfl rfl (any_of HT_.out kR) (fun _ _ _ h => h) (Or.inl ⟨by rfl, ?_⟩) ?_ ?_
            rotate_left
            ·intro w'
             go_simp
             with_reducible rfl
            rotate_left
            ·simp only [Act.put, sI, sZ, sS, i64_w, i32_w]
             rfl
            refine pure_ (i := 1) (N := some 25) (v := ?_) (a' := ?_) #[true, true, false, false, false, false, false, false, false, false, false, false, false, false, false, false, false, false] rfl rfl (any_of HT_.out kR) (fun _ _ _ h => h) (Or.inl ⟨by rfl, ?_⟩) ?_ ?_
            rotate_left
            ·intro w'
             go_simp
             with_reducible rfl
            rotate_left
            ·simp only [Act.put, sI, sZ, sS, i64_w, i32_w]
             rfl
            refine pure_ (i := 2) (N := some 26) (v := ?_) (a' := ?_) #[true, true, true, false, false, false, false, false, false, false, false, false, false, false, false, false, false, false] rfl rfl (any_of HT_.out kR) (fun _ _ _ h => h) (Or.inl ⟨by rfl, ?_⟩) ?_ ?_
            rotate_left
            ·intro w'
             go_simp
             with_reducible rfl
            rotate_left
            ·simp only [Act.put, sI, sZ, sS, i64_w, i32_w]
             rfl
            refine take_ (i := 3) (N := some 27) (v := ?_) (a' := ?_) #[true, true, true, true, false, false, false, false, false, false, false, false, false, false, false, false, false, false] rfl rfl (take_ofW HT_.out HW_.out kR) (fun _ _ _ h => h) (Or.inl ⟨by rfl, ?_⟩) hHeld ?_ ?_
            rotate_left
            ·rintro w' ⟨s0, s1⟩
             go_simp
             with_reducible rfl
            rotate_left
            ·simp only [Act.put, sI, sZ, sS, i64_w, i32_w]
             rfl
            refine one_ (i := 4) (N := some 28) #[true, true, true, true, true, false, false, false, false, false, false, false, false, false, false, false, false, false] rfl rfl (one_of HT_.out kR) (by decide) (fun K hK => ?_)
            refine goes_ Try.func137 kR rfl #[.slice (some ad222) y224.length c0, .agg #[.int .i64 ((rd_impl_Peg l0 x19_2).f0), .int .i64 ((rd_impl_Peg l0 x19_2).f1)]] (by rfl) rfl rfl sQ ?_
            with_reducible refine (slices_Contains_impl_Peg.calls k2 _ _ y224 ((rd_impl_Peg l0 x19_2).f0) ((rd_impl_Peg l0 x19_2).f1) true _ ?side1 ?side2 A16.out).mono ?_
            (case side1 => repeat (first | exact (Kd.C_below HR227.out HB.out) | (with_reducible refine cA ?_ _) | (with_reducible refine cN ?_ _) | (with_reducible refine cD ?_)))
            (case side2 => exact HC227.out)
            rintro e w21 ⟨rfl, hb⟩
            refine ⟨_, rfl, ?_⟩
            have n0_ := aM (blk_below (g := gb223) (o := .cells #[.int .i64 ((rd_impl_Peg l0 x19_2).f0), .int .i64 ((rd_impl_Peg l0 x19_2).f1)] 34 (0, 0)) (gQ BK223) hb)
            have n1_ := aM (pT (by repeat (first | (with_reducible first | exact HB.out | apply pA | apply pN | apply pD | refine pS ?_ GE223.out) | exact HB.out)) hb)
            clear BK223
            clear HB
            have BK223 := n0_
            have HB := n1_
            clear n0_ n1_
            (try clear hb)
            (try clear hb2)
            (try clear hk)
            (try clear hi)
            refine hK.out _ _ ⟨(kC BK223.out 0).trans rfl, (kC BK223.out 1).trans rfl⟩ (fun hHeld => ?_)
            clear hK K
            refine norm_ (a' := ?_) ?_ ?_
            rotate_left
            ·show Act.put _ (some 28) _ = _
             simp only [Act.put, sI, sZ, sS, i64_w, i32_w]
             rfl
            refine pure_ (i := 5) (N := some 29) (v := ?_) (a' := ?_) #[true, true, true, true, true, true, false, false, false, false, false, false, false, false, false, false, false, false] rfl rfl (any_of HT_.out kR) (fun _ _ _ h => h) (Or.inl ⟨by rfl, ?_⟩) ?_ ?_
            rotate_left
            ·intro w'
             go_simp
             with_reducible rfl
            rotate_left
            ·simp only [Act.put, sI, sZ, sS, i64_w, i32_w]
             rfl
            refine pure_ (i := 6) (N := some 30) (v := undef) (a' := ?_) #[true, true, true, true, true, true, true, false, false, false, false, false, false, false, false, false, false, false] rfl rfl (any_of HT_.out kR) (fun _ _ _ h => h) (Or.inr ⟨by rfl, rfl⟩) ?_ ?_
            rotate_left
            ·simp only [Act.put, sI, sZ, sS, i64_w, i32_w]
             rfl
            refine pure_ (i := 7) (N := some 31) (v := undef) (a' := ?_) #[true, true, true, true, true, true, true, true, false, false, false, false, false, false, false, false, false, false] rfl rfl (any_of HT_.out kR) (fun _ _ _ h => h) (Or.inr ⟨by rfl, rfl⟩) ?_ ?_
            rotate_left
            ·simp only [Act.put, sI, sZ, sS, i64_w, i32_w]
             rfl
            refine pure_ (i := 8) (N := some 32) (v := undef) (a' := ?_) #[true, true, true, true, true, true, true, true, true, false, false, false, false, false, false, false, false, false] rfl rfl (any_of HT_.out kR) (fun _ _ _ h => h) (Or.inr ⟨by rfl, rfl⟩) ?_ ?_
            rotate_left
            ·simp only [Act.put, sI, sZ, sS, i64_w, i32_w]
             rfl
            refine pure_ (i := 9) (N := some 33) (v := undef) (a' := ?_) #[true, true, true, true, true, true, true, true, true, true, false, false, false, false, false, false, false, false] rfl rfl (any_of HT_.out kR) (fun _ _ _ h => h) (Or.inr ⟨by rfl, rfl⟩) ?_ ?_
            rotate_left
            ·simp only [Act.put, sI, sZ, sS, i64_w, i32_w]
             rfl
            refine pure_ (i := 10) (N := some 34) (v := undef) (a' := ?_) #[true, true, true, true, true, true, true, true, true, true, true, false, false, false, false, false, false, false] rfl rfl (any_of HT_.out kR) (fun _ _ _ h => h) (Or.inr ⟨by rfl, rfl⟩) ?_ ?_
            rotate_left
            ·simp only [Act.put, sI, sZ, sS, i64_w, i32_w]
             rfl
            refine pure_ (i := 11) (N := some 35) (v := undef) (a' := ?_) #[true, true, true, true, true, true, true, true, true, true, true, true, false, false, false, false, false, false] rfl rfl (any_of HT_.out kR) (fun _ _ _ h => h) (Or.inr ⟨by rfl, rfl⟩) ?_ ?_
            rotate_left
            ·simp only [Act.put, sI, sZ, sS, i64_w, i32_w]
             rfl
            refine pure_ (i := 12) (N := some 36) (v := undef) (a' := ?_) #[true, true, true, true, true, true, true, true, true, true, true, true, true, false, false, false, false, false] rfl rfl (any_of HT_.out kR) (fun _ _ _ h => h) (Or.inr ⟨by rfl, rfl⟩) ?_ ?_
            rotate_left
            ·simp only [Act.put, sI, sZ, sS, i64_w, i32_w]
             rfl
            refine pure_ (i := 13) (N := some 37) (v := undef) (a' := ?_) #[true, true, true, true, true, true, true, true, true, true, true, true, true, true, false, false, false, false] rfl rfl (any_of HT_.out kR) (fun _ _ _ h => h) (Or.inr ⟨by rfl, rfl⟩) ?_ ?_
            rotate_left
            ·simp only [Act.put, sI, sZ, sS, i64_w, i32_w]
             rfl
            refine pure_ (i := 14) (N := some 38) (v := undef) (a' := ?_) #[true, true, true, true, true, true, true, true, true, true, true, true, true, true, true, false, false, false] rfl rfl (any_of HT_.out kR) (fun _ _ _ h => h) (Or.inr ⟨by rfl, rfl⟩) ?_ ?_
            rotate_left
            ·simp only [Act.put, sI, sZ, sS, i64_w, i32_w]
             rfl
            refine pure_ (i := 15) (N := some 39) (v := undef) (a' := ?_) #[true, true, true, true, true, true, true, true, true, true, true, true, true, true, true, true, false, false] rfl rfl (any_of HT_.out kR) (fun _ _ _ h => h) (Or.inr ⟨by rfl, rfl⟩) ?_ ?_
            rotate_left
            ·simp only [Act.put, sI, sZ, sS, i64_w, i32_w]
             rfl
            refine pure_ (i := 16) (N := some 40) (v := undef) (a' := ?_) #[true, true, true, true, true, true, true, true, true, true, true, true, true, true, true, true, true, false] rfl rfl (any_of HT_.out kR) (fun _ _ _ h => h) (Or.inr ⟨by rfl, rfl⟩) ?_ ?_
            rotate_left
            ·simp only [Act.put, sI, sZ, sS, i64_w, i32_w]
             rfl
            refine pure_ (i := 17) (N := some 41) (v := ?_) (a' := ?_) #[true, true, true, true, true, true, true, true, true, true, true, true, true, true, true, true, true, true] rfl rfl (any_of HT_.out kR) (fun _ _ _ h => h) (Or.inl ⟨by rfl, ?_⟩) ?_ ?_
            rotate_left
            ·intro w'
             go_simp
             with_reducible rfl
            rotate_left
            ·simp only [Act.put, sI, sZ, sS, i64_w, i32_w]
             rfl
            refine done_ (done_of HT_.out kR) ?_
            try go_wp2
            go_meet
            case rel => exact ⟨_, (true), eQ, H', ⟨by have := HJ1.out; have := HK2.out; first | omega | exact Nat.le_refl _⟩, ⟨by (with_reducible repeat (first | refine kN ?_ _ | refine kD ?_ | refine kA ?_ _)); exact BK223.out⟩, ⟨by repeat (first | (with_reducible first | exact HB.out | apply pA | apply pN | apply pD | refine pS ?_ GE223.out) | exact HB.out)⟩⟩
           ·replace c17 := Bool.eq_false_iff.mpr c17
            subst c17
            have H1 : ((impl_at.f l0 (wrap64 (x19_2 - 1))).bind fun bt229 => ((impl_at.f l0 (wrap64 (x19_2 + 1))).bind fun bt231 => ((impl_turn.f bt229.1 bt229.2 ((rd_impl_Peg l0 x19_2).f0) ((rd_impl_Peg l0 x19_2).f1) bt231.1 bt231.2).bind fun t233 => (impl_IsPolygon.j2 k2 l0 (l0.length : Int) x19_2 l0 (l0.length : Int) x19_2 (t233 == 0) ((rd_impl_Peg l0 x19_2).f0) ((rd_impl_Peg l0 x19_2).f1))))) = some r := by rw [if_neg (show ¬ (false = true) by decide)] at H; exact H
            clear H
            have H := H1
            clear H1
            replace H := oB.mp H
            obtain ⟨⟨t229, t230⟩, A220, H⟩ := H
            replace H : ((impl_at.f l0 (wrap64 (x19_2 + 1))).bind fun bt231 => ((impl_turn.f t229 t230 ((rd_impl_Peg l0 x19_2).f0) ((rd_impl_Peg l0 x19_2).f1) bt231.1 bt231.2).bind fun t233 => (impl_IsPolygon.j2 k2 l0 (l0.length : Int) x19_2 l0 (l0.length : Int) x19_2 (t233 == 0) ((rd_impl_Peg l0 x19_2).f0) ((rd_impl_Peg l0 x19_2).f1)))) = some r := H
            have A22 := aM A220
            clear A220
            replace H := oB.mp H
            obtain ⟨⟨t231, t232⟩, A230, H⟩ := H
            replace H : ((impl_turn.f t229 t230 ((rd_impl_Peg l0 x19_2).f0) ((rd_impl_Peg l0 x19_2).f1) t231 t232).bind fun t233 => (impl_IsPolygon.j2 k2 l0 (l0.length : Int) x19_2 l0 (l0.length : Int) x19_2 (t233 == 0) ((rd_impl_Peg l0 x19_2).f0) ((rd_impl_Peg l0 x19_2).f1))) = some r := H
            have A23 := aM A230
            clear A230
            replace H := oB.mp H
            obtain ⟨t233, A240, H⟩ := H
            replace H : (impl_IsPolygon.j2 k2 l0 (l0.length : Int) x19_2 l0 (l0.length : Int) x19_2 (t233 == 0) ((rd_impl_Peg l0 x19_2).f0) ((rd_impl_Peg l0 x19_2).f1)) = some r := H
            have A24 := aM A240
            clear A240
            have H' := aM H
            clear H
            try go_wp2
            have n0_ : Aside0 (((w12.setCell ⟨gb223, 0, none⟩ (.int .i64 ((rd_impl_Peg l0 x19_2).f0))).setCell ⟨gb223, 1, none⟩ (.int .i64 ((rd_impl_Peg l0 x19_2).f1))).heap[gb223]? = some (.cells #[.int .i64 ((rd_impl_Peg l0 x19_2).f0), .int .i64 ((rd_impl_Peg l0 x19_2).f1)] 34 (0, 0))) := ⟨by (with_reducible repeat (first | refine kN ?_ _ | refine kD ?_ | refine kA ?_ _)); refine blk_put (cs := #[.int .i64 ((rd_impl_Peg l0 x19_2).f0), .int .i64 0]) ?_ 1 _ rfl; (with_reducible repeat (first | refine kN ?_ _ | refine kD ?_ | refine kA ?_ _)); refine blk_put (cs := #[.int .i64 0, .int .i64 0]) ?_ 0 _ rfl; (with_reducible repeat (first | refine kN ?_ _ | refine kD ?_ | refine kA ?_ _)); exact BK223.out⟩
            have n1_ : Aside0 (Below w.heap.size w ((w12.setCell ⟨gb223, 0, none⟩ (.int .i64 ((rd_impl_Peg l0 x19_2).f0))).setCell ⟨gb223, 1, none⟩ (.int .i64 ((rd_impl_Peg l0 x19_2).f1)))) := ⟨by repeat (first | (with_reducible first | exact HB.out | apply pA | apply pN | apply pD | refine pS ?_ GE223.out) | exact HB.out)⟩
            (try clear BK223)
            (try clear HB)
            generalize ((w12.setCell ⟨gb223, 0, none⟩ (.int .i64 ((rd_impl_Peg l0 x19_2).f0))).setCell ⟨gb223, 1, none⟩ (.int .i64 ((rd_impl_Peg l0 x19_2).f1))) = w25 at n0_ n1_ ⊢
            have BK223 := n0_
            have HB := n1_
            clear n0_ n1_
            have n0_ := aM (kD BK223.out)
            have n1_ := aM (pD HB.out)
            clear BK223
            clear HB
            have BK223 := n0_
            have HB := n1_
            clear n0_ n1_
            have q27 : (x19_2 : Int) ≤ ((l0.length : Int) : Int) := dT aQ
            obtain ⟨i027, hi027, _, hsz27, _⟩ := info_parts info34
            have hroom27 : l0.length ≤ c0 := HC0.out
            have hC27 : Kd.C kd_impl_Peg _ (some ad222) l0.length l0 := HR0.out
            have hcut27 := cut_to (P := Try.prog) 26 34 .i64 Try.underlying26 hi027 (some ad222) l0.length c0 x19_2 (dT aQ) q27 hroom27
            have hr27 := Kd.C_take (m := (x19_2 : Int).toNat) hC27 (by omega)
            have hy27 : y224.length = (x19_2 : Int).toNat := (by rw [Ny224.out, lT]; omega)
            rw [← Ny224.out] at hr27
            rw [← hy27] at hcut27
            have HR227 := aM hr27
            have HC227 := aM (show y224.length ≤ c0 from by omega)
            clear hr27 hC27 hroom27 hi027 hsz27
            have KY27 := aM hy27
            clear hy27
            replace q27 := eq_true q27
            refine start_ (n := 18) (S := fun w' => w'.cell? ⟨gb223, 0, none⟩ = some (.int .i64 ((rd_impl_Peg l0 x19_2).f0)) ∧ w'.cell? ⟨gb223, 1, none⟩ = some (.int .i64 ((rd_impl_Peg l0 x19_2).f1))) (ds := []) #[false, false, false, false, false, false, false, false, false, false, false, false, false, false, false, false, false, false] kR rfl rfl ⟨(kC BK223.out 0).trans rfl, (kC BK223.out 1).trans rfl⟩ (fun hHeld => ?_); refine with_tabW impl_IsPolygon.tab7 impl_IsPolygon.bits7 (fun HT_ HW_ => ?_)
            generalize w25.drew = w26 at BK223 HB HR227 hHeld ⊢
            refine pure_ (i := 0) (N := some 24) (v := ?_) (a' := ?_) #[true, false, false, false, false, false, false, false, false, false, false, false, false, false, false, false, false, false] rfl rfl (any_of HT_.out kR) (fun _ _ _ h => h) (Or.inl ⟨by rfl, ?_⟩) ?_ ?_
            rotate_left
            ·intro w'
             go_simp
             with_reducible rfl
            rotate_left
            ·simp only [Act.put, sI, sZ, sS, i64_w, i32_w]
             rfl
            refine pure_ (i := 1) (N := some 25) (v := ?_) (a' := ?_) #[true, true, false, false, false, false, false, false, false, false, false, false, false, false, false, false, false, false] rfl rfl (any_of HT_.out kR) (fun _ _ _ h => h) (Or.inl ⟨by rfl, ?_⟩) ?_ ?_
            rotate_left
            ·intro w'
             go_simp
             with_reducible rfl
            rotate_left
            ·simp only [Act.put, sI, sZ, sS, i64_w, i32_w]
             rfl
            refine pure_ (i := 2) (N := some 26) (v := ?_) (a' := ?_) #[true, true, true, false, false, false, false, false, false, false, false, false, false, false, false, false, false, false] rfl rfl (any_of HT_.out kR) (fun _ _ _ h => h) (Or.inl ⟨by rfl, ?_⟩) ?_ ?_
            rotate_left
            ·intro w'
             go_simp
             with_reducible rfl
            rotate_left
            ·simp only [Act.put, sI, sZ, sS, i64_w, i32_w]
             rfl
            refine take_ (i := 3) (N := some 27) (v := ?_) (a' := ?_) #[true, true, true, true, false, false, false, false, false, false, false, false, false, false, false, false, false, false] rfl rfl (take_ofW HT_.out HW_.out kR) (fun _ _ _ h => h) (Or.inl ⟨by rfl, ?_⟩) hHeld ?_ ?_
            rotate_left
            ·rintro w' ⟨s0, s1⟩
             go_simp
             with_reducible rfl
            rotate_left
            ·simp only [Act.put, sI, sZ, sS, i64_w, i32_w]
             rfl
            refine one_ (i := 4) (N := some 28) #[true, true, true, true, true, false, false, false, false, false, false, false, false, false, false, false, false, false] rfl rfl (one_of HT_.out kR) (by decide) (fun K hK => ?_)
            refine goes_ Try.func137 kR rfl #[.slice (some ad222) y224.length c0, .agg #[.int .i64 ((rd_impl_Peg l0 x19_2).f0), .int .i64 ((rd_impl_Peg l0 x19_2).f1)]] (by rfl) rfl rfl sQ ?_
            with_reducible refine (slices_Contains_impl_Peg.calls k2 _ _ y224 ((rd_impl_Peg l0 x19_2).f0) ((rd_impl_Peg l0 x19_2).f1) false _ ?side1 ?side2 A16.out).mono ?_
            (case side1 => repeat (first | exact (Kd.C_below HR227.out HB.out) | (with_reducible refine cA ?_ _) | (with_reducible refine cN ?_ _) | (with_reducible refine cD ?_)))
            (case side2 => exact HC227.out)
            rintro e w28 ⟨rfl, hb⟩
            refine ⟨_, rfl, ?_⟩
            have n0_ := aM (blk_below (g := gb223) (o := .cells #[.int .i64 ((rd_impl_Peg l0 x19_2).f0), .int .i64 ((rd_impl_Peg l0 x19_2).f1)] 34 (0, 0)) (gQ BK223) hb)
            have n1_ := aM (pT (by repeat (first | (with_reducible first | exact HB.out | apply pA | apply pN | apply pD | refine pS ?_ GE223.out) | exact HB.out)) hb)
            clear BK223
            clear HB
            have BK223 := n0_
            have HB := n1_
            clear n0_ n1_
            (try clear hb)
            (try clear hb2)
            (try clear hk)
            (try clear hi)
            refine hK.out _ _ ⟨(kC BK223.out 0).trans rfl, (kC BK223.out 1).trans rfl⟩ (fun hHeld => ?_)
            clear hK K
            refine norm_ (a' := ?_) ?_ ?_
            rotate_left
            ·show Act.put _ (some 28) _ = _
             simp only [Act.put, sI, sZ, sS, i64_w, i32_w]
             rfl
            refine pure_ (i := 5) (N := some 29) (v := ?_) (a' := ?_) #[true, true, true, true, true, true, false, false, false, false, false, false, false, false, false, false, false, false] rfl rfl (any_of HT_.out kR) (fun _ _ _ h => h) (Or.inl ⟨by rfl, ?_⟩) ?_ ?_
            rotate_left
            ·intro w'
             go_simp
             with_reducible rfl
            rotate_left
            ·simp only [Act.put, sI, sZ, sS, i64_w, i32_w]
             rfl
            refine pure_ (i := 6) (N := some 30) (v := ?_) (a' := ?_) #[true, true, true, true, true, true, true, false, false, false, false, false, false, false, false, false, false, false] rfl rfl (any_of HT_.out kR) (fun _ _ _ h => h) (Or.inl ⟨by rfl, ?_⟩) ?_ ?_
            rotate_left
            ·intro w'
             go_simp
             with_reducible rfl
            rotate_left
            ·simp only [Act.put, sI, sZ, sS, i64_w, i32_w]
             rfl
            refine pure_ (i := 7) (N := some 31) (v := ?_) (a' := ?_) #[true, true, true, true, true, true, true, true, false, false, false, false, false, false, false, false, false, false] rfl rfl (any_of HT_.out kR) (fun _ _ _ h => h) (Or.inl ⟨by rfl, ?_⟩) ?_ ?_
            rotate_left
            ·intro w'
             go_simp
             with_reducible rfl
            rotate_left
            ·simp only [Act.put, sI, sZ, sS, i64_w, i32_w]
             rfl
            refine pure_ (i := 8) (N := some 32) (v := ?_) (a' := ?_) #[true, true, true, true, true, true, true, true, true, false, false, false, false, false, false, false, false, false] rfl rfl (any_of HT_.out kR) (fun _ _ _ h => h) (Or.inl ⟨by rfl, ?_⟩) ?_ ?_
            rotate_left
            ·intro w'
             go_simp
             with_reducible rfl
            rotate_left
            ·simp only [Act.put, sI, sZ, sS, i64_w, i32_w]
             rfl
            refine pure_ (i := 11) (N := some 35) (v := ?_) (a' := ?_) #[true, true, true, true, true, true, true, true, true, false, false, true, false, false, false, false, false, false] rfl rfl (any_of HT_.out kR) (fun _ _ _ h => h) (Or.inl ⟨by rfl, ?_⟩) ?_ ?_
            rotate_left
            ·intro w'
             go_simp
             with_reducible rfl
            rotate_left
            ·simp only [Act.put, sI, sZ, sS, i64_w, i32_w]
             rfl
            refine pure_ (i := 12) (N := some 36) (v := ?_) (a' := ?_) #[true, true, true, true, true, true, true, true, true, false, false, true, true, false, false, false, false, false] rfl rfl (any_of HT_.out kR) (fun _ _ _ h => h) (Or.inl ⟨by rfl, ?_⟩) ?_ ?_
            rotate_left
            ·intro w'
             go_simp
             with_reducible rfl
            rotate_left
            ·simp only [Act.put, sI, sZ, sS, i64_w, i32_w]
             rfl
            refine pure_ (i := 13) (N := some 37) (v := ?_) (a' := ?_) #[true, true, true, true, true, true, true, true, true, false, false, true, true, true, false, false, false, false] rfl rfl (any_of HT_.out kR) (fun _ _ _ h => h) (Or.inl ⟨by rfl, ?_⟩) ?_ ?_
            rotate_left
            ·intro w'
             go_simp
             with_reducible rfl
            rotate_left
            ·simp only [Act.put, sI, sZ, sS, i64_w, i32_w]
             rfl
            refine take_ (i := 10) (N := some 34) (v := ?_) (a' := ?_) #[true, true, true, true, true, true, true, true, true, false, true, true, true, true, false, false, false, false] rfl rfl (take_ofW HT_.out HW_.out kR) (fun _ _ _ h => h) (Or.inl ⟨by rfl, ?_⟩) hHeld ?_ ?_
            rotate_left
            ·rintro w' ⟨s0, s1⟩
             go_simp
             with_reducible rfl
            rotate_left
            ·simp only [Act.put, sI, sZ, sS, i64_w, i32_w]
             rfl
            refine one_ (i := 9) (N := some 33) #[true, true, true, true, true, true, true, true, true, true, true, true, true, true, false, false, false, false] rfl rfl (one_of HT_.out kR) (by decide) (fun K hK => ?_)
            refine goes_ Try.func97 kR rfl #[.slice (some ad222) l0.length c0, .int .i64 (wrap64 (x19_2 - 1))] (by rfl) rfl rfl sQ ?_
            with_reducible refine (impl_at.calls _ _ l0 (wrap64 (x19_2 - 1)) t229 t230 _ ?side1 ?side2 A22.out).mono ?_
            (case side1 => repeat (first | exact (Kd.C_below HR0.out HB.out) | (with_reducible refine cA ?_ _) | (with_reducible refine cN ?_ _) | (with_reducible refine cD ?_)))
            (case side2 => exact HC0.out)
            rintro e w29 ⟨rfl, hb⟩
            refine ⟨_, rfl, ?_⟩
            have n0_ := aM (blk_below (g := gb223) (o := .cells #[.int .i64 ((rd_impl_Peg l0 x19_2).f0), .int .i64 ((rd_impl_Peg l0 x19_2).f1)] 34 (0, 0)) (gQ BK223) hb)
            have n1_ := aM (pT (by repeat (first | (with_reducible first | exact HB.out | apply pA | apply pN | apply pD | refine pS ?_ GE223.out) | exact HB.out)) hb)
            clear BK223
            clear HB
            have BK223 := n0_
            have HB := n1_
            clear n0_ n1_
            (try clear hb)
            (try clear hb2)
            (try clear hk)
            (try clear hi)
            refine hK.out _ _ ⟨(kC BK223.out 0).trans rfl, (kC BK223.out 1).trans rfl⟩ (fun hHeld => ?_)
            clear hK K
            refine norm_ (a' := ?_) ?_ ?_
            rotate_left
            ·show Act.put _ (some 33) _ = _
             simp only [Act.put, sI, sZ, sS, i64_w, i32_w]
             rfl
            refine one_ (i := 14) (N := some 38) #[true, true, true, true, true, true, true, true, true, true, true, true, true, true, true, false, false, false] rfl rfl (one_of HT_.out kR) (by decide) (fun K hK => ?_)
            refine goes_ Try.func97 kR rfl #[.slice (some ad222) l0.length c0, .int .i64 (wrap64 (x19_2 + 1))] (by rfl) rfl rfl sQ ?_
            with_reducible refine (impl_at.calls _ _ l0 (wrap64 (x19_2 + 1)) t231 t232 _ ?side1 ?side2 A23.out).mono ?_
            (case side1 => repeat (first | exact (Kd.C_below HR0.out HB.out) | (with_reducible refine cA ?_ _) | (with_reducible refine cN ?_ _) | (with_reducible refine cD ?_)))
            (case side2 => exact HC0.out)
            rintro e w30 ⟨rfl, hb⟩
            refine ⟨_, rfl, ?_⟩
            have n0_ := aM (blk_below (g := gb223) (o := .cells #[.int .i64 ((rd_impl_Peg l0 x19_2).f0), .int .i64 ((rd_impl_Peg l0 x19_2).f1)] 34 (0, 0)) (gQ BK223) hb)
            have n1_ := aM (pT (by repeat (first | (with_reducible first | exact HB.out | apply pA | apply pN | apply pD | refine pS ?_ GE223.out) | exact HB.out)) hb)
            clear BK223
            clear HB
            have BK223 := n0_
            have HB := n1_
            clear n0_ n1_
            (try clear hb)
            (try clear hb2)
            (try clear hk)
            (try clear hi)
            refine hK.out _ _ ⟨(kC BK223.out 0).trans rfl, (kC BK223.out 1).trans rfl⟩ (fun hHeld => ?_)
            clear hK K
            refine norm_ (a' := ?_) ?_ ?_
            rotate_left
            ·show Act.put _ (some 38) _ = _
             simp only [Act.put, sI, sZ, sS, i64_w, i32_w]
             rfl
            refine one_ (i := 15) (N := some 39) #[true, true, true, true, true, true, true, true, true, true, true, true, true, true, true, true, false, false] rfl rfl (one_of HT_.out kR) (by decide) (fun K hK => ?_)
            refine goes_ Try.func138 kR rfl #[.agg #[.int .i64 t229, .int .i64 t230], .agg #[.int .i64 ((rd_impl_Peg l0 x19_2).f0), .int .i64 ((rd_impl_Peg l0 x19_2).f1)], .agg #[.int .i64 t231, .int .i64 t232]] (by rfl) rfl rfl sQ ?_
            with_reducible refine (impl_turn.calls t229 t230 ((rd_impl_Peg l0 x19_2).f0) ((rd_impl_Peg l0 x19_2).f1) t231 t232 t233 _ A24.out).mono ?_
            rintro e w31 ⟨rfl, hb⟩
            refine ⟨_, rfl, ?_⟩
            have n0_ := aM (blk_below (g := gb223) (o := .cells #[.int .i64 ((rd_impl_Peg l0 x19_2).f0), .int .i64 ((rd_impl_Peg l0 x19_2).f1)] 34 (0, 0)) (gQ BK223) hb)
            have n1_ := aM (pT (by repeat (first | (with_reducible first | exact HB.out | apply pA | apply pN | apply pD | refine pS ?_ GE223.out) | exact HB.out)) hb)
            clear BK223
            clear HB
            have BK223 := n0_
            have HB := n1_
            clear n0_ n1_
            (try clear hb)
            (try clear hb2)
            (try clear hk)
            (try clear hi)
            refine hK.out _ _ ⟨(kC BK223.out 0).trans rfl, (kC BK223.out 1).trans rfl⟩ (fun hHeld => ?_)
            clear hK K
            refine norm_ (a' := ?_) ?_ ?_
            rotate_left
            ·show Act.put _ (some 39) _ = _
             simp only [Act.put, sI, sZ, sS, i64_w, i32_w]
             rfl
            refine pure_ (i := 16) (N := some 40) (v := ?_) (a' := ?_) #[true, true, true, true, true, true, true, true, true, true, true, true, true, true, true, true, true, false] rfl rfl (any_of HT_.out kR) (fun _ _ _ h => h) (Or.inl ⟨by rfl, ?_⟩) ?_ ?_
            rotate_left
            ·intro w'
             go_simp
             with_reducible rfl
            rotate_left
            ·simp only [Act.put, sI, sZ, sS, i64_w, i32_w]
             rfl
            refine pure_ (i := 17) (N := some 41) (v := ?_) (a' := ?_) #[true, true, true, true, true, true, true, true, true, true, true, true, true, true, true, true, true, true] rfl rfl (any_of HT_.out kR) (fun _ _ _ h => h) (Or.inl ⟨by rfl, ?_⟩) ?_ ?_
            rotate_left
            ·intro w'
             go_simp
             with_reducible rfl
            rotate_left
            ·simp only [Act.put, sI, sZ, sS, i64_w, i32_w]
             rfl
            refine done_ (done_of HT_.out kR) ?_
            try go_wp2
            go_meet
            case rel => exact ⟨_, ((t233 == 0)), eQ, H', ⟨by have := HJ1.out; have := HK2.out; first | omega | exact Nat.le_refl _⟩, ⟨by (with_reducible repeat (first | refine kN ?_ _ | refine kD ?_ | refine kA ?_ _)); exact BK223.out⟩, ⟨by repeat (first | (with_reducible first | exact HB.out | apply pA | apply pN | apply pD | refine pS ?_ GE223.out) | exact HB.out)⟩⟩
          ·rw [if_neg c15] at H
           exact absurd H (by simp)
         case rest =>
          clear HC11
          try clear c1
          try clear p2
          try clear q2
          try clear hx2
          try clear c4
          try clear p6
          try clear c7
          try clear c8
          try clear c8b0
          try clear c9
          try clear c9b0
          try clear c10
          try clear c10b0
          try clear c11
          try clear c13
          try clear c14
          try clear c14b0
          try clear c15
          try clear c15b0
          try clear c15b1
          try clear c17
          try clear q20
          try clear p22
          try clear q22
          try clear hx22
          try clear q27
          try clear hcz13_0
          try clear hcz13_1
          try clear hfz13_0
          try clear hfz13_1
          try clear hx222_0
          try clear hx222_1
          try clear p2
          try clear p222
          try clear q20
          try clear q222
          try clear q27
          obtain ⟨kq, x41_10, rfl, HA, HJ10, BK223, HB⟩ := hcut
          cases kq with
          | zero => exact absurd HA.out (by simp [impl_IsPolygon.j2])
          | succ kj10 =>
           have H := HA.out
           clear HA
           simp only [impl_IsPolygon.j2] at H
           by_cases c32 : x41_10 = true
           ·subst c32
            have H1 : (some false) = some r := by rw [if_pos rfl] at H; exact H
            clear H
            have H := H1
            clear H1
            obtain rfl := Option.some.inj H
            go_wp2
            go_ret
            exact ⟨by first | rfl | (simp [errW_none, errW_some] <;> rfl) | (simp [*, errW_none, errW_some] <;> rfl), by repeat (first | (with_reducible first | exact HB.out | apply pA | apply pN | apply pD | refine pS ?_ GE223.out) | exact HB.out)⟩
           ·replace c32 := Bool.eq_false_iff.mpr c32
            subst c32
            have H1 : (impl_IsPolygon.l1 kj10 l0 (l0.length : Int) x19_2 l0 (l0.length : Int) x19_2 x19_2 0 ((rd_impl_Peg l0 x19_2).f0) ((rd_impl_Peg l0 x19_2).f1)) = some r := by rw [if_neg (show ¬ (false = true) by decide)] at H; exact H
            clear H
            have H := H1
            clear H1
            have H' := aM H
            clear H
            go_wp2
            go_loopg [43] kj10 (fun kq v43 w' => ∃ (x43_4 : Int), v43 = .int .i64 x43_4 ∧ Aside0 (impl_IsPolygon.l1 kq l0 (l0.length : Int) x19_2 l0 (l0.length : Int) x19_2 x19_2 x43_4 ((rd_impl_Peg l0 x19_2).f0) ((rd_impl_Peg l0 x19_2).f1) = some r) ∧ Aside0 (kq ≤ kj10) ∧ Aside0 (w'.heap[gb223]? = some (.cells #[.int .i64 ((rd_impl_Peg l0 x19_2).f0), .int .i64 ((rd_impl_Peg l0 x19_2).f1)] 34 (0, 0))) ∧ Aside0 (Below w.heap.size w w'))
            case atStart => exact ⟨(0), eQ, H', ⟨Nat.le_refl _⟩, ⟨by (with_reducible repeat (first | refine kN ?_ _ | refine kD ?_ | refine kA ?_ _)); exact BK223.out⟩, ⟨by repeat (first | (with_reducible first | exact HB.out | apply pA | apply pN | apply pD | refine pS ?_ GE223.out) | exact HB.out)⟩⟩
            case round =>
             clear H'
             try clear c1
             try clear p2
             try clear q2
             try clear hx2
             try clear c3
             try clear c4
             try clear p6
             try clear c7
             try clear c8
             try clear c8b0
             try clear c9
             try clear c9b0
             try clear c10
             try clear c10b0
             try clear c11
             try clear c13
             try clear c14
             try clear c14b0
             try clear c15
             try clear c15b0
             try clear c15b1
             try clear c17
             try clear q20
             try clear p22
             try clear q22
             try clear hx22
             try clear q27
             try clear c32
             try clear hcz13_0
             try clear hcz13_1
             try clear hfz13_0
             try clear hfz13_1
             try clear hx222_0
             try clear hx222_1
             try clear p2
             try clear p22
             try clear p222
             try clear p6
             try clear q2
             try clear q20
             try clear q22
             try clear q222
             try clear q27
             obtain ⟨x43_4, rfl, HA, HK4, BK223, HB⟩ := hrel
             cases gk with
             | zero => exact absurd HA.out (by simp [impl_IsPolygon.l1])
             | succ k4 =>
              have H := HA.out
              clear HA
              simp only [impl_IsPolygon.l1] at H
              by_cases c33 : x43_4 < x19_2
              ·rw [if_pos c33] at H
               have c33b0 : decide (x43_4 < x19_2) = true := dE c33
               clear c33
               have HC34 := aM H
               clear H
               go_upto_region 12 with (fail)
               go_cut [59] (fun v59 wc => ∃ (kq : Nat) (x59_33 : Bool), v59 = .bool x59_33 ∧ Aside0 (impl_IsPolygon.j4 kq l0 (l0.length : Int) x19_2 x43_4 l0 (l0.length : Int) x19_2 x19_2 x43_4 x59_33 ((rd_impl_Peg l0 x19_2).f0) ((rd_impl_Peg l0 x19_2).f1) = some r) ∧ Aside0 (kq ≤ k4) ∧ Aside0 (wc.heap[gb223]? = some (.cells #[.int .i64 ((rd_impl_Peg l0 x19_2).f0), .int .i64 ((rd_impl_Peg l0 x19_2).f1)] 34 (0, 0))) ∧ Aside0 (Below w.heap.size w wc))
               case first =>
                have H := HC34.out
                clear HC34
                by_cases c35 : (wrap64 (x43_4 + 1)) = x19_2
                ·rw [if_pos c35] at H
                 have c35b0 : ((wrap64 (x43_4 + 1)) == x19_2) = true := beq_iff_eq.mpr c35
                 have c35b1 : ((wrap64 (x43_4 + 1)) != x19_2) = false := bne_eq_false_iff_eq.mpr c35
                 clear c35
                 (first | rw [c35b0] | (simp only [i64_w, i32_w]; rw [c35b0]) | skip)
                 have H' := aM H
                 clear H
                 go_wp2
                 go_meet
                 case rel => exact ⟨_, (true), eQ, H', ⟨by have := HJ1.out; have := HK2.out; have := HJ10.out; have := HK4.out; first | omega | exact Nat.le_refl _⟩, ⟨by (with_reducible repeat (first | refine kN ?_ _ | refine kD ?_ | refine kA ?_ _)); exact BK223.out⟩, ⟨by repeat (first | (with_reducible first | exact HB.out | apply pA | apply pN | apply pD | refine pS ?_ GE223.out) | exact HB.out)⟩⟩
                ·rw [if_neg c35] at H
                 have c35b0 : ((wrap64 (x43_4 + 1)) == x19_2) = false := beq_eq_false_iff_ne.mpr c35
                 have c35b1 : ((wrap64 (x43_4 + 1)) != x19_2) = true := bne_iff_ne.mpr c35
                 (first | rw [c35b0] | (simp only [i64_w, i32_w]; rw [c35b0]) | skip)
                 by_cases c36 : (wrap64 (x19_2 + 1)) = (l0.length : Int)
                 ·rw [if_pos c36] at H
                  have c36b0 : ((wrap64 (x19_2 + 1)) == (l0.length : Int)) = true := beq_iff_eq.mpr c36
                  have c36b1 : ((wrap64 (x19_2 + 1)) != (l0.length : Int)) = false := bne_eq_false_iff_eq.mpr c36
                  clear c36
                  have H' := aM H
                  clear H
                  go_wp2
                  go_meet
                  case rel => exact ⟨_, ((x43_4 == 0)), eQ, H', ⟨by have := HJ1.out; have := HK2.out; have := HJ10.out; have := HK4.out; first | omega | exact Nat.le_refl _⟩, ⟨by (with_reducible repeat (first | refine kN ?_ _ | refine kD ?_ | refine kA ?_ _)); exact BK223.out⟩, ⟨by repeat (first | (with_reducible first | exact HB.out | apply pA | apply pN | apply pD | refine pS ?_ GE223.out) | exact HB.out)⟩⟩
                 ·rw [if_neg c36] at H
                  have c36b0 : ((wrap64 (x19_2 + 1)) == (l0.length : Int)) = false := beq_eq_false_iff_ne.mpr c36
                  have c36b1 : ((wrap64 (x19_2 + 1)) != (l0.length : Int)) = true := bne_iff_ne.mpr c36
                  have H' := aM H
                  clear H
                  go_wp2
                  go_meet
                  case rel => exact ⟨_, (false), eQ, H', ⟨by have := HJ1.out; have := HK2.out; have := HJ10.out; have := HK4.out; first | omega | exact Nat.le_refl _⟩, ⟨by (with_reducible repeat (first | refine kN ?_ _ | refine kD ?_ | refine kA ?_ _)); exact BK223.out⟩, ⟨by repeat (first | (with_reducible first | exact HB.out | apply pA | apply pN | apply pD | refine pS ?_ GE223.out) | exact HB.out)⟩⟩
               case rest =>
                clear HC34
                try clear c1
                try clear p2
                try clear q2
                try clear hx2
                try clear c3
                try clear c4
                try clear p6
                try clear c7
                try clear c8
                try clear c8b0
                try clear c9
                try clear c9b0
                try clear c10
                try clear c10b0
                try clear c11
                try clear c13
                try clear c14
                try clear c14b0
                try clear c15
                try clear c15b0
                try clear c15b1
                try clear c17
                try clear q20
                try clear p22
                try clear q22
                try clear hx22
                try clear q27
                try clear c32
                try clear c33
                try clear c33b0
                try clear c35
                try clear c35b0
                try clear c35b1
                try clear c36
                try clear c36b0
                try clear c36b1
                try clear hcz13_0
                try clear hcz13_1
                try clear hfz13_0
                try clear hfz13_1
                try clear hx222_0
                try clear hx222_1
                try clear p2
                try clear p22
                try clear p222
                try clear p6
                try clear q2
                try clear q20
                try clear q22
                try clear q222
                try clear q27
                obtain ⟨kq, x59_33, rfl, HA, HJ33, BK223, HB⟩ := hcut
                cases kq with
                | zero => exact absurd HA.out (by simp [impl_IsPolygon.j4])
                | succ kj33 =>
                 have H := HA.out
                 clear HA
                 simp only [impl_IsPolygon.j4] at H
                 by_cases c37 : x59_33 = true
                 ·subst c37
                  have H1 : (impl_IsPolygon.l1 kj33 l0 (l0.length : Int) x19_2 l0 (l0.length : Int) x19_2 x19_2 (wrap64 (x43_4 + 1)) ((rd_impl_Peg l0 x19_2).f0) ((rd_impl_Peg l0 x19_2).f1)) = some r := by rw [if_pos rfl] at H; exact H
                  clear H
                  have H := H1
                  clear H1
                  have H' := aM H
                  clear H
                  go_wp2
                  go_roundg kj33
                  case measure => have := HJ1.out; have := HK2.out; have := HJ10.out; have := HK4.out; have := HJ33.out; omega
                  case rel => exact ⟨(wrap64 (x43_4 + 1)), eQ, H', ⟨by have := HJ1.out; have := HK2.out; have := HJ10.out; have := HK4.out; have := HJ33.out; omega⟩, ⟨by (with_reducible repeat (first | refine kN ?_ _ | refine kD ?_ | refine kA ?_ _)); exact BK223.out⟩, ⟨by repeat (first | (with_reducible first | exact HB.out | apply pA | apply pN | apply pD | refine pS ?_ GE223.out) | exact HB.out)⟩⟩
                 ·replace c37 := Bool.eq_false_iff.mpr c37
                  subst c37
                  have H1 : (if 0 ≤ x43_4 then (if x43_4 < (l0.length : Int) then (if 0 ≤ (wrap64 (x43_4 + 1)) then (if (wrap64 (x43_4 + 1)) < (l0.length : Int) then ((impl_at.f l0 (wrap64 (x19_2 + 1))).bind fun bt236 => ((impl_meet.f kj33 ((rd_impl_Peg l0 x43_4).f0) ((rd_impl_Peg l0 x43_4).f1) ((rd_impl_Peg l0 (wrap64 (x43_4 + 1))).f0) ((rd_impl_Peg l0 (wrap64 (x43_4 + 1))).f1) ((rd_impl_Peg l0 x19_2).f0) ((rd_impl_Peg l0 x19_2).f1) bt236.1 bt236.2).bind fun t238 => (if t238 = true then (some false) else (impl_IsPolygon.l1 kj33 l0 (l0.length : Int) x19_2 l0 (l0.length : Int) x19_2 x19_2 (wrap64 (x43_4 + 1)) ((rd_impl_Peg l0 x19_2).f0) ((rd_impl_Peg l0 x19_2).f1))))) else (none)) else (none)) else (none)) else (none)) = some r := by rw [if_neg (show ¬ (false = true) by decide)] at H; exact H
                  clear H
                  have H := H1
                  clear H1
                  by_cases c38 : 0 ≤ x43_4
                  ·rw [if_pos c38] at H
                   have c38b0 : decide (0 ≤ x43_4) = true := dE c38
                   clear c38
                   by_cases c39 : x43_4 < (l0.length : Int)
                   ·rw [if_pos c39] at H
                    have c39b0 : decide (x43_4 < (l0.length : Int)) = true := dE c39
                    clear c39
                    obtain ⟨ji40, hji40⟩ : ∃ j_ : Int, (wrap64 (x43_4 + 1)) = j_ := ⟨_, rfl⟩
                    replace H : (if 0 ≤ (ji40) then (if (ji40) < (l0.length : Int) then ((impl_at.f l0 (wrap64 (x19_2 + 1))).bind fun bt236 => ((impl_meet.f kj33 ((rd_impl_Peg l0 x43_4).f0) ((rd_impl_Peg l0 x43_4).f1) ((rd_impl_Peg l0 (ji40)).f0) ((rd_impl_Peg l0 (ji40)).f1) ((rd_impl_Peg l0 x19_2).f0) ((rd_impl_Peg l0 x19_2).f1) bt236.1 bt236.2).bind fun t238 => (if t238 = true then (some false) else (impl_IsPolygon.l1 kj33 l0 (l0.length : Int) x19_2 l0 (l0.length : Int) x19_2 x19_2 ji40 ((rd_impl_Peg l0 x19_2).f0) ((rd_impl_Peg l0 x19_2).f1))))) else (none)) else (none)) = some r := by first | (rw [hji40] at H; exact H) | (simp only [hji40] at H ⊢; exact H)
                    have hji40w : (IntKind.i64.wrap (x43_4 + 1)) = ji40 := (i64_w _).trans hji40
                    by_cases c41 : 0 ≤ (ji40)
                    ·rw [if_pos c41] at H
                     have c41b0 : decide (0 ≤ (ji40)) = true := dE c41
                     clear c41
                     by_cases c42 : (ji40) < (l0.length : Int)
                     ·rw [if_pos c42] at H
                      have c42b0 : decide ((ji40) < (l0.length : Int)) = true := dE c42
                      clear c42
                      replace H := oB.mp H
                      obtain ⟨⟨t236, t237⟩, A430, H⟩ := H
                      replace H : ((impl_meet.f kj33 ((rd_impl_Peg l0 x43_4).f0) ((rd_impl_Peg l0 x43_4).f1) ((rd_impl_Peg l0 (ji40)).f0) ((rd_impl_Peg l0 (ji40)).f1) ((rd_impl_Peg l0 x19_2).f0) ((rd_impl_Peg l0 x19_2).f1) t236 t237).bind fun t238 => (if t238 = true then (some false) else (impl_IsPolygon.l1 kj33 l0 (l0.length : Int) x19_2 l0 (l0.length : Int) x19_2 x19_2 ji40 ((rd_impl_Peg l0 x19_2).f0) ((rd_impl_Peg l0 x19_2).f1)))) = some r := H
                      have A43 := aM A430
                      clear A430
                      replace H := oB.mp H
                      obtain ⟨t238, A440, H⟩ := H
                      replace H : (if t238 = true then (some false) else (impl_IsPolygon.l1 kj33 l0 (l0.length : Int) x19_2 l0 (l0.length : Int) x19_2 x19_2 ji40 ((rd_impl_Peg l0 x19_2).f0) ((rd_impl_Peg l0 x19_2).f1))) = some r := H
                      have A44 := aM A440
                      clear A440
                      by_cases c45 : t238 = true
                      ·subst c45
                       have H1 : (some false) = some r := by rw [if_pos rfl] at H; exact H
                       clear H
                       have H := H1
                       clear H1
                       obtain rfl := Option.some.inj H
                       try go_wp2
                       have n0_ := aM (kD BK223.out)
                       have n1_ := aM (pD HB.out)
                       clear BK223
                       clear HB
                       have BK223 := n0_
                       have HB := n1_
                       clear n0_ n1_
                       have p234 : 0 ≤ (x43_4 : Int) := dT aQ
                       have q234 : x43_4 < (l0.length : Int) := dT aQ
                       obtain ⟨ad234, e234, hx234_0, hx234_1⟩ := at_impl_Peg HR0.out x43_4 p234 q234
                       have hw234_1 := hx234_1
                       have hw234_0 := hx234_0
                       obtain rfl : ad222 = ad234 := (by injection e234)
                       replace hx234_0 := (HB.out.cell (wB w _ hx234_0)).trans hx234_0
                       replace hx234_1 := (HB.out.cell (wB w _ hx234_1)).trans hx234_1
                       replace p234 := eq_true p234
                       replace q234 := eq_true q234
                       have p235 : 0 ≤ ((ji40) : Int) := dT aQ
                       have q235 : (ji40) < (l0.length : Int) := dT aQ
                       obtain ⟨ad235, e235, hx235_0, hx235_1⟩ := at_impl_Peg HR0.out (ji40) p235 q235
                       have hw235_1 := hx235_1
                       have hw235_0 := hx235_0
                       obtain rfl : ad222 = ad235 := (by injection e235)
                       replace hx235_0 := (HB.out.cell (wB w _ hx235_0)).trans hx235_0
                       replace hx235_1 := (HB.out.cell (wB w _ hx235_1)).trans hx235_1
                       replace p235 := eq_true p235
                       replace q235 := eq_true q235
                       refine start_ (n := 15) (S := fun w' => w'.cell? ⟨gb223, 0, none⟩ = some (.int .i64 ((rd_impl_Peg l0 x19_2).f0)) ∧ w'.cell? ⟨gb223, 1, none⟩ = some (.int .i64 ((rd_impl_Peg l0 x19_2).f1)) ∧ w'.cell? (ad222.add ((x43_4).toNat * 2)) = some (.int .i64 ((rd_impl_Peg l0 x43_4).f0)) ∧ w'.cell? ⟨(ad222.add ((x43_4).toNat * 2)).block, (ad222.add ((x43_4).toNat * 2)).off + 1, none⟩ = some (.int .i64 ((rd_impl_Peg l0 x43_4).f1)) ∧ w'.cell? (ad222.add (((ji40)).toNat * 2)) = some (.int .i64 ((rd_impl_Peg l0 (ji40)).f0)) ∧ w'.cell? ⟨(ad222.add (((ji40)).toNat * 2)).block, (ad222.add (((ji40)).toNat * 2)).off + 1, none⟩ = some (.int .i64 ((rd_impl_Peg l0 (ji40)).f1))) (ds := []) #[false, false, false, false, false, false, false, false, false, false, false, false, false, false, false] kR rfl rfl ⟨(kC BK223.out 0).trans rfl, (kC BK223.out 1).trans rfl, ((HB.out.cell (wB w _ hw234_0)).trans hw234_0), ((HB.out.cell (wB w _ hw234_1)).trans hw234_1), ((HB.out.cell (wB w _ hw235_0)).trans hw235_0), ((HB.out.cell (wB w _ hw235_1)).trans hw235_1)⟩ (fun hHeld => ?_); refine with_tabW impl_IsPolygon.tab13 impl_IsPolygon.bits13 (fun HT_ HW_ => ?_)
                       generalize wc.drew = w46 at BK223 HB hx234_0 hx234_1 hx235_0 hx235_1 hHeld ⊢
                       refine pure_ (i := 0) (N := some 60) (v := ?_) (a' := ?_) #[true, false, false, false, false, false, false, false, false, false, false, false, false, false, false] rfl rfl (any_of HT_.out kR) (fun _ _ _ h => h) (Or.inl ⟨by rfl, ?_⟩) ?_ ?_
                       rotate_left
                       ·intro w'
                        go_simp
                        with_reducible rfl
                       rotate_left
                       ·simp only [Act.put, sI, sZ, sS, i64_w, i32_w]
                        rfl
                       refine pure_ (i := 1) (N := some 61) (v := ?_) (a' := ?_) #[true, true, false, false, false, false, false, false, false, false, false, false, false, false, false] rfl rfl (any_of HT_.out kR) (fun _ _ _ h => h) (Or.inl ⟨by rfl, ?_⟩) ?_ ?_
                       rotate_left
                       ·intro w'
                        go_simp
                        with_reducible rfl
                       rotate_left
                       ·simp only [Act.put, sI, sZ, sS, i64_w, i32_w]
                        rfl
                       refine pure_ (i := 2) (N := some 62) (v := ?_) (a' := ?_) #[true, true, true, false, false, false, false, false, false, false, false, false, false, false, false] rfl rfl (any_of HT_.out kR) (fun _ _ _ h => h) (Or.inl ⟨by rfl, ?_⟩) ?_ ?_
                       rotate_left
                       ·intro w'
                        go_simp
                        with_reducible rfl
                       rotate_left
                       ·simp only [Act.put, sI, sZ, sS, i64_w, i32_w]
                        rfl
                       refine pure_ (i := 4) (N := some 64) (v := ?_) (a' := ?_) #[true, true, true, false, true, false, false, false, false, false, false, false, false, false, false] rfl rfl (any_of HT_.out kR) (fun _ _ _ h => h) (Or.inl ⟨by rfl, ?_⟩) ?_ ?_
                       rotate_left
                       ·intro w'
                        go_simp
                        with_reducible rfl
                       rotate_left
                       ·simp only [Act.put, sI, sZ, sS, i64_w, i32_w]
                        rfl
                       refine pure_ (i := 5) (N := some 65) (v := ?_) (a' := ?_) #[true, true, true, false, true, true, false, false, false, false, false, false, false, false, false] rfl rfl (any_of HT_.out kR) (fun _ _ _ h => h) (Or.inl ⟨by rfl, ?_⟩) ?_ ?_
                       rotate_left
                       ·intro w'
                        go_simp
                        with_reducible rfl
                       rotate_left
                       ·simp only [Act.put, sI, sZ, sS, i64_w, i32_w]
                        rfl
                       refine pure_ (i := 6) (N := some 66) (v := ?_) (a' := ?_) #[true, true, true, false, true, true, true, false, false, false, false, false, false, false, false] rfl rfl (any_of HT_.out kR) (fun _ _ _ h => h) (Or.inl ⟨by rfl, ?_⟩) ?_ ?_
                       rotate_left
                       ·intro w'
                        go_simp
                        with_reducible rfl
                       rotate_left
                       ·simp only [Act.put, sI, sZ, sS, i64_w, i32_w]
                        rfl
                       refine pure_ (i := 7) (N := some 67) (v := ?_) (a' := ?_) #[true, true, true, false, true, true, true, true, false, false, false, false, false, false, false] rfl rfl (any_of HT_.out kR) (fun _ _ _ h => h) (Or.inl ⟨by rfl, ?_⟩) ?_ ?_
                       rotate_left
                       ·intro w'
                        go_simp
                        with_reducible rfl
                       rotate_left
                       ·simp only [Act.put, sI, sZ, sS, i64_w, i32_w]
                        rfl
                       refine pure_ (i := 10) (N := some 70) (v := ?_) (a' := ?_) #[true, true, true, false, true, true, true, true, false, false, true, false, false, false, false] rfl rfl (any_of HT_.out kR) (fun _ _ _ h => h) (Or.inl ⟨by rfl, ?_⟩) ?_ ?_
                       rotate_left
                       ·intro w'
                        go_simp
                        with_reducible rfl
                       rotate_left
                       ·simp only [Act.put, sI, sZ, sS, i64_w, i32_w]
                        rfl
                       refine pure_ (i := 11) (N := some 71) (v := ?_) (a' := ?_) #[true, true, true, false, true, true, true, true, false, false, true, true, false, false, false] rfl rfl (any_of HT_.out kR) (fun _ _ _ h => h) (Or.inl ⟨by rfl, ?_⟩) ?_ ?_
                       rotate_left
                       ·intro w'
                        go_simp
                        with_reducible rfl
                       rotate_left
                       ·simp only [Act.put, sI, sZ, sS, i64_w, i32_w]
                        rfl
                       refine pure_ (i := 12) (N := some 72) (v := ?_) (a' := ?_) #[true, true, true, false, true, true, true, true, false, false, true, true, true, false, false] rfl rfl (any_of HT_.out kR) (fun _ _ _ h => h) (Or.inl ⟨by rfl, ?_⟩) ?_ ?_
                       rotate_left
                       ·intro w'
                        go_simp
                        with_reducible rfl
                       rotate_left
                       ·simp only [Act.put, sI, sZ, sS, i64_w, i32_w]
                        rfl
                       refine take_ (i := 3) (N := some 63) (v := ?_) (a' := ?_) #[true, true, true, true, true, true, true, true, false, false, true, true, true, false, false] rfl rfl (take_ofW HT_.out HW_.out kR) (fun _ _ _ h => h) (Or.inl ⟨by rfl, ?_⟩) hHeld ?_ ?_
                       rotate_left
                       ·rintro w' ⟨s0, s1, s2, s3, s4, s5⟩
                        go_simp
                        with_reducible rfl
                       rotate_left
                       ·simp only [Act.put, sI, sZ, sS, i64_w, i32_w]
                        rfl
                       refine take_ (i := 8) (N := some 68) (v := ?_) (a' := ?_) #[true, true, true, true, true, true, true, true, true, false, true, true, true, false, false] rfl rfl (take_ofW HT_.out HW_.out kR) (fun _ _ _ h => h) (Or.inl ⟨by rfl, ?_⟩) hHeld ?_ ?_
                       rotate_left
                       ·rintro w' ⟨s0, s1, s2, s3, s4, s5⟩
                        go_simp
                        with_reducible rfl
                       rotate_left
                       ·simp only [Act.put, sI, sZ, sS, i64_w, i32_w]
                        rfl
                       refine take_ (i := 9) (N := some 69) (v := ?_) (a' := ?_) #[true, true, true, true, true, true, true, true, true, true, true, true, true, false, false] rfl rfl (take_ofW HT_.out HW_.out kR) (fun _ _ _ h => h) (Or.inl ⟨by rfl, ?_⟩) hHeld ?_ ?_
                       rotate_left
                       ·rintro w' ⟨s0, s1, s2, s3, s4, s5⟩
                        go_simp
                        with_reducible rfl
                       rotate_left
                       ·simp only [Act.put, sI, sZ, sS, i64_w, i32_w]
                        rfl
                       refine one_ (i := 13) (N := some 73) #[true, true, true, true, true, true, true, true, true, true, true, true, true, true, false] rfl rfl (one_of HT_.out kR) (by decide) (fun K hK => ?_)
                       refine goes_ Try.func97 kR rfl #[.slice (some ad222) l0.length c0, .int .i64 (wrap64 (x19_2 + 1))] (by rfl) rfl rfl sQ ?_
                       with_reducible refine (impl_at.calls _ _ l0 (wrap64 (x19_2 + 1)) t236 t237 _ ?side1 ?side2 A43.out).mono ?_
                       (case side1 => repeat (first | exact (Kd.C_below HR0.out HB.out) | (with_reducible refine cA ?_ _) | (with_reducible refine cN ?_ _) | (with_reducible refine cD ?_)))
                       (case side2 => exact HC0.out)
                       rintro e w47 ⟨rfl, hb⟩
                       refine ⟨_, rfl, ?_⟩
                       have n0_ := aM (blk_below (g := gb223) (o := .cells #[.int .i64 ((rd_impl_Peg l0 x19_2).f0), .int .i64 ((rd_impl_Peg l0 x19_2).f1)] 34 (0, 0)) (gQ BK223) hb)
                       have n1_ := aM (pT (by repeat (first | (with_reducible first | exact HB.out | apply pA | apply pN | apply pD | refine pS ?_ GE223.out) | exact HB.out)) hb)
                       clear BK223
                       clear HB
                       have BK223 := n0_
                       have HB := n1_
                       clear n0_ n1_
                       (try clear hb)
                       (try clear hb2)
                       (try clear hk)
                       (try clear hi)
                       refine hK.out _ _ ⟨(kC BK223.out 0).trans rfl, (kC BK223.out 1).trans rfl, ((HB.out.cell (wB w _ hw234_0)).trans hw234_0), ((HB.out.cell (wB w _ hw234_1)).trans hw234_1), ((HB.out.cell (wB w _ hw235_0)).trans hw235_0), ((HB.out.cell (wB w _ hw235_1)).trans hw235_1)⟩ (fun hHeld => ?_)
                       clear hK K
                       refine norm_ (a' := ?_) ?_ ?_
                       rotate_left
                       ·show Act.put _ (some 73) _ = _
                        simp only [Act.put, sI, sZ, sS, i64_w, i32_w]
                        rfl
                       refine one_ (i := 14) (N := some 74) #[true, true, true, true, true, true, true, true, true, true, true, true, true, true, true] rfl rfl (one_of HT_.out kR) (by decide) (fun K hK => ?_)
                       refine goes_ Try.func139 kR rfl #[.agg #[.int .i64 ((rd_impl_Peg l0 x43_4).f0), .int .i64 ((rd_impl_Peg l0 x43_4).f1)], .agg #[.int .i64 ((rd_impl_Peg l0 (ji40)).f0), .int .i64 ((rd_impl_Peg l0 (ji40)).f1)], .agg #[.int .i64 ((rd_impl_Peg l0 x19_2).f0), .int .i64 ((rd_impl_Peg l0 x19_2).f1)], .agg #[.int .i64 t236, .int .i64 t237]] (by rfl) rfl rfl (by (try simp only [mA, mC, mN]); first | done | (simp only [hji40]; rfl) | rfl | (simp only [lD, lT]; rfl)) ?_
                       with_reducible refine (impl_meet.calls kj33 ((rd_impl_Peg l0 x43_4).f0) ((rd_impl_Peg l0 x43_4).f1) ((rd_impl_Peg l0 (ji40)).f0) ((rd_impl_Peg l0 (ji40)).f1) ((rd_impl_Peg l0 x19_2).f0) ((rd_impl_Peg l0 x19_2).f1) t236 t237 true _ A44.out).mono ?_
                       rintro e w48 ⟨rfl, hb⟩
                       refine ⟨_, rfl, ?_⟩
                       have n0_ := aM (blk_below (g := gb223) (o := .cells #[.int .i64 ((rd_impl_Peg l0 x19_2).f0), .int .i64 ((rd_impl_Peg l0 x19_2).f1)] 34 (0, 0)) (gQ BK223) hb)
                       have n1_ := aM (pT (by repeat (first | (with_reducible first | exact HB.out | apply pA | apply pN | apply pD | refine pS ?_ GE223.out) | exact HB.out)) hb)
                       clear BK223
                       clear HB
                       have BK223 := n0_
                       have HB := n1_
                       clear n0_ n1_
                       (try clear hb)
                       (try clear hb2)
                       (try clear hk)
                       (try clear hi)
                       refine hK.out _ _ ⟨(kC BK223.out 0).trans rfl, (kC BK223.out 1).trans rfl, ((HB.out.cell (wB w _ hw234_0)).trans hw234_0), ((HB.out.cell (wB w _ hw234_1)).trans hw234_1), ((HB.out.cell (wB w _ hw235_0)).trans hw235_0), ((HB.out.cell (wB w _ hw235_1)).trans hw235_1)⟩ (fun hHeld => ?_)
                       clear hK K
                       refine norm_ (a' := ?_) ?_ ?_
                       rotate_left
                       ·show Act.put _ (some 74) _ = _
                        simp only [Act.put, sI, sZ, sS, i64_w, i32_w]
                        rfl
                       refine done_ (done_of HT_.out kR) ?_
                       try go_wp2
                       go_ret
                       exact ⟨by first | rfl | (simp [errW_none, errW_some] <;> rfl) | (simp only [← hji40]; first | rfl | (simp [errW_none, errW_some] <;> rfl)) | (simp [*, errW_none, errW_some] <;> rfl), by repeat (first | (with_reducible first | exact HB.out | apply pA | apply pN | apply pD | refine pS ?_ GE223.out) | exact HB.out)⟩
                      ·replace c45 := Bool.eq_false_iff.mpr c45
                       subst c45
                       have H1 : (impl_IsPolygon.l1 kj33 l0 (l0.length : Int) x19_2 l0 (l0.length : Int) x19_2 x19_2 ji40 ((rd_impl_Peg l0 x19_2).f0) ((rd_impl_Peg l0 x19_2).f1)) = some r := by rw [if_neg (show ¬ (false = true) by decide)] at H; exact H
                       clear H
                       have H := H1
                       clear H1
                       have H' := aM H
                       clear H
                       try go_wp2
                       have n0_ := aM (kD BK223.out)
                       have n1_ := aM (pD HB.out)
                       clear BK223
                       clear HB
                       have BK223 := n0_
                       have HB := n1_
                       clear n0_ n1_
                       have p234 : 0 ≤ (x43_4 : Int) := dT aQ
                       have q234 : x43_4 < (l0.length : Int) := dT aQ
                       obtain ⟨ad234, e234, hx234_0, hx234_1⟩ := at_impl_Peg HR0.out x43_4 p234 q234
                       have hw234_1 := hx234_1
                       have hw234_0 := hx234_0
                       obtain rfl : ad222 = ad234 := (by injection e234)
                       replace hx234_0 := (HB.out.cell (wB w _ hx234_0)).trans hx234_0
                       replace hx234_1 := (HB.out.cell (wB w _ hx234_1)).trans hx234_1
                       replace p234 := eq_true p234
                       replace q234 := eq_true q234
                       have p235 : 0 ≤ ((ji40) : Int) := dT aQ
                       have q235 : (ji40) < (l0.length : Int) := dT aQ
                       obtain ⟨ad235, e235, hx235_0, hx235_1⟩ := at_impl_Peg HR0.out (ji40) p235 q235
                       have hw235_1 := hx235_1
                       have hw235_0 := hx235_0
                       obtain rfl : ad222 = ad235 := (by injection e235)
                       replace hx235_0 := (HB.out.cell (wB w _ hx235_0)).trans hx235_0
                       replace hx235_1 := (HB.out.cell (wB w _ hx235_1)).trans hx235_1
                       replace p235 := eq_true p235
                       replace q235 := eq_true q235
                       refine start_ (n := 15) (S := fun w' => w'.cell? ⟨gb223, 0, none⟩ = some (.int .i64 ((rd_impl_Peg l0 x19_2).f0)) ∧ w'.cell? ⟨gb223, 1, none⟩ = some (.int .i64 ((rd_impl_Peg l0 x19_2).f1)) ∧ w'.cell? (ad222.add ((x43_4).toNat * 2)) = some (.int .i64 ((rd_impl_Peg l0 x43_4).f0)) ∧ w'.cell? ⟨(ad222.add ((x43_4).toNat * 2)).block, (ad222.add ((x43_4).toNat * 2)).off + 1, none⟩ = some (.int .i64 ((rd_impl_Peg l0 x43_4).f1)) ∧ w'.cell? (ad222.add (((ji40)).toNat * 2)) = some (.int .i64 ((rd_impl_Peg l0 (ji40)).f0)) ∧ w'.cell? ⟨(ad222.add (((ji40)).toNat * 2)).block, (ad222.add (((ji40)).toNat * 2)).off + 1, none⟩ = some (.int .i64 ((rd_impl_Peg l0 (ji40)).f1))) (ds := []) #[false, false, false, false, false, false, false, false, false, false, false, false, false, false, false] kR rfl rfl ⟨(kC BK223.out 0).trans rfl, (kC BK223.out 1).trans rfl, ((HB.out.cell (wB w _ hw234_0)).trans hw234_0), ((HB.out.cell (wB w _ hw234_1)).trans hw234_1), ((HB.out.cell (wB w _ hw235_0)).trans hw235_0), ((HB.out.cell (wB w _ hw235_1)).trans hw235_1)⟩ (fun hHeld => ?_); refine with_tabW impl_IsPolygon.tab13 impl_IsPolygon.bits13 (fun HT_ HW_ => ?_)
                       generalize wc.drew = w49 at BK223 HB hx234_0 hx234_1 hx235_0 hx235_1 hHeld ⊢
                       refine pure_ (i := 0) (N := some 60) (v := ?_) (a' := ?_) #[true, false, false, false, false, false, false, false, false, false, false, false, false, false, false] rfl rfl (any_of HT_.out kR) (fun _ _ _ h => h) (Or.inl ⟨by rfl, ?_⟩) ?_ ?_
                       rotate_left
                       ·intro w'
                        go_simp
                        with_reducible rfl
                       rotate_left
                       ·simp only [Act.put, sI, sZ, sS, i64_w, i32_w]
                        rfl
                       refine pure_ (i := 1) (N := some 61) (v := ?_) (a' := ?_) #[true, true, false, false, false, false, false, false, false, false, false, false, false, false, false] rfl rfl (any_of HT_.out kR) (fun _ _ _ h => h) (Or.inl ⟨by rfl, ?_⟩) ?_ ?_
                       rotate_left
                       ·intro w'
                        go_simp
                        with_reducible rfl
                       rotate_left
                       ·simp only [Act.put, sI, sZ, sS, i64_w, i32_w]
                        rfl
                       refine pure_ (i := 2) (N := some 62) (v := ?_) (a' := ?_) #[true, true, true, false, false, false, false, false, false, false, false, false, false, false, false] rfl rfl (any_of HT_.out kR) (fun _ _ _ h => h) (Or.inl ⟨by rfl, ?_⟩) ?_ ?_
                       rotate_left
                       ·intro w'
                        go_simp
                        with_reducible rfl
                       rotate_left
                       ·simp only [Act.put, sI, sZ, sS, i64_w, i32_w]
                        rfl
                       refine pure_ (i := 4) (N := some 64) (v := ?_) (a' := ?_) #[true, true, true, false, true, false, false, false, false, false, false, false, false, false, false] rfl rfl (any_of HT_.out kR) (fun _ _ _ h => h) (Or.inl ⟨by rfl, ?_⟩) ?_ ?_
                       rotate_left
                       ·intro w'
                        go_simp
                        with_reducible rfl
                       rotate_left
                       ·simp only [Act.put, sI, sZ, sS, i64_w, i32_w]
                        rfl
                       refine pure_ (i := 5) (N := some 65) (v := ?_) (a' := ?_) #[true, true, true, false, true, true, false, false, false, false, false, false, false, false, false] rfl rfl (any_of HT_.out kR) (fun _ _ _ h => h) (Or.inl ⟨by rfl, ?_⟩) ?_ ?_
                       rotate_left
                       ·intro w'
                        go_simp
                        with_reducible rfl
                       rotate_left
                       ·simp only [Act.put, sI, sZ, sS, i64_w, i32_w]
                        rfl
                       refine pure_ (i := 6) (N := some 66) (v := ?_) (a' := ?_) #[true, true, true, false, true, true, true, false, false, false, false, false, false, false, false] rfl rfl (any_of HT_.out kR) (fun _ _ _ h => h) (Or.inl ⟨by rfl, ?_⟩) ?_ ?_
                       rotate_left
                       ·intro w'
                        go_simp
                        with_reducible rfl
                       rotate_left
                       ·simp only [Act.put, sI, sZ, sS, i64_w, i32_w]
                        rfl
                       refine pure_ (i := 7) (N := some 67) (v := ?_) (a' := ?_) #[true, true, true, false, true, true, true, true, false, false, false, false, false, false, false] rfl rfl (any_of HT_.out kR) (fun _ _ _ h => h) (Or.inl ⟨by rfl, ?_⟩) ?_ ?_
                       rotate_left
                       ·intro w'
                        go_simp
                        with_reducible rfl
                       rotate_left
                       ·simp only [Act.put, sI, sZ, sS, i64_w, i32_w]
                        rfl
                       refine pure_ (i := 10) (N := some 70) (v := ?_) (a' := ?_) #[true, true, true, false, true, true, true, true, false, false, true, false, false, false, false] rfl rfl (any_of HT_.out kR) (fun _ _ _ h => h) (Or.inl ⟨by rfl, ?_⟩) ?_ ?_
                       rotate_left
                       ·intro w'
                        go_simp
                        with_reducible rfl
                       rotate_left
                       ·simp only [Act.put, sI, sZ, sS, i64_w, i32_w]
                        rfl
                       refine pure_ (i := 11) (N := some 71) (v := ?_) (a' := ?_) #[true, true, true, false, true, true, true, true, false, false, true, true, false, false, false] rfl rfl (any_of HT_.out kR) (fun _ _ _ h => h) (Or.inl ⟨by rfl, ?_⟩) ?_ ?_
                       rotate_left
                       ·intro w'
                        go_simp
                        with_reducible rfl
                       rotate_left
                       ·simp only [Act.put, sI, sZ, sS, i64_w, i32_w]
                        rfl
                       refine pure_ (i := 12) (N := some 72) (v := ?_) (a' := ?_) #[true, true, true, false, true, true, true, true, false, false, true, true, true, false, false] rfl rfl (any_of HT_.out kR) (fun _ _ _ h => h) (Or.inl ⟨by rfl, ?_⟩) ?_ ?_
                       rotate_left
                       ·intro w'
                        go_simp
                        with_reducible rfl
                       rotate_left
                       ·simp only [Act.put, sI, sZ, sS, i64_w, i32_w]
                        rfl
                       refine take_ (i := 3) (N := some 63) (v := ?_) (a' := ?_) #[true, true, true, true, true, true, true, true, false, false, true, true, true, false, false] rfl rfl (take_ofW HT_.out HW_.out kR) (fun _ _ _ h => h) (Or.inl ⟨by rfl, ?_⟩) hHeld ?_ ?_
                       rotate_left
                       ·rintro w' ⟨s0, s1, s2, s3, s4, s5⟩
                        go_simp
                        with_reducible rfl
                       rotate_left
                       ·simp only [Act.put, sI, sZ, sS, i64_w, i32_w]
                        rfl
                       refine take_ (i := 8) (N := some 68) (v := ?_) (a' := ?_) #[true, true, true, true, true, true, true, true, true, false, true, true, true, false, false] rfl rfl (take_ofW HT_.out HW_.out kR) (fun _ _ _ h => h) (Or.inl ⟨by rfl, ?_⟩) hHeld ?_ ?_
                       rotate_left
                       ·rintro w' ⟨s0, s1, s2, s3, s4, s5⟩
                        go_simp
                        with_reducible rfl
                       rotate_left
                       ·simp only [Act.put, sI, sZ, sS, i64_w, i32_w]
                        rfl
                       refine take_ (i := 9) (N := some 69) (v := ?_) (a' := ?_) #[true, true, true, true, true, true, true, true, true, true, true, true, true, false, false] rfl rfl (take_ofW HT_.out HW_.out kR) (fun _ _ _ h => h) (Or.inl ⟨by rfl, ?_⟩) hHeld ?_ ?_
                       rotate_left
                       ·rintro w' ⟨s0, s1, s2, s3, s4, s5⟩
                        go_simp
                        with_reducible rfl
                       rotate_left
                       ·simp only [Act.put, sI, sZ, sS, i64_w, i32_w]
                        rfl
                       refine one_ (i := 13) (N := some 73) #[true, true, true, true, true, true, true, true, true, true, true, true, true, true, false] rfl rfl (one_of HT_.out kR) (by decide) (fun K hK => ?_)
                       refine goes_ Try.func97 kR rfl #[.slice (some ad222) l0.length c0, .int .i64 (wrap64 (x19_2 + 1))] (by rfl) rfl rfl sQ ?_
                       with_reducible refine (impl_at.calls _ _ l0 (wrap64 (x19_2 + 1)) t236 t237 _ ?side1 ?side2 A43.out).mono ?_
                       (case side1 => repeat (first | exact (Kd.C_below HR0.out HB.out) | (with_reducible refine cA ?_ _) | (with_reducible refine cN ?_ _) | (with_reducible refine cD ?_)))
                       (case side2 => exact HC0.out)
                       rintro e w50 ⟨rfl, hb⟩
                       refine ⟨_, rfl, ?_⟩
                       have n0_ := aM (blk_below (g := gb223) (o := .cells #[.int .i64 ((rd_impl_Peg l0 x19_2).f0), .int .i64 ((rd_impl_Peg l0 x19_2).f1)] 34 (0, 0)) (gQ BK223) hb)
                       have n1_ := aM (pT (by repeat (first | (with_reducible first | exact HB.out | apply pA | apply pN | apply pD | refine pS ?_ GE223.out) | exact HB.out)) hb)
                       clear BK223
                       clear HB
                       have BK223 := n0_
                       have HB := n1_
                       clear n0_ n1_
                       (try clear hb)
                       (try clear hb2)
                       (try clear hk)
                       (try clear hi)
                       refine hK.out _ _ ⟨(kC BK223.out 0).trans rfl, (kC BK223.out 1).trans rfl, ((HB.out.cell (wB w _ hw234_0)).trans hw234_0), ((HB.out.cell (wB w _ hw234_1)).trans hw234_1), ((HB.out.cell (wB w _ hw235_0)).trans hw235_0), ((HB.out.cell (wB w _ hw235_1)).trans hw235_1)⟩ (fun hHeld => ?_)
                       clear hK K
                       refine norm_ (a' := ?_) ?_ ?_
                       rotate_left
                       ·show Act.put _ (some 73) _ = _
                        simp only [Act.put, sI, sZ, sS, i64_w, i32_w]
                        rfl
                       refine one_ (i := 14) (N := some 74) #[true, true, true, true, true, true, true, true, true, true, true, true, true, true, true] rfl rfl (one_of HT_.out kR) (by decide) (fun K hK => ?_)
                       refine goes_ Try.func139 kR rfl #[.agg #[.int .i64 ((rd_impl_Peg l0 x43_4).f0), .int .i64 ((rd_impl_Peg l0 x43_4).f1)], .agg #[.int .i64 ((rd_impl_Peg l0 (ji40)).f0), .int .i64 ((rd_impl_Peg l0 (ji40)).f1)], .agg #[.int .i64 ((rd_impl_Peg l0 x19_2).f0), .int .i64 ((rd_impl_Peg l0 x19_2).f1)], .agg #[.int .i64 t236, .int .i64 t237]] (by rfl) rfl rfl (by (try simp only [mA, mC, mN]); first | done | (simp only [hji40]; rfl) | rfl | (simp only [lD, lT]; rfl)) ?_
                       with_reducible refine (impl_meet.calls kj33 ((rd_impl_Peg l0 x43_4).f0) ((rd_impl_Peg l0 x43_4).f1) ((rd_impl_Peg l0 (ji40)).f0) ((rd_impl_Peg l0 (ji40)).f1) ((rd_impl_Peg l0 x19_2).f0) ((rd_impl_Peg l0 x19_2).f1) t236 t237 false _ A44.out).mono ?_
                       rintro e w51 ⟨rfl, hb⟩
                       refine ⟨_, rfl, ?_⟩
                       have n0_ := aM (blk_below (g := gb223) (o := .cells #[.int .i64 ((rd_impl_Peg l0 x19_2).f0), .int .i64 ((rd_impl_Peg l0 x19_2).f1)] 34 (0, 0)) (gQ BK223) hb)
                       have n1_ := aM (pT (by repeat (first | (with_reducible first | exact HB.out | apply pA | apply pN | apply pD | refine pS ?_ GE223.out) | exact HB.out)) hb)
                       clear BK223
                       clear HB
                       have BK223 := n0_
                       have HB := n1_
                       clear n0_ n1_
                       (try clear hb)
                       (try clear hb2)
                       (try clear hk)
                       (try clear hi)
                       refine hK.out _ _ ⟨(kC BK223.out 0).trans rfl, (kC BK223.out 1).trans rfl, ((HB.out.cell (wB w _ hw234_0)).trans hw234_0), ((HB.out.cell (wB w _ hw234_1)).trans hw234_1), ((HB.out.cell (wB w _ hw235_0)).trans hw235_0), ((HB.out.cell (wB w _ hw235_1)).trans hw235_1)⟩ (fun hHeld => ?_)
                       clear hK K
                       refine norm_ (a' := ?_) ?_ ?_
                       rotate_left
                       ·show Act.put _ (some 74) _ = _
                        simp only [Act.put, sI, sZ, sS, i64_w, i32_w]
                        rfl
                       refine done_ (done_of HT_.out kR) ?_
                       try go_wp2
                       go_roundg kj33
                       case measure => have := HJ1.out; have := HK2.out; have := HJ10.out; have := HK4.out; have := HJ33.out; omega
                       case rel => exact ⟨(ji40), (by first | rfl | (simp; done) | (simp only [← hji40] <;> (first | rfl | simp)) | (simp [*]; done)), H', ⟨by have := HJ1.out; have := HK2.out; have := HJ10.out; have := HK4.out; have := HJ33.out; omega⟩, ⟨by (with_reducible repeat (first | refine kN ?_ _ | refine kD ?_ | refine kA ?_ _)); exact BK223.out⟩, ⟨by repeat (first | (with_reducible first | exact HB.out | apply pA | apply pN | apply pD | refine pS ?_ GE223.out) | exact HB.out)⟩⟩
                     ·rw [if_neg c42] at H
                      exact absurd H (by simp)
                    ·rw [if_neg c41] at H
                     exact absurd H (by simp)
                   ·rw [if_neg c39] at H
                    exact absurd H (by simp)
                  ·rw [if_neg c38] at H
                   exact absurd H (by simp)
              ·rw [if_neg c33] at H
               have c33b0 : decide (x43_4 < x19_2) = false := decide_eq_false c33
               clear c33
               have H' := aM H
               clear H
               go_wp2
               go_roundg k4
               case measure => have := HJ1.out; have := HK2.out; have := HJ10.out; have := HK4.out; omega
               case rel => exact ⟨(wrap64 (x19_2 + 1)), eQ, H', ⟨by have := HJ1.out; have := HK2.out; have := HJ10.out; have := HK4.out; omega⟩, ⟨by repeat (first | (with_reducible first | exact HB.out | apply pA | apply pN | apply pD | refine pS ?_ GE223.out) | exact HB.out)⟩⟩
        ·rw [if_neg c10] at H
         exact absurd H (by simp)
       ·rw [if_neg c9] at H
        exact absurd H (by simp)
      ·rw [if_neg c8] at H
       have c8b0 : decide (x19_2 < (l0.length : Int)) = false := decide_eq_false c8
       clear c8
       obtain rfl := Option.some.inj H
       go_wp2
       go_ret
       exact ⟨by first | rfl | (simp [errW_none, errW_some] <;> rfl) | (simp [*, errW_none, errW_some] <;> rfl), bQ⟩

end Go.Proofs.Ytiacfkilmknldaa.X
