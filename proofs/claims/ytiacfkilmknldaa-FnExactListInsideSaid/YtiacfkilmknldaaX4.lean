-- thin
-- short
import Derived.Test.YtiacfkilmknldaaXA
import Derived.Test.YtiacfkilmknldaaX0
import Derived.Test.YtiacfkilmknldaaX1
import Derived.Test.YtiacfkilmknldaaX2
import Derived.Test.YtiacfkilmknldaaX3
namespace Go.Proofs.Ytiacfkilmknldaa.X
open Go.RowKit Go.Proofs.Ytiacfkilmknldaa.XW Go.Proofs.YtiacfkilmknldaaW.PrintWords Go.Proofs.YtiacfkilmknldaaW.PrintLast Go.Proofs.YtiacfkilmknldaaW.PrintMore
attribute [local go_sem] max2_int min2_int max_two min_two max_three min_three max_four min_four   -- for this text's walks alone
set_option linter.unusedVariables false
set_option linter.unusedSimpArgs false

attribute [local go_sem high] eqA34
mutual
def spec_pgGood.l0 : Nat → List (S_impl_Peg) → Int → List (S_impl_Peg) → Int → Int → Option (Bool)
 | 0, _, _, _, _, _ => none
 | k + 1, x0, x3, x17, x18, x19 => if x19 < x18 then (if 0 ≤ x19 then (if x19 < (x17.length : Int) then ((spec_pgIs.f ((rd_impl_Peg x17 x19).f0) ((rd_impl_Peg x17 x19).f1)).bind fun t130 => (if t130 = true then (if x19 ≤ (x0.length : Int) then ((some (x0.take (x19 : Int).toNat : List (S_impl_Peg))).bind fun y131 => (spec_pgGood.l1 k x0 x3 x17 x18 x19 y131 (y131.length : Int) 0 ((rd_impl_Peg x17 x19).f0) ((rd_impl_Peg x17 x19).f1))) else (none)) else (some false))) else (none)) else (none)) else (spec_pgGood.l2 k x0 x3 x0 (x0.length : Int) 0)
def spec_pgGood.l1 : Nat → List (S_impl_Peg) → Int → List (S_impl_Peg) → Int → Int → List (S_impl_Peg) → Int → Int → Int → Int → Option (Bool)
 | 0, _, _, _, _, _, _, _, _, _, _ => none
 | k + 1, x0, x3, x17, x18, x19, x29, x30, x31, x130000, x130001 => if x31 < x30 then (if 0 ≤ x31 then (if x31 < (x29.length : Int) then (if (x130000 == ((rd_impl_Peg x29 x31).f0) && (x130001 == ((rd_impl_Peg x29 x31).f1))) = true then (some false) else (spec_pgGood.l1 k x0 x3 x17 x18 x19 x29 x30 (wrap64 (x31 + 1)) x130000 x130001)) else (none)) else (none)) else (spec_pgGood.l0 k x0 x3 x17 x18 (wrap64 (x19 + 1)))
def spec_pgGood.l2 : Nat → List (S_impl_Peg) → Int → List (S_impl_Peg) → Int → Int → Option (Bool)
 | 0, _, _, _, _, _ => none
 | k + 1, x0, x3, x40, x41, x42 => if x42 < x41 then (if 0 ≤ x42 then (if x42 < (x40.length : Int) then (if x3 = 0 then (none) else (if 0 ≤ (Int.tmod (wrap64 (x42 + 1)) x3) then (if (Int.tmod (wrap64 (x42 + 1)) x3) < (x0.length : Int) then (if 0 ≤ (Int.tmod (wrap64 (x42 + 2)) x3) then (if (Int.tmod (wrap64 (x42 + 2)) x3) < (x0.length : Int) then ((spec_pgTurn.f ((rd_impl_Peg x40 x42).f0) ((rd_impl_Peg x40 x42).f1) ((rd_impl_Peg x0 (Int.tmod (wrap64 (x42 + 1)) x3)).f0) ((rd_impl_Peg x0 (Int.tmod (wrap64 (x42 + 1)) x3)).f1) ((rd_impl_Peg x0 (Int.tmod (wrap64 (x42 + 2)) x3)).f0) ((rd_impl_Peg x0 (Int.tmod (wrap64 (x42 + 2)) x3)).f1)).bind fun t142 => (if t142 = 0 then (some false) else (spec_pgGood.l3 k x0 x3 x42 (wrap64 (x42 + 2)) x40 x41 x42 ((rd_impl_Peg x40 x42).f0) ((rd_impl_Peg x40 x42).f1) ((rd_impl_Peg x0 (Int.tmod (wrap64 (x42 + 1)) x3)).f0) ((rd_impl_Peg x0 (Int.tmod (wrap64 (x42 + 1)) x3)).f1)))) else (none)) else (none)) else (none)) else (none))) else (none)) else (none)) else (some true)
def spec_pgGood.l3 : Nat → List (S_impl_Peg) → Int → Int → Int → List (S_impl_Peg) → Int → Int → Int → Int → Int → Int → Option (Bool)
 | 0, _, _, _, _, _, _, _, _, _, _, _ => none
 | k + 1, x0, x3, x8, x11, x40, x41, x42, x139000, x139001, x141000, x141001 => if x11 < x3 then (spec_pgGood.j4 k x0 x3 x8 x11 x40 x41 x42 (decide ((wrap64 (x11 - x8)) < (wrap64 (x3 - 1)))) x139000 x139001 x141000 x141001) else (spec_pgGood.j4 k x0 x3 x8 x11 x40 x41 x42 false x139000 x139001 x141000 x141001)
def spec_pgGood.j4 : Nat → List (S_impl_Peg) → Int → Int → Int → List (S_impl_Peg) → Int → Int → Bool → Int → Int → Int → Int → Option (Bool)
 | 0, _, _, _, _, _, _, _, _, _, _, _, _ => none
 | k + 1, x0, x3, x8, x11, x40, x41, x42, x77, x139000, x139001, x141000, x141001 => if x77 = true then (if 0 ≤ x11 then (if x11 < (x0.length : Int) then (if x3 = 0 then (none) else (if 0 ≤ (Int.tmod (wrap64 (x11 + 1)) x3) then (if (Int.tmod (wrap64 (x11 + 1)) x3) < (x0.length : Int) then ((spec_pgMeet.f k x139000 x139001 x141000 x141001 ((rd_impl_Peg x0 x11).f0) ((rd_impl_Peg x0 x11).f1) ((rd_impl_Peg x0 (Int.tmod (wrap64 (x11 + 1)) x3)).f0) ((rd_impl_Peg x0 (Int.tmod (wrap64 (x11 + 1)) x3)).f1)).bind fun t145 => (if t145 = true then (some false) else (spec_pgGood.l3 k x0 x3 x8 (wrap64 (x11 + 1)) x40 x41 x42 x139000 x139001 x141000 x141001))) else (none)) else (none))) else (none)) else (none)) else (spec_pgGood.l2 k x0 x3 x40 x41 (wrap64 (x42 + 1)))
end
def spec_pgGood.f (k : Nat) (l0 : List (S_impl_Peg)) : Option (Bool) := (spec_l1In.f (l0.length : Int) 3 10).bind fun t127 => (if t127 = true then (spec_pgGood.l0 k l0 (l0.length : Int) l0 (l0.length : Int) 0) else (some false))
theorem spec_pgGood.mono_l : ∀ k, (∀ y0 y1 y2 y3 y4, LeO (spec_pgGood.l0 k y0 y1 y2 y3 y4) (spec_pgGood.l0 (k + 1) y0 y1 y2 y3 y4)) ∧ (∀ y0 y1 y2 y3 y4 y5 y6 y7 y8 y9, LeO (spec_pgGood.l1 k y0 y1 y2 y3 y4 y5 y6 y7 y8 y9) (spec_pgGood.l1 (k + 1) y0 y1 y2 y3 y4 y5 y6 y7 y8 y9)) ∧ (∀ y0 y1 y2 y3 y4, LeO (spec_pgGood.l2 k y0 y1 y2 y3 y4) (spec_pgGood.l2 (k + 1) y0 y1 y2 y3 y4)) ∧ (∀ y0 y1 y2 y3 y4 y5 y6 y7 y8 y9 y10, LeO (spec_pgGood.l3 k y0 y1 y2 y3 y4 y5 y6 y7 y8 y9 y10) (spec_pgGood.l3 (k + 1) y0 y1 y2 y3 y4 y5 y6 y7 y8 y9 y10)) ∧ (∀ y0 y1 y2 y3 y4 y5 y6 y7 y8 y9 y10 y11, LeO (spec_pgGood.j4 k y0 y1 y2 y3 y4 y5 y6 y7 y8 y9 y10 y11) (spec_pgGood.j4 (k + 1) y0 y1 y2 y3 y4 y5 y6 y7 y8 y9 y10 y11))
 | 0 => ⟨fun _ _ _ _ _ r h => by simp [spec_pgGood.l0] at h, fun _ _ _ _ _ _ _ _ _ _ r h => by simp [spec_pgGood.l1] at h, fun _ _ _ _ _ r h => by simp [spec_pgGood.l2] at h, fun _ _ _ _ _ _ _ _ _ _ _ r h => by simp [spec_pgGood.l3] at h, fun _ _ _ _ _ _ _ _ _ _ _ _ r h => by simp [spec_pgGood.j4] at h⟩
 | k + 1 => by
  obtain ⟨ih0, ih1, ih2, ih3, ih4⟩ := spec_pgGood.mono_l k
  refine ⟨?_, ?_, ?_, ?_, ?_⟩
  ·intro y0 y1 y2 y3 y4
   unfold spec_pgGood.l0
   repeat' first
   | (with_reducible exact ih0 _ _ _ _ _)
   | (with_reducible exact ih1 _ _ _ _ _ _ _ _ _ _)
   | (with_reducible exact ih2 _ _ _ _ _)
   | (with_reducible exact ih3 _ _ _ _ _ _ _ _ _ _ _)
   | (with_reducible exact ih4 _ _ _ _ _ _ _ _ _ _ _ _)
   | (with_reducible exact spec_pgMeet.mono _ _ _ _ _ _ _ _ _)
   | (with_reducible exact LeO.refl _)
   | (with_reducible exact LeO.none _)
   | (with_reducible refine LeO.ite ?_ ?_)
   | (with_reducible refine LeO.bind ?_ (fun _ => ?_))
   | exact ih0 _ _ _ _ _
   | exact ih1 _ _ _ _ _ _ _ _ _ _
   | exact ih2 _ _ _ _ _
   | exact ih3 _ _ _ _ _ _ _ _ _ _ _
   | exact ih4 _ _ _ _ _ _ _ _ _ _ _ _
   | exact spec_pgMeet.mono _ _ _ _ _ _ _ _ _
   | exact LeO.none _
   | refine LeO.ite ?_ ?_
   | refine LeO.bind ?_ (fun _ => ?_)
  ·intro y0 y1 y2 y3 y4 y5 y6 y7 y8 y9
   unfold spec_pgGood.l1
   repeat' first
   | (with_reducible exact ih0 _ _ _ _ _)
   | (with_reducible exact ih1 _ _ _ _ _ _ _ _ _ _)
   | (with_reducible exact ih2 _ _ _ _ _)
   | (with_reducible exact ih3 _ _ _ _ _ _ _ _ _ _ _)
   | (with_reducible exact ih4 _ _ _ _ _ _ _ _ _ _ _ _)
   | (with_reducible exact spec_pgMeet.mono _ _ _ _ _ _ _ _ _)
   | (with_reducible exact LeO.refl _)
   | (with_reducible exact LeO.none _)
   | (with_reducible refine LeO.ite ?_ ?_)
   | (with_reducible refine LeO.bind ?_ (fun _ => ?_))
   | exact ih0 _ _ _ _ _
   | exact ih1 _ _ _ _ _ _ _ _ _ _
   | exact ih2 _ _ _ _ _
   | exact ih3 _ _ _ _ _ _ _ _ _ _ _
   | exact ih4 _ _ _ _ _ _ _ _ _ _ _ _
   | exact spec_pgMeet.mono _ _ _ _ _ _ _ _ _
   | exact LeO.none _
   | refine LeO.ite ?_ ?_
   | refine LeO.bind ?_ (fun _ => ?_)
  ·intro y0 y1 y2 y3 y4
   unfold spec_pgGood.l2
   repeat' first
   | (with_reducible exact ih0 _ _ _ _ _)
   | (with_reducible exact ih1 _ _ _ _ _ _ _ _ _ _)
   | (with_reducible exact ih2 _ _ _ _ _)
   | (with_reducible exact ih3 _ _ _ _ _ _ _ _ _ _ _)
   | (with_reducible exact ih4 _ _ _ _ _ _ _ _ _ _ _ _)
   | (with_reducible exact spec_pgMeet.mono _ _ _ _ _ _ _ _ _)
   | (with_reducible exact LeO.refl _)
   | (with_reducible exact LeO.none _)
   | (with_reducible refine LeO.ite ?_ ?_)
   | (with_reducible refine LeO.bind ?_ (fun _ => ?_))
   | exact ih0 _ _ _ _ _
   | exact ih1 _ _ _ _ _ _ _ _ _ _
   | exact ih2 _ _ _ _ _
   | exact ih3 _ _ _ _ _ _ _ _ _ _ _
   | exact ih4 _ _ _ _ _ _ _ _ _ _ _ _
   | exact spec_pgMeet.mono _ _ _ _ _ _ _ _ _
   | exact LeO.none _
   | refine LeO.ite ?_ ?_
   | refine LeO.bind ?_ (fun _ => ?_)
  ·intro y0 y1 y2 y3 y4 y5 y6 y7 y8 y9 y10
   unfold spec_pgGood.l3
   repeat' first
   | (with_reducible exact ih0 _ _ _ _ _)
   | (with_reducible exact ih1 _ _ _ _ _ _ _ _ _ _)
   | (with_reducible exact ih2 _ _ _ _ _)
   | (with_reducible exact ih3 _ _ _ _ _ _ _ _ _ _ _)
   | (with_reducible exact ih4 _ _ _ _ _ _ _ _ _ _ _ _)
   | (with_reducible exact spec_pgMeet.mono _ _ _ _ _ _ _ _ _)
   | (with_reducible exact LeO.refl _)
   | (with_reducible exact LeO.none _)
   | (with_reducible refine LeO.ite ?_ ?_)
   | (with_reducible refine LeO.bind ?_ (fun _ => ?_))
   | exact ih0 _ _ _ _ _
   | exact ih1 _ _ _ _ _ _ _ _ _ _
   | exact ih2 _ _ _ _ _
   | exact ih3 _ _ _ _ _ _ _ _ _ _ _
   | exact ih4 _ _ _ _ _ _ _ _ _ _ _ _
   | exact spec_pgMeet.mono _ _ _ _ _ _ _ _ _
   | exact LeO.none _
   | refine LeO.ite ?_ ?_
   | refine LeO.bind ?_ (fun _ => ?_)
  ·intro y0 y1 y2 y3 y4 y5 y6 y7 y8 y9 y10 y11
   unfold spec_pgGood.j4
   repeat' first
   | (with_reducible exact ih0 _ _ _ _ _)
   | (with_reducible exact ih1 _ _ _ _ _ _ _ _ _ _)
   | (with_reducible exact ih2 _ _ _ _ _)
   | (with_reducible exact ih3 _ _ _ _ _ _ _ _ _ _ _)
   | (with_reducible exact ih4 _ _ _ _ _ _ _ _ _ _ _ _)
   | (with_reducible exact spec_pgMeet.mono _ _ _ _ _ _ _ _ _)
   | (with_reducible exact LeO.refl _)
   | (with_reducible exact LeO.none _)
   | (with_reducible refine LeO.ite ?_ ?_)
   | (with_reducible refine LeO.bind ?_ (fun _ => ?_))
   | exact ih0 _ _ _ _ _
   | exact ih1 _ _ _ _ _ _ _ _ _ _
   | exact ih2 _ _ _ _ _
   | exact ih3 _ _ _ _ _ _ _ _ _ _ _
   | exact ih4 _ _ _ _ _ _ _ _ _ _ _ _
   | exact spec_pgMeet.mono _ _ _ _ _ _ _ _ _
   | exact LeO.none _
   | refine LeO.ite ?_ ?_
   | refine LeO.bind ?_ (fun _ => ?_)
theorem spec_pgGood.mono : ∀ a0 k, LeO (spec_pgGood.f k a0) (spec_pgGood.f (k + 1) a0) := by
 intro a0 k
 obtain ⟨ih0, ih1, ih2, ih3, ih4⟩ := spec_pgGood.mono_l k
 unfold spec_pgGood.f
 repeat' first
   | (with_reducible exact ih0 _ _ _ _ _)
   | (with_reducible exact ih1 _ _ _ _ _ _ _ _ _ _)
   | (with_reducible exact ih2 _ _ _ _ _)
   | (with_reducible exact ih3 _ _ _ _ _ _ _ _ _ _ _)
   | (with_reducible exact ih4 _ _ _ _ _ _ _ _ _ _ _ _)
   | (with_reducible exact spec_pgMeet.mono _ _ _ _ _ _ _ _ _)
   | (with_reducible exact LeO.refl _)
   | (with_reducible exact LeO.none _)
   | (with_reducible refine LeO.ite ?_ ?_)
   | (with_reducible refine LeO.bind ?_ (fun _ => ?_))
   | exact ih0 _ _ _ _ _
   | exact ih1 _ _ _ _ _ _ _ _ _ _
   | exact ih2 _ _ _ _ _
   | exact ih3 _ _ _ _ _ _ _ _ _ _ _
   | exact ih4 _ _ _ _ _ _ _ _ _ _ _ _
   | exact spec_pgMeet.mono _ _ _ _ _ _ _ _ _
   | exact LeO.none _
   | refine LeO.ite ?_ ?_
   | refine LeO.bind ?_ (fun _ => ?_)
def spec_pgGood.T20 : Bool × List (List Nat × List Nat) := (true, [([], []), ([], []), ([], []), ([], []), ([3], [3]), ([], []), ([4, 5], [4, 5]), ([2, 6], [2, 6]), ([7], [7]), ([0, 1, 8], [0, 1, 8]), ([9], [9])])
def spec_pgGood.B20 : List Nat := [0, 0, 0, 0, 8, 0, 56, 124, 252, 511, 1023]
theorem spec_pgGood.tab20 : rtab .any (opsOf Try.f83 20) = spec_pgGood.T20 := by kernel_rfl
theorem spec_pgGood.bits20 : waitsOk spec_pgGood.T20.2 spec_pgGood.B20 = true := by kernel_rfl
def spec_pgGood.T25 : Bool × List (List Nat × List Nat) := (true, [([], []), ([], []), ([], []), ([], []), ([2, 3], [2, 3]), ([4], [4]), ([], []), ([], []), ([7], [7]), ([], []), ([8, 9], [8, 9]), ([6, 10], [6, 10]), ([11], [11]), ([0, 1, 5, 12], [0, 1, 5, 12])])
def spec_pgGood.B25 : List Nat := [0, 0, 0, 0, 12, 28, 0, 0, 128, 0, 896, 1984, 4032, 8191]
theorem spec_pgGood.tab25 : rtab .any (opsOf Try.f83 25) = spec_pgGood.T25 := by kernel_rfl
theorem spec_pgGood.bits25 : waitsOk spec_pgGood.T25.2 spec_pgGood.B25 = true := by kernel_rfl
set_option maxHeartbeats 8000000 in
set_option maxRecDepth 100000 in
theorem spec_pgGood.calls (k : Nat) (A0 : Option Addr) (c0 : Nat) (l0 : List (S_impl_Peg)) (r : Bool) (w : World) (hr0 : Kd.C kd_impl_Peg w A0 l0.length l0) (hc0 : l0.length ≤ c0) (h : spec_pgGood.f k l0 = some r) :
  Calls Try.prog 83 #[.slice A0 l0.length c0] w fun e w' => e = .returned (.bool r) ∧ Below w.heap.size w w' := by
 have hu34 := Try.underlying34
 have HR0 := aM hr0
 have HC0 := aM hc0
 clear hr0 hc0
 have HB := aM (Below.refl w.heap.size w)
 have H : ((spec_l1In.f (l0.length : Int) 3 10).bind fun t127 => (if t127 = true then (spec_pgGood.l0 k l0 (l0.length : Int) l0 (l0.length : Int) 0) else (some false))) = some r := h
 clear h
 replace H := oB.mp H
 obtain ⟨t127, A20, H⟩ := H
 replace H : (if t127 = true then (spec_pgGood.l0 k l0 (l0.length : Int) l0 (l0.length : Int) 0) else (some false)) = some r := H
 have A2 := aM A20
 clear A20
 by_cases c3 : t127 = true
 ·subst c3
  have H1 : (spec_pgGood.l0 k l0 (l0.length : Int) l0 (l0.length : Int) 0) = some r := by rw [if_pos rfl] at H; exact H
  clear H
  have H := H1
  clear H1
  have H' := aM H
  clear H
  go_enter Try.func83, Try.ntmps83
  go_wp2_with (first | ((with_reducible refine gC (f := 107) rfl ?_); refine goesL_ (some 15) rfl rfl Try.func107 kR rfl #[.int .i64 (l0.length : Int), .int .i64 3, .int .i64 10] rfl sQ ?_; (with_reducible refine (spec_l1In.calls (l0.length : Int) 3 10 true _ A2.out).mono ?_); rintro e w' ⟨rfl, ⟨nd, rfl⟩⟩; refine ⟨_, rfl, ?_⟩))
  go_loopg [19] k (fun kq v19 w' => ∃ (x19_1 : Int), v19 = .int .i64 x19_1 ∧ Aside0 (spec_pgGood.l0 kq l0 (l0.length : Int) l0 (l0.length : Int) x19_1 = some r) ∧ Aside0 (kq ≤ k) ∧ Aside0 (Below w.heap.size w w'))
  case atStart => exact ⟨(0), eQ, H', ⟨Nat.le_refl _⟩, ⟨bQ⟩⟩
  case round =>
   clear H'
   try clear c1
   try clear p2
   try clear c3
   obtain ⟨x19_1, rfl, HA, HK1, HB⟩ := hrel
   cases gk with
   | zero => exact absurd HA.out (by simp [spec_pgGood.l0])
   | succ k1 =>
    have H := HA.out
    clear HA
    simp only [spec_pgGood.l0] at H
    by_cases c4 : x19_1 < (l0.length : Int)
    ·rw [if_pos c4] at H
     have c4b0 : decide (x19_1 < (l0.length : Int)) = true := dE c4
     clear c4
     by_cases c5 : 0 ≤ x19_1
     ·rw [if_pos c5] at H
      have c5b0 : decide (0 ≤ x19_1) = true := dE c5
      clear c5
      by_cases c6 : x19_1 < (l0.length : Int)
      ·rw [if_pos c6] at H
       have c6b0 : decide (x19_1 < (l0.length : Int)) = true := dE c6
       clear c6
       replace H := oB.mp H
       obtain ⟨t130, A70, H⟩ := H
       replace H : (if t130 = true then (if x19_1 ≤ (l0.length : Int) then ((some (l0.take (x19_1 : Int).toNat : List (S_impl_Peg))).bind fun y131 => (spec_pgGood.l1 k1 l0 (l0.length : Int) l0 (l0.length : Int) x19_1 y131 (y131.length : Int) 0 ((rd_impl_Peg l0 x19_1).f0) ((rd_impl_Peg l0 x19_1).f1))) else (none)) else (some false)) = some r := H
       have A7 := aM A70
       clear A70
       by_cases c8 : t130 = true
       ·subst c8
        have H1 : (if x19_1 ≤ (l0.length : Int) then ((some (l0.take (x19_1 : Int).toNat : List (S_impl_Peg))).bind fun y131 => (spec_pgGood.l1 k1 l0 (l0.length : Int) l0 (l0.length : Int) x19_1 y131 (y131.length : Int) 0 ((rd_impl_Peg l0 x19_1).f0) ((rd_impl_Peg l0 x19_1).f1))) else (none)) = some r := by rw [if_pos rfl] at H; exact H
        clear H
        have H := H1
        clear H1
        have c9b0 := eq_true (dT aQ : 0 ≤ x19_1)
        by_cases c10 : x19_1 ≤ (l0.length : Int)
        ·rw [if_pos c10] at H
         have c10b0 := eq_true c10
         have c10b1 : decide (x19_1 ≤ (l0.length : Int)) = true := dE c10
         clear c10
         obtain ⟨y131, hy131⟩ : ∃ y_ : List (S_impl_Peg), y_ = (l0.take (x19_1 : Int).toNat) := ⟨_, rfl⟩
         replace H : (spec_pgGood.l1 k1 l0 (l0.length : Int) l0 (l0.length : Int) x19_1 y131 (y131.length : Int) 0 ((rd_impl_Peg l0 x19_1).f0) ((rd_impl_Peg l0 x19_1).f1)) = some r := by first | (rw [hy131]; with_reducible exact H) | (have H2_ := (Option.bind_some _ _).symm.trans H; rw [hy131]; with_reducible exact H2_) | (have H2_ := (Option.bind_some _ _).symm.trans H; with_reducible exact H2_) | with_reducible exact H | (rw [hy131]; exact H) | exact H
         have Ny131 := aM hy131
         clear hy131
         have H' := aM H
         clear H
         have p128 : 0 ≤ (x19_1 : Int) := dT aQ
         have q128 : x19_1 < (l0.length : Int) := dT aQ
         obtain ⟨ad128, e128, hx128_0, hx128_1⟩ := at_impl_Peg HR0.out x19_1 p128 q128
         cases e128
         replace hx128_0 := (HB.out.cell (wB w _ hx128_0)).trans hx128_0
         replace hx128_1 := (HB.out.cell (wB w _ hx128_1)).trans hx128_1
         replace p128 := eq_true p128
         replace q128 := eq_true q128
         go_wp2_with (first | ((with_reducible refine gate_dst (N := 5) rfl ?_); refine box_event ?hg (N := 5) ?hd (cs := #[.int .i64 0, .int .i64 0]) (t := 34) ?hr ?_; (case hd => rfl); (case hg => rfl); (case hr => first | (go_simp; done) | (go_simp; rfl)); intro gb129 hg w11 hbox hb; have n0_ := aM (pT bQ hb); have n1_ := aM (hbox); have n2_ := aM ((by rw [hg]; exact (pZ bQ) : w.heap.size ≤ gb129)); have n3_ := aM ((by rw [hg]; exact (pZ bQ) : w.heap.size ≤ gb129)); clear HB; have HB := n0_; have BK129 := n1_; have GW129 := n2_; have GE129 := n3_; clear n0_ n1_ n2_ n3_; clear hb hbox hg; have hcz12_0 : w11.cell? ⟨gb129, 0, none⟩ = some (.int .i64 0) := (kC BK129.out 0).trans rfl; have hcz12_1 : w11.cell? ⟨gb129, 1, none⟩ = some (.int .i64 0) := (kC BK129.out 1).trans rfl; have hfz12_0 := kF BK129.out 0; have hfz12_1 := kF BK129.out 1) | ((with_reducible refine gC (f := 87) rfl ?_); refine goesL_ (some 25) rfl rfl Try.func87 kR rfl #[.agg #[.int .i64 ((rd_impl_Peg l0 x19_1).f0), .int .i64 ((rd_impl_Peg l0 x19_1).f1)]] rfl sQ ?_; (with_reducible refine (spec_pgIs.calls ((rd_impl_Peg l0 x19_1).f0) ((rd_impl_Peg l0 x19_1).f1) true _ A7.out).mono ?_); rintro e w13 ⟨rfl, hb⟩; refine ⟨_, rfl, ?_⟩; have n0_ := aM (blk_below (g := gb129) (o := .cells #[.int .i64 ((rd_impl_Peg l0 x19_1).f0), .int .i64 ((rd_impl_Peg l0 x19_1).f1)] 34 (0, 0)) (by (with_reducible repeat (first | refine kN ?_ _ | refine kD ?_ | refine kA ?_ _)); refine blk_put (cs := #[.int .i64 ((rd_impl_Peg l0 x19_1).f0), .int .i64 0]) ?_ 1 _ rfl; (with_reducible repeat (first | refine kN ?_ _ | refine kD ?_ | refine kA ?_ _)); refine blk_put (cs := #[.int .i64 0, .int .i64 0]) ?_ 0 _ rfl; (with_reducible repeat (first | refine kN ?_ _ | refine kD ?_ | refine kA ?_ _)); exact BK129.out) hb); have n1_ := aM (pT (by repeat (first | (with_reducible first | exact HB.out | apply pA | apply pN | apply pD | refine pS ?_ GE129.out) | exact HB.out)) hb); clear BK129; clear HB; have BK129 := n0_; have HB := n1_; clear n0_ n1_; (try clear hb); (try clear hb2); (try clear hk); (try clear hi); have q14 : (x19_1 : Int) ≤ ((l0.length : Int) : Int) := dT aQ; obtain ⟨i014, hi014, _, hsz14, _⟩ := info_parts info34; have hroom14 : l0.length ≤ c0 := HC0.out; have hC14 : Kd.C kd_impl_Peg _ (some ad128) l0.length l0 := HR0.out; have hcut14 := cut_to (P := Try.prog) 26 34 .i64 Try.underlying26 hi014 (some ad128) l0.length c0 x19_1 (dT aQ) q14 hroom14; have hr14 := Kd.C_take (m := (x19_1 : Int).toNat) hC14 (by omega); have hy14 : y131.length = (x19_1 : Int).toNat := (by rw [Ny131.out, lT]; omega); rw [← Ny131.out] at hr14; rw [← hy14] at hcut14; have HR134 := aM hr14; have HC134 := aM (show y131.length ≤ c0 from by omega); clear hr14 hC14 hroom14 hi014 hsz14; have KY14 := aM hy14; clear hy14; replace q14 := eq_true q14))
         go_loopg [31] k1 (fun kq v31 w' => ∃ (x31_2 : Int), v31 = .int .i64 x31_2 ∧ Aside0 (spec_pgGood.l1 kq l0 (l0.length : Int) l0 (l0.length : Int) x19_1 y131 (y131.length : Int) x31_2 ((rd_impl_Peg l0 x19_1).f0) ((rd_impl_Peg l0 x19_1).f1) = some r) ∧ Aside0 (kq ≤ k1) ∧ Aside0 (w'.heap[gb129]? = some (.cells #[.int .i64 ((rd_impl_Peg l0 x19_1).f0), .int .i64 ((rd_impl_Peg l0 x19_1).f1)] 34 (0, 0))) ∧ Aside0 (Below w.heap.size w w'))
         case atStart => exact ⟨(0), eQ, H', ⟨Nat.le_refl _⟩, ⟨by (with_reducible repeat (first | refine kN ?_ _ | refine kD ?_ | refine kA ?_ _)); exact BK129.out⟩, ⟨by repeat (first | (with_reducible first | exact HB.out | apply pA | apply pN | apply pD | refine pS ?_ GE129.out) | exact HB.out)⟩⟩
         case round =>
          clear H'
          try clear c1
          try clear p1
          try clear q1
          try clear hx1
          try clear p2
          try clear c3
          try clear c4
          try clear c4b0
          try clear c5
          try clear c5b0
          try clear c6
          try clear c6b0
          try clear c8
          try clear c9
          try clear c9b0
          try clear c10
          try clear c10b0
          try clear c10b1
          try clear p12
          try clear q12
          try clear hx12
          try clear q14
          try clear hcz12_0
          try clear hcz12_1
          try clear hfz12_0
          try clear hfz12_1
          try clear hx128_0
          try clear hx128_1
          try clear p128
          try clear p2
          try clear q128
          try clear q14
          obtain ⟨x31_2, rfl, HA, HK2, BK129, HB⟩ := hrel
          cases gk with
          | zero => exact absurd HA.out (by simp [spec_pgGood.l1])
          | succ k2 =>
           have H := HA.out
           clear HA
           simp only [spec_pgGood.l1] at H
           by_cases c15 : x31_2 < (y131.length : Int)
           ·rw [if_pos c15] at H
            have c15b0 : decide (x31_2 < (y131.length : Int)) = true := dE c15
            clear c15
            by_cases c16 : 0 ≤ x31_2
            ·rw [if_pos c16] at H
             have c16b0 : decide (0 ≤ x31_2) = true := dE c16
             clear c16
             by_cases c17 : x31_2 < (y131.length : Int)
             ·rw [if_pos c17] at H
              have c17b0 : decide (x31_2 < (y131.length : Int)) = true := dE c17
              clear c17
              by_cases c18 : (((rd_impl_Peg l0 x19_1).f0) == ((rd_impl_Peg y131 x31_2).f0) && (((rd_impl_Peg l0 x19_1).f1) == ((rd_impl_Peg y131 x31_2).f1))) = true
              ·rw [if_pos c18] at H
               have c18b0 : (((rd_impl_Peg l0 x19_1).f0) == ((rd_impl_Peg y131 x31_2).f0) && (((rd_impl_Peg l0 x19_1).f1) == ((rd_impl_Peg y131 x31_2).f1))) = true := c18
               (try (have c18b1 : decide (((rd_impl_Peg l0 x19_1).f0) = ((rd_impl_Peg y131 x31_2).f0) && (((rd_impl_Peg l0 x19_1).f1) == ((rd_impl_Peg y131 x31_2).f1))) = true := by simpa using c18))
               (try (have c18b2 : (((rd_impl_Peg l0 x19_1).f0) == ((rd_impl_Peg y131 x31_2).f0) && (((rd_impl_Peg l0 x19_1).f1) == ((rd_impl_Peg y131 x31_2).f1))) = true := by simpa using c18))
               clear c18
               obtain rfl := Option.some.inj H
               have p135 : 0 ≤ (x31_2 : Int) := dT aQ
               have q135 : x31_2 < (y131.length : Int) := dT aQ
               obtain ⟨ad135, e135, hx135_0, hx135_1⟩ := at_impl_Peg HR134.out x31_2 p135 q135
               obtain rfl : ad128 = ad135 := (by injection e135)
               replace hx135_0 := (HB.out.cell (wB w _ hx135_0)).trans hx135_0
               replace hx135_1 := (HB.out.cell (wB w _ hx135_1)).trans hx135_1
               replace p135 := eq_true p135
               replace q135 := eq_true q135
               go_wp2_with (first | ((with_reducible refine gate_dst (N := 7) rfl ?_); refine box_event ?hg (N := 7) ?hd (cs := #[.int .i64 0, .int .i64 0]) (t := 34) ?hr ?_; (case hd => rfl); (case hg => rfl); (case hr => first | (go_simp; done) | (go_simp; rfl)); intro gb136 hg w19 hbox hb; have n0_ := aM (blk_below (g := gb129) (o := .cells #[.int .i64 ((rd_impl_Peg l0 x19_1).f0), .int .i64 ((rd_impl_Peg l0 x19_1).f1)] 34 (0, 0)) (gQ BK129) hb); have n1_ := aM (pT (by repeat (first | (with_reducible first | exact HB.out | apply pA | apply pN | apply pD | refine pS ?_ GE129.out) | exact HB.out)) hb); have n2_ := aM (hbox); have n3_ := aM ((by rw [hg]; exact (pZ (by repeat (first | (with_reducible first | exact HB.out | apply pA | apply pN | apply pD | refine pS ?_ GE129.out) | exact HB.out))) : w.heap.size ≤ gb136)); have n4_ := aM ((by rw [hg]; exact (pZ (by repeat (first | (with_reducible first | exact HB.out | apply pA | apply pN | apply pD | refine pS ?_ GE129.out) | exact HB.out))) : w.heap.size ≤ gb136)); have n5_ := aM ((by rw [hg]; exact nN (blk_lt (g := gb129) (o := .cells #[.int .i64 ((rd_impl_Peg l0 x19_1).f0), .int .i64 ((rd_impl_Peg l0 x19_1).f1)] 34 (0, 0)) (gQ BK129)) : gb129 ≠ gb136)); have n6_ := aM ((by rw [hg]; exact Nat.ne_of_gt (blk_lt (g := gb129) (o := .cells #[.int .i64 ((rd_impl_Peg l0 x19_1).f0), .int .i64 ((rd_impl_Peg l0 x19_1).f1)] 34 (0, 0)) (gQ BK129)) : gb136 ≠ gb129)); clear BK129; clear HB; have BK129 := n0_; have HB := n1_; have BK136 := n2_; have GW136 := n3_; have GE136 := n4_; have NB129_136 := n5_; have NB136_129 := n6_; clear n0_ n1_ n2_ n3_ n4_ n5_ n6_; clear hb hbox hg; have hnb20 := NB136_129.out; have hnc20 := NB129_136.out; have hcz21_0 : w19.cell? ⟨gb136, 0, none⟩ = some (.int .i64 0) := (kC BK136.out 0).trans rfl; have hcz21_1 : w19.cell? ⟨gb136, 1, none⟩ = some (.int .i64 0) := (kC BK136.out 1).trans rfl; have hfz21_0 := kF BK136.out 0; have hfz21_1 := kF BK136.out 1; have hcz22_0 : w19.cell? ⟨gb129, 0, none⟩ = some (.int .i64 ((rd_impl_Peg l0 x19_1).f0)) := (kC BK129.out 0).trans rfl; have hcz22_1 : w19.cell? ⟨gb129, 1, none⟩ = some (.int .i64 ((rd_impl_Peg l0 x19_1).f1)) := (kC BK129.out 1).trans rfl; have hfz22_0 := kF BK129.out 0; have hfz22_1 := kF BK129.out 1))
               go_ret
               exact ⟨by first | rfl | (simp [errW_none, errW_some] <;> rfl) | (simp [*, errW_none, errW_some] <;> rfl), by repeat (first | (with_reducible first | exact HB.out | apply pA | apply pN | apply pD | refine pS ?_ GE129.out | refine pS ?_ GE136.out) | exact HB.out)⟩
              ·rw [if_neg c18] at H
               have c18b0 : (((rd_impl_Peg l0 x19_1).f0) == ((rd_impl_Peg y131 x31_2).f0) && (((rd_impl_Peg l0 x19_1).f1) == ((rd_impl_Peg y131 x31_2).f1))) = false := by simpa using c18
               (try (have c18b1 : decide (((rd_impl_Peg l0 x19_1).f0) = ((rd_impl_Peg y131 x31_2).f0) && (((rd_impl_Peg l0 x19_1).f1) == ((rd_impl_Peg y131 x31_2).f1))) = false := by simpa using c18))
               (try (have c18b2 : (((rd_impl_Peg l0 x19_1).f0) == ((rd_impl_Peg y131 x31_2).f0) && (((rd_impl_Peg l0 x19_1).f1) == ((rd_impl_Peg y131 x31_2).f1))) = false := by simpa using c18))
               (try (have c18b3 : ¬ (((rd_impl_Peg l0 x19_1).f0) = ((rd_impl_Peg y131 x31_2).f0) && (((rd_impl_Peg l0 x19_1).f1) == ((rd_impl_Peg y131 x31_2).f1))) := by simpa using c18))
               clear c18
               have H' := aM H
               clear H
               have p135 : 0 ≤ (x31_2 : Int) := dT aQ
               have q135 : x31_2 < (y131.length : Int) := dT aQ
               obtain ⟨ad135, e135, hx135_0, hx135_1⟩ := at_impl_Peg HR134.out x31_2 p135 q135
               obtain rfl : ad128 = ad135 := (by injection e135)
               replace hx135_0 := (HB.out.cell (wB w _ hx135_0)).trans hx135_0
               replace hx135_1 := (HB.out.cell (wB w _ hx135_1)).trans hx135_1
               replace p135 := eq_true p135
               replace q135 := eq_true q135
               go_wp2_with (first | ((with_reducible refine gate_dst (N := 7) rfl ?_); refine box_event ?hg (N := 7) ?hd (cs := #[.int .i64 0, .int .i64 0]) (t := 34) ?hr ?_; (case hd => rfl); (case hg => rfl); (case hr => first | (go_simp; done) | (go_simp; rfl)); intro gb136 hg w23 hbox hb; have n0_ := aM (blk_below (g := gb129) (o := .cells #[.int .i64 ((rd_impl_Peg l0 x19_1).f0), .int .i64 ((rd_impl_Peg l0 x19_1).f1)] 34 (0, 0)) (gQ BK129) hb); have n1_ := aM (pT (by repeat (first | (with_reducible first | exact HB.out | apply pA | apply pN | apply pD | refine pS ?_ GE129.out) | exact HB.out)) hb); have n2_ := aM (hbox); have n3_ := aM ((by rw [hg]; exact (pZ (by repeat (first | (with_reducible first | exact HB.out | apply pA | apply pN | apply pD | refine pS ?_ GE129.out) | exact HB.out))) : w.heap.size ≤ gb136)); have n4_ := aM ((by rw [hg]; exact (pZ (by repeat (first | (with_reducible first | exact HB.out | apply pA | apply pN | apply pD | refine pS ?_ GE129.out) | exact HB.out))) : w.heap.size ≤ gb136)); have n5_ := aM ((by rw [hg]; exact nN (blk_lt (g := gb129) (o := .cells #[.int .i64 ((rd_impl_Peg l0 x19_1).f0), .int .i64 ((rd_impl_Peg l0 x19_1).f1)] 34 (0, 0)) (gQ BK129)) : gb129 ≠ gb136)); have n6_ := aM ((by rw [hg]; exact Nat.ne_of_gt (blk_lt (g := gb129) (o := .cells #[.int .i64 ((rd_impl_Peg l0 x19_1).f0), .int .i64 ((rd_impl_Peg l0 x19_1).f1)] 34 (0, 0)) (gQ BK129)) : gb136 ≠ gb129)); clear BK129; clear HB; have BK129 := n0_; have HB := n1_; have BK136 := n2_; have GW136 := n3_; have GE136 := n4_; have NB129_136 := n5_; have NB136_129 := n6_; clear n0_ n1_ n2_ n3_ n4_ n5_ n6_; clear hb hbox hg; have hnb24 := NB136_129.out; have hnc24 := NB129_136.out; have hcz25_0 : w23.cell? ⟨gb136, 0, none⟩ = some (.int .i64 0) := (kC BK136.out 0).trans rfl; have hcz25_1 : w23.cell? ⟨gb136, 1, none⟩ = some (.int .i64 0) := (kC BK136.out 1).trans rfl; have hfz25_0 := kF BK136.out 0; have hfz25_1 := kF BK136.out 1; have hcz26_0 : w23.cell? ⟨gb129, 0, none⟩ = some (.int .i64 ((rd_impl_Peg l0 x19_1).f0)) := (kC BK129.out 0).trans rfl; have hcz26_1 : w23.cell? ⟨gb129, 1, none⟩ = some (.int .i64 ((rd_impl_Peg l0 x19_1).f1)) := (kC BK129.out 1).trans rfl; have hfz26_0 := kF BK129.out 0; have hfz26_1 := kF BK129.out 1))
               go_roundg k2
               case measure => have := HK1.out; have := HK2.out; omega
               case rel => exact ⟨(wrap64 (x31_2 + 1)), eQ, H', ⟨by have := HK1.out; have := HK2.out; omega⟩, ⟨by (with_reducible repeat (first | refine kN ?_ _ | refine kD ?_ | refine kA ?_ _)); refine blk_far ?_ NB129_136.out _; (with_reducible repeat (first | refine kN ?_ _ | refine kD ?_ | refine kA ?_ _)); refine blk_far ?_ NB129_136.out _; (with_reducible repeat (first | refine kN ?_ _ | refine kD ?_ | refine kA ?_ _)); exact BK129.out⟩, ⟨by repeat (first | (with_reducible first | exact HB.out | apply pA | apply pN | apply pD | refine pS ?_ GE129.out | refine pS ?_ GE136.out) | exact HB.out)⟩⟩
             ·rw [if_neg c17] at H
              exact absurd H (by simp)
            ·rw [if_neg c16] at H
             exact absurd H (by simp)
           ·rw [if_neg c15] at H
            have c15b0 : decide (x31_2 < (y131.length : Int)) = false := decide_eq_false c15
            clear c15
            have H' := aM H
            clear H
            go_wp2
            go_roundg k2
            case measure => have := HK1.out; have := HK2.out; omega
            case rel => exact ⟨(wrap64 (x19_1 + 1)), eQ, H', ⟨by have := HK1.out; have := HK2.out; omega⟩, ⟨by repeat (first | (with_reducible first | exact HB.out | apply pA | apply pN | apply pD | refine pS ?_ GE129.out) | exact HB.out)⟩⟩
        ·rw [if_neg c10] at H
         exact absurd H (by simp)
       ·replace c8 := Bool.eq_false_iff.mpr c8
        subst c8
        have H1 : (some false) = some r := by rw [if_neg (show ¬ (false = true) by decide)] at H; exact H
        clear H
        have H := H1
        clear H1
        obtain rfl := Option.some.inj H
        have p128 : 0 ≤ (x19_1 : Int) := dT aQ
        have q128 : x19_1 < (l0.length : Int) := dT aQ
        obtain ⟨ad128, e128, hx128_0, hx128_1⟩ := at_impl_Peg HR0.out x19_1 p128 q128
        cases e128
        replace hx128_0 := (HB.out.cell (wB w _ hx128_0)).trans hx128_0
        replace hx128_1 := (HB.out.cell (wB w _ hx128_1)).trans hx128_1
        replace p128 := eq_true p128
        replace q128 := eq_true q128
        go_wp2_with (first | ((with_reducible refine gate_dst (N := 5) rfl ?_); refine box_event ?hg (N := 5) ?hd (cs := #[.int .i64 0, .int .i64 0]) (t := 34) ?hr ?_; (case hd => rfl); (case hg => rfl); (case hr => first | (go_simp; done) | (go_simp; rfl)); intro gb129 hg w27 hbox hb; have n0_ := aM (pT bQ hb); have n1_ := aM (hbox); have n2_ := aM ((by rw [hg]; exact (pZ bQ) : w.heap.size ≤ gb129)); have n3_ := aM ((by rw [hg]; exact (pZ bQ) : w.heap.size ≤ gb129)); clear HB; have HB := n0_; have BK129 := n1_; have GW129 := n2_; have GE129 := n3_; clear n0_ n1_ n2_ n3_; clear hb hbox hg; have hcz28_0 : w27.cell? ⟨gb129, 0, none⟩ = some (.int .i64 0) := (kC BK129.out 0).trans rfl; have hcz28_1 : w27.cell? ⟨gb129, 1, none⟩ = some (.int .i64 0) := (kC BK129.out 1).trans rfl; have hfz28_0 := kF BK129.out 0; have hfz28_1 := kF BK129.out 1) | ((with_reducible refine gC (f := 87) rfl ?_); refine goesL_ (some 25) rfl rfl Try.func87 kR rfl #[.agg #[.int .i64 ((rd_impl_Peg l0 x19_1).f0), .int .i64 ((rd_impl_Peg l0 x19_1).f1)]] rfl sQ ?_; (with_reducible refine (spec_pgIs.calls ((rd_impl_Peg l0 x19_1).f0) ((rd_impl_Peg l0 x19_1).f1) false _ A7.out).mono ?_); rintro e w29 ⟨rfl, hb⟩; refine ⟨_, rfl, ?_⟩; have n0_ := aM (blk_below (g := gb129) (o := .cells #[.int .i64 ((rd_impl_Peg l0 x19_1).f0), .int .i64 ((rd_impl_Peg l0 x19_1).f1)] 34 (0, 0)) (by (with_reducible repeat (first | refine kN ?_ _ | refine kD ?_ | refine kA ?_ _)); refine blk_put (cs := #[.int .i64 ((rd_impl_Peg l0 x19_1).f0), .int .i64 0]) ?_ 1 _ rfl; (with_reducible repeat (first | refine kN ?_ _ | refine kD ?_ | refine kA ?_ _)); refine blk_put (cs := #[.int .i64 0, .int .i64 0]) ?_ 0 _ rfl; (with_reducible repeat (first | refine kN ?_ _ | refine kD ?_ | refine kA ?_ _)); exact BK129.out) hb); have n1_ := aM (pT (by repeat (first | (with_reducible first | exact HB.out | apply pA | apply pN | apply pD | refine pS ?_ GE129.out) | exact HB.out)) hb); clear BK129; clear HB; have BK129 := n0_; have HB := n1_; clear n0_ n1_; (try clear hb); (try clear hb2); (try clear hk); (try clear hi)))
        go_ret
        exact ⟨by first | rfl | (simp [errW_none, errW_some] <;> rfl) | (simp [*, errW_none, errW_some] <;> rfl), by repeat (first | (with_reducible first | exact HB.out | apply pA | apply pN | apply pD | refine pS ?_ GE129.out) | exact HB.out)⟩
      ·rw [if_neg c6] at H
       exact absurd H (by simp)
     ·rw [if_neg c5] at H
      exact absurd H (by simp)
    ·rw [if_neg c4] at H
     have c4b0 : decide (x19_1 < (l0.length : Int)) = false := decide_eq_false c4
     clear c4
     have H' := aM H
     clear H
     go_wp2
     go_loopg [42] k1 (fun kq v42 w' => ∃ (x42_2 : Int), v42 = .int .i64 x42_2 ∧ Aside0 (spec_pgGood.l2 kq l0 (l0.length : Int) l0 (l0.length : Int) x42_2 = some r) ∧ Aside0 (kq ≤ k1) ∧ Aside0 (Below w.heap.size w w'))
     case atStart => exact ⟨(0), eQ, H', ⟨Nat.le_refl _⟩, ⟨bQ⟩⟩
     case round =>
      clear H'
      try clear c1
      try clear p1
      try clear q1
      try clear hx1
      try clear c2
      try clear p2
      try clear c3
      try clear c4
      try clear c4b0
      try clear c5
      try clear c5b0
      try clear c6
      try clear c6b0
      try clear p6
      try clear c8
      try clear c9
      try clear c9b0
      try clear c10
      try clear c10b0
      try clear c10b1
      try clear p12
      try clear q12
      try clear hx12
      try clear p13
      try clear q13
      try clear hx13
      try clear q14
      try clear c15
      try clear c15b0
      try clear c16
      try clear c16b0
      try clear c17
      try clear c17b0
      try clear c18
      try clear c18b0
      try clear c18b1
      try clear c18b2
      try clear c20
      try clear c24
      try clear hcz12_0
      try clear hcz12_1
      try clear hcz21_0
      try clear hcz21_1
      try clear hcz22_0
      try clear hcz22_1
      try clear hcz25_0
      try clear hcz25_1
      try clear hcz26_0
      try clear hcz26_1
      try clear hcz28_0
      try clear hcz28_1
      try clear hfz12_0
      try clear hfz12_1
      try clear hfz21_0
      try clear hfz21_1
      try clear hfz22_0
      try clear hfz22_1
      try clear hfz25_0
      try clear hfz25_1
      try clear hfz26_0
      try clear hfz26_1
      try clear hfz28_0
      try clear hfz28_1
      try clear hx128_0
      try clear hx128_1
      try clear hx135_0
      try clear hx135_1
      try clear p1
      try clear p12
      try clear p128
      try clear p135
      try clear p2
      try clear q1
      try clear q12
      try clear q128
      try clear q135
      try clear q14
      obtain ⟨x42_2, rfl, HA, HK2, HB⟩ := hrel
      cases gk with
      | zero => exact absurd HA.out (by simp [spec_pgGood.l2])
      | succ k2 =>
       have H := HA.out
       clear HA
       simp only [spec_pgGood.l2] at H
       by_cases c30 : x42_2 < (l0.length : Int)
       ·rw [if_pos c30] at H
        have c30b0 : decide (x42_2 < (l0.length : Int)) = true := dE c30
        clear c30
        by_cases c31 : 0 ≤ x42_2
        ·rw [if_pos c31] at H
         have c31b0 : decide (0 ≤ x42_2) = true := dE c31
         clear c31
         by_cases c32 : x42_2 < (l0.length : Int)
         ·rw [if_pos c32] at H
          have c32b0 : decide (x42_2 < (l0.length : Int)) = true := dE c32
          clear c32
          by_cases c33 : (l0.length : Int) = 0
          ·rw [if_pos c33] at H
           exact absurd H (by simp)
          ·rw [if_neg c33] at H
           have c33b0 : ((l0.length : Int) == 0) = false := beq_eq_false_iff_ne.mpr c33
           have c33b1 : ((l0.length : Int) != 0) = true := bne_iff_ne.mpr c33
           have c33b2 : ¬ (l0 = []) := fun h_ => c33 (by rw [h_]; rfl)
           obtain ⟨ji34, hji34⟩ : ∃ j_ : Int, (Int.tmod (wrap64 (x42_2 + 1)) (l0.length : Int)) = j_ := ⟨_, rfl⟩
           replace H : (if 0 ≤ (ji34) then (if (ji34) < (l0.length : Int) then (if 0 ≤ (Int.tmod (wrap64 (x42_2 + 2)) (l0.length : Int)) then (if (Int.tmod (wrap64 (x42_2 + 2)) (l0.length : Int)) < (l0.length : Int) then ((spec_pgTurn.f ((rd_impl_Peg l0 x42_2).f0) ((rd_impl_Peg l0 x42_2).f1) ((rd_impl_Peg l0 (ji34)).f0) ((rd_impl_Peg l0 (ji34)).f1) ((rd_impl_Peg l0 (Int.tmod (wrap64 (x42_2 + 2)) (l0.length : Int))).f0) ((rd_impl_Peg l0 (Int.tmod (wrap64 (x42_2 + 2)) (l0.length : Int))).f1)).bind fun t142 => (if t142 = 0 then (some false) else (spec_pgGood.l3 k2 l0 (l0.length : Int) x42_2 (wrap64 (x42_2 + 2)) l0 (l0.length : Int) x42_2 ((rd_impl_Peg l0 x42_2).f0) ((rd_impl_Peg l0 x42_2).f1) ((rd_impl_Peg l0 (ji34)).f0) ((rd_impl_Peg l0 (ji34)).f1)))) else (none)) else (none)) else (none)) else (none)) = some r := by first | (rw [hji34] at H; exact H) | (simp only [hji34] at H ⊢; exact H)
           by_cases c35 : 0 ≤ (ji34)
           ·rw [if_pos c35] at H
            have c35b0 : decide (0 ≤ (ji34)) = true := dE c35
            clear c35
            by_cases c36 : (ji34) < (l0.length : Int)
            ·rw [if_pos c36] at H
             have c36b0 : decide ((ji34) < (l0.length : Int)) = true := dE c36
             clear c36
             obtain ⟨ji37, hji37⟩ : ∃ j_ : Int, (Int.tmod (wrap64 (x42_2 + 2)) (l0.length : Int)) = j_ := ⟨_, rfl⟩
             replace H : (if 0 ≤ (ji37) then (if (ji37) < (l0.length : Int) then ((spec_pgTurn.f ((rd_impl_Peg l0 x42_2).f0) ((rd_impl_Peg l0 x42_2).f1) ((rd_impl_Peg l0 (ji34)).f0) ((rd_impl_Peg l0 (ji34)).f1) ((rd_impl_Peg l0 (ji37)).f0) ((rd_impl_Peg l0 (ji37)).f1)).bind fun t142 => (if t142 = 0 then (some false) else (spec_pgGood.l3 k2 l0 (l0.length : Int) x42_2 (wrap64 (x42_2 + 2)) l0 (l0.length : Int) x42_2 ((rd_impl_Peg l0 x42_2).f0) ((rd_impl_Peg l0 x42_2).f1) ((rd_impl_Peg l0 (ji34)).f0) ((rd_impl_Peg l0 (ji34)).f1)))) else (none)) else (none)) = some r := by first | (rw [hji37] at H; exact H) | (simp only [hji37] at H ⊢; exact H)
             by_cases c38 : 0 ≤ (ji37)
             ·rw [if_pos c38] at H
              have c38b0 : decide (0 ≤ (ji37)) = true := dE c38
              clear c38
              by_cases c39 : (ji37) < (l0.length : Int)
              ·rw [if_pos c39] at H
               have c39b0 : decide ((ji37) < (l0.length : Int)) = true := dE c39
               clear c39
               replace H := oB.mp H
               obtain ⟨t142, A400, H⟩ := H
               replace H : (if t142 = 0 then (some false) else (spec_pgGood.l3 k2 l0 (l0.length : Int) x42_2 (wrap64 (x42_2 + 2)) l0 (l0.length : Int) x42_2 ((rd_impl_Peg l0 x42_2).f0) ((rd_impl_Peg l0 x42_2).f1) ((rd_impl_Peg l0 (ji34)).f0) ((rd_impl_Peg l0 (ji34)).f1))) = some r := H
               have A40 := aM A400
               clear A400
               by_cases c41 : t142 = 0
               ·rw [if_pos c41] at H
                have c41b0 : (t142 == 0) = true := beq_iff_eq.mpr c41
                have c41b1 : (t142 != 0) = false := bne_eq_false_iff_eq.mpr c41
                clear c41
                obtain rfl := Option.some.inj H
                have p137 : 0 ≤ (x42_2 : Int) := dT aQ
                have q137 : x42_2 < (l0.length : Int) := dT aQ
                obtain ⟨ad137, e137, hx137_0, hx137_1⟩ := at_impl_Peg HR0.out x42_2 p137 q137
                cases e137
                replace hx137_0 := (HB.out.cell (wB w _ hx137_0)).trans hx137_0
                replace hx137_1 := (HB.out.cell (wB w _ hx137_1)).trans hx137_1
                replace p137 := eq_true p137
                replace q137 := eq_true q137
                try go_wp2_with (first | ((with_reducible refine gate_dst (N := 9) rfl ?_); refine box_event ?hg (N := 9) ?hd (cs := #[.int .i64 0, .int .i64 0]) (t := 34) ?hr ?_; (case hd => rfl); (case hg => rfl); (case hr => first | (go_simp; done) | (go_simp; rfl)); intro gb138 hg w42 hbox hb; have n0_ := aM (pT bQ hb); have n1_ := aM (hbox); have n2_ := aM ((by rw [hg]; exact (pZ bQ) : w.heap.size ≤ gb138)); have n3_ := aM ((by rw [hg]; exact (pZ bQ) : w.heap.size ≤ gb138)); clear HB; have HB := n0_; have BK138 := n1_; have GW138 := n2_; have GE138 := n3_; clear n0_ n1_ n2_ n3_; clear hb hbox hg; have hcz43_0 : w42.cell? ⟨gb138, 0, none⟩ = some (.int .i64 0) := (kC BK138.out 0).trans rfl; have hcz43_1 : w42.cell? ⟨gb138, 1, none⟩ = some (.int .i64 0) := (kC BK138.out 1).trans rfl; have hfz43_0 := kF BK138.out 0; have hfz43_1 := kF BK138.out 1; have p139 : 0 ≤ ((ji34) : Int) := dT aQ; have q139 : (ji34) < (l0.length : Int) := dT aQ; obtain ⟨ad139, e139, hx139_0, hx139_1⟩ := at_impl_Peg HR0.out (ji34) p139 q139; obtain rfl : ad137 = ad139 := (by injection e139); have hn139_0 : ad137.block ≠ gb138 := nN (nL (by have := wB _ _ hx139_0; first | rwa [add_block] at this | exact this) GW138.out); have hn139_1 : ad137.block ≠ gb138 := nN (nL (by have := wB _ _ hx139_0; first | rwa [add_block] at this | exact this) GW138.out); replace hx139_0 := (HB.out.cell (wB w _ hx139_0)).trans hx139_0; replace hx139_1 := (HB.out.cell (wB w _ hx139_1)).trans hx139_1; replace hx139_0 := (cell_far (p := ⟨gb138, 0, none⟩) (by first | (rw [add_block]; exact hn139_0) | (show (Addr.add _ _).block ≠ _; rw [add_block]; exact hn139_0) | exact hn139_0) (.int .i64 ((rd_impl_Peg l0 x42_2).f0))).trans hx139_0; replace hx139_1 := (cell_far (p := ⟨gb138, 0, none⟩) (by first | (rw [add_block]; exact hn139_0) | (show (Addr.add _ _).block ≠ _; rw [add_block]; exact hn139_0) | exact hn139_0) (.int .i64 ((rd_impl_Peg l0 x42_2).f0))).trans hx139_1; replace hx139_0 := (cell_far (p := ⟨gb138, 1, none⟩) (by first | (rw [add_block]; exact hn139_1) | (show (Addr.add _ _).block ≠ _; rw [add_block]; exact hn139_1) | exact hn139_1) (.int .i64 ((rd_impl_Peg l0 x42_2).f1))).trans hx139_0; replace hx139_1 := (cell_far (p := ⟨gb138, 1, none⟩) (by first | (rw [add_block]; exact hn139_1) | (show (Addr.add _ _).block ≠ _; rw [add_block]; exact hn139_1) | exact hn139_1) (.int .i64 ((rd_impl_Peg l0 x42_2).f1))).trans hx139_1; clear hn139_0; clear hn139_1; replace p139 := eq_true p139; replace q139 := eq_true q139) | ((with_reducible refine gate_dst (N := 10) rfl ?_); refine box_event ?hg (N := 10) ?hd (cs := #[.int .i64 0, .int .i64 0]) (t := 34) ?hr ?_; (case hd => rfl); (case hg => rfl); (case hr => first | (go_simp; done) | (go_simp; rfl)); intro gb140 hg w44 hbox hb; have n0_ := aM (blk_below (g := gb138) (o := .cells #[.int .i64 ((rd_impl_Peg l0 x42_2).f0), .int .i64 ((rd_impl_Peg l0 x42_2).f1)] 34 (0, 0)) (by (with_reducible repeat (first | refine kN ?_ _ | refine kD ?_ | refine kA ?_ _)); refine blk_put (cs := #[.int .i64 ((rd_impl_Peg l0 x42_2).f0), .int .i64 0]) ?_ 1 _ rfl; (with_reducible repeat (first | refine kN ?_ _ | refine kD ?_ | refine kA ?_ _)); refine blk_put (cs := #[.int .i64 0, .int .i64 0]) ?_ 0 _ rfl; (with_reducible repeat (first | refine kN ?_ _ | refine kD ?_ | refine kA ?_ _)); exact BK138.out) hb); have n1_ := aM (pT (by repeat (first | (with_reducible first | exact HB.out | apply pA | apply pN | apply pD | refine pS ?_ GE138.out) | exact HB.out)) hb); have n2_ := aM (hbox); have n3_ := aM ((by rw [hg]; exact (pZ (by repeat (first | (with_reducible first | exact HB.out | apply pA | apply pN | apply pD | refine pS ?_ GE138.out) | exact HB.out))) : w.heap.size ≤ gb140)); have n4_ := aM ((by rw [hg]; exact (pZ (by repeat (first | (with_reducible first | exact HB.out | apply pA | apply pN | apply pD | refine pS ?_ GE138.out) | exact HB.out))) : w.heap.size ≤ gb140)); have n5_ := aM ((by rw [hg]; exact nN (blk_lt (g := gb138) (o := .cells #[.int .i64 ((rd_impl_Peg l0 x42_2).f0), .int .i64 ((rd_impl_Peg l0 x42_2).f1)] 34 (0, 0)) (by (with_reducible repeat (first | refine kN ?_ _ | refine kD ?_ | refine kA ?_ _)); refine blk_put (cs := #[.int .i64 ((rd_impl_Peg l0 x42_2).f0), .int .i64 0]) ?_ 1 _ rfl; (with_reducible repeat (first | refine kN ?_ _ | refine kD ?_ | refine kA ?_ _)); refine blk_put (cs := #[.int .i64 0, .int .i64 0]) ?_ 0 _ rfl; (with_reducible repeat (first | refine kN ?_ _ | refine kD ?_ | refine kA ?_ _)); exact BK138.out)) : gb138 ≠ gb140)); have n6_ := aM ((by rw [hg]; exact Nat.ne_of_gt (blk_lt (g := gb138) (o := .cells #[.int .i64 ((rd_impl_Peg l0 x42_2).f0), .int .i64 ((rd_impl_Peg l0 x42_2).f1)] 34 (0, 0)) (by (with_reducible repeat (first | refine kN ?_ _ | refine kD ?_ | refine kA ?_ _)); refine blk_put (cs := #[.int .i64 ((rd_impl_Peg l0 x42_2).f0), .int .i64 0]) ?_ 1 _ rfl; (with_reducible repeat (first | refine kN ?_ _ | refine kD ?_ | refine kA ?_ _)); refine blk_put (cs := #[.int .i64 0, .int .i64 0]) ?_ 0 _ rfl; (with_reducible repeat (first | refine kN ?_ _ | refine kD ?_ | refine kA ?_ _)); exact BK138.out)) : gb140 ≠ gb138)); clear BK138; clear HB; have BK138 := n0_; have HB := n1_; have BK140 := n2_; have GW140 := n3_; have GE140 := n4_; have NB138_140 := n5_; have NB140_138 := n6_; clear n0_ n1_ n2_ n3_ n4_ n5_ n6_; clear hb hbox hg; have hnb45 := NB140_138.out; have hnc45 := NB138_140.out; have hcz46_0 : w44.cell? ⟨gb140, 0, none⟩ = some (.int .i64 0) := (kC BK140.out 0).trans rfl; have hcz46_1 : w44.cell? ⟨gb140, 1, none⟩ = some (.int .i64 0) := (kC BK140.out 1).trans rfl; have hfz46_0 := kF BK140.out 0; have hfz46_1 := kF BK140.out 1))
                have n0_ : Aside0 (((w44.setCell ⟨gb140, 0, none⟩ (.int .i64 ((rd_impl_Peg l0 (ji34)).f0))).setCell ⟨gb140, 1, none⟩ (.int .i64 ((rd_impl_Peg l0 (ji34)).f1))).heap[gb138]? = some (.cells #[.int .i64 ((rd_impl_Peg l0 x42_2).f0), .int .i64 ((rd_impl_Peg l0 x42_2).f1)] 34 (0, 0))) := ⟨by (with_reducible repeat (first | refine kN ?_ _ | refine kD ?_ | refine kA ?_ _)); refine blk_far ?_ NB138_140.out _; (with_reducible repeat (first | refine kN ?_ _ | refine kD ?_ | refine kA ?_ _)); refine blk_far ?_ NB138_140.out _; (with_reducible repeat (first | refine kN ?_ _ | refine kD ?_ | refine kA ?_ _)); exact BK138.out⟩
                have n1_ : Aside0 (((w44.setCell ⟨gb140, 0, none⟩ (.int .i64 ((rd_impl_Peg l0 (ji34)).f0))).setCell ⟨gb140, 1, none⟩ (.int .i64 ((rd_impl_Peg l0 (ji34)).f1))).heap[gb140]? = some (.cells #[.int .i64 ((rd_impl_Peg l0 (ji34)).f0), .int .i64 ((rd_impl_Peg l0 (ji34)).f1)] 34 (0, 0))) := ⟨by (with_reducible repeat (first | refine kN ?_ _ | refine kD ?_ | refine kA ?_ _)); refine blk_put (cs := #[.int .i64 ((rd_impl_Peg l0 (ji34)).f0), .int .i64 0]) ?_ 1 _ rfl; (with_reducible repeat (first | refine kN ?_ _ | refine kD ?_ | refine kA ?_ _)); refine blk_put (cs := #[.int .i64 0, .int .i64 0]) ?_ 0 _ rfl; (with_reducible repeat (first | refine kN ?_ _ | refine kD ?_ | refine kA ?_ _)); exact BK140.out⟩
                have n2_ : Aside0 (Below w.heap.size w ((w44.setCell ⟨gb140, 0, none⟩ (.int .i64 ((rd_impl_Peg l0 (ji34)).f0))).setCell ⟨gb140, 1, none⟩ (.int .i64 ((rd_impl_Peg l0 (ji34)).f1)))) := ⟨by repeat (first | (with_reducible first | exact HB.out | apply pA | apply pN | apply pD | refine pS ?_ GE138.out | refine pS ?_ GE140.out) | exact HB.out)⟩
                (try clear BK138)
                (try clear BK140)
                (try clear HB)
                generalize ((w44.setCell ⟨gb140, 0, none⟩ (.int .i64 ((rd_impl_Peg l0 (ji34)).f0))).setCell ⟨gb140, 1, none⟩ (.int .i64 ((rd_impl_Peg l0 (ji34)).f1))) = w47 at n0_ n1_ n2_ ⊢
                have BK138 := n0_
                have BK140 := n1_
                have HB := n2_
                clear n0_ n1_ n2_
                have n0_ := aM (kD BK138.out)
                have n1_ := aM (kD BK140.out)
                have n2_ := aM (pD HB.out)
                clear BK138
                clear BK140
                clear HB
                have BK138 := n0_
                have BK140 := n1_
                have HB := n2_
                clear n0_ n1_ n2_
                have p141 : 0 ≤ ((ji37) : Int) := dT aQ
                have q141 : (ji37) < (l0.length : Int) := dT aQ
                obtain ⟨ad141, e141, hx141_0, hx141_1⟩ := at_impl_Peg HR0.out (ji37) p141 q141
                have hw141_1 := hx141_1
                have hw141_0 := hx141_0
                obtain rfl : ad137 = ad141 := (by injection e141)
                replace hx141_0 := (HB.out.cell (wB w _ hx141_0)).trans hx141_0
                replace hx141_1 := (HB.out.cell (wB w _ hx141_1)).trans hx141_1
                replace p141 := eq_true p141
                replace q141 := eq_true q141
                refine start_ (n := 11) (S := fun w' => w'.cell? ⟨gb138, 0, none⟩ = some (.int .i64 ((rd_impl_Peg l0 x42_2).f0)) ∧ w'.cell? ⟨gb138, 1, none⟩ = some (.int .i64 ((rd_impl_Peg l0 x42_2).f1)) ∧ w'.cell? ⟨gb140, 0, none⟩ = some (.int .i64 ((rd_impl_Peg l0 (ji34)).f0)) ∧ w'.cell? ⟨gb140, 1, none⟩ = some (.int .i64 ((rd_impl_Peg l0 (ji34)).f1)) ∧ w'.cell? (ad137.add (((ji37)).toNat * 2)) = some (.int .i64 ((rd_impl_Peg l0 (ji37)).f0)) ∧ w'.cell? ⟨(ad137.add (((ji37)).toNat * 2)).block, (ad137.add (((ji37)).toNat * 2)).off + 1, none⟩ = some (.int .i64 ((rd_impl_Peg l0 (ji37)).f1))) (ds := []) #[false, false, false, false, false, false, false, false, false, false, false] kR rfl rfl ⟨(kC BK138.out 0).trans rfl, (kC BK138.out 1).trans rfl, (kC BK140.out 0).trans rfl, (kC BK140.out 1).trans rfl, ((HB.out.cell (wB w _ hw141_0)).trans hw141_0), ((HB.out.cell (wB w _ hw141_1)).trans hw141_1)⟩ (fun hHeld => ?_); refine with_tabW spec_pgGood.tab20 spec_pgGood.bits20 (fun HT_ HW_ => ?_)
                generalize w47.drew = w48 at BK138 BK140 HB hx141_0 hx141_1 hHeld ⊢
                refine pure_ (i := 2) (N := some 56) (v := ?_) (a' := ?_) #[false, false, true, false, false, false, false, false, false, false, false] rfl rfl (any_of HT_.out kR) (fun _ _ _ h => h) (Or.inl ⟨by rfl, ?_⟩) ?_ ?_
                rotate_left
                ·intro w'
                 go_simp
                 with_reducible rfl
                rotate_left
                ·simp only [Act.put, sI, sZ, sS, i64_w, i32_w]
                 rfl
                refine pure_ (i := 3) (N := some 57) (v := ?_) (a' := ?_) #[false, false, true, true, false, false, false, false, false, false, false] rfl rfl (any_of HT_.out kR) (fun _ _ _ h => h) (Or.inl ⟨by rfl, ?_⟩) ?_ ?_
                rotate_left
                ·intro w'
                 go_simp
                 with_reducible rfl
                rotate_left
                ·simp only [Act.put, sI, sZ, sS, i64_w, i32_w]
                 rfl
                refine pure_ (i := 4) (N := some 58) (v := ?_) (a' := ?_) #[false, false, true, true, true, false, false, false, false, false, false] rfl rfl (any_of HT_.out kR) (fun _ _ _ h => h) (Or.inl ⟨by rfl, ?_⟩) ?_ ?_
                rotate_left
                ·intro w'
                 go_simp
                 with_reducible rfl
                rotate_left
                ·simp only [Act.put, sI, sZ, sS, i64_w, i32_w]
                 rfl
                refine pure_ (i := 5) (N := some 59) (v := ?_) (a' := ?_) #[false, false, true, true, true, true, false, false, false, false, false] rfl rfl (any_of HT_.out kR) (fun _ _ _ h => h) (Or.inl ⟨by rfl, ?_⟩) ?_ ?_
                rotate_left
                ·intro w'
                 go_simp
                 with_reducible rfl
                rotate_left
                ·simp only [Act.put, sI, sZ, sS, i64_w, i32_w]
                 rfl
                refine pure_ (i := 6) (N := some 60) (v := ?_) (a' := ?_) #[false, false, true, true, true, true, true, false, false, false, false] rfl rfl (any_of HT_.out kR) (fun _ _ _ h => h) (Or.inl ⟨by rfl, ?_⟩) ?_ ?_
                rotate_left
                ·intro w'
                 go_simp
                 with_reducible rfl
                rotate_left
                ·simp only [Act.put, sI, sZ, sS, i64_w, i32_w]
                 rfl
                refine pure_ (i := 7) (N := some 61) (v := ?_) (a' := ?_) #[false, false, true, true, true, true, true, true, false, false, false] rfl rfl (any_of HT_.out kR) (fun _ _ _ h => h) (Or.inl ⟨by rfl, ?_⟩) ?_ ?_
                rotate_left
                ·intro w'
                 go_simp
                 with_reducible rfl
                rotate_left
                ·simp only [Act.put, sI, sZ, sS, i64_w, i32_w]
                 rfl
                refine take_ (i := 0) (N := some 54) (v := ?_) (a' := ?_) #[true, false, true, true, true, true, true, true, false, false, false] rfl rfl (take_ofW HT_.out HW_.out kR) (fun _ _ _ h => h) (Or.inl ⟨by rfl, ?_⟩) hHeld ?_ ?_
                rotate_left
                ·rintro w' ⟨s0, s1, s2, s3, s4, s5⟩
                 go_simp
                 with_reducible rfl
                rotate_left
                ·simp only [Act.put, sI, sZ, sS, i64_w, i32_w]
                 rfl
                refine take_ (i := 1) (N := some 55) (v := ?_) (a' := ?_) #[true, true, true, true, true, true, true, true, false, false, false] rfl rfl (take_ofW HT_.out HW_.out kR) (fun _ _ _ h => h) (Or.inl ⟨by rfl, ?_⟩) hHeld ?_ ?_
                rotate_left
                ·rintro w' ⟨s0, s1, s2, s3, s4, s5⟩
                 go_simp
                 with_reducible rfl
                rotate_left
                ·simp only [Act.put, sI, sZ, sS, i64_w, i32_w]
                 rfl
                refine take_ (i := 8) (N := some 62) (v := ?_) (a' := ?_) #[true, true, true, true, true, true, true, true, true, false, false] rfl rfl (take_ofW HT_.out HW_.out kR) (fun _ _ _ h => h) (Or.inl ⟨by rfl, ?_⟩) hHeld ?_ ?_
                rotate_left
                ·rintro w' ⟨s0, s1, s2, s3, s4, s5⟩
                 go_simp
                 with_reducible rfl
                rotate_left
                ·simp only [Act.put, sI, sZ, sS, i64_w, i32_w]
                 rfl
                refine one_ (i := 9) (N := some 63) #[true, true, true, true, true, true, true, true, true, true, false] rfl rfl (one_of HT_.out kR) (by decide) (fun K hK => ?_)
                refine goes_ Try.func134 kR rfl #[.agg #[.int .i64 ((rd_impl_Peg l0 x42_2).f0), .int .i64 ((rd_impl_Peg l0 x42_2).f1)], .agg #[.int .i64 ((rd_impl_Peg l0 (ji34)).f0), .int .i64 ((rd_impl_Peg l0 (ji34)).f1)], .agg #[.int .i64 ((rd_impl_Peg l0 (ji37)).f0), .int .i64 ((rd_impl_Peg l0 (ji37)).f1)]] (by rfl) rfl rfl (by (try simp only [mA, mC, mN]); first | done | (simp only [hji34, hji37]; rfl) | rfl | (simp only [lD, lT]; rfl)) ?_
                with_reducible refine (spec_pgTurn.calls ((rd_impl_Peg l0 x42_2).f0) ((rd_impl_Peg l0 x42_2).f1) ((rd_impl_Peg l0 (ji34)).f0) ((rd_impl_Peg l0 (ji34)).f1) ((rd_impl_Peg l0 (ji37)).f0) ((rd_impl_Peg l0 (ji37)).f1) t142 _ A40.out).mono ?_
                rintro e w49 ⟨rfl, hb⟩
                refine ⟨_, rfl, ?_⟩
                have n0_ := aM (blk_below (g := gb138) (o := .cells #[.int .i64 ((rd_impl_Peg l0 x42_2).f0), .int .i64 ((rd_impl_Peg l0 x42_2).f1)] 34 (0, 0)) (gQ BK138) hb)
                have n1_ := aM (blk_below (g := gb140) (o := .cells #[.int .i64 ((rd_impl_Peg l0 (ji34)).f0), .int .i64 ((rd_impl_Peg l0 (ji34)).f1)] 34 (0, 0)) (gQ BK140) hb)
                have n2_ := aM (pT (by repeat (first | (with_reducible first | exact HB.out | apply pA | apply pN | apply pD | refine pS ?_ GE138.out | refine pS ?_ GE140.out) | exact HB.out)) hb)
                clear BK138
                clear BK140
                clear HB
                have BK138 := n0_
                have BK140 := n1_
                have HB := n2_
                clear n0_ n1_ n2_
                (try clear hb)
                (try clear hb2)
                (try clear hk)
                (try clear hi)
                refine hK.out _ _ ⟨(kC BK138.out 0).trans rfl, (kC BK138.out 1).trans rfl, (kC BK140.out 0).trans rfl, (kC BK140.out 1).trans rfl, ((HB.out.cell (wB w _ hw141_0)).trans hw141_0), ((HB.out.cell (wB w _ hw141_1)).trans hw141_1)⟩ (fun hHeld => ?_)
                clear hK K
                refine norm_ (a' := ?_) ?_ ?_
                rotate_left
                ·show Act.put _ (some 63) _ = _
                 simp only [Act.put, sI, sZ, sS, i64_w, i32_w]
                 rfl
                refine pure_ (i := 10) (N := some 64) (v := ?_) (a' := ?_) #[true, true, true, true, true, true, true, true, true, true, true] rfl rfl (any_of HT_.out kR) (fun _ _ _ h => h) (Or.inl ⟨by rfl, ?_⟩) ?_ ?_
                rotate_left
                ·intro w'
                 go_simp
                 with_reducible rfl
                rotate_left
                ·simp only [Act.put, sI, sZ, sS, i64_w, i32_w]
                 rfl
                refine done_ (done_of HT_.out kR) ?_
                try go_wp2
                go_ret
                exact ⟨by first | rfl | (simp [errW_none, errW_some] <;> rfl) | (simp only [← hji34, ← hji37]; first | rfl | (simp [errW_none, errW_some] <;> rfl)) | (simp [*, errW_none, errW_some] <;> rfl), by repeat (first | (with_reducible first | exact HB.out | apply pA | apply pN | apply pD | refine pS ?_ GE138.out | refine pS ?_ GE140.out) | exact HB.out)⟩
               ·rw [if_neg c41] at H
                have c41b0 : (t142 == 0) = false := beq_eq_false_iff_ne.mpr c41
                have c41b1 : (t142 != 0) = true := bne_iff_ne.mpr c41
                have H' := aM H
                clear H
                have p137 : 0 ≤ (x42_2 : Int) := dT aQ
                have q137 : x42_2 < (l0.length : Int) := dT aQ
                obtain ⟨ad137, e137, hx137_0, hx137_1⟩ := at_impl_Peg HR0.out x42_2 p137 q137
                cases e137
                replace hx137_0 := (HB.out.cell (wB w _ hx137_0)).trans hx137_0
                replace hx137_1 := (HB.out.cell (wB w _ hx137_1)).trans hx137_1
                replace p137 := eq_true p137
                replace q137 := eq_true q137
                try go_wp2_with (first | ((with_reducible refine gate_dst (N := 9) rfl ?_); refine box_event ?hg (N := 9) ?hd (cs := #[.int .i64 0, .int .i64 0]) (t := 34) ?hr ?_; (case hd => rfl); (case hg => rfl); (case hr => first | (go_simp; done) | (go_simp; rfl)); intro gb138 hg w50 hbox hb; have n0_ := aM (pT bQ hb); have n1_ := aM (hbox); have n2_ := aM ((by rw [hg]; exact (pZ bQ) : w.heap.size ≤ gb138)); have n3_ := aM ((by rw [hg]; exact (pZ bQ) : w.heap.size ≤ gb138)); clear HB; have HB := n0_; have BK138 := n1_; have GW138 := n2_; have GE138 := n3_; clear n0_ n1_ n2_ n3_; clear hb hbox hg; have hcz51_0 : w50.cell? ⟨gb138, 0, none⟩ = some (.int .i64 0) := (kC BK138.out 0).trans rfl; have hcz51_1 : w50.cell? ⟨gb138, 1, none⟩ = some (.int .i64 0) := (kC BK138.out 1).trans rfl; have hfz51_0 := kF BK138.out 0; have hfz51_1 := kF BK138.out 1; have p139 : 0 ≤ ((ji34) : Int) := dT aQ; have q139 : (ji34) < (l0.length : Int) := dT aQ; obtain ⟨ad139, e139, hx139_0, hx139_1⟩ := at_impl_Peg HR0.out (ji34) p139 q139; obtain rfl : ad137 = ad139 := (by injection e139); have hn139_0 : ad137.block ≠ gb138 := nN (nL (by have := wB _ _ hx139_0; first | rwa [add_block] at this | exact this) GW138.out); have hn139_1 : ad137.block ≠ gb138 := nN (nL (by have := wB _ _ hx139_0; first | rwa [add_block] at this | exact this) GW138.out); replace hx139_0 := (HB.out.cell (wB w _ hx139_0)).trans hx139_0; replace hx139_1 := (HB.out.cell (wB w _ hx139_1)).trans hx139_1; replace hx139_0 := (cell_far (p := ⟨gb138, 0, none⟩) (by first | (rw [add_block]; exact hn139_0) | (show (Addr.add _ _).block ≠ _; rw [add_block]; exact hn139_0) | exact hn139_0) (.int .i64 ((rd_impl_Peg l0 x42_2).f0))).trans hx139_0; replace hx139_1 := (cell_far (p := ⟨gb138, 0, none⟩) (by first | (rw [add_block]; exact hn139_0) | (show (Addr.add _ _).block ≠ _; rw [add_block]; exact hn139_0) | exact hn139_0) (.int .i64 ((rd_impl_Peg l0 x42_2).f0))).trans hx139_1; replace hx139_0 := (cell_far (p := ⟨gb138, 1, none⟩) (by first | (rw [add_block]; exact hn139_1) | (show (Addr.add _ _).block ≠ _; rw [add_block]; exact hn139_1) | exact hn139_1) (.int .i64 ((rd_impl_Peg l0 x42_2).f1))).trans hx139_0; replace hx139_1 := (cell_far (p := ⟨gb138, 1, none⟩) (by first | (rw [add_block]; exact hn139_1) | (show (Addr.add _ _).block ≠ _; rw [add_block]; exact hn139_1) | exact hn139_1) (.int .i64 ((rd_impl_Peg l0 x42_2).f1))).trans hx139_1; clear hn139_0; clear hn139_1; replace p139 := eq_true p139; replace q139 := eq_true q139) | ((with_reducible refine gate_dst (N := 10) rfl ?_); refine box_event ?hg (N := 10) ?hd (cs := #[.int .i64 0, .int .i64 0]) (t := 34) ?hr ?_; (case hd => rfl); (case hg => rfl); (case hr => first | (go_simp; done) | (go_simp; rfl)); intro gb140 hg w52 hbox hb; have n0_ := aM (blk_below (g := gb138) (o := .cells #[.int .i64 ((rd_impl_Peg l0 x42_2).f0), .int .i64 ((rd_impl_Peg l0 x42_2).f1)] 34 (0, 0)) (by (with_reducible repeat (first | refine kN ?_ _ | refine kD ?_ | refine kA ?_ _)); refine blk_put (cs := #[.int .i64 ((rd_impl_Peg l0 x42_2).f0), .int .i64 0]) ?_ 1 _ rfl; (with_reducible repeat (first | refine kN ?_ _ | refine kD ?_ | refine kA ?_ _)); refine blk_put (cs := #[.int .i64 0, .int .i64 0]) ?_ 0 _ rfl; (with_reducible repeat (first | refine kN ?_ _ | refine kD ?_ | refine kA ?_ _)); exact BK138.out) hb); have n1_ := aM (pT (by repeat (first | (with_reducible first | exact HB.out | apply pA | apply pN | apply pD | refine pS ?_ GE138.out) | exact HB.out)) hb); have n2_ := aM (hbox); have n3_ := aM ((by rw [hg]; exact (pZ (by repeat (first | (with_reducible first | exact HB.out | apply pA | apply pN | apply pD | refine pS ?_ GE138.out) | exact HB.out))) : w.heap.size ≤ gb140)); have n4_ := aM ((by rw [hg]; exact (pZ (by repeat (first | (with_reducible first | exact HB.out | apply pA | apply pN | apply pD | refine pS ?_ GE138.out) | exact HB.out))) : w.heap.size ≤ gb140)); have n5_ := aM ((by rw [hg]; exact nN (blk_lt (g := gb138) (o := .cells #[.int .i64 ((rd_impl_Peg l0 x42_2).f0), .int .i64 ((rd_impl_Peg l0 x42_2).f1)] 34 (0, 0)) (by (with_reducible repeat (first | refine kN ?_ _ | refine kD ?_ | refine kA ?_ _)); refine blk_put (cs := #[.int .i64 ((rd_impl_Peg l0 x42_2).f0), .int .i64 0]) ?_ 1 _ rfl; (with_reducible repeat (first | refine kN ?_ _ | refine kD ?_ | refine kA ?_ _)); refine blk_put (cs := #[.int .i64 0, .int .i64 0]) ?_ 0 _ rfl; (with_reducible repeat (first | refine kN ?_ _ | refine kD ?_ | refine kA ?_ _)); exact BK138.out)) : gb138 ≠ gb140)); have n6_ := aM ((by rw [hg]; exact Nat.ne_of_gt (blk_lt (g := gb138) (o := .cells #[.int .i64 ((rd_impl_Peg l0 x42_2).f0), .int .i64 ((rd_impl_Peg l0 x42_2).f1)] 34 (0, 0)) (by (with_reducible repeat (first | refine kN ?_ _ | refine kD ?_ | refine kA ?_ _)); refine blk_put (cs := #[.int .i64 ((rd_impl_Peg l0 x42_2).f0), .int .i64 0]) ?_ 1 _ rfl; (with_reducible repeat (first | refine kN ?_ _ | refine kD ?_ | refine kA ?_ _)); refine blk_put (cs := #[.int .i64 0, .int .i64 0]) ?_ 0 _ rfl; (with_reducible repeat (first | refine kN ?_ _ | refine kD ?_ | refine kA ?_ _)); exact BK138.out)) : gb140 ≠ gb138)); clear BK138; clear HB; have BK138 := n0_; have HB := n1_; have BK140 := n2_; have GW140 := n3_; have GE140 := n4_; have NB138_140 := n5_; have NB140_138 := n6_; clear n0_ n1_ n2_ n3_ n4_ n5_ n6_; clear hb hbox hg; have hnb53 := NB140_138.out; have hnc53 := NB138_140.out; have hcz54_0 : w52.cell? ⟨gb140, 0, none⟩ = some (.int .i64 0) := (kC BK140.out 0).trans rfl; have hcz54_1 : w52.cell? ⟨gb140, 1, none⟩ = some (.int .i64 0) := (kC BK140.out 1).trans rfl; have hfz54_0 := kF BK140.out 0; have hfz54_1 := kF BK140.out 1))
                have n0_ : Aside0 (((w52.setCell ⟨gb140, 0, none⟩ (.int .i64 ((rd_impl_Peg l0 (ji34)).f0))).setCell ⟨gb140, 1, none⟩ (.int .i64 ((rd_impl_Peg l0 (ji34)).f1))).heap[gb138]? = some (.cells #[.int .i64 ((rd_impl_Peg l0 x42_2).f0), .int .i64 ((rd_impl_Peg l0 x42_2).f1)] 34 (0, 0))) := ⟨by (with_reducible repeat (first | refine kN ?_ _ | refine kD ?_ | refine kA ?_ _)); refine blk_far ?_ NB138_140.out _; (with_reducible repeat (first | refine kN ?_ _ | refine kD ?_ | refine kA ?_ _)); refine blk_far ?_ NB138_140.out _; (with_reducible repeat (first | refine kN ?_ _ | refine kD ?_ | refine kA ?_ _)); exact BK138.out⟩
                have n1_ : Aside0 (((w52.setCell ⟨gb140, 0, none⟩ (.int .i64 ((rd_impl_Peg l0 (ji34)).f0))).setCell ⟨gb140, 1, none⟩ (.int .i64 ((rd_impl_Peg l0 (ji34)).f1))).heap[gb140]? = some (.cells #[.int .i64 ((rd_impl_Peg l0 (ji34)).f0), .int .i64 ((rd_impl_Peg l0 (ji34)).f1)] 34 (0, 0))) := ⟨by (with_reducible repeat (first | refine kN ?_ _ | refine kD ?_ | refine kA ?_ _)); refine blk_put (cs := #[.int .i64 ((rd_impl_Peg l0 (ji34)).f0), .int .i64 0]) ?_ 1 _ rfl; (with_reducible repeat (first | refine kN ?_ _ | refine kD ?_ | refine kA ?_ _)); refine blk_put (cs := #[.int .i64 0, .int .i64 0]) ?_ 0 _ rfl; (with_reducible repeat (first | refine kN ?_ _ | refine kD ?_ | refine kA ?_ _)); exact BK140.out⟩
                have n2_ : Aside0 (Below w.heap.size w ((w52.setCell ⟨gb140, 0, none⟩ (.int .i64 ((rd_impl_Peg l0 (ji34)).f0))).setCell ⟨gb140, 1, none⟩ (.int .i64 ((rd_impl_Peg l0 (ji34)).f1)))) := ⟨by repeat (first | (with_reducible first | exact HB.out | apply pA | apply pN | apply pD | refine pS ?_ GE138.out | refine pS ?_ GE140.out) | exact HB.out)⟩
                (try clear BK138)
                (try clear BK140)
                (try clear HB)
                generalize ((w52.setCell ⟨gb140, 0, none⟩ (.int .i64 ((rd_impl_Peg l0 (ji34)).f0))).setCell ⟨gb140, 1, none⟩ (.int .i64 ((rd_impl_Peg l0 (ji34)).f1))) = w55 at n0_ n1_ n2_ ⊢
                have BK138 := n0_
                have BK140 := n1_
                have HB := n2_
                clear n0_ n1_ n2_
                have n0_ := aM (kD BK138.out)
                have n1_ := aM (kD BK140.out)
                have n2_ := aM (pD HB.out)
                clear BK138
                clear BK140
                clear HB
                have BK138 := n0_
                have BK140 := n1_
                have HB := n2_
                clear n0_ n1_ n2_
                have p141 : 0 ≤ ((ji37) : Int) := dT aQ
                have q141 : (ji37) < (l0.length : Int) := dT aQ
                obtain ⟨ad141, e141, hx141_0, hx141_1⟩ := at_impl_Peg HR0.out (ji37) p141 q141
                have hw141_1 := hx141_1
                have hw141_0 := hx141_0
                obtain rfl : ad137 = ad141 := (by injection e141)
                replace hx141_0 := (HB.out.cell (wB w _ hx141_0)).trans hx141_0
                replace hx141_1 := (HB.out.cell (wB w _ hx141_1)).trans hx141_1
                replace p141 := eq_true p141
                replace q141 := eq_true q141
                refine start_ (n := 11) (S := fun w' => w'.cell? ⟨gb138, 0, none⟩ = some (.int .i64 ((rd_impl_Peg l0 x42_2).f0)) ∧ w'.cell? ⟨gb138, 1, none⟩ = some (.int .i64 ((rd_impl_Peg l0 x42_2).f1)) ∧ w'.cell? ⟨gb140, 0, none⟩ = some (.int .i64 ((rd_impl_Peg l0 (ji34)).f0)) ∧ w'.cell? ⟨gb140, 1, none⟩ = some (.int .i64 ((rd_impl_Peg l0 (ji34)).f1)) ∧ w'.cell? (ad137.add (((ji37)).toNat * 2)) = some (.int .i64 ((rd_impl_Peg l0 (ji37)).f0)) ∧ w'.cell? ⟨(ad137.add (((ji37)).toNat * 2)).block, (ad137.add (((ji37)).toNat * 2)).off + 1, none⟩ = some (.int .i64 ((rd_impl_Peg l0 (ji37)).f1))) (ds := []) #[false, false, false, false, false, false, false, false, false, false, false] kR rfl rfl ⟨(kC BK138.out 0).trans rfl, (kC BK138.out 1).trans rfl, (kC BK140.out 0).trans rfl, (kC BK140.out 1).trans rfl, ((HB.out.cell (wB w _ hw141_0)).trans hw141_0), ((HB.out.cell (wB w _ hw141_1)).trans hw141_1)⟩ (fun hHeld => ?_); refine with_tabW spec_pgGood.tab20 spec_pgGood.bits20 (fun HT_ HW_ => ?_)
                generalize w55.drew = w56 at BK138 BK140 HB hx141_0 hx141_1 hHeld ⊢
                refine pure_ (i := 2) (N := some 56) (v := ?_) (a' := ?_) #[false, false, true, false, false, false, false, false, false, false, false] rfl rfl (any_of HT_.out kR) (fun _ _ _ h => h) (Or.inl ⟨by rfl, ?_⟩) ?_ ?_
                rotate_left
                ·intro w'
                 go_simp
                 with_reducible rfl
                rotate_left
                ·simp only [Act.put, sI, sZ, sS, i64_w, i32_w]
                 rfl
                refine pure_ (i := 3) (N := some 57) (v := ?_) (a' := ?_) #[false, false, true, true, false, false, false, false, false, false, false] rfl rfl (any_of HT_.out kR) (fun _ _ _ h => h) (Or.inl ⟨by rfl, ?_⟩) ?_ ?_
                rotate_left
                ·intro w'
                 go_simp
                 with_reducible rfl
                rotate_left
                ·simp only [Act.put, sI, sZ, sS, i64_w, i32_w]
                 rfl
                refine pure_ (i := 4) (N := some 58) (v := ?_) (a' := ?_) #[false, false, true, true, true, false, false, false, false, false, false] rfl rfl (any_of HT_.out kR) (fun _ _ _ h => h) (Or.inl ⟨by rfl, ?_⟩) ?_ ?_
                rotate_left
                ·intro w'
                 go_simp
                 with_reducible rfl
                rotate_left
                ·simp only [Act.put, sI, sZ, sS, i64_w, i32_w]
                 rfl
                refine pure_ (i := 5) (N := some 59) (v := ?_) (a' := ?_) #[false, false, true, true, true, true, false, false, false, false, false] rfl rfl (any_of HT_.out kR) (fun _ _ _ h => h) (Or.inl ⟨by rfl, ?_⟩) ?_ ?_
                rotate_left
                ·intro w'
                 go_simp
                 with_reducible rfl
                rotate_left
                ·simp only [Act.put, sI, sZ, sS, i64_w, i32_w]
                 rfl
                refine pure_ (i := 6) (N := some 60) (v := ?_) (a' := ?_) #[false, false, true, true, true, true, true, false, false, false, false] rfl rfl (any_of HT_.out kR) (fun _ _ _ h => h) (Or.inl ⟨by rfl, ?_⟩) ?_ ?_
                rotate_left
                ·intro w'
                 go_simp
                 with_reducible rfl
                rotate_left
                ·simp only [Act.put, sI, sZ, sS, i64_w, i32_w]
                 rfl
                refine pure_ (i := 7) (N := some 61) (v := ?_) (a' := ?_) #[false, false, true, true, true, true, true, true, false, false, false] rfl rfl (any_of HT_.out kR) (fun _ _ _ h => h) (Or.inl ⟨by rfl, ?_⟩) ?_ ?_
                rotate_left
                ·intro w'
                 go_simp
                 with_reducible rfl
                rotate_left
                ·simp only [Act.put, sI, sZ, sS, i64_w, i32_w]
                 rfl
                refine take_ (i := 0) (N := some 54) (v := ?_) (a' := ?_) #[true, false, true, true, true, true, true, true, false, false, false] rfl rfl (take_ofW HT_.out HW_.out kR) (fun _ _ _ h => h) (Or.inl ⟨by rfl, ?_⟩) hHeld ?_ ?_
                rotate_left
                ·rintro w' ⟨s0, s1, s2, s3, s4, s5⟩
                 go_simp
                 with_reducible rfl
                rotate_left
                ·simp only [Act.put, sI, sZ, sS, i64_w, i32_w]
                 rfl
                refine take_ (i := 1) (N := some 55) (v := ?_) (a' := ?_) #[true, true, true, true, true, true, true, true, false, false, false] rfl rfl (take_ofW HT_.out HW_.out kR) (fun _ _ _ h => h) (Or.inl ⟨by rfl, ?_⟩) hHeld ?_ ?_
                rotate_left
                ·rintro w' ⟨s0, s1, s2, s3, s4, s5⟩
                 go_simp
                 with_reducible rfl
                rotate_left
                ·simp only [Act.put, sI, sZ, sS, i64_w, i32_w]
                 rfl
                refine take_ (i := 8) (N := some 62) (v := ?_) (a' := ?_) #[true, true, true, true, true, true, true, true, true, false, false] rfl rfl (take_ofW HT_.out HW_.out kR) (fun _ _ _ h => h) (Or.inl ⟨by rfl, ?_⟩) hHeld ?_ ?_
                rotate_left
                ·rintro w' ⟨s0, s1, s2, s3, s4, s5⟩
                 go_simp
                 with_reducible rfl
                rotate_left
                ·simp only [Act.put, sI, sZ, sS, i64_w, i32_w]
                 rfl
                refine one_ (i := 9) (N := some 63) #[true, true, true, true, true, true, true, true, true, true, false] rfl rfl (one_of HT_.out kR) (by decide) (fun K hK => ?_)
                refine goes_ Try.func134 kR rfl #[.agg #[.int .i64 ((rd_impl_Peg l0 x42_2).f0), .int .i64 ((rd_impl_Peg l0 x42_2).f1)], .agg #[.int .i64 ((rd_impl_Peg l0 (ji34)).f0), .int .i64 ((rd_impl_Peg l0 (ji34)).f1)], .agg #[.int .i64 ((rd_impl_Peg l0 (ji37)).f0), .int .i64 ((rd_impl_Peg l0 (ji37)).f1)]] (by rfl) rfl rfl (by (try simp only [mA, mC, mN]); first | done | (simp only [hji34, hji37]; rfl) | rfl | (simp only [lD, lT]; rfl)) ?_
                with_reducible refine (spec_pgTurn.calls ((rd_impl_Peg l0 x42_2).f0) ((rd_impl_Peg l0 x42_2).f1) ((rd_impl_Peg l0 (ji34)).f0) ((rd_impl_Peg l0 (ji34)).f1) ((rd_impl_Peg l0 (ji37)).f0) ((rd_impl_Peg l0 (ji37)).f1) t142 _ A40.out).mono ?_
                rintro e w57 ⟨rfl, hb⟩
                refine ⟨_, rfl, ?_⟩
                have n0_ := aM (blk_below (g := gb138) (o := .cells #[.int .i64 ((rd_impl_Peg l0 x42_2).f0), .int .i64 ((rd_impl_Peg l0 x42_2).f1)] 34 (0, 0)) (gQ BK138) hb)
                have n1_ := aM (blk_below (g := gb140) (o := .cells #[.int .i64 ((rd_impl_Peg l0 (ji34)).f0), .int .i64 ((rd_impl_Peg l0 (ji34)).f1)] 34 (0, 0)) (gQ BK140) hb)
                have n2_ := aM (pT (by repeat (first | (with_reducible first | exact HB.out | apply pA | apply pN | apply pD | refine pS ?_ GE138.out | refine pS ?_ GE140.out) | exact HB.out)) hb)
                clear BK138
                clear BK140
                clear HB
                have BK138 := n0_
                have BK140 := n1_
                have HB := n2_
                clear n0_ n1_ n2_
                (try clear hb)
                (try clear hb2)
                (try clear hk)
                (try clear hi)
                refine hK.out _ _ ⟨(kC BK138.out 0).trans rfl, (kC BK138.out 1).trans rfl, (kC BK140.out 0).trans rfl, (kC BK140.out 1).trans rfl, ((HB.out.cell (wB w _ hw141_0)).trans hw141_0), ((HB.out.cell (wB w _ hw141_1)).trans hw141_1)⟩ (fun hHeld => ?_)
                clear hK K
                refine norm_ (a' := ?_) ?_ ?_
                rotate_left
                ·show Act.put _ (some 63) _ = _
                 simp only [Act.put, sI, sZ, sS, i64_w, i32_w]
                 rfl
                refine pure_ (i := 10) (N := some 64) (v := ?_) (a' := ?_) #[true, true, true, true, true, true, true, true, true, true, true] rfl rfl (any_of HT_.out kR) (fun _ _ _ h => h) (Or.inl ⟨by rfl, ?_⟩) ?_ ?_
                rotate_left
                ·intro w'
                 go_simp
                 with_reducible rfl
                rotate_left
                ·simp only [Act.put, sI, sZ, sS, i64_w, i32_w]
                 rfl
                refine done_ (done_of HT_.out kR) ?_
                try go_wp2
                go_loopg [11] k2 (fun kq v11 w' => ∃ (x11_3 : Int), v11 = .int .i64 x11_3 ∧ Aside0 (spec_pgGood.l3 kq l0 (l0.length : Int) x42_2 x11_3 l0 (l0.length : Int) x42_2 ((rd_impl_Peg l0 x42_2).f0) ((rd_impl_Peg l0 x42_2).f1) ((rd_impl_Peg l0 (ji34)).f0) ((rd_impl_Peg l0 (ji34)).f1) = some r) ∧ Aside0 (kq ≤ k2) ∧ Aside0 (w'.heap[gb138]? = some (.cells #[.int .i64 ((rd_impl_Peg l0 x42_2).f0), .int .i64 ((rd_impl_Peg l0 x42_2).f1)] 34 (0, 0))) ∧ Aside0 (w'.heap[gb140]? = some (.cells #[.int .i64 ((rd_impl_Peg l0 (ji34)).f0), .int .i64 ((rd_impl_Peg l0 (ji34)).f1)] 34 (0, 0))) ∧ Aside0 (Below w.heap.size w w'))
                case atStart => exact ⟨(wrap64 (x42_2 + 2)), eQ, H', ⟨Nat.le_refl _⟩, ⟨by (with_reducible repeat (first | refine kN ?_ _ | refine kD ?_ | refine kA ?_ _)); exact BK138.out⟩, ⟨by (with_reducible repeat (first | refine kN ?_ _ | refine kD ?_ | refine kA ?_ _)); exact BK140.out⟩, ⟨by repeat (first | (with_reducible first | exact HB.out | apply pA | apply pN | apply pD | refine pS ?_ GE138.out | refine pS ?_ GE140.out) | exact HB.out)⟩⟩
                case round =>
                 clear H'
                 try clear c1
                 try clear p1
                 try clear q1
                 try clear hx1
                 try clear c2
                 try clear p2
                 try clear c3
                 try clear c4
                 try clear c4b0
                 try clear c5
                 try clear c5b0
                 try clear c6
                 try clear c6b0
                 try clear p6
                 try clear c8
                 try clear c9
                 try clear c9b0
                 try clear c10
                 try clear c10b0
                 try clear c10b1
                 try clear p12
                 try clear q12
                 try clear hx12
                 try clear c13
                 try clear p13
                 try clear q13
                 try clear hx13
                 try clear p14
                 try clear q14
                 try clear hx14
                 try clear c15
                 try clear c15b0
                 try clear c16
                 try clear c16b0
                 try clear c17
                 try clear c17b0
                 try clear c18
                 try clear c18b0
                 try clear c18b1
                 try clear c18b2
                 try clear c20
                 try clear c24
                 try clear c30
                 try clear c30b0
                 try clear c31
                 try clear c31b0
                 try clear c32
                 try clear c32b0
                 try clear c33
                 try clear c33b0
                 try clear c33b1
                 try clear c33b2
                 try clear c35
                 try clear c35b0
                 try clear c36
                 try clear c36b0
                 try clear c38
                 try clear c38b0
                 try clear c39
                 try clear c39b0
                 try clear c41
                 try clear c41b0
                 try clear c41b1
                 try clear c45
                 try clear c53
                 try clear hcz12_0
                 try clear hcz12_1
                 try clear hcz21_0
                 try clear hcz21_1
                 try clear hcz22_0
                 try clear hcz22_1
                 try clear hcz25_0
                 try clear hcz25_1
                 try clear hcz26_0
                 try clear hcz26_1
                 try clear hcz28_0
                 try clear hcz28_1
                 try clear hcz43_0
                 try clear hcz43_1
                 try clear hcz46_0
                 try clear hcz46_1
                 try clear hcz51_0
                 try clear hcz51_1
                 try clear hcz54_0
                 try clear hcz54_1
                 try clear hfz12_0
                 try clear hfz12_1
                 try clear hfz21_0
                 try clear hfz21_1
                 try clear hfz22_0
                 try clear hfz22_1
                 try clear hfz25_0
                 try clear hfz25_1
                 try clear hfz26_0
                 try clear hfz26_1
                 try clear hfz28_0
                 try clear hfz28_1
                 try clear hfz43_0
                 try clear hfz43_1
                 try clear hfz46_0
                 try clear hfz46_1
                 try clear hfz51_0
                 try clear hfz51_1
                 try clear hfz54_0
                 try clear hfz54_1
                 try clear hx128_0
                 try clear hx128_1
                 try clear hx135_0
                 try clear hx135_1
                 try clear hx137_0
                 try clear hx137_1
                 try clear hx139_0
                 try clear hx139_1
                 try clear hx141_0
                 try clear hx141_1
                 try clear p1
                 try clear p12
                 try clear p128
                 try clear p13
                 try clear p135
                 try clear p137
                 try clear p139
                 try clear p141
                 try clear p2
                 try clear p6
                 try clear q1
                 try clear q12
                 try clear q128
                 try clear q13
                 try clear q135
                 try clear q137
                 try clear q139
                 try clear q14
                 try clear q141
                 obtain ⟨x11_3, rfl, HA, HK3, BK138, BK140, HB⟩ := hrel
                 cases gk with
                 | zero => exact absurd HA.out (by simp [spec_pgGood.l3])
                 | succ k3 =>
                  have H := HA.out
                  clear HA
                  simp only [spec_pgGood.l3] at H
                  have HC58 := aM H
                  clear H
                  go_upto_region 23 with (fail)
                  go_cut [77] (fun v77 wc => ∃ (kq : Nat) (x77_57 : Bool), v77 = .bool x77_57 ∧ Aside0 (spec_pgGood.j4 kq l0 (l0.length : Int) x42_2 x11_3 l0 (l0.length : Int) x42_2 x77_57 ((rd_impl_Peg l0 x42_2).f0) ((rd_impl_Peg l0 x42_2).f1) ((rd_impl_Peg l0 (ji34)).f0) ((rd_impl_Peg l0 (ji34)).f1) = some r) ∧ Aside0 (kq ≤ k3) ∧ Aside0 (wc.heap[gb138]? = some (.cells #[.int .i64 ((rd_impl_Peg l0 x42_2).f0), .int .i64 ((rd_impl_Peg l0 x42_2).f1)] 34 (0, 0))) ∧ Aside0 (wc.heap[gb140]? = some (.cells #[.int .i64 ((rd_impl_Peg l0 (ji34)).f0), .int .i64 ((rd_impl_Peg l0 (ji34)).f1)] 34 (0, 0))) ∧ Aside0 (Below w.heap.size w wc))
                  case first =>
                   have H := HC58.out
                   clear HC58
                   by_cases c59 : x11_3 < (l0.length : Int)
                   ·rw [if_pos c59] at H
                    have c59b0 : decide (x11_3 < (l0.length : Int)) = true := dE c59
                    clear c59
                    (first | rw [c59b0] | (simp only [i64_w, i32_w]; rw [c59b0]) | skip)
                    have H' := aM H
                    clear H
                    go_wp2
                    go_meet
                    case rel => exact ⟨_, (decide ((wrap64 (x11_3 - x42_2)) < (wrap64 ((l0.length : Int) - 1)))), eQ, H', ⟨by have := HK1.out; have := HK2.out; have := HK3.out; first | omega | exact Nat.le_refl _⟩, ⟨by (with_reducible repeat (first | refine kN ?_ _ | refine kD ?_ | refine kA ?_ _)); exact BK138.out⟩, ⟨by (with_reducible repeat (first | refine kN ?_ _ | refine kD ?_ | refine kA ?_ _)); exact BK140.out⟩, ⟨by repeat (first | (with_reducible first | exact HB.out | apply pA | apply pN | apply pD | refine pS ?_ GE138.out | refine pS ?_ GE140.out) | exact HB.out)⟩⟩
                   ·rw [if_neg c59] at H
                    have c59b0 : decide (x11_3 < (l0.length : Int)) = false := decide_eq_false c59
                    clear c59
                    (first | rw [c59b0] | (simp only [i64_w, i32_w]; rw [c59b0]) | skip)
                    have H' := aM H
                    clear H
                    go_wp2
                    go_meet
                    case rel => exact ⟨_, (false), eQ, H', ⟨by have := HK1.out; have := HK2.out; have := HK3.out; first | omega | exact Nat.le_refl _⟩, ⟨by (with_reducible repeat (first | refine kN ?_ _ | refine kD ?_ | refine kA ?_ _)); exact BK138.out⟩, ⟨by (with_reducible repeat (first | refine kN ?_ _ | refine kD ?_ | refine kA ?_ _)); exact BK140.out⟩, ⟨by repeat (first | (with_reducible first | exact HB.out | apply pA | apply pN | apply pD | refine pS ?_ GE138.out | refine pS ?_ GE140.out) | exact HB.out)⟩⟩
                  case rest =>
                   clear HC58
                   try clear c1
                   try clear p1
                   try clear q1
                   try clear hx1
                   try clear c2
                   try clear p2
                   try clear c3
                   try clear c4
                   try clear c4b0
                   try clear c5
                   try clear c5b0
                   try clear c6
                   try clear c6b0
                   try clear p6
                   try clear c8
                   try clear c9
                   try clear c9b0
                   try clear c10
                   try clear c10b0
                   try clear c10b1
                   try clear p12
                   try clear q12
                   try clear hx12
                   try clear c13
                   try clear p13
                   try clear q13
                   try clear hx13
                   try clear p14
                   try clear q14
                   try clear hx14
                   try clear c15
                   try clear c15b0
                   try clear c16
                   try clear c16b0
                   try clear c17
                   try clear c17b0
                   try clear c18
                   try clear c18b0
                   try clear c18b1
                   try clear c18b2
                   try clear c20
                   try clear c24
                   try clear c30
                   try clear c30b0
                   try clear c31
                   try clear c31b0
                   try clear c32
                   try clear c32b0
                   try clear c33
                   try clear c33b0
                   try clear c33b1
                   try clear c33b2
                   try clear c35
                   try clear c35b0
                   try clear c36
                   try clear c36b0
                   try clear c38
                   try clear c38b0
                   try clear c39
                   try clear c39b0
                   try clear c41
                   try clear c41b0
                   try clear c41b1
                   try clear c45
                   try clear c53
                   try clear c59
                   try clear c59b0
                   try clear hcz12_0
                   try clear hcz12_1
                   try clear hcz21_0
                   try clear hcz21_1
                   try clear hcz22_0
                   try clear hcz22_1
                   try clear hcz25_0
                   try clear hcz25_1
                   try clear hcz26_0
                   try clear hcz26_1
                   try clear hcz28_0
                   try clear hcz28_1
                   try clear hcz43_0
                   try clear hcz43_1
                   try clear hcz46_0
                   try clear hcz46_1
                   try clear hcz51_0
                   try clear hcz51_1
                   try clear hcz54_0
                   try clear hcz54_1
                   try clear hfz12_0
                   try clear hfz12_1
                   try clear hfz21_0
                   try clear hfz21_1
                   try clear hfz22_0
                   try clear hfz22_1
                   try clear hfz25_0
                   try clear hfz25_1
                   try clear hfz26_0
                   try clear hfz26_1
                   try clear hfz28_0
                   try clear hfz28_1
                   try clear hfz43_0
                   try clear hfz43_1
                   try clear hfz46_0
                   try clear hfz46_1
                   try clear hfz51_0
                   try clear hfz51_1
                   try clear hfz54_0
                   try clear hfz54_1
                   try clear hx128_0
                   try clear hx128_1
                   try clear hx135_0
                   try clear hx135_1
                   try clear hx137_0
                   try clear hx137_1
                   try clear hx139_0
                   try clear hx139_1
                   try clear hx141_0
                   try clear hx141_1
                   try clear p1
                   try clear p12
                   try clear p128
                   try clear p13
                   try clear p135
                   try clear p137
                   try clear p139
                   try clear p14
                   try clear p141
                   try clear p2
                   try clear p6
                   try clear q1
                   try clear q12
                   try clear q128
                   try clear q13
                   try clear q135
                   try clear q137
                   try clear q139
                   try clear q14
                   try clear q141
                   obtain ⟨kq, x77_57, rfl, HA, HJ57, BK138, BK140, HB⟩ := hcut
                   cases kq with
                   | zero => exact absurd HA.out (by simp [spec_pgGood.j4])
                   | succ kj57 =>
                    have H := HA.out
                    clear HA
                    simp only [spec_pgGood.j4] at H
                    by_cases c60 : x77_57 = true
                    ·subst c60
                     have H1 : (if 0 ≤ x11_3 then (if x11_3 < (l0.length : Int) then (if (l0.length : Int) = 0 then (none) else (if 0 ≤ (Int.tmod (wrap64 (x11_3 + 1)) (l0.length : Int)) then (if (Int.tmod (wrap64 (x11_3 + 1)) (l0.length : Int)) < (l0.length : Int) then ((spec_pgMeet.f kj57 ((rd_impl_Peg l0 x42_2).f0) ((rd_impl_Peg l0 x42_2).f1) ((rd_impl_Peg l0 (ji34)).f0) ((rd_impl_Peg l0 (ji34)).f1) ((rd_impl_Peg l0 x11_3).f0) ((rd_impl_Peg l0 x11_3).f1) ((rd_impl_Peg l0 (Int.tmod (wrap64 (x11_3 + 1)) (l0.length : Int))).f0) ((rd_impl_Peg l0 (Int.tmod (wrap64 (x11_3 + 1)) (l0.length : Int))).f1)).bind fun t145 => (if t145 = true then (some false) else (spec_pgGood.l3 kj57 l0 (l0.length : Int) x42_2 (wrap64 (x11_3 + 1)) l0 (l0.length : Int) x42_2 ((rd_impl_Peg l0 x42_2).f0) ((rd_impl_Peg l0 x42_2).f1) ((rd_impl_Peg l0 (ji34)).f0) ((rd_impl_Peg l0 (ji34)).f1)))) else (none)) else (none))) else (none)) else (none)) = some r := by rw [if_pos rfl] at H; exact H
                     clear H
                     have H := H1
                     clear H1
                     by_cases c61 : 0 ≤ x11_3
                     ·rw [if_pos c61] at H
                      have c61b0 : decide (0 ≤ x11_3) = true := dE c61
                      clear c61
                      by_cases c62 : x11_3 < (l0.length : Int)
                      ·rw [if_pos c62] at H
                       have c62b0 : decide (x11_3 < (l0.length : Int)) = true := dE c62
                       clear c62
                       by_cases c63 : (l0.length : Int) = 0
                       ·rw [if_pos c63] at H
                        exact absurd H (by simp)
                       ·rw [if_neg c63] at H
                        have c63b0 : ((l0.length : Int) == 0) = false := beq_eq_false_iff_ne.mpr c63
                        have c63b1 : ((l0.length : Int) != 0) = true := bne_iff_ne.mpr c63
                        have c63b2 : ¬ (l0 = []) := fun h_ => c63 (by rw [h_]; rfl)
                        obtain ⟨ji64, hji64⟩ : ∃ j_ : Int, (Int.tmod (wrap64 (x11_3 + 1)) (l0.length : Int)) = j_ := ⟨_, rfl⟩
                        replace H : (if 0 ≤ (ji64) then (if (ji64) < (l0.length : Int) then ((spec_pgMeet.f kj57 ((rd_impl_Peg l0 x42_2).f0) ((rd_impl_Peg l0 x42_2).f1) ((rd_impl_Peg l0 (ji34)).f0) ((rd_impl_Peg l0 (ji34)).f1) ((rd_impl_Peg l0 x11_3).f0) ((rd_impl_Peg l0 x11_3).f1) ((rd_impl_Peg l0 (ji64)).f0) ((rd_impl_Peg l0 (ji64)).f1)).bind fun t145 => (if t145 = true then (some false) else (spec_pgGood.l3 kj57 l0 (l0.length : Int) x42_2 (wrap64 (x11_3 + 1)) l0 (l0.length : Int) x42_2 ((rd_impl_Peg l0 x42_2).f0) ((rd_impl_Peg l0 x42_2).f1) ((rd_impl_Peg l0 (ji34)).f0) ((rd_impl_Peg l0 (ji34)).f1)))) else (none)) else (none)) = some r := by first | (rw [hji64] at H; exact H) | (simp only [hji64] at H ⊢; exact H)
                        by_cases c65 : 0 ≤ (ji64)
                        ·rw [if_pos c65] at H
                         have c65b0 : decide (0 ≤ (ji64)) = true := dE c65
                         clear c65
                         by_cases c66 : (ji64) < (l0.length : Int)
                         ·rw [if_pos c66] at H
                          have c66b0 : decide ((ji64) < (l0.length : Int)) = true := dE c66
                          clear c66
                          replace H := oB.mp H
                          obtain ⟨t145, A670, H⟩ := H
                          replace H : (if t145 = true then (some false) else (spec_pgGood.l3 kj57 l0 (l0.length : Int) x42_2 (wrap64 (x11_3 + 1)) l0 (l0.length : Int) x42_2 ((rd_impl_Peg l0 x42_2).f0) ((rd_impl_Peg l0 x42_2).f1) ((rd_impl_Peg l0 (ji34)).f0) ((rd_impl_Peg l0 (ji34)).f1))) = some r := H
                          have A67 := aM A670
                          clear A670
                          by_cases c68 : t145 = true
                          ·subst c68
                           have H1 : (some false) = some r := by rw [if_pos rfl] at H; exact H
                           clear H
                           have H := H1
                           clear H1
                           obtain rfl := Option.some.inj H
                           try go_wp2
                           have n0_ := aM (kD BK138.out)
                           have n1_ := aM (kD BK140.out)
                           have n2_ := aM (pD HB.out)
                           clear BK138
                           clear BK140
                           clear HB
                           have BK138 := n0_
                           have BK140 := n1_
                           have HB := n2_
                           clear n0_ n1_ n2_
                           have p143 : 0 ≤ (x11_3 : Int) := dT aQ
                           have q143 : x11_3 < (l0.length : Int) := dT aQ
                           obtain ⟨ad143, e143, hx143_0, hx143_1⟩ := at_impl_Peg HR0.out x11_3 p143 q143
                           have hw143_1 := hx143_1
                           have hw143_0 := hx143_0
                           obtain rfl : ad137 = ad143 := (by injection e143)
                           replace hx143_0 := (HB.out.cell (wB w _ hx143_0)).trans hx143_0
                           replace hx143_1 := (HB.out.cell (wB w _ hx143_1)).trans hx143_1
                           replace p143 := eq_true p143
                           replace q143 := eq_true q143
                           have p144 : 0 ≤ ((ji64) : Int) := dT aQ
                           have q144 : (ji64) < (l0.length : Int) := dT aQ
                           obtain ⟨ad144, e144, hx144_0, hx144_1⟩ := at_impl_Peg HR0.out (ji64) p144 q144
                           have hw144_1 := hx144_1
                           have hw144_0 := hx144_0
                           obtain rfl : ad137 = ad144 := (by injection e144)
                           replace hx144_0 := (HB.out.cell (wB w _ hx144_0)).trans hx144_0
                           replace hx144_1 := (HB.out.cell (wB w _ hx144_1)).trans hx144_1
                           replace p144 := eq_true p144
                           replace q144 := eq_true q144
                           refine start_ (n := 14) (S := fun w' => w'.cell? ⟨gb138, 0, none⟩ = some (.int .i64 ((rd_impl_Peg l0 x42_2).f0)) ∧ w'.cell? ⟨gb138, 1, none⟩ = some (.int .i64 ((rd_impl_Peg l0 x42_2).f1)) ∧ w'.cell? ⟨gb140, 0, none⟩ = some (.int .i64 ((rd_impl_Peg l0 (ji34)).f0)) ∧ w'.cell? ⟨gb140, 1, none⟩ = some (.int .i64 ((rd_impl_Peg l0 (ji34)).f1)) ∧ w'.cell? (ad137.add ((x11_3).toNat * 2)) = some (.int .i64 ((rd_impl_Peg l0 x11_3).f0)) ∧ w'.cell? ⟨(ad137.add ((x11_3).toNat * 2)).block, (ad137.add ((x11_3).toNat * 2)).off + 1, none⟩ = some (.int .i64 ((rd_impl_Peg l0 x11_3).f1)) ∧ w'.cell? (ad137.add (((ji64)).toNat * 2)) = some (.int .i64 ((rd_impl_Peg l0 (ji64)).f0)) ∧ w'.cell? ⟨(ad137.add (((ji64)).toNat * 2)).block, (ad137.add (((ji64)).toNat * 2)).off + 1, none⟩ = some (.int .i64 ((rd_impl_Peg l0 (ji64)).f1))) (ds := []) #[false, false, false, false, false, false, false, false, false, false, false, false, false, false] kR rfl rfl ⟨(kC BK138.out 0).trans rfl, (kC BK138.out 1).trans rfl, (kC BK140.out 0).trans rfl, (kC BK140.out 1).trans rfl, ((HB.out.cell (wB w _ hw143_0)).trans hw143_0), ((HB.out.cell (wB w _ hw143_1)).trans hw143_1), ((HB.out.cell (wB w _ hw144_0)).trans hw144_0), ((HB.out.cell (wB w _ hw144_1)).trans hw144_1)⟩ (fun hHeld => ?_); refine with_tabW spec_pgGood.tab25 spec_pgGood.bits25 (fun HT_ HW_ => ?_)
                           generalize wc.drew = w69 at BK138 BK140 HB hx143_0 hx143_1 hx144_0 hx144_1 hHeld ⊢
                           refine pure_ (i := 2) (N := some 82) (v := ?_) (a' := ?_) #[false, false, true, false, false, false, false, false, false, false, false, false, false, false] rfl rfl (any_of HT_.out kR) (fun _ _ _ h => h) (Or.inl ⟨by rfl, ?_⟩) ?_ ?_
                           rotate_left
                           ·intro w'
                            go_simp
                            with_reducible rfl
                           rotate_left
                           ·simp only [Act.put, sI, sZ, sS, i64_w, i32_w]
                            rfl
                           refine pure_ (i := 3) (N := some 83) (v := ?_) (a' := ?_) #[false, false, true, true, false, false, false, false, false, false, false, false, false, false] rfl rfl (any_of HT_.out kR) (fun _ _ _ h => h) (Or.inl ⟨by rfl, ?_⟩) ?_ ?_
                           rotate_left
                           ·intro w'
                            go_simp
                            with_reducible rfl
                           rotate_left
                           ·simp only [Act.put, sI, sZ, sS, i64_w, i32_w]
                            rfl
                           refine pure_ (i := 4) (N := some 84) (v := ?_) (a' := ?_) #[false, false, true, true, true, false, false, false, false, false, false, false, false, false] rfl rfl (any_of HT_.out kR) (fun _ _ _ h => h) (Or.inl ⟨by rfl, ?_⟩) ?_ ?_
                           rotate_left
                           ·intro w'
                            go_simp
                            with_reducible rfl
                           rotate_left
                           ·simp only [Act.put, sI, sZ, sS, i64_w, i32_w]
                            rfl
                           refine pure_ (i := 6) (N := some 86) (v := ?_) (a' := ?_) #[false, false, true, true, true, false, true, false, false, false, false, false, false, false] rfl rfl (any_of HT_.out kR) (fun _ _ _ h => h) (Or.inl ⟨by rfl, ?_⟩) ?_ ?_
                           rotate_left
                           ·intro w'
                            go_simp
                            with_reducible rfl
                           rotate_left
                           ·simp only [Act.put, sI, sZ, sS, i64_w, i32_w]
                            rfl
                           refine pure_ (i := 7) (N := some 87) (v := ?_) (a' := ?_) #[false, false, true, true, true, false, true, true, false, false, false, false, false, false] rfl rfl (any_of HT_.out kR) (fun _ _ _ h => h) (Or.inl ⟨by rfl, ?_⟩) ?_ ?_
                           rotate_left
                           ·intro w'
                            go_simp
                            with_reducible rfl
                           rotate_left
                           ·simp only [Act.put, sI, sZ, sS, i64_w, i32_w]
                            rfl
                           refine pure_ (i := 8) (N := some 88) (v := ?_) (a' := ?_) #[false, false, true, true, true, false, true, true, true, false, false, false, false, false] rfl rfl (any_of HT_.out kR) (fun _ _ _ h => h) (Or.inl ⟨by rfl, ?_⟩) ?_ ?_
                           rotate_left
                           ·intro w'
                            go_simp
                            with_reducible rfl
                           rotate_left
                           ·simp only [Act.put, sI, sZ, sS, i64_w, i32_w]
                            rfl
                           refine pure_ (i := 9) (N := some 89) (v := ?_) (a' := ?_) #[false, false, true, true, true, false, true, true, true, true, false, false, false, false] rfl rfl (any_of HT_.out kR) (fun _ _ _ h => h) (Or.inl ⟨by rfl, ?_⟩) ?_ ?_
                           rotate_left
                           ·intro w'
                            go_simp
                            with_reducible rfl
                           rotate_left
                           ·simp only [Act.put, sI, sZ, sS, i64_w, i32_w]
                            rfl
                           refine pure_ (i := 10) (N := some 90) (v := ?_) (a' := ?_) #[false, false, true, true, true, false, true, true, true, true, true, false, false, false] rfl rfl (any_of HT_.out kR) (fun _ _ _ h => h) (Or.inl ⟨by rfl, ?_⟩) ?_ ?_
                           rotate_left
                           ·intro w'
                            go_simp
                            with_reducible rfl
                           rotate_left
                           ·simp only [Act.put, sI, sZ, sS, i64_w, i32_w]
                            rfl
                           refine pure_ (i := 11) (N := some 91) (v := ?_) (a' := ?_) #[false, false, true, true, true, false, true, true, true, true, true, true, false, false] rfl rfl (any_of HT_.out kR) (fun _ _ _ h => h) (Or.inl ⟨by rfl, ?_⟩) ?_ ?_
                           rotate_left
                           ·intro w'
                            go_simp
                            with_reducible rfl
                           rotate_left
                           ·simp only [Act.put, sI, sZ, sS, i64_w, i32_w]
                            rfl
                           refine take_ (i := 0) (N := some 80) (v := ?_) (a' := ?_) #[true, false, true, true, true, false, true, true, true, true, true, true, false, false] rfl rfl (take_ofW HT_.out HW_.out kR) (fun _ _ _ h => h) (Or.inl ⟨by rfl, ?_⟩) hHeld ?_ ?_
                           rotate_left
                           ·rintro w' ⟨s0, s1, s2, s3, s4, s5, s6, s7⟩
                            go_simp
                            with_reducible rfl
                           rotate_left
                           ·simp only [Act.put, sI, sZ, sS, i64_w, i32_w]
                            rfl
                           refine take_ (i := 1) (N := some 81) (v := ?_) (a' := ?_) #[true, true, true, true, true, false, true, true, true, true, true, true, false, false] rfl rfl (take_ofW HT_.out HW_.out kR) (fun _ _ _ h => h) (Or.inl ⟨by rfl, ?_⟩) hHeld ?_ ?_
                           rotate_left
                           ·rintro w' ⟨s0, s1, s2, s3, s4, s5, s6, s7⟩
                            go_simp
                            with_reducible rfl
                           rotate_left
                           ·simp only [Act.put, sI, sZ, sS, i64_w, i32_w]
                            rfl
                           refine take_ (i := 5) (N := some 85) (v := ?_) (a' := ?_) #[true, true, true, true, true, true, true, true, true, true, true, true, false, false] rfl rfl (take_ofW HT_.out HW_.out kR) (fun _ _ _ h => h) (Or.inl ⟨by rfl, ?_⟩) hHeld ?_ ?_
                           rotate_left
                           ·rintro w' ⟨s0, s1, s2, s3, s4, s5, s6, s7⟩
                            go_simp
                            with_reducible rfl
                           rotate_left
                           ·simp only [Act.put, sI, sZ, sS, i64_w, i32_w]
                            rfl
                           refine take_ (i := 12) (N := some 92) (v := ?_) (a' := ?_) #[true, true, true, true, true, true, true, true, true, true, true, true, true, false] rfl rfl (take_ofW HT_.out HW_.out kR) (fun _ _ _ h => h) (Or.inl ⟨by rfl, ?_⟩) hHeld ?_ ?_
                           rotate_left
                           ·rintro w' ⟨s0, s1, s2, s3, s4, s5, s6, s7⟩
                            go_simp
                            with_reducible rfl
                           rotate_left
                           ·simp only [Act.put, sI, sZ, sS, i64_w, i32_w]
                            rfl
                           refine one_ (i := 13) (N := some 93) #[true, true, true, true, true, true, true, true, true, true, true, true, true, true] rfl rfl (one_of HT_.out kR) (by decide) (fun K hK => ?_)
                           refine goes_ Try.func135 kR rfl #[.agg #[.int .i64 ((rd_impl_Peg l0 x42_2).f0), .int .i64 ((rd_impl_Peg l0 x42_2).f1)], .agg #[.int .i64 ((rd_impl_Peg l0 (ji34)).f0), .int .i64 ((rd_impl_Peg l0 (ji34)).f1)], .agg #[.int .i64 ((rd_impl_Peg l0 x11_3).f0), .int .i64 ((rd_impl_Peg l0 x11_3).f1)], .agg #[.int .i64 ((rd_impl_Peg l0 (ji64)).f0), .int .i64 ((rd_impl_Peg l0 (ji64)).f1)]] (by rfl) rfl rfl (by (try simp only [mA, mC, mN]); first | done | (simp only [hji34, hji64]; rfl) | rfl | (simp only [lD, lT]; rfl)) ?_
                           with_reducible refine (spec_pgMeet.calls kj57 ((rd_impl_Peg l0 x42_2).f0) ((rd_impl_Peg l0 x42_2).f1) ((rd_impl_Peg l0 (ji34)).f0) ((rd_impl_Peg l0 (ji34)).f1) ((rd_impl_Peg l0 x11_3).f0) ((rd_impl_Peg l0 x11_3).f1) ((rd_impl_Peg l0 (ji64)).f0) ((rd_impl_Peg l0 (ji64)).f1) true _ A67.out).mono ?_
                           rintro e w70 ⟨rfl, hb⟩
                           refine ⟨_, rfl, ?_⟩
                           have n0_ := aM (blk_below (g := gb138) (o := .cells #[.int .i64 ((rd_impl_Peg l0 x42_2).f0), .int .i64 ((rd_impl_Peg l0 x42_2).f1)] 34 (0, 0)) (gQ BK138) hb)
                           have n1_ := aM (blk_below (g := gb140) (o := .cells #[.int .i64 ((rd_impl_Peg l0 (ji34)).f0), .int .i64 ((rd_impl_Peg l0 (ji34)).f1)] 34 (0, 0)) (gQ BK140) hb)
                           have n2_ := aM (pT (by repeat (first | (with_reducible first | exact HB.out | apply pA | apply pN | apply pD | refine pS ?_ GE138.out | refine pS ?_ GE140.out) | exact HB.out)) hb)
                           clear BK138
                           clear BK140
                           clear HB
                           have BK138 := n0_
                           have BK140 := n1_
                           have HB := n2_
                           clear n0_ n1_ n2_
                           (try clear hb)
                           (try clear hb2)
                           (try clear hk)
                           (try clear hi)
                           refine hK.out _ _ ⟨(kC BK138.out 0).trans rfl, (kC BK138.out 1).trans rfl, (kC BK140.out 0).trans rfl, (kC BK140.out 1).trans rfl, ((HB.out.cell (wB w _ hw143_0)).trans hw143_0), ((HB.out.cell (wB w _ hw143_1)).trans hw143_1), ((HB.out.cell (wB w _ hw144_0)).trans hw144_0), ((HB.out.cell (wB w _ hw144_1)).trans hw144_1)⟩ (fun hHeld => ?_)
                           clear hK K
                           refine norm_ (a' := ?_) ?_ ?_
                           rotate_left
                           ·show Act.put _ (some 93) _ = _
                            simp only [Act.put, sI, sZ, sS, i64_w, i32_w]
                            rfl
                           refine done_ (done_of HT_.out kR) ?_
                           try go_wp2
                           go_ret
                           exact ⟨by first | rfl | (simp [errW_none, errW_some] <;> rfl) | (simp only [← hji34, ← hji37, ← hji64]; first | rfl | (simp [errW_none, errW_some] <;> rfl)) | (simp [*, errW_none, errW_some] <;> rfl), by repeat (first | (with_reducible first | exact HB.out | apply pA | apply pN | apply pD | refine pS ?_ GE138.out | refine pS ?_ GE140.out) | exact HB.out)⟩
                          ·replace c68 := Bool.eq_false_iff.mpr c68
                           subst c68
                           have H1 : (spec_pgGood.l3 kj57 l0 (l0.length : Int) x42_2 (wrap64 (x11_3 + 1)) l0 (l0.length : Int) x42_2 ((rd_impl_Peg l0 x42_2).f0) ((rd_impl_Peg l0 x42_2).f1) ((rd_impl_Peg l0 (ji34)).f0) ((rd_impl_Peg l0 (ji34)).f1)) = some r := by rw [if_neg (show ¬ (false = true) by decide)] at H; exact H
                           clear H
                           have H := H1
                           clear H1
                           have H' := aM H
                           clear H
                           try go_wp2
                           have n0_ := aM (kD BK138.out)
                           have n1_ := aM (kD BK140.out)
                           have n2_ := aM (pD HB.out)
                           clear BK138
                           clear BK140
                           clear HB
                           have BK138 := n0_
                           have BK140 := n1_
                           have HB := n2_
                           clear n0_ n1_ n2_
                           have p143 : 0 ≤ (x11_3 : Int) := dT aQ
                           have q143 : x11_3 < (l0.length : Int) := dT aQ
                           obtain ⟨ad143, e143, hx143_0, hx143_1⟩ := at_impl_Peg HR0.out x11_3 p143 q143
                           have hw143_1 := hx143_1
                           have hw143_0 := hx143_0
                           obtain rfl : ad137 = ad143 := (by injection e143)
                           replace hx143_0 := (HB.out.cell (wB w _ hx143_0)).trans hx143_0
                           replace hx143_1 := (HB.out.cell (wB w _ hx143_1)).trans hx143_1
                           replace p143 := eq_true p143
                           replace q143 := eq_true q143
                           have p144 : 0 ≤ ((ji64) : Int) := dT aQ
                           have q144 : (ji64) < (l0.length : Int) := dT aQ
                           obtain ⟨ad144, e144, hx144_0, hx144_1⟩ := at_impl_Peg HR0.out (ji64) p144 q144
                           have hw144_1 := hx144_1
                           have hw144_0 := hx144_0
                           obtain rfl : ad137 = ad144 := (by injection e144)
                           replace hx144_0 := (HB.out.cell (wB w _ hx144_0)).trans hx144_0
                           replace hx144_1 := (HB.out.cell (wB w _ hx144_1)).trans hx144_1
                           replace p144 := eq_true p144
                           replace q144 := eq_true q144
                           refine start_ (n := 14) (S := fun w' => w'.cell? ⟨gb138, 0, none⟩ = some (.int .i64 ((rd_impl_Peg l0 x42_2).f0)) ∧ w'.cell? ⟨gb138, 1, none⟩ = some (.int .i64 ((rd_impl_Peg l0 x42_2).f1)) ∧ w'.cell? ⟨gb140, 0, none⟩ = some (.int .i64 ((rd_impl_Peg l0 (ji34)).f0)) ∧ w'.cell? ⟨gb140, 1, none⟩ = some (.int .i64 ((rd_impl_Peg l0 (ji34)).f1)) ∧ w'.cell? (ad137.add ((x11_3).toNat * 2)) = some (.int .i64 ((rd_impl_Peg l0 x11_3).f0)) ∧ w'.cell? ⟨(ad137.add ((x11_3).toNat * 2)).block, (ad137.add ((x11_3).toNat * 2)).off + 1, none⟩ = some (.int .i64 ((rd_impl_Peg l0 x11_3).f1)) ∧ w'.cell? (ad137.add (((ji64)).toNat * 2)) = some (.int .i64 ((rd_impl_Peg l0 (ji64)).f0)) ∧ w'.cell? ⟨(ad137.add (((ji64)).toNat * 2)).block, (ad137.add (((ji64)).toNat * 2)).off + 1, none⟩ = some (.int .i64 ((rd_impl_Peg l0 (ji64)).f1))) (ds := []) #[false, false, false, false, false, false, false, false, false, false, false, false, false, false] kR rfl rfl ⟨(kC BK138.out 0).trans rfl, (kC BK138.out 1).trans rfl, (kC BK140.out 0).trans rfl, (kC BK140.out 1).trans rfl, ((HB.out.cell (wB w _ hw143_0)).trans hw143_0), ((HB.out.cell (wB w _ hw143_1)).trans hw143_1), ((HB.out.cell (wB w _ hw144_0)).trans hw144_0), ((HB.out.cell (wB w _ hw144_1)).trans hw144_1)⟩ (fun hHeld => ?_); refine with_tabW spec_pgGood.tab25 spec_pgGood.bits25 (fun HT_ HW_ => ?_)
                           generalize wc.drew = w71 at BK138 BK140 HB hx143_0 hx143_1 hx144_0 hx144_1 hHeld ⊢
                           refine pure_ (i := 2) (N := some 82) (v := ?_) (a' := ?_) #[false, false, true, false, false, false, false, false, false, false, false, false, false, false] rfl rfl (any_of HT_.out kR) (fun _ _ _ h => h) (Or.inl ⟨by rfl, ?_⟩) ?_ ?_
                           rotate_left
                           ·intro w'
                            go_simp
                            with_reducible rfl
                           rotate_left
                           ·simp only [Act.put, sI, sZ, sS, i64_w, i32_w]
                            rfl
                           refine pure_ (i := 3) (N := some 83) (v := ?_) (a' := ?_) #[false, false, true, true, false, false, false, false, false, false, false, false, false, false] rfl rfl (any_of HT_.out kR) (fun _ _ _ h => h) (Or.inl ⟨by rfl, ?_⟩) ?_ ?_
                           rotate_left
                           ·intro w'
                            go_simp
                            with_reducible rfl
                           rotate_left
                           ·simp only [Act.put, sI, sZ, sS, i64_w, i32_w]
                            rfl
                           refine pure_ (i := 4) (N := some 84) (v := ?_) (a' := ?_) #[false, false, true, true, true, false, false, false, false, false, false, false, false, false] rfl rfl (any_of HT_.out kR) (fun _ _ _ h => h) (Or.inl ⟨by rfl, ?_⟩) ?_ ?_
                           rotate_left
                           ·intro w'
                            go_simp
                            with_reducible rfl
                           rotate_left
                           ·simp only [Act.put, sI, sZ, sS, i64_w, i32_w]
                            rfl
                           refine pure_ (i := 6) (N := some 86) (v := ?_) (a' := ?_) #[false, false, true, true, true, false, true, false, false, false, false, false, false, false] rfl rfl (any_of HT_.out kR) (fun _ _ _ h => h) (Or.inl ⟨by rfl, ?_⟩) ?_ ?_
                           rotate_left
                           ·intro w'
                            go_simp
                            with_reducible rfl
                           rotate_left
                           ·simp only [Act.put, sI, sZ, sS, i64_w, i32_w]
                            rfl
                           refine pure_ (i := 7) (N := some 87) (v := ?_) (a' := ?_) #[false, false, true, true, true, false, true, true, false, false, false, false, false, false] rfl rfl (any_of HT_.out kR) (fun _ _ _ h => h) (Or.inl ⟨by rfl, ?_⟩) ?_ ?_
                           rotate_left
                           ·intro w'
                            go_simp
                            with_reducible rfl
                           rotate_left
                           ·simp only [Act.put, sI, sZ, sS, i64_w, i32_w]
                            rfl
                           refine pure_ (i := 8) (N := some 88) (v := ?_) (a' := ?_) #[false, false, true, true, true, false, true, true, true, false, false, false, false, false] rfl rfl (any_of HT_.out kR) (fun _ _ _ h => h) (Or.inl ⟨by rfl, ?_⟩) ?_ ?_
                           rotate_left
                           ·intro w'
                            go_simp
                            with_reducible rfl
                           rotate_left
                           ·simp only [Act.put, sI, sZ, sS, i64_w, i32_w]
                            rfl
                           refine pure_ (i := 9) (N := some 89) (v := ?_) (a' := ?_) #[false, false, true, true, true, false, true, true, true, true, false, false, false, false] rfl rfl (any_of HT_.out kR) (fun _ _ _ h => h) (Or.inl ⟨by rfl, ?_⟩) ?_ ?_
                           rotate_left
                           ·intro w'
                            go_simp
                            with_reducible rfl
                           rotate_left
                           ·simp only [Act.put, sI, sZ, sS, i64_w, i32_w]
                            rfl
                           refine pure_ (i := 10) (N := some 90) (v := ?_) (a' := ?_) #[false, false, true, true, true, false, true, true, true, true, true, false, false, false] rfl rfl (any_of HT_.out kR) (fun _ _ _ h => h) (Or.inl ⟨by rfl, ?_⟩) ?_ ?_
                           rotate_left
                           ·intro w'
                            go_simp
                            with_reducible rfl
                           rotate_left
                           ·simp only [Act.put, sI, sZ, sS, i64_w, i32_w]
                            rfl
                           refine pure_ (i := 11) (N := some 91) (v := ?_) (a' := ?_) #[false, false, true, true, true, false, true, true, true, true, true, true, false, false] rfl rfl (any_of HT_.out kR) (fun _ _ _ h => h) (Or.inl ⟨by rfl, ?_⟩) ?_ ?_
                           rotate_left
                           ·intro w'
                            go_simp
                            with_reducible rfl
                           rotate_left
                           ·simp only [Act.put, sI, sZ, sS, i64_w, i32_w]
                            rfl
                           refine take_ (i := 0) (N := some 80) (v := ?_) (a' := ?_) #[true, false, true, true, true, false, true, true, true, true, true, true, false, false] rfl rfl (take_ofW HT_.out HW_.out kR) (fun _ _ _ h => h) (Or.inl ⟨by rfl, ?_⟩) hHeld ?_ ?_
                           rotate_left
                           ·rintro w' ⟨s0, s1, s2, s3, s4, s5, s6, s7⟩
                            go_simp
                            with_reducible rfl
                           rotate_left
                           ·simp only [Act.put, sI, sZ, sS, i64_w, i32_w]
                            rfl
                           refine take_ (i := 1) (N := some 81) (v := ?_) (a' := ?_) #[true, true, true, true, true, false, true, true, true, true, true, true, false, false] rfl rfl (take_ofW HT_.out HW_.out kR) (fun _ _ _ h => h) (Or.inl ⟨by rfl, ?_⟩) hHeld ?_ ?_
                           rotate_left
                           ·rintro w' ⟨s0, s1, s2, s3, s4, s5, s6, s7⟩
                            go_simp
                            with_reducible rfl
                           rotate_left
                           ·simp only [Act.put, sI, sZ, sS, i64_w, i32_w]
                            rfl
                           refine take_ (i := 5) (N := some 85) (v := ?_) (a' := ?_) #[true, true, true, true, true, true, true, true, true, true, true, true, false, false] rfl rfl (take_ofW HT_.out HW_.out kR) (fun _ _ _ h => h) (Or.inl ⟨by rfl, ?_⟩) hHeld ?_ ?_
                           rotate_left
                           ·rintro w' ⟨s0, s1, s2, s3, s4, s5, s6, s7⟩
                            go_simp
                            with_reducible rfl
                           rotate_left
                           ·simp only [Act.put, sI, sZ, sS, i64_w, i32_w]
                            rfl
                           refine take_ (i := 12) (N := some 92) (v := ?_) (a' := ?_) #[true, true, true, true, true, true, true, true, true, true, true, true, true, false] rfl rfl (take_ofW HT_.out HW_.out kR) (fun _ _ _ h => h) (Or.inl ⟨by rfl, ?_⟩) hHeld ?_ ?_
                           rotate_left
                           ·rintro w' ⟨s0, s1, s2, s3, s4, s5, s6, s7⟩
                            go_simp
                            with_reducible rfl
                           rotate_left
                           ·simp only [Act.put, sI, sZ, sS, i64_w, i32_w]
                            rfl
                           refine one_ (i := 13) (N := some 93) #[true, true, true, true, true, true, true, true, true, true, true, true, true, true] rfl rfl (one_of HT_.out kR) (by decide) (fun K hK => ?_)
                           refine goes_ Try.func135 kR rfl #[.agg #[.int .i64 ((rd_impl_Peg l0 x42_2).f0), .int .i64 ((rd_impl_Peg l0 x42_2).f1)], .agg #[.int .i64 ((rd_impl_Peg l0 (ji34)).f0), .int .i64 ((rd_impl_Peg l0 (ji34)).f1)], .agg #[.int .i64 ((rd_impl_Peg l0 x11_3).f0), .int .i64 ((rd_impl_Peg l0 x11_3).f1)], .agg #[.int .i64 ((rd_impl_Peg l0 (ji64)).f0), .int .i64 ((rd_impl_Peg l0 (ji64)).f1)]] (by rfl) rfl rfl (by (try simp only [mA, mC, mN]); first | done | (simp only [hji34, hji64]; rfl) | rfl | (simp only [lD, lT]; rfl)) ?_
                           with_reducible refine (spec_pgMeet.calls kj57 ((rd_impl_Peg l0 x42_2).f0) ((rd_impl_Peg l0 x42_2).f1) ((rd_impl_Peg l0 (ji34)).f0) ((rd_impl_Peg l0 (ji34)).f1) ((rd_impl_Peg l0 x11_3).f0) ((rd_impl_Peg l0 x11_3).f1) ((rd_impl_Peg l0 (ji64)).f0) ((rd_impl_Peg l0 (ji64)).f1) false _ A67.out).mono ?_
                           rintro e w72 ⟨rfl, hb⟩
                           refine ⟨_, rfl, ?_⟩
                           have n0_ := aM (blk_below (g := gb138) (o := .cells #[.int .i64 ((rd_impl_Peg l0 x42_2).f0), .int .i64 ((rd_impl_Peg l0 x42_2).f1)] 34 (0, 0)) (gQ BK138) hb)
                           have n1_ := aM (blk_below (g := gb140) (o := .cells #[.int .i64 ((rd_impl_Peg l0 (ji34)).f0), .int .i64 ((rd_impl_Peg l0 (ji34)).f1)] 34 (0, 0)) (gQ BK140) hb)
                           have n2_ := aM (pT (by repeat (first | (with_reducible first | exact HB.out | apply pA | apply pN | apply pD | refine pS ?_ GE138.out | refine pS ?_ GE140.out) | exact HB.out)) hb)
                           clear BK138
                           clear BK140
                           clear HB
                           have BK138 := n0_
                           have BK140 := n1_
                           have HB := n2_
                           clear n0_ n1_ n2_
                           (try clear hb)
                           (try clear hb2)
                           (try clear hk)
                           (try clear hi)
                           refine hK.out _ _ ⟨(kC BK138.out 0).trans rfl, (kC BK138.out 1).trans rfl, (kC BK140.out 0).trans rfl, (kC BK140.out 1).trans rfl, ((HB.out.cell (wB w _ hw143_0)).trans hw143_0), ((HB.out.cell (wB w _ hw143_1)).trans hw143_1), ((HB.out.cell (wB w _ hw144_0)).trans hw144_0), ((HB.out.cell (wB w _ hw144_1)).trans hw144_1)⟩ (fun hHeld => ?_)
                           clear hK K
                           refine norm_ (a' := ?_) ?_ ?_
                           rotate_left
                           ·show Act.put _ (some 93) _ = _
                            simp only [Act.put, sI, sZ, sS, i64_w, i32_w]
                            rfl
                           refine done_ (done_of HT_.out kR) ?_
                           try go_wp2
                           go_roundg kj57
                           case measure => have := HK1.out; have := HK2.out; have := HK3.out; have := HJ57.out; omega
                           case rel => exact ⟨(wrap64 (x11_3 + 1)), eQ, H', ⟨by have := HK1.out; have := HK2.out; have := HK3.out; have := HJ57.out; omega⟩, ⟨by (with_reducible repeat (first | refine kN ?_ _ | refine kD ?_ | refine kA ?_ _)); exact BK138.out⟩, ⟨by (with_reducible repeat (first | refine kN ?_ _ | refine kD ?_ | refine kA ?_ _)); exact BK140.out⟩, ⟨by repeat (first | (with_reducible first | exact HB.out | apply pA | apply pN | apply pD | refine pS ?_ GE138.out | refine pS ?_ GE140.out) | exact HB.out)⟩⟩
                         ·rw [if_neg c66] at H
                          exact absurd H (by simp)
                        ·rw [if_neg c65] at H
                         exact absurd H (by simp)
                      ·rw [if_neg c62] at H
                       exact absurd H (by simp)
                     ·rw [if_neg c61] at H
                      exact absurd H (by simp)
                    ·replace c60 := Bool.eq_false_iff.mpr c60
                     subst c60
                     have H1 : (spec_pgGood.l2 kj57 l0 (l0.length : Int) l0 (l0.length : Int) (wrap64 (x42_2 + 1))) = some r := by rw [if_neg (show ¬ (false = true) by decide)] at H; exact H
                     clear H
                     have H := H1
                     clear H1
                     have H' := aM H
                     clear H
                     go_wp2
                     go_roundg kj57
                     case measure => have := HK1.out; have := HK2.out; have := HK3.out; have := HJ57.out; omega
                     case rel => exact ⟨(wrap64 (x42_2 + 1)), eQ, H', ⟨by have := HK1.out; have := HK2.out; have := HK3.out; have := HJ57.out; omega⟩, ⟨by repeat (first | (with_reducible first | exact HB.out | apply pA | apply pN | apply pD | refine pS ?_ GE138.out | refine pS ?_ GE140.out) | exact HB.out)⟩⟩
              ·rw [if_neg c39] at H
               exact absurd H (by simp)
             ·rw [if_neg c38] at H
              exact absurd H (by simp)
            ·rw [if_neg c36] at H
             exact absurd H (by simp)
           ·rw [if_neg c35] at H
            exact absurd H (by simp)
         ·rw [if_neg c32] at H
          exact absurd H (by simp)
        ·rw [if_neg c31] at H
         exact absurd H (by simp)
       ·rw [if_neg c30] at H
        have c30b0 : decide (x42_2 < (l0.length : Int)) = false := decide_eq_false c30
        clear c30
        obtain rfl := Option.some.inj H
        go_wp2
        go_ret
        exact ⟨by first | rfl | (simp [errW_none, errW_some] <;> rfl) | (simp [*, errW_none, errW_some] <;> rfl), bQ⟩
 ·replace c3 := Bool.eq_false_iff.mpr c3
  subst c3
  have H1 : (some false) = some r := by rw [if_neg (show ¬ (false = true) by decide)] at H; exact H
  clear H
  have H := H1
  clear H1
  obtain rfl := Option.some.inj H
  go_enter Try.func83, Try.ntmps83
  go_wp2_with (first | ((with_reducible refine gC (f := 107) rfl ?_); refine goesL_ (some 15) rfl rfl Try.func107 kR rfl #[.int .i64 (l0.length : Int), .int .i64 3, .int .i64 10] rfl sQ ?_; (with_reducible refine (spec_l1In.calls (l0.length : Int) 3 10 false _ A2.out).mono ?_); rintro e w' ⟨rfl, ⟨nd, rfl⟩⟩; refine ⟨_, rfl, ?_⟩))
  go_ret
  exact ⟨by first | rfl | (simp [errW_none, errW_some] <;> rfl) | (simp [*, errW_none, errW_some] <;> rfl), bQ⟩

end Go.Proofs.Ytiacfkilmknldaa.X
